/- FnProgOne: a part of the proof. -/
import Derived.Test.YtjfbfchnfdhbpaaGreatDoorX3
set_option linter.unusedVariables false
set_option linter.unusedSimpArgs false
namespace Go.Xl
open Nat renaming reduceEqDiff → rE, reduceAdd → rA, reduceLeDiff → rL
mutual
def St.num : St → Nat
 | .mk _ _ _ _ _ _ _ t l => 1 + St.numL t + St.numL l
def St.numL : List St → Nat
 | [] => 0
 | s :: l => s.num + St.numL l
end
theorem St.num_eq (s : St) : s.num = 1 + St.numL s.thn + St.numL s.els := by cases s; rw [St.num]; rfl
theorem St.numL_nil : St.numL [] = 0 := by rw [St.numL]
theorem St.numL_cons (s : St) (l : List St) : St.numL (s :: l) = s.num + St.numL l := by rw [St.numL]
theorem St.numL_append (a b : List St) : St.numL (a ++ b) = St.numL a + St.numL b := by
 induction a with
 | nil => simp [St.numL_nil]
 | cons s a ih => rw [List.cons_append, St.numL_cons, St.numL_cons, ih]; omega
theorem St.num_le : ∀ (n : Nat), (∀ s : St, s.cnt ≤ n → s.num ≤ s.cnt) ∧ ∀ l : List St, St.cntL l ≤ n → St.numL l ≤ St.cntL l := by
 intro n
 induction n with
 | zero =>
   refine ⟨fun s h => by rw [St.cnt_eq] at h; omega, fun l h => ?_⟩
   cases l with
   | nil => rw [St.numL_nil]; omega
   | cons s l => rw [St.cntL_cons, St.cnt_eq] at h; omega
 | succ n ih =>
   have stm : ∀ s : St, s.cnt ≤ n + 1 → s.num ≤ s.cnt := by
    intro s h
    rw [St.cnt_eq] at h ⊢
    rw [St.num_eq]
    have := ih.2 s.thn (by omega)
    have := ih.2 s.els (by omega)
    omega
   refine ⟨stm, fun l => ?_⟩
   induction l with
   | nil => intro h; rw [St.numL_nil]; omega
   | cons s l ihl =>
     intro h
     rw [St.cntL_cons] at h ⊢
     rw [St.numL_cons]
     have := stm s (by omega)
     have := ihl (by omega)
     omega
theorem St.len_num (l : List St) : l.length ≤ St.numL l := by
 induction l with
 | nil => simp
 | cons s l ih => rw [St.numL_cons, St.num_eq, List.length_cons]; omega
def Pa.okB (p : Pa) : Bool := yyf p.name && p.type.okB
def Fu.okB (f : Fu) : Bool := yyf f.name && (decide (f.params.length ≤ 4) && (f.type.okB && (xxc 4 f.body && (decide (St.numL f.body ≤ 40) && (f.params.all Pa.okB &&
 (if f.lent then f.gives.okB && f.says.noneB else f.gives.noneB && f.says.okD 4))))))
def formOk (p : Pg) : Bool := decide (p.length ≤ 5) && p.all Fu.okB
theorem cnt_mem {l : List St} {s : St} (h : s ∈ l) : s.cnt ≤ St.cntL l := by
 induction l with
 | nil => simp at h
 | cons x l ih =>
   rw [St.cntL_cons]
   rcases List.mem_cons.1 h with rfl | h
   ·omega
   ·have := ih h; omega
theorem st_get {l : List St} {k : Nat} (h : k < l.length) : (l.map St.enc)[k]? = some l[k].enc := by simp [h]
theorem st_len (s : St) : s.enc.length = 15 := by rw [St.enc_eq]; rfl
theorem st_take (s : St) : s.enc.take 15 = s.enc := by rw [St.enc_eq]; rfl
section
variable {P : Program} {F : Ids}
theorem c_l2Body (L : Lib P F) : ∀ (d : Nat), d ≤ 100 → ∀ (l : List St), St.cntL l ≤ 2 ^ 30 → Pure1 P F.s_l2Body [.sl 15 none (St.encs l), I d] (B (xxc d l)) := by
 intro d
 induction d with
 | zero =>
   intro _ l hl
   refine L.s_l2Body (by simp [x_s_l2Body]) ?_
   simp only [x_s_l2Body, go_sem, rE, Int.natCast_zero, Int.reduceLT]
   exact zzd (.refl _) (Heap.zzf _) ⟨by simp only [go_sem, xxc], rfl⟩
 | succ d ih =>
   intro hd l hl
   have ih := ih (by omega)
   refine L.s_l2Body (by simp [x_s_l2Body]) ?_
   have h1 : ¬ ((d + 1 : Nat) : Int) < 1 := by omega
   simp only [x_s_l2Body, go_sem, rE, h1, St.zzk, List.length_map]
   refine zzn (fun hgt => ?_) (fun hle => ?_)
   ·simp only [go_sem, rE]
    refine zzd (.refl _) (Heap.zzf _) ⟨?_, rfl⟩
    have : xxc (d + 1) l = false := by simp only [xxc, Bool.and_eq_false_iff, decide_eq_false_iff_not]; exact .inl (by omega)
    simp only [go_sem, this]
   ·simp only [go_sem, rE]
    refine yyc l.length (fun k E H => E 0 = .sl 15 none (l.map St.enc) ∧ E 1 = I (d + 1 : Nat) ∧ E 5 = I k ∧ (l.take k).all (stOkW (xxc d)) = true) ⟨rfl, rfl, rfl, by simp⟩ ?_
    rintro k E H hk ⟨e0, e1, e5, hall⟩
    simp only [go_sem, rE, e0, e5, List.length_map]
    refine zzn (fun hlt => ?_) (fun hge => ?_)
    ·have hk1 : k < l.length := by omega
     have w1 := yya (n := (k : Int) + 1) (by omega) (by omega)
     have hm := cnt_mem (List.getElem_mem hk1)
     rw [St.cnt_eq] at hm
     have ht := St.len_le l[k].thn
     have hel := St.len_le l[k].els
     simp only [go_sem, rE, e0, e1, e5, st_get hk1, st_len, st_take]
     refine zzc (c_l2StmtW L (d + 1) (by omega) hd (xxc d) l[k] (by omega) ?_) (rfl) ?_
     ·intro x hx
      rw [Nat.add_sub_cancel]
      rcases hx with rfl | rfl
      ·exact ih _ (by omega)
      ·exact ih _ (by omega)
     ·cases ho : stOkW (xxc d) l[k]
      ·simp only [go_sem, rE]
       refine zzd (.refl _) (Heap.zzf _) ⟨?_, rfl⟩
       have : l.all (stOkW (xxc d)) = false := by rw [List.all_eq_false]; exact ⟨_, List.getElem_mem hk1, by rw [ho]; exact Bool.false_ne_true⟩
       simp only [go_sem, xxc, this, Bool.and_false]
      ·simp only [go_sem, rE, e5, w1]
       refine ⟨hk1, H, Heap.zzm _, e0, e1, by simp, ?_⟩
       rw [List.take_succ_eq_append_getElem hk1, List.all_append, hall]
       simp [ho]
    ·have hkk : k = l.length := by omega
     subst hkk
     rw [List.take_length] at hall
     simp only [go_sem, rE]
     refine zzd (.refl _) (Heap.zzf _) ⟨?_, rfl⟩
     have : xxc (d + 1) l = true := by simp only [xxc, hall, Bool.and_true, decide_eq_true_eq]; omega
     simp only [go_sem, this]
theorem c_l2Stmt (L : Lib P F) (d : Nat) (hd : 1 ≤ d) (hd2 : d ≤ 100) (s : St) (hc : s.cnt ≤ 2 ^ 30) : Pure1 P F.s_l2Stmt [.agg s.enc, I d] (B (s.okB d)) := by
 rw [St.cnt_eq] at hc
 have ht := St.len_le s.thn
 have hel := St.len_le s.els
 refine c_l2StmtW L d hd hd2 (xxc (d - 1)) s (by omega) ?_
 rintro l (rfl | rfl)
 ·exact c_l2Body L _ (by omega) _ (by omega)
 ·exact c_l2Body L _ (by omega) _ (by omega)
theorem c_l2Count (L : Lib P F) : ∀ (n : Nat), n ≤ 2 ^ 30 → ∀ (l : List St), St.cntL l ≤ n → Pure1 P F.s_l2Count [.sl 15 none (St.encs l)] (I (St.numL l)) := by
 intro n
 induction n with
 | zero =>
   intro _ l hl
   have : l = [] := by
    cases l with
    | nil => rfl
    | cons s l => rw [St.cntL_cons, St.cnt_eq] at hl; omega
   subst this
   refine L.s_l2Count (by simp [x_s_l2Count]) ?_
   simp only [x_s_l2Count, go_sem, rE, St.zzk, List.length_map]
   refine yyc 0 (fun k E H => E 0 = .sl 15 none [] ∧ E 3 = I 0 ∧ E 4 = I 0) ⟨rfl, rfl, rfl⟩ ?_
   rintro k E H - ⟨e0, e3, e4⟩
   simp only [go_sem, rE, e0, e4]
   refine zzn (fun h => absurd h (by decide)) (fun _ => ?_)
   simp only [go_sem, rE, e3]
   exact zzd (.refl _) (Heap.zzf _) ⟨by simp only [go_sem, St.numL_nil]; rfl, rfl⟩
 | succ n ih =>
   intro hn l hl
   have ih := ih (by omega)
   have hlen := St.len_le l
   refine L.s_l2Count (by simp [x_s_l2Count]) ?_
   simp only [x_s_l2Count, go_sem, rE, St.zzk, List.length_map]
   have hnl := (St.num_le (n + 1)).2 l hl
   refine yyc l.length (fun k E H => E 0 = .sl 15 none (l.map St.enc) ∧ E 3 = I ((l.length - k + St.numL (l.take k) : Nat) : Int) ∧ E 4 = I k) ⟨rfl, by simp [go_sem, St.numL_nil], rfl⟩ ?_
   rintro k E H hk ⟨e0, e3, e4⟩
   simp only [go_sem, rE, e0, e4, List.length_map]
   refine zzn (fun hlt => ?_) (fun hge => ?_)
   ·have hk1 : k < l.length := by omega
    have w1 := yya (n := (k : Int) + 1) (by omega) (by omega)
    have hm := cnt_mem (List.getElem_mem hk1)
    rw [St.cnt_eq] at hm
    obtain ⟨cs, hcs, C⟩ := stC l[k]
    have hg : (l.map St.enc)[k]? = some cs := by rw [← hcs]; exact st_get hk1
    have hsplit : St.numL l = St.numL (l.take k) + (l[k].num + St.numL (l.drop (k + 1))) := by
     conv => lhs; rw [← List.take_append_drop k l]
     rw [St.numL_append, List.drop_eq_getElem_cons hk1, St.numL_cons]
    have htk : St.numL (l.take (k + 1)) = St.numL (l.take k) + l[k].num := by
     rw [List.take_succ_eq_append_getElem hk1, St.numL_append, St.numL_cons, St.numL_nil]; omega
    have hld := St.len_num (l.drop (k + 1))
    rw [List.length_drop] at hld
    rw [St.num_eq] at hsplit htk
    have w2 := yya (n := ((l.length - k + St.numL (l.take k) : Nat) : Int) + (St.numL l[k].thn : Nat)) (by omega) (by omega)
    have w3 := yya (n := ((l.length - k + St.numL (l.take k) : Nat) : Int) + (St.numL l[k].thn : Nat) + (St.numL l[k].els : Nat)) (by omega) (by omega)
    have c13 : (cs.drop 13)[0]? = some (.sl 15 none (St.encs l[k].thn)) := by rw [List.getElem?_drop]; exact C.thn
    have c14 : (cs.drop 14)[0]? = some (.sl 15 none (St.encs l[k].els)) := by rw [List.getElem?_drop]; exact C.els
    simp only [go_sem, rE, e0, e3, e4, hg, c13]
    refine zzc (ih l[k].thn (by omega)) (rfl) ?_
    simp only [go_sem, rE, e0, e3, e4, hg, c14, w2]
    refine zzc (ih l[k].els (by omega)) (rfl) ?_
    simp only [go_sem, rE, e0, e3, e4, w2, w3, w1]
    exact ⟨hk1, H, Heap.zzm _, congrArg (fun z : Int => I z) (by rw [htk]; omega), rfl⟩
   ·have hkk : k = l.length := by omega
    subst hkk
    rw [List.take_length] at e3
    simp only [go_sem, rE, e3]
    exact zzd (.refl _) (Heap.zzf _) ⟨by simp only [go_sem]; exact congrArg (fun z : Int => I z) (by omega), rfl⟩
end
end Go.Xl
namespace Go.Xl
open Nat renaming reduceEqDiff → rE, reduceAdd → rA, reduceLeDiff → rL
section
variable {P : Program} {F : Ids}
theorem c_l2Fn (L : Lib P F) (f : Fu) (hc : St.cntL f.body ≤ 2 ^ 30) : Pure1 P F.s_l2Fn [.agg f.enc] (B f.okB) := by
 refine L.s_l2Fn (by simp [x_s_l2Fn]) ?_
 obtain ⟨cs, hcs, C⟩ := fuC f
 rw [hcs]
 simp only [x_s_l2Fn, go_sem, rE, C.name]
 intro b hb
 have g1 : (Heap.empty.set b (.cells cs)).get b = some (.cells cs) := Heap.zzb _ _ _
 generalize Heap.empty.set b (.cells cs) = H1 at *
 have back : ∀ (E : Env) (H : Heap) (c : Bool), E 2 = B c → c = f.okB → XFunc.post [.slot 2] (fun q H' => q = B f.okB ∧ H' = Heap.empty) .ret E H := by
  rintro E H c e4 rfl
  exact zzd (.refl _) (Heap.zzf _) ⟨e4, rfl⟩
 have cp1 : cs[1]? = some (.sl 3 none (f.params.map Pa.enc)) := C.params
 have hnum := (St.num_le _).2 f.body (Nat.le_refl _)
 refine zzc (c_l2Name L f.name) (rfl) ?_
 cases hn : yyf f.name
 ·simp only [go_sem, rE, rA]
  exact back _ _ false (rfl) (by simp only [Fu.okB, hn, Bool.false_and])
 ·by_cases h4 : (f.params.length : Int) > 4
  ·simp only [go_sem, rE, rA, g1, cp1, List.length_map, h4]
   refine back _ _ false (rfl) ?_
   have : decide (f.params.length ≤ 4) = false := by simp; omega
   simp only [Fu.okB, this, Bool.false_and, Bool.and_false]
  ·have h4' : decide (f.params.length ≤ 4) = true := by simp; omega
   simp only [go_sem, rE, rA, g1, cp1, List.length_map, h4, C.len, C.type, rL]
   refine zzc (c_TypeOk L f.type) (rfl) ?_
   cases ht : f.type.okB
   ·simp only [go_sem, rE, rA]
    exact back _ _ false (rfl) (by simp only [Fu.okB, ht, Bool.false_and, Bool.and_false])
   ·simp only [go_sem, rE, rA, g1, C.body]
    refine zzc (c_l2Body L 4 (by omega) f.body hc) (rfl) ?_
    cases hbd : xxc 4 f.body
    ·simp only [go_sem, rE, rA]
     exact back _ _ false (rfl) (by simp only [Fu.okB, hbd, Bool.false_and, Bool.and_false])
    ·simp only [go_sem, rE, rA, g1, C.body]
     refine zzc (c_l2Count L _ hc f.body (Nat.le_refl _)) (rfl) ?_
     by_cases h40 : (St.numL f.body : Int) > 40
     ·simp only [go_sem, rE, rA, h40]
      refine back _ _ false (rfl) ?_
      have : decide (St.numL f.body ≤ 40) = false := by simp; omega
      simp only [Fu.okB, this, Bool.false_and, Bool.and_false]
     ·have h40' : decide (St.numL f.body ≤ 40) = true := by simp; omega
      have hpre : f.okB = (f.params.all Pa.okB && (if f.lent then f.gives.okB && f.says.noneB else f.gives.noneB && f.says.okD 4)) := by simp only [Fu.okB, hn, h4', ht, hbd, h40', Bool.true_and]
      simp only [go_sem, rE, rA, h40]
      refine yyc f.params.length (fun k E H => E 1 = .ptr b 0 ∧ E 3 = I k ∧ H.get b = some (.cells cs) ∧ (f.params.take k).all Pa.okB = true) ⟨rfl, rfl, g1, by simp⟩ ?_
      rintro k E H hk ⟨e1, e3, g1, hall⟩
      simp only [wp_seq, go_sem, rE, rA, e1, e3, g1, cp1, List.length_map]
      refine zzn (fun hlt => ?_) (fun hge => ?_)
      ·have hk1 : k < f.params.length := by omega
       have w1 := yya (n := (k : Int) + 1) (by omega) (by omega)
       obtain ⟨cp, hcp, CP⟩ := paC f.params[k]
       have hgp : (f.params.map Pa.enc)[k]? = some cp := by rw [← hcp]; simp [hk1]
       have no : f.params[k].okB = false → f.okB = false := by
        intro h
        have : f.params.all Pa.okB = false := by rw [List.all_eq_false]; exact ⟨_, List.getElem_mem hk1, by rw [h]; exact Bool.false_ne_true⟩
        rw [hpre, this, Bool.false_and]
       have yes : f.params[k].okB = true → (f.params.take (k + 1)).all Pa.okB = true := by
        intro h
        rw [List.take_succ_eq_append_getElem hk1, List.all_append, hall]; simp [h]
       have goE : f.params[k].okB = (yyf f.params[k].name && f.params[k].type.okB) := rfl
       generalize f.params[k] = p at *
       simp only [go_sem, rE, rA, e1, e3, g1, cp1, hgp, CP.name]
       refine zzc (c_l2Name L p.name) (rfl) ?_
       cases hpn : yyf p.name
       ·simp only [go_sem, rE, rA]
        exact back _ _ false (rfl) (by rw [no (by rw [goE, hpn]; rfl)])
       ·simp only [go_sem, rE, rA, e1, e3, g1, cp1, hgp, CP.len, CP.type, List.length_drop, Nat.reduceSub, rL]
        refine zzc (c_TypeOk L p.type) (rfl) ?_
        cases hpt : p.type.okB
        ·simp only [go_sem, rE, rA]
         exact back _ _ false (rfl) (by rw [no (by rw [goE, hpn, hpt]; rfl)])
        ·simp only [go_sem, rE, rA, e3, w1]
         exact ⟨hk1, H, Heap.zzm _, e1, by simp, g1, yes (by rw [goE, hpn, hpt]; rfl)⟩
      ·have hkk : k = f.params.length := by omega
       subst hkk
       rw [List.take_length] at hall
       rw [hall, Bool.true_and] at hpre
       have cl := C.lent
       cases hl : f.lent
       ·rw [hl] at cl hpre
        simp only [go_sem, rE, rA, e1, g1, cl, C.len, C.gives, rL]
        refine zzc (c_l2None L f.gives) (by simp only [go_sem, rE, Pl.enc]) ?_
        cases hg : f.gives.noneB
        ·simp only [go_sem, rE, rA]
         exact back _ _ false (rfl) (by rw [hpre, hg]; rfl)
        ·simp only [go_sem, rE, rA, e1, g1, C.len, C.says, rL]
         refine zzc (c_l2Expr L 4 (by omega) f.says) (rfl) ?_
         simp only [go_sem, rE, rA]
         exact back _ _ (f.says.okD 4) (rfl) (by rw [hpre, hg]; rfl)
       ·rw [hl] at cl hpre
        simp only [go_sem, rE, rA, e1, g1, cl, C.len, C.gives, rL]
        refine zzc (c_l2Place L f.gives) (by simp only [go_sem, rE, Pl.enc]) ?_
        cases hg : f.gives.okB
        ·simp only [go_sem, rE, rA]
         exact back _ _ false (rfl) (by rw [hpre, hg]; rfl)
        ·simp only [go_sem, rE, rA, e1, g1, C.len, C.says, rL]
         refine zzc (c_l2NoExpr L f.says) (rfl) ?_
         simp only [go_sem, rE, rA]
         exact back _ _ f.says.noneB (rfl) (by rw [hpre, hg]; rfl)
theorem fu_len (f : Fu) : f.enc.length = 12 := by rw [Fu.enc_eq]; rfl
theorem fu_take (f : Fu) : f.enc.take 12 = f.enc := by rw [Fu.enc_eq]; rfl
theorem c_l2Form (L : Lib P F) (p : Pg) (hc : ∀ f ∈ p, St.cntL f.body ≤ 2 ^ 30) : Pure1 P F.s_l2Form [.agg (Pg.enc p)] (B (formOk p)) := by
 refine L.s_l2Form (by simp [x_s_l2Form]) ?_
 simp only [x_s_l2Form, go_sem, rE, Pg.enc, List.length_map]
 intro b hb
 have g1 : (Heap.empty.set b (.cells [.sl 12 none (p.map Fu.enc)])).get b = some (.cells [.sl 12 none (p.map Fu.enc)]) := Heap.zzb _ _ _
 refine zzn (fun hgt => ?_) (fun hle => ?_)
 ·simp only [go_sem, rE]
  refine zzd (.refl _) (Heap.zzf _) ⟨?_, rfl⟩
  have : formOk p = false := by simp only [formOk, Bool.and_eq_false_iff, decide_eq_false_iff_not]; exact .inl (by omega)
  simp only [go_sem, this]
 ·simp only [go_sem, rE]
  refine yyc p.length (fun k E H => E 1 = .ptr b 0 ∧ E 3 = I k ∧ H.get b = some (.cells [.sl 12 none (p.map Fu.enc)]) ∧ (p.take k).all Fu.okB = true) ⟨rfl, rfl, g1, by simp⟩ ?_
  rintro k E H hk ⟨e1, e3, g1, hall⟩
  simp only [go_sem, rE, rA, e1, e3, g1, List.length_map]
  refine zzn (fun hlt => ?_) (fun hge => ?_)
  ·have hk1 : k < p.length := by omega
   have w1 := yya (n := (k : Int) + 1) (by omega) (by omega)
   simp only [go_sem, rE, rA, e1, e3, g1, fu_get hk1, fu_len, fu_take]
   refine zzc (c_l2Fn L p[k] (hc _ (List.getElem_mem hk1))) (rfl) ?_
   cases ho : p[k].okB
   ·simp only [go_sem, rE]
    refine zzd (.refl _) (Heap.zzf _) ⟨?_, rfl⟩
    have : p.all Fu.okB = false := by rw [List.all_eq_false]; exact ⟨_, List.getElem_mem hk1, by rw [ho]; exact Bool.false_ne_true⟩
    simp only [go_sem, formOk, this, Bool.and_false]
   ·simp only [go_sem, rE, e3, w1]
    refine ⟨hk1, H, Heap.zzm _, e1, by simp, g1, ?_⟩
    rw [List.take_succ_eq_append_getElem hk1, List.all_append, hall]
    simp [ho]
  ·have hkk : k = p.length := by omega
   subst hkk
   rw [List.take_length] at hall
   simp only [go_sem, rE]
   refine zzd (.refl _) (Heap.zzf _) ⟨?_, rfl⟩
   have : formOk p = true := by simp only [formOk, hall, Bool.and_true, decide_eq_true_eq]; omega
   simp only [go_sem, this]
end
end Go.Xl
namespace Go.Xl
open Nat renaming reduceEqDiff → rE, reduceAdd → rA, reduceLeDiff → rL
section
variable {P : Program} {F : Ids}
theorem c_nameForm (L : Lib P F) (s : ByteArray) : Pure1 P F.i_nameForm [S s] (B (yyf s)) := by
 refine L.i_nameForm (by simp [x_i_nameForm]) ?_
 have hsz : s.data.toList.length = s.size := rfl
 by_cases h1 : s.size < 1
 ·have h1' : (s.size : Int) < 1 := by omega
  simp only [x_i_nameForm, go_sem, rE, h1', decide_true]
  exact zzd (.refl _) (Heap.zzf _) ⟨by simp only [go_sem, yyf]; simp; omega, rfl⟩
 ·have h1' : ¬ (s.size : Int) < 1 := by omega
  by_cases h6 : s.size > 6
  ·have h6' : (s.size : Int) > 6 := by omega
   simp only [x_i_nameForm, go_sem, rE, h1', h6', decide_true, decide_false]
   refine zzd (.refl _) (Heap.zzf _) ⟨?_, rfl⟩
   have : yyf s = false := by
    simp only [yyf, Bool.and_eq_false_iff, decide_eq_false_iff_not]; exact .inr (.inl (by omega))
   simp only [go_sem, this]
  ·have h6' : ¬ (s.size : Int) > 6 := by omega
   simp only [x_i_nameForm, go_sem, rE, h1', h6', decide_false]
   refine yyc s.size (fun k E H => E 0 = S s ∧ E 13 = I s.size ∧ E 14 = I k ∧ (s.data.toList.take k).all letter = true) ⟨rfl, rfl, rfl, by simp⟩ ?_
   rintro k E H hk ⟨e0, e13, e14, hall⟩
   simp only [wp_seq, go_sem, rE, e0, e13, e14]
   refine zzn (fun hlt => ?_) (fun hge => ?_)
   ·have hk1 : k < s.size := by omega
    have w1 := yya (n := (k : Int) + 1) (by omega) (by omega)
    have hb := byte_get hk1
    have htk : s.data.toList.take (k + 1) = s.data.toList.take k ++ [s.data.toList[k]] := List.take_succ_eq_append_getElem hk1
    have no : letter s.data.toList[k] = false → yyf s = false := by
     intro h
     have : s.data.toList.all letter = false := by rw [List.all_eq_false]; exact ⟨_, List.getElem_mem hk1, by rw [h]; exact Bool.false_ne_true⟩
     simp only [yyf, this, Bool.and_false]
    generalize s.data.toList[k] = c at *
    simp only [go_sem, rE, e0, e14, hb]
    by_cases ha : (c.toNat : Int) < 97
    ·simp only [go_sem, rE, ha, decide_true]
     exact zzd (.refl _) (Heap.zzf _) ⟨by simp only [go_sem]; rw [no (by simp [letter]; omega)], rfl⟩
    ·simp only [go_sem, rE, ha, e0, e14, hb, decide_false]
     by_cases hz : (c.toNat : Int) > 122
     ·simp only [go_sem, rE, hz, decide_true]
      exact zzd (.refl _) (Heap.zzf _) ⟨by simp only [go_sem]; rw [no (by simp [letter]; omega)], rfl⟩
     ·simp only [go_sem, rE, hz, e14, w1, decide_false]
      refine ⟨hk1, H, Heap.zzm _, e0, e13, by simp, ?_⟩
      rw [htk, List.all_append, hall]
      simp [letter]; omega
   ·have hkk : k = s.size := by omega
    subst hkk
    simp only [go_sem, rE]
    rw [← hsz, List.take_length] at hall
    refine zzd (.refl _) (Heap.zzf _) ⟨?_, rfl⟩
    have : yyf s = true := by simp only [yyf, hall, Bool.and_true, Bool.and_eq_true, decide_eq_true_eq]; omega
    simp only [go_sem, this]
theorem c_pathForm (L : Lib P F) (p : List Int) : Pure1 P F.i_pathForm [zze p] (B (pathOk p)) := by
 refine L.i_pathForm (by simp [x_i_pathForm]) ?_
 simp only [x_i_pathForm, go_sem, rE, zze, List.length_map]
 by_cases h4 : (p.length : Int) > 4
 ·simp only [go_sem, rE, h4, decide_true]
  refine zzd (.refl _) (Heap.zzf _) ⟨?_, rfl⟩
  have : pathOk p = false := by simp only [pathOk, Bool.and_eq_false_iff, decide_eq_false_iff_not]; exact .inl (by omega)
  simp only [go_sem, this]
 ·simp only [go_sem, rE, h4, decide_false]
  refine yyc p.length (fun k E H => E 8 = .sl 1 none (p.map fun i => [I i]) ∧ E 9 = I p.length ∧ E 10 = I k ∧ ((p.take k).all fun i => decide (0 ≤ i ∧ i ≤ 1)) = true) ⟨by simp [go_sem], by simp [go_sem], by simp [go_sem], by simp⟩ ?_
  rintro k E H hk ⟨e8, e9, e10, hall⟩
  simp only [wp_seq, go_sem, rE, e9, e10]
  refine zzn (fun hlt => ?_) (fun hge => ?_)
  ·have hk1 : k < p.length := by omega
   have w1 := yya (n := (k : Int) + 1) (by omega) (by omega)
   have no : ¬ (0 ≤ p[k] ∧ p[k] ≤ 1) → pathOk p = false := by
    intro hi
    have : (p.all fun i => decide (0 ≤ i ∧ i ≤ 1)) = false := by rw [List.all_eq_false]; exact ⟨_, List.getElem_mem hk1, by simpa using hi⟩
    simp only [pathOk, this, Bool.and_false]
   have htk : p.take (k + 1) = p.take k ++ [p[k]] := List.take_succ_eq_append_getElem hk1
   simp only [go_sem, rE, e8, e10, path_get hk1]
   by_cases ha : p[k] < 0
   ·simp only [go_sem, rE, ha, decide_true]
    exact zzd (.refl _) (Heap.zzf _) ⟨by simp only [go_sem]; rw [no (by omega)], rfl⟩
   ·simp only [go_sem, rE, ha, decide_false]
    by_cases hz : p[k] > 1
    ·simp only [go_sem, rE, hz, decide_true]
     exact zzd (.refl _) (Heap.zzf _) ⟨by simp only [go_sem]; rw [no (by omega)], rfl⟩
    ·simp only [go_sem, rE, hz, e10, w1, decide_false]
     refine ⟨hk1, H, Heap.zzm _, e8, e9, by simp, ?_⟩
     rw [htk, List.all_append, hall]
     simp; omega
  ·have hkk : k = p.length := by omega
   subst hkk
   rw [List.take_length] at hall
   simp only [go_sem, rE]
   refine zzd (.refl _) (Heap.zzf _) ⟨?_, rfl⟩
   have : pathOk p = true := by simp only [pathOk, hall, Bool.and_true, decide_eq_true_eq]; omega
   simp only [go_sem, this]
theorem c_placeForm (L : Lib P F) (p : Pl) : Pure1 P F.i_placeForm [.agg p.enc] (B p.okB) := by
 refine L.i_placeForm (by simp [x_i_placeForm]) ?_
 simp only [x_i_placeForm, go_sem, rE, Pl.enc]
 intro b hb
 refine zzc (c_nameForm L p.name) (rfl) ?_
 cases hn : yyf p.name
 ·simp only [go_sem, rE]
  exact zzd (.refl _) (Heap.zzf _) ⟨by simp only [go_sem, Pl.okB, hn, Bool.false_and], rfl⟩
 ·simp only [go_sem, rE]
  refine zzc (c_pathForm L p.path) (rfl) ?_
  simp only [go_sem, rE]
  exact zzd (.refl _) (Heap.zzf _) ⟨by simp only [go_sem, Pl.okB, hn, Bool.true_and], rfl⟩
theorem c_placeNothing (L : Lib P F) (p : Pl) : Pure1 P F.i_placeNothing [.agg p.enc] (B p.noneB) := by
 refine L.i_placeNothing (by simp [x_i_placeNothing]) ?_
 simp only [x_i_placeNothing, go_sem, rE, Pl.enc, zze]
 intro b hb
 by_cases h : p.name = bl []
 ·simp only [go_sem, rE, h, List.length_map]
  refine zzd (.refl _) (Heap.zzf _) ⟨?_, rfl⟩
  simp only [go_sem, rE, Pl.noneB, h]
  congr 2
  rw [Bool.eq_iff_iff]; simp
 ·simp only [go_sem, rE, h]
  exact zzd (.refl _) (Heap.zzf _) ⟨by simp only [go_sem, Pl.noneB, h, Bool.false_and], rfl⟩
theorem c_exprNothing (L : Lib P F) (e : Ex) : Pure1 P F.i_exprNothing [.agg e.enc] (B e.noneB) := by
 refine L.i_exprNothing (by simp [x_i_exprNothing]) ?_
 rw [Ex.enc_eq]
 simp only [x_i_exprNothing, go_sem, rE]
 intro b hb
 by_cases h1 : e.kind = 0
 ·by_cases h2 : e.num = 0
  ·simp only [go_sem, rE, h1, h2, beq_self_eq_true, rL, rA]
   refine zzc (c_placeNothing L e.place) (by simp only [go_sem, rE, Pl.enc]) ?_
   cases h3 : e.place.noneB
   ·simp only [go_sem, rE]
    exact zzd (.refl _) (Heap.zzf _) ⟨by simp only [go_sem, Ex.noneB, h3, Bool.false_and, Bool.and_false], rfl⟩
   ·simp only [go_sem, rE, Ex.zzk, List.length_map]
    refine zzd (.refl _) (Heap.zzf _) ⟨?_, rfl⟩
    simp only [go_sem, rE, Ex.noneB, h1, h2, h3, Bool.true_and]
    congr 2
    rw [Bool.eq_iff_iff]; simp
  ·have h2' : (e.num == 0) = false := by simpa using h2
   simp only [go_sem, rE, h1, h2', beq_self_eq_true]
   exact zzd (.refl _) (Heap.zzf _) ⟨by simp only [go_sem, Ex.noneB, h2, Bool.false_and, Bool.and_false], rfl⟩
 ·have h1' : (e.kind == 0) = false := by simpa using h1
  simp only [go_sem, rE, h1']
  exact zzd (.refl _) (Heap.zzf _) ⟨by simp only [go_sem, Ex.noneB, h1, Bool.false_and], rfl⟩
theorem c_typeIsNum (L : Lib P F) (t : Ty) : Pure1 P F.i_typeIsNum [.agg t.enc] (B (decide (t.kids.length = 0))) := by
 refine L.i_typeIsNum (by simp [x_i_typeIsNum]) ?_
 rw [Ty.enc_eq]
 simp only [x_i_typeIsNum, go_sem, rE, Ty.zzk, List.length_map]
 intro b hb
 refine zzd (.refl _) (Heap.zzf _) ⟨?_, rfl⟩
 simp only [go_sem, rE]
 congr 2
 rw [Bool.eq_iff_iff]; simp
theorem Ty.deepB_two {n : Nat} {a b : Ty} : (Ty.mk [a, b]).deepB (n + 1) = (a.deepB n && b.deepB n) := by
 simp [Ty.deepB]
theorem c_typeFits (L : Lib P F) : ∀ (n : Nat) (t : Ty), n ≤ 100 → Pure1 P F.i_typeFits [.agg t.enc, I n] (B (t.deepB n)) := by
 intro n
 induction n with
 | zero =>
   rintro ⟨ks⟩ -
   refine L.i_typeFits (by simp [x_i_typeFits]) ?_
   simp only [x_i_typeFits, go_sem, rE, Ty.enc]
   intro b1 hb1
   simp only [go_sem, rE, Int.natCast_zero, show (0 : Int) < 1 from by decide]
   exact zzd (.refl _) (Heap.zzf _) ⟨by simp only [go_sem, Ty.deepB], rfl⟩
 | succ n ih =>
   rintro ⟨ks⟩ hn
   refine L.i_typeFits (by simp [x_i_typeFits]) ?_
   simp only [x_i_typeFits, go_sem, rE, Ty.enc]
   intro b1 hb1
   have h1 : ¬ ((n + 1 : Nat) : Int) < 1 := by omega
   have w1 := yya (n := ((n + 1 : Nat) : Int) - 1) (by omega) (by omega)
   have hd : ((n + 1 : Nat) : Int) - 1 = n := by omega
   rw [hd] at w1
   simp only [go_sem, rE, h1, Ty.zzk, List.length_map]
   by_cases hl0 : ks.length = 0
   ·have hks : ks = [] := List.eq_nil_of_length_eq_zero hl0
    subst hks
    simp only [go_sem, rE, Int.natCast_zero, beq_self_eq_true]
    exact zzd (.refl _) (Heap.zzf _) ⟨by simp [put_same, Ty.deepB], rfl⟩
   ·have hb0 : ((ks.length : Int) == 0) = false := by simpa using hl0
    by_cases hl2 : ks.length = 2
    ·obtain ⟨a, c, rfl⟩ : ∃ a c, ks = [a, c] := by
      match ks, hl2 with
      | [a, c], _ => exact ⟨a, c, rfl⟩
     have hb2 : (((2 : Nat) : Int) == 2) = true := by decide
     have hb0' : (((2 : Nat) : Int) == 0) = false := by decide
     simp only [go_sem, rE, rA, hb0', hb2, hd, w1, List.map_cons, List.map_nil, Ty.enc_eq a, Ty.enc_eq c, rL, Int.reduceLE, Int.reduceToNat, Int.le_refl]
     have hb1g : (Heap.empty.set b1 (.cells [.sl 1 none [[.sl 1 none (Ty.encs a.kids)], [.sl 1 none (Ty.encs c.kids)]]])).get b1 = some (.cells [.sl 1 none [[.sl 1 none (Ty.encs a.kids)], [.sl 1 none (Ty.encs c.kids)]]]) := Heap.zzb _ _ _
     refine zzc (ih a (by omega)) (by simp only [go_sem, rE, Ty.enc_eq a]) ?_
     cases ha : a.deepB n
     ·simp only [go_sem, rE]
      exact zzd (.refl _) (Heap.zzf _) ⟨by simp only [go_sem, Ty.deepB_two, ha, Bool.false_and], rfl⟩
     ·simp only [go_sem, rE, rA, hb1g, hd, w1, rL, Int.reduceLE, Int.reduceToNat, Int.le_refl]
      refine zzc (ih c (by omega)) (by simp only [go_sem, rE, Ty.enc_eq c]) ?_
      simp only [go_sem, rE]
      exact zzd (.refl _) (Heap.zzf _) ⟨by simp only [go_sem, Ty.deepB_two, ha, Bool.true_and], rfl⟩
    ·have hb2 : ((ks.length : Int) == 2) = false := by rw [beq_eq_false_iff_ne]; omega
     simp only [go_sem, rE, hb0, hb2, List.length_map]
     refine zzd (.refl _) (Heap.zzf _) ⟨?_, rfl⟩
     simp [go_sem, Ty.deepB, hl0, hl2]
theorem c_iTypeOk (L : Lib P F) (t : Ty) : Pure1 P F.i_TypeOk [.agg t.enc] (B t.okB) := by
 refine L.i_TypeOk (by simp [x_i_TypeOk]) ?_
 have h := c_typeFits L 4 t (by omega)
 rw [Ty.enc_eq] at h ⊢
 simp only [x_i_TypeOk, go_sem, rE]
 intro b hb
 refine zzc h (rfl) ?_
 simp only [go_sem, rE]
 exact zzd (.refl _) (Heap.zzf _) ⟨rfl, rfl⟩
end
end Go.Xl
namespace Go.Xl
open Nat renaming reduceEqDiff → rE, reduceAdd → rA, reduceLeDiff → rL
structure Tys (F : Ids) : Prop where
 e1 : ¬ F.T_i_exprRead = F.T_i_exprNum
 e2 : ¬ F.T_i_exprTwo = F.T_i_exprNum
 e3 : ¬ F.T_i_exprTwo = F.T_i_exprRead
 s12 : ¬ F.T_i_stmtLend = F.T_i_stmtLet
 s13 : ¬ F.T_i_stmtSet = F.T_i_stmtLet
 s14 : ¬ F.T_i_stmtCall = F.T_i_stmtLet
 s15 : ¬ F.T_i_stmtIf = F.T_i_stmtLet
 s16 : ¬ F.T_i_stmtPick = F.T_i_stmtLet
 s23 : ¬ F.T_i_stmtSet = F.T_i_stmtLend
 s24 : ¬ F.T_i_stmtCall = F.T_i_stmtLend
 s25 : ¬ F.T_i_stmtIf = F.T_i_stmtLend
 s26 : ¬ F.T_i_stmtPick = F.T_i_stmtLend
 s34 : ¬ F.T_i_stmtCall = F.T_i_stmtSet
 s35 : ¬ F.T_i_stmtIf = F.T_i_stmtSet
 s36 : ¬ F.T_i_stmtPick = F.T_i_stmtSet
 s45 : ¬ F.T_i_stmtIf = F.T_i_stmtCall
 s46 : ¬ F.T_i_stmtPick = F.T_i_stmtCall
 s56 : ¬ F.T_i_stmtPick = F.T_i_stmtIf
abbrev NILI : AC := .lit .nilIface
def shE (F : Ids) (e : Ex) : AC :=
 if e.kind = 1 then (if e.place.noneB && decide (e.kids.length = 0) then .iface F.T_i_exprNum (.agg [I e.num]) else NILI)
 else if e.kind = 2 then (if decide (e.num = 0) && decide (e.kids.length = 0) then .iface F.T_i_exprRead (.agg e.place.enc) else NILI)
 else if 3 ≤ e.kind ∧ e.kind ≤ 6 then (match e.kids with
  | [a, b] => if decide (e.num = 0) && e.place.noneB then .iface F.T_i_exprTwo (.agg (I e.kind :: (a.enc ++ b.enc))) else NILI
  | _ => NILI)
 else NILI
section
variable {P : Program} {F : Ids}
theorem c_exprOf (L : Lib P F) (e : Ex) : Pure1 P F.i_exprOf [.agg e.enc] (shE F e) := by
 refine L.i_exprOf (by simp [x_i_exprOf]) ?_
 rw [Ex.enc_eq]
 simp only [x_i_exprOf, go_sem, rE]
 intro b1 hb1
 simp only [go_sem, rE, rA, rL]
 intro b3 hb3
 have d13 : b1 ≠ b3 := zzj (Heap.zzb _ _ _) hb3
 simp only [go_sem, rE, rA, d13, Ne.symm d13, rL]
 have fin : ∀ (E' : Env) (H' : Heap) (q : AC), E' 2 = q → q = shE F e → XFunc.post [.slot 2] (fun q H' => q = shE F e ∧ H' = .empty) .ret E' H' := fun E' H' q h1 h2 => zzd (by rw [h1, h2]; exact .refl _) (Heap.zzf _) ⟨rfl, rfl⟩
 by_cases k1 : e.kind = 1
 ·have k1' : (e.kind == 1) = true := by simpa using k1
  simp only [k1', go_sem, rE, rA, d13, Ne.symm d13, rL]
  refine zzc (c_exprNothing L (.mk 0 0 e.place e.kids)) (by simp only [go_sem, rE, Ex.enc, zze]) ?_
  have hn : (Ex.mk 0 0 e.place e.kids).noneB = (e.place.noneB && decide (e.kids.length = 0)) := by simp [Ex.noneB, Ex.kind, Ex.num, Ex.place, Ex.kids]
  rw [hn]
  cases hc : e.place.noneB && decide (e.kids.length = 0)
  ·simp only [go_sem, rE]
   exact fin _ _ NILI (rfl) (by rw [shE, if_pos k1, hc]; rfl)
  ·simp only [go_sem, rE]
   exact fin _ _ (.iface F.T_i_exprNum (.agg [I e.num])) (rfl) (by rw [shE, if_pos k1, hc]; rfl)
 have k1' : (e.kind == 1) = false := by simpa using k1
 by_cases k2 : e.kind = 2
 ·have k2' : (e.kind == 2) = true := by simpa using k2
  simp only [k1', k2', go_sem, rE, rA, d13, Ne.symm d13, rL]
  refine run_callP (as' := [.agg [I 0, I e.num, S (bl []), NIL, .sl 5 none (Ex.encs e.kids)]]) (c_exprNothing L (.mk 0 e.num ⟨bl [], []⟩ e.kids)) (rfl) ⟨.agg ?_, trivial⟩ ?_
  ·rw [Ex.enc]; exact ⟨⟨.refl _, rfl⟩, ⟨.refl _, rfl⟩, ⟨.refl _, rfl⟩, ⟨.nil 1, rfl⟩, ⟨.refl _, rfl⟩, trivial⟩
  have hn : (Ex.mk 0 e.num ⟨bl [], []⟩ e.kids).noneB = (decide (e.num = 0) && decide (e.kids.length = 0)) := by
   show (decide ((0 : Int) = 0) && (decide (e.num = 0) && ((decide (bl [] = bl []) && decide (([] : List Int).length = 0)) && decide (e.kids.length = 0)))) = _
   simp
  rw [hn]
  cases hc : decide (e.num = 0) && decide (e.kids.length = 0)
  ·simp only [go_sem, rE]
   exact fin _ _ NILI (rfl) (by rw [shE, if_neg k1, if_pos k2, hc]; rfl)
  ·simp only [go_sem, rE]
   exact fin _ _ (.iface F.T_i_exprRead (.agg e.place.enc)) (by simp only [go_sem, rE, Pl.enc]) (by rw [shE, if_neg k1, if_pos k2, hc]; rfl)
 have k2' : (e.kind == 2) = false := by simpa using k2
 by_cases k36 : 3 ≤ e.kind ∧ e.kind ≤ 6
 ·
  have two : ∀ (E : Env) (A : Env → Heap → Prop) (H : Heap), E 1 = .ptr b1 0 → E 3 = .ptr b3 0 → H.get b1 = some (.cells [I e.kind, I e.num, S e.place.name, zze e.place.path, .sl 5 none (Ex.encs e.kids)]) → H.get b3 = some (.cells [I 0, I e.num, S e.place.name, zze e.place.path, .sl 5 none (Ex.encs e.kids)]) →
   (∀ E' H', E' 3 = .ptr b3 0 → H'.get b3 = some (.cells [I 0, I e.num, S e.place.name, zze e.place.path, NIL]) → (∃ a b, e.kids = [a, b] ∧ E' 4 = .iface F.T_i_exprTwo (.agg (I e.kind :: (a.enc ++ b.enc)))) → A E' H') →
   XCode.wp P (.seq (.seq (rg [fa 0 29 4 1, ld 1 30 none 29, pu 2 31 (.lenSl 30), pu 3 32 (.bin .neq 31 (ci 2))]) (.cond 32 (.seq (rg [mv 0 2 (.const .nilIface)]) .ret) .skip)) (.seq (.region true [fa 0 33 0 1, ld 1 34 none 33, fa 2 35 4 1, ld 3 36 none 35, pu 4 37 (.indexAddr 5 36 (ci 0)), ld 5 38 (some 5) 37, fa 6 39 4 1, ld 7 40 none 39, pu 8 41 (.indexAddr 5 40 (ci 1)), ld 9 42 (some 5) 41, pu 10 43 (.build [.int .i64 0, .int .i64 0, .int .i64 0, .string (bl []), .slice none 0 0, .slice none 0 0, .int .i64 0, .int .i64 0, .string (bl []), .slice none 0 0, .slice none 0 0] [(0, (1, 34)), (1, (5, 38)), (6, (5, 42))]), pu 11 44 (.mkIface F.T_i_exprTwo 43), mv 12 4 44]) (rg [fa 0 45 4 3, ⟨1, none, none, .eff (.store 1 45 (.const (.slice none 0 0))), []⟩]))) (XExit.inBlock 0 (XExit.then A (XFunc.post [.slot 2] (fun q H' => q = shE F e ∧ H' = .empty)))) E H := by
   intro E A H e1 e3 g1 g3 hA
   simp only [go_sem, rE, rA, d13, Ne.symm d13, rL, e1, g1, Ex.zzk, List.length_map]
   by_cases hl : e.kids.length = 2
   ·obtain ⟨a, c, hks⟩ : ∃ a c, e.kids = [a, c] := by
     match e.kids, hl with
     | [a, c], _ => exact ⟨a, c, rfl⟩
    have hb2 : (((2 : Nat) : Int) != 2) = false := by decide
    simp only [go_sem, rE, rA, d13, Ne.symm d13, rL, hks, hb2, e1, e3, g1, g3, Ex.zzk, List.map_cons, List.map_nil, Ex.enc_eq a, Ex.enc_eq c, Int.reduceLE, Int.reduceToNat, Int.le_refl]
    exact hA _ _ (e3) (Heap.zzb _ _ _) ⟨a, c, hks, by simp only [go_sem, rE, Ex.enc_eq a, Ex.enc_eq c, Ex.zzk]⟩
   ·have hb2 : ((e.kids.length : Int) != 2) = true := by rw [bne_iff_ne]; omega
    simp only [go_sem, rE, rA, d13, Ne.symm d13, rL, hb2]
    refine fin _ _ NILI (rfl) ?_
    rw [shE, if_neg k1, if_neg k2, if_pos k36]
    split
    ·rename_i h; rw [h] at hl; simp at hl
    ·rfl
  generalize ((.seq (.seq (rg [fa 0 29 4 1, ld 1 30 none 29, pu 2 31 (.lenSl 30), pu 3 32 (.bin .neq 31 (ci 2))]) (.cond 32 (.seq (rg [mv 0 2 (.const .nilIface)]) .ret) .skip)) (.seq (.region true [fa 0 33 0 1, ld 1 34 none 33, fa 2 35 4 1, ld 3 36 none 35, pu 4 37 (.indexAddr 5 36 (ci 0)), ld 5 38 (some 5) 37, fa 6 39 4 1, ld 7 40 none 39, pu 8 41 (.indexAddr 5 40 (ci 1)), ld 9 42 (some 5) 41, pu 10 43 (.build [.int .i64 0, .int .i64 0, .int .i64 0, .string (bl []), .slice none 0 0, .slice none 0 0, .int .i64 0, .int .i64 0, .string (bl []), .slice none 0 0, .slice none 0 0] [(0, (1, 34)), (1, (5, 38)), (6, (5, 42))]), pu 11 44 (.mkIface F.T_i_exprTwo 43), mv 12 4 44]) (rg [fa 0 45 4 3, ⟨1, none, none, .eff (.store 1 45 (.const (.slice none 0 0))), []⟩]))) : XCode) = RT at two ⊢
  have b6 : e.kind = 3 ∨ e.kind = 4 ∨ e.kind = 5 ∨ e.kind = 6 := by omega
  have rest : ∀ (E : Env) (H : Heap) (a b : Ex), e.kids = [a, b] → E 3 = .ptr b3 0 → H.get b3 = some (.cells [I 0, I e.num, S e.place.name, zze e.place.path, NIL]) → E 4 = .iface F.T_i_exprTwo (.agg (I e.kind :: (a.enc ++ b.enc))) →
   XCode.wp P (.seq (.seq (rg [mv 0 46 4, pu 1 47 (.isNil false 46), mv 2 48 47, gl 3 49 48 false (some 5) 3, ⟨4, some 50, some (48, false), .eff (.call F.i_exprNothing [49]), []⟩, gp 5 51 48 false (.not 50), pu 6 52 (.pick 48 ct 51)]) (.cond 52 (.seq (rg [mv 0 2 (.const .nilIface)]) .ret) .skip)) (.seq (rg [mv 0 53 4, mv 1 2 53]) .ret)) (XFunc.post [.slot 2] (fun q H' => q = shE F e ∧ H' = .empty)) E H := by
   intro E H a b hks e3 g3 e4
   simp only [go_sem, rE, rA, d13, Ne.symm d13, rL, e3, e4, g3]
   refine run_callP (as' := [.agg [I 0, I e.num, S e.place.name, zze e.place.path, NIL]]) (c_exprNothing L (.mk 0 e.num e.place [])) (rfl) ⟨.agg ?_, trivial⟩ ?_
   ·rw [Ex.enc]; exact ⟨⟨.refl _, rfl⟩, ⟨.refl _, rfl⟩, ⟨.refl _, rfl⟩, ⟨.refl _, rfl⟩, ⟨.nil 5, rfl⟩, trivial⟩
   have hn : (Ex.mk 0 e.num e.place []).noneB = (decide (e.num = 0) && e.place.noneB) := by
    show (decide ((0 : Int) = 0) && (decide (e.num = 0) && (e.place.noneB && decide (([] : List Ex).length = 0)))) = _
    simp
   rw [hn]
   cases hc : decide (e.num = 0) && e.place.noneB
   ·simp only [go_sem, rE]
    exact fin _ _ NILI (rfl) (by rw [shE, if_neg k1, if_neg k2, if_pos k36, hks]; simp only [hc]; rfl)
   ·simp only [go_sem, rE, e4]
    exact fin _ _ (.iface F.T_i_exprTwo (.agg (I e.kind :: (a.enc ++ b.enc)))) (by simp only [go_sem, rE, e4]) (by rw [shE, if_neg k1, if_neg k2, if_pos k36, hks]; simp only [hc]; rfl)
  generalize ((.seq (.seq (rg [mv 0 46 4, pu 1 47 (.isNil false 46), mv 2 48 47, gl 3 49 48 false (some 5) 3, ⟨4, some 50, some (48, false), .eff (.call F.i_exprNothing [49]), []⟩, gp 5 51 48 false (.not 50), pu 6 52 (.pick 48 ct 51)]) (.cond 52 (.seq (rg [mv 0 2 (.const .nilIface)]) .ret) .skip)) (.seq (rg [mv 0 53 4, mv 1 2 53]) .ret)) : XCode) = RR at rest ⊢
  have g1E : ((Heap.empty.set b1 (.cells [I e.kind, I e.num, S e.place.name, zze e.place.path, .sl 5 none (Ex.encs e.kids)])).set b3 (.cells [I 0, I e.num, S e.place.name, zze e.place.path, .sl 5 none (Ex.encs e.kids)])).get b1 = some (.cells [I e.kind, I e.num, S e.place.name, zze e.place.path, .sl 5 none (Ex.encs e.kids)]) := by rw [Heap.zza _ _ d13, Heap.zzb]
  rcases b6 with h | h | h | h
  ·have q3 : (e.kind == 3) = true := by rw [h]; rfl
   simp only [k1', k2', q3, go_sem, rE, rA, d13, Ne.symm d13, rL]
   exact two _ _ _ (rfl) (rfl) g1E (Heap.zzb _ _ _) fun E' H' h3 hg ⟨a, b, hk, h4⟩ => rest E' H' a b hk h3 hg h4
  ·have q3 : (e.kind == 3) = false := by rw [h]; rfl
   have q4 : (e.kind == 4) = true := by rw [h]; rfl
   simp only [k1', k2', q3, q4, go_sem, rE, rA, d13, Ne.symm d13, rL]
   exact two _ _ _ (rfl) (rfl) g1E (Heap.zzb _ _ _) fun E' H' h3 hg ⟨a, b, hk, h4⟩ => rest E' H' a b hk h3 hg h4
  ·have q3 : (e.kind == 3) = false := by rw [h]; rfl
   have q4 : (e.kind == 4) = false := by rw [h]; rfl
   have q5 : (e.kind == 5) = true := by rw [h]; rfl
   simp only [k1', k2', q3, q4, q5, go_sem, rE, rA, d13, Ne.symm d13, rL]
   exact two _ _ _ (rfl) (rfl) g1E (Heap.zzb _ _ _) fun E' H' h3 hg ⟨a, b, hk, h4⟩ => rest E' H' a b hk h3 hg h4
  ·have q3 : (e.kind == 3) = false := by rw [h]; rfl
   have q4 : (e.kind == 4) = false := by rw [h]; rfl
   have q5 : (e.kind == 5) = false := by rw [h]; rfl
   have q6 : (e.kind == 6) = true := by rw [h]; rfl
   simp only [k1', k2', q3, q4, q5, q6, go_sem, rE, rA, d13, Ne.symm d13, rL]
   exact two _ _ _ (rfl) (rfl) g1E (Heap.zzb _ _ _) fun E' H' h3 hg ⟨a, b, hk, h4⟩ => rest E' H' a b hk h3 hg h4
 ·have q3 : (e.kind == 3) = false := beq_eq_false_iff_ne.2 (by omega)
  have q4 : (e.kind == 4) = false := beq_eq_false_iff_ne.2 (by omega)
  have q5 : (e.kind == 5) = false := beq_eq_false_iff_ne.2 (by omega)
  have q6 : (e.kind == 6) = false := beq_eq_false_iff_ne.2 (by omega)
  simp only [k1', k2', q3, q4, q5, q6, go_sem, rE, rA, d13, Ne.symm d13, rL]
  exact fin _ _ NILI (rfl) (by rw [shE, if_neg k1, if_neg k2, if_neg k36])
theorem okD_one {e : Ex} (d : Nat) (h : e.kind = 1) : e.okD (d + 1) = ((e.place.noneB && decide (e.kids.length = 0)) && decide (0 ≤ e.num ∧ e.num ≤ 9999)) := by
 simp only [Ex.okD, exGuard, exLeaf, h, if_pos]
 rw [Bool.eq_iff_iff]
 simp only [Bool.and_eq_true, Bool.or_eq_true, decide_eq_true_eq, List.all_eq_true]
 constructor
 ·rintro ⟨⟨-, h2, h3⟩, h4, h5, h6⟩
  exact ⟨⟨by simpa using h2, h6⟩, h5⟩
 ·rintro ⟨⟨h1, h2⟩, h3⟩
  exact ⟨⟨by simp, by simp [h1], by omega⟩, fun x hx => by rw [List.eq_nil_of_length_eq_zero h2] at hx; simp at hx, h3, h2⟩
theorem okD_read {e : Ex} (d : Nat) (h : e.kind = 2) : e.okD (d + 1) = ((decide (e.num = 0) && decide (e.kids.length = 0)) && e.place.okB) := by
 have h1 : ¬ (2 : Int) = 1 := by decide
 simp only [Ex.okD, exGuard, exLeaf, h, if_pos, if_neg h1]
 rw [Bool.eq_iff_iff]
 simp only [Bool.and_eq_true, Bool.or_eq_true, decide_eq_true_eq, List.all_eq_true]
 constructor
 ·rintro ⟨⟨h1, -, -⟩, h4, h5, h6⟩
  exact ⟨⟨by omega, h6⟩, h5⟩
 ·rintro ⟨⟨h1, h2⟩, h3⟩
  exact ⟨⟨.inr h1, .inl trivial, by omega⟩, fun x hx => by rw [List.eq_nil_of_length_eq_zero h2] at hx; simp at hx, h3, h2⟩
theorem okD_two {e : Ex} (d : Nat) (h : 3 ≤ e.kind ∧ e.kind ≤ 6) {a b : Ex} (hk : e.kids = [a, b]) : e.okD (d + 1) = ((decide (e.num = 0) && e.place.noneB) && (a.okD d && b.okD d)) := by
 have h1 : ¬ e.kind = 1 := by omega
 have h2 : ¬ e.kind = 2 := by omega
 simp only [Ex.okD, exGuard, exLeaf, if_neg h1, if_neg h2, hk]
 rw [Bool.eq_iff_iff]
 simp [h1, h2, h.1, h.2]
theorem okD_else {e : Ex} (d : Nat) (h1 : ¬ e.kind = 1) (h2 : ¬ e.kind = 2) (h : ¬ (3 ≤ e.kind ∧ e.kind ≤ 6) ∨ e.kids.length ≠ 2) : e.okD (d + 1) = false := by
 simp only [Ex.okD, exGuard, exLeaf, if_neg h1, if_neg h2]
 rw [Bool.eq_false_iff]
 simp only [ne_eq, Bool.and_eq_true, decide_eq_true_eq]
 rintro ⟨-, -, h3, h4⟩
 rcases h with h | h
 ·exact h h3
 ·exact h h4
theorem c_exprForm (L : Lib P F) (T : Tys F) : ∀ (d : Nat), d ≤ 100 → ∀ (e : Ex), Pure1 P F.i_exprForm [.agg e.enc, I d] (B (e.okD d)) := by
 intro d
 induction d with
 | zero =>
   intro _ e
   refine L.i_exprForm (by simp [x_i_exprForm]) ?_
   rw [Ex.enc_eq]
   simp only [x_i_exprForm, go_sem, rE]
   intro b1 hb1
   simp only [go_sem, rE, Int.natCast_zero, show (0 : Int) < 1 from by decide]
   exact zzd (.refl _) (Heap.zzf _) ⟨by simp only [go_sem, Ex.okD], rfl⟩
 | succ d ih =>
   intro hd e
   refine L.i_exprForm (by simp [x_i_exprForm]) ?_
   have h1 : ¬ ((d + 1 : Nat) : Int) < 1 := by omega
   have w1 := yya (n := ((d + 1 : Nat) : Int) - 1) (by omega) (by omega)
   have hdd : ((d + 1 : Nat) : Int) - 1 = d := by omega
   rw [hdd] at w1
   rw [Ex.enc_eq]
   simp only [x_i_exprForm, go_sem, rE]
   intro b2 hb2
   have fin : ∀ (E' : Env) (H' : Heap) (q : Bool), E' 4 = B q → q = e.okD (d + 1) → XFunc.post [.slot 4] (fun q H' => q = B (e.okD (d + 1)) ∧ H' = .empty) .ret E' H' := fun E' H' q h1 h2 => zzd (by rw [h1, h2]; exact .refl _) (Heap.zzf _) ⟨rfl, rfl⟩
   simp only [h1, decide_false, go_sem, rE, rA, rL]
   refine zzc (c_exprOf L e) (by simp only [go_sem, rE, Ex.enc_eq e]) ?_
   simp only [go_sem, rE]
   by_cases k1 : e.kind = 1
   ·have ho := okD_one d k1
    rw [shE, if_pos k1]
    cases hc : e.place.noneB && decide (e.kids.length = 0)
    ·rw [hc] at ho
     simp only [go_sem, rE, rA, rL, Bool.false_eq_true, if_false]
     exact fin _ _ false (rfl) (by rw [ho]; rfl)
    ·rw [hc] at ho
     simp only [go_sem, rE, rA, rL, if_true]
     intro b5 hb5
     by_cases h0 : e.num ≥ 0
     ·simp only [go_sem, rE, rA, rL, h0, decide_true]
      exact fin _ _ (decide (e.num ≤ 9999)) (rfl) (by rw [ho]; simp; omega)
     ·simp only [go_sem, rE, rA, rL, h0, decide_false]
      exact fin _ _ false (rfl) (by rw [ho]; simp; omega)
   by_cases k2 : e.kind = 2
   ·have ho := okD_read d k2
    rw [shE, if_neg k1, if_pos k2]
    cases hc : decide (e.num = 0) && decide (e.kids.length = 0)
    ·rw [hc] at ho
     simp only [go_sem, rE, rA, rL, Bool.false_eq_true, if_false]
     exact fin _ _ false (rfl) (by rw [ho]; rfl)
    ·rw [hc] at ho
     simp only [go_sem, rE, rA, rL, if_true, T.e1, if_false, Pl.enc]
     intro b6 hb6
     refine zzc (c_placeForm L e.place) (by simp only [go_sem, rE, Pl.enc]) ?_
     simp only [go_sem, rE]
     exact fin _ _ e.place.okB (rfl) (by rw [ho]; rfl)
   by_cases k36 : 3 ≤ e.kind ∧ e.kind ≤ 6
   ·by_cases hl : e.kids.length = 2
    ·obtain ⟨a, b, hks⟩ : ∃ a c, e.kids = [a, c] := by
      match e.kids, hl with
      | [a, c], _ => exact ⟨a, c, rfl⟩
     have ho := okD_two d k36 hks
     have hq : shE F e = if decide (e.num = 0) && e.place.noneB then .iface F.T_i_exprTwo (.agg (I e.kind :: (a.enc ++ b.enc))) else NILI := by rw [shE, if_neg k1, if_neg k2, if_pos k36, hks]
     rw [hq]
     cases hc : decide (e.num = 0) && e.place.noneB
     ·rw [hc] at ho
      simp only [go_sem, rE, rA, rL, Bool.false_eq_true, if_false]
      exact fin _ _ false (rfl) (by rw [ho]; rfl)
     ·rw [hc] at ho
      simp only [go_sem, rE, rA, rL, if_true, T.e2, T.e3, if_false, Ex.enc_eq a, Ex.enc_eq b, List.cons_append]
      intro b7 hb7
      simp only [go_sem, rE, rA, rL, hdd, w1]
      refine zzc (ih (by omega) a) (by simp only [go_sem, rE, Ex.enc_eq a]) ?_
      cases ha : a.okD d
      ·simp only [go_sem, rE, rA, rL]
       exact fin _ _ false (rfl) (by rw [ho, ha]; rfl)
      ·simp only [go_sem, rE, rA, rL, hdd, w1]
       refine zzc (ih (by omega) b) (by simp only [go_sem, rE, Ex.enc_eq b]) ?_
       simp only [go_sem, rE]
       exact fin _ _ (b.okD d) (rfl) (by rw [ho, ha]; rfl)
    ·have hq : shE F e = NILI := by
      rw [shE, if_neg k1, if_neg k2, if_pos k36]
      split
      ·rename_i h; rw [h] at hl; simp at hl
      ·rfl
     rw [hq]
     simp only [go_sem, rE, rA, rL]
     exact fin _ _ false (rfl) (okD_else d k1 k2 (.inr hl)).symm
   ·rw [shE, if_neg k1, if_neg k2, if_neg k36]
    simp only [go_sem, rE, rA, rL]
    exact fin _ _ false (rfl) (okD_else d k1 k2 (.inl k36)).symm
end
end Go.Xl
namespace Go.Xl
open Nat renaming reduceEqDiff → rE, reduceAdd → rA, reduceLeDiff → rL
def ofL (l : List UInt8) : ByteArray := ⟨l.toArray⟩
@[reducible] def Tx (l : List UInt8) : AC := .lit (.string (ofL l))
def by_ (s : ByteArray) : List UInt8 := s.data.toList
def bn (l : List Nat) : List UInt8 := l.map UInt8.ofNat
theorem bl_eq (l : List Nat) : bl l = ofL (bn l) := rfl
theorem ofL_by (s : ByteArray) : ofL (by_ s) = s := rfl
theorem by_ofL (l : List UInt8) : by_ (ofL l) = l := rfl
theorem ofL_size (l : List UInt8) : (ofL l).size = l.length := rfl
theorem yyj (s : ByteArray) : (by_ s).length = s.size := rfl
theorem ofL_append (a b : List UInt8) : ofL a ++ ofL b = ofL (a ++ b) := by
 apply ByteArray.ext
 rw [ByteArray.data_append]
 simp [ofL]
theorem ofL_inj {a b : List UInt8} (h : ofL a = ofL b) : a = b := by
 have := congrArg by_ h
 rwa [by_ofL, by_ofL] at this
theorem sadd {a b : List UInt8} (h : a.length + b.length ≤ LIM) : strBin .add (ofL a) (ofL b) = some (Tx (a ++ b)) := by
 simp only [strBin, ofL_size, h, if_true, ofL_append]
theorem sadd_l {a : ByteArray} {b : List UInt8} (h : a.size + b.length ≤ LIM) : strBin .add a (ofL b) = some (Tx (by_ a ++ b)) := sadd (a := by_ a) h
theorem sadd_r {a : List UInt8} {b : ByteArray} (h : a.length + b.size ≤ LIM) : strBin .add (ofL a) b = some (Tx (a ++ by_ b)) := sadd (b := by_ b) h
theorem wrap8 {n : Int} (h : 0 ≤ n) (h' : n ≤ 255) : IntKind.u8.wrap n = n :=
 wrap_id .u8 n (by simpa [IntKind.min, IntKind.bits, IntKind.signed] using h) (by simpa [IntKind.max, IntKind.bits, IntKind.signed] using h')
def decL (n : Nat) : List UInt8 := if h : n < 10 then [UInt8.ofNat (48 + n)] else decL (n / 10) ++ [UInt8.ofNat (48 + n % 10)]
termination_by n
theorem decL_len : ∀ (k n : Nat), 1 ≤ k → n < 10 ^ k → (decL n).length ≤ k
 | 0, n, h, _ => by omega
 | k + 1, n, _, h => by
   rw [decL]
   split
   ·simp
   ·rename_i h10
    have hk : 1 ≤ k := by
     rcases Nat.eq_zero_or_pos k with rfl | hk
     ·simp at h; omega
     ·exact hk
    have := decL_len k (n / 10) hk (by rw [Nat.pow_succ] at h; omega)
    simp; omega
def typL : Ty → List UInt8
 | .mk ks => match ks with
   | a :: b :: _ => bn [40] ++ typL a ++ bn [44] ++ typL b ++ bn [41]
   | _ => bn [105]
termination_by t => SizeOf.sizeOf t
theorem typL_eq (ks : List Ty) : typL (.mk ks) = match ks with
 | a :: b :: _ => bn [40] ++ typL a ++ bn [44] ++ typL b ++ bn [41]
 | _ => bn [105] := by rw [typL.eq_def]
theorem typL_len : ∀ (n : Nat) (t : Ty), t.deepB n = true → (typL t).length + 3 ≤ 2 ^ (n + 1)
 | 0, .mk ks, h => by simp [Ty.deepB] at h
 | n + 1, .mk ks, h => by
   simp only [Ty.deepB, Ty.kids, Bool.and_eq_true, List.all_eq_true] at h
   obtain ⟨h1, h2⟩ := h
   rw [typL_eq]
   have hp : 4 ≤ 2 ^ (n + 1 + 1) := by
    have := Nat.pow_le_pow_right (n := 2) (by omega) (show 2 ≤ n + 1 + 1 by omega); omega
   split
   ·rename_i a b l
    have ha := typL_len n a (h2 a (by simp))
    have hb := typL_len n b (h2 b (by simp))
    rw [Nat.pow_succ]
    simp [bn]; omega
   ·simp [bn]; omega
section
variable {P : Program} {F : Ids}
theorem c_l6Dec (L : Lib P F) : ∀ (n : Nat), n < 10 ^ 6 → Pure1 P F.s_l6Dec [I n] (Tx (decL n)) := by
 intro n
 induction n using Nat.strongRecOn with
 | _ n ih =>
   intro hn
   refine L.s_l6Dec (by simp [x_s_l6Dec]) ?_
   have h1 : ¬ (n : Int) < -9223372036854775807 := by omega
   have h2 : ¬ (n : Int) < 0 := by omega
   by_cases h3 : n < 10
   ·have h3' : (n : Int) < 10 := by omega
    have w1 := yya (n := 48 + (n : Int)) (by omega) (by omega)
    have w2 := wrap8 (n := 48 + (n : Int)) (by omega) (by omega)
    simp only [x_s_l6Dec, go_sem, rE, h1, h2, h3', w1, w2, List.replicate, List.flatten_cons, List.flatten_nil, chunk, rL, rA, bytesOf]
    refine zzd (.refl _) (Heap.zzf _) ⟨?_, rfl⟩
    simp only [go_sem]
    rw [decL, dif_pos h3]
    have : (48 + (n : Int)).toNat = 48 + n := by omega
    rw [this]; rfl
   ·have h3' : ¬ (n : Int) < 10 := by omega
    have hq : (n : Int).tdiv 10 = ((n / 10 : Nat) : Int) := by rw [Int.tdiv_eq_ediv_of_nonneg (by omega)]; omega
    have hr : (n : Int).tmod 10 = ((n % 10 : Nat) : Int) := by rw [Int.tmod_eq_emod_of_nonneg (by omega)]; omega
    have w0 := yya (n := ((n / 10 : Nat) : Int)) (by omega) (by omega)
    have w3 := yya (n := ((n % 10 : Nat) : Int)) (by omega) (by omega)
    have w1 := yya (n := 48 + ((n % 10 : Nat) : Int)) (by omega) (by omega)
    have w2 := wrap8 (n := 48 + ((n % 10 : Nat) : Int)) (by omega) (by omega)
    have h10 : ¬ (10 : Int) = 0 := by decide
    simp only [x_s_l6Dec, go_sem, rE, h1, h2, h3', hq, w0, h10]
    refine zzc (ih (n / 10) (by omega) (by omega)) (rfl) ?_
    have hl := decL_len 6 (n / 10) (by omega) (by omega)
    have hs := sadd (a := decL (n / 10)) (b := [UInt8.ofNat (48 + ((n % 10 : Nat) : Int)).toNat]) (by simp [LIM]; omega)
    simp only [ofL] at hs
    simp only [go_sem, rE, h10, hr, w3, w1, w2, List.replicate, List.flatten_cons, List.flatten_nil, chunk, rL, rA, bytesOf, ofL, hs]
    refine zzd (.refl _) (Heap.zzf _) ⟨?_, rfl⟩
    simp only [go_sem]
    have e : decL n = decL (n / 10) ++ [UInt8.ofNat (48 + n % 10)] := by rw [decL, dif_neg h3]
    rw [e]
    have : (48 + ((n % 10 : Nat) : Int)).toNat = 48 + n % 10 := by omega
    rw [this]
theorem c_l1Say (L : Lib P F) : ∀ (n : Nat), n ≤ 20 → ∀ (t : Ty), t.deepB n = true → Pure1 P F.s_l1Say [.agg t.enc] (Tx (typL t)) := by
 intro n
 induction n with
 | zero => intro _ t ht; cases t; simp [Ty.deepB] at ht
 | succ n ih =>
   rintro hn ⟨ks⟩ ht
   have ih := ih (by omega)
   have hlen := fun t h => typL_len n t h
   have hp : 2 ^ (n + 1) ≤ 2 ^ 21 := Nat.pow_le_pow_right (by omega) (by omega)
   simp only [Ty.deepB, Ty.kids, Bool.and_eq_true, List.all_eq_true, decide_eq_true_eq] at ht
   obtain ⟨h1, h2⟩ := ht
   refine L.s_l1Say (by simp [x_s_l1Say]) ?_
   rw [typL_eq]
   rcases ks with _ | ⟨a, _ | ⟨b, l⟩⟩
   ·simp only [x_s_l1Say, go_sem, rE, Ty.enc, Ty.encs, Int.natCast_zero, beq_self_eq_true]
    intro b hb
    exact zzd (.refl _) (Heap.zzf _) ⟨rfl, rfl⟩
   ·simp at h1
   ·have hz : (((l.length + 1 + 1 : Nat) : Int) == 0) = false := beq_eq_false_iff_ne.2 (by omega)
    have ea : (Ty.encs (a :: b :: l))[0]? = some a.enc := by simp [Ty.encs]
    have eb : (Ty.encs (a :: b :: l))[1]? = some b.enc := by simp [Ty.encs]
    have l1 := hlen a (h2 a (by simp))
    have l2 := hlen b (h2 b (by simp))
    have hia := ih a (h2 a (by simp))
    have hib := ih b (h2 b (by simp))
    rw [Ty.enc_eq] at ea eb hia hib
    simp only [x_s_l1Say, go_sem, rE, Ty.enc, hz, Int.le_refl, Int.toNat_zero, ea, rL, rA]
    intro b1 hb1
    refine zzc hia (rfl) ?_
    have s1 := sadd (a := bn [40]) (b := typL a) (by simp [LIM, bn]; omega)
    have s2 := sadd (a := bn [40] ++ typL a) (b := bn [44]) (by simp [LIM, bn]; omega)
    have s3 := sadd (a := bn [40] ++ typL a ++ bn [44]) (b := typL b) (by simp [LIM, bn]; omega)
    have s4 := sadd (a := bn [40] ++ typL a ++ bn [44] ++ typL b) (b := bn [41]) (by simp [LIM, bn]; omega)
    simp only [bl_eq, go_sem, rE, s1, s2, Int.reduceLE, Int.reduceToNat, eb, rL, rA, chkL, List.mem_cons, List.not_mem_nil, or_false, forall_eq, false_or, reduceCtorEq, not_false_eq_true, implies_true, true_and]
    refine zzc hib (rfl) ?_
    simp only [go_sem, rE, s3, s4]
    exact zzd (.refl _) (Heap.zzf _) ⟨rfl, rfl⟩
def pathL (p : List Int) : List UInt8 := p.flatMap fun i => bn [46] ++ decL i.toNat
def atL (p : Pl) : List UInt8 := by_ p.name ++ pathL p.path
theorem pathL_snoc (p : List Int) (i : Int) : pathL (p ++ [i]) = pathL p ++ bn [46] ++ decL i.toNat := by simp [pathL]
theorem pathL_len : ∀ (p : List Int), (∀ i ∈ p, 0 ≤ i ∧ i ≤ 1) → (pathL p).length = 2 * p.length
 | [], _ => rfl
 | i :: p, h => by
   have h0 := h i (by simp)
   have := pathL_len p (fun j hj => h j (by simp [hj]))
   have hd : (decL i.toNat).length = 1 := by rw [decL, dif_pos (by omega)]; rfl
   have e : pathL (i :: p) = bn [46] ++ decL i.toNat ++ pathL p := by simp [pathL]
   rw [e]; simp only [List.length_append, List.length_cons, hd, this]; simp [bn]; omega
theorem atL_len {p : Pl} (h : p.okB = true) : (atL p).length ≤ 14 := by
 simp only [Pl.okB, yyf, pathOk, Bool.and_eq_true, decide_eq_true_eq, List.all_eq_true] at h
 obtain ⟨⟨-, h6, -⟩, h4, hp⟩ := h
 have := pathL_len p.path hp
 simp only [atL, List.length_append, yyj]; omega
theorem c_l2At (L : Lib P F) (p : Pl) (h : p.okB = true) : Pure1 P F.s_l2At [.agg p.enc] (Tx (atL p)) := by
 refine L.s_l2At (by simp [x_s_l2At]) ?_
 simp only [Pl.okB, yyf, pathOk, Bool.and_eq_true, decide_eq_true_eq, List.all_eq_true] at h
 obtain ⟨⟨-, h6, -⟩, h4, hp⟩ := h
 simp only [x_s_l2At, go_sem, rE, Pl.enc, zze]
 intro b hb
 have g1 : (Heap.empty.set b (.cells [S p.name, .sl 1 none (p.path.map fun i => [I i])])).get b = some (.cells [S p.name, .sl 1 none (p.path.map fun i => [I i])]) := Heap.zzb _ _ _
 refine yyc p.path.length (fun k E H => E 1 = .ptr b 0 ∧ E 3 = Tx (by_ p.name ++ pathL (p.path.take k)) ∧ E 4 = I k ∧ H.get b = some (.cells [S p.name, .sl 1 none (p.path.map fun i => [I i])])) ⟨rfl, by simp [go_sem, pathL, ofL_by], rfl, g1⟩ ?_
 rintro k E H hk ⟨e1, e3, e4, g1⟩
 simp only [go_sem, rE, rA, e1, e4, g1, List.length_map]
 refine zzn (fun hlt => ?_) (fun hge => ?_)
 ·have hk1 : k < p.path.length := by omega
  have w1 := yya (n := (k : Int) + 1) (by omega) (by omega)
  have hi := hp _ (List.getElem_mem hk1)
  have hii : p.path[k] = ((p.path[k].toNat : Nat) : Int) := by omega
  have hpl := pathL_len (p.path.take k) (fun i hi => hp i (List.mem_of_mem_take hi))
  have htl : (p.path.take k).length = k := by simp; omega
  have hdl := decL_len 6 p.path[k].toNat (by omega) (by omega)
  have s1 := sadd (a := by_ p.name ++ pathL (p.path.take k)) (b := bn [46]) (by rw [List.length_append, yyj, hpl]; simp [LIM, bn]; omega)
  have s2 := sadd (a := by_ p.name ++ pathL (p.path.take k) ++ bn [46]) (b := decL p.path[k].toNat) (by rw [List.length_append, List.length_append, yyj, hpl]; simp [LIM, bn]; omega)
  simp only [bl_eq, go_sem, rE, rA, e1, e3, e4, g1, path_get hk1, s1]
  refine zzc (c_l6Dec L p.path[k].toNat (by omega)) (by simp only [go_sem, rE, ← hii]) ?_
  have htx : pathL (p.path.take (k + 1)) = pathL (p.path.take k) ++ bn [46] ++ decL p.path[k].toNat := by rw [List.take_succ_eq_append_getElem hk1, pathL_snoc]
  simp only [go_sem, rE, rA, e1, e3, e4, s2, w1, htx]
  exact ⟨hk1, H, Heap.zzm _, by simp, rfl, g1⟩
 ·have hkk : k = p.path.length := by omega
  subst hkk
  rw [List.take_length] at e3
  simp only [go_sem, rE, e3]
  exact zzd (.refl _) (Heap.zzf _) ⟨by simp only [go_sem, atL], rfl⟩
def signL (k : Int) : List UInt8 := if k = 3 then bn [43] else if k = 4 then bn [45] else if k = 5 then bn [60] else if k = 6 then bn [44] else []
def sayL : Ex → List UInt8
 | .mk k n p ks => if k = 1 then decL n.toNat else if k = 2 then bn [64] ++ atL p else match ks with
   | a :: b :: _ => signL k ++ bn [32] ++ sayL a ++ bn [32] ++ sayL b
   | _ => []
termination_by x => SizeOf.sizeOf x
theorem sayL_eq (k n : Int) (p : Pl) (ks : List Ex) : sayL (.mk k n p ks) = if k = 1 then decL n.toNat else if k = 2 then bn [64] ++ atL p else match ks with
 | a :: b :: _ => signL k ++ bn [32] ++ sayL a ++ bn [32] ++ sayL b
 | _ => [] := by rw [sayL.eq_def]
theorem signL_len (k : Int) : (signL k).length ≤ 1 := by
 unfold signL; split
 ·simp [bn]
 ·split
  ·simp [bn]
  ·split
   ·simp [bn]
   ·split <;> simp [bn]
theorem Ex.okD_get {d : Nat} {e : Ex} (h : e.okD d = true) : ∃ d', d = d' + 1 ∧ ((e.kind = 1 ∧ 0 ≤ e.num ∧ e.num ≤ 9999) ∨ (e.kind = 2 ∧ e.place.okB = true) ∨ (e.kind ≠ 1 ∧ e.kind ≠ 2 ∧ 3 ≤ e.kind ∧ e.kind ≤ 6 ∧ ∃ a b, e.kids = [a, b] ∧ a.okD d' = true ∧ b.okD d' = true)) := by
 cases d with
 | zero => simp [Ex.okD] at h
 | succ d =>
   refine ⟨d, rfl, ?_⟩
   simp only [Ex.okD, exLeaf, Bool.and_eq_true, List.all_eq_true] at h
   obtain ⟨-, hk, hl⟩ := h
   by_cases k1 : e.kind = 1
   ·rw [if_pos k1] at hl; simp at hl; exact .inl ⟨k1, hl.1⟩
   ·rw [if_neg k1] at hl
    by_cases k2 : e.kind = 2
    ·rw [if_pos k2] at hl; simp at hl; exact .inr (.inl ⟨k2, hl.1⟩)
    ·rw [if_neg k2] at hl
     simp at hl
     refine .inr (.inr ⟨k1, k2, hl.1.1, hl.1.2, ?_⟩)
     match hks : e.kids, hl.2 with
     | [a, b], _ => exact ⟨a, b, rfl, hk a (by simp [hks]), hk b (by simp [hks])⟩
theorem sayL_len : ∀ (d : Nat) (e : Ex), e.okD d = true → (sayL e).length + 3 ≤ 18 * 2 ^ d := by
 intro d
 induction d with
 | zero => intro e h; simp [Ex.okD] at h
 | succ d ih =>
   rintro ⟨k, n, p, ks⟩ h
   obtain ⟨d', hd', hc⟩ := Ex.okD_get h
   have : d' = d := by omega
   subst this
   have hp : 1 ≤ 2 ^ d' := Nat.one_le_two_pow
   rw [sayL_eq, Nat.pow_succ]
   simp only [Ex.kind, Ex.num, Ex.place, Ex.kids] at hc
   rcases hc with ⟨rfl, h0, h1⟩ | ⟨rfl, hpl⟩ | ⟨h1, h2, -, -, a, b, rfl, ha, hb⟩
   ·rw [if_pos rfl]
    have := decL_len 6 n.toNat (by omega) (by omega)
    omega
   ·rw [if_neg (by decide), if_pos rfl]
    have := atL_len hpl
    simp [bn]; omega
   ·rw [if_neg h1, if_neg h2]
    have i1 := ih a ha
    have i2 := ih b hb
    have := signL_len k
    simp [bn]; omega
theorem c_l2Signs (L : Lib P F) : ACalls P F.s_l2Signs [] .empty fun q H' => q = .sl 1 none [[Tx (bn [])], [Tx (bn [])], [Tx (bn [])], [Tx (bn [43])], [Tx (bn [45])], [Tx (bn [60])], [Tx (bn [44])]] ∧ H' = .empty := by
 refine L.s_l2Signs (by simp [x_s_l2Signs]) ?_
 simp only [x_s_l2Signs, bl_eq, go_sem, rE, List.replicate, List.flatten_cons, List.flatten_nil, chunk, rA, rL]
 intro b hb
 exact zzd (q' := .sl 1 none [[Tx (bn [])], [Tx (bn [])], [Tx (bn [])], [Tx (bn [43])], [Tx (bn [45])], [Tx (bn [60])], [Tx (bn [44])]]) (by simp only [go_sem, rE]; exact .tok _ _ _) (Heap.zzf _) ⟨rfl, rfl⟩
theorem sign_get {k : Int} (h3 : 3 ≤ k) (h6 : k ≤ 6) : ([[Tx (bn [])], [Tx (bn [])], [Tx (bn [])], [Tx (bn [43])], [Tx (bn [45])], [Tx (bn [60])], [Tx (bn [44])]] : List (List AC))[k.toNat]? = some [Tx (signL k)] := by
 have : k = 3 ∨ k = 4 ∨ k = 5 ∨ k = 6 := by omega
 rcases this with rfl | rfl | rfl | rfl <;> rfl
theorem c_l2Say (L : Lib P F) : ∀ (d : Nat), d ≤ 10 → ∀ (e : Ex), e.okD d = true → Pure1 P F.s_l2Say [.agg e.enc] (Tx (sayL e)) := by
 intro d
 induction d with
 | zero => intro _ e h; simp [Ex.okD] at h
 | succ d ih =>
   rintro hd ⟨k, n, p, ks⟩ h
   have ih := ih (by omega)
   obtain ⟨d', hd', hc⟩ := Ex.okD_get h
   have : d' = d := by omega
   subst this
   refine L.s_l2Say (by simp [x_s_l2Say]) ?_
   have hpw : 2 ^ d' ≤ 2 ^ 10 := Nat.pow_le_pow_right (by omega) (by omega)
   rw [sayL_eq]
   simp only [Ex.kind, Ex.num, Ex.place, Ex.kids] at hc
   rcases hc with ⟨rfl, h0, h1⟩ | ⟨rfl, hpl⟩ | ⟨h1, h2, h3, h6, a, b, rfl, ha, hb⟩
   ·rw [if_pos rfl]
    simp only [x_s_l2Say, go_sem, rE, Ex.enc, beq_self_eq_true]
    intro b hb
    have hn : n = ((n.toNat : Nat) : Int) := by omega
    refine zzc (c_l6Dec L n.toNat (by omega)) (by simp only [go_sem, rE, ← hn]) ?_
    simp only [go_sem, rE]
    exact zzd (.refl _) (Heap.zzf _) ⟨rfl, rfl⟩
   ·rw [if_neg (by decide), if_pos rfl]
    simp only [x_s_l2Say, go_sem, rE, Ex.enc, beq_self_eq_true, Int.reduceBEq, rA, rL]
    intro b hb
    have hl := atL_len hpl
    have s1 := sadd (a := bn [64]) (b := atL p) (by simp [LIM, bn]; omega)
    refine zzc (c_l2At L p hpl) (by simp only [go_sem, rE, Pl.enc]) ?_
    simp only [bl_eq, go_sem, rE, s1]
    exact zzd (.refl _) (Heap.zzf _) ⟨rfl, rfl⟩
   ·rw [if_neg h1, if_neg h2]
    have k1 : (k == 1) = false := by simpa using h1
    have k2 : (k == 2) = false := by simpa using h2
    have hk0 : 0 ≤ k := by omega
    have ea : (Ex.encs [a, b])[0]? = some a.enc := by simp [Ex.encs]
    have eb : (Ex.encs [a, b])[1]? = some b.enc := by simp [Ex.encs]
    have la := sayL_len d' a ha
    have lb := sayL_len d' b hb
    have ls := signL_len k
    have hia := ih a ha
    have hib := ih b hb
    have s1 := sadd (a := signL k) (b := bn [32]) (by simp [LIM, bn]; omega)
    have s2 := sadd (a := signL k ++ bn [32]) (b := sayL a) (by simp [LIM, bn]; omega)
    have s3 := sadd (a := signL k ++ bn [32] ++ sayL a) (b := bn [32]) (by simp [LIM, bn]; omega)
    have s4 := sadd (a := signL k ++ bn [32] ++ sayL a ++ bn [32]) (b := sayL b) (by simp [LIM, bn]; omega)
    simp only [x_s_l2Say, go_sem, rE, Ex.enc, k1, k2]
    intro b1 hb1
    refine run_call (c_l2Signs L) (rfl) (Heap.zzf _) (fun _ N => ⟨_, .empty, ⟨rfl, rfl⟩, fun b hb => by simp at hb⟩) (by simp [chkE]) ?_
    rintro q H' ⟨rfl, rfl⟩ -
    rw [Heap.swap_empty]
    simp only [bl_eq, go_sem, rE, hk0, sign_get h3 h6, s1, Int.le_refl, Int.toNat_zero, ea, ex_take, ex_len, chkL, List.mem_cons, List.not_mem_nil, or_false, forall_eq, false_or, reduceCtorEq, not_false_eq_true, implies_true, true_and, Heap.get_empty, not_true_eq_false]
    refine zzc hia (rfl) ?_
    simp only [go_sem, rE, s2, s3, Int.reduceLE, Int.reduceToNat, eb, ex_take, ex_len, chkL, List.mem_cons, List.not_mem_nil, or_false, forall_eq, false_or, reduceCtorEq, not_false_eq_true, implies_true, true_and, Heap.get_empty, not_true_eq_false, forall_eq_or_imp, and_true]
    refine zzc hib (rfl) ?_
    simp only [go_sem, rE, s4]
    exact zzd (.refl _) (Heap.zzf _) ⟨rfl, rfl⟩
end
end Go.Xl
namespace Go.Xl
open Nat renaming reduceEqDiff → rE, reduceAdd → rA, reduceLeDiff → rL
def argL (a : Ag) : List UInt8 := if a.lent then bn [32, 116, 111, 32] ++ atL a.place else bn [32, 111, 102, 32] ++ sayL a.expr
def argsL (l : List Ag) : List UInt8 := l.flatMap argL
mutual
def lineL : St → List UInt8
 | .mk k n p o e f as t l =>
   if k = 1 then bn [108, 101, 116, 32] ++ by_ n ++ bn [32] ++ sayL e ++ bn [10]
   else if k = 2 then bn [108, 101, 110, 100, 32] ++ by_ n ++ bn [32] ++ atL p ++ bn [10]
   else if k = 6 then bn [112, 105, 99, 107, 32] ++ by_ n ++ bn [32] ++ atL p ++ bn [32] ++ atL o ++ bn [32] ++ sayL e ++ bn [10]
   else if k = 3 then bn [115, 101, 116, 32] ++ atL p ++ bn [32] ++ sayL e ++ bn [10]
   else if k = 4 then bn [99, 97, 108, 108, 32] ++ by_ n ++ bn [32] ++ by_ f ++ argsL as ++ bn [10]
   else bn [105, 102, 32] ++ sayL e ++ bn [10] ++ xxb t ++ bn [101, 108, 115, 101, 10] ++ xxb l ++ bn [101, 110, 100, 10]
def xxb : List St → List UInt8
 | [] => []
 | s :: l => lineL s ++ xxb l
end
theorem linesL_nil : xxb [] = [] := by rw [xxb]
theorem linesL_cons (s : St) (l : List St) : xxb (s :: l) = lineL s ++ xxb l := by rw [xxb]
theorem linesL_append (a b : List St) : xxb (a ++ b) = xxb a ++ xxb b := by
 induction a with
 | nil => simp [linesL_nil]
 | cons s a ih => rw [List.cons_append, linesL_cons, linesL_cons, ih, List.append_assoc]
theorem lineL_eq (s : St) : lineL s = if s.kind = 1 then bn [108, 101, 116, 32] ++ by_ s.name ++ bn [32] ++ sayL s.expr ++ bn [10]
 else if s.kind = 2 then bn [108, 101, 110, 100, 32] ++ by_ s.name ++ bn [32] ++ atL s.place ++ bn [10]
 else if s.kind = 6 then bn [112, 105, 99, 107, 32] ++ by_ s.name ++ bn [32] ++ atL s.place ++ bn [32] ++ atL s.other ++ bn [32] ++ sayL s.expr ++ bn [10]
 else if s.kind = 3 then bn [115, 101, 116, 32] ++ atL s.place ++ bn [32] ++ sayL s.expr ++ bn [10]
 else if s.kind = 4 then bn [99, 97, 108, 108, 32] ++ by_ s.name ++ bn [32] ++ by_ s.fn ++ argsL s.args ++ bn [10]
 else bn [105, 102, 32] ++ sayL s.expr ++ bn [10] ++ xxb s.thn ++ bn [101, 108, 115, 101, 10] ++ xxb s.els ++ bn [101, 110, 100, 10] := by
 obtain ⟨k, n, p, o, e, f, as, t, l⟩ := s
 rw [lineL]; rfl
inductive StF (Bd : List St → Bool) (s : St) : Prop where
 | let_ (k : s.kind = 1) (n : yyf s.name = true) (e : s.expr.okD 4 = true)
 | lend (k : s.kind = 2) (n : yyf s.name = true) (p : s.place.okB = true)
 | set (k : s.kind = 3) (p : s.place.okB = true) (e : s.expr.okD 4 = true)
 | call (k : s.kind = 4) (n : yyf s.name = true) (f : yyf s.fn = true) (a : argsOk s.args = true)
 | if_ (k : s.kind = 5) (e : s.expr.okD 4 = true) (t : Bd s.thn = true) (l : Bd s.els = true)
 | pick (k : s.kind = 6) (n : yyf s.name = true) (p : s.place.okB = true) (o : s.other.okB = true) (e : s.expr.okD 4 = true)
theorem stOk_get {Bd : List St → Bool} {s : St} (h : stOkW Bd s = true) : StF Bd s := by
 simp only [stOkW, stA, stB, stC', stD, Bool.and_eq_true] at h
 obtain ⟨hA, ⟨hn, hp, he⟩, ⟨hf, ha⟩, hD⟩ := h
 have hk : s.kind = 5 ∨ (1 ≤ s.kind ∧ s.kind ≤ 6) := by
  by_cases k5 : s.kind = 5
  ·exact .inl k5
  ·rw [if_neg k5] at hD; simp at hD; exact .inr hD.1
 have hk' : s.kind = 1 ∨ s.kind = 2 ∨ s.kind = 3 ∨ s.kind = 4 ∨ s.kind = 5 ∨ s.kind = 6 := by omega
 rcases hk' with k | k | k | k | k | k
 ·simp [isN, isP, isE, k] at hn hp he; exact .let_ k hn he
 ·simp [isN, isP, isE, k] at hn hp he; exact .lend k hn hp
 ·simp [isN, isP, isE, k] at hn hp he; exact .set k hp he
 ·simp [isN, isP, isE, k] at hn hp he hf; exact .call k hn hf ha
 ·simp [isN, isP, isE, k] at hn hp he hD; exact .if_ k he hD.1 hD.2
 ·simp [isN, isP, isE, k] at hn hp he hA; exact .pick k hn hp hA he
theorem nameOk_len {s : ByteArray} (h : yyf s = true) : (by_ s).length ≤ 6 := by
 simp only [yyf, Bool.and_eq_true, decide_eq_true_eq] at h
 rw [yyj]; exact h.2.1
theorem say4_len {e : Ex} (h : e.okD 4 = true) : (sayL e).length ≤ 285 := by have := sayL_len 4 e h; omega
theorem argL_len {a : Ag} (h : a.okB = true) : (argL a).length ≤ 289 := by
 unfold argL
 simp only [Ag.okB] at h
 split at h <;> rename_i hl <;> simp only [Bool.and_eq_true] at h
 ·rw [if_pos hl]; have := atL_len h.1; simp [bn]; omega
 ·rw [if_neg hl]; have := say4_len h.2; simp [bn]; omega
theorem argsL_len : ∀ {l : List Ag}, l.all Ag.okB = true → (argsL l).length ≤ 289 * l.length
 | [], _ => by simp [argsL]
 | a :: l, h => by
   simp only [List.all_cons, Bool.and_eq_true] at h
   have h1 := argL_len h.1
   have h2 := argsL_len h.2
   have e : argsL (a :: l) = argL a ++ argsL l := by simp [argsL]
   rw [e]; simp; omega
theorem linesL_len : ∀ (d : Nat) (l : List St), xxc d l = true → (xxb l).length ≤ 400 * St.cntL l := by
 intro d
 induction d with
 | zero => intro l h; simp [xxc] at h
 | succ d ih =>
   intro l h
   simp only [xxc, Bool.and_eq_true, List.all_eq_true] at h
   obtain ⟨-, h⟩ := h
   induction l with
   | nil => simp [linesL_nil]
   | cons s l ihl =>
     have hl := ihl (fun x hx => h x (by simp [hx]))
     have hs := stOk_get (h s (by simp))
     rw [linesL_cons, St.cntL_cons, St.cnt_eq, List.length_append, lineL_eq]
     cases hs with
     | let_ k n e => have := nameOk_len n; have := say4_len e; simp [k, bn]; omega
     | lend k n p => have := nameOk_len n; have := atL_len p; simp [k, bn]; omega
     | set k p e => have := atL_len p; have := say4_len e; simp [k, bn]; omega
     | call k n f a =>
       simp only [argsOk, Bool.and_eq_true] at a
       have := nameOk_len n; have := nameOk_len f; have := argsL_len a.2; simp [k, bn]; omega
     | if_ k e t l => have := say4_len e; have := ih _ t; have := ih _ l; simp [k, bn]; omega
     | pick k n p o e => have := nameOk_len n; have := atL_len p; have := atL_len o; have := say4_len e; simp [k, bn]; omega
end Go.Xl
namespace Go.Xl
open Nat renaming reduceEqDiff → rE, reduceAdd → rA, reduceLeDiff → rL
section
variable {P : Program} {F : Ids}
theorem argsL_snoc (l : List Ag) (a : Ag) : argsL (l ++ [a]) = argsL l ++ argL a := by simp [argsL]
theorem c_l2Lines (L : Lib P F) : ∀ (d : Nat), d ≤ 10 → ∀ (l : List St), St.cntL l ≤ 2 ^ 20 → xxc d l = true → Pure1 P F.s_l2Lines [.sl 15 none (St.encs l)] (Tx (xxb l)) := by
 intro d
 induction d with
 | zero => intro _ l _ h; simp [xxc] at h
 | succ d ih =>
   intro hd l hcnt hok
   have ih := ih (by omega)
   have hlen := St.len_le l
   have htot := linesL_len (d + 1) l hok
   refine L.s_l2Lines (by simp [x_s_l2Lines]) ?_
   simp only [x_s_l2Lines, bl_eq, go_sem, rE, St.zzk]
   refine yyc l.length (fun k E H => E 0 = .sl 15 none (l.map St.enc) ∧ E 3 = Tx (xxb (l.take k)) ∧ E 4 = I k) ⟨rfl, by simp [go_sem, linesL_nil, bn], rfl⟩ ?_
   rintro k E H hk ⟨e0, e3, e4⟩
   simp only [go_sem, rE, e0, e4, List.length_map]
   refine zzn (fun hlt => ?_) (fun hge => ?_)
   ·have hk1 : k < l.length := by omega
    have w1 := yya (n := (k : Int) + 1) (by omega) (by omega)
    have hm := cnt_mem (List.getElem_mem hk1)
    obtain ⟨cs, hcs, C⟩ := stC l[k]
    have hg : (l.map St.enc)[k]? = some cs := by rw [← hcs]; exact st_get hk1
    have hs : StF (xxc d) l[k] := by
     simp only [xxc, Bool.and_eq_true, List.all_eq_true] at hok
     exact stOk_get (hok.2 _ (List.getElem_mem hk1))
    have htk : xxb (l.take (k + 1)) = xxb (l.take k) ++ lineL l[k] := by
     rw [List.take_succ_eq_append_getElem hk1, linesL_append, linesL_cons, linesL_nil, List.append_nil]
    have hbd : (xxb (l.take k)).length ≤ 400 * 2 ^ 20 := by
     have : xxb l = xxb (l.take k) ++ xxb (l.drop k) := by rw [← linesL_append, List.take_append_drop]
     have := congrArg List.length this
     rw [List.length_append] at this
     omega
    have hline := lineL_eq l[k]
    rw [St.cnt_eq] at hm
    generalize l[k] = s at *
    generalize xxb (l.take k) = out at *
    simp only [go_sem, rE, rA, e0, e3, e4, hg, C.len, C.all]
    intro b5 hb5
    have next : ∀ (E' : Env) (H' : Heap), H.sub H' → E' 0 = .sl 15 none (l.map St.enc) → E' 3 = Tx (out ++ lineL s) → E' 4 = I (k + 1 : Nat) →
     k < l.length ∧ ∃ H'', Heap.sub H'' H' ∧ E' 0 = .sl 15 none (l.map St.enc) ∧ E' 3 = Tx (xxb (l.take (k + 1))) ∧ E' 4 = I (k + 1 : Nat) :=
     fun E' H' hs h0 h3 h4 => ⟨hk1, H', Heap.zzm _, h0, by rw [htk]; exact h3, h4⟩
    have g5 : (H.set b5 (.cells cs)).get b5 = some (.cells cs) := Heap.zzb _ _ _
    have hsub : H.sub (H.set b5 (.cells cs)) := sub_set hb5
    generalize H.set b5 (.cells cs) = H5 at *
    have ck := C.kind
    cases hs with
    | let_ hkk n e =>
      rw [hkk] at ck hline
      simp only [Int.reduceEq, if_true, if_false] at hline
      have n6 := nameOk_len n; rw [yyj] at n6
      have e285 := say4_len e
      have s1 := sadd (a := out) (b := bn [108, 101, 116, 32]) (by simp only [List.length_append, yyj, bn, List.length_map, List.length_cons, List.length_nil, LIM]; omega)
      have s2 := sadd_r (a := out ++ bn [108, 101, 116, 32]) (b := s.name) (by simp only [List.length_append, yyj, bn, List.length_map, List.length_cons, List.length_nil, LIM]; omega)
      have s3 := sadd (a := out ++ bn [108, 101, 116, 32] ++ by_ (s.name)) (b := bn [32]) (by simp only [List.length_append, yyj, bn, List.length_map, List.length_cons, List.length_nil, LIM]; omega)
      have s4 := sadd (a := out ++ bn [108, 101, 116, 32] ++ by_ (s.name) ++ bn [32]) (b := sayL s.expr) (by simp only [List.length_append, yyj, bn, List.length_map, List.length_cons, List.length_nil, LIM]; omega)
      have s5 := sadd (a := out ++ bn [108, 101, 116, 32] ++ by_ (s.name) ++ bn [32] ++ sayL s.expr) (b := bn [10]) (by simp only [List.length_append, yyj, bn, List.length_map, List.length_cons, List.length_nil, LIM]; omega)
      simp only [bl_eq, go_sem, rE, rA, e3, e4, g5, C.len, C.name, C.place, C.other, C.expr, C.fn, C.args, C.thn, C.els, rL, chkL, List.mem_cons, List.not_mem_nil, or_false, forall_eq, false_or, reduceCtorEq, not_false_eq_true, implies_true, true_and, forall_eq_or_imp, and_true, Heap.get_empty, not_true_eq_false, ck, Int.reduceBEq, s1, s2, s3, s4, s5]
      refine zzc (c_l2Say L 4 (by omega) s.expr e) (by simp only [go_sem, rE, Pl.enc]) ?_
      simp only [bl_eq, go_sem, rE, rA, e3, e4, g5, C.len, C.name, C.place, C.other, C.expr, C.fn, C.args, C.thn, C.els, rL, chkL, List.mem_cons, List.not_mem_nil, or_false, forall_eq, false_or, reduceCtorEq, not_false_eq_true, implies_true, true_and, forall_eq_or_imp, and_true, Heap.get_empty, not_true_eq_false, s1, s2, s3, s4, s5, w1, e0]
      refine ⟨hk1, H5, Heap.zzm _, ?_, rfl⟩
      rw [htk, hline]; simp only [List.append_assoc]
    | lend hkk n p =>
      rw [hkk] at ck hline
      simp only [Int.reduceEq, if_true, if_false] at hline
      have n6 := nameOk_len n; rw [yyj] at n6
      have p14 := atL_len p
      have s1 := sadd (a := out) (b := bn [108, 101, 110, 100, 32]) (by simp only [List.length_append, yyj, bn, List.length_map, List.length_cons, List.length_nil, LIM]; omega)
      have s2 := sadd_r (a := out ++ bn [108, 101, 110, 100, 32]) (b := s.name) (by simp only [List.length_append, yyj, bn, List.length_map, List.length_cons, List.length_nil, LIM]; omega)
      have s3 := sadd (a := out ++ bn [108, 101, 110, 100, 32] ++ by_ (s.name)) (b := bn [32]) (by simp only [List.length_append, yyj, bn, List.length_map, List.length_cons, List.length_nil, LIM]; omega)
      have s4 := sadd (a := out ++ bn [108, 101, 110, 100, 32] ++ by_ (s.name) ++ bn [32]) (b := atL s.place) (by simp only [List.length_append, yyj, bn, List.length_map, List.length_cons, List.length_nil, LIM]; omega)
      have s5 := sadd (a := out ++ bn [108, 101, 110, 100, 32] ++ by_ (s.name) ++ bn [32] ++ atL s.place) (b := bn [10]) (by simp only [List.length_append, yyj, bn, List.length_map, List.length_cons, List.length_nil, LIM]; omega)
      simp only [bl_eq, go_sem, rE, rA, e3, e4, g5, C.len, C.name, C.place, C.other, C.expr, C.fn, C.args, C.thn, C.els, rL, chkL, List.mem_cons, List.not_mem_nil, or_false, forall_eq, false_or, reduceCtorEq, not_false_eq_true, implies_true, true_and, forall_eq_or_imp, and_true, Heap.get_empty, not_true_eq_false, ck, Int.reduceBEq, s1, s2, s3, s4, s5]
      refine zzc (c_l2At L s.place p) (by simp only [go_sem, rE, Pl.enc]) ?_
      simp only [bl_eq, go_sem, rE, rA, e3, e4, g5, C.len, C.name, C.place, C.other, C.expr, C.fn, C.args, C.thn, C.els, rL, chkL, List.mem_cons, List.not_mem_nil, or_false, forall_eq, false_or, reduceCtorEq, not_false_eq_true, implies_true, true_and, forall_eq_or_imp, and_true, Heap.get_empty, not_true_eq_false, s1, s2, s3, s4, s5, w1, e0]
      refine ⟨hk1, H5, Heap.zzm _, ?_, rfl⟩
      rw [htk, hline]; simp only [List.append_assoc]
    | set hkk p e =>
      rw [hkk] at ck hline
      simp only [Int.reduceEq, if_true, if_false] at hline
      have p14 := atL_len p
      have e285 := say4_len e
      have s1 := sadd (a := out) (b := bn [115, 101, 116, 32]) (by simp only [List.length_append, yyj, bn, List.length_map, List.length_cons, List.length_nil, LIM]; omega)
      have s2 := sadd (a := out ++ bn [115, 101, 116, 32]) (b := atL s.place) (by simp only [List.length_append, yyj, bn, List.length_map, List.length_cons, List.length_nil, LIM]; omega)
      have s3 := sadd (a := out ++ bn [115, 101, 116, 32] ++ atL s.place) (b := bn [32]) (by simp only [List.length_append, yyj, bn, List.length_map, List.length_cons, List.length_nil, LIM]; omega)
      have s4 := sadd (a := out ++ bn [115, 101, 116, 32] ++ atL s.place ++ bn [32]) (b := sayL s.expr) (by simp only [List.length_append, yyj, bn, List.length_map, List.length_cons, List.length_nil, LIM]; omega)
      have s5 := sadd (a := out ++ bn [115, 101, 116, 32] ++ atL s.place ++ bn [32] ++ sayL s.expr) (b := bn [10]) (by simp only [List.length_append, yyj, bn, List.length_map, List.length_cons, List.length_nil, LIM]; omega)
      simp only [bl_eq, go_sem, rE, rA, e3, e4, g5, C.len, C.name, C.place, C.other, C.expr, C.fn, C.args, C.thn, C.els, rL, chkL, List.mem_cons, List.not_mem_nil, or_false, forall_eq, false_or, reduceCtorEq, not_false_eq_true, implies_true, true_and, forall_eq_or_imp, and_true, Heap.get_empty, not_true_eq_false, ck, Int.reduceBEq, s1, s2, s3, s4, s5]
      refine zzc (c_l2At L s.place p) (by simp only [go_sem, rE, Pl.enc]) ?_
      simp only [bl_eq, go_sem, rE, rA, e3, e4, g5, C.len, C.name, C.place, C.other, C.expr, C.fn, C.args, C.thn, C.els, rL, chkL, List.mem_cons, List.not_mem_nil, or_false, forall_eq, false_or, reduceCtorEq, not_false_eq_true, implies_true, true_and, forall_eq_or_imp, and_true, Heap.get_empty, not_true_eq_false, s1, s2, s3, s4, s5, w1, e0]
      refine zzc (c_l2Say L 4 (by omega) s.expr e) (by simp only [go_sem, rE, Pl.enc]) ?_
      simp only [bl_eq, go_sem, rE, rA, e3, e4, g5, C.len, C.name, C.place, C.other, C.expr, C.fn, C.args, C.thn, C.els, rL, chkL, List.mem_cons, List.not_mem_nil, or_false, forall_eq, false_or, reduceCtorEq, not_false_eq_true, implies_true, true_and, forall_eq_or_imp, and_true, Heap.get_empty, not_true_eq_false, s1, s2, s3, s4, s5, w1, e0]
      refine ⟨hk1, H5, Heap.zzm _, ?_, rfl⟩
      rw [htk, hline]; simp only [List.append_assoc]
    | pick hkk n p o e =>
      rw [hkk] at ck hline
      simp only [Int.reduceEq, if_true, if_false] at hline
      have n6 := nameOk_len n; rw [yyj] at n6
      have p14 := atL_len p
      have o14 := atL_len o
      have e285 := say4_len e
      have s1 := sadd (a := out) (b := bn [112, 105, 99, 107, 32]) (by simp only [List.length_append, yyj, bn, List.length_map, List.length_cons, List.length_nil, LIM]; omega)
      have s2 := sadd_r (a := out ++ bn [112, 105, 99, 107, 32]) (b := s.name) (by simp only [List.length_append, yyj, bn, List.length_map, List.length_cons, List.length_nil, LIM]; omega)
      have s3 := sadd (a := out ++ bn [112, 105, 99, 107, 32] ++ by_ (s.name)) (b := bn [32]) (by simp only [List.length_append, yyj, bn, List.length_map, List.length_cons, List.length_nil, LIM]; omega)
      have s4 := sadd (a := out ++ bn [112, 105, 99, 107, 32] ++ by_ (s.name) ++ bn [32]) (b := atL s.place) (by simp only [List.length_append, yyj, bn, List.length_map, List.length_cons, List.length_nil, LIM]; omega)
      have s5 := sadd (a := out ++ bn [112, 105, 99, 107, 32] ++ by_ (s.name) ++ bn [32] ++ atL s.place) (b := bn [32]) (by simp only [List.length_append, yyj, bn, List.length_map, List.length_cons, List.length_nil, LIM]; omega)
      have s6 := sadd (a := out ++ bn [112, 105, 99, 107, 32] ++ by_ (s.name) ++ bn [32] ++ atL s.place ++ bn [32]) (b := atL s.other) (by simp only [List.length_append, yyj, bn, List.length_map, List.length_cons, List.length_nil, LIM]; omega)
      have s7 := sadd (a := out ++ bn [112, 105, 99, 107, 32] ++ by_ (s.name) ++ bn [32] ++ atL s.place ++ bn [32] ++ atL s.other) (b := bn [32]) (by simp only [List.length_append, yyj, bn, List.length_map, List.length_cons, List.length_nil, LIM]; omega)
      have s8 := sadd (a := out ++ bn [112, 105, 99, 107, 32] ++ by_ (s.name) ++ bn [32] ++ atL s.place ++ bn [32] ++ atL s.other ++ bn [32]) (b := sayL s.expr) (by simp only [List.length_append, yyj, bn, List.length_map, List.length_cons, List.length_nil, LIM]; omega)
      have s9 := sadd (a := out ++ bn [112, 105, 99, 107, 32] ++ by_ (s.name) ++ bn [32] ++ atL s.place ++ bn [32] ++ atL s.other ++ bn [32] ++ sayL s.expr) (b := bn [10]) (by simp only [List.length_append, yyj, bn, List.length_map, List.length_cons, List.length_nil, LIM]; omega)
      simp only [bl_eq, go_sem, rE, rA, e3, e4, g5, C.len, C.name, C.place, C.other, C.expr, C.fn, C.args, C.thn, C.els, rL, chkL, List.mem_cons, List.not_mem_nil, or_false, forall_eq, false_or, reduceCtorEq, not_false_eq_true, implies_true, true_and, forall_eq_or_imp, and_true, Heap.get_empty, not_true_eq_false, ck, Int.reduceBEq, s1, s2, s3, s4, s5, s6, s7, s8, s9]
      refine zzc (c_l2At L s.place p) (by simp only [go_sem, rE, Pl.enc]) ?_
      simp only [bl_eq, go_sem, rE, rA, e3, e4, g5, C.len, C.name, C.place, C.other, C.expr, C.fn, C.args, C.thn, C.els, rL, chkL, List.mem_cons, List.not_mem_nil, or_false, forall_eq, false_or, reduceCtorEq, not_false_eq_true, implies_true, true_and, forall_eq_or_imp, and_true, Heap.get_empty, not_true_eq_false, s1, s2, s3, s4, s5, s6, s7, s8, s9, w1, e0]
      refine zzc (c_l2At L s.other o) (by simp only [go_sem, rE, Pl.enc]) ?_
      simp only [bl_eq, go_sem, rE, rA, e3, e4, g5, C.len, C.name, C.place, C.other, C.expr, C.fn, C.args, C.thn, C.els, rL, chkL, List.mem_cons, List.not_mem_nil, or_false, forall_eq, false_or, reduceCtorEq, not_false_eq_true, implies_true, true_and, forall_eq_or_imp, and_true, Heap.get_empty, not_true_eq_false, s1, s2, s3, s4, s5, s6, s7, s8, s9, w1, e0]
      refine zzc (c_l2Say L 4 (by omega) s.expr e) (by simp only [go_sem, rE, Pl.enc]) ?_
      simp only [bl_eq, go_sem, rE, rA, e3, e4, g5, C.len, C.name, C.place, C.other, C.expr, C.fn, C.args, C.thn, C.els, rL, chkL, List.mem_cons, List.not_mem_nil, or_false, forall_eq, false_or, reduceCtorEq, not_false_eq_true, implies_true, true_and, forall_eq_or_imp, and_true, Heap.get_empty, not_true_eq_false, s1, s2, s3, s4, s5, s6, s7, s8, s9, w1, e0]
      refine ⟨hk1, H5, Heap.zzm _, ?_, rfl⟩
      rw [htk, hline]; simp only [List.append_assoc]
    | if_ hkk e t lo =>
      rw [hkk] at ck hline
      simp only [Int.reduceEq, if_true, if_false] at hline
      have e285 := say4_len e
      have t1 := linesL_len d _ t
      have t2 := linesL_len d _ lo
      have s1 := sadd (a := out) (b := bn [105, 102, 32]) (by simp only [List.length_append, yyj, bn, List.length_map, List.length_cons, List.length_nil, LIM]; omega)
      have s2 := sadd (a := out ++ bn [105, 102, 32]) (b := sayL s.expr) (by simp only [List.length_append, yyj, bn, List.length_map, List.length_cons, List.length_nil, LIM]; omega)
      have s3 := sadd (a := out ++ bn [105, 102, 32] ++ sayL s.expr) (b := bn [10]) (by simp only [List.length_append, yyj, bn, List.length_map, List.length_cons, List.length_nil, LIM]; omega)
      have s4 := sadd (a := out ++ bn [105, 102, 32] ++ sayL s.expr ++ bn [10]) (b := xxb s.thn) (by simp only [List.length_append, yyj, bn, List.length_map, List.length_cons, List.length_nil, LIM]; omega)
      have s5 := sadd (a := out ++ bn [105, 102, 32] ++ sayL s.expr ++ bn [10] ++ xxb s.thn) (b := bn [101, 108, 115, 101, 10]) (by simp only [List.length_append, yyj, bn, List.length_map, List.length_cons, List.length_nil, LIM]; omega)
      have s6 := sadd (a := out ++ bn [105, 102, 32] ++ sayL s.expr ++ bn [10] ++ xxb s.thn ++ bn [101, 108, 115, 101, 10]) (b := xxb s.els) (by simp only [List.length_append, yyj, bn, List.length_map, List.length_cons, List.length_nil, LIM]; omega)
      have s7 := sadd (a := out ++ bn [105, 102, 32] ++ sayL s.expr ++ bn [10] ++ xxb s.thn ++ bn [101, 108, 115, 101, 10] ++ xxb s.els) (b := bn [101, 110, 100, 10]) (by simp only [List.length_append, yyj, bn, List.length_map, List.length_cons, List.length_nil, LIM]; omega)
      simp only [bl_eq, go_sem, rE, rA, e3, e4, g5, C.len, C.name, C.place, C.other, C.expr, C.fn, C.args, C.thn, C.els, rL, chkL, List.mem_cons, List.not_mem_nil, or_false, forall_eq, false_or, reduceCtorEq, not_false_eq_true, implies_true, true_and, forall_eq_or_imp, and_true, Heap.get_empty, not_true_eq_false, ck, Int.reduceBEq, s1, s2, s3, s4, s5, s6, s7]
      refine zzc (c_l2Say L 4 (by omega) s.expr e) (by simp only [go_sem, rE, Pl.enc]) ?_
      simp only [bl_eq, go_sem, rE, rA, e3, e4, g5, C.len, C.name, C.place, C.other, C.expr, C.fn, C.args, C.thn, C.els, rL, chkL, List.mem_cons, List.not_mem_nil, or_false, forall_eq, false_or, reduceCtorEq, not_false_eq_true, implies_true, true_and, forall_eq_or_imp, and_true, Heap.get_empty, not_true_eq_false, s1, s2, s3, s4, s5, s6, s7, w1, e0]
      refine zzc (ih s.thn (by omega) t) (by simp only [go_sem, rE, Pl.enc]) ?_
      simp only [bl_eq, go_sem, rE, rA, e3, e4, g5, C.len, C.name, C.place, C.other, C.expr, C.fn, C.args, C.thn, C.els, rL, chkL, List.mem_cons, List.not_mem_nil, or_false, forall_eq, false_or, reduceCtorEq, not_false_eq_true, implies_true, true_and, forall_eq_or_imp, and_true, Heap.get_empty, not_true_eq_false, s1, s2, s3, s4, s5, s6, s7, w1, e0]
      refine zzc (ih s.els (by omega) lo) (by simp only [go_sem, rE, Pl.enc]) ?_
      simp only [bl_eq, go_sem, rE, rA, e3, e4, g5, C.len, C.name, C.place, C.other, C.expr, C.fn, C.args, C.thn, C.els, rL, chkL, List.mem_cons, List.not_mem_nil, or_false, forall_eq, false_or, reduceCtorEq, not_false_eq_true, implies_true, true_and, forall_eq_or_imp, and_true, Heap.get_empty, not_true_eq_false, s1, s2, s3, s4, s5, s6, s7, w1, e0]
      refine ⟨hk1, H5, Heap.zzm _, ?_, rfl⟩
      rw [htk, hline]; simp only [List.append_assoc]
    | call hkk n f a =>
      rw [hkk] at ck hline
      simp only [Int.reduceEq, if_true, if_false] at hline
      have n6 := nameOk_len n; rw [yyj] at n6
      have f6 := nameOk_len f; rw [yyj] at f6
      simp only [argsOk, Bool.and_eq_true, decide_eq_true_eq] at a
      obtain ⟨a4, aall⟩ := a
      have s1 := sadd (a := out) (b := bn [99, 97, 108, 108, 32]) (by simp only [List.length_append, yyj, bn, List.length_map, List.length_cons, List.length_nil, LIM]; omega)
      have s2 := sadd_r (a := out ++ bn [99, 97, 108, 108, 32]) (b := s.name) (by simp only [List.length_append, yyj, bn, List.length_map, List.length_cons, List.length_nil, LIM]; omega)
      have s3 := sadd (a := out ++ bn [99, 97, 108, 108, 32] ++ by_ (s.name)) (b := bn [32]) (by simp only [List.length_append, yyj, bn, List.length_map, List.length_cons, List.length_nil, LIM]; omega)
      have s4 := sadd_r (a := out ++ bn [99, 97, 108, 108, 32] ++ by_ (s.name) ++ bn [32]) (b := s.fn) (by simp only [List.length_append, yyj, bn, List.length_map, List.length_cons, List.length_nil, LIM]; omega)
      simp only [bl_eq, go_sem, rE, rA, e3, e4, g5, C.len, C.name, C.place, C.other, C.expr, C.fn, C.args, C.thn, C.els, rL, chkL, List.mem_cons, List.not_mem_nil, or_false, forall_eq, false_or, reduceCtorEq, not_false_eq_true, implies_true, true_and, forall_eq_or_imp, and_true, Heap.get_empty, not_true_eq_false, ck, Int.reduceBEq, s1, s2, s3, s4]
      obtain ⟨o4, ho4⟩ : ∃ o4, o4 = out ++ bn [99, 97, 108, 108, 32] ++ by_ (s.name) ++ bn [32] ++ by_ (s.fn) := ⟨_, rfl⟩
      rw [← ho4]
      have lo4 : o4.length ≤ 400 * 2 ^ 20 + 100 := by rw [ho4]; simp only [List.length_append, yyj, bn, List.length_map, List.length_cons, List.length_nil]; omega
      refine yyc s.args.length (fun j E H => E 0 = .sl 15 none (l.map St.enc) ∧ E 3 = Tx (o4 ++ argsL (s.args.take j)) ∧ E 4 = I k ∧ E 5 = .ptr b5 0 ∧ E 6 = I j ∧ H.get b5 = some (.cells cs)) ⟨by simp [go_sem, e0], by simp [go_sem, argsL], by simp [go_sem, e4], by simp [go_sem], by simp [go_sem], g5⟩ ?_
      clear e0 e3 e4 g5
      rintro j E H hj ⟨e0, e3, e4, e5, e6, g5⟩
      simp only [bl_eq, go_sem, rE, rA, e4, g5, C.len, C.name, C.place, C.other, C.expr, C.fn, C.args, C.thn, C.els, rL, chkL, List.mem_cons, List.not_mem_nil, or_false, forall_eq, false_or, reduceCtorEq, not_false_eq_true, implies_true, true_and, forall_eq_or_imp, and_true, Heap.get_empty, not_true_eq_false, e5, e6, List.length_map]
      refine zzn (fun hlt => ?_) (fun hge => ?_)
      ·have hj1 : j < s.args.length := by omega
       have w2 := yya (n := (j : Int) + 1) (by omega) (by omega)
       obtain ⟨ca, hca, CA⟩ := agC s.args[j]
       have hga : (s.args.map Ag.enc)[j]? = some ca := by rw [← hca]; simp [hj1]
       have haj : s.args[j].okB = true := (List.all_eq_true.1 aall) _ (List.getElem_mem hj1)
       have laj : (argsL (s.args.take j)).length ≤ 289 * 4 := by
        have := argsL_len (l := s.args.take j) (by rw [List.all_eq_true] at aall ⊢; exact fun x hx => aall x (List.mem_of_mem_take hx))
        have h2 : (s.args.take j).length ≤ 4 := by rw [List.length_take]; omega
        omega
       have hsn : argsL (s.args.take (j + 1)) = argsL (s.args.take j) ++ argL s.args[j] := by rw [List.take_succ_eq_append_getElem hj1, argsL_snoc]
       rw [hsn]
       generalize argsL (s.args.take j) = aa at *
       generalize s.args[j] = ag at *
       have cl := CA.lent
       simp only [Ag.okB] at haj
       unfold argL
       cases hl : ag.lent
       ·rw [hl] at cl haj
        rw [if_neg (by simp)] at haj
        simp only [Bool.and_eq_true] at haj
        have h285 := say4_len haj.2
        have t1 := sadd (a := o4 ++ aa) (b := bn [32, 111, 102, 32]) (by simp only [List.length_append, yyj, bn, List.length_map, List.length_cons, List.length_nil, LIM]; omega)
        have t2 := sadd (a := o4 ++ aa ++ bn [32, 111, 102, 32]) (b := sayL ag.expr) (by simp only [List.length_append, yyj, bn, List.length_map, List.length_cons, List.length_nil, LIM]; omega)
        simp only [bl_eq, go_sem, rE, rA, e4, g5, C.len, C.name, C.place, C.other, C.expr, C.fn, C.args, C.thn, C.els, rL, chkL, List.mem_cons, List.not_mem_nil, or_false, forall_eq, false_or, reduceCtorEq, not_false_eq_true, implies_true, true_and, forall_eq_or_imp, and_true, Heap.get_empty, not_true_eq_false, e3, e5, e6, hga, cl, CA.len, CA.place, CA.expr, List.length_drop, Nat.reduceSub, t1]
        refine zzc (c_l2Say L 4 (by omega) ag.expr haj.2) (by simp only [go_sem, rE, Pl.enc]) ?_
        simp only [bl_eq, go_sem, rE, rA, e4, g5, C.len, C.name, C.place, C.other, C.expr, C.fn, C.args, C.thn, C.els, rL, chkL, List.mem_cons, List.not_mem_nil, or_false, forall_eq, false_or, reduceCtorEq, not_false_eq_true, implies_true, true_and, forall_eq_or_imp, and_true, Heap.get_empty, not_true_eq_false, e3, e5, e6, t2, w2, e0, Bool.false_eq_true]
        exact ⟨hj1, H, Heap.zzm _, by simp only [List.append_assoc], rfl, g5⟩
       ·rw [hl] at cl haj
        rw [if_pos rfl] at haj
        simp only [Bool.and_eq_true] at haj
        have h285 := atL_len haj.1
        have t1 := sadd (a := o4 ++ aa) (b := bn [32, 116, 111, 32]) (by simp only [List.length_append, yyj, bn, List.length_map, List.length_cons, List.length_nil, LIM]; omega)
        have t2 := sadd (a := o4 ++ aa ++ bn [32, 116, 111, 32]) (b := atL ag.place) (by simp only [List.length_append, yyj, bn, List.length_map, List.length_cons, List.length_nil, LIM]; omega)
        simp only [bl_eq, go_sem, rE, rA, e4, g5, C.len, C.name, C.place, C.other, C.expr, C.fn, C.args, C.thn, C.els, rL, chkL, List.mem_cons, List.not_mem_nil, or_false, forall_eq, false_or, reduceCtorEq, not_false_eq_true, implies_true, true_and, forall_eq_or_imp, and_true, Heap.get_empty, not_true_eq_false, e3, e5, e6, hga, cl, CA.len, CA.place, CA.expr, List.length_drop, Nat.reduceSub, t1]
        refine zzc (c_l2At L ag.place haj.1) (by simp only [go_sem, rE, Pl.enc]) ?_
        simp only [bl_eq, go_sem, rE, rA, e4, g5, C.len, C.name, C.place, C.other, C.expr, C.fn, C.args, C.thn, C.els, rL, chkL, List.mem_cons, List.not_mem_nil, or_false, forall_eq, false_or, reduceCtorEq, not_false_eq_true, implies_true, true_and, forall_eq_or_imp, and_true, Heap.get_empty, not_true_eq_false, e3, e5, e6, t2, w2, e0, Bool.false_eq_true]
        exact ⟨hj1, H, Heap.zzm _, by simp only [List.append_assoc], rfl, g5⟩
      ·have hjj : j = s.args.length := by omega
       subst hjj
       rw [List.take_length] at e3
       have laj := argsL_len aall
       have t1 := sadd (a := o4 ++ argsL s.args) (b := bn [10]) (by simp only [List.length_append, yyj, bn, List.length_map, List.length_cons, List.length_nil, LIM]; omega)
       simp only [bl_eq, go_sem, rE, rA, e4, g5, C.len, C.name, C.place, C.other, C.expr, C.fn, C.args, C.thn, C.els, rL, chkL, List.mem_cons, List.not_mem_nil, or_false, forall_eq, false_or, reduceCtorEq, not_false_eq_true, implies_true, true_and, forall_eq_or_imp, and_true, Heap.get_empty, not_true_eq_false, e3, e5, e6, t1, w1, e0]
       refine ⟨hk1, H, Heap.zzm _, ?_, rfl⟩
       rw [htk, hline, ho4]; simp only [List.append_assoc]
   ·have hkk : k = l.length := by omega
    subst hkk
    rw [List.take_length] at e3
    simp only [go_sem, rE, e3]
    exact zzd (.refl _) (Heap.zzf _) ⟨rfl, rfl⟩
end
end Go.Xl
namespace Go.Xl
open Nat renaming reduceEqDiff → rE, reduceAdd → rA, reduceLeDiff → rL
def paL (p : Pa) : List UInt8 := (if p.lent then bn [108, 101, 110, 116, 32] else bn [104, 97, 115, 32]) ++ by_ p.name ++ bn [32] ++ typL p.type ++ bn [10]
def endL (f : Fu) : List UInt8 := if f.lent then bn [103, 105, 118, 101, 115, 32] ++ typL f.type ++ bn [32] ++ atL f.gives ++ bn [10] else bn [115, 97, 121, 115, 32] ++ typL f.type ++ bn [32] ++ sayL f.says ++ bn [10]
def fnL (f : Fu) : List UInt8 := bn [102, 110, 32] ++ by_ f.name ++ bn [10] ++ f.params.flatMap paL ++ xxb f.body ++ endL f
def fnsL (p : Pg) : List UInt8 := p.flatMap fnL
def writeL (p : Pg) : List UInt8 := if formOk p then (if (fnsL p).length > 6000 then [] else fnsL p) else []
theorem fnsL_snoc (p : Pg) (f : Fu) : fnsL (p ++ [f]) = fnsL p ++ fnL f := by simp [fnsL]
structure FuF (f : Fu) : Prop where
 name : yyf f.name = true
 np : f.params.length ≤ 4
 type : f.type.deepB 4 = true
 body : xxc 4 f.body = true
 num : St.numL f.body ≤ 40
 params : ∀ p ∈ f.params, yyf p.name = true ∧ p.type.deepB 4 = true
 lent : f.lent = true → f.gives.okB = true ∧ f.says.noneB = true
 says : f.lent = false → f.gives.noneB = true ∧ f.says.okD 4 = true
theorem fuF {f : Fu} (h : f.okB = true) : FuF f := by
 simp only [Fu.okB, Bool.and_eq_true, decide_eq_true_eq, List.all_eq_true] at h
 obtain ⟨h1, h2, h3, h4, h5, h6, h7⟩ := h
 refine ⟨h1, h2, h3, h4, h5, fun p hp => ?_, fun hl => ?_, fun hl => ?_⟩
 ·have := h6 p hp
  simp only [Pa.okB, Bool.and_eq_true] at this; exact this
 ·rw [if_pos hl] at h7; simpa using h7
 ·rw [if_neg (by simp [hl])] at h7; simpa using h7
theorem typL4 {t : Ty} (h : t.deepB 4 = true) : (typL t).length ≤ 29 := by have := typL_len 4 t h; omega
theorem paL_len {p : Pa} (h : yyf p.name = true ∧ p.type.deepB 4 = true) : (paL p).length ≤ 50 := by
 have := nameOk_len h.1; have := typL4 h.2
 unfold paL; split <;> simp [bn] <;> omega
theorem paL_all : ∀ {l : List Pa}, (∀ p ∈ l, yyf p.name = true ∧ p.type.deepB 4 = true) → (l.flatMap paL).length ≤ 50 * l.length
 | [], _ => by simp
 | p :: l, h => by
   have := paL_len (h p (by simp)); have := paL_all (l := l) (fun q hq => h q (by simp [hq]))
   simp only [List.flatMap_cons, List.length_append, List.length_cons]; omega
theorem endL_len {f : Fu} (h : FuF f) : (endL f).length ≤ 400 := by
 unfold endL
 have := typL4 h.type
 split <;> rename_i hl
 ·have := atL_len (h.lent hl).1; simp [bn]; omega
 ·have := say4_len (h.says (by simpa using hl)).2; simp [bn]; omega
theorem fnL_len {f : Fu} (h : FuF f) (hc : St.cntL f.body ≤ 2 ^ 20) : (fnL f).length ≤ 400 * 2 ^ 20 + 1000 := by
 have := nameOk_len h.name
 have := paL_all h.params
 have := endL_len h
 have := linesL_len 4 _ h.body
 have := h.np
 unfold fnL; simp [bn] at *; omega
theorem fnsL_len : ∀ {p : Pg}, (∀ f ∈ p, FuF f ∧ St.cntL f.body ≤ 2 ^ 20) → (fnsL p).length ≤ (400 * 2 ^ 20 + 1000) * p.length
 | [], _ => by simp [fnsL]
 | f :: p, h => by
   have h1 := fnL_len (h f (by simp)).1 (h f (by simp)).2
   have h2 := fnsL_len (p := p) (fun g hg => h g (by simp [hg]))
   have e : fnsL (f :: p) = fnL f ++ fnsL p := by simp [fnsL]
   rw [e, List.length_append, List.length_cons, Nat.mul_add]; omega
section
variable {P : Program} {F : Ids}
theorem c_ProgWrite (L : Lib P F) (p : Pg) (hc : ∀ f ∈ p, St.cntL f.body ≤ 2 ^ 20) : Pure1 P F.s_ProgWrite [.agg (Pg.enc p)] (Tx (writeL p)) := by
 refine L.s_ProgWrite (by simp [x_s_ProgWrite]) ?_
 simp only [x_s_ProgWrite, bl_eq, go_sem, rE, rA, Pg.enc, rL]
 intro b1 hb1
 refine zzc (c_l2Form L p (fun f hf => Nat.le_trans (hc f hf) (by decide))) (by simp only [go_sem, rE, Pg.enc]) ?_
 have g1 : (Heap.empty.set b1 (.cells [.sl 12 none (p.map Fu.enc)])).get b1 = some (.cells [.sl 12 none (p.map Fu.enc)]) := Heap.zzb _ _ _
 generalize Heap.empty.set b1 (.cells [.sl 12 none (p.map Fu.enc)]) = H1 at *
 cases hok : formOk p
 ·simp only [go_sem, rE]
  exact zzd (.refl _) (Heap.zzf _) ⟨by simp only [go_sem, writeL, hok, Bool.false_eq_true, if_false]; rfl, rfl⟩
 ·simp only [go_sem, rE]
  have hform : p.length ≤ 5 ∧ ∀ f ∈ p, FuF f ∧ St.cntL f.body ≤ 2 ^ 20 := by
   simp only [formOk, Bool.and_eq_true, decide_eq_true_eq, List.all_eq_true] at hok
   exact ⟨hok.1, fun f hf => ⟨fuF (hok.2 f hf), hc f hf⟩⟩
  have htot := fnsL_len hform.2
  have hp5 := hform.1
  refine yyc p.length (fun k E H => E 1 = .ptr b1 0 ∧ E 3 = Tx (fnsL (p.take k)) ∧ E 4 = I k ∧ H.get b1 = some (.cells [.sl 12 none (p.map Fu.enc)])) ⟨rfl, by simp [go_sem, fnsL, bn], rfl, g1⟩ ?_
  clear g1
  rintro k E H hk ⟨e1, e3, e4, g1⟩
  simp only [go_sem, rE, rA, e1, e4, g1, List.length_map]
  refine zzn (fun hlt => ?_) (fun hge => ?_)
  ·have hk1 : k < p.length := by omega
   have w1 := yya (n := (k : Int) + 1) (by omega) (by omega)
   obtain ⟨cs, hcs, C⟩ := fuC p[k]
   have hg : (p.map Fu.enc)[k]? = some cs := by rw [← hcs]; exact fu_get hk1
   obtain ⟨hF, hcf⟩ := hform.2 _ (List.getElem_mem hk1)
   have htk : fnsL (p.take (k + 1)) = fnsL (p.take k) ++ fnL p[k] := by rw [List.take_succ_eq_append_getElem hk1, fnsL_snoc]
   have hbd : (fnsL (p.take k)).length ≤ 6 * (400 * 2 ^ 20) := by
    have := fnsL_len (p := p.take k) (fun f hf => hform.2 f (List.mem_of_mem_take hf))
    have h2 : (p.take k).length ≤ 5 := by rw [List.length_take]; omega
    have := Nat.mul_le_mul_left (400 * 2 ^ 20 + 1000) h2
    omega
   generalize p[k] = f at *
   generalize fnsL (p.take k) = out at *
   simp only [go_sem, rE, rA, e1, e3, e4, g1, hg, C.len, C.all]
   intro b5 hb5
   have d15 := zzj g1 hb5
   have g5 : (H.set b5 (.cells cs)).get b5 = some (.cells cs) := Heap.zzb _ _ _
   have g1 : (H.set b5 (.cells cs)).get b1 = some (.cells [.sl 12 none (p.map Fu.enc)]) := by rw [Heap.zza _ _ d15]; exact g1
   generalize H.set b5 (.cells cs) = H5 at *
   have n6 := nameOk_len hF.name
   rw [yyj] at n6
   have s1 := sadd (a := out) (b := bn [102, 110, 32]) (by simp only [List.length_append, yyj, bn, List.length_map, List.length_cons, List.length_nil, LIM]; omega)
   have s2 := sadd_r (a := out ++ bn [102, 110, 32]) (b := f.name) (by simp only [List.length_append, yyj, bn, List.length_map, List.length_cons, List.length_nil, LIM]; omega)
   have s3 := sadd (a := out ++ bn [102, 110, 32] ++ by_ (f.name)) (b := bn [10]) (by simp only [List.length_append, yyj, bn, List.length_map, List.length_cons, List.length_nil, LIM]; omega)
   simp only [bl_eq, go_sem, rE, rA, e3, e4, g5, C.len, C.name, C.params, C.lent, C.type, C.body, C.says, C.gives, rL, chkL, List.mem_cons, List.not_mem_nil, or_false, forall_eq, false_or, reduceCtorEq, not_false_eq_true, implies_true, true_and, forall_eq_or_imp, and_true, Heap.get_empty, not_true_eq_false, s1, s2, s3]
   obtain ⟨o1, ho1⟩ : ∃ o1, o1 = out ++ bn [102, 110, 32] ++ by_ (f.name) ++ bn [10] := ⟨_, rfl⟩
   rw [← ho1]
   have lo1 : o1.length ≤ 6 * (400 * 2 ^ 20) + 100 := by rw [ho1]; simp only [List.length_append, yyj, bn, List.length_map, List.length_cons, List.length_nil]; omega
   refine yyc f.params.length (fun j E H => E 1 = .ptr b1 0 ∧ E 3 = Tx (o1 ++ (f.params.take j).flatMap paL) ∧ E 4 = I k ∧ E 5 = .ptr b5 0 ∧ E 6 = I j ∧ H.get b1 = some (.cells [.sl 12 none (p.map Fu.enc)]) ∧ H.get b5 = some (.cells cs)) ⟨by simp [go_sem, e1], by simp [go_sem], by simp [go_sem, e4], by simp [go_sem], by simp [go_sem], g1, g5⟩ ?_
   clear e1 e3 e4 g1 g5
   rintro j E H hj ⟨e1, e3, e4, e5, e6, g1, g5⟩
   have hnp := hF.np
   simp only [wp_seq, bl_eq, go_sem, rE, rA, e4, g5, C.len, C.name, C.params, C.lent, C.type, C.body, C.says, C.gives, rL, chkL, List.mem_cons, List.not_mem_nil, or_false, forall_eq, false_or, reduceCtorEq, not_false_eq_true, implies_true, true_and, forall_eq_or_imp, and_true, Heap.get_empty, not_true_eq_false, e5, e6, List.length_map]
   refine zzn (fun hlt => ?_) (fun hge => ?_)
   ·have hj1 : j < f.params.length := by omega
    have w2 := yya (n := (j : Int) + 1) (by omega) (by omega)
    obtain ⟨cp, hcp, CP⟩ := paC f.params[j]
    have hgp : (f.params.map Pa.enc)[j]? = some cp := by rw [← hcp]; simp [hj1]
    have hpj := hF.params _ (List.getElem_mem hj1)
    have lpj := paL_all (l := f.params.take j) (fun q hq => hF.params q (List.mem_of_mem_take hq))
    have lj4 : (f.params.take j).length ≤ 4 := by rw [List.length_take]; omega
    have hsn : (f.params.take (j + 1)).flatMap paL = (f.params.take j).flatMap paL ++ paL f.params[j] := by rw [List.take_succ_eq_append_getElem hj1, List.flatMap_append, List.flatMap_cons, List.flatMap_nil, List.append_nil]
    generalize (f.params.take j).flatMap paL = aa at *
    generalize f.params[j] = q at *
    have cl := CP.lent1
    have q6 := nameOk_len hpj.1
    rw [yyj] at q6
    have q29 := typL4 hpj.2
    cases hl : q.lent
    ·rw [hl] at cl
     have t1 := sadd (a := o1 ++ aa) (b := bn [104, 97, 115, 32]) (by simp only [List.length_append, yyj, bn, List.length_map, List.length_cons, List.length_nil, LIM]; omega)
     have t2 := sadd_r (a := o1 ++ aa ++ bn [104, 97, 115, 32]) (b := q.name) (by simp only [List.length_append, yyj, bn, List.length_map, List.length_cons, List.length_nil, LIM]; omega)
     have t3 := sadd (a := o1 ++ aa ++ bn [104, 97, 115, 32] ++ by_ (q.name)) (b := bn [32]) (by simp only [List.length_append, yyj, bn, List.length_map, List.length_cons, List.length_nil, LIM]; omega)
     have t4 := sadd (a := o1 ++ aa ++ bn [104, 97, 115, 32] ++ by_ (q.name) ++ bn [32]) (b := typL q.type) (by simp only [List.length_append, yyj, bn, List.length_map, List.length_cons, List.length_nil, LIM]; omega)
     have t5 := sadd (a := o1 ++ aa ++ bn [104, 97, 115, 32] ++ by_ (q.name) ++ bn [32] ++ typL q.type) (b := bn [10]) (by simp only [List.length_append, yyj, bn, List.length_map, List.length_cons, List.length_nil, LIM]; omega)
     simp only [bl_eq, go_sem, rE, rA, e4, g5, C.len, C.name, C.params, rL, chkL, List.mem_cons, List.not_mem_nil, or_false, forall_eq, false_or, reduceCtorEq, not_false_eq_true, implies_true, true_and, forall_eq_or_imp, and_true, Heap.get_empty, not_true_eq_false, e3, e5, e6, hgp, cl, CP.name, CP.len, CP.type, List.length_drop, Nat.reduceSub, t1, t2, t3, t4, t5]
     refine zzc (c_l1Say L 4 (by omega) q.type hpj.2) (rfl) ?_
     simp only [bl_eq, go_sem, rE, rA, e4, g5, C.len, C.name, C.params, rL, chkL, List.mem_cons, List.not_mem_nil, or_false, forall_eq, false_or, reduceCtorEq, not_false_eq_true, implies_true, true_and, forall_eq_or_imp, and_true, Heap.get_empty, not_true_eq_false, e3, e5, e6, hgp, cl, CP.name, CP.len, CP.type, List.length_drop, Nat.reduceSub, t1, t2, t3, t4, t5, w2, e1]
     refine ⟨hj1, H, Heap.zzm _, ?_, rfl, g1, g5⟩
     rw [hsn, paL, hl]; simp [List.append_assoc]
    ·rw [hl] at cl
     have t1 := sadd (a := o1 ++ aa) (b := bn [108, 101, 110, 116, 32]) (by simp only [List.length_append, yyj, bn, List.length_map, List.length_cons, List.length_nil, LIM]; omega)
     have t2 := sadd_r (a := o1 ++ aa ++ bn [108, 101, 110, 116, 32]) (b := q.name) (by simp only [List.length_append, yyj, bn, List.length_map, List.length_cons, List.length_nil, LIM]; omega)
     have t3 := sadd (a := o1 ++ aa ++ bn [108, 101, 110, 116, 32] ++ by_ (q.name)) (b := bn [32]) (by simp only [List.length_append, yyj, bn, List.length_map, List.length_cons, List.length_nil, LIM]; omega)
     have t4 := sadd (a := o1 ++ aa ++ bn [108, 101, 110, 116, 32] ++ by_ (q.name) ++ bn [32]) (b := typL q.type) (by simp only [List.length_append, yyj, bn, List.length_map, List.length_cons, List.length_nil, LIM]; omega)
     have t5 := sadd (a := o1 ++ aa ++ bn [108, 101, 110, 116, 32] ++ by_ (q.name) ++ bn [32] ++ typL q.type) (b := bn [10]) (by simp only [List.length_append, yyj, bn, List.length_map, List.length_cons, List.length_nil, LIM]; omega)
     simp only [bl_eq, go_sem, rE, rA, e4, g5, C.len, C.name, C.params, rL, chkL, List.mem_cons, List.not_mem_nil, or_false, forall_eq, false_or, reduceCtorEq, not_false_eq_true, implies_true, true_and, forall_eq_or_imp, and_true, Heap.get_empty, not_true_eq_false, e3, e5, e6, hgp, cl, CP.name, CP.len, CP.type, List.length_drop, Nat.reduceSub, t1, t2, t3, t4, t5]
     refine zzc (c_l1Say L 4 (by omega) q.type hpj.2) (rfl) ?_
     simp only [bl_eq, go_sem, rE, rA, e4, g5, C.len, C.name, C.params, rL, chkL, List.mem_cons, List.not_mem_nil, or_false, forall_eq, false_or, reduceCtorEq, not_false_eq_true, implies_true, true_and, forall_eq_or_imp, and_true, Heap.get_empty, not_true_eq_false, e3, e5, e6, hgp, cl, CP.name, CP.len, CP.type, List.length_drop, Nat.reduceSub, t1, t2, t3, t4, t5, w2, e1]
     refine ⟨hj1, H, Heap.zzm _, ?_, rfl, g1, g5⟩
     rw [hsn, paL, hl]; simp [List.append_assoc]
   ·have hjj : j = f.params.length := by omega
    subst hjj
    rw [List.take_length] at e3
    have lp := paL_all hF.params
    have ll := linesL_len 4 _ hF.body
    have t29 := typL4 hF.type
    have cl := C.lent
    have u1 := sadd (a := o1 ++ f.params.flatMap paL) (b := xxb f.body) (by simp only [List.length_append, yyj, bn, List.length_map, List.length_cons, List.length_nil, LIM]; omega)
    simp only [bl_eq, go_sem, rE, rA, e3, e4, g5, C.len, C.name, C.params, C.lent, C.type, C.body, C.says, C.gives, rL, chkL, List.mem_cons, List.not_mem_nil, or_false, forall_eq, false_or, reduceCtorEq, not_false_eq_true, implies_true, true_and, forall_eq_or_imp, and_true, Heap.get_empty, not_true_eq_false, e1, e5, e6, u1]
    refine zzc (c_l2Lines L 4 (by omega) f.body hcf hF.body) (rfl) ?_
    obtain ⟨o2, ho2⟩ : ∃ o2, o2 = o1 ++ f.params.flatMap paL ++ xxb f.body := ⟨_, rfl⟩
    have lo2 : o2.length ≤ 8 * (400 * 2 ^ 20) + 1000 := by rw [ho2]; simp only [List.length_append]; omega
    rw [← ho2] at u1
    have hfin : out ++ fnL f = o2 ++ endL f := by rw [ho2, ho1, fnL]; simp only [List.append_assoc]
    cases hl : f.lent
    ·rw [hl] at cl
     have hx := hF.says hl
     have h285 := say4_len hx.2
     have v1 := sadd (a := o2) (b := bn [115, 97, 121, 115, 32]) (by simp only [List.length_append, yyj, bn, List.length_map, List.length_cons, List.length_nil, LIM]; omega)
     have v2 := sadd (a := o2 ++ bn [115, 97, 121, 115, 32]) (b := typL f.type) (by simp only [List.length_append, yyj, bn, List.length_map, List.length_cons, List.length_nil, LIM]; omega)
     have v3 := sadd (a := o2 ++ bn [115, 97, 121, 115, 32] ++ typL f.type) (b := bn [32]) (by simp only [List.length_append, yyj, bn, List.length_map, List.length_cons, List.length_nil, LIM]; omega)
     have v4 := sadd (a := o2 ++ bn [115, 97, 121, 115, 32] ++ typL f.type ++ bn [32]) (b := sayL f.says) (by simp only [List.length_append, yyj, bn, List.length_map, List.length_cons, List.length_nil, LIM]; omega)
     have v5 := sadd (a := o2 ++ bn [115, 97, 121, 115, 32] ++ typL f.type ++ bn [32] ++ sayL f.says) (b := bn [10]) (by simp only [List.length_append, yyj, bn, List.length_map, List.length_cons, List.length_nil, LIM]; omega)
     simp only [bl_eq, go_sem, rE, rA, e4, g5, C.len, C.name, C.params, C.type, C.body, C.says, C.gives, rL, chkL, List.mem_cons, List.not_mem_nil, or_false, forall_eq, false_or, reduceCtorEq, not_false_eq_true, implies_true, true_and, forall_eq_or_imp, and_true, Heap.get_empty, not_true_eq_false, e1, e3, e5, e6, u1, cl, v1, v2, v3, v4, v5]
     refine zzc (c_l1Say L 4 (by omega) f.type hF.type) (rfl) ?_
     simp only [bl_eq, go_sem, rE, rA, e4, g5, C.len, C.name, C.params, C.type, C.body, C.says, C.gives, rL, chkL, List.mem_cons, List.not_mem_nil, or_false, forall_eq, false_or, reduceCtorEq, not_false_eq_true, implies_true, true_and, forall_eq_or_imp, and_true, Heap.get_empty, not_true_eq_false, e1, e3, e5, e6, u1, cl, v1, v2, v3, v4, v5]
     refine zzc (c_l2Say L 4 (by omega) f.says hx.2) (by simp only [go_sem, rE, Pl.enc]) ?_
     simp only [bl_eq, go_sem, rE, rA, e4, g5, C.len, C.name, C.params, C.type, C.body, C.says, C.gives, rL, chkL, List.mem_cons, List.not_mem_nil, or_false, forall_eq, false_or, reduceCtorEq, not_false_eq_true, implies_true, true_and, forall_eq_or_imp, and_true, Heap.get_empty, not_true_eq_false, e1, e3, e5, e6, u1, cl, v1, v2, v3, v4, v5, w1]
     refine ⟨hk1, H, Heap.zzm _, ?_, rfl, g1⟩
     rw [htk, hfin, endL, hl]; simp [List.append_assoc]
    ·rw [hl] at cl
     have hx := hF.lent hl
     have h285 := atL_len hx.1
     have v1 := sadd (a := o2) (b := bn [103, 105, 118, 101, 115, 32]) (by simp only [List.length_append, yyj, bn, List.length_map, List.length_cons, List.length_nil, LIM]; omega)
     have v2 := sadd (a := o2 ++ bn [103, 105, 118, 101, 115, 32]) (b := typL f.type) (by simp only [List.length_append, yyj, bn, List.length_map, List.length_cons, List.length_nil, LIM]; omega)
     have v3 := sadd (a := o2 ++ bn [103, 105, 118, 101, 115, 32] ++ typL f.type) (b := bn [32]) (by simp only [List.length_append, yyj, bn, List.length_map, List.length_cons, List.length_nil, LIM]; omega)
     have v4 := sadd (a := o2 ++ bn [103, 105, 118, 101, 115, 32] ++ typL f.type ++ bn [32]) (b := atL f.gives) (by simp only [List.length_append, yyj, bn, List.length_map, List.length_cons, List.length_nil, LIM]; omega)
     have v5 := sadd (a := o2 ++ bn [103, 105, 118, 101, 115, 32] ++ typL f.type ++ bn [32] ++ atL f.gives) (b := bn [10]) (by simp only [List.length_append, yyj, bn, List.length_map, List.length_cons, List.length_nil, LIM]; omega)
     simp only [bl_eq, go_sem, rE, rA, e4, g5, C.len, C.name, C.params, C.type, C.body, C.says, C.gives, rL, chkL, List.mem_cons, List.not_mem_nil, or_false, forall_eq, false_or, reduceCtorEq, not_false_eq_true, implies_true, true_and, forall_eq_or_imp, and_true, Heap.get_empty, not_true_eq_false, e1, e3, e5, e6, u1, cl, v1, v2, v3, v4, v5]
     refine zzc (c_l1Say L 4 (by omega) f.type hF.type) (rfl) ?_
     simp only [bl_eq, go_sem, rE, rA, e4, g5, C.len, C.name, C.params, C.type, C.body, C.says, C.gives, rL, chkL, List.mem_cons, List.not_mem_nil, or_false, forall_eq, false_or, reduceCtorEq, not_false_eq_true, implies_true, true_and, forall_eq_or_imp, and_true, Heap.get_empty, not_true_eq_false, e1, e3, e5, e6, u1, cl, v1, v2, v3, v4, v5]
     refine zzc (c_l2At L f.gives hx.1) (by simp only [go_sem, rE, Pl.enc]) ?_
     simp only [bl_eq, go_sem, rE, rA, e4, g5, C.len, C.name, C.params, C.type, C.body, C.says, C.gives, rL, chkL, List.mem_cons, List.not_mem_nil, or_false, forall_eq, false_or, reduceCtorEq, not_false_eq_true, implies_true, true_and, forall_eq_or_imp, and_true, Heap.get_empty, not_true_eq_false, e1, e3, e5, e6, u1, cl, v1, v2, v3, v4, v5, w1]
     refine ⟨hk1, H, Heap.zzm _, ?_, rfl, g1⟩
     rw [htk, hfin, endL, hl]; simp [List.append_assoc]
  ·have hkk : k = p.length := by omega
   subst hkk
   rw [List.take_length] at e3
   simp only [go_sem, rE, e3, ofL_size]
   refine zzn (fun hgt => ?_) (fun hle => ?_)
   ·simp only [go_sem, rE]
    refine zzd (.refl _) (Heap.zzf _) ⟨?_, rfl⟩
    simp only [go_sem, writeL, hok, if_true]
    rw [if_pos (by omega)]; rfl
   ·simp only [go_sem, rE, e3]
    refine zzd (.refl _) (Heap.zzf _) ⟨?_, rfl⟩
    simp only [go_sem, writeL, hok, if_true]
    rw [if_neg (by omega)]
end
end Go.Xl
namespace Go.Xl
open Nat renaming reduceEqDiff → rE, reduceAdd → rA, reduceLeDiff → rL
structure MkAt (H : Heap) (m r : Nat) (bs : List UInt8) (e : Nat) (v : En) (VS NS : AC) (p last : Int) : Prop where
 obj : H.get m = some (.cells [.ptr r 0, .ptr e 0, I last])
 rd : H.get r = some (RdO bs p)
 env : EnvAt H e v VS NS
 mr : m ≠ r
 nm : ¬ yyb e VS NS m
 nr : ¬ yyb e VS NS r
def mkBlk (m r e : Nat) (VS NS : AC) (d : Nat) : Prop := d = m ∨ d = r ∨ yyb e VS NS d
theorem MkAt.mem {H : Heap} {m r : Nat} {bs : List UInt8} {e : Nat} {v : En} {VS NS : AC} {p last : Int} (h : MkAt H m r bs e v VS NS p last) {d : Nat} (hd : mkBlk m r e VS NS d) : H.get d ≠ none := by
 rcases hd with rfl | rfl | hd
 ·rw [h.obj]; simp
 ·rw [h.rd]; simp
 ·exact h.env.mem hd
theorem MkAt.mono {H H' : Heap} {m r : Nat} {bs : List UInt8} {e : Nat} {v : En} {VS NS : AC} {p last : Int} (h : MkAt H m r bs e v VS NS p last) (hk : ∀ d, mkBlk m r e VS NS d → H'.get d = H.get d) : MkAt H' m r bs e v VS NS p last :=
 ⟨by rw [hk m (.inl rfl)]; exact h.obj, by rw [hk r (.inr (.inl rfl))]; exact h.rd, h.env.mono fun d hd => hk d (.inr (.inr hd)), h.mr, h.nm, h.nr⟩
theorem MkAt.notin {H : Heap} {m r : Nat} {bs : List UInt8} {e : Nat} {v : En} {VS NS : AC} {p last : Int} (h : MkAt H m r bs e v VS NS p last) {b : Nat} (hb : H.get b = none) : ¬ mkBlk m r e VS NS b := fun hd => h.mem hd hb
theorem MkAt.new {H : Heap} {m r : Nat} {bs : List UInt8} {e : Nat} {v : En} {VS NS : AC} {p last : Int} (h : MkAt H m r bs e v VS NS p last) {b : Nat} (hb : H.get b = none) (o : HObj) : MkAt (H.set b o) m r bs e v VS NS p last :=
 h.mono fun d hd => Heap.zza _ _ (by rintro rfl; exact h.mem hd hb)
theorem MkAt.put {H : Heap} {m r : Nat} {bs : List UInt8} {e : Nat} {v : En} {VS NS : AC} {p last : Int} (h : MkAt H m r bs e v VS NS p last) {b : Nat} (hb : ¬ mkBlk m r e VS NS b) (o : HObj) : MkAt (H.set b o) m r bs e v VS NS p last :=
 h.mono fun d hd => Heap.zza _ _ (by rintro rfl; exact hb hd)
theorem MkAt.setR {H : Heap} {m r : Nat} {bs : List UInt8} {e : Nat} {v : En} {VS NS : AC} {p last : Int} (h : MkAt H m r bs e v VS NS p last) (p' : Int) : MkAt (H.set r (RdO bs p')) m r bs e v VS NS p' last :=
 ⟨by rw [Heap.zza _ _ h.mr]; exact h.obj, Heap.zzb _ _ _, h.env.mono fun d hd => Heap.zza _ _ (by rintro rfl; exact h.nr hd), h.mr, h.nm, h.nr⟩
theorem MkAt.setL {H : Heap} {m r : Nat} {bs : List UInt8} {e : Nat} {v : En} {VS NS : AC} {p last : Int} (h : MkAt H m r bs e v VS NS p last) (last' : Int) : MkAt (H.set m (.cells [.ptr r 0, .ptr e 0, I last'])) m r bs e v VS NS p last' :=
 ⟨Heap.zzb _ _ _, by rw [Heap.zza _ _ (Ne.symm h.mr)]; exact h.rd, h.env.mono fun d hd => Heap.zza _ _ (by rintro rfl; exact h.nm hd), h.mr, h.nm, h.nr⟩
theorem MkAt.only {H : Heap} {m r : Nat} {bs : List UInt8} {e : Nat} {v : En} {VS NS : AC} {p last : Int} (h : MkAt H m r bs e v VS NS p last) : MkAt (H.only (mkBlk m r e VS NS)) m r bs e v VS NS p last :=
 h.mono fun d hd => Heap.xxf hd
def MkC (P : Program) (g : FuncId) (as : List AC) (m r : Nat) (bs : List UInt8) (v : En) (p last : Int) (R : AC → En → Int → Int → Prop) : Prop :=
 ∀ (H : Heap) (e : Nat) (VS NS : AC), MkAt H m r bs e v VS NS p last → ACalls P g as H fun q H' => ∃ e' v' VS' NS' p' last', R q v' p' last' ∧ MkAt H' m r bs e' v' VS' NS' p' last'
theorem mk_live {m r : Nat} (hmr : m ≠ r) (N : Nat) (bs : List UInt8) (v : En) (p last : Int) : ∃ H' e VS NS, MkAt H' m r bs e v VS NS p last ∧ ∀ b, H'.get b ≠ none → b = m ∨ b = r ∨ N ≤ b := by
 let e := N + m + r + 1
 obtain ⟨H0, VS, NS, hE, hfar⟩ := env_live e (N + m + r + 1) v
 have hnm : H0.get m = none := by
  rcases Option.eq_none_or_eq_some (H0.get m) with h | ⟨o, h⟩
  ·exact h
  ·rcases hfar m (by rw [h]; simp) with h | h <;> omega
 have hnr : H0.get r = none := by
  rcases Option.eq_none_or_eq_some (H0.get r) with h | ⟨o, h⟩
  ·exact h
  ·rcases hfar r (by rw [h]; simp) with h | h <;> omega
 refine ⟨(H0.set m (.cells [.ptr r 0, .ptr e 0, I last])).set r (RdO bs p), e, VS, NS, ⟨by rw [Heap.zza _ _ hmr, Heap.zzb], Heap.zzb _ _ _, ?_, hmr, hE.notin hnm, hE.notin hnr⟩, fun b hb => ?_⟩
 ·refine hE.mono fun d hd => ?_
  rw [Heap.zza _ _ (by rintro rfl; exact hE.mem hd hnr), Heap.zza _ _ (by rintro rfl; exact hE.mem hd hnm)]
 ·by_cases h1 : b = r
  ·exact .inr (.inl h1)
  ·rw [Heap.zza _ _ h1] at hb
   by_cases h2 : b = m
   ·exact .inl h2
   ·rw [Heap.zza _ _ h2] at hb
    rcases hfar b hb with h | h
    ·exact .inr (.inr (by omega))
    ·exact .inr (.inr (by omega))
section
variable {P : Program} {dr : Bool} {K : Env → Heap → Prop} {xs : List XOper} {E : Env} {H : Heap} {l : Lds} {f : Fps}
theorem run_mk {i : Nat} {g : FuncId} {args : List XArg} {d : Option Nat} {inc : List Nat} {as as' : List AC} {m r : Nat} {bs : List UInt8} {e : Nat} {v : En} {VS NS : AC} {p last : Int} {R : AC → En → Int → Int → Prop}
 (hc : MkC P g as m r bs v p last R) (hM : MkAt H m r bs e v VS NS p last)
 (ha : args.map (XArg.ev E) = as') (hl : LeA as' as) (hlive : dr = true → ∃ q v' p' last', R q v' p' last') (hchk : chkE inc l (mkBlk m r e VS NS))
 (h : ∀ q e' v' VS' NS' p' last' H1 fp, R q v' p' last' → MkAt H1 m r bs e' v' VS' NS' p' last' → (∀ b o, H.get b = some o → ¬ mkBlk m r e VS NS b → H1.get b = some o ∧ ¬ mkBlk m r e' VS' NS' b) →
  (∀ c, fp c → mkBlk m r e VS NS c ∨ H.get c = none) → rrun P dr K xs (E.put d q) H1 l ((i, fp) :: f)) :
 rrun P dr K (⟨i, d, none, .eff (.call g args), inc⟩ :: xs) E H l f := by
 have hge : ∀ b, (H.only (mkBlk m r e VS NS)).get b ≠ none ↔ mkBlk m r e VS NS b := by
  intro b
  by_cases hb : mkBlk m r e VS NS b
  ·simp only [Heap.xxf hb, hb, iff_true]; exact hM.mem hb
  ·simp [Heap.only_none hb, hb]
 refine run_callS (mkBlk m r e VS NS) (hc (H.only (mkBlk m r e VS NS)) e VS NS hM.only) ha hl (fun hd N => ?_) ?_ ?_
 ·obtain ⟨q, v', p', last', hq⟩ := hlive hd
  obtain ⟨H', e', VS', NS', hM', hfar⟩ := mk_live hM.mr N bs v' p' last'
  refine ⟨q, H', ⟨e', v', VS', NS', p', last', hq, hM'⟩, fun b hb hn => ?_⟩
  rcases hfar b hb with rfl | rfl | h
  ·rw [Heap.xxf (.inl rfl), hM.obj] at hn; simp at hn
  ·rw [Heap.xxf (.inr (.inl rfl)), hM.rd] at hn; simp at hn
  ·exact h
 ·have : (fun b => (H.only (mkBlk m r e VS NS)).get b ≠ none) = mkBlk m r e VS NS := by funext b; exact propext (hge b)
  rw [this]; exact hchk
 ·rintro q H' H1 ⟨e', v', VS', NS', p', last', hq, hM'⟩ hsub hafter hnew -
  refine h q e' v' VS' NS' p' last' H1 _ hq (hM'.mono fun d hd => ?_) (fun b o hb hn => ⟨by rw [hafter.out b hn (by rw [hb]; simp)]; exact hb, fun h => ?_⟩) (fun c hc => ?_)
  ·obtain ⟨o, ho⟩ := Option.ne_none_iff_exists'.1 (hM'.mem hd)
   rw [ho]; exact hsub _ _ ho
  ·rcases hnew b (hM'.mem h) with h | h
   ·exact hn h
   ·rw [hb] at h; simp at h
  ·rcases hc with hc | hc
   ·exact .inl ((hge c).1 hc)
   ·exact .inr hc
end
structure En.dr (v : En) (N : Nat) : Prop where
 ok : v.ok
 up : Up v.vars
 ne : 0 < v.vars.length
 vl : v.vars.length ≤ N
 nl : v.names.length ≤ N
 p : ∀ f ∈ v.p, f.okS ∧ f.params.length ≤ 4
 pl : v.p.length ≤ 5
 fn : v.fn < v.p.length
inductive Ex.sm : Ex → Prop where
 | mk {k n : Int} {p : Pl} {ks : List Ex} (hn : n < 100) (hs : ∀ x ∈ ks, Ex.sm x) : Ex.sm (.mk k n p ks)
inductive St.sm : Nat → St → Prop where
 | mk {i : Nat} {k : Int} {n : ByteArray} {p o : Pl} {e : Ex} {f : ByteArray} {as : List Ag} {t l : List St} (he : e.sm) (ha : ∀ a ∈ as, a.expr.sm) (ht : ∀ x ∈ t, St.sm i x) (hl : ∀ x ∈ l, St.sm i x) : St.sm (i + 1) (.mk k n p o e f as t l)
theorem St.sm.next {s : St} : ∀ {i : Nat}, s.sm i → s.sm (i + 1) := by
 intro i h
 induction h with
 | mk he ha _ _ iht ihl => exact .mk he ha iht ihl
theorem St.sm.up {s : St} {i : Nat} (h : s.sm i) {j : Nat} (hj : i ≤ j) : s.sm j := by
 obtain ⟨k, rfl⟩ : ∃ k, j = i + k := ⟨j - i, by omega⟩
 clear hj
 induction k with
 | zero => exact h
 | succ k ih => exact ih.next
section
variable {P : Program} {F : Ids}
theorem c_mkName (L : Lib P F) (m r : Nat) (bs : List UInt8) (v : En) (p last : Int) (hl : 0 ≤ last) (hl2 : last ≤ 2 ^ 40) :
 MkC P F.s_l71Mk_name [.ptr m 0] m r bs v p last fun q v' p' last' => (∃ s, q = S s) ∧ v' = v ∧ p' = p ∧ last' = last + 1 := by
 intro H e VS NS hM
 refine L.s_l71Mk_name (by simp [x_s_l71Mk_name]) ?_
 have w1 := yya (n := last + 1) (by omega) (by omega)
 have hq : (last + 1).tdiv 26 = (last + 1) / 26 := Int.tdiv_eq_ediv_of_nonneg (by omega)
 have hr : (last + 1).tmod 26 = (last + 1) % 26 := Int.tmod_eq_emod_of_nonneg (by omega)
 have w2 := yya (n := (last + 1) / 26) (by omega) (by omega)
 have w3 := yya (n := (last + 1) % 26) (by omega) (by omega)
 have w4 := yya (n := 97 + (last + 1) / 26) (by omega) (by omega)
 have w5 := yya (n := 97 + (last + 1) % 26) (by omega) (by omega)
 have h26 : ¬ (26 : Int) = 0 := by decide
 simp only [x_s_l71Mk_name, go_sem, rE, rA, hM.obj, w1, hq, hr, w2, w3, w4, w5, h26, List.replicate, List.flatten_cons, List.flatten_nil, rL, chunk, bytesOf]
 exact post_slot ⟨e, v, VS, NS, p, last + 1, ⟨⟨_, rfl⟩, rfl, rfl, rfl⟩, hM.setL _⟩
end
end Go.Xl
namespace Go.Xl
open Nat renaming reduceEqDiff → rE, reduceAdd → rA, reduceLeDiff → rL
theorem post_sc {E : Env} {H : Heap} {n m r off : Nat} {g : Option Nat} {cs : List AC} {q q1 x : AC} {R : AC → Heap → Prop} (hx : Le (E n) x) (hE : E m = .ptr r off) (hg : H.get r = some (.cells cs)) (hq : partA g cs off = some q)
 (hl : Le q q1) {H' : Heap} (hs : H'.sub H) (h : R (.tup [x, q1]) H') : XFunc.post [.slot n, .cell m g] R .ret E H :=
 ⟨.tup [E n, q], resVal_two rfl (by simp only [XRes.val, hE, hg, hq]), _, H', .of (Le.tup (show LeA [E n, q] [x, q1] from ⟨hx, hl, trivial⟩)) hs, h⟩
theorem post_cc {E : Env} {H : Heap} {n m r off r' off' : Nat} {g g' : Option Nat} {cs cs' : List AC} {q q1 q' q1' : AC} {R : AC → Heap → Prop} (hE' : E n = .ptr r' off') (hg' : H.get r' = some (.cells cs')) (hq' : partA g' cs' off' = some q') (hl' : Le q' q1')
 (hE : E m = .ptr r off) (hg : H.get r = some (.cells cs)) (hq : partA g cs off = some q) (hl : Le q q1) {H' : Heap} (hs : H'.sub H) (h : R (.tup [q1', q1]) H') : XFunc.post [.cell n g', .cell m g] R .ret E H :=
 ⟨.tup [q', q], resVal_two (by simp only [XRes.val, hE', hg', hq']) (by simp only [XRes.val, hE, hg, hq]), _, H', .of (Le.tup (show LeA [q', q] [q1', q1] from ⟨hl', hl, trivial⟩)) hs, h⟩
def intRows (l : List Int) : List (List AC) := l.map fun i => [I i]
theorem encPath_eq (l : List Int) : zze l = .sl 1 none (intRows l) := rfl
theorem intRows_snoc (l : List Int) (i : Int) : intRows l ++ [[I i]] = intRows (l ++ [i]) := by simp [intRows]
section
variable {P : Program} {F : Ids}
theorem c_l71Path (L : Lib P F) (r : Nat) (bs : List UInt8) (hb : bs.length ≤ 2000) (D : Nat) (hD : D ≤ 100) (t : Ty) (ht : t.le D) (p : Int) (hp : 0 ≤ p) (hp' : p + 2 * D + 2 ≤ 2 ^ 50) :
 ACalls P F.s_l71Path [.ptr r 0, .agg t.enc] (one r (RdO bs p)) (RdR r bs p (2 * D + 2) fun q => ∃ (path : List Int) (u : Ty), q = .tup [zze path, .agg u.enc] ∧ path.length ≤ D ∧ u.le D) := by
 refine L.s_l71Path (by simp [x_s_l71Path]) ?_
 rw [Ty.enc_eq t]
 simp only [x_s_l71Path, go_sem, rE]
 intro b3 hb3 b5 hb5 b8 hb8
 have dr3 : r ≠ b3 := zzj (yyh r (RdO bs p)) hb3
 have d35 := zzj (Heap.zzb (one r (RdO bs p)) b3 _) hb5
 have dr5 : r ≠ b5 := zzj (H := (one r (RdO bs p)).set b3 _) (by rw [Heap.zza _ _ dr3]; exact yyh _ _) hb5
 have d58 := zzj (Heap.zzb _ b5 _) hb8
 have d38 : b3 ≠ b8 := zzj (H := ((one r (RdO bs p)).set b3 _).set b5 _) (by rw [Heap.zza _ _ d35, Heap.zzb]) hb8
 have dr8 : r ≠ b8 := zzj (H := ((one r (RdO bs p)).set b3 _).set b5 _) (by rw [Heap.zza _ _ dr5, Heap.zza _ _ dr3]; exact yyh _ _) hb8
 refine wp_loop (fun n E H => ∃ (u : Ty) (path : List Int) (p1 : Int) (bt nt mt : Nat), u.le n ∧ path.length + n ≤ D ∧ p ≤ p1 ∧ p1 ≤ p + 2 * ((D : Int) - n) ∧ E 0 = .ptr r 0 ∧ E 3 = .ptr b3 0 ∧ E 5 = .ptr b5 0 ∧ E 6 = .sl 1 (some (bt, nt, mt)) (intRows path) ∧
  H.get r = some (RdO bs p1) ∧ H.get b3 = some (.cells [.sl 1 none (Ty.encs u.kids)]) ∧ H.get b5 = some (.cells [NIL]) ∧ H.get bt = some (.tail nt mt)) D
  ⟨t, [], p, b8, 0, 0, ht, by simp, Int.le_refl _, by omega, by simp [go_sem], by simp [go_sem], by simp [go_sem], by simp [go_sem, intRows], by rw [Heap.zza _ _ dr8, Heap.zza _ _ dr5, Heap.zza _ _ dr3]; exact yyh _ _,
   by rw [Heap.zza _ _ d38, Heap.zza _ _ d35, Heap.zzb], by rw [Heap.zza _ _ d58, Heap.zzb], Heap.zzb _ _ _⟩ ?_
 clear hb3 hb5 hb8 d58 d38 dr8
 rintro n E H ⟨u, path, p1, bt, nt, mt, hu, hpl, hp1, hp2, e0, e3, e5, e6, gr, g3, g5, gt⟩
 have stop : ∀ (E' : Env) (H' : Heap) (p2 : Int), p ≤ p2 → p2 ≤ p + 2 * D + 2 → E' 3 = .ptr b3 0 → E' 5 = .ptr b5 0 → E' 6 = .sl 1 (some (bt, nt, mt)) (intRows path) → H'.get r = some (RdO bs p2) → H'.get b3 = some (.cells [.sl 1 none (Ty.encs u.kids)]) → H'.get b5 = some (.cells [NIL]) →
  XCode.wp P (kd10 F) (XFunc.post [.slot 4, .cell 5 (some 1)] (RdR r bs p (2 * D + 2) fun q => ∃ (path : List Int) (u : Ty), q = .tup [zze path, .agg u.enc] ∧ path.length ≤ D ∧ u.le D)) E' H' := by
  intro E' H' p2 h1 h2 e3 e5 e6 gr g3 g5
  rw [kd10]
  simp only [go_sem, rE, rA, e3, e5, e6, g3, g5, rL]
  refine post_sc (x := zze path) (q1 := .agg u.enc) (off := 0) (by simp only [go_sem, rE, encPath_eq]; exact .tok _ _ _) (by simp only [go_sem, rE]; exact e5) (Heap.zzb _ _ _) rfl (by rw [Ty.enc_eq]; exact .refl _) (one_sub (o := RdO bs p2) (by rw [Heap.zza _ _ dr5]; exact gr))
   ⟨p2, h1, by omega, rfl, path, u, rfl, by omega, Ty.le_mono n D u (by omega) hu⟩
 obtain ⟨ks⟩ := u
 obtain ⟨hk3, hks⟩ := Ty.le_kids hu
 simp only [Ty.kids] at g3 stop
 simp only [go_sem, rE, rA, e0, e3, g3, Ty.zzk, List.length_map]
 by_cases hk0 : (ks.length : Int) > 0
 ·simp only [go_sem, rE, rA, hk0, e0]
  refine yyg (c_pick' L r bs p1 3 hb (by omega) (by omega)) (rfl) gr (by simp) trivial ?_
  rintro q p2 hp12 hp12' ⟨k, rfl, hk0', hk3'⟩
  have g3' : (H.set r (RdO bs p2)).get b3 = some (.cells [.sl 1 none (Ty.encs ks)]) := by rw [Heap.zza _ _ (Ne.symm dr3)]; exact g3
  have g5' : (H.set r (RdO bs p2)).get b5 = some (.cells [NIL]) := by rw [Heap.zza _ _ (Ne.symm dr5)]; exact g5
  simp only [go_sem, rE, rA]
  refine zzn (fun hgt => ?_) (fun hle => ?_)
  ·simp only [go_sem, rE, rA, e0, e3, g3', Ty.zzk, List.length_map]
   refine yyg (c_pick' L r bs p2 ks.length hb (by omega) (by omega)) (rfl) (Heap.zzb _ _ _) (by simp) trivial ?_
   rintro q p3 hp23 hp23' ⟨j, rfl, hj0, hj3⟩
   have hj : j.toNat < ks.length := by omega
   obtain ⟨d', hd', hle'⟩ := hks _ (List.getElem_mem hj)
   have hgj : (Ty.encs ks)[j.toNat]? = some ks[j.toNat].enc := encs_get hj
   rw [Ty.enc_eq] at hgj
   have dbr : bt ≠ r := by rintro rfl; rw [gr] at gt; simp [RdO] at gt
   have gt3 : (H.set r (RdO bs p3)).get bt = some (.tail nt mt) := by rw [Heap.zza _ _ dbr]; exact gt
   simp only [go_sem, rE, rA, e6, List.replicate, List.flatten_cons, List.flatten_nil, rL, chunk]
   refine run_appT (es := intRows path) (ys := [[I j]]) (rfl) gt3 (rfl) (by simp) (by simp [intRows]; omega) ?_
   intro bt' nt' mt' H4 fp4 gt4 hk4 _ _
   have dt3 : b3 ≠ bt := by rintro rfl; rw [g3] at gt; simp at gt
   have dt5 : b5 ≠ bt := by rintro rfl; rw [g5] at gt; simp at gt
   have g43 : H4.get b3 = some (.cells [.sl 1 none (Ty.encs ks)]) := by rw [hk4 b3 (by rw [Heap.zza _ _ (Ne.symm dr3), g3]; simp) dt3, Heap.zza _ _ (Ne.symm dr3)]; exact g3
   have g45 : H4.get b5 = some (.cells [NIL]) := by rw [hk4 b5 (by rw [Heap.zza _ _ (Ne.symm dr5), g5]; simp) dt5, Heap.zza _ _ (Ne.symm dr5)]; exact g5
   have g4r : H4.get r = some (RdO bs p3) := by rw [hk4 r (by simp) (Ne.symm dbr)]; exact Heap.zzb _ _ _
   have dt4 : bt' ≠ b3 := by rintro rfl; rw [g43] at gt4; simp at gt4
   simp only [go_sem, rE, rA, e3, g43, hgj, hj0, rL]
   refine ⟨d', by omega, _, Heap.zzm _, ks[j.toNat], path ++ [j], p3, bt', nt', mt', hle', by simp; omega, by omega, by omega, ?_⟩
   simp only [go_sem, rE, Ty.zzk, e0, e5, intRows_snoc, Heap.zza _ _ dr3, Heap.zza _ _ (Ne.symm d35), Heap.zza _ _ dt4, g4r, g45, gt4, Heap.zzb]
  ·simp only [wp_exit, then_exit, xxi, xxa]
   exact stop _ _ p2 (by omega) (by omega) (e3) (e5) (e6) (Heap.zzb _ _ _) g3' g5'
 ·simp only [go_sem, rE, rA, hk0]
  exact stop _ _ p1 (by omega) (by omega) (e3) (e5) (e6) gr g3 g5
end
end Go.Xl
namespace Go.Xl
open Nat renaming reduceEqDiff → rE, reduceAdd → rA, reduceLeDiff → rL
theorem RowOf.row6 {H : Heap} {vs : List Vr} {i vb vc : Nat} {cs : List AC} {hi : i < vs.length} (h : RowOf H vs i vb vc cs hi) : (cs.drop (i * 6)).take 6 = vs[i].enc ∧ i * 6 + 6 ≤ cs.length := by
 have hlen := xxg (ys := vs.map Vr.enc) (sz := 6) (by simp [Vr.enc])
 have h2 : i * 6 + 6 ≤ cs.length := by have := h.off; omega
 refine ⟨?_, h2⟩
 apply List.ext_getElem?
 intro j
 rw [List.getElem?_take]
 split
 ·rename_i hj
  rw [List.getElem?_drop]
  have := h.all
  simp only [List.length_map] at this
  exact vars_get this hi hj
 ·rename_i hj
  rw [List.getElem?_eq_none (by rw [Vr.enc_len]; omega)]
section
variable {P : Program} {F : Ids}
def PlaceR (v : En) (p last : Int) (c : Int) (q : AC) (v' : En) (p' last' : Int) : Prop :=
 (∃ (pl : Pl) (t : Ty), q = .tup [.agg pl.enc, .agg t.enc] ∧ pl.path.length ≤ 8 ∧ t.wf) ∧ v' = v ∧ p ≤ p' ∧ p' ≤ p + c ∧ last' = last
theorem c_mkPlace (L : Lib P F) (m r : Nat) (bs : List UInt8) (hbs : bs.length ≤ 2000) (v : En) (hv : v.ok) (p last : Int) (hp : 0 ≤ p) (hp2 : p + 20 ≤ 2 ^ 50) :
 MkC P F.s_l71Mk_place [.ptr m 0] m r bs v p last (PlaceR v p last 20) := by
 intro H e VS NS hM
 have hvl := hv.len
 refine L.s_l71Mk_place (by simp [x_s_l71Mk_place]) ?_
 simp only [x_s_l71Mk_place, go_sem, rE]
 intro b2 hb2 b3 hb3 b9 hb9
 have hM2 := hM.new hb2 (.cells [.lit (.string (bl [])), .lit (.slice none 0 0)])
 have n2 := hM.notin hb2
 have hM3 := hM2.new hb3 (.cells [.lit (.slice none 0 0)])
 have n3 := hM2.notin hb3
 have hM9 := hM3.new hb9 (.tail 0 0)
 have n9 := hM3.notin hb9
 have d23 := zzj (Heap.zzb H b2 _) hb3
 have d39 := zzj (Heap.zzb (H.set b2 _) b3 _) hb9
 have d29 : b2 ≠ b9 := zzj (H := (H.set b2 (.cells [.lit (.string (bl [])), .lit (.slice none 0 0)])).set b3 (.cells [.lit (.slice none 0 0)])) (by rw [Heap.zza _ _ d23, Heap.zzb]) hb9
 have stop : ∀ (E' : Env) (H' : Heap) (p' : Int) (pl : Pl) (t : Ty) (x1 x2 y1 : AC), MkAt H' m r bs e v VS NS p' last → p ≤ p' → p' ≤ p + 20 → E' 2 = .ptr b2 0 → E' 3 = .ptr b3 0 → H'.get b2 = some (.cells [x1, x2]) → H'.get b3 = some (.cells [y1]) → LeC [x1, x2] pl.enc → LeC [y1] t.enc → pl.path.length ≤ 8 → t.wf →
  XFunc.post [.cell 2 (some 2), .cell 3 (some 1)] (fun q H' => ∃ e' v' VS' NS' p' last', PlaceR v p last 20 q v' p' last' ∧ MkAt H' m r bs e' v' VS' NS' p' last') .ret E' H' := by
  intro E' H' p' pl t x1 x2 y1 hM h1 h2 e2 e3 g2 g3 l1 l2 hpl ht
  exact post_cc (q' := .agg [x1, x2]) (q := .agg [y1]) (q1' := .agg pl.enc) (q1 := .agg t.enc) (off' := 0) (off := 0) e2 g2 rfl (.agg l1) e3 g3 rfl (.agg l2) (Heap.zzm _) ⟨e, v, VS, NS, p', last, ⟨⟨pl, t, rfl, hpl, ht⟩, rfl, h1, h2, rfl⟩, hM⟩
 refine yyc v.vars.length (fun k E H => ∃ (Lv : List Nat) (bt nt mt : Nat), MkAt H m r bs e v VS NS p last ∧ (∀ i ∈ Lv, i < v.vars.length) ∧ Lv.length ≤ k ∧ E 0 = .ptr m 0 ∧ E 2 = .ptr b2 0 ∧ E 3 = .ptr b3 0 ∧ E 4 = .sl 1 (some (bt, nt, mt)) (yyk Lv) ∧ E 5 = I k ∧
  H.get b2 = some (.cells [S (bl []), NIL]) ∧ H.get b3 = some (.cells [NIL]) ∧ H.get bt = some (.tail nt mt) ∧ ¬ mkBlk m r e VS NS bt)
  ⟨[], b9, 0, 0, hM9, by simp, by simp, by simp [go_sem], by simp [go_sem], by simp [go_sem], by simp [go_sem, yyk], by simp [go_sem], by rw [Heap.zza _ _ d29, Heap.zza _ _ d23, Heap.zzb], by rw [Heap.zza _ _ d39, Heap.zzb], Heap.zzb _ _ _, n9⟩ ?_
 clear hb2 hb3 hb9 hM hM2 hM3 hM9 d29 d39 n9
 rintro k E H hk ⟨Lv, bt, nt, mt, hM, hLv, hLk, e0, e2, e3, e4, e5, g2, g3, gt, nt9⟩
 have hom := hM.obj
 have hoe := hM.env.obj
 simp only [EnvO] at hoe
 have hlim : v.vars.length ≤ LIM := by simp only [LIM]; omega
 have hVS : VS = NIL ∧ v.vars = [] ∨ ∃ vb vc, VS = .lit (.slice (some ⟨vb, 0, none⟩) v.vars.length vc) := by
  rcases hM.env.vars with ⟨h0, h1⟩ | ⟨vb, vc, cs, h1, -⟩
  ·exact .inl ⟨h1, by simpa using h0⟩
  ·exact .inr ⟨vb, vc, by simpa using h1⟩
 by_cases hlt : k < v.vars.length
 ·obtain ⟨vb, vc, cs, rfl, hr⟩ := hM.env.vars.row hlt
  have hlt' : (k : Int) < v.vars.length := by omega
  have w1 := yya (n := (k : Int) + 1) (by omega) (by omega)
  have hrd := hr.dead
  simp only [go_sem, rE, rA, e0, e5, hom, hoe, hlim, hlt', hr.get, hrd]
  cases hd : v.vars[k].dead
  ·simp only [go_sem, rE, rA, e4, e5, List.replicate, List.flatten_cons, List.flatten_nil, rL, chunk]
   refine run_appT (es := yyk Lv) (ys := yyk [k]) (rfl) gt (rfl) (by simp [yyk]) (by simp [yyk]; omega) ?_
   intro bt' nt' mt' H4 fp4 gt4 hk4 hbt4 _
   have hM4 : MkAt H4 m r bs e v (.lit (.slice (some ⟨vb, 0, none⟩) v.vars.length vc)) NS p last := hM.mono fun d hd => hk4 d (hM.mem hd) (by rintro rfl; exact nt9 hd)
   have d2t : b2 ≠ bt := by rintro rfl; rw [g2] at gt; simp at gt
   have d3t : b3 ≠ bt := by rintro rfl; rw [g3] at gt; simp at gt
   have nt4 : ¬ mkBlk m r e (.lit (.slice (some ⟨vb, 0, none⟩) v.vars.length vc)) NS bt' := by
    rcases hbt4 with rfl | h
    ·exact nt9
    ·exact hM.notin h
   simp only [go_sem, rE, rA, e5, w1]
   refine ⟨hlt, H4, Heap.zzm _, Lv ++ [k], bt', nt', mt', hM4, fun i hi => ?_, by simp; omega, ?_⟩
   ·rcases List.mem_append.1 hi with h | h
    ·exact hLv i h
    ·simp at h; omega
   ·simp only [go_sem, rE, e0, e2, e3]
    exact ⟨by simp [yyk], rfl, by rw [hk4 b2 (by rw [g2]; simp) d2t]; exact g2, by rw [hk4 b3 (by rw [g3]; simp) d3t]; exact g3, gt4, nt4⟩
  ·simp only [go_sem, rE, rA, e5, w1]
   exact ⟨hlt, H, Heap.zzm _, Lv, bt, nt, mt, hM, hLv, by omega, e0, e2, e3, e4, by simp, g2, g3, gt, nt9⟩
 ·have hlt' : ¬ (k : Int) < v.vars.length := by omega
  have rest : ∀ (E : Env), E 0 = .ptr m 0 → E 2 = .ptr b2 0 → E 3 = .ptr b3 0 → E 4 = .sl 1 (some (bt, nt, mt)) (yyk Lv) →
   XCode.wp P (kd12 F) (XFunc.post [.cell 2 (some 2), .cell 3 (some 1)] (fun q H' => ∃ e' v' VS' NS' p' last', PlaceR v p last 20 q v' p' last' ∧ MkAt H' m r bs e' v' VS' NS' p' last')) E H := by
   intro E e0 e2 e3 e4
   rw [kd12]
   simp only [go_sem, rE, rA, e4, natRows_len]
   rcases Lv with _ | ⟨i0, Lr⟩
   ·simp only [Int.natCast_zero, beq_self_eq_true, go_sem, rE, rA, e2, e3, g2, g3, Ne.symm d23, rL]
    refine stop _ _ p ⟨bl [110, 111, 110, 101], []⟩ (.mk []) _ _ _ ((hM.put n2 _).put n3 _) (Int.le_refl _) (by omega) (by simp only [go_sem, rE]; exact e2) (by simp only [go_sem, rE]; exact e3) (by rw [Heap.zza _ _ d23, Heap.zzb]) (Heap.zzb _ _ _) ?_ ?_ (by simp) Ty.wf_nil
    ·exact ⟨⟨.refl _, rfl⟩, ⟨.nil 1, rfl⟩, trivial⟩
    ·exact ⟨⟨.nil 1, rfl⟩, trivial⟩
   ·have hne : (((i0 :: Lr).length : Int) == 0) = false := beq_eq_false_iff_ne.2 (by simp; omega)
    have hpos : 1 ≤ (i0 :: Lr).length := by simp
    generalize hLL : i0 :: Lr = Lw at *
    have h00 : 0 < v.vars.length := by have := hLv i0 (by rw [← hLL]; simp); omega
    obtain ⟨vb0, vc0, cs0, rfl, hr0⟩ := hM.env.vars.row h00
    have dme : m ≠ e := fun h => hM.nm (.inl h)
    have dre : r ≠ e := fun h => hM.nr (.inl h)
    simp only [hne, go_sem, rE, rA, e0, e4, hom, hoe, natRows_len]
    refine yyg (c_pick' L r bs p Lw.length hbs hp (by omega)) (rfl) hM.rd (fun _ => ⟨by omega, I 0, 0, rfl, by omega, .inr rfl⟩) (by simp [chkE]; exact ⟨Ne.symm dre, hM.mr⟩) ?_
    rintro q p1 hp1 hp1' ⟨k1, rfl, hk10, hk11⟩
    have hM1 := hM.setR p1
    have hk1l : k1.toNat < Lw.length := by omega
    have hil := hLv _ (List.getElem_mem hk1l)
    obtain ⟨vb1, vc1, cs1, heq, hr⟩ := hM1.env.vars.row hil
    simp only [AC.lit.injEq, Value.slice.injEq, Option.some.injEq, Addr.mk.injEq, true_and, and_true] at heq
    obtain ⟨hq1, hq2⟩ := heq
    subst hq1 hq2
    obtain ⟨r61, r62⟩ := hr.row6
    have hlt1 : ((Lw[k1.toNat] : Nat) : Int) < v.vars.length := by omega
    simp only [go_sem, rE, rA, hk10, natRows_get hk1l, hlt1, hr.get, r61, r62, Vr.enc_len, rL]
    intro b6 hb6
    have n6 := hM1.notin hb6
    have hr2 : (H.set r (RdO bs p1)).get r = some (RdO bs p1) := Heap.zzb _ _ _
    have d26 : b2 ≠ b6 := zzj (H := H.set r (RdO bs p1)) (by rw [Heap.zza _ _ (fun h => n2 (.inr (.inl h)))]; exact g2) hb6
    have d36 : b3 ≠ b6 := zzj (H := H.set r (RdO bs p1)) (by rw [Heap.zza _ _ (fun h => n3 (.inr (.inl h)))]; exact g3) hb6
    have g21 : (H.set r (RdO bs p1)).get b2 = some (.cells [S (bl []), NIL]) := by rw [Heap.zza _ _ (fun h => n2 (.inr (.inl h)))]; exact g2
    have g31 : (H.set r (RdO bs p1)).get b3 = some (.cells [NIL]) := by rw [Heap.zza _ _ (fun h => n3 (.inr (.inl h)))]; exact g3
    have hM2 := hM1.new hb6 (.cells v.vars[Lw[k1.toNat]].enc)
    have hx : v.vars[Lw[k1.toNat]] ∈ v.vars := List.getElem_mem _
    generalize v.vars[Lw[k1.toNat]] = x at *
    have stepP : ∀ (E : Env) (H : Heap) (p1 : Int) (x : Vr), x ∈ v.vars → MkAt H m r bs e v (.lit (.slice (some ⟨vb0, 0, none⟩) v.vars.length vc0)) NS p1 last → p ≤ p1 → p1 ≤ p + 2 → E 0 = .ptr m 0 → E 2 = .ptr b2 0 → E 3 = .ptr b3 0 → E 6 = .ptr b6 0 → H.get b6 = some (.cells x.enc) →
     H.get b2 = some (.cells [S (bl []), NIL]) → H.get b3 = some (.cells [NIL]) →
     XCode.wp P (kd11 F) (XFunc.post [.cell 2 (some 2), .cell 3 (some 1)] (fun q H' => ∃ e' v' VS' NS' p' last', PlaceR v p last 20 q v' p' last' ∧ MkAt H' m r bs e' v' VS' NS' p' last')) E H := by
     intro E H p1 x hx hM h1 h2 e0 e2 e3 e6 g6 g2 g3
     rw [kd11]
     obtain ⟨-, D, hD8, hD⟩ := hv.all x hx
     have hom := hM.obj
     have d26 : b2 ≠ b6 := by rintro rfl; rw [g6] at g2; simp [Vr.enc] at g2
     have d6r : b6 ≠ r := by rintro rfl; have := hM.rd; rw [g6] at this; simp [Vr.enc, RdO] at this
     simp only [Vr.enc] at g6
     simp only [go_sem, rE, rA, e0, e6, hom, g6, rL]
     refine yyg (c_l71Path L r bs hbs D (by omega) x.type hD p1 (by omega) (by omega)) (by simp only [go_sem, rE, Ty.enc_eq x.type]) hM.rd (fun _ => ⟨by omega, _, [], .mk [], rfl, by simp, Ty.le_nil _⟩) trivial ?_
     rintro q p2 hp2 hp2' ⟨path, u, rfl, hpath, hu⟩
     have hM2 := hM.setR p2
     simp only [go_sem, rE, rA, Ty.enc_eq u]
     intro b8 hb8
     have n8 := hM2.notin hb8
     have hM3 := hM2.new hb8 (.cells [.sl 1 none (Ty.encs u.kids)])
     have nr2 : b2 ≠ r := fun h => n2 (.inr (.inl h))
     have nr3 : b3 ≠ r := fun h => n3 (.inr (.inl h))
     have g62 : (H.set r (RdO bs p2)).get b6 = some (.cells [S x.name, B x.lent, B x.param, .sl 1 none (Ty.encs x.type.kids), .sl 2 none (x.loans.map Pl.enc), B x.dead]) := by rw [Heap.zza _ _ d6r]; exact g6
     have g22 : (H.set r (RdO bs p2)).get b2 = some (.cells [S (bl []), NIL]) := by rw [Heap.zza _ _ nr2]; exact g2
     have g32 : (H.set r (RdO bs p2)).get b3 = some (.cells [NIL]) := by rw [Heap.zza _ _ nr3]; exact g3
     have d68 := zzj g62 hb8
     have d28 := zzj g22 hb8
     have d38 := zzj g32 hb8
     simp only [go_sem, rE, rA, e2, e3, e6, d68, g62, d28, g22, Ne.symm d28, Ne.symm d23, Ne.symm d38, d38, g32, encPath_eq, chkE, chkL, rL, List.mem_cons, List.not_mem_nil, or_false, forall_eq, forall_eq_or_imp]
     refine stop _ _ p2 ⟨x.name, path⟩ u _ _ _ ((hM3.put n2 _).put n3 _) (by omega) (by omega) (by simp only [go_sem, rE]; exact e2) (by simp only [go_sem, rE]; exact e3) (by rw [Heap.zza _ _ d23, Heap.zzb]) (Heap.zzb _ _ _) ?_ ?_ (by simp only; omega) ⟨D, hD8, hu⟩
     ·exact ⟨⟨.refl _, rfl⟩, ⟨.refl _, rfl⟩, trivial⟩
     ·rw [Ty.enc_eq]; exact ⟨⟨.refl _, rfl⟩, trivial⟩
    have g62 : ((H.set r (RdO bs p1)).set b6 (.cells x.enc)).get b6 = some (.cells x.enc) := Heap.zzb _ _ _
    have g22 : ((H.set r (RdO bs p1)).set b6 (.cells x.enc)).get b2 = some (.cells [S (bl []), NIL]) := by rw [Heap.zza _ _ d26]; exact g21
    have g32 : ((H.set r (RdO bs p1)).set b6 (.cells x.enc)).get b3 = some (.cells [NIL]) := by rw [Heap.zza _ _ d36]; exact g31
    generalize ((H.set r (RdO bs p1)).set b6 (.cells x.enc)) = H2 at *
    have hom2 := hM2.obj
    simp only [go_sem, rE, rA, e0, hom2]
    refine yyg (c_pick' L r bs p1 3 hbs (by omega) (by omega)) (rfl) hM2.rd (fun hd => by simp at hd) trivial ?_
    rintro q p2 hp2 hp2' ⟨k2, rfl, hk20, hk21⟩
    have hM3 := hM2.setR p2
    have nr2 : b2 ≠ r := fun h => n2 (.inr (.inl h))
    have nr3 : b3 ≠ r := fun h => n3 (.inr (.inl h))
    have nr6 : b6 ≠ r := fun h => n6 (.inr (.inl h))
    have g63 : (H2.set r (RdO bs p2)).get b6 = some (.cells x.enc) := by rw [Heap.zza _ _ nr6]; exact g62
    have g23 : (H2.set r (RdO bs p2)).get b2 = some (.cells [S (bl []), NIL]) := by rw [Heap.zza _ _ nr2]; exact g22
    have g33 : (H2.set r (RdO bs p2)).get b3 = some (.cells [NIL]) := by rw [Heap.zza _ _ nr3]; exact g32
    have hom3 := hM3.obj
    have hoe3 := hM3.env.obj
    simp only [EnvO] at hoe3
    generalize (H2.set r (RdO bs p2)) = H3 at *
    simp only [go_sem, rE, rA]
    by_cases hk2 : k2 = 0
    ·have hk2' : (k2 == 0) = true := by simpa using hk2
     have wl := yya (n := (Lw.length : Int) - 1) (by omega) (by omega)
     have hll : ((Lw.length : Int) - 1).toNat < Lw.length := by omega
     have hl0 : 0 ≤ (Lw.length : Int) - 1 := by omega
     have hil2 := hLv _ (List.getElem_mem hll)
     obtain ⟨vb1, vc1, cs1, heq, hr⟩ := hM3.env.vars.row hil2
     simp only [AC.lit.injEq, Value.slice.injEq, Option.some.injEq, Addr.mk.injEq, true_and, and_true] at heq
     obtain ⟨hq1, hq2⟩ := heq
     subst hq1 hq2
     obtain ⟨r61, r62⟩ := hr.row6
     have hlt1 : ((Lw[((Lw.length : Int) - 1).toNat] : Nat) : Int) < v.vars.length := by omega
     simp only [hk2', go_sem, rE, rA, e0, e4, hom3, hoe3, natRows_len, wl, hl0, natRows_get hll, hlt1, hr.get, r61, r62, g63, Vr.enc_len, rL]
     have d26' : b2 ≠ b6 := d26
     refine stepP _ _ p2 v.vars[Lw[((Lw.length : Int) - 1).toNat]] (List.getElem_mem _) (hM3.put n6 _) (by omega) (by omega) (e0) (e2) (e3) (rfl) ?_ (by rw [Heap.zza _ _ d26]; exact g23) (by rw [Heap.zza _ _ d36]; exact g33)
     simp [Vr.enc]
    ·have hk2' : (k2 == 0) = false := by simpa using hk2
     simp only [hk2', go_sem, rE, rA]
     exact stepP _ _ p2 x hx hM3 (by omega) (by omega) (e0) (e2) (e3) (rfl) g63 g23 g33
  rcases hVS with ⟨rfl, hv0⟩ | ⟨vb, vc, rfl⟩
  ·have : k = 0 := by rw [hv0] at hk; simpa using hk
   subst this
   simp only [go_sem, rE, rA, e0, e5, hom, hoe, Int.natCast_zero, Int.lt_irrefl]
   exact rest _ (e0) (e2) (e3) (e4)
  ·simp only [go_sem, rE, rA, e0, e5, hom, hoe, hlim, hlt']
   exact rest _ (e0) (e2) (e3) (e4)
end
end Go.Xl
namespace Go.Xl
open Nat renaming reduceEqDiff → rE, reduceAdd → rA, reduceLeDiff → rL
def ecost : Nat → Int
 | 0 => 200
 | d + 1 => 200 + 2 * ecost d
theorem ecost_pos : ∀ d, 200 ≤ ecost d
 | 0 => by simp [ecost]
 | d + 1 => by have := ecost_pos d; simp only [ecost]; omega
def ExprR (v : En) (p last : Int) (c : Int) (q : AC) (v' : En) (p' last' : Int) : Prop :=
 (∃ x : Ex, q = .agg x.enc ∧ x.ok ∧ x.sm) ∧ v' = v ∧ p ≤ p' ∧ p' ≤ p + c ∧ last' = last
theorem ExprR.live (v : En) (p last c : Int) (hc : 0 ≤ c) : ∃ q v' p' last', ExprR v p last c q v' p' last' :=
 ⟨_, v, p, last, ⟨.mk 1 0 ⟨bl [], []⟩ [], rfl, .mk (by simp) (by simp) (by simp), .mk (by decide) (by simp)⟩, rfl, Int.le_refl _, by omega, rfl⟩
theorem leNum (n : Int) : LeC [I 1, I n, S (bl []), NIL, NIL] (Ex.mk 1 n ⟨bl [], []⟩ []).enc := by
 rw [Ex.enc]; exact ⟨⟨.refl _, rfl⟩, ⟨.refl _, rfl⟩, ⟨.refl _, rfl⟩, ⟨.nil 1, rfl⟩, ⟨.nil 5, rfl⟩, trivial⟩
theorem leRead (pl : Pl) : LeC [I 2, I 0, S pl.name, zze pl.path, NIL] (Ex.mk 2 0 pl []).enc := by
 rw [Ex.enc]; exact ⟨⟨.refl _, rfl⟩, ⟨.refl _, rfl⟩, ⟨.refl _, rfl⟩, ⟨.refl _, rfl⟩, ⟨.nil 5, rfl⟩, trivial⟩
theorem leNone : LeC [I 2, I 0, S (bl [110, 111, 110, 101]), NIL, NIL] (Ex.mk 2 0 ⟨bl [110, 111, 110, 101], []⟩ []).enc := by
 rw [Ex.enc]; exact ⟨⟨.refl _, rfl⟩, ⟨.refl _, rfl⟩, ⟨.refl _, rfl⟩, ⟨.nil 1, rfl⟩, ⟨.nil 5, rfl⟩, trivial⟩
theorem leTwo (k : Int) (tok : Option (Nat × Nat × Nat)) (a b : Ex) : LeC [I k, I 0, S (bl []), NIL, .sl 5 tok [a.enc, b.enc]] (Ex.mk k 0 ⟨bl [], []⟩ [a, b]).enc := by
 rw [Ex.enc]; exact ⟨⟨.refl _, rfl⟩, ⟨.refl _, rfl⟩, ⟨.refl _, rfl⟩, ⟨.nil 1, rfl⟩, ⟨by simp only [Ex.encs]; exact .tok _ _ _, rfl⟩, trivial⟩
theorem okNum (n : Int) (h : n < 100) : (Ex.mk 1 n ⟨bl [], []⟩ []).ok ∧ (Ex.mk 1 n ⟨bl [], []⟩ []).sm := ⟨.mk (by simp) (by simp) (by simp), .mk h (by simp)⟩
theorem okRead (pl : Pl) (h : pl.path.length ≤ 8) : (Ex.mk 2 0 pl []).ok ∧ (Ex.mk 2 0 pl []).sm := ⟨.mk (by omega) (by simp) (by simp), .mk (by decide) (by simp)⟩
theorem okTwo (k : Int) {a b : Ex} (ha : a.ok ∧ a.sm) (hb : b.ok ∧ b.sm) : (Ex.mk k 0 ⟨bl [], []⟩ [a, b]).ok ∧ (Ex.mk k 0 ⟨bl [], []⟩ [a, b]).sm :=
 ⟨.mk (by simp) (by simp) (by simp; exact ⟨ha.1, hb.1⟩), .mk (by decide) (by simp; exact ⟨ha.2, hb.2⟩)⟩
theorem alloc2 {H : Heap} {a b : Nat} {z z' c c' : HObj} (h : a ≠ b) : (((H.set a z).set b z').set a c).set b c' = (H.set a c).set b c' := by
 apply Heap.ext; intro d
 simp only [Heap.get_set]
 by_cases h1 : d = b
 ·simp [h1]
 ·by_cases h2 : d = a <;> simp [h1, h2]
theorem new2 {H : Heap} {a b : Nat} {z : HObj} (h : (H.set a z).get b = none) (c : HObj) : (H.set a c).get b = none := by
 simp only [Heap.get_set] at h ⊢
 by_cases h1 : b = a
 ·simp [h1] at h
 ·simpa [h1] using h
theorem new_ne {H : Heap} {a b : Nat} {z : HObj} (h : (H.set a z).get b = none) : a ≠ b := by rintro rfl; simp at h
section
variable {P : Program} {F : Ids}
theorem c_mkExpr (L : Lib P F) (m r : Nat) (bs : List UInt8) (hbs : bs.length ≤ 2000) (v : En) (hv : v.ok) (last : Int) : ∀ (d : Nat), d ≤ 10 → ∀ (t : Ty) (dp : Int), t.wf → dp ≤ d → -10 ≤ dp → ∀ p : Int, 0 ≤ p → p + ecost d ≤ 2 ^ 50 →
 MkC P F.s_l71Mk_expr [.ptr m 0, .agg t.enc, I dp] m r bs v p last (ExprR v p last (ecost d)) := by
 intro d
 induction d using Nat.strongRecOn with
 | _ d ih =>
   intro hd t dp ht hdp hdp2 p hp hp2
   intro H e VS NS hM
   have hec := ecost_pos d
   refine L.s_l71Mk_expr (by simp [x_s_l71Mk_expr]) ?_
   rw [Ty.enc_eq t]
   simp only [x_s_l71Mk_expr, go_sem, rE]
   intro b4 hb4 b6 hb6
   have hM4 := hM.new hb4 (.cells [.sl 1 none (Ty.encs t.kids)])
   have n4 := hM.notin hb4
   have hM6 := hM4.new hb6 (.cells [.lit (.int .i64 0), .lit (.int .i64 0), .lit (.string (bl [])), .lit (.slice none 0 0), .lit (.slice none 0 0)])
   have n6 := hM4.notin hb6
   have d46 := zzj (Heap.zzb H b4 _) hb6
   have g4 : ((H.set b4 (.cells [.sl 1 none (Ty.encs t.kids)])).set b6 (.cells [.lit (.int .i64 0), .lit (.int .i64 0), .lit (.string (bl [])), .lit (.slice none 0 0), .lit (.slice none 0 0)])).get b4 = some (.cells [.sl 1 none (Ty.encs t.kids)]) := by rw [Heap.zza _ _ d46, Heap.zzb]
   have g6 : ((H.set b4 (.cells [.sl 1 none (Ty.encs t.kids)])).set b6 (.cells [.lit (.int .i64 0), .lit (.int .i64 0), .lit (.string (bl [])), .lit (.slice none 0 0), .lit (.slice none 0 0)])).get b6 = some (.cells [I 0, I 0, S (bl []), NIL, NIL]) := Heap.zzb _ _ _
   generalize ((H.set b4 (.cells [.sl 1 none (Ty.encs t.kids)])).set b6 (.cells [.lit (.int .i64 0), .lit (.int .i64 0), .lit (.string (bl [])), .lit (.slice none 0 0), .lit (.slice none 0 0)])) = H1 at *
   clear hb4 hb6 hM hM4
   have stop : ∀ (E' : Env) (H' : Heap) (e' : Nat) (VS' NS' : AC) (p' : Int) (x : Ex) (cs : List AC), MkAt H' m r bs e' v VS' NS' p' last → p ≤ p' → p' ≤ p + ecost d → E' 6 = .ptr b6 0 → H'.get b6 = some (.cells cs) → cs.length = 5 → LeC cs x.enc → x.ok ∧ x.sm →
    XFunc.post [.cell 6 (some 5)] (fun q H' => ∃ e' v' VS' NS' p' last', ExprR v p last (ecost d) q v' p' last' ∧ MkAt H' m r bs e' v' VS' NS' p' last') .ret E' H' := by
    intro E' H' e' VS' NS' p' x cs hM h1 h2 e6 g6 hl5 hle hx
    exact yym (q' := .agg x.enc) (q := .agg cs) (off := 0) e6 g6 (by simp only [partA, hl5, Nat.le_refl, Nat.zero_add, if_true, List.drop_zero]; rw [List.take_of_length_le (by omega)]) (.agg hle) (Heap.zzm _) ⟨e', v, VS', NS', p', last, ⟨⟨x, rfl, hx.1, hx.2⟩, rfl, h1, h2, rfl⟩, hM⟩
   have hom := hM6.obj
   obtain ⟨D, hD8, hD⟩ := ht
   have other : ∀ (E : Env) (H : Heap), MkAt H m r bs e v VS NS p last → E 0 = .ptr m 0 → E 2 = I dp → E 4 = .ptr b4 0 → E 6 = .ptr b6 0 → H.get b4 = some (.cells [.sl 1 none (Ty.encs t.kids)]) → H.get b6 = some (.cells [I 0, I 0, S (bl []), NIL, NIL]) →
    XCode.wp P (kd17 F) (XFunc.post [.cell 6 (some 5)] (fun q H' => ∃ e' v' VS' NS' p' last', ExprR v p last (ecost d) q v' p' last' ∧ MkAt H' m r bs e' v' VS' NS' p' last')) E H := by
    intro E H hM e0 e2 e4 e6 g4 g6
    rw [kd17]
    have hom := hM.obj
    simp only [go_sem, rE, rA, e0, hom]
    refine yyg (c_pick' L r bs p 6 hbs hp (by omega)) (rfl) hM.rd (by simp) trivial ?_
    rintro q p1 hp1 hp1' ⟨k, rfl, hk0, hk6⟩
    have hM1 := hM.setR p1
    have g41 : (H.set r (RdO bs p1)).get b4 = some (.cells [.sl 1 none (Ty.encs t.kids)]) := by rw [Heap.zza _ _ (fun h => n4 (.inr (.inl h)))]; exact g4
    have g61 : (H.set r (RdO bs p1)).get b6 = some (.cells [I 0, I 0, S (bl []), NIL, NIL]) := by rw [Heap.zza _ _ (fun h => n6 (.inr (.inl h)))]; exact g6
    have hom1 := hM1.obj
    generalize H.set r (RdO bs p1) = H1 at *
    clear g4 g6 hom hM
    have numC : ∀ (E : Env), E 0 = .ptr m 0 → E 6 = .ptr b6 0 → ∀ A : Env → Heap → Prop, XCode.wp P (kd13 F) (XExit.then A (XFunc.post [.cell 6 (some 5)] (fun q H' => ∃ e' v' VS' NS' p' last', ExprR v p last (ecost d) q v' p' last' ∧ MkAt H' m r bs e' v' VS' NS' p' last'))) E H1 := by
     intro E e0 e6 A
     rw [kd13]
     simp only [go_sem, rE, rA, e0, hom1, List.replicate, List.flatten_cons, List.flatten_nil, rL, chunk]
     refine yyg (c_pick' L r bs p1 6 hbs (by omega) (by omega)) (rfl) hM1.rd (by simp) trivial ?_
     rintro q p2 hp2 hp2' ⟨j, rfl, hj0, hj6⟩
     have hM2 := hM1.setR p2
     have g62 : (H1.set r (RdO bs p2)).get b6 = some (.cells [I 0, I 0, S (bl []), NIL, NIL]) := by rw [Heap.zza _ _ (fun h => n6 (.inr (.inl h)))]; exact g61
     have hjj : ∃ n : Int, n < 100 ∧ ([[I 0], [I 1], [I 1], [I 2], [I 5], [I 90]] : List (List AC))[j.toNat]? = some [I n] := by
      have : j = 0 ∨ j = 1 ∨ j = 2 ∨ j = 3 ∨ j = 4 ∨ j = 5 := by omega
      rcases this with rfl | rfl | rfl | rfl | rfl | rfl
      ·exact ⟨0, by decide, rfl⟩
      ·exact ⟨1, by decide, rfl⟩
      ·exact ⟨1, by decide, rfl⟩
      ·exact ⟨2, by decide, rfl⟩
      ·exact ⟨5, by decide, rfl⟩
      ·exact ⟨90, by decide, rfl⟩
     obtain ⟨n, hn, hgn⟩ := hjj
     simp only [go_sem, rE, rA, e6, hj0, hgn, g62, rL]
     exact stop _ _ _ _ _ p2 (.mk 1 n ⟨bl [], []⟩ []) _ (hM2.put n6 _) (by omega) (by omega) (by simp only [go_sem, rE]; exact e6) (Heap.zzb _ _ _) rfl (leNum n) (okNum n hn)
    have twoC : ∀ (E : Env), 2 ≤ dp → E 0 = .ptr m 0 → E 2 = I dp → E 4 = .ptr b4 0 → E 6 = .ptr b6 0 → XCode.wp P (kd14 F) (XFunc.post [.cell 6 (some 5)] (fun q H' => ∃ e' v' VS' NS' p' last', ExprR v p last (ecost d) q v' p' last' ∧ MkAt H' m r bs e' v' VS' NS' p' last')) E H1 := by
     intro E hdp3 e0 e2 e4 e6
     rw [kd14]
     obtain ⟨d', rfl⟩ : ∃ d', d = d' + 1 := ⟨d - 1, by omega⟩
     have hec' := ecost_pos d'
     have hecd : ecost (d' + 1) = 200 + 2 * ecost d' := rfl
     have wd := yya (n := dp - 1) (by omega) (by omega)
     have ih := ih d' (by omega) (by omega)
     simp only [go_sem, rE, rA, e0, hom1, List.replicate, List.flatten_cons, List.flatten_nil, rL, chunk]
     refine yyg (c_pick' L r bs p1 5 hbs (by omega) (by omega)) (rfl) hM1.rd (by simp) trivial ?_
     rintro q p2 hp2 hp2' ⟨j, rfl, hj0, hj6⟩
     have hM2 := hM1.setR p2
     have g42 : (H1.set r (RdO bs p2)).get b4 = some (.cells [.sl 1 none (Ty.encs t.kids)]) := by rw [Heap.zza _ _ (fun h => n4 (.inr (.inl h)))]; exact g41
     have g62 : (H1.set r (RdO bs p2)).get b6 = some (.cells [I 0, I 0, S (bl []), NIL, NIL]) := by rw [Heap.zza _ _ (fun h => n6 (.inr (.inl h)))]; exact g61
     have hjj : ∃ n : Int, ([[I 3], [I 3], [I 3], [I 5], [I 4]] : List (List AC))[j.toNat]? = some [I n] := by
      have : j = 0 ∨ j = 1 ∨ j = 2 ∨ j = 3 ∨ j = 4 := by omega
      rcases this with rfl | rfl | rfl | rfl | rfl
      ·exact ⟨3, rfl⟩
      ·exact ⟨3, rfl⟩
      ·exact ⟨3, rfl⟩
      ·exact ⟨5, rfl⟩
      ·exact ⟨4, rfl⟩
     obtain ⟨kd, hgk⟩ := hjj
     generalize H1.set r (RdO bs p2) = H2 at *
     simp only [go_sem, rE, rA, e0, e2, e4, hj0, hgk, g42, wd, rL]
     refine run_mk (ih t (dp - 1) ⟨D, hD8, hD⟩ (by omega) (by omega) p2 (by omega) (by omega)) hM2 (by simp only [go_sem, rE, Ty.enc_eq t]) (.refl _) (fun _ => ExprR.live _ _ _ _ (by omega)) (by simp [chkE]) ?_
     rintro q e3 v3 VS3 NS3 p3 last3 H3 fp3 ⟨⟨xa, rfl, hxa, hxa2⟩, rfl, hp3, hp3', rfl⟩ hM3 hk3 hfp3
     have nf4 : ¬ fp3 b4 := fun h => (hfp3 b4 h).elim n4 (fun h => by rw [g42] at h; simp at h)
     obtain ⟨g43, n43⟩ := hk3 _ _ g42 n4
     obtain ⟨g63, n63⟩ := hk3 _ _ g62 n6
     simp only [go_sem, rE, rA, e0, e2, e4, g43, wd, chkL, List.mem_cons, List.not_mem_nil, or_false, forall_eq, nf4, rL]
     refine run_mk (ih t (dp - 1) ⟨D, hD8, hD⟩ (by omega) (by omega) p3 (by omega) (by omega)) hM3 (by simp only [go_sem, rE, Ty.enc_eq t]) (.refl _) (fun _ => ExprR.live _ _ _ _ (by omega)) trivial ?_
     rintro q e5 v5 VS5 NS5 p5 last5 H5 fp5 ⟨⟨xb, rfl, hxb, hxb2⟩, rfl, hp5, hp5', rfl⟩ hM5 hk5 hfp5
     obtain ⟨g65, n65⟩ := hk5 _ _ g63 n63
     simp only [go_sem, rE, rA, e6, g65, Ex.enc_eq xa, Ex.enc_eq xb, List.replicate, List.flatten_cons, List.flatten_nil, rL, chunk, Nat.le_refl]
     intro b7 hb7
     have d67 := zzj g65 hb7
     simp only [go_sem, rE, rA, e6, d67, g65, rL]
     refine stop _ _ _ _ _ p5 (.mk kd 0 ⟨bl [], []⟩ [xa, xb]) _ ((hM5.new hb7 _).put n65 _) (by omega) (by omega) (by simp only [go_sem, rE]; exact e6) (Heap.zzb _ _ _) rfl ?_ (okTwo kd ⟨hxa, hxa2⟩ ⟨hxb, hxb2⟩)
     have := leTwo kd (some (b7, 2 * 5, 2 * 5)) xa xb
     simpa only [Ex.enc_eq xa, Ex.enc_eq xb] using this
    have readC : ∀ (E : Env), E 0 = .ptr m 0 → E 6 = .ptr b6 0 → ∀ A : Env → Heap → Prop, XCode.wp P (kd15 F) (XExit.then A (XFunc.post [.cell 6 (some 5)] (fun q H' => ∃ e' v' VS' NS' p' last', ExprR v p last (ecost d) q v' p' last' ∧ MkAt H' m r bs e' v' VS' NS' p' last'))) E H1 := by
     intro E e0 e6 A
     rw [kd15]
     simp only [go_sem, rE, rA]
     let J : Nat → Env → Heap → Prop := fun k E H => ∃ e' VS' NS' p', MkAt H m r bs e' v VS' NS' p' last ∧ p ≤ p' ∧ p' ≤ p + 1 + 20 * (k : Int) ∧ E 0 = .ptr m 0 ∧ E 6 = .ptr b6 0 ∧ E 11 = I k ∧ H.get b6 = some (.cells [I 0, I 0, S (bl []), NIL, NIL]) ∧ ¬ mkBlk m r e' VS' NS' b6
     refine yyc 4 J
      ⟨e, VS, NS, p1, hM1, by omega, by omega, e0, e6, rfl, g61, n6⟩ ?_
     rintro k E H hk ⟨e', VS', NS', p', hM, hp1, hp2, e0, e6, e11, g6, n6⟩
     simp only [wp_seq, go_sem, rE, rA, e11]
     refine zzn (fun hlt => ?_) (fun hge => ?_)
     ·have w1 := yya (n := (k : Int) + 1) (by omega) (by omega)
      simp only [go_sem, rE, rA, e0]
      refine run_mk (c_mkPlace L m r bs hbs v hv p' last (by omega) (by omega)) hM (rfl) (.refl _) (by simp) trivial ?_
      rintro q e2 v2 VS2 NS2 p2 last2 H2 fp2 ⟨⟨pl, u, rfl, hpl, hu⟩, rfl, hp3, hp4, rfl⟩ hM2 hk2 -
      obtain ⟨g6, n6⟩ := hk2 _ _ g6 n6
      simp only [go_sem, rE, rA, Ty.enc_eq u, Pl.enc]
      intro b12 hb12 b13 hb13
      have hM3 := (hM2.new hb12 (.cells [S pl.name, zze pl.path])).new (new2 hb13 _) (.cells [.sl 1 none (Ty.encs u.kids)])
      have d12 := new_ne hb13
      have d6a := zzj g6 hb12
      have d6b : b6 ≠ b13 := zzj (H := H2.set b12 _) (by rw [Heap.zza _ _ d6a]; exact g6) hb13
      have hz : (((u.kids.length : Nat) : Int) == 0) = decide (u.kids.length = 0) := by rw [Bool.eq_iff_iff]; simp
      simp only [go_sem, rE, rA, d12, Ne.symm d12, Ty.zzk, List.length_map, hz, alloc2 d12]
      have next : ∀ (E' : Env), E' 0 = .ptr m 0 → E' 6 = .ptr b6 0 → E' 11 = I (k + 1 : Nat) → k < 4 ∧ ∃ H'', Heap.sub H'' ((H2.set b12 (.cells [S pl.name, zze pl.path])).set b13 (.cells [.sl 1 none (u.kids.map Ty.enc)])) ∧ J (k + 1) E' H'' := by
       intro E' h0 h6 h11
       rw [← Ty.zzk]
       exact ⟨by omega, _, Heap.zzm _, e2, VS2, NS2, p2, hM3, by omega, by omega, h0, h6, h11, by rw [Heap.zza _ _ d6b, Heap.zza _ _ d6a]; exact g6, n6⟩
      by_cases hu0 : u.kids.length = 0
      ·by_cases hn : pl.name = bl [110, 111, 110, 101]
       ·simp only [go_sem, rE, rA, hu0, hn, d12, e11, w1]
        rw [← hn]
        refine next _ (e0) (e6) (rfl)
       ·simp only [go_sem, rE, rA, hu0, hn, d12, e6, d6a, d6b, g6, rL]
        rw [← Ty.zzk]
        exact stop _ _ _ _ _ p2 (.mk 2 0 pl []) _ (hM3.put n6 _) (by omega) (by omega) (by simp only [go_sem, rE]; exact e6) (Heap.zzb _ _ _) rfl (leRead pl) (okRead pl hpl)
      ·simp only [go_sem, rE, rA, hu0, e11, w1]
       exact next _ (e0) (e6) (rfl)
     ·simp only [go_sem, rE, rA, e6, g6, rL]
      exact stop _ _ _ _ _ p' (.mk 1 1 ⟨bl [], []⟩ []) _ (hM.put n6 _) (by omega) (by omega) (by simp only [go_sem, rE]; exact e6) (Heap.zzb _ _ _) rfl (leNum 1) (okNum 1 (by decide))
    have fin4 : ∀ (E : Env), E 0 = .ptr m 0 → E 2 = I dp → E 4 = .ptr b4 0 → E 6 = .ptr b6 0 → E 10 = I k → ¬ (k < 2 ∨ (dp < 2 ∧ 3 < k)) →
     XCode.wp P (kd16 F) (XFunc.post [.cell 6 (some 5)] (fun q H' => ∃ e' v' VS' NS' p' last', ExprR v p last (ecost d) q v' p' last' ∧ MkAt H' m r bs e' v' VS' NS' p' last')) E H1 := by
     intro E e0 e2 e4 e6 e10 hnot
     rw [kd16]
     by_cases hk4 : k < 4
     ·simp only [go_sem, rE, rA, e10, hk4]
      exact readC _ (by simp only [go_sem, rE, e0]) (by simp only [go_sem, rE, e6]) _
     ·simp only [go_sem, rE, rA, e10, hk4]
      exact twoC _ (by omega) (e0) (e2) (e4) (e6)
    by_cases hk2 : k < 2
    ·simp only [go_sem, rE, rA, hk2]
     exact numC _ (by simp only [go_sem, rE, e0]) (by simp only [go_sem, rE, e6]) _
    ·by_cases hdp3 : dp < 2
     ·by_cases hk3 : k > 3
      ·simp only [go_sem, rE, rA, hk2, e2, hdp3, hk3]
       exact numC _ (by simp only [go_sem, rE, e0]) (by simp only [go_sem, rE, e6]) _
      ·simp only [go_sem, rE, rA, hk2, e2, hdp3, hk3]
       exact fin4 _ (e0) (e2) (e4) (e6) (rfl) (by omega)
     ·simp only [go_sem, rE, rA, hk2, e2, hdp3]
      exact fin4 _ (e0) (e2) (e4) (e6) (rfl) (by omega)
   obtain ⟨ks⟩ := t
   obtain ⟨hk3, hks⟩ := Ty.le_kids hD
   simp only [Ty.kids] at g4 other ⊢
   have hz2 : (((ks.length : Nat) : Int) == 2) = decide (ks.length = 2) := by rw [Bool.eq_iff_iff, beq_iff_eq, decide_eq_true_eq]; omega
   by_cases hk2 : ks.length = 2
   ·obtain ⟨ta, tb, rfl⟩ : ∃ ta tb, ks = [ta, tb] := by
     match ks, hk2 with
     | [ta, tb], _ => exact ⟨_, _, rfl⟩
    obtain ⟨Da, hDa, hta⟩ := hks ta (by simp)
    obtain ⟨Db, hDb, htb⟩ := hks tb (by simp)
    have wfa : ta.wf := ⟨Da, by omega, hta⟩
    have wfb : tb.wf := ⟨Db, by omega, htb⟩
    have ea : (Ty.encs [ta, tb])[0]? = some ta.enc := by simp [Ty.encs]
    have eb : (Ty.encs [ta, tb])[1]? = some tb.enc := by simp [Ty.encs]
    rw [Ty.enc_eq] at ea eb
    have hl2 : (Ty.encs [ta, tb]).length = 2 := rfl
    simp only [go_sem, rE, rA, g4, hl2, Int.cast_ofNat_Int, beq_self_eq_true]
    have deepC : ∀ (E : Env) (H : Heap) (e' : Nat) (VS' NS' : AC) (p' : Int), MkAt H m r bs e' v VS' NS' p' last → p ≤ p' → p' ≤ p + 100 → E 0 = .ptr m 0 → E 2 = I dp → E 4 = .ptr b4 0 → E 6 = .ptr b6 0 → H.get b4 = some (.cells [.sl 1 none (Ty.encs [ta, tb])]) → H.get b6 = some (.cells [I 0, I 0, S (bl []), NIL, NIL]) → ¬ mkBlk m r e' VS' NS' b4 → ¬ mkBlk m r e' VS' NS' b6 →
     ∀ A : Env → Heap → Prop, XCode.wp P (kd18 F) (XExit.then A (XFunc.post [.cell 6 (some 5)] (fun q H' => ∃ e' v' VS' NS' p' last', ExprR v p last (ecost d) q v' p' last' ∧ MkAt H' m r bs e' v' VS' NS' p' last'))) E H := by
     intro E H e' VS' NS' p' hM1 h1 h2 e0 e2 e4 e6 g41 g61 n4 n6 A
     rw [kd18]
     simp only [go_sem, rE, rA, e2]
     refine zzn (fun hlt => ?_) (fun hge => ?_)
     ·simp only [go_sem, rE, rA, e6, g61, rL]
      exact stop _ _ _ _ _ p' (.mk 2 0 ⟨bl [110, 111, 110, 101], []⟩ []) _ (hM1.put n6 _) (by omega) (by omega) (by simp only [go_sem, rE]; exact e6) (Heap.zzb _ _ _) rfl leNone (okRead _ (by simp))
     ·obtain ⟨d', rfl⟩ : ∃ d', d = d' + 1 := ⟨d - 1, by omega⟩
      have hec' := ecost_pos d'
      have hecd : ecost (d' + 1) = 200 + 2 * ecost d' := rfl
      have wd := yya (n := dp - 1) (by omega) (by omega)
      have ih := ih d' (by omega) (by omega)
      simp only [go_sem, rE, rA, e0, e2, e4, g41, wd, Int.le_refl, Int.toNat_zero, ea, rL]
      refine run_mk (ih ta (dp - 1) wfa (by omega) (by omega) p' (by omega) (by omega)) hM1 (by simp only [go_sem, rE, Ty.enc_eq ta]) (.refl _) (fun _ => ExprR.live _ _ _ _ (by omega)) (by simp [chkE]) ?_
      rintro q e3 v3 VS3 NS3 p3 last3 H3 fp3 ⟨⟨xa, rfl, hxa, hxa2⟩, rfl, hp3, hp3', rfl⟩ hM3 hk3 hfp3
      have nf4 : ¬ fp3 b4 := fun h => (hfp3 b4 h).elim n4 (fun h => by rw [g41] at h; simp at h)
      obtain ⟨g43, n43⟩ := hk3 _ _ g41 n4
      obtain ⟨g63, n63⟩ := hk3 _ _ g61 n6
      simp only [go_sem, rE, rA, e0, e2, e4, g43, wd, Int.reduceLE, Int.reduceToNat, eb, chkL, List.mem_cons, List.not_mem_nil, or_false, forall_eq, nf4, rL]
      refine run_mk (ih tb (dp - 1) wfb (by omega) (by omega) p3 (by omega) (by omega)) hM3 (by simp only [go_sem, rE, Ty.enc_eq tb]) (.refl _) (fun _ => ExprR.live _ _ _ _ (by omega)) trivial ?_
      rintro q e5 v5 VS5 NS5 p5 last5 H5 fp5 ⟨⟨xb, rfl, hxb, hxb2⟩, rfl, hp5, hp5', rfl⟩ hM5 hk5 hfp5
      obtain ⟨g65, n65⟩ := hk5 _ _ g63 n63
      simp only [go_sem, rE, rA, e6, g65, Ex.enc_eq xa, Ex.enc_eq xb, List.replicate, List.flatten_cons, List.flatten_nil, rL, chunk, Nat.le_refl]
      intro b7 hb7
      have d67 := zzj g65 hb7
      simp only [go_sem, rE, rA, e6, d67, g65, rL]
      refine stop _ _ _ _ _ p5 (.mk 6 0 ⟨bl [], []⟩ [xa, xb]) _ ((hM5.new hb7 _).put n65 _) (by omega) (by omega) (by simp only [go_sem, rE]; exact e6) (Heap.zzb _ _ _) rfl ?_ (okTwo 6 ⟨hxa, hxa2⟩ ⟨hxb, hxb2⟩)
      have := leTwo 6 (some (b7, 2 * 5, 2 * 5)) xa xb
      simpa only [Ex.enc_eq xa, Ex.enc_eq xb] using this
    let J : Nat → Env → Heap → Prop := fun k E H => ∃ e' VS' NS' p', MkAt H m r bs e' v VS' NS' p' last ∧ p ≤ p' ∧ p' ≤ p + 20 * (k : Int) ∧ E 0 = .ptr m 0 ∧ E 2 = I dp ∧ E 4 = .ptr b4 0 ∧ E 6 = .ptr b6 0 ∧ E 7 = I k ∧ H.get b4 = some (.cells [.sl 1 none (Ty.encs [ta, tb])]) ∧ H.get b6 = some (.cells [I 0, I 0, S (bl []), NIL, NIL]) ∧ ¬ mkBlk m r e' VS' NS' b4 ∧ ¬ mkBlk m r e' VS' NS' b6
    refine yyc 3 J ⟨e, VS, NS, p, hM6, by omega, by omega, rfl, rfl, rfl, rfl, rfl, g4, g6, n4, n6⟩ ?_
    clear g4 g6 n4 n6 hom hM6
    rintro k E H hk ⟨e', VS', NS', p', hM, hp1, hp2, e0, e2, e4, e6, e7, g4, g6, n4, n6⟩
    simp only [wp_seq, go_sem, rE, rA, e7]
    refine zzn (fun hlt => ?_) (fun hge => ?_)
    ·have w1 := yya (n := (k : Int) + 1) (by omega) (by omega)
     simp only [go_sem, rE, rA, e0]
     refine run_mk (c_mkPlace L m r bs hbs v hv p' last (by omega) (by omega)) hM (rfl) (.refl _) (by simp) trivial ?_
     rintro q e2' v2 VS2 NS2 p2 last2 H2 fp2 ⟨⟨pl, u, rfl, hpl, hu⟩, rfl, hp3, hp4, rfl⟩ hM2 hk2 -
     obtain ⟨g4, n4⟩ := hk2 _ _ g4 n4
     obtain ⟨g6, n6⟩ := hk2 _ _ g6 n6
     obtain ⟨Du, hDu, hu⟩ := hu
     simp only [go_sem, rE, rA, Ty.enc_eq u, Pl.enc]
     intro b12 hb12 b13 hb13
     have hM3 := (hM2.new hb12 (.cells [S pl.name, zze pl.path])).new (new2 hb13 _) (.cells [.sl 1 none (Ty.encs u.kids)])
     have d12 := new_ne hb13
     have d6a := zzj g6 hb12
     have d4a := zzj g4 hb12
     have d6b : b6 ≠ b13 := zzj (H := H2.set b12 _) (by rw [Heap.zza _ _ d6a]; exact g6) hb13
     have d4b : b4 ≠ b13 := zzj (H := H2.set b12 _) (by rw [Heap.zza _ _ d4a]; exact g4) hb13
     simp only [go_sem, rE, rA, d12, Ne.symm d12, alloc2 d12, e4, d4a, d4b, g4, rL]
     refine zzc (c_l1Same L Du u (.mk [ta, tb]) hu) (by simp only [go_sem, rE, Ty.enc_eq u, Ty.enc_eq (.mk [ta, tb]), Ty.kids]) ?_
     by_cases hs : u = .mk [ta, tb]
     ·simp only [go_sem, rE, rA, hs, d12, e6, d6a, d6b, g6, rL]
      rw [hs] at hM3
      exact stop _ _ _ _ _ p2 (.mk 2 0 pl []) _ (hM3.put n6 _) (by omega) (by omega) (by simp only [go_sem, rE]; exact e6) (Heap.zzb _ _ _) rfl (leRead pl) (okRead pl hpl)
     ·simp only [go_sem, rE, rA, hs, e7, w1]
      exact ⟨by omega, _, Heap.zzm _, e2', VS2, NS2, p2, hM3, by omega, by omega, e0, e2, e4, e6, rfl, by rw [Heap.zza _ _ d4b, Heap.zza _ _ d4a]; exact g4, by rw [Heap.zza _ _ d6b, Heap.zza _ _ d6a]; exact g6, n4, n6⟩
    ·simp only [wp_exit, then_exit, xxi, xxa]
     exact deepC _ _ e' VS' NS' p' hM hp1 (by omega) (by simp only [go_sem, rE, e0]) (by simp only [go_sem, rE, e2]) (by simp only [go_sem, rE, e4]) (by simp only [go_sem, rE, e6]) g4 g6 n4 n6 _
   ·simp only [go_sem, rE, rA, g4, Ty.zzk, List.length_map, hz2, hk2]
    rw [Ty.zzk] at other
    rw [Ty.zzk] at g4
    exact other _ _ hM6 (rfl) (rfl) (rfl) (rfl) g4 g6
end
end Go.Xl
namespace Go.Xl
open Nat renaming reduceEqDiff → rE, reduceAdd → rA, reduceLeDiff → rL
def P0 : Pl := ⟨bl [], []⟩
def E0 : Ex := .mk 0 0 P0 []
theorem E0_sm : E0.sm := .mk (by decide) (by simp)
def StR (N k : Nat) (v : En) (p last : Int) (c : Int) (q : AC) (v' : En) (p' last' : Int) : Prop :=
 (∃ s : St, q = .agg s.enc ∧ s.cnt ≤ N ∧ s.sm (k + 1)) ∧ v' = v ∧ p ≤ p' ∧ p' ≤ p + c ∧ last ≤ last' ∧ last' ≤ last + c
theorem LeR.snoc : ∀ {xs ys : List (List AC)} {x y : List AC}, LeR xs ys → LeC x y → LeR (xs ++ [x]) (ys ++ [y])
 | [], [], x, y, _, h => ⟨h, trivial⟩
 | a :: xs, b :: ys, x, y, h, h' => ⟨h.1, LeR.snoc h.2 h'⟩
theorem le_rows {H : Heap} {sz : Nat} {rows rows' : List (List AC)} {x : AC} (h : AppSt H sz rows x) (hr : LeR rows rows') : Le x (.sl sz none rows') := by
 rcases h with ⟨rfl, rfl⟩ | ⟨b, n, m, rfl, -⟩
 ·cases rows' with
  | nil => exact .nil sz
  | cons => simp [LeR] at hr
 ·exact Le.slR hr
theorem leArgE (x : Ex) : LeC ([B false, S (bl []), NIL] ++ x.enc) (Ag.mk false P0 x).enc := by
 rw [Ag.enc, Ex.enc_eq]
 exact ⟨⟨.refl _, rfl⟩, ⟨.refl _, rfl⟩, ⟨.nil 1, rfl⟩, ⟨.refl _, rfl⟩, ⟨.refl _, rfl⟩, ⟨.refl _, rfl⟩, ⟨.refl _, rfl⟩, ⟨.refl _, rfl⟩, trivial⟩
theorem leCall {x : AC} (nm fn : ByteArray) (as : List Ag) (hx : Le x (.sl 8 none (as.map Ag.enc))) :
 LeC [I 4, S nm, S (bl []), NIL, S (bl []), NIL, I 0, I 0, S (bl []), NIL, NIL, S fn, x, NIL, NIL] (St.mk 4 nm P0 P0 E0 fn as [] []).enc := by
 rw [St.enc_eq]
 exact ⟨⟨.refl _, rfl⟩, ⟨.refl _, rfl⟩, ⟨.refl _, rfl⟩, ⟨.nil 1, rfl⟩, ⟨.refl _, rfl⟩, ⟨.nil 1, rfl⟩, ⟨.refl _, rfl⟩, ⟨.refl _, rfl⟩, ⟨.refl _, rfl⟩, ⟨.nil 1, rfl⟩, ⟨.nil 5, rfl⟩, ⟨.refl _, rfl⟩, ⟨hx, rfl⟩, ⟨.nil 15, rfl⟩, ⟨.nil 15, rfl⟩, trivial⟩
def nameR (v : En) (p last : Int) (q : AC) (v' : En) (p' last' : Int) : Prop := (∃ s, q = S s) ∧ v' = v ∧ p' = p ∧ last' = last + 1
theorem AppSt.keepF {H H1 : Heap} {sz : Nat} {es : List (List AC)} {x : AC} (h : AppSt H sz es x) (hk : ∀ d, tokOf x d → H1.get d = H.get d) : AppSt H1 sz es x := by
 rcases h with h | ⟨b, n, m, rfl, hb⟩
 ·exact .inl h
 ·exact .inr ⟨b, n, m, rfl, by rw [hk b ⟨_, _, _, _, rfl⟩]; exact hb⟩
theorem AppSt.mem {H : Heap} {sz : Nat} {es : List (List AC)} {x : AC} (h : AppSt H sz es x) {d : Nat} (hd : tokOf x d) : ∃ n m, H.get d = some (.tail n m) := by
 obtain ⟨_, _, _, _, rfl⟩ := hd
 rcases h with ⟨-, h⟩ | ⟨b, n, m, h, hb⟩
 ·simp at h
 ·simp at h; obtain ⟨-, ⟨rfl, -⟩, -⟩ := h; exact ⟨n, m, hb⟩
section
variable {P : Program} {F : Ids}
theorem c_mkCall (L : Lib P F) (m r : Nat) (bs : List UInt8) (hbs : bs.length ≤ 2000) (v : En) (N : Nat) (hv : v.dr N) (p last : Int) (hl : 0 ≤ last) (hl2 : last ≤ 2 ^ 40) (hp : 0 ≤ p) (hp2 : p + 8000 ≤ 2 ^ 50) :
 MkC P F.s_l71Mk_call [.ptr m 0] m r bs v p last (StR 5 0 v p last 8000) := by
 intro H e VS NS hM
 refine L.s_l71Mk_call (by simp [x_s_l71Mk_call]) ?_
 simp only [x_s_l71Mk_call, go_sem, rE]
 intro b2 hb2
 have hM2 := hM.new hb2 (.cells [I 0, S (bl []), S (bl []), NIL, S (bl []), NIL, I 0, I 0, S (bl []), NIL, NIL, S (bl []), NIL, NIL, NIL])
 have n2 := hM.notin hb2
 refine run_mk (R := nameR v p last) (c_mkName L m r bs v p last hl hl2) hM2 (rfl) (.refl _) (by simp) trivial ?_
 rintro q e1 v1 VS1 NS1 p1 last1 H1 fp1 ⟨⟨nm, rfl⟩, rfl, rfl, rfl⟩ hM1 hk1 -
 obtain ⟨g2, n2⟩ := hk1 b2 _ (Heap.zzb _ _ _) n2
 clear hM hM2 hb2 hk1
 simp only [go_sem, rE, rA]
 intro b3 hb3
 have n3 := hM1.notin hb3
 have d23 := zzj g2 hb3
 have hom1 := hM1.obj
 have hoe1 := hM1.env.obj
 simp only [EnvO] at hoe1
 have dm3 : m ≠ b3 := fun h => n3 (.inl h.symm)
 have de3 : e1 ≠ b3 := fun h => n3 (.inr (.inr (.inl h.symm)))
 simp only [go_sem, rE, rA, dm3, de3, hom1, hoe1]
 have hM3 := hM1.new hb3 (.cells [I 4, S nm, S (bl []), NIL, S (bl []), NIL, I 0, I 0, S (bl []), NIL, NIL, S (bl []), NIL, NIL, NIL])
 have g23 : (H1.set b3 (.cells [I 4, S nm, S (bl []), NIL, S (bl []), NIL, I 0, I 0, S (bl []), NIL, NIL, S (bl []), NIL, NIL, NIL])).get b2 = some (.cells [I 0, S (bl []), S (bl []), NIL, S (bl []), NIL, I 0, I 0, S (bl []), NIL, NIL, S (bl []), NIL, NIL, NIL]) := by rw [Heap.zza _ _ d23]; exact g2
 have g33 : (H1.set b3 (.cells [I 4, S nm, S (bl []), NIL, S (bl []), NIL, I 0, I 0, S (bl []), NIL, NIL, S (bl []), NIL, NIL, NIL])).get b3 = some (.cells [I 4, S nm, S (bl []), NIL, S (bl []), NIL, I 0, I 0, S (bl []), NIL, NIL, S (bl []), NIL, NIL, NIL]) := Heap.zzb _ _ _
 generalize H1.set b3 (.cells [I 4, S nm, S (bl []), NIL, S (bl []), NIL, I 0, I 0, S (bl []), NIL, NIL, S (bl []), NIL, NIL, NIL]) = H3 at *
 clear hM1 g2 hb3
 have stop : ∀ (E' : Env) (H' : Heap) (e' : Nat) (VS' NS' : AC) (p' : Int) (s : St) (cs : List AC), MkAt H' m r bs e' v1 VS' NS' p' (last + 1) → p1 ≤ p' → p' ≤ p1 + 8000 → E' 2 = .ptr b2 0 → H'.get b2 = some (.cells cs) → cs.length = 15 → LeC cs s.enc → s.cnt ≤ 5 → s.sm 1 →
  XFunc.post [.cell 2 (some 15)] (fun q H' => ∃ e' v' VS' NS' p' last', StR 5 0 v1 p1 last 8000 q v' p' last' ∧ MkAt H' m r bs e' v' VS' NS' p' last') .ret E' H' := by
  intro E' H' e' VS' NS' p' s cs hM h1 h2 e2 g2 hl5 hle hx hsm
  exact yym (q' := .agg s.enc) (q := .agg cs) (off := 0) e2 g2 (by simp only [partA, hl5, Nat.le_refl, Nat.zero_add, if_true, List.drop_zero]; rw [List.take_of_length_le (by omega)]) (.agg hle) (Heap.zzm _) ⟨e', v1, VS', NS', p', last + 1, ⟨⟨s, rfl, hx, hsm⟩, rfl, h1, h2, by omega, by omega⟩, hM⟩
 have callOk : ∀ (fn : ByteArray) (as : List Ag), as.length ≤ 4 → (∀ a ∈ as, a.expr.sm) → (St.mk 4 nm P0 P0 E0 fn as [] []).cnt ≤ 5 ∧ (St.mk 4 nm P0 P0 E0 fn as [] []).sm 1 := by
  intro fn as h1 h2
  refine ⟨by rw [St.cnt_eq]; simp only [St.args, St.thn, St.els, St.cntL_nil]; omega, .mk E0_sm h2 (by simp) (by simp)⟩
 have stepL : ∀ (E : Env) (H : Heap) (e' : Nat) (VS' NS' : AC) (p' : Int) (fn : ByteArray) (as : List Ag) (X : AC), MkAt H m r bs e' v1 VS' NS' p' (last + 1) → p1 ≤ p' → p' ≤ p1 + 8000 → ¬ mkBlk m r e' VS' NS' b2 → E 2 = .ptr b2 0 → E 3 = .ptr b3 0 →
  H.get b2 = some (.cells [I 0, S (bl []), S (bl []), NIL, S (bl []), NIL, I 0, I 0, S (bl []), NIL, NIL, S (bl []), NIL, NIL, NIL]) → H.get b3 = some (.cells [I 4, S nm, S (bl []), NIL, S (bl []), NIL, I 0, I 0, S (bl []), NIL, NIL, S fn, X, NIL, NIL]) →
  Le X (.sl 8 none (as.map Ag.enc)) → as.length ≤ 4 → (∀ a ∈ as, a.expr.sm) →
  XCode.wp P (kd19 F) (XFunc.post [.cell 2 (some 15)] (fun q H' => ∃ e' v' VS' NS' p' last', StR 5 0 v1 p1 last 8000 q v' p' last' ∧ MkAt H' m r bs e' v' VS' NS' p' last')) E H := by
  intro E H e' VS' NS' p' fn as X hM h1 h2 n2 e2 e3 g2 g3 hX ha1 ha2
  rw [kd19]
  simp only [go_sem, rE, rA, e2, e3, g2, g3, rL]
  obtain ⟨c1, c2⟩ := callOk fn as ha1 ha2
  exact stop _ _ e' VS' NS' p' (.mk 4 nm P0 P0 E0 fn as [] []) _ (hM.put n2 _) h1 h2 (by simp only [go_sem, rE]; exact e2) (Heap.zzb _ _ _) rfl (leCall nm fn as hX) c1 c2
 have hfnl := hv.fn
 by_cases hf0 : v1.fn = 0
 ·have hf0' : ((v1.fn : Int) == 0) = true := by simp [hf0]
  simp only [hf0', go_sem, rE, rA, g23, g33, rL]
  obtain ⟨c1, c2⟩ := callOk (bl []) [] (by simp) (by simp)
  exact stop _ _ e1 VS1 NS1 p1 (.mk 4 nm P0 P0 E0 (bl []) [] [] []) _ (hM3.put n2 _) (by omega) (by omega) (rfl) (Heap.zzb _ _ _) rfl (leCall nm (bl []) [] (.nil 8)) c1 c2
 ·have hf0' : ((v1.fn : Int) == 0) = false := by simpa using hf0
  have hom := hM3.obj
  have hoe := hM3.env.obj
  simp only [EnvO] at hoe
  have dme : m ≠ e1 := fun h => hM3.nm (.inl h)
  have der : e1 ≠ r := fun h => hM3.nr (.inl h.symm)
  simp only [hf0', go_sem, rE, rA, hom, hoe]
  refine yyg (c_pick' L r bs p1 v1.fn hbs hp (by omega)) (rfl) hM3.rd (fun _ => ⟨by omega, I 0, 0, rfl, by omega, .inr rfl⟩) (by simp [chkE]; exact ⟨der, hM3.mr⟩) ?_
  rintro q p2 hp2 hp2' ⟨k, rfl, hk0, hk1⟩
  have hM4 := hM3.setR p2
  have g24 : (H3.set r (RdO bs p2)).get b2 = some (.cells [I 0, S (bl []), S (bl []), NIL, S (bl []), NIL, I 0, I 0, S (bl []), NIL, NIL, S (bl []), NIL, NIL, NIL]) := by rw [Heap.zza _ _ (fun h => n2 (.inr (.inl h)))]; exact g23
  have g34 : (H3.set r (RdO bs p2)).get b3 = some (.cells [I 4, S nm, S (bl []), NIL, S (bl []), NIL, I 0, I 0, S (bl []), NIL, NIL, S (bl []), NIL, NIL, NIL]) := by rw [Heap.zza _ _ (fun h => n3 (.inr (.inl h)))]; exact g33
  generalize H3.set r (RdO bs p2) = H4 at *
  have hkl : k.toNat < v1.p.length := by omega
  obtain ⟨cf, hcf, CF⟩ := fuC v1.p[k.toNat]
  have hgf : (v1.p.map Fu.enc)[k.toNat]? = some cf := by rw [← hcf]; exact fu_get hkl
  obtain ⟨hfo, hf4⟩ := hv.p _ (List.getElem_mem hkl)
  generalize v1.p[k.toNat] = f at *
  simp only [go_sem, rE, rA, hk0, hgf, CF.len, CF.all, CF.name]
  intro b4 hb4
  have n4 := hM4.notin hb4
  have hM5 := hM4.new hb4 (.cells cf)
  have d24 := zzj g24 hb4
  have d34 := zzj g34 hb4
  simp only [go_sem, rE, rA, d34, g34, rL]
  let J : Nat → Env → Heap → Prop := fun i E H => ∃ (e' : Nat) (VS' NS' : AC) (p' : Int) (as : List Ag) (rows : List (List AC)) (X : AC), MkAt H m r bs e' v1 VS' NS' p' (last + 1) ∧ p1 ≤ p' ∧ p' ≤ p1 + 1 + 1700 * (i : Int) ∧ E 0 = .ptr m 0 ∧ E 2 = .ptr b2 0 ∧ E 3 = .ptr b3 0 ∧ E 4 = .ptr b4 0 ∧ E 5 = I i ∧
   H.get b2 = some (.cells [I 0, S (bl []), S (bl []), NIL, S (bl []), NIL, I 0, I 0, S (bl []), NIL, NIL, S (bl []), NIL, NIL, NIL]) ∧ H.get b3 = some (.cells [I 4, S nm, S (bl []), NIL, S (bl []), NIL, I 0, I 0, S (bl []), NIL, NIL, S f.name, X, NIL, NIL]) ∧ H.get b4 = some (.cells cf) ∧
   AppSt H 8 rows X ∧ LeR rows (as.map Ag.enc) ∧ as.length ≤ i ∧ (∀ a ∈ as, a.expr.sm) ∧ ¬ mkBlk m r e' VS' NS' b2 ∧ ¬ mkBlk m r e' VS' NS' b3 ∧ ¬ mkBlk m r e' VS' NS' b4 ∧ ∀ d, tokOf X d → ¬ mkBlk m r e' VS' NS' d
  refine yyc f.params.length J ⟨e1, VS1, NS1, p2, [], [], NIL, (hM5.put n3 _), by omega, by omega, rfl, rfl, rfl, rfl, rfl, by rw [Heap.zza _ _ d23, Heap.zza _ _ d24]; exact g24, Heap.zzb _ _ _, by rw [Heap.zza _ _ (Ne.symm d34), Heap.zzb],
   .nil _ _, trivial, by simp, by simp, n2, n3, n4, fun d ⟨_, _, _, _, h⟩ => by simp at h⟩ ?_
  clear g24 g34 n2 n3 n4 hM4 hM5 hb4 hom hoe hM3 g23 g33 hf0'
  rintro i E H hi ⟨e', VS', NS', p', as, rows, X, hM, hp1, hp2', e0, e2, e3, e4, e5, g2, g3, g4, hX, hR, hla, hsm, n2, n3, n4, nX⟩
  have cfp : (cf.drop 1)[0]? = some (.sl 3 none (f.params.map Pa.enc)) := by rw [List.getElem?_drop]; exact CF.params
  have cfp' : cf[1]? = some (.sl 3 none (f.params.map Pa.enc)) := CF.params
  have hrl : rows.length = as.length := by have := hR.length; simpa using this
  simp only [wp_seq, go_sem, rE, rA, e4, e5, g4, cfp', List.length_map]
  refine zzn (fun hlt => ?_) (fun hge => ?_)
  ·have hi1 : i < f.params.length := by omega
   have w1 := yya (n := (i : Int) + 1) (by omega) (by omega)
   obtain ⟨cp, hcp, CP⟩ := paC f.params[i]
   have hgp : (f.params.map Pa.enc)[i]? = some cp := by rw [← hcp]; simp [hi1]
   have hpt := (hfo.params _ (List.getElem_mem hi1)).type
   have cl := CP.lent1
   generalize f.params[i] = q at *
   have after : ∀ (E' : Env) (H5 H6 : Heap) (e5 : Nat) (VS5 NS5 : AC) (p5 : Int) (row : List AC) (ag : Ag) (x' : AC), MkAt H5 m r bs e5 v1 VS5 NS5 p5 (last + 1) → p1 ≤ p5 → p5 ≤ p1 + 1 + 1700 * ((i + 1 : Nat) : Int) →
    H5.get b2 = some (.cells [I 0, S (bl []), S (bl []), NIL, S (bl []), NIL, I 0, I 0, S (bl []), NIL, NIL, S (bl []), NIL, NIL, NIL]) → H5.get b3 = some (.cells [I 4, S nm, S (bl []), NIL, S (bl []), NIL, I 0, I 0, S (bl []), NIL, NIL, S f.name, X, NIL, NIL]) → H5.get b4 = some (.cells cf) →
    ¬ mkBlk m r e5 VS5 NS5 b2 → ¬ mkBlk m r e5 VS5 NS5 b3 → ¬ mkBlk m r e5 VS5 NS5 b4 → AppSt H5 8 rows X → (∀ d, tokOf X d → ¬ mkBlk m r e5 VS5 NS5 d) → AppSt H6 8 (rows ++ [row]) x' → (∀ c, H5.get c ≠ none → ¬ tokOf X c → H6.get c = H5.get c) → (∀ c, tokOf x' c → tokOf X c ∨ H5.get c = none) →
    LeC row ag.enc → ag.expr.sm → E' 0 = .ptr m 0 → E' 2 = .ptr b2 0 → E' 3 = .ptr b3 0 → E' 4 = .ptr b4 0 → E' 5 = I (i + 1 : Nat) →
    H6.get b3 = some (.cells [I 4, S nm, S (bl []), NIL, S (bl []), NIL, I 0, I 0, S (bl []), NIL, NIL, S f.name, X, NIL, NIL]) ∧ J (i + 1) E' (H6.set b3 (.cells [I 4, S nm, S (bl []), NIL, S (bl []), NIL, I 0, I 0, S (bl []), NIL, NIL, S f.name, x', NIL, NIL])) := by
    intro E' H5 H6 e5 VS5 NS5 p5 row ag x' hM5 h1 h2 g2 g3 g4 n2 n3 n4 hX nX hx' keep new hle hs k0 k2 k3 k4 k5
    have notk : ∀ {b cs}, H5.get b = some (.cells cs) → ¬ tokOf X b := by
     intro b cs hb ht
     obtain ⟨n, mm, h⟩ := hX.mem ht
     rw [h] at hb; simp at hb
    have g23 : H6.get b2 = _ := (keep b2 (by rw [g2]; simp) (notk g2)).trans g2
    have g33 : H6.get b3 = _ := (keep b3 (by rw [g3]; simp) (notk g3)).trans g3
    have g43 : H6.get b4 = _ := (keep b4 (by rw [g4]; simp) (notk g4)).trans g4
    have hM6 : MkAt H6 m r bs e5 v1 VS5 NS5 p5 (last + 1) := hM5.mono fun d hd => keep d (hM5.mem hd) (fun ht => nX d ht hd)
    have d32 : b2 ≠ b3 := by rintro rfl; rw [g23] at g33; simp at g33
    have d34 : b4 ≠ b3 := by rintro rfl; rw [g43] at g33; simp only [Option.some.injEq, HObj.cells.injEq] at g33; have := CF.len; rw [g33] at this; simp at this
    refine ⟨g33, e5, VS5, NS5, p5, as ++ [ag], rows ++ [row], x', hM6.put n3 _, h1, h2, k0, k2, k3, k4, k5, by rw [Heap.zza _ _ d32]; exact g23, Heap.zzb _ _ _, by rw [Heap.zza _ _ d34]; exact g43, hx'.set g33 _, by rw [List.map_append]; exact hR.snoc hle, by simp; omega, fun a ha => ?_, n2, n3, n4, fun d hd => ?_⟩
    ·rcases List.mem_append.1 ha with h | h
     ·exact hsm a h
     ·simp at h; subst h; exact hs
    ·rcases new d hd with h | h
     ·exact nX d h
     ·exact hM5.notin h
   simp only [go_sem, rE, rA, e4, e5, g4, cfp', hgp, cl]
   cases hlent : q.lent
   ·simp only [go_sem, rE, rA, e0, e3, e4, e5, g3, g4, cfp', hgp, CP.len, CP.type, List.length_drop, Nat.reduceSub, rL]
    refine run_mk (c_mkExpr L m r bs hbs v1 hv.ok (last + 1) 2 (by omega) q.type 2 hpt (by omega) (by omega) p' (by omega) (by simp [ecost]; omega)) hM (rfl) (.refl _) (fun _ => ExprR.live _ _ _ _ (by simp [ecost])) (by simp [chkE]; exact n3) ?_
    rintro q' e5' v5 VS5 NS5 p5 last5 H5 fp5 ⟨⟨x, rfl, hx, hxsm⟩, rfl, hp5, hp5', rfl⟩ hM5 hk5 -
    simp only [ecost] at hp5'
    obtain ⟨g2, n2⟩ := hk5 _ _ g2 n2
    obtain ⟨g3, n3⟩ := hk5 _ _ g3 n3
    obtain ⟨g4, n4⟩ := hk5 _ _ g4 n4
    have nX5 : ∀ d, tokOf X d → H5.get d = H.get d ∧ ¬ mkBlk m r e5' VS5 NS5 d := by
     intro d hd
     obtain ⟨n, mm, ht⟩ := hX.mem hd
     obtain ⟨h1, h2⟩ := hk5 _ _ ht (nX d hd)
     exact ⟨by rw [h1, ht], h2⟩
    have hX5 : AppSt H5 8 rows X := hX.keepF fun d hd => (nX5 d hd).1
    simp only [go_sem, rE, rA, Ex.enc_eq x, List.replicate, List.flatten_cons, List.flatten_nil, rL, chunk]
    refine run_appM2 (es := rows) (ys := [[B false, S (bl []), NIL, I x.kind, I x.num, S x.place.name, zze x.place.path, .sl 5 none (Ex.encs x.kids)]]) (by simp only [go_sem, rE]; exact hX5) (rfl) (by simp) (by rw [hrl]; simp; omega) ?_
    intro x' H6 fp6 hx' _ keep new
    simp only [go_sem, rE] at keep new
    have af := fun E' h0 h2 h3 h4 h5 => after E' H5 H6 e5' VS5 NS5 p5 _ ⟨false, P0, x⟩ x' hM5 (by omega) (by omega) g2 g3 g4 n2 n3 n4 hX5 (fun d hd => (nX5 d hd).2) hx' keep new (by have := leArgE x; rw [Ex.enc_eq x] at this; exact this) hxsm h0 h2 h3 h4 h5
    have g36 := (af (fun n => if n = 0 then .ptr m 0 else if n = 2 then .ptr b2 0 else if n = 3 then .ptr b3 0 else if n = 4 then .ptr b4 0 else I (i + 1 : Nat)) rfl rfl rfl rfl rfl).1
    have hx1 := hx'.one
    simp only [go_sem, rE, rA, e3, e5, g36, hx1, w1, rL]
    exact ⟨hi1, _, Heap.zzm _, (af _ (by simp only [go_sem, rE, e0]) (by simp only [go_sem, rE, e2]) (by simp only [go_sem, rE, e3]) (by simp only [go_sem, rE, e4]) (by simp only [go_sem, rE]; rfl)).2⟩
   ·simp only [go_sem, rE, rA, rL]
    intro b6 hb6
    have n6 := hM.notin hb6
    have d26 := zzj g2 hb6
    have d36 := zzj g3 hb6
    have d46 := zzj g4 hb6
    have nt6 : ¬ tokOf X b6 := fun ht => by obtain ⟨n, mm, h⟩ := hX.mem ht; rw [h] at hb6; simp at hb6
    let J2 : Nat → Env → Heap → Prop := fun k E H => ∃ (e' : Nat) (VS' NS' : AC) (p' : Int) (pl : Pl) (y : AC), MkAt H m r bs e' v1 VS' NS' p' (last + 1) ∧ p1 ≤ p' ∧ p' ≤ p1 + 1 + 1700 * (i : Int) + 20 * (k : Int) ∧ E 0 = .ptr m 0 ∧ E 2 = .ptr b2 0 ∧ E 3 = .ptr b3 0 ∧ E 4 = .ptr b4 0 ∧ E 5 = I i ∧ E 6 = .ptr b6 0 ∧ E 7 = I k ∧
     H.get b2 = some (.cells [I 0, S (bl []), S (bl []), NIL, S (bl []), NIL, I 0, I 0, S (bl []), NIL, NIL, S (bl []), NIL, NIL, NIL]) ∧ H.get b3 = some (.cells [I 4, S nm, S (bl []), NIL, S (bl []), NIL, I 0, I 0, S (bl []), NIL, NIL, S f.name, X, NIL, NIL]) ∧ H.get b4 = some (.cells cf) ∧ H.get b6 = some (.cells [S pl.name, y]) ∧
     AppSt H 8 rows X ∧ ¬ mkBlk m r e' VS' NS' b2 ∧ ¬ mkBlk m r e' VS' NS' b3 ∧ ¬ mkBlk m r e' VS' NS' b4 ∧ ¬ mkBlk m r e' VS' NS' b6 ∧ (∀ d, tokOf X d → ¬ mkBlk m r e' VS' NS' d) ∧ Le y (zze pl.path) ∧ y.cells? = some [y]
    refine yyc 6 J2 ⟨e', VS', NS', p', ⟨bl [110, 111, 110, 101], []⟩, NIL, hM.new hb6 _, hp1, by omega, e0, e2, e3, e4, e5, rfl, rfl, by rw [Heap.zza _ _ d26]; exact g2, by rw [Heap.zza _ _ d36]; exact g3, by rw [Heap.zza _ _ d46]; exact g4,
     by simp [go_sem], hX.new hb6 _, n2, n3, n4, n6, nX, .nil 1, rfl⟩ ?_
    clear g2 g3 g4 n2 n3 n4 n6 nX hX hM e0 e2 e3 e4 e5
    rintro k E H hk ⟨e', VS', NS', p', pl, y, hM, hp1, hp2', e0, e2, e3, e4, e5, e6, e7, g2, g3, g4, g6, hX, n2, n3, n4, n6, nX, hy, hy1⟩
    simp only [wp_seq, go_sem, rE, rA, e7]
    refine zzn (fun hlt2 => ?_) (fun hge2 => ?_)
    ·have w2 := yya (n := (k : Int) + 1) (by omega) (by omega)
     simp only [go_sem, rE, rA, e0]
     refine run_mk (c_mkPlace L m r bs hbs v1 hv.ok p' (last + 1) (by omega) (by omega)) hM (rfl) (.refl _) (by simp) trivial ?_
     rintro q2 e5' v5 VS5 NS5 p5 last5 H5 fp5 ⟨⟨pl2, u, rfl, hpl2, Du, hDu8, hDu⟩, rfl, hp5, hp5', rfl⟩ hM5 hk5 -
     obtain ⟨g2, n2⟩ := hk5 _ _ g2 n2
     obtain ⟨g3, n3⟩ := hk5 _ _ g3 n3
     obtain ⟨g4, n4⟩ := hk5 _ _ g4 n4
     obtain ⟨g6, n6⟩ := hk5 _ _ g6 n6
     have nX5 : ∀ d, tokOf X d → H5.get d = H.get d ∧ ¬ mkBlk m r e5' VS5 NS5 d := by
      intro d hd
      obtain ⟨n, mm, ht⟩ := hX.mem hd
      obtain ⟨h1, h2⟩ := hk5 _ _ ht (nX d hd)
      exact ⟨by rw [h1, ht], h2⟩
     have hX5 : AppSt H5 8 rows X := hX.keepF fun d hd => (nX5 d hd).1
     simp only [go_sem, rE, rA, Ty.enc_eq u, Pl.enc]
     intro b12 hb12 b13 hb13
     have hb13' := new2 hb13 (.cells [S pl2.name, zze pl2.path])
     have d12 := new_ne hb13
     have hM6 := (hM5.new hb12 (.cells [S pl2.name, zze pl2.path])).new hb13' (.cells [.sl 1 none (Ty.encs u.kids)])
     have fr : ∀ {b o}, H5.get b = some o → b ≠ b12 ∧ b ≠ b13 := by
      intro b o hb
      have h1 := zzj hb hb12
      exact ⟨h1, zzj (H := H5.set b12 (.cells [S pl2.name, zze pl2.path])) (by rw [Heap.zza _ _ h1]; exact hb) hb13'⟩
     have in6 : ∀ {b o}, H5.get b = some o → ((H5.set b12 (.cells [S pl2.name, zze pl2.path])).set b13 (.cells [.sl 1 none (Ty.encs u.kids)])).get b = some o := by
      intro b o hb
      rw [Heap.zza _ _ (fr hb).2, Heap.zza _ _ (fr hb).1]; exact hb
     have hX6 : AppSt ((H5.set b12 (.cells [S pl2.name, zze pl2.path])).set b13 (.cells [.sl 1 none (Ty.encs u.kids)])) 8 rows X := hX5.keepF fun d hd => by
      obtain ⟨n, mm, ht⟩ := hX5.mem hd
      rw [in6 ht, ht]
     have g26 := in6 g2
     have g36 := in6 g3
     have g46 := in6 g4
     have g66 := in6 g6
     have ga : ((H5.set b12 (.cells [S pl2.name, zze pl2.path])).set b13 (.cells [.sl 1 none (Ty.encs u.kids)])).get b12 = some (.cells [S pl2.name, zze pl2.path]) := by rw [Heap.zza _ _ d12, Heap.zzb]
     have gb : ((H5.set b12 (.cells [S pl2.name, zze pl2.path])).set b13 (.cells [.sl 1 none (Ty.encs u.kids)])).get b13 = some (.cells [.sl 1 none (Ty.encs u.kids)]) := Heap.zzb _ _ _
     simp only [go_sem, rE, rA, d12, Ne.symm d12, alloc2 d12]
     generalize ((H5.set b12 (.cells [S pl2.name, zze pl2.path])).set b13 (.cells [.sl 1 none (Ty.encs u.kids)])) = H6 at *
     simp only [go_sem, rE, rA, gb, e4, e5, g46, cfp', hgp, CP.len, CP.type, List.length_drop, Nat.reduceSub, rL]
     refine zzc (c_l1Same L Du u q.type hDu) (by simp only [go_sem, rE, Ty.enc_eq u]) ?_
     by_cases hs : u = q.type
     ·simp only [go_sem, rE, rA, hs, ga, e6, e7, g66, w2, rL]
      have d62 : b2 ≠ b6 := by rintro rfl; rw [g66] at g26; simp at g26
      have d63 : b3 ≠ b6 := by rintro rfl; rw [g66] at g36; simp at g36
      have d64 : b4 ≠ b6 := by rintro rfl; rw [g66] at g46; simp only [Option.some.injEq, HObj.cells.injEq] at g46; have := CF.len; rw [← g46] at this; simp at this
      exact ⟨by omega, _, Heap.zzm _, e5', VS5, NS5, p5, pl2, zze pl2.path, hM6.put n6 _, by omega, by omega, e0, e2, e3, e4, e5, e6, rfl, by rw [Heap.zza _ _ d62]; exact g26, by rw [Heap.zza _ _ d63]; exact g36, by rw [Heap.zza _ _ d64]; exact g46,
       Heap.zzb _ _ _, hX6.set g66 _, n2, n3, n4, n6, fun d hd => (nX5 d hd).2, .refl _, rfl⟩
     ·simp only [go_sem, rE, rA, hs, e7, w2]
      exact ⟨by omega, _, Heap.zzm _, e5', VS5, NS5, p5, pl, y, hM6, by omega, by omega, e0, e2, e3, e4, e5, e6, rfl, g26, g36, g46, g66, hX6, n2, n3, n4, n6, fun d hd => (nX5 d hd).2, hy, hy1⟩
    ·simp only [go_sem, rE, rA, e3, e6, g3, g6, List.replicate, List.flatten_cons, List.flatten_nil, rL, chunk]
     refine run_appM2 (es := rows) (ys := [[B true, S pl.name, y, I 0, I 0, S (bl []), NIL, NIL]]) (by simp only [go_sem, rE]; exact hX) (rfl) (by simp) (by rw [hrl]; simp; omega) ?_
     intro x' H6 fp6 hx' _ keep new
     simp only [go_sem, rE] at keep new
     have hrow : LeC [B true, S pl.name, y, I 0, I 0, S (bl []), NIL, NIL] (Ag.mk true pl E0).enc := by
      rw [Ag.enc, E0, Ex.enc]
      exact ⟨⟨.refl _, rfl⟩, ⟨.refl _, rfl⟩, ⟨hy, rfl⟩, ⟨.refl _, rfl⟩, ⟨.refl _, rfl⟩, ⟨.refl _, rfl⟩, ⟨.nil 1, rfl⟩, ⟨.nil 5, rfl⟩, trivial⟩
     have af := fun E' h0 h2 h3 h4 h5 => after E' H H6 e' VS' NS' p' _ ⟨true, pl, E0⟩ x' hM (by omega) (by omega) g2 g3 g4 n2 n3 n4 hX nX hx' keep new hrow E0_sm h0 h2 h3 h4 h5
     have g36 := (af (fun n => if n = 0 then .ptr m 0 else if n = 2 then .ptr b2 0 else if n = 3 then .ptr b3 0 else if n = 4 then .ptr b4 0 else I (i + 1 : Nat)) rfl rfl rfl rfl rfl).1
     have hx1 := hx'.one
     simp only [go_sem, rE, rA, e3, e5, g36, hx1, w1, rL]
     exact ⟨hi1, _, Heap.zzm _, (af _ (by simp only [go_sem, rE, e0]) (by simp only [go_sem, rE, e2]) (by simp only [go_sem, rE, e3]) (by simp only [go_sem, rE, e4]) (by simp only [go_sem, rE]; rfl)).2⟩
  ·simp only [wp_exit, then_exit, xxi, xxa]
   exact stepL _ _ e' VS' NS' p' f.name as X hM hp1 (by omega) n2 (e2) (e3) g2 g3 (le_rows hX hR) (by omega) hsm
end
end Go.Xl
namespace Go.Xl
open Nat renaming reduceEqDiff → rE, reduceAdd → rA, reduceLeDiff → rL
theorem pl_stay {H : Heap} {a b : Nat} {c c' : HObj} (ha : H.get a = none) (hb : (H.set a c).get b = none) : (∀ {d o}, H.get d = some o → ((H.set a c).set b c').get d = some o) ∧ ((H.set a c).set b c').get a = some c ∧ ((H.set a c).set b c').get b = some c' ∧ a ≠ b := by
 have d12 := new_ne hb
 refine ⟨fun {d o} hd => ?_, by rw [Heap.zza _ _ d12, Heap.zzb], Heap.zzb _ _ _, d12⟩
 have h1 := zzj hd ha
 have h2 : d ≠ b := zzj (H := H.set a c) (by rw [Heap.zza _ _ h1]; exact hd) hb
 rw [Heap.zza _ _ h2, Heap.zza _ _ h1]; exact hd
theorem lePick (nm : ByteArray) (p o : Pl) (x : Ex) : LeC ([I 6, S nm, S p.name, zze p.path, S o.name, zze o.path] ++ x.enc ++ [S (bl []), NIL, NIL, NIL]) (St.mk 6 nm p o x (bl []) [] [] []).enc := by
 rw [St.enc_eq, Ex.enc_eq]
 exact ⟨⟨.refl _, rfl⟩, ⟨.refl _, rfl⟩, ⟨.refl _, rfl⟩, ⟨.refl _, rfl⟩, ⟨.refl _, rfl⟩, ⟨.refl _, rfl⟩, ⟨.refl _, rfl⟩, ⟨.refl _, rfl⟩, ⟨.refl _, rfl⟩, ⟨.refl _, rfl⟩, ⟨.refl _, rfl⟩, ⟨.refl _, rfl⟩, ⟨.nil 8, rfl⟩, ⟨.nil 15, rfl⟩, ⟨.nil 15, rfl⟩, trivial⟩
theorem st_leaf (k : Int) (nm : ByteArray) (p o : Pl) (x : Ex) (hx : x.sm) : (St.mk k nm p o x (bl []) [] [] []).cnt ≤ 5 ∧ (St.mk k nm p o x (bl []) [] [] []).sm 1 :=
 ⟨by rw [St.cnt_eq]; simp [St.args, St.thn, St.els, St.cntL_nil], .mk hx (by simp) (by simp) (by simp)⟩
section
variable {P : Program} {F : Ids}
theorem c_mkPick (L : Lib P F) (m r : Nat) (bs : List UInt8) (hbs : bs.length ≤ 2000) (v : En) (hv : v.ok) (p last : Int) (hl : 0 ≤ last) (hl2 : last ≤ 2 ^ 40) (hp : 0 ≤ p) (hp2 : p + 8000 ≤ 2 ^ 50) :
 MkC P F.s_l71Mk_pick [.ptr m 0] m r bs v p last (StR 5 0 v p last 8000) := by
 intro H e VS NS hM
 refine L.s_l71Mk_pick (by simp [x_s_l71Mk_pick]) ?_
 simp only [x_s_l71Mk_pick, go_sem, rE]
 intro b2 hb2
 have hM2 := hM.new hb2 (.cells [I 0, S (bl []), S (bl []), NIL, S (bl []), NIL, I 0, I 0, S (bl []), NIL, NIL, S (bl []), NIL, NIL, NIL])
 have n2 := hM.notin hb2
 refine run_mk (R := nameR v p last) (c_mkName L m r bs v p last hl hl2) hM2 (rfl) (.refl _) (by simp) trivial ?_
 rintro q e1 v1 VS1 NS1 p1 last1 H1 fp1 ⟨⟨nm, rfl⟩, rfl, rfl, rfl⟩ hM1 hk1 -
 obtain ⟨g2, n2⟩ := hk1 b2 _ (Heap.zzb _ _ _) n2
 clear hM hM2 hb2 hk1
 simp only [go_sem, rE, rA]
 refine run_mk (as' := [.ptr m 0, .agg [NIL], I 2]) (c_mkExpr L m r bs hbs v1 hv (last + 1) 2 (by omega) (.mk []) 2 Ty.wf_nil (by omega) (by omega) p1 hp (by simp [ecost]; omega)) hM1 (rfl) ⟨.refl _, le_ty0, .refl _, trivial⟩ (by simp) trivial ?_
 rintro q e2 v2 VS2 NS2 p2 last2 H2 fp2 ⟨⟨x, rfl, hx, hxsm⟩, rfl, hp2, hp2', rfl⟩ hM2 hk2 -
 simp only [ecost] at hp2'
 obtain ⟨g2, n2⟩ := hk2 _ _ g2 n2
 simp only [go_sem, rE, rA, Ex.enc_eq x]
 intro b3 hb3
 have n3 := hM2.notin hb3
 have d23 := zzj g2 hb3
 have hM3 := hM2.new hb3 (.cells ([I 6, S nm, S (bl []), NIL, S (bl []), NIL] ++ [I x.kind, I x.num, S x.place.name, zze x.place.path, .sl 5 none (Ex.encs x.kids)] ++ [S (bl []), NIL, NIL, NIL]))
 simp only [go_sem, rE, rA]
 refine run_mk (c_mkPlace L m r bs hbs v2 hv p2 (last + 1) (by omega) (by omega)) hM3 (rfl) (.refl _) (by simp) trivial ?_
 rintro q e4 v4 VS4 NS4 p4 last4 H4 fp4 ⟨⟨pa, u, rfl, hpa, Du, hDu8, hDu⟩, rfl, hp4, hp4', rfl⟩ hM4 hk4 -
 obtain ⟨g2, n2⟩ := hk4 b2 _ (by rw [Heap.zza _ _ d23]; exact g2) n2
 obtain ⟨g3, n3⟩ := hk4 b3 _ (Heap.zzb _ _ _) n3
 clear hk4 hM3 hb3 hk2 hM2 hM1 d23
 simp only [go_sem, rE, rA, Ty.enc_eq u, Pl.enc]
 intro b4 hb4 b5 hb5
 have hb5' := new2 hb5 (.cells [S pa.name, zze pa.path])
 obtain ⟨stay, ga, gb, d45⟩ := pl_stay (c := .cells [S pa.name, zze pa.path]) (c' := .cells [.sl 1 none (Ty.encs u.kids)]) hb4 hb5'
 have hM5 := (hM4.new hb4 (.cells [S pa.name, zze pa.path])).new hb5' (.cells [.sl 1 none (Ty.encs u.kids)])
 have n4 := hM4.notin hb4
 have n5 := (hM4.new hb4 (.cells [S pa.name, zze pa.path])).notin hb5'
 have g2 := stay g2
 have g3 := stay g3
 simp only [go_sem, rE, rA, d45, Ne.symm d45, alloc2 d45]
 generalize ((H4.set b4 (.cells [S pa.name, zze pa.path])).set b5 (.cells [.sl 1 none (Ty.encs u.kids)])) = H5 at *
 have d34 : b3 ≠ b4 := by rintro rfl; rw [ga] at g3; simp at g3
 have d35 : b3 ≠ b5 := by rintro rfl; rw [gb] at g3; simp at g3
 have d24 : b2 ≠ b4 := by rintro rfl; rw [ga] at g2; simp at g2
 have d25 : b2 ≠ b5 := by rintro rfl; rw [gb] at g2; simp at g2
 have d23 : b2 ≠ b3 := by rintro rfl; rw [g3] at g2; simp at g2
 simp only [go_sem, rE, rA, ga, gb, g3, d34, Ne.symm d34, Ne.symm d35, rL]
 let J : Nat → Env → Heap → Prop := fun k E H => ∃ (e' : Nat) (VS' NS' : AC) (p' : Int) (o : Pl), MkAt H m r bs e' v4 VS' NS' p' (last + 1) ∧ p1 ≤ p' ∧ p' ≤ p1 + 3000 + 20 * (k : Int) ∧ E 0 = .ptr m 0 ∧ E 2 = .ptr b2 0 ∧ E 3 = .ptr b3 0 ∧ E 4 = .ptr b4 0 ∧ E 5 = .ptr b5 0 ∧ E 6 = I k ∧
  H.get b2 = some (.cells [I 0, S (bl []), S (bl []), NIL, S (bl []), NIL, I 0, I 0, S (bl []), NIL, NIL, S (bl []), NIL, NIL, NIL]) ∧
  H.get b3 = some (.cells [I 6, S nm, S pa.name, zze pa.path, S o.name, zze o.path, I x.kind, I x.num, S x.place.name, zze x.place.path, .sl 5 none (Ex.encs x.kids), S (bl []), NIL, NIL, NIL]) ∧
  H.get b4 = some (.cells [S pa.name, zze pa.path]) ∧ H.get b5 = some (.cells [.sl 1 none (Ty.encs u.kids)]) ∧ ¬ mkBlk m r e' VS' NS' b2 ∧ ¬ mkBlk m r e' VS' NS' b3 ∧ ¬ mkBlk m r e' VS' NS' b4 ∧ ¬ mkBlk m r e' VS' NS' b5
 refine yyc 8 J ⟨e4, VS4, NS4, p4, pa, hM5.put n3 _, by omega, by omega, rfl, rfl, rfl, rfl, rfl, rfl, by rw [Heap.zza _ _ d23]; exact g2, Heap.zzb _ _ _, by rw [Heap.zza _ _ (Ne.symm d34)]; exact ga, by rw [Heap.zza _ _ (Ne.symm d35)]; exact gb, n2, n3, n4, n5⟩ ?_
 clear g2 g3 ga gb n2 n3 n4 n5 hM5 stay hb4 hb5 hb5' hM4
 rintro k E H hk ⟨e', VS', NS', p', o, hM, hp1, hp2', e0, e2, e3, e4, e5, e6, g2, g3, g4, g5, n2, n3, n4, n5⟩
 simp only [wp_seq, go_sem, rE, rA, e6]
 refine zzn (fun hlt => ?_) (fun hge => ?_)
 ·have w1 := yya (n := (k : Int) + 1) (by omega) (by omega)
  simp only [go_sem, rE, rA, e0]
  refine run_mk (c_mkPlace L m r bs hbs v4 hv p' (last + 1) (by omega) (by omega)) hM (rfl) (.refl _) (by simp) trivial ?_
  rintro q e6' v6 VS6 NS6 p6 last6 H6 fp6 ⟨⟨pb, w, rfl, hpb, hw⟩, rfl, hp6, hp6', rfl⟩ hM6 hk6 -
  obtain ⟨g2, n2⟩ := hk6 _ _ g2 n2
  obtain ⟨g3, n3⟩ := hk6 _ _ g3 n3
  obtain ⟨g4, n4⟩ := hk6 _ _ g4 n4
  obtain ⟨g5, n5⟩ := hk6 _ _ g5 n5
  simp only [go_sem, rE, rA, Ty.enc_eq w, Pl.enc]
  intro b7 hb7 b8 hb8
  have hb8' := new2 hb8 (.cells [S pb.name, zze pb.path])
  obtain ⟨stay, ga, gb, d78⟩ := pl_stay (c := .cells [S pb.name, zze pb.path]) (c' := .cells [.sl 1 none (Ty.encs w.kids)]) hb7 hb8'
  have hM7 := (hM6.new hb7 (.cells [S pb.name, zze pb.path])).new hb8' (.cells [.sl 1 none (Ty.encs w.kids)])
  have g2 := stay g2
  have g3 := stay g3
  have g4 := stay g4
  have g5 := stay g5
  simp only [go_sem, rE, rA, d78, Ne.symm d78, alloc2 d78]
  generalize ((H6.set b7 (.cells [S pb.name, zze pb.path])).set b8 (.cells [.sl 1 none (Ty.encs w.kids)])) = H7 at *
  simp only [go_sem, rE, rA, gb, e5, g5, rL]
  refine zzc (c_l1Same L Du u w hDu) (by simp only [go_sem, rE, Ty.enc_eq u, Ty.enc_eq w]) ?_
  have skip : ∀ E' : Env, E' 0 = .ptr m 0 → E' 2 = .ptr b2 0 → E' 3 = .ptr b3 0 → E' 4 = .ptr b4 0 → E' 5 = .ptr b5 0 → E' 6 = I (k + 1 : Nat) → k < 8 ∧ ∃ H'', Heap.sub H'' H7 ∧ J (k + 1) E' H'' :=
   fun E' h0 h2 h3 h4 h5 h6 => ⟨by omega, H7, Heap.zzm _, e6', VS6, NS6, p6, o, hM7, by omega, by omega, h0, h2, h3, h4, h5, h6, g2, g3, g4, g5, n2, n3, n4, n5⟩
  by_cases hs : u = w
  ·have hmeet := c_l3Meet L pa pb (by omega)
   simp only [go_sem, rE, rA, hs, e4, g4, ga, rL]
   refine zzc hmeet (by simp only [go_sem, rE, Pl.enc]) ?_
   cases hmt : pa.meet pb
   ·simp only [go_sem, rE, rA, e3, e6, ga, g3, w1, rL]
    have d23 : b2 ≠ b3 := by rintro rfl; rw [g3] at g2; simp at g2
    have d43 : b4 ≠ b3 := by rintro rfl; rw [g3] at g4; simp at g4
    have d53 : b5 ≠ b3 := by rintro rfl; rw [g3] at g5; simp at g5
    exact ⟨by omega, _, Heap.zzm _, e6', VS6, NS6, p6, pb, hM7.put n3 _, by omega, by omega, e0, e2, e3, e4, e5, rfl, by rw [Heap.zza _ _ d23]; exact g2, Heap.zzb _ _ _, by rw [Heap.zza _ _ d43]; exact g4, by rw [Heap.zza _ _ d53]; exact g5, n2, n3, n4, n5⟩
   ·simp only [go_sem, rE, rA, e6, w1]
    exact skip _ (e0) (e2) (e3) (e4) (e5) (rfl)
  ·simp only [go_sem, rE, rA, hs, e6, w1]
   exact skip _ (e0) (e2) (e3) (e4) (e5) (rfl)
 ·simp only [go_sem, rE, rA, e2, e3, g2, g3, rL]
  obtain ⟨c1, c2⟩ := st_leaf 6 nm pa o x hxsm
  refine yym (q' := .agg (St.mk 6 nm pa o x (bl []) [] [] []).enc) (off := 0) (by simp only [go_sem, rE]; exact e2) (Heap.zzb _ _ _) rfl (.agg ?_) (Heap.zzm _) ⟨e', v4, VS', NS', p', last + 1, ⟨⟨_, rfl, c1, c2⟩, rfl, hp1, by omega, by omega, by omega⟩, hM.put n2 _⟩
  have := lePick nm pa o x
  rw [Ex.enc_eq x] at this
  exact this
end
end Go.Xl
namespace Go.Xl
open Nat renaming reduceEqDiff → rE, reduceAdd → rA, reduceLeDiff → rL
theorem ag_cells (a : Ag) : a.enc = [B a.lent, S a.place.name, zze a.place.path, I a.expr.kind, I a.expr.num, S a.expr.place.name, zze a.expr.place.path, .sl 5 none (Ex.encs a.expr.kids)] := by
 rw [Ag.enc, Ex.enc_eq]; rfl
def St.noneB (s : St) : Bool := decide (s.kind = 0) && (decide (s.name = bl []) && (s.place.noneB && (s.other.noneB && (s.expr.noneB && (decide (s.fn = bl []) && (decide (s.args.length = 0) && (decide (s.thn.length = 0) && decide (s.els.length = 0))))))))
section
variable {P : Program} {F : Ids}
theorem c_argForm (L : Lib P F) (T : Tys F) (a : Ag) : Pure1 P F.i_argForm [.agg a.enc] (B a.okB) := by
 refine L.i_argForm (by simp [x_i_argForm]) ?_
 rw [ag_cells]
 simp only [x_i_argForm, go_sem, rE]
 intro b1 hb1
 have fin : ∀ (E' : Env) (H' : Heap) (q : Bool), E' 2 = B q → q = a.okB → XFunc.post [.slot 2] (fun q H' => q = B a.okB ∧ H' = .empty) .ret E' H' := fun E' H' q h1 h2 => zzd (by rw [h1, h2]; exact .refl _) (Heap.zzf _) ⟨rfl, rfl⟩
 have ho : a.okB = if a.lent then a.place.okB && a.expr.noneB else a.place.noneB && a.expr.okD 4 := rfl
 cases hl : a.lent
 ·rw [hl] at ho
  simp only [go_sem, rE, rA, rL]
  refine zzc (c_placeNothing L a.place) (by simp only [go_sem, rE, Pl.enc]) ?_
  cases hp : a.place.noneB
  ·simp only [go_sem, rE, rA, rL]
   exact fin _ _ false (rfl) (by rw [ho, hp]; rfl)
  ·simp only [go_sem, rE, rA, rL]
   refine zzc (c_exprForm L T 4 (by omega) a.expr) (by simp only [go_sem, rE, Ex.enc_eq]; rfl) ?_
   simp only [go_sem, rE]
   exact fin _ _ (a.expr.okD 4) (rfl) (by rw [ho, hp]; rfl)
 ·rw [hl] at ho
  simp only [go_sem, rE, rA, rL]
  refine zzc (c_placeForm L a.place) (by simp only [go_sem, rE, Pl.enc]) ?_
  cases hp : a.place.okB
  ·simp only [go_sem, rE, rA, rL]
   exact fin _ _ false (rfl) (by rw [ho, hp]; rfl)
  ·simp only [go_sem, rE, rA, rL]
   refine zzc (c_exprNothing L a.expr) (by simp only [go_sem, rE, Ex.enc_eq]) ?_
   simp only [go_sem, rE]
   exact fin _ _ a.expr.noneB (rfl) (by rw [ho, hp]; rfl)
theorem c_argsForm (L : Lib P F) (T : Tys F) (l : List Ag) : Pure1 P F.i_argsForm [.sl 8 none (l.map Ag.enc)] (B (argsOk l)) := by
 refine L.i_argsForm (by simp [x_i_argsForm]) ?_
 simp only [x_i_argsForm, go_sem, rE, List.length_map]
 by_cases h4 : (l.length : Int) > 4
 ·simp only [go_sem, rE, h4, decide_true]
  refine zzd (.refl _) (Heap.zzf _) ⟨?_, rfl⟩
  have : argsOk l = false := by simp only [argsOk, Bool.and_eq_false_iff, decide_eq_false_iff_not]; exact .inl (by omega)
  simp only [go_sem, this]
 ·simp only [go_sem, rE, h4, decide_false]
  refine yyc l.length (fun k E H => E 8 = .sl 8 none (l.map Ag.enc) ∧ E 9 = I l.length ∧ E 10 = I k ∧ (l.take k).all Ag.okB = true) ⟨by simp [go_sem], by simp [go_sem], by simp [go_sem], by simp⟩ ?_
  rintro k E H hk ⟨e8, e9, e10, hall⟩
  simp only [wp_seq, go_sem, rE, e9, e10]
  refine zzn (fun hlt => ?_) (fun hge => ?_)
  ·have hk1 : k < l.length := by omega
   have w1 := yya (n := (k : Int) + 1) (by omega) (by omega)
   obtain ⟨ca, hca, CA⟩ := agC2 l[k]
   have hga : (l.map Ag.enc)[k]? = some ca := by rw [← hca]; simp [hk1]
   simp only [go_sem, rE, rA, rL, e8, e10, hga, CA.len, CA.all]
   intro b4 hb4
   refine zzc (c_argForm L T l[k]) (by simp only [go_sem, rE, hca]) ?_
   cases hok : l[k].okB
   ·simp only [go_sem, rE, rA, rL]
    refine zzd (.refl _) (Heap.zzf _) ⟨?_, rfl⟩
    have : argsOk l = false := by
     have : l.all Ag.okB = false := by rw [List.all_eq_false]; exact ⟨_, List.getElem_mem hk1, by rw [hok]; exact Bool.false_ne_true⟩
     simp only [argsOk, this, Bool.and_false]
    simp only [go_sem, this]
   ·simp only [go_sem, rE, rA, rL, e10, w1]
    refine ⟨hk1, _, Heap.zzm _, e8, e9, by simp, ?_⟩
    rw [List.take_succ_eq_append_getElem hk1, List.all_append, hall]
    simp [hok]
  ·have hkk : k = l.length := by omega
   subst hkk
   rw [List.take_length] at hall
   simp only [go_sem, rE]
   refine zzd (.refl _) (Heap.zzf _) ⟨?_, rfl⟩
   have : argsOk l = true := by simp only [argsOk, hall, Bool.and_true, decide_eq_true_eq]; omega
   simp only [go_sem, this]
theorem c_stmtNothing (L : Lib P F) (s : St) : Pure1 P F.i_stmtNothing [.agg s.enc] (B s.noneB) := by
 refine L.i_stmtNothing (by simp [x_i_stmtNothing]) ?_
 rw [St.enc_eq]
 simp only [x_i_stmtNothing, go_sem, rE]
 intro b1 hb1
 have fin : ∀ (E' : Env) (H' : Heap) (q : Bool), E' 2 = B q → q = s.noneB → XFunc.post [.slot 2] (fun q H' => q = B s.noneB ∧ H' = .empty) .ret E' H' := fun E' H' q h1 h2 => zzd (by rw [h1, h2]; exact .refl _) (Heap.zzf _) ⟨rfl, rfl⟩
 have beqn : ∀ n : Nat, ((n : Int) == 0) = decide (n = 0) := fun n => by rw [Bool.eq_iff_iff]; simp
 have hn : s.noneB = (decide (s.kind = 0) && (decide (s.name = bl []) && (s.place.noneB && (s.other.noneB && (s.expr.noneB && (decide (s.fn = bl []) && (decide (s.args.length = 0) && (decide (s.thn.length = 0) && decide (s.els.length = 0))))))))) := rfl
 by_cases h1 : s.kind = 0
 case neg =>
  have h1' : (s.kind == 0) = false := by simpa using h1
  simp only [go_sem, rE, rA, rL, h1']
  exact fin _ _ false (rfl) (by rw [hn]; simp [h1])
 have h1' : (s.kind == 0) = true := by simpa using h1
 by_cases h2 : s.name = bl []
 case neg =>
  simp only [go_sem, rE, rA, rL, h1', h2, decide_false]
  exact fin _ _ false (rfl) (by rw [hn]; simp [h2])
 simp only [go_sem, rE, rA, rL, h1', h2, decide_true]
 refine zzc (c_placeNothing L s.place) (by simp only [go_sem, rE, Pl.enc]) ?_
 cases h3 : s.place.noneB
 ·simp only [go_sem, rE, rA, rL]
  exact fin _ _ false (rfl) (by rw [hn]; simp [h3])
 simp only [go_sem, rE, rA, rL]
 refine zzc (c_placeNothing L s.other) (by simp only [go_sem, rE, Pl.enc]) ?_
 cases h4 : s.other.noneB
 ·simp only [go_sem, rE, rA, rL]
  exact fin _ _ false (rfl) (by rw [hn]; simp [h4])
 simp only [go_sem, rE, rA, rL]
 refine zzc (c_exprNothing L s.expr) (by simp only [go_sem, rE, Ex.enc_eq]) ?_
 cases h5 : s.expr.noneB
 ·simp only [go_sem, rE, rA, rL]
  exact fin _ _ false (rfl) (by rw [hn]; simp [h5])
 by_cases h6 : s.fn = bl []
 case neg =>
  simp only [go_sem, rE, rA, rL, h6, decide_false]
  exact fin _ _ false (rfl) (by rw [hn]; simp [h6])
 simp only [go_sem, rE, rA, rL, h6, decide_true, List.length_map, beqn]
 by_cases h7 : s.args.length = 0
 case neg =>
  simp only [go_sem, rE, rA, rL, h7, decide_false]
  exact fin _ _ false (rfl) (by rw [hn]; simp [h7])
 simp only [go_sem, rE, rA, rL, h7, decide_true, St.zzk, List.length_map, beqn]
 by_cases h8 : s.thn.length = 0
 case neg =>
  simp only [go_sem, rE, rA, rL, h8, decide_false]
  exact fin _ _ false (rfl) (by rw [hn]; simp [h8])
 simp only [go_sem, rE, rA, rL, h8, decide_true, St.zzk, List.length_map, beqn]
 exact fin _ _ (decide (s.els.length = 0)) (rfl) (by rw [hn]; simp [h1, h2, h3, h4, h5, h6, h7, h8])
end
end Go.Xl
namespace Go.Xl
open Nat renaming reduceEqDiff → rE, reduceAdd → rA, reduceLeDiff → rL
def St.rest1 (s : St) : St := St.mk 0 (bl []) s.place s.other E0 s.fn s.args s.thn s.els
def St.rest2 (s : St) : St := St.mk 0 (bl []) P0 s.other s.expr s.fn s.args s.thn s.els
def St.rest3 (s : St) : St := St.mk 0 s.name P0 s.other E0 s.fn s.args s.thn s.els
def St.rest4 (s : St) : St := St.mk 0 (bl []) s.place s.other s.expr (bl []) [] s.thn s.els
def St.rest5 (s : St) : St := St.mk 0 s.name s.place s.other E0 s.fn s.args [] []
def St.rest6 (s : St) : St := St.mk 0 (bl []) P0 P0 E0 s.fn s.args s.thn s.els
def shS (F : Ids) (s : St) : AC :=
 if s.kind = 1 then (if s.rest1.noneB then .iface F.T_i_stmtLet (.agg (S s.name :: s.expr.enc)) else NILI)
 else if s.kind = 2 then (if s.rest2.noneB then .iface F.T_i_stmtLend (.agg [S s.name, S s.place.name, zze s.place.path]) else NILI)
 else if s.kind = 3 then (if s.rest3.noneB then .iface F.T_i_stmtSet (.agg ([S s.place.name, zze s.place.path] ++ s.expr.enc)) else NILI)
 else if s.kind = 4 then (if s.rest4.noneB then .iface F.T_i_stmtCall (.agg [S s.name, S s.fn, .sl 8 none (s.args.map Ag.enc)]) else NILI)
 else if s.kind = 5 then (if s.rest5.noneB then .iface F.T_i_stmtIf (.agg (s.expr.enc ++ [.sl 15 none (St.encs s.thn), .sl 15 none (St.encs s.els)])) else NILI)
 else if s.kind = 6 then (if s.rest6.noneB then .iface F.T_i_stmtPick (.agg ([S s.name, S s.place.name, zze s.place.path, S s.other.name, zze s.other.path] ++ s.expr.enc)) else NILI)
 else NILI
theorem shS_1 {F : Ids} {s : St} (h : s.kind = 1) : shS F s = if s.rest1.noneB then .iface F.T_i_stmtLet (.agg [S s.name, I s.expr.kind, I s.expr.num, S s.expr.place.name, zze s.expr.place.path, .sl 5 none (Ex.encs s.expr.kids)]) else NILI := by
 first
  | (rw [shS, if_pos h, Ex.enc_eq]; done)
  | (rw [shS, if_pos h, Ex.enc_eq]; rfl)
theorem shS_2 {F : Ids} {s : St} (h : s.kind = 2) : shS F s = if s.rest2.noneB then .iface F.T_i_stmtLend (.agg [S s.name, S s.place.name, zze s.place.path]) else NILI := by
 have q : ∀ i : Int, i ≠ 2 → ¬ s.kind = i := fun i hi => by rw [h]; exact Ne.symm hi
 rw [shS, if_neg (q 1 (by decide)), if_pos h]
theorem shS_3 {F : Ids} {s : St} (h : s.kind = 3) : shS F s = if s.rest3.noneB then .iface F.T_i_stmtSet (.agg [S s.place.name, zze s.place.path, I s.expr.kind, I s.expr.num, S s.expr.place.name, zze s.expr.place.path, .sl 5 none (Ex.encs s.expr.kids)]) else NILI := by
 have q : ∀ i : Int, i ≠ 3 → ¬ s.kind = i := fun i hi => by rw [h]; exact Ne.symm hi
 first
  | (rw [shS, if_neg (q 1 (by decide)), if_neg (q 2 (by decide)), if_pos h, Ex.enc_eq]; done)
  | (rw [shS, if_neg (q 1 (by decide)), if_neg (q 2 (by decide)), if_pos h, Ex.enc_eq]; rfl)
theorem shS_4 {F : Ids} {s : St} (h : s.kind = 4) : shS F s = if s.rest4.noneB then .iface F.T_i_stmtCall (.agg [S s.name, S s.fn, .sl 8 none (s.args.map Ag.enc)]) else NILI := by
 have q : ∀ i : Int, i ≠ 4 → ¬ s.kind = i := fun i hi => by rw [h]; exact Ne.symm hi
 rw [shS, if_neg (q 1 (by decide)), if_neg (q 2 (by decide)), if_neg (q 3 (by decide)), if_pos h]
theorem shS_5 {F : Ids} {s : St} (h : s.kind = 5) : shS F s = if s.rest5.noneB then .iface F.T_i_stmtIf (.agg [I s.expr.kind, I s.expr.num, S s.expr.place.name, zze s.expr.place.path, .sl 5 none (Ex.encs s.expr.kids), .sl 15 none (St.encs s.thn), .sl 15 none (St.encs s.els)]) else NILI := by
 have q : ∀ i : Int, i ≠ 5 → ¬ s.kind = i := fun i hi => by rw [h]; exact Ne.symm hi
 first
  | (rw [shS, if_neg (q 1 (by decide)), if_neg (q 2 (by decide)), if_neg (q 3 (by decide)), if_neg (q 4 (by decide)), if_pos h, Ex.enc_eq]; done)
  | (rw [shS, if_neg (q 1 (by decide)), if_neg (q 2 (by decide)), if_neg (q 3 (by decide)), if_neg (q 4 (by decide)), if_pos h, Ex.enc_eq]; rfl)
theorem shS_6 {F : Ids} {s : St} (h : s.kind = 6) : shS F s = if s.rest6.noneB then .iface F.T_i_stmtPick (.agg [S s.name, S s.place.name, zze s.place.path, S s.other.name, zze s.other.path, I s.expr.kind, I s.expr.num, S s.expr.place.name, zze s.expr.place.path, .sl 5 none (Ex.encs s.expr.kids)]) else NILI := by
 have q : ∀ i : Int, i ≠ 6 → ¬ s.kind = i := fun i hi => by rw [h]; exact Ne.symm hi
 first
  | (rw [shS, if_neg (q 1 (by decide)), if_neg (q 2 (by decide)), if_neg (q 3 (by decide)), if_neg (q 4 (by decide)), if_neg (q 5 (by decide)), if_pos h, Ex.enc_eq]; done)
  | (rw [shS, if_neg (q 1 (by decide)), if_neg (q 2 (by decide)), if_neg (q 3 (by decide)), if_neg (q 4 (by decide)), if_neg (q 5 (by decide)), if_pos h, Ex.enc_eq]; rfl)
theorem shS_0 {F : Ids} {s : St} (h : ¬ (1 ≤ s.kind ∧ s.kind ≤ 6)) : shS F s = NILI := by
 rw [shS, if_neg (show ¬ s.kind = 1 by omega), if_neg (show ¬ s.kind = 2 by omega), if_neg (show ¬ s.kind = 3 by omega), if_neg (show ¬ s.kind = 4 by omega), if_neg (show ¬ s.kind = 5 by omega), if_neg (show ¬ s.kind = 6 by omega)]
section
variable {P : Program} {F : Ids}
theorem c_stmtOf (L : Lib P F) (s : St) : Pure1 P F.i_stmtOf [.agg s.enc] (shS F s) := by
 refine L.i_stmtOf (by simp [x_i_stmtOf]) ?_
 rw [St.enc_eq]
 simp only [x_i_stmtOf, go_sem, rE]
 intro b1 hb1
 simp only [go_sem, rE, rA, rL]
 intro b3 hb3
 have d13 : b1 ≠ b3 := zzj (Heap.zzb _ _ _) hb3
 simp only [go_sem, rE, rA, rL, d13, Ne.symm d13]
 have fin : ∀ (E' : Env) (H' : Heap) (q : AC), E' 2 = q → q = shS F s → XFunc.post [.slot 2] (fun q H' => q = shS F s ∧ H' = .empty) .ret E' H' := fun E' H' q h1 h2 => zzd (by rw [h1, h2]; exact .refl _) (Heap.zzf _) ⟨rfl, rfl⟩
 by_cases k1 : s.kind = 1
 ·have q1 : (s.kind == 1) = true := by simpa using k1
  simp only [q1, go_sem, rE, rA, rL, d13, Ne.symm d13]
  refine run_callP (as' := [.agg [I 0, S (bl []), S s.place.name, zze s.place.path, S s.other.name, zze s.other.path, I 0, I 0, S (bl []), NIL, NIL, S s.fn, .sl 8 none (s.args.map Ag.enc), .sl 15 none (St.encs s.thn), .sl 15 none (St.encs s.els)]]) (c_stmtNothing L s.rest1) (rfl) ⟨.agg ?_, trivial⟩ ?_
  ·rw [St.enc_eq]; exact ⟨⟨.refl _, rfl⟩, ⟨.refl _, rfl⟩, ⟨.refl _, rfl⟩, ⟨.refl _, rfl⟩, ⟨.refl _, rfl⟩, ⟨.refl _, rfl⟩, ⟨.refl _, rfl⟩, ⟨.refl _, rfl⟩, ⟨.refl _, rfl⟩, ⟨.nil 1, rfl⟩, ⟨.nil 5, rfl⟩, ⟨.refl _, rfl⟩, ⟨.refl _, rfl⟩, ⟨.refl _, rfl⟩, ⟨.refl _, rfl⟩, trivial⟩
  have hq := shS_1 (F := F) k1
  cases hc : s.rest1.noneB
  ·rw [hc] at hq
   simp only [go_sem, rE, rA, rL]
   exact fin _ _ NILI (rfl) (by rw [hq]; rfl)
  ·rw [hc] at hq
   simp only [go_sem, rE, rA, rL]
   exact fin _ _ (.iface F.T_i_stmtLet (.agg [S s.name, I s.expr.kind, I s.expr.num, S s.expr.place.name, zze s.expr.place.path, .sl 5 none (Ex.encs s.expr.kids)])) (rfl) (by rw [hq]; rfl)
 have q1 : (s.kind == 1) = false := by simpa using k1
 by_cases k2 : s.kind = 2
 ·have q2 : (s.kind == 2) = true := by simpa using k2
  simp only [q1, q2, go_sem, rE, rA, rL, d13, Ne.symm d13]
  refine run_callP (as' := [.agg [I 0, S (bl []), S (bl []), NIL, S s.other.name, zze s.other.path, I s.expr.kind, I s.expr.num, S s.expr.place.name, zze s.expr.place.path, .sl 5 none (Ex.encs s.expr.kids), S s.fn, .sl 8 none (s.args.map Ag.enc), .sl 15 none (St.encs s.thn), .sl 15 none (St.encs s.els)]]) (c_stmtNothing L s.rest2) (rfl) ⟨.agg ?_, trivial⟩ ?_
  ·rw [St.enc_eq]; exact ⟨⟨.refl _, rfl⟩, ⟨.refl _, rfl⟩, ⟨.refl _, rfl⟩, ⟨.nil 1, rfl⟩, ⟨.refl _, rfl⟩, ⟨.refl _, rfl⟩, ⟨.refl _, rfl⟩, ⟨.refl _, rfl⟩, ⟨.refl _, rfl⟩, ⟨.refl _, rfl⟩, ⟨.refl _, rfl⟩, ⟨.refl _, rfl⟩, ⟨.refl _, rfl⟩, ⟨.refl _, rfl⟩, ⟨.refl _, rfl⟩, trivial⟩
  have hq := shS_2 (F := F) k2
  cases hc : s.rest2.noneB
  ·rw [hc] at hq
   simp only [go_sem, rE, rA, rL]
   exact fin _ _ NILI (rfl) (by rw [hq]; rfl)
  ·rw [hc] at hq
   simp only [go_sem, rE, rA, rL]
   exact fin _ _ (.iface F.T_i_stmtLend (.agg [S s.name, S s.place.name, zze s.place.path])) (rfl) (by rw [hq]; rfl)
 have q2 : (s.kind == 2) = false := by simpa using k2
 by_cases k3 : s.kind = 3
 ·have q3 : (s.kind == 3) = true := by simpa using k3
  simp only [q1, q2, q3, go_sem, rE, rA, rL, d13, Ne.symm d13]
  refine run_callP (as' := [.agg [I 0, S s.name, S (bl []), NIL, S s.other.name, zze s.other.path, I 0, I 0, S (bl []), NIL, NIL, S s.fn, .sl 8 none (s.args.map Ag.enc), .sl 15 none (St.encs s.thn), .sl 15 none (St.encs s.els)]]) (c_stmtNothing L s.rest3) (rfl) ⟨.agg ?_, trivial⟩ ?_
  ·rw [St.enc_eq]; exact ⟨⟨.refl _, rfl⟩, ⟨.refl _, rfl⟩, ⟨.refl _, rfl⟩, ⟨.nil 1, rfl⟩, ⟨.refl _, rfl⟩, ⟨.refl _, rfl⟩, ⟨.refl _, rfl⟩, ⟨.refl _, rfl⟩, ⟨.refl _, rfl⟩, ⟨.nil 1, rfl⟩, ⟨.nil 5, rfl⟩, ⟨.refl _, rfl⟩, ⟨.refl _, rfl⟩, ⟨.refl _, rfl⟩, ⟨.refl _, rfl⟩, trivial⟩
  have hq := shS_3 (F := F) k3
  cases hc : s.rest3.noneB
  ·rw [hc] at hq
   simp only [go_sem, rE, rA, rL]
   exact fin _ _ NILI (rfl) (by rw [hq]; rfl)
  ·rw [hc] at hq
   simp only [go_sem, rE, rA, rL]
   exact fin _ _ (.iface F.T_i_stmtSet (.agg [S s.place.name, zze s.place.path, I s.expr.kind, I s.expr.num, S s.expr.place.name, zze s.expr.place.path, .sl 5 none (Ex.encs s.expr.kids)])) (rfl) (by rw [hq]; rfl)
 have q3 : (s.kind == 3) = false := by simpa using k3
 by_cases k4 : s.kind = 4
 ·have q4 : (s.kind == 4) = true := by simpa using k4
  simp only [q1, q2, q3, q4, go_sem, rE, rA, rL, d13, Ne.symm d13]
  refine run_callP (as' := [.agg [I 0, S (bl []), S s.place.name, zze s.place.path, S s.other.name, zze s.other.path, I s.expr.kind, I s.expr.num, S s.expr.place.name, zze s.expr.place.path, .sl 5 none (Ex.encs s.expr.kids), S (bl []), NIL, .sl 15 none (St.encs s.thn), .sl 15 none (St.encs s.els)]]) (c_stmtNothing L s.rest4) (rfl) ⟨.agg ?_, trivial⟩ ?_
  ·rw [St.enc_eq]; exact ⟨⟨.refl _, rfl⟩, ⟨.refl _, rfl⟩, ⟨.refl _, rfl⟩, ⟨.refl _, rfl⟩, ⟨.refl _, rfl⟩, ⟨.refl _, rfl⟩, ⟨.refl _, rfl⟩, ⟨.refl _, rfl⟩, ⟨.refl _, rfl⟩, ⟨.refl _, rfl⟩, ⟨.refl _, rfl⟩, ⟨.refl _, rfl⟩, ⟨.nil 8, rfl⟩, ⟨.refl _, rfl⟩, ⟨.refl _, rfl⟩, trivial⟩
  have hq := shS_4 (F := F) k4
  cases hc : s.rest4.noneB
  ·rw [hc] at hq
   simp only [go_sem, rE, rA, rL]
   exact fin _ _ NILI (rfl) (by rw [hq]; rfl)
  ·rw [hc] at hq
   simp only [go_sem, rE, rA, rL]
   exact fin _ _ (.iface F.T_i_stmtCall (.agg [S s.name, S s.fn, .sl 8 none (s.args.map Ag.enc)])) (rfl) (by rw [hq]; rfl)
 have q4 : (s.kind == 4) = false := by simpa using k4
 by_cases k5 : s.kind = 5
 ·have q5 : (s.kind == 5) = true := by simpa using k5
  simp only [q1, q2, q3, q4, q5, go_sem, rE, rA, rL, d13, Ne.symm d13]
  refine run_callP (as' := [.agg [I 0, S s.name, S s.place.name, zze s.place.path, S s.other.name, zze s.other.path, I 0, I 0, S (bl []), NIL, NIL, S s.fn, .sl 8 none (s.args.map Ag.enc), NIL, NIL]]) (c_stmtNothing L s.rest5) (rfl) ⟨.agg ?_, trivial⟩ ?_
  ·rw [St.enc_eq]; exact ⟨⟨.refl _, rfl⟩, ⟨.refl _, rfl⟩, ⟨.refl _, rfl⟩, ⟨.refl _, rfl⟩, ⟨.refl _, rfl⟩, ⟨.refl _, rfl⟩, ⟨.refl _, rfl⟩, ⟨.refl _, rfl⟩, ⟨.refl _, rfl⟩, ⟨.nil 1, rfl⟩, ⟨.nil 5, rfl⟩, ⟨.refl _, rfl⟩, ⟨.refl _, rfl⟩, ⟨.nil 15, rfl⟩, ⟨.nil 15, rfl⟩, trivial⟩
  have hq := shS_5 (F := F) k5
  cases hc : s.rest5.noneB
  ·rw [hc] at hq
   simp only [go_sem, rE, rA, rL]
   exact fin _ _ NILI (rfl) (by rw [hq]; rfl)
  ·rw [hc] at hq
   simp only [go_sem, rE, rA, rL]
   exact fin _ _ (.iface F.T_i_stmtIf (.agg [I s.expr.kind, I s.expr.num, S s.expr.place.name, zze s.expr.place.path, .sl 5 none (Ex.encs s.expr.kids), .sl 15 none (St.encs s.thn), .sl 15 none (St.encs s.els)])) (rfl) (by rw [hq]; rfl)
 have q5 : (s.kind == 5) = false := by simpa using k5
 by_cases k6 : s.kind = 6
 ·have q6 : (s.kind == 6) = true := by simpa using k6
  simp only [q1, q2, q3, q4, q5, q6, go_sem, rE, rA, rL, d13, Ne.symm d13]
  refine run_callP (as' := [.agg [I 0, S (bl []), S (bl []), NIL, S (bl []), NIL, I 0, I 0, S (bl []), NIL, NIL, S s.fn, .sl 8 none (s.args.map Ag.enc), .sl 15 none (St.encs s.thn), .sl 15 none (St.encs s.els)]]) (c_stmtNothing L s.rest6) (rfl) ⟨.agg ?_, trivial⟩ ?_
  ·rw [St.enc_eq]; exact ⟨⟨.refl _, rfl⟩, ⟨.refl _, rfl⟩, ⟨.refl _, rfl⟩, ⟨.nil 1, rfl⟩, ⟨.refl _, rfl⟩, ⟨.nil 1, rfl⟩, ⟨.refl _, rfl⟩, ⟨.refl _, rfl⟩, ⟨.refl _, rfl⟩, ⟨.nil 1, rfl⟩, ⟨.nil 5, rfl⟩, ⟨.refl _, rfl⟩, ⟨.refl _, rfl⟩, ⟨.refl _, rfl⟩, ⟨.refl _, rfl⟩, trivial⟩
  have hq := shS_6 (F := F) k6
  cases hc : s.rest6.noneB
  ·rw [hc] at hq
   simp only [go_sem, rE, rA, rL]
   exact fin _ _ NILI (rfl) (by rw [hq]; rfl)
  ·rw [hc] at hq
   simp only [go_sem, rE, rA, rL]
   exact fin _ _ (.iface F.T_i_stmtPick (.agg [S s.name, S s.place.name, zze s.place.path, S s.other.name, zze s.other.path, I s.expr.kind, I s.expr.num, S s.expr.place.name, zze s.expr.place.path, .sl 5 none (Ex.encs s.expr.kids)])) (rfl) (by rw [hq]; rfl)
 have q6 : (s.kind == 6) = false := by simpa using k6
 simp only [q1, q2, q3, q4, q5, q6, go_sem, rE, rA, rL]
 exact fin _ _ NILI (rfl) (shS_0 (by omega)).symm
end
end Go.Xl
namespace Go.Xl
open Nat renaming reduceEqDiff → rE, reduceAdd → rA, reduceLeDiff → rL
def iSt (f : List St → Int → Bool × Int) (s : St) (n : Int) : Bool × Int :=
 if s.kind = 1 then (s.rest1.noneB && (yyf s.name && s.expr.okD 4), n)
 else if s.kind = 2 then (s.rest2.noneB && (yyf s.name && s.place.okB), n)
 else if s.kind = 3 then (s.rest3.noneB && (s.place.okB && s.expr.okD 4), n)
 else if s.kind = 4 then (s.rest4.noneB && (yyf s.name && (yyf s.fn && argsOk s.args)), n)
 else if s.kind = 5 then (if s.rest5.noneB && s.expr.okD 4 then (if (f s.thn n).1 then f s.els (f s.thn n).2 else (false, (f s.thn n).2)) else (false, n))
 else if s.kind = 6 then (s.rest6.noneB && (yyf s.name && (s.place.okB && (s.other.okB && s.expr.okD 4))), n)
 else (false, n)
def iList (ok : Bool) (f : St → Int → Bool × Int) : List St → Int → Bool × Int
 | [], n => (true, n)
 | s :: l, n => if ok && decide (0 ≤ n - 1) then (if (f s (n - 1)).1 then iList ok f l (f s (n - 1)).2 else (false, (f s (n - 1)).2)) else (false, n - 1)
def iBody : Nat → List St → Int → Bool × Int
 | 0, l, n => iList false (fun _ n => (false, n)) l n
 | d + 1, l, n => iList true (iSt (iBody d)) l n
theorem iList_bd {ok : Bool} {f : St → Int → Bool × Int} : ∀ (l : List St) (n : Int), (∀ s ∈ l, ∀ n, n - s.cnt + 1 ≤ (f s n).2 ∧ (f s n).2 ≤ n) → n - St.cntL l ≤ (iList ok f l n).2 ∧ (iList ok f l n).2 ≤ n
 | [], n, _ => by simp [iList]; omega
 | s :: l, n, h => by
   have hs := h s (by simp) (n - 1)
   have hl := iList_bd (ok := ok) l (f s (n - 1)).2 fun x hx => h x (by simp [hx])
   have hc : 1 ≤ s.cnt := by rw [St.cnt_eq]; omega
   rw [iList, St.cntL_cons]
   split
   ·split
    ·omega
    ·simp only; omega
   ·simp only; omega
theorem iSt_bd {f : List St → Int → Bool × Int} {s : St} (h : ∀ l n, l = s.thn ∨ l = s.els → n - St.cntL l ≤ (f l n).2 ∧ (f l n).2 ≤ n) (n : Int) : n - s.cnt + 1 ≤ (iSt f s n).2 ∧ (iSt f s n).2 ≤ n := by
 have h1 := h s.thn n (.inl rfl)
 have h2 := h s.els (f s.thn n).2 (.inr rfl)
 have hc := St.cnt_eq s
 have q : ∀ b : Bool, n - s.cnt + 1 ≤ ((b, n) : Bool × Int).2 ∧ ((b, n) : Bool × Int).2 ≤ n := fun b => by simp only; omega
 rw [iSt]
 split
 ·exact q _
 split
 ·exact q _
 split
 ·exact q _
 split
 ·exact q _
 split
 ·split
  ·split
   ·omega
   ·simp only; omega
  ·exact q _
 split
 ·exact q _
 ·exact q _
theorem iBody_bd : ∀ (d : Nat) (l : List St) (n : Int), n - St.cntL l ≤ (iBody d l n).2 ∧ (iBody d l n).2 ≤ n
 | 0, l, n => by
   cases l with
   | nil => simp [iBody, iList]; omega
   | cons s l =>
     have hc : 1 ≤ s.cnt := by rw [St.cnt_eq]; omega
     simp [iBody, iList, St.cntL_cons]; omega
 | d + 1, l, n => iList_bd l n fun s _ n => iSt_bd (fun l n _ => iBody_bd d l n) n
theorem cntL_drop : ∀ (l : List St) (k : Nat), St.cntL (l.drop k) ≤ St.cntL l
 | _, 0 => Nat.le_refl _
 | [], _ + 1 => Nat.le_refl _
 | s :: l, k + 1 => by rw [List.drop_succ_cons, St.cntL_cons]; have := cntL_drop l k; omega
theorem iSt_nil {F : Ids} {f : List St → Int → Bool × Int} {s : St} {n : Int} (h : shS F s = NILI) : iSt f s n = (false, n) := by
 rw [iSt]
 by_cases k1 : s.kind = 1
 ·rw [shS_1 k1] at h
  cases hc : s.rest1.noneB <;> simp [hc, k1] at h ⊢
 by_cases k2 : s.kind = 2
 ·rw [shS_2 k2] at h
  cases hc : s.rest2.noneB <;> simp [hc, k2] at h ⊢
 by_cases k3 : s.kind = 3
 ·rw [shS_3 k3] at h
  cases hc : s.rest3.noneB <;> simp [hc, k3] at h ⊢
 by_cases k4 : s.kind = 4
 ·rw [shS_4 k4] at h
  cases hc : s.rest4.noneB <;> simp [hc, k4] at h ⊢
 by_cases k5 : s.kind = 5
 ·rw [shS_5 k5] at h
  cases hc : s.rest5.noneB <;> simp [hc, k5] at h ⊢
 by_cases k6 : s.kind = 6
 ·rw [shS_6 k6] at h
  cases hc : s.rest6.noneB <;> simp [hc, k6] at h ⊢
 simp [k1, k2, k3, k4, k5, k6]
theorem wp_nrm {P : Program} {c : XCode} {K : XExit → Env → Heap → Prop} {E : Env} {H : Heap} (Q : Env → Heap → Prop) (hc : c.wp P (fun e E' H' => e = .normal ∧ Q E' H') E H) (hk : ∀ E' H', Q E' H' → K .normal E' H') : c.wp P K E H :=
 XCode.wp_mono (fun e E' H' ⟨he, hq⟩ => he ▸ hk E' H' hq) hc
theorem run_one {P : Program} {dr : Bool} {K : Env → Heap → Prop} {xs : List XOper} {E : Env} {H : Heap} {l : Lds} {f : Fps} {i : Nat} {g : FuncId} {args : List XArg} {d : Option Nat} {inc : List Nat} {as : List AC} {r : Nat} {o o' : HObj} {q0 : AC}
 (hc : ACalls P g as (one r o) fun q H' => q = q0 ∧ H' = one r o') (ha : args.map (XArg.ev E) = as) (hr : H.get r = some o) (hlive : dr = true → False) (hchk : chkE inc l (· = r))
 (h : rrun P dr K xs (E.put d q0) (H.set r o') l ((i, fun b => b = r ∨ H.get b = none) :: f)) :
 rrun P dr K (⟨i, d, none, .eff (.call g args), inc⟩ :: xs) E H l f := by
 refine run_call1 (R := fun q H' => q = q0 ∧ H' = one r o') (hc.mono fun q H' ⟨h1, h2⟩ => ⟨o', ⟨h1, rfl⟩, h2⟩) ha hr (fun h => (hlive h).elim) hchk ?_
 rintro q o2 ⟨rfl, h2⟩
 have : o2 = o' := by have := congrArg (fun H => H.get r) h2; simp only [yyh] at this; exact Option.some.inj this
 rw [this]; exact h
def formQ (r0 : Bool × Int) (d b : Nat) (l : List St) (k : Nat) (E' : Env) (H' : Heap) : Prop := ∃ r : Bool × Int, r = r0 ∧ E' 9 = B r.1 ∧ H'.get b = some (.cells [I r.2]) ∧ E' 1 = I d ∧ E' 2 = .ptr b 0 ∧ E' 16 = .sl 15 none (l.map St.enc) ∧ E' 17 = I l.length ∧ E' 18 = I k
section
variable {P : Program} {F : Ids}
theorem c_stmtsFormW (L : Lib P F) (T : Tys F) (d : Nat) (hd : d ≤ 100) (f : List St → Int → Bool × Int) (hf : ∀ l n, n - St.cntL l ≤ (f l n).2 ∧ (f l n).2 ≤ n)
 (ih : 1 ≤ d → ∀ l n b, St.cntL l ≤ 2 ^ 20 → -(2 ^ 29) ≤ n → n ≤ 2 ^ 20 → ACalls P F.i_stmtsForm [.sl 15 none (St.encs l), I (d - 1 : Nat), .ptr b 0] (one b (.cells [I n])) fun q H' => q = B (f l n).1 ∧ H' = one b (.cells [I (f l n).2]))
 (l : List St) (n : Int) (b : Nat) (hl : St.cntL l ≤ 2 ^ 20) (hn : -(2 ^ 29) ≤ n) (hn2 : n ≤ 2 ^ 20) :
 ACalls P F.i_stmtsForm [.sl 15 none (St.encs l), I d, .ptr b 0] (one b (.cells [I n])) fun q H' => q = B (iList (decide (1 ≤ d)) (iSt f) l n).1 ∧ H' = one b (.cells [I (iList (decide (1 ≤ d)) (iSt f) l n).2]) := by
 refine L.i_stmtsForm (by simp [x_i_stmtsForm]) ?_
 have fin : ∀ (E' : Env) (H' : Heap) (q : Bool × Int), E' 6 = B q.1 → H'.get b = some (.cells [I q.2]) → q = iList (decide (1 ≤ d)) (iSt f) l n → XFunc.post [.slot 6] (fun q H' => q = B (iList (decide (1 ≤ d)) (iSt f) l n).1 ∧ H' = one b (.cells [I (iList (decide (1 ≤ d)) (iSt f) l n).2])) .ret E' H' := fun E' H' q h1 h2 h3 => zzd (by rw [h1, h3]; exact .refl _) (one_sub h2) ⟨rfl, by rw [h3]⟩
 have hb0 := yyh b (.cells [I n])
 simp only [x_i_stmtsForm, go_sem, rE, rA, St.zzk, List.length_map]
 refine yyc l.length (fun k E H => ∃ m, H.get b = some (.cells [I m]) ∧ E 1 = I d ∧ E 2 = .ptr b 0 ∧ E 16 = .sl 15 none (l.map St.enc) ∧ E 17 = I l.length ∧ E 18 = I k ∧ -(2 ^ 29) - 2 ^ 20 + St.cntL (l.drop k) ≤ m ∧ m ≤ 2 ^ 20 ∧ iList (decide (1 ≤ d)) (iSt f) (l.drop k) m = iList (decide (1 ≤ d)) (iSt f) l n)
  ⟨n, hb0, rfl, rfl, rfl, rfl, rfl, by simp; omega, hn2, rfl⟩ ?_
 clear hb0
 rintro k E H hk ⟨m, hb, e1, e2, e16, e17, e18, hm1, hm2, hit⟩
 simp only [wp_seq, go_sem, rE, e17, e18]
 refine zzn (fun hlt => ?_) (fun hge => ?_)
 ·have hk1 : k < l.length := by omega
  have hll := St.len_le l
  have w1 := yya (n := (k : Int) + 1) (by omega) (by omega)
  have wm := yya (n := m - 1) (by omega) (by omega)
  have hdr : l.drop k = l[k] :: l.drop (k + 1) := List.drop_eq_getElem_cons hk1
  have hcl := cntL_drop l k
  rw [hdr, St.cntL_cons] at hm1 hcl
  have hcnt := St.cnt_eq l[k]
  rw [hdr, iList] at hit
  have dl : (d : Int) < 1 ↔ ¬ 1 ≤ d := by omega
  have hg : (l.map St.enc)[k]? = some l[k].enc := st_get hk1
  rw [St.enc_eq] at hg
  generalize l[k] = s at *
  simp only [go_sem, rE, rA, rL, e16, e18, hg]
  intro b8 hb8
  have d8 : b ≠ b8 := zzj hb hb8
  simp only [go_sem, rE, rA, rL, hb, d8, Ne.symm d8, e2, e1, wm]
  have ret : ∀ (E' : Env) (H' : Heap), H'.get b = some (.cells [I (m - 1)]) → (iList (decide (1 ≤ d)) (iSt f) l n) = (false, m - 1) → E' 6 = B false → XFunc.post [.slot 6] (fun q H' => q = B (iList (decide (1 ≤ d)) (iSt f) l n).1 ∧ H' = one b (.cells [I (iList (decide (1 ≤ d)) (iSt f) l n).2])) .ret E' H' := fun E' H' h1 h2 h3 => fin E' H' (false, m - 1) h3 h1 h2.symm
  by_cases h1 : (d : Int) < 1
  ·simp only [go_sem, rE, rA, rL, h1, decide_true]
   exact ret _ _ (by simp only [go_sem, rE, rA, rL, d8, Ne.symm d8]) (by rw [← hit, show decide (1 ≤ d) = false from decide_eq_false (dl.1 h1)]; rfl) (rfl)
  by_cases h0 : m - 1 < 0
  ·simp only [go_sem, rE, rA, rL, h1, h0, decide_false, decide_true, e2, hb, d8, Ne.symm d8]
   exact ret _ _ (by simp only [go_sem, rE, rA, rL, d8, Ne.symm d8]) (by rw [← hit, show decide (0 ≤ m - 1) = false from decide_eq_false (by omega), Bool.and_false]; rfl) (rfl)
  have hd1 : 1 ≤ d := by omega
  rw [decide_eq_true hd1, decide_eq_true (show 0 ≤ m - 1 by omega)] at hit
  simp only [Bool.and_self, if_true] at hit
  have wd := yya (n := ((d - 1 : Nat) : Int)) (by omega) (by omega)
  have hdd : (d : Int) - 1 = (d - 1 : Nat) := by omega
  have hdt := decide_eq_true hd1
  simp only [go_sem, rE, rA, rL, h1, h0, decide_false, e2, hb, d8, Ne.symm d8]
  refine zzc (c_stmtOf L s) (by simp only [go_sem, rE, rA, rL, St.enc_eq s]) ?_
  have hb2 : ((H.set b8 (.cells [I s.kind, S s.name, S s.place.name, zze s.place.path, S s.other.name, zze s.other.path, I s.expr.kind, I s.expr.num, S s.expr.place.name, zze s.expr.place.path, .sl 5 none (Ex.encs s.expr.kids), S s.fn, .sl 8 none (s.args.map Ag.enc), .sl 15 none (St.encs s.thn), .sl 15 none (St.encs s.els)])).set b (.cells [I (m - 1)])).get b = some (.cells [I (m - 1)]) := Heap.zzb _ _ _
  generalize ((H.set b8 (.cells [I s.kind, S s.name, S s.place.name, zze s.place.path, S s.other.name, zze s.other.path, I s.expr.kind, I s.expr.num, S s.expr.place.name, zze s.expr.place.path, .sl 5 none (Ex.encs s.expr.kids), S s.fn, .sl 8 none (s.args.map Ag.enc), .sl 15 none (St.encs s.thn), .sl 15 none (St.encs s.els)])).set b (.cells [I (m - 1)])) = H2 at *
  rw [run_nil, xxa]
  refine wp_nrm (formQ (iSt f s (m - 1)) d b l k) ?_ ?_
  ·clear hb
   have out : ∀ (E' : Env) (H' : Heap) (r : Bool × Int), E' 9 = B r.1 → H'.get b = some (.cells [I r.2]) → r = iSt f s (m - 1) → (E' 1 = I d ∧ E' 2 = .ptr b 0 ∧ E' 16 = .sl 15 none (l.map St.enc) ∧ E' 17 = I l.length ∧ E' 18 = I k) →
    formQ (iSt f s (m - 1)) d b l k E' H' := fun E' H' r h1 h2 h3 h4 => ⟨r, h3, h1, h2, h4⟩
   by_cases hn : shS F s = NILI
   ·rw [hn]
    simp only [go_sem, rE, rA, rL]
    exact out _ _ (false, m - 1) (rfl) hb2 (iSt_nil hn).symm (⟨e1, e2, e16, e17, e18⟩)
   by_cases k1 : s.kind = 1
   ·have q : ∀ i : Int, i ≠ 1 → ¬ s.kind = i := fun i hi => by rw [k1]; exact Ne.symm hi
    rw [shS_1 k1] at hn ⊢
    cases hc : s.rest1.noneB
    ·rw [hc] at hn; exact absurd rfl hn
    have hi : iSt f s (m - 1) = (yyf s.name && (s.expr.okD 4), m - 1) := by rw [iSt, if_pos k1, hc]; rfl
    simp only [go_sem, rE, rA, rL, if_true]
    intro b9 hb9
    have hb9' := (Heap.zza H2 (.cells []) (zzj hb2 hb9)).trans hb2
    have d9 := zzj hb2 hb9
    refine zzc (c_nameForm L s.name) (rfl) ?_
    cases h0 : yyf s.name
    ·simp only [go_sem, rE, rA, rL]
     exact out _ _ (false, m - 1) (rfl) (by simp only [go_sem, rE, rA, rL, d9, hb2]) (by rw [hi, h0]; rfl) (⟨e1, e2, e16, e17, e18⟩)
    simp only [go_sem, rE, rA, rL]
    refine zzc (c_exprForm L T 4 (by omega) s.expr) (by simp only [go_sem, rE, rA, rL, Ex.enc_eq s.expr]; rfl) ?_
    simp only [go_sem, rE, rA, rL]
    exact out _ _ (s.expr.okD 4, m - 1) (rfl) (by simp only [go_sem, rE, rA, rL, d9, hb2]) (by rw [hi, h0]; rfl) (⟨e1, e2, e16, e17, e18⟩)
   by_cases k2 : s.kind = 2
   ·have q : ∀ i : Int, i ≠ 2 → ¬ s.kind = i := fun i hi => by rw [k2]; exact Ne.symm hi
    rw [shS_2 k2] at hn ⊢
    cases hc : s.rest2.noneB
    ·rw [hc] at hn; exact absurd rfl hn
    have hi : iSt f s (m - 1) = (yyf s.name && (s.place.okB), m - 1) := by rw [iSt, if_neg (q 1 (by decide)), if_pos k2, hc]; rfl
    simp only [go_sem, rE, rA, rL, if_true, T.s12, if_false]
    intro b9 hb9
    have hb9' := (Heap.zza H2 (.cells []) (zzj hb2 hb9)).trans hb2
    have d9 := zzj hb2 hb9
    refine zzc (c_nameForm L s.name) (rfl) ?_
    cases h0 : yyf s.name
    ·simp only [go_sem, rE, rA, rL]
     exact out _ _ (false, m - 1) (rfl) (by simp only [go_sem, rE, rA, rL, d9, hb2]) (by rw [hi, h0]; rfl) (⟨e1, e2, e16, e17, e18⟩)
    simp only [go_sem, rE, rA, rL]
    refine zzc (c_placeForm L s.place) (by simp only [go_sem, rE, rA, rL, Pl.enc]) ?_
    simp only [go_sem, rE, rA, rL]
    exact out _ _ (s.place.okB, m - 1) (rfl) (by simp only [go_sem, rE, rA, rL, d9, hb2]) (by rw [hi, h0]; rfl) (⟨e1, e2, e16, e17, e18⟩)
   by_cases k3 : s.kind = 3
   ·have q : ∀ i : Int, i ≠ 3 → ¬ s.kind = i := fun i hi => by rw [k3]; exact Ne.symm hi
    rw [shS_3 k3] at hn ⊢
    cases hc : s.rest3.noneB
    ·rw [hc] at hn; exact absurd rfl hn
    have hi : iSt f s (m - 1) = (s.place.okB && (s.expr.okD 4), m - 1) := by rw [iSt, if_neg (q 1 (by decide)), if_neg (q 2 (by decide)), if_pos k3, hc]; rfl
    simp only [go_sem, rE, rA, rL, if_true, T.s13, T.s23, if_false]
    intro b9 hb9
    have hb9' := (Heap.zza H2 (.cells []) (zzj hb2 hb9)).trans hb2
    have d9 := zzj hb2 hb9
    refine zzc (c_placeForm L s.place) (by simp only [go_sem, rE, rA, rL, Pl.enc]) ?_
    cases h0 : s.place.okB
    ·simp only [go_sem, rE, rA, rL]
     exact out _ _ (false, m - 1) (rfl) (by simp only [go_sem, rE, rA, rL, d9, hb2]) (by rw [hi, h0]; rfl) (⟨e1, e2, e16, e17, e18⟩)
    simp only [go_sem, rE, rA, rL]
    refine zzc (c_exprForm L T 4 (by omega) s.expr) (by simp only [go_sem, rE, rA, rL, Ex.enc_eq s.expr]; rfl) ?_
    simp only [go_sem, rE, rA, rL]
    exact out _ _ (s.expr.okD 4, m - 1) (rfl) (by simp only [go_sem, rE, rA, rL, d9, hb2]) (by rw [hi, h0]; rfl) (⟨e1, e2, e16, e17, e18⟩)
   by_cases k4 : s.kind = 4
   ·have q : ∀ i : Int, i ≠ 4 → ¬ s.kind = i := fun i hi => by rw [k4]; exact Ne.symm hi
    rw [shS_4 k4] at hn ⊢
    cases hc : s.rest4.noneB
    ·rw [hc] at hn; exact absurd rfl hn
    have hi : iSt f s (m - 1) = (yyf s.name && (yyf s.fn && (argsOk s.args)), m - 1) := by rw [iSt, if_neg (q 1 (by decide)), if_neg (q 2 (by decide)), if_neg (q 3 (by decide)), if_pos k4, hc]; rfl
    simp only [go_sem, rE, rA, rL, if_true, T.s14, T.s24, T.s34, if_false]
    intro b9 hb9
    have hb9' := (Heap.zza H2 (.cells []) (zzj hb2 hb9)).trans hb2
    have d9 := zzj hb2 hb9
    refine zzc (c_nameForm L s.name) (rfl) ?_
    cases h0 : yyf s.name
    ·simp only [go_sem, rE, rA, rL]
     exact out _ _ (false, m - 1) (rfl) (by simp only [go_sem, rE, rA, rL, d9, hb2]) (by rw [hi, h0]; rfl) (⟨e1, e2, e16, e17, e18⟩)
    simp only [go_sem, rE, rA, rL]
    refine zzc (c_nameForm L s.fn) (rfl) ?_
    cases h1 : yyf s.fn
    ·simp only [go_sem, rE, rA, rL]
     exact out _ _ (false, m - 1) (rfl) (by simp only [go_sem, rE, rA, rL, d9, hb2]) (by rw [hi, h0, h1]; rfl) (⟨e1, e2, e16, e17, e18⟩)
    simp only [go_sem, rE, rA, rL]
    refine zzc (c_argsForm L T s.args) (rfl) ?_
    simp only [go_sem, rE, rA, rL]
    exact out _ _ (argsOk s.args, m - 1) (rfl) (by simp only [go_sem, rE, rA, rL, d9, hb2]) (by rw [hi, h0, h1]; rfl) (⟨e1, e2, e16, e17, e18⟩)
   by_cases k5 : s.kind = 5
   ·have q : ∀ i : Int, i ≠ 5 → ¬ s.kind = i := fun i hi => by rw [k5]; exact Ne.symm hi
    rw [shS_5 k5] at hn ⊢
    cases hc : s.rest5.noneB
    ·rw [hc] at hn; exact absurd rfl hn
    simp only [go_sem, rE, rA, rL, if_true, T.s15, T.s25, T.s35, T.s45, if_false]
    intro b9 hb9
    have d9 := zzj hb2 hb9
    refine zzc (c_exprForm L T 4 (by omega) s.expr) (by simp only [go_sem, rE, rA, rL, Ex.enc_eq s.expr]; rfl) ?_
    cases h0 : s.expr.okD 4
    ·simp only [go_sem, rE, rA, rL]
     exact out _ _ (false, m - 1) (rfl) (by simp only [go_sem, rE, rA, rL, d9, hb2]) (by rw [iSt, if_neg (q 1 (by decide)), if_neg (q 2 (by decide)), if_neg (q 3 (by decide)), if_neg (q 4 (by decide)), if_pos k5, hc, h0]; rfl) (⟨e1, e2, e16, e17, e18⟩)
    have hb9' := (Heap.zza H2 (.cells [I s.expr.kind, I s.expr.num, S s.expr.place.name, zze s.expr.place.path, .sl 5 none (Ex.encs s.expr.kids), .sl 15 none (St.encs s.thn), .sl 15 none (St.encs s.els)]) d9).trans hb2
    have g9 := Heap.zzb H2 b9 (.cells [I s.expr.kind, I s.expr.num, S s.expr.place.name, zze s.expr.place.path, .sl 5 none (Ex.encs s.expr.kids), .sl 15 none (St.encs s.thn), .sl 15 none (St.encs s.els)])
    simp only [go_sem, rE, rA, rL, e1, e2, wd, hdd]
    have ht := hf s.thn (m - 1)
    refine run_one (ih hd1 s.thn (m - 1) b (by omega) (by omega) (by omega)) (by simp only [go_sem, rE, rA, rL, hdd, wd]) hb9' (by simp) trivial ?_
    have hi : iSt f s (m - 1) = if (f s.thn (m - 1)).1 then f s.els (f s.thn (m - 1)).2 else (false, (f s.thn (m - 1)).2) := by rw [iSt, if_neg (q 1 (by decide)), if_neg (q 2 (by decide)), if_neg (q 3 (by decide)), if_neg (q 4 (by decide)), if_pos k5, hc, h0]; rfl
    generalize f s.thn (m - 1) = r1 at *
    obtain ⟨ok1, m1⟩ := r1
    simp only at hi ht
    cases ok1
    ·simp only [go_sem, rE, rA, rL]
     exact out _ _ (false, m1) (by simp only [go_sem, rE, rA, rL]) (by simp only [go_sem, rE, rA, rL]) (by rw [hi]; rfl) (by simp only [go_sem, rE, rA, rL, e1, e2, e16, e17, e18, and_self])
    simp only [go_sem, rE, rA, rL, e1, e2, wd, hdd, d9, Ne.symm d9, g9]
    refine run_one (ih hd1 s.els m1 b (by omega) (by omega) (by omega)) (by simp only [go_sem, rE, rA, rL, hdd, wd]) (Heap.zzb _ _ _) (by simp) trivial ?_
    simp only [go_sem, rE, rA, rL]
    exact out _ _ (f s.els m1) (by simp only [go_sem, rE, rA, rL]) (by simp only [go_sem, rE, rA, rL]) (by rw [hi]; rfl) (by simp only [go_sem, rE, rA, rL, e1, e2, e16, e17, e18, and_self])
   by_cases k6 : s.kind = 6
   ·have q : ∀ i : Int, i ≠ 6 → ¬ s.kind = i := fun i hi => by rw [k6]; exact Ne.symm hi
    rw [shS_6 k6] at hn ⊢
    cases hc : s.rest6.noneB
    ·rw [hc] at hn; exact absurd rfl hn
    have hi : iSt f s (m - 1) = (yyf s.name && (s.place.okB && (s.other.okB && (s.expr.okD 4))), m - 1) := by rw [iSt, if_neg (q 1 (by decide)), if_neg (q 2 (by decide)), if_neg (q 3 (by decide)), if_neg (q 4 (by decide)), if_neg (q 5 (by decide)), if_pos k6, hc]; rfl
    simp only [go_sem, rE, rA, rL, if_true, T.s16, T.s26, T.s36, T.s46, T.s56, if_false]
    intro b9 hb9
    have hb9' := (Heap.zza H2 (.cells []) (zzj hb2 hb9)).trans hb2
    have d9 := zzj hb2 hb9
    refine zzc (c_nameForm L s.name) (rfl) ?_
    cases h0 : yyf s.name
    ·simp only [go_sem, rE, rA, rL]
     exact out _ _ (false, m - 1) (rfl) (by simp only [go_sem, rE, rA, rL, d9, hb2]) (by rw [hi, h0]; rfl) (⟨e1, e2, e16, e17, e18⟩)
    simp only [go_sem, rE, rA, rL]
    refine zzc (c_placeForm L s.place) (by simp only [go_sem, rE, rA, rL, Pl.enc]) ?_
    cases h1 : s.place.okB
    ·simp only [go_sem, rE, rA, rL]
     exact out _ _ (false, m - 1) (rfl) (by simp only [go_sem, rE, rA, rL, d9, hb2]) (by rw [hi, h0, h1]; rfl) (⟨e1, e2, e16, e17, e18⟩)
    simp only [go_sem, rE, rA, rL]
    refine zzc (c_placeForm L s.other) (by simp only [go_sem, rE, rA, rL, Pl.enc]) ?_
    cases h2 : s.other.okB
    ·simp only [go_sem, rE, rA, rL]
     exact out _ _ (false, m - 1) (rfl) (by simp only [go_sem, rE, rA, rL, d9, hb2]) (by rw [hi, h0, h1, h2]; rfl) (⟨e1, e2, e16, e17, e18⟩)
    simp only [go_sem, rE, rA, rL]
    refine zzc (c_exprForm L T 4 (by omega) s.expr) (by simp only [go_sem, rE, rA, rL, Ex.enc_eq s.expr]; rfl) ?_
    simp only [go_sem, rE, rA, rL]
    exact out _ _ (s.expr.okD 4, m - 1) (rfl) (by simp only [go_sem, rE, rA, rL, d9, hb2]) (by rw [hi, h0, h1, h2]; rfl) (⟨e1, e2, e16, e17, e18⟩)
   exact absurd (shS_0 (by omega)) hn
  ·rintro E' H' ⟨r, hr, f9, hb', f1, f2, f16, f17, f18⟩
   rw [← hr] at hit
   have hbd := iSt_bd (f := f) (s := s) (fun l n _ => hf l n) (m - 1)
   rw [← hr] at hbd
   obtain ⟨ok, m2⟩ := r
   simp only at f9 hb' hit hbd
   cases ok
   ·simp only [go_sem, rE, rA, rL, f9]
    exact fin _ _ (false, m2) (rfl) hb' (by rw [hdt]; simpa using hit)
   ·simp only [go_sem, rE, rA, rL, f9, f18, w1]
    refine ⟨hk1, H', Heap.zzm _, m2, hb', f1, f2, f16, f17, rfl, by omega, by omega, by rw [hdt]; simpa using hit⟩
 ·have hkk : k = l.length := by omega
  subst hkk
  simp only [go_sem, rE]
  rw [List.drop_length] at hit
  exact fin _ _ (true, m) (rfl) hb hit
theorem c_stmtsForm (L : Lib P F) (T : Tys F) : ∀ (d : Nat), d ≤ 100 → ∀ (l : List St) (n : Int) (b : Nat), St.cntL l ≤ 2 ^ 20 → -(2 ^ 29) ≤ n → n ≤ 2 ^ 20 →
 ACalls P F.i_stmtsForm [.sl 15 none (St.encs l), I d, .ptr b 0] (one b (.cells [I n])) fun q H' => q = B (iBody d l n).1 ∧ H' = one b (.cells [I (iBody d l n).2])
 | 0, hd, l, n, b, h1, h2, h3 => by
   have e : ∀ (l : List St) (n : Int), iBody 0 l n = iList (decide (1 ≤ 0)) (iSt fun _ n => (false, n)) l n := fun l n => by cases l <;> simp [iBody, iList]
   rw [e]
   exact c_stmtsFormW L T 0 hd (fun _ n => (false, n)) (fun l n => by simp only; omega) (fun h => by omega) l n b h1 h2 h3
 | d + 1, hd, l, n, b, h1, h2, h3 =>
   c_stmtsFormW L T (d + 1) hd (iBody d) (iBody_bd d) (fun _ => c_stmtsForm L T d (by omega)) l n b h1 h2 h3
end
end Go.Xl
namespace Go.Xl
open Nat renaming reduceEqDiff → rE, reduceAdd → rA, reduceLeDiff → rL
theorem nil_name : yyf (bl []) = false := rfl
theorem args_nil {l : List Ag} (h : l.length = 0) : argsOk l = true := by
 rw [List.eq_nil_of_length_eq_zero h]; rfl
theorem iSt_1 {f : List St → Int → Bool × Int} {s : St} {n : Int} (h : s.kind = 1) : iSt f s n = (s.rest1.noneB && (yyf s.name && s.expr.okD 4), n) := by
 have q : ∀ i : Int, i ≠ 1 → ¬ s.kind = i := fun i hi => by rw [h]; exact Ne.symm hi
 rw [iSt, if_pos h]
theorem iSt_2 {f : List St → Int → Bool × Int} {s : St} {n : Int} (h : s.kind = 2) : iSt f s n = (s.rest2.noneB && (yyf s.name && s.place.okB), n) := by
 have q : ∀ i : Int, i ≠ 2 → ¬ s.kind = i := fun i hi => by rw [h]; exact Ne.symm hi
 rw [iSt, if_neg (q 1 (by decide)), if_pos h]
theorem iSt_3 {f : List St → Int → Bool × Int} {s : St} {n : Int} (h : s.kind = 3) : iSt f s n = (s.rest3.noneB && (s.place.okB && s.expr.okD 4), n) := by
 have q : ∀ i : Int, i ≠ 3 → ¬ s.kind = i := fun i hi => by rw [h]; exact Ne.symm hi
 rw [iSt, if_neg (q 1 (by decide)), if_neg (q 2 (by decide)), if_pos h]
theorem iSt_4 {f : List St → Int → Bool × Int} {s : St} {n : Int} (h : s.kind = 4) : iSt f s n = (s.rest4.noneB && (yyf s.name && (yyf s.fn && argsOk s.args)), n) := by
 have q : ∀ i : Int, i ≠ 4 → ¬ s.kind = i := fun i hi => by rw [h]; exact Ne.symm hi
 rw [iSt, if_neg (q 1 (by decide)), if_neg (q 2 (by decide)), if_neg (q 3 (by decide)), if_pos h]
theorem iSt_5 {f : List St → Int → Bool × Int} {s : St} {n : Int} (h : s.kind = 5) : iSt f s n = if s.rest5.noneB && s.expr.okD 4 then (if (f s.thn n).1 then f s.els (f s.thn n).2 else (false, (f s.thn n).2)) else (false, n) := by
 have q : ∀ i : Int, i ≠ 5 → ¬ s.kind = i := fun i hi => by rw [h]; exact Ne.symm hi
 rw [iSt, if_neg (q 1 (by decide)), if_neg (q 2 (by decide)), if_neg (q 3 (by decide)), if_neg (q 4 (by decide)), if_pos h]
theorem iSt_6 {f : List St → Int → Bool × Int} {s : St} {n : Int} (h : s.kind = 6) : iSt f s n = (s.rest6.noneB && (yyf s.name && (s.place.okB && (s.other.okB && s.expr.okD 4))), n) := by
 have q : ∀ i : Int, i ≠ 6 → ¬ s.kind = i := fun i hi => by rw [h]; exact Ne.symm hi
 rw [iSt, if_neg (q 1 (by decide)), if_neg (q 2 (by decide)), if_neg (q 3 (by decide)), if_neg (q 4 (by decide)), if_neg (q 5 (by decide)), if_pos h]
theorem mk_noneB (k : Int) (n : ByteArray) (p o : Pl) (e : Ex) (f : ByteArray) (as : List Ag) (t l : List St) : (St.mk k n p o e f as t l).noneB = (decide (k = 0) && (decide (n = bl []) && (p.noneB && (o.noneB && (e.noneB && (decide (f = bl []) && (decide (as.length = 0) && (decide (t.length = 0) && decide (l.length = 0))))))))) := rfl
theorem st_plain {Bd : List St → Bool} {s : St} {x : Bool} (h5 : s.kind ≠ 5) (n : Int) (hn : 0 ≤ n) (h : x = stOkW Bd s) (hs : St.numL s.thn + St.numL s.els + 1 = s.num) :
 ((x, n) : Bool × Int).1 = (stOkW Bd s && decide ((s.num : Int) - 1 ≤ n)) ∧ (((x, n) : Bool × Int).1 = true → ((x, n) : Bool × Int).2 = n - ((s.num : Int) - 1)) := by
 subst h
 have key : stOkW Bd s = true → s.num = 1 := by
  intro h
  simp only [stOkW, stD, if_neg h5, Bool.and_eq_true, decide_eq_true_eq] at h
  have h1 : s.thn = [] := List.eq_nil_of_length_eq_zero (by omega)
  have h2 : s.els = [] := List.eq_nil_of_length_eq_zero (by omega)
  rw [h1, h2, St.numL_nil] at hs; omega
 cases ho : stOkW Bd s
 ·simp
 ·have := key ho
  simp [this, hn]
theorem iSt_spec (d : Nat) (s : St) (n : Int) (hn : 0 ≤ n) (h : ∀ l n, (l = s.thn ∨ l = s.els) → s.kind = 5 → 0 ≤ n → n ≤ 40 → (iBody d l n).1 = (xxc d l && decide ((St.numL l : Int) ≤ n)) ∧ ((iBody d l n).1 = true → (iBody d l n).2 = n - St.numL l)) (hn2 : n ≤ 40) :
 (iSt (iBody d) s n).1 = (stOkW (xxc d) s && decide ((s.num : Int) - 1 ≤ n)) ∧ ((iSt (iBody d) s n).1 = true → (iSt (iBody d) s n).2 = n - ((s.num : Int) - 1)) := by
 have hs : St.numL s.thn + St.numL s.els + 1 = s.num := by have := St.num_eq s; omega
 have an := @args_nil s.args
 have p0 : P0.noneB = true := rfl
 have e0 : E0.noneB = true := rfl
 by_cases k1 : s.kind = 1
 ·rw [iSt_1 k1]
  refine st_plain (by rw [k1]; decide) n hn ?_ hs
  clear hs h
  rw [Bool.eq_iff_iff]
  simp only [stOkW, stA, stB, stC', stD, isN, isP, isE, St.rest1, mk_noneB, k1, Int.reduceEq, Int.reduceLE, decide_true, decide_false, Bool.false_or, Bool.true_or, Bool.or_false, Bool.or_self, if_true, if_false, reduceIte, Bool.false_eq_true, Bool.and_eq_true, decide_eq_true_eq]
  simp only [p0, e0, true_and, and_self, List.length_eq_zero_iff, Nat.add_eq_zero_iff, Bool.not_eq_true'] at an ⊢
  constructor
  ·rintro ⟨⟨h1, h2, h3, h4, h5, h6⟩, h7, h8⟩; simp_all
  ·rintro ⟨h1, h2, h3, h4⟩; simp_all
 by_cases k2 : s.kind = 2
 ·rw [iSt_2 k2]
  refine st_plain (by rw [k2]; decide) n hn ?_ hs
  clear hs h
  rw [Bool.eq_iff_iff]
  simp only [stOkW, stA, stB, stC', stD, isN, isP, isE, St.rest2, mk_noneB, k2, Int.reduceEq, Int.reduceLE, decide_true, decide_false, Bool.false_or, Bool.true_or, Bool.or_false, Bool.or_self, if_true, if_false, reduceIte, Bool.false_eq_true, Bool.and_eq_true, decide_eq_true_eq]
  simp only [p0, e0, true_and, and_self, List.length_eq_zero_iff, Nat.add_eq_zero_iff, Bool.not_eq_true'] at an ⊢
  constructor
  ·rintro ⟨⟨h1, h2, h3, h4, h5, h6⟩, h7, h8⟩; simp_all
  ·rintro ⟨h1, h2, h3, h4⟩; simp_all
 by_cases k3 : s.kind = 3
 ·rw [iSt_3 k3]
  refine st_plain (by rw [k3]; decide) n hn ?_ hs
  clear hs h
  rw [Bool.eq_iff_iff]
  simp only [stOkW, stA, stB, stC', stD, isN, isP, isE, St.rest3, mk_noneB, k3, Int.reduceEq, Int.reduceLE, decide_true, decide_false, Bool.false_or, Bool.true_or, Bool.or_false, Bool.or_self, if_true, if_false, reduceIte, Bool.false_eq_true, Bool.and_eq_true, decide_eq_true_eq]
  simp only [p0, e0, true_and, and_self, List.length_eq_zero_iff, Nat.add_eq_zero_iff, Bool.not_eq_true'] at an ⊢
  constructor
  ·rintro ⟨⟨h1, h2, h3, h4, h5, h6⟩, h7, h8⟩; simp_all [nil_name]
  ·rintro ⟨h1, h2, h3, h4⟩; simp_all
 by_cases k4 : s.kind = 4
 ·rw [iSt_4 k4]
  refine st_plain (by rw [k4]; decide) n hn ?_ hs
  clear hs h
  rw [Bool.eq_iff_iff]
  simp only [stOkW, stA, stB, stC', stD, isN, isP, isE, St.rest4, mk_noneB, k4, Int.reduceEq, Int.reduceLE, decide_true, decide_false, Bool.false_or, Bool.true_or, Bool.or_false, Bool.or_self, if_true, if_false, reduceIte, Bool.false_eq_true, Bool.and_eq_true, decide_eq_true_eq]
  simp only [p0, e0, true_and, and_self, List.length_eq_zero_iff, Nat.add_eq_zero_iff, Bool.not_eq_true'] at an ⊢
  constructor
  ·rintro ⟨⟨h1, h2, h3, h4, h5⟩, h6, h7, h8⟩; simp_all
  ·rintro ⟨h1, h2, h3, h4⟩; simp_all
 by_cases k6 : s.kind = 6
 ·rw [iSt_6 k6]
  refine st_plain (by rw [k6]; decide) n hn ?_ hs
  clear hs h
  rw [Bool.eq_iff_iff]
  simp only [stOkW, stA, stB, stC', stD, isN, isP, isE, St.rest6, mk_noneB, k6, Int.reduceEq, Int.reduceLE, decide_true, decide_false, Bool.false_or, Bool.true_or, Bool.or_false, Bool.or_self, if_true, if_false, reduceIte, Bool.false_eq_true, Bool.and_eq_true, decide_eq_true_eq]
  simp only [p0, e0, true_and, and_self, List.length_eq_zero_iff, Nat.add_eq_zero_iff, Bool.not_eq_true'] at an ⊢
  constructor
  ·rintro ⟨⟨h1, h2, h3, h4⟩, h5, h6, h7, h8⟩; simp_all
  ·rintro ⟨h1, h2, h3, h4⟩; simp_all
 by_cases k5 : s.kind = 5
 ·have hg : stOkW (xxc d) s = ((s.rest5.noneB && s.expr.okD 4) && (xxc d s.thn && xxc d s.els)) := by
   clear hs h
   rw [Bool.eq_iff_iff]
   simp only [stOkW, stA, stB, stC', stD, isN, isP, isE, St.rest5, mk_noneB, k5, Int.reduceEq, Int.reduceLE, decide_true, decide_false, Bool.false_or, Bool.true_or, Bool.or_false, Bool.or_self, if_true, if_false, reduceIte, Bool.false_eq_true, Bool.and_eq_true, decide_eq_true_eq]
   simp only [p0, e0, true_and, and_self, List.length_eq_zero_iff, Nat.add_eq_zero_iff, Bool.not_eq_true'] at an ⊢
   constructor
   ·rintro ⟨h1, h2, h3, h4⟩; simp_all
   ·intro h; simp_all [nil_name]
  rw [iSt_5 k5, hg]
  generalize (s.rest5.noneB && s.expr.okD 4) = c at *
  generalize s.thn = t at *
  generalize s.els = l at *
  generalize s.num = N at *
  have ht := h t n (.inl rfl) k5 hn hn2
  cases c
  ·simp
  ·simp only [if_true, Bool.true_and]
   rw [ht.1]
   cases hb : xxc d t && decide ((St.numL t : Int) ≤ n)
   ·simp only [Bool.false_eq_true, if_false]
    refine ⟨?_, by simp⟩
    rw [Bool.and_eq_false_iff] at hb
    rcases hb with hb | hb
    ·rw [hb]; simp
    ·simp only [decide_eq_false_iff_not] at hb
     rw [show decide ((N : Int) - 1 ≤ n) = false from decide_eq_false (by omega), Bool.and_false]
   ·simp only [Bool.and_eq_true, decide_eq_true_eq] at hb
    rw [ht.2 (by rw [ht.1, hb.1]; simpa using hb.2)]
    have hl := h l (n - St.numL t) (.inr rfl) k5 (by omega) (by omega)
    simp only [if_true]
    refine ⟨?_, fun ho => ?_⟩
    ·rw [hl.1, hb.1, Bool.true_and]
     congr 1
     rw [decide_eq_decide]; omega
    ·rw [hl.2 ho]; omega
 ·have hi : iSt (iBody d) s n = (false, n) := by
   rw [iSt, if_neg k1, if_neg k2, if_neg k3, if_neg k4, if_neg k5, if_neg k6]
  have hg : stOkW (xxc d) s = false := by
   have hk : ¬ (1 ≤ s.kind ∧ s.kind ≤ 6) := by omega
   simp only [stOkW, stD, if_neg k5, decide_eq_false hk, Bool.false_and, Bool.and_false]
  rw [hi, hg]; simp
theorem iList_spec {d : Nat} : ∀ (l : List St) (n : Int), 0 ≤ n → n ≤ 40 → (∀ s ∈ l, ∀ n, 0 ≤ n → n ≤ 40 → (iSt (iBody d) s n).1 = (stOkW (xxc d) s && decide ((s.num : Int) - 1 ≤ n)) ∧ ((iSt (iBody d) s n).1 = true → (iSt (iBody d) s n).2 = n - ((s.num : Int) - 1))) →
 (iList true (iSt (iBody d)) l n).1 = (l.all (stOkW (xxc d)) && decide ((St.numL l : Int) ≤ n)) ∧ ((iList true (iSt (iBody d)) l n).1 = true → (iList true (iSt (iBody d)) l n).2 = n - St.numL l)
 | [], n, hn, _, _ => by simp [iList, St.numL_nil, hn]
 | s :: l, n, hn, hn2, h => by
   have h1 : 1 ≤ s.num := by rw [St.num_eq]; omega
   rw [iList, St.numL_cons, List.all_cons, Bool.true_and]
   by_cases h0 : 0 ≤ n - 1
   ·have hs := h s (by simp) (n - 1) h0 (by omega)
    rw [decide_eq_true h0]
    simp only [if_true]
    cases ho : (iSt (iBody d) s (n - 1)).1
    ·simp only [Bool.false_eq_true, if_false]
     refine ⟨?_, by simp⟩
     rw [ho] at hs
     have hs1 := hs.1.symm
     rw [Bool.and_eq_false_iff] at hs1
     rcases hs1 with h2 | h2
     ·rw [h2]; simp
     ·simp only [decide_eq_false_iff_not] at h2
      rw [show decide (((s.num + St.numL l : Nat) : Int) ≤ n) = false from decide_eq_false (by omega), Bool.and_false]
    ·have h2 := hs.2 ho
     have h3 := hs.1
     rw [ho] at h3
     have h3 := h3.symm
     simp only [Bool.and_eq_true, decide_eq_true_eq] at h3
     have hl := iList_spec l (iSt (iBody d) s (n - 1)).2 (by omega) (by omega) fun x hx => h x (by simp [hx])
     rw [h2] at hl ⊢
     simp only [if_true]
     refine ⟨?_, fun ho => ?_⟩
     ·rw [hl.1, h3.1, Bool.true_and]
      congr 1
      rw [decide_eq_decide]; omega
     ·rw [hl.2 ho]; omega
   ·rw [decide_eq_false h0]
    simp only [Bool.false_eq_true, if_false]
    refine ⟨?_, by simp⟩
    rw [show decide (((s.num + St.numL l : Nat) : Int) ≤ n) = false from decide_eq_false (by omega), Bool.and_false]
theorem St.sm.kids {i : Nat} {s : St} (h : s.sm (i + 1)) : (∀ x ∈ s.thn, x.sm i) ∧ ∀ x ∈ s.els, x.sm i := by
 cases h with | mk he ha ht hl => exact ⟨ht, hl⟩
theorem iBody_spec : ∀ (d i : Nat) (l : List St) (n : Int), i + 1 ≤ d → (∀ s ∈ l, s.sm i) → 0 ≤ n → n ≤ 40 →
 (iBody d l n).1 = (xxc d l && decide ((St.numL l : Int) ≤ n)) ∧ ((iBody d l n).1 = true → (iBody d l n).2 = n - St.numL l)
 | 0, i, l, n, h, _, _, _ => by omega
 | d + 1, i, l, n, hd, hs, hn, hn2 => by
   have key := iList_spec (d := d) l n hn hn2 fun s hx n hn hn2 => iSt_spec d s n hn (fun l' n hl _ hn hn2 => by
    have h := hs s hx
    cases i with
    | zero => cases h
    | succ i =>
      have hk := h.kids
      exact iBody_spec d i l' n (by omega) (by rcases hl with rfl | rfl; exact hk.1; exact hk.2) hn hn2) hn2
   refine ⟨?_, key.2⟩
   rw [iBody, key.1, xxc]
   have hlen := St.len_num l
   by_cases h40 : (St.numL l : Int) ≤ n
   ·rw [show decide (l.length ≤ 40) = true from decide_eq_true (by omega), Bool.true_and]
   ·rw [decide_eq_false h40, Bool.and_false, Bool.and_false]
theorem iBody4 {l : List St} (h : ∀ s ∈ l, s.sm 3) : (iBody 4 l 40).1 = (xxc 4 l && decide (St.numL l ≤ 40)) := by
 rw [(iBody_spec 4 3 l 40 (by omega) h (by omega) (by omega)).1]
 congr 1
 rw [decide_eq_decide]; omega
end Go.Xl
namespace Go.Xl
open Nat renaming reduceEqDiff → rE, reduceAdd → rA, reduceLeDiff → rL
section
variable {P : Program} {F : Ids}
theorem c_fnForm (L : Lib P F) (T : Tys F) (f : Fu) (hc : St.cntL f.body ≤ 2 ^ 20) (hs : ∀ s ∈ f.body, s.sm 3) : Pure1 P F.i_fnForm [.agg f.enc] (B f.okB) := by
 refine L.i_fnForm (by simp [x_i_fnForm]) ?_
 rw [Fu.enc_eq]
 simp only [x_i_fnForm, go_sem, rE]
 intro b hb
 obtain ⟨cs, hcs⟩ : ∃ cs, cs = [S f.name, .sl 3 none (f.params.map Pa.enc), B f.lent, .sl 1 none (Ty.encs f.type.kids), .sl 15 none (St.encs f.body), I f.says.kind, I f.says.num, S f.says.place.name, zze f.says.place.path, .sl 5 none (Ex.encs f.says.kids), S f.gives.name, zze f.gives.path] := ⟨_, rfl⟩
 have g1 : (Heap.empty.set b (.cells cs)).get b = some (.cells cs) := Heap.zzb _ _ _
 rw [hcs] at g1
 generalize Heap.empty.set b (.cells [S f.name, .sl 3 none (f.params.map Pa.enc), B f.lent, .sl 1 none (Ty.encs f.type.kids), .sl 15 none (St.encs f.body), I f.says.kind, I f.says.num, S f.says.place.name, zze f.says.place.path, .sl 5 none (Ex.encs f.says.kids), S f.gives.name, zze f.gives.path]) = H1 at *
 have back : ∀ (E : Env) (H : Heap) (c : Bool), E 2 = B c → c = f.okB → XFunc.post [.slot 2] (fun q H' => q = B f.okB ∧ H' = Heap.empty) .ret E H := by
  rintro E H c e4 rfl
  exact zzd (.refl _) (Heap.zzf _) ⟨e4, rfl⟩
 have cut : (!yyf f.name || decide (4 < f.params.length) || !f.type.okB) = true → f.okB = false := by
  intro h
  simp only [Bool.or_eq_true, Bool.not_eq_true', decide_eq_true_eq] at h
  rcases h with (h | h) | h
  ·simp [Fu.okB, h]
  ·simp [Fu.okB, show ¬ f.params.length ≤ 4 by omega]
  ·simp [Fu.okB, h]
 refine zzc (c_nameForm L f.name) (rfl) ?_
 cases hn : yyf f.name
 ·simp only [go_sem, rE, rA]
  exact back _ _ false (rfl) (cut (by simp [hn])).symm
 by_cases h4 : (f.params.length : Int) > 4
 ·simp only [go_sem, rE, rA, g1, List.length_map, h4, decide_true]
  exact back _ _ false (rfl) (cut (by simp; omega)).symm
 simp only [go_sem, rE, rA, rL, g1, List.length_map, h4, decide_false]
 refine zzc (c_iTypeOk L f.type) (by simp only [go_sem, rE, Ty.enc_eq]) ?_
 cases ht : f.type.okB
 ·simp only [go_sem, rE, rA]
  exact back _ _ false (rfl) (cut (by simp [ht])).symm
 have hpre : f.okB = (xxc 4 f.body && (decide (St.numL f.body ≤ 40) && (f.params.all Pa.okB && (if f.lent then f.gives.okB && f.says.noneB else f.gives.noneB && f.says.okD 4)))) := by
  simp only [Fu.okB, hn, ht, show decide (f.params.length ≤ 4) = true from decide_eq_true (by omega), Bool.true_and]
 simp only [go_sem, rE, rA, g1, List.length_map]
 refine yyc f.params.length (fun k E H => E 1 = .ptr b 0 ∧ E 23 = .sl 3 none (f.params.map Pa.enc) ∧ E 24 = I f.params.length ∧ E 25 = I k ∧ H.get b = some (.cells cs) ∧ (f.params.take k).all Pa.okB = true) ⟨rfl, rfl, rfl, rfl, by rw [hcs]; exact g1, by simp⟩ ?_
 clear g1
 rintro k E H hk ⟨e1, e23, e24, e25, g1, hall⟩
 rw [hcs] at g1
 simp only [wp_seq, go_sem, rE, rA, e24, e25]
 refine zzn (fun hlt => ?_) (fun hge => ?_)
 ·have hk1 : k < f.params.length := by omega
  have w1 := yya (n := (k : Int) + 1) (by omega) (by omega)
  have hgp : (f.params.map Pa.enc)[k]? = some [S f.params[k].name, B f.params[k].lent, .sl 1 none (Ty.encs f.params[k].type.kids)] := by simp [hk1, Pa.enc, Ty.enc_eq]
  have no : f.params[k].okB = false → f.okB = false := by
   intro h
   have : f.params.all Pa.okB = false := by rw [List.all_eq_false]; exact ⟨_, List.getElem_mem hk1, by rw [h]; exact Bool.false_ne_true⟩
   rw [hpre, this, Bool.false_and, Bool.and_false, Bool.and_false]
  have yes : f.params[k].okB = true → (f.params.take (k + 1)).all Pa.okB = true := by
   intro h
   rw [List.take_succ_eq_append_getElem hk1, List.all_append, hall]; simp [h]
  have goE : f.params[k].okB = (yyf f.params[k].name && f.params[k].type.okB) := rfl
  generalize f.params[k] = p at *
  simp only [go_sem, rE, rA, rL, e23, e25, hgp]
  intro b4 hb4
  have d4 := zzj g1 hb4
  refine zzc (c_nameForm L p.name) (rfl) ?_
  cases hpn : yyf p.name
  ·simp only [go_sem, rE, rA]
   exact back _ _ false (rfl) (by rw [no (by rw [goE, hpn]; rfl)])
  simp only [go_sem, rE, rA, rL]
  refine zzc (c_iTypeOk L p.type) (by simp only [go_sem, rE, Ty.enc_eq]) ?_
  cases hpt : p.type.okB
  ·simp only [go_sem, rE, rA]
   exact back _ _ false (rfl) (by rw [no (by rw [goE, hpn, hpt]; rfl)])
  simp only [go_sem, rE, rA, e25, w1]
  exact ⟨hk1, _, Heap.zzm _, e1, e23, e24, rfl, by simp only [go_sem, d4, hcs, g1], yes (by rw [goE, hpn, hpt]; rfl)⟩
 ·have hkk : k = f.params.length := by omega
  subst hkk
  rw [List.take_length] at hall
  rw [hall, Bool.true_and] at hpre
  simp only [go_sem, rE]
  intro b5 hb5
  have d5 := zzj g1 hb5
  simp only [go_sem, rE, rA, rL, e1, g1, d5, Ne.symm d5]
  refine run_one (c_stmtsForm L T 4 (by omega) f.body 40 b5 hc (by omega) (by omega)) (rfl) (Heap.zzb _ _ _) (by simp) trivial ?_
  rw [iBody4 hs]
  generalize (iBody 4 f.body 40).2 = lf
  have hf : (xxc 4 f.body && decide (St.numL f.body ≤ 40)) = false → f.okB = false := by
   intro h
   rw [hpre, ← Bool.and_assoc, h, Bool.false_and]
  have htr : (xxc 4 f.body && decide (St.numL f.body ≤ 40)) = true → f.okB = (if f.lent then f.gives.okB && f.says.noneB else f.gives.noneB && f.says.okD 4) := by
   intro h
   rw [hpre, ← Bool.and_assoc, h, Bool.true_and]
  generalize (xxc 4 f.body && decide (St.numL f.body ≤ 40)) = c at *
  clear hpre
  cases c
  ·simp only [go_sem, rE, rA]
   exact back _ _ false (rfl) (hf rfl).symm
  have htr := htr rfl
  simp only [go_sem, rE, rA, rL, e1, g1, d5, Ne.symm d5]
  cases hl : f.lent
  ·rw [hl] at htr
   simp only [go_sem, rE, rA, rL, e1, g1, d5, Ne.symm d5]
   refine zzc (c_exprForm L T 4 (by omega) f.says) (by simp only [go_sem, rE, Ex.enc_eq]; rfl) ?_
   cases hg : f.says.okD 4
   ·simp only [go_sem, rE, rA]
    exact back _ _ false (rfl) (by rw [htr, hg]; simp)
   ·simp only [go_sem, rE, rA, rL, e1, g1, d5, Ne.symm d5]
    refine zzc (c_placeNothing L f.gives) (by simp only [go_sem, rE, Pl.enc]) ?_
    simp only [go_sem, rE, rA]
    exact back _ _ f.gives.noneB (rfl) (by rw [htr, hg]; simp)
  ·rw [hl] at htr
   simp only [go_sem, rE, rA, rL, e1, g1, d5, Ne.symm d5]
   refine zzc (c_placeForm L f.gives) (by simp only [go_sem, rE, Pl.enc]) ?_
   cases hg : f.gives.okB
   ·simp only [go_sem, rE, rA]
    exact back _ _ false (rfl) (by rw [htr, hg]; rfl)
   ·simp only [go_sem, rE, rA, rL, e1, g1, d5, Ne.symm d5]
    refine zzc (c_exprNothing L f.says) (by simp only [go_sem, rE, Ex.enc_eq]) ?_
    simp only [go_sem, rE, rA]
    exact back _ _ f.says.noneB (rfl) (by rw [htr, hg]; rfl)
theorem c_progForm (L : Lib P F) (T : Tys F) (p : Pg) (hc : ∀ f ∈ p, St.cntL f.body ≤ 2 ^ 20 ∧ ∀ s ∈ f.body, s.sm 3) : Pure1 P F.i_progForm [.agg (Pg.enc p)] (B (formOk p)) := by
 refine L.i_progForm (by simp [x_i_progForm]) ?_
 simp only [x_i_progForm, go_sem, rE, Pg.enc, List.length_map]
 intro b hb
 by_cases h5 : (p.length : Int) > 5
 ·simp only [go_sem, rE, List.length_map, h5, decide_true]
  refine zzd (.refl _) (Heap.zzf _) ⟨?_, rfl⟩
  have : formOk p = false := by simp only [formOk, Bool.and_eq_false_iff, decide_eq_false_iff_not]; exact .inl (by omega)
  simp only [go_sem, this]
 simp only [go_sem, rE, List.length_map, h5, decide_false]
 refine yyc p.length (fun k E H => E 10 = .sl 12 none (p.map Fu.enc) ∧ E 11 = I p.length ∧ E 12 = I k ∧ (p.take k).all Fu.okB = true) ⟨rfl, rfl, rfl, by simp⟩ ?_
 rintro k E H hk ⟨e10, e11, e12, hall⟩
 simp only [wp_seq, go_sem, rE, rA, e11, e12]
 refine zzn (fun hlt => ?_) (fun hge => ?_)
 ·have hk1 : k < p.length := by omega
  have w1 := yya (n := (k : Int) + 1) (by omega) (by omega)
  have hg := fu_get hk1
  rw [Fu.enc_eq] at hg
  have hcf := hc _ (List.getElem_mem hk1)
  simp only [go_sem, rE, rA, rL, e10, e12, hg]
  intro b4 hb4
  refine zzc (c_fnForm L T p[k] hcf.1 hcf.2) (by simp only [go_sem, rE, Fu.enc_eq]) ?_
  cases ho : p[k].okB
  ·simp only [go_sem, rE]
   refine zzd (.refl _) (Heap.zzf _) ⟨?_, rfl⟩
   have : p.all Fu.okB = false := by rw [List.all_eq_false]; exact ⟨_, List.getElem_mem hk1, by rw [ho]; exact Bool.false_ne_true⟩
   simp only [go_sem, formOk, this, Bool.and_false]
  ·simp only [go_sem, rE, e12, w1]
   refine ⟨hk1, _, Heap.zzm _, e10, e11, rfl, ?_⟩
   rw [List.take_succ_eq_append_getElem hk1, List.all_append, hall]
   simp [ho]
 ·have hkk : k = p.length := by omega
  subst hkk
  rw [List.take_length] at hall
  simp only [go_sem, rE]
  refine zzd (.refl _) (Heap.zzf _) ⟨?_, rfl⟩
  have : formOk p = true := by simp only [formOk, hall, Bool.and_true, decide_eq_true_eq]; omega
  simp only [go_sem, this]
end
end Go.Xl
namespace Go.Xl
open Nat renaming reduceEqDiff → rE, reduceAdd → rA, reduceLeDiff → rL
def byteC (u : UInt8) : AC := .lit (.int .u8 u.toNat)
def bldBlk (b : Nat) (x : AC) (d : Nat) : Prop := d = b ∨ blkOf x d
structure Bld (F : Ids) (H : Heap) (b : Nat) (l : List UInt8) (x : AC) : Prop where
 obj : ∃ p, (p = .lit (.pointer none) ∨ p = .ptr b 0) ∧ H.get b = some (.typed F.T_strings_Builder [p, x])
 row : (x = NIL ∧ l = []) ∨ ∃ g c cs, x = .lit (.slice (some ⟨g, 0, none⟩) l.length c) ∧ g ≠ b ∧ H.get g = some (.typed F.T_uint8 cs) ∧ l.length ≤ c ∧ c ≤ maxLen ∧ cs.length = c ∧ cs.take l.length = l.map byteC
def BldC (P : Program) (F : Ids) (g : FuncId) (as : List AC) (b : Nat) (l l' : List UInt8) : Prop :=
 ∀ H x, Bld F H b l x → (∀ d, H.get d ≠ none → bldBlk b x d) → ACalls P g as H fun q H' => ∃ x', Bld F H' b l' x' ∧ ∀ d, H'.get d ≠ none → bldBlk b x' d
def joinL : List (List UInt8) → List UInt8
 | [] => []
 | [r] => r
 | r :: q :: rs => r ++ bn [32] ++ joinL (q :: rs)
structure Shf (P : Program) (F : Ids) : Prop where
 itoa : ∀ i : Nat, i < 100 → Pure1 P F.strconv_Itoa [I i] (Tx (decL i))
 join : ∀ (rows : List (List UInt8)) (tok : Option (Nat × Nat × Nat)), rows.length ≤ 2 ^ 20 → (joinL rows).length ≤ 2 ^ 40 → Pure1 P F.strings_Join [.sl 1 tok (rows.map fun r => [Tx r]), Tx (bn [32])] (Tx (joinL rows))
 ws : ∀ (b : Nat) (l s : List UInt8), l.length + s.length ≤ 2 ^ 40 → BldC P F F.strings_Builder_WriteString [.ptr b 0, Tx s] b l (l ++ s)
 wb : ∀ (b : Nat) (l : List UInt8) (c : UInt8), l.length + 1 ≤ 2 ^ 40 → BldC P F F.strings_Builder_WriteByte [.ptr b 0, byteC c] b l (l ++ [c])
 len : ∀ (b : Nat) (l : List UInt8) H x, l.length ≤ 2 ^ 40 → Bld F H b l x → (∀ d, H.get d ≠ none → bldBlk b x d) → ACalls P F.strings_Builder_Len [.ptr b 0] H fun q H' => q = I l.length ∧ H' = H
 str : ∀ (b : Nat) (l : List UInt8) H x, l.length ≤ 2 ^ 40 → Bld F H b l x → (∀ d, H.get d ≠ none → bldBlk b x d) → ACalls P F.strings_Builder_String [.ptr b 0] H fun q H' => q = Tx l ∧ H' = .empty
section
variable {P : Program} {F : Ids}
theorem c_pathText (L : Lib P F) (Z : Shf P F) (p : List Int) (h : pathOk p = true) : Pure1 P F.i_pathText [zze p] (Tx (pathL p)) := by
 refine L.i_pathText (by simp [x_i_pathText]) ?_
 simp only [pathOk, Bool.and_eq_true, decide_eq_true_eq, List.all_eq_true] at h
 obtain ⟨h4, hp⟩ := h
 simp only [x_i_pathText, go_sem, rE, zze, List.length_map]
 refine yyc p.length (fun k E H => E 3 = Tx (pathL (p.take k)) ∧ E 6 = .sl 1 none (p.map fun i => [I i]) ∧ E 7 = I p.length ∧ E 8 = I k) ⟨by simp [go_sem, pathL]; rfl, rfl, rfl, rfl⟩ ?_
 rintro k E H hk ⟨e3, e6, e7, e8⟩
 simp only [wp_seq, go_sem, rE, rA, e7, e8]
 refine zzn (fun hlt => ?_) (fun hge => ?_)
 ·have hk1 : k < p.length := by omega
  have w1 := yya (n := (k : Int) + 1) (by omega) (by omega)
  have hi := hp _ (List.getElem_mem hk1)
  have hii : p[k] = ((p[k].toNat : Nat) : Int) := by omega
  have hpl := pathL_len (p.take k) (fun i hi => hp i (List.mem_of_mem_take hi))
  have htl : (p.take k).length = k := by simp; omega
  have hdl := decL_len 6 p[k].toNat (by omega) (by omega)
  have s1 := sadd (a := bn [46]) (b := decL p[k].toNat) (by simp [LIM, bn]; omega)
  have s2 := sadd (a := pathL (p.take k)) (b := bn [46] ++ decL p[k].toNat) (by rw [List.length_append, hpl]; simp [LIM, bn]; omega)
  have htx : pathL (p.take (k + 1)) = pathL (p.take k) ++ (bn [46] ++ decL p[k].toNat) := by rw [List.take_succ_eq_append_getElem hk1, pathL_snoc, List.append_assoc]
  simp only [bl_eq, go_sem, rE, rA, e3, e6, e8, path_get hk1]
  refine zzc (Z.itoa p[k].toNat (by omega)) (by simp only [go_sem, rE, ← hii]) ?_
  simp only [go_sem, rE, rA, e3, e8, s1, s2, w1]
  exact ⟨hk1, H, Heap.zzm _, by rw [htx], e6, e7, rfl⟩
 ·have hkk : k = p.length := by omega
  subst hkk
  rw [List.take_length] at e3
  simp only [go_sem, rE, e3]
  exact zzd (.refl _) (Heap.zzf _) ⟨rfl, rfl⟩
theorem c_placeText (L : Lib P F) (Z : Shf P F) (p : Pl) (h : p.okB = true) : Pure1 P F.i_placeText [.agg p.enc] (Tx (atL p)) := by
 refine L.i_placeText (by simp [x_i_placeText]) ?_
 have hl := atL_len h
 simp only [Pl.okB, Bool.and_eq_true] at h
 have s1 := sadd_l (a := p.name) (b := pathL p.path) (by simp only [atL, List.length_append, yyj] at hl; simp [LIM]; omega)
 simp only [x_i_placeText, go_sem, rE, Pl.enc]
 intro b hb
 refine zzc (c_pathText L Z p.path h.2) (rfl) ?_
 simp only [go_sem, rE, s1]
 exact zzd (.refl _) (Heap.zzf _) ⟨by simp only [go_sem, atL], rfl⟩
theorem c_twoText (L : Lib P F) (k : Int) (h : 3 ≤ k ∧ k ≤ 6) : Pure1 P F.i_twoText [I k] (Tx (signL k)) := by
 refine L.i_twoText (by simp [x_i_twoText]) ?_
 have hk : k = 3 ∨ k = 4 ∨ k = 5 ∨ k = 6 := by omega
 rcases hk with rfl | rfl | rfl | rfl <;>
 ·simp only [x_i_twoText, go_sem, rE, Int.reduceBEq]
  exact zzd (.refl _) (Heap.zzf _) ⟨rfl, rfl⟩
theorem Ex.sm.kids {e : Ex} (h : e.sm) : e.num < 100 ∧ ∀ x ∈ e.kids, x.sm := by cases h with | mk h1 h2 => exact ⟨h1, h2⟩
theorem c_exprText (L : Lib P F) (T : Tys F) (Z : Shf P F) : ∀ (d : Nat), d ≤ 10 → ∀ (e : Ex), e.okD d = true → e.sm → Pure1 P F.i_exprText [.agg e.enc] (Tx (sayL e)) := by
 intro d
 induction d with
 | zero => intro _ e h; simp [Ex.okD] at h
 | succ d ih =>
   intro hd e h hsm
   have ih := ih (by omega)
   obtain ⟨d', hd', hc⟩ := Ex.okD_get h
   have : d' = d := by omega
   subst this
   have hsk := hsm.kids
   refine L.i_exprText (by simp [x_i_exprText]) ?_
   have hpw : 2 ^ d' ≤ 2 ^ 10 := Nat.pow_le_pow_right (by omega) (by omega)
   have hsay : sayL e = if e.kind = 1 then decL e.num.toNat else if e.kind = 2 then bn [64] ++ atL e.place else match e.kids with
    | a :: b :: _ => signL e.kind ++ bn [32] ++ sayL a ++ bn [32] ++ sayL b
    | _ => [] := by obtain ⟨k, n, p, ks⟩ := e; exact sayL_eq k n p ks
   rw [Ex.enc_eq]
   simp only [x_i_exprText, go_sem, rE]
   intro b1 hb1
   refine zzc (c_exprOf L e) (by simp only [go_sem, rE, Ex.enc_eq e]) ?_
   have fin : ∀ (E' : Env) (H' : Heap) (q : List UInt8), E' 2 = Tx q → q = sayL e → XFunc.post [.slot 2] (fun q H' => q = Tx (sayL e) ∧ H' = .empty) .ret E' H' := fun E' H' q h1 h2 => zzd (by rw [h1, h2]; exact .refl _) (Heap.zzf _) ⟨rfl, rfl⟩
   rcases hc with ⟨k1, h0, h1⟩ | ⟨k2, hpl⟩ | ⟨k1, k2, h3, h6, a, b, hk, ha, hb⟩
   ·have ho := okD_one d' k1
    rw [h] at ho
    simp only [Eq.comm (a := true), Bool.and_eq_true] at ho
    have hq : shE F e = .iface F.T_i_exprNum (.agg [I e.num]) := by rw [shE, if_pos k1, if_pos (by rw [Bool.and_eq_true]; exact ho.1)]
    rw [hq]
    simp only [go_sem, rE, rA, rL, if_true]
    intro b3 hb3
    have hn : e.num = ((e.num.toNat : Nat) : Int) := by omega
    refine zzc (Z.itoa e.num.toNat (by omega)) (by simp only [go_sem, rE, ← hn]) ?_
    simp only [go_sem, rE]
    exact fin _ _ (decL e.num.toNat) (rfl) (by rw [hsay, if_pos k1])
   ·have ho := okD_read d' k2
    have k1 : ¬ e.kind = 1 := by omega
    rw [h] at ho
    simp only [Eq.comm (a := true), Bool.and_eq_true] at ho
    have hq : shE F e = .iface F.T_i_exprRead (.agg e.place.enc) := by rw [shE, if_neg k1, if_pos k2, if_pos (by rw [Bool.and_eq_true]; exact ho.1)]
    rw [hq]
    simp only [go_sem, rE, rA, rL, if_true, T.e1, if_false, Pl.enc]
    intro b3 hb3
    have hl := atL_len hpl
    have s1 := sadd (a := bn [64]) (b := atL e.place) (by simp [LIM, bn]; omega)
    refine zzc (c_placeText L Z e.place hpl) (by simp only [go_sem, rE, Pl.enc]) ?_
    simp only [bl_eq, go_sem, rE, s1]
    exact fin _ _ (bn [64] ++ atL e.place) (rfl) (by rw [hsay, if_neg k1, if_pos k2])
   ·have ho := okD_two d' ⟨h3, h6⟩ hk
    rw [h] at ho
    simp only [Eq.comm (a := true), Bool.and_eq_true] at ho
    have hq : shE F e = .iface F.T_i_exprTwo (.agg (I e.kind :: (a.enc ++ b.enc))) := by
     rw [shE, if_neg k1, if_neg k2, if_pos ⟨h3, h6⟩, hk]
     exact if_pos (by rw [Bool.and_eq_true]; exact ho.1)
    rw [hq]
    have la := sayL_len d' a ha
    have lb := sayL_len d' b hb
    have ls := signL_len e.kind
    have s1 := sadd (a := signL e.kind) (b := bn [32]) (by simp [LIM, bn]; omega)
    have s2 := sadd (a := signL e.kind ++ bn [32]) (b := sayL a) (by simp [LIM, bn]; omega)
    have s3 := sadd (a := signL e.kind ++ bn [32] ++ sayL a) (b := bn [32]) (by simp [LIM, bn]; omega)
    have s4 := sadd (a := signL e.kind ++ bn [32] ++ sayL a ++ bn [32]) (b := sayL b) (by simp [LIM, bn]; omega)
    simp only [go_sem, rE, rA, rL, if_true, T.e2, T.e3, if_false, Ex.enc_eq a, Ex.enc_eq b, List.cons_append]
    intro b3 hb3
    have g3 := Heap.zzb (Heap.empty.set b1 (.cells [I e.kind, I e.num, S e.place.name, zze e.place.path, .sl 5 none (Ex.encs e.kids)])) b3 (.cells [I e.kind, I a.kind, I a.num, S a.place.name, zze a.place.path, .sl 5 none (Ex.encs a.kids), I b.kind, I b.num, S b.place.name, zze b.place.path, .sl 5 none (Ex.encs b.kids)])
    generalize ((Heap.empty.set b1 (.cells [I e.kind, I e.num, S e.place.name, zze e.place.path, .sl 5 none (Ex.encs e.kids)])).set b3 (.cells [I e.kind, I a.kind, I a.num, S a.place.name, zze a.place.path, .sl 5 none (Ex.encs a.kids), I b.kind, I b.num, S b.place.name, zze b.place.path, .sl 5 none (Ex.encs b.kids)])) = H3 at *
    refine zzc (c_twoText L e.kind ⟨h3, h6⟩) (rfl) ?_
    simp only [bl_eq, go_sem, rE, rA, rL, g3, s1, chkL, List.mem_cons, List.not_mem_nil, or_false, forall_eq, false_or, reduceCtorEq, not_false_eq_true, implies_true, true_and, not_true_eq_false, forall_eq_or_imp, and_true]
    have ka := hsk.2 a (by rw [hk]; simp)
    have kb := hsk.2 b (by rw [hk]; simp)
    refine zzc (ih a ha ka) (by simp only [go_sem, rE, Ex.enc_eq a]) ?_
    simp only [bl_eq, go_sem, rE, rA, rL, g3, s2, s3, chkL, List.mem_cons, List.not_mem_nil, or_false, forall_eq, false_or, reduceCtorEq, not_false_eq_true, implies_true, true_and, not_true_eq_false, forall_eq_or_imp, and_true]
    refine zzc (ih b hb kb) (by simp only [go_sem, rE, Ex.enc_eq b]) ?_
    simp only [bl_eq, go_sem, rE, s4]
    exact fin _ _ (signL e.kind ++ bn [32] ++ sayL a ++ bn [32] ++ sayL b) (rfl) (by rw [hsay, if_neg k1, if_neg k2, hk])
theorem c_typeWords (L : Lib P F) : ∀ (n : Nat), n ≤ 20 → ∀ (t : Ty), t.deepB n = true → Pure1 P F.i_typeWords [.agg t.enc] (Tx (typL t)) := by
 intro n
 induction n with
 | zero => intro _ t ht; cases t; simp [Ty.deepB] at ht
 | succ n ih =>
   rintro hn ⟨ks⟩ ht
   have ih := ih (by omega)
   have hlen := fun t h => typL_len n t h
   have hp : 2 ^ (n + 1) ≤ 2 ^ 21 := Nat.pow_le_pow_right (by omega) (by omega)
   have hnum := c_typeIsNum L (.mk ks)
   simp only [Ty.deepB, Ty.kids, Bool.and_eq_true, List.all_eq_true, decide_eq_true_eq] at ht
   obtain ⟨h1, h2⟩ := ht
   refine L.i_typeWords (by simp [x_i_typeWords]) ?_
   rw [typL_eq]
   simp only [x_i_typeWords, go_sem, rE, Ty.enc]
   intro b1 hb1
   have g1 := Heap.zzb Heap.empty b1 (.cells [.sl 1 none (Ty.encs ks)])
   generalize (Heap.empty.set b1 (.cells [.sl 1 none (Ty.encs ks)])) = H1 at *
   refine zzc hnum (by simp only [go_sem, rE, Ty.enc]) ?_
   simp only [Ty.kids]
   rcases ks with _ | ⟨a, _ | ⟨b, l⟩⟩
   ·simp only [go_sem, rE, decide_true]
    exact zzd (.refl _) (Heap.zzf _) ⟨rfl, rfl⟩
   ·simp at h1
   ·have hl2 : l = [] := by simp at h1; exact h1
    subst hl2
    have l1 := hlen a (h2 a (by simp))
    have l2 := hlen b (h2 b (by simp))
    have hia := ih a (h2 a (by simp))
    have hib := ih b (h2 b (by simp))
    have ea : (Ty.encs [a, b])[0]? = some [.sl 1 none (Ty.encs a.kids)] := by simp [Ty.encs, Ty.enc_eq]
    have eb : (Ty.encs [a, b])[1]? = some [.sl 1 none (Ty.encs b.kids)] := by simp [Ty.encs, Ty.enc_eq]
    rw [Ty.enc_eq] at hia hib
    have s1 := sadd (a := bn [40]) (b := typL a) (by simp [LIM, bn]; omega)
    have s2 := sadd (a := bn [40] ++ typL a) (b := bn [44]) (by simp [LIM, bn]; omega)
    have s3 := sadd (a := bn [40] ++ typL a ++ bn [44]) (b := typL b) (by simp [LIM, bn]; omega)
    have s4 := sadd (a := bn [40] ++ typL a ++ bn [44] ++ typL b) (b := bn [41]) (by simp [LIM, bn]; omega)
    simp only [go_sem, rE, rA, rL, show ¬ (2 : Nat) = 0 by decide, decide_false, g1, Int.le_refl, Int.toNat_zero, ea]
    refine zzc hia (rfl) ?_
    simp only [bl_eq, go_sem, rE, rA, rL, s1, s2, g1, Int.reduceLE, Int.reduceToNat, eb, chkL, List.mem_cons, List.not_mem_nil, or_false, forall_eq, false_or, reduceCtorEq, not_false_eq_true, implies_true, true_and]
    refine zzc hib (rfl) ?_
    simp only [bl_eq, go_sem, rE, s3, s4]
    exact zzd (.refl _) (Heap.zzf _) ⟨rfl, rfl⟩
end
end Go.Xl
namespace Go.Xl
open Nat renaming reduceEqDiff → rE, reduceAdd → rA, reduceLeDiff → rL
theorem Bld.mem {F : Ids} {H : Heap} {b : Nat} {l : List UInt8} {x : AC} (h : Bld F H b l x) {d : Nat} (hd : bldBlk b x d) : ∃ t cs, H.get d = some (.typed t cs) := by
 rcases hd with rfl | ⟨n, c, rfl⟩
 ·obtain ⟨p, -, hp⟩ := h.obj; exact ⟨_, _, hp⟩
 ·rcases h.row with ⟨e, -⟩ | ⟨g, c', cs, e, -, hg, -⟩
  ·simp at e
  ·simp at e; obtain ⟨rfl, -⟩ := e; exact ⟨_, _, hg⟩
theorem Bld.mono {F : Ids} {H H' : Heap} {b : Nat} {l : List UInt8} {x : AC} (h : Bld F H b l x) (hk : ∀ d, bldBlk b x d → H'.get d = H.get d) : Bld F H' b l x := by
 obtain ⟨p, hp, hb⟩ := h.obj
 refine ⟨⟨p, hp, by rw [hk b (.inl rfl)]; exact hb⟩, ?_⟩
 rcases h.row with h | ⟨g, c, cs, rfl, h1, h2, h3⟩
 ·exact .inl h
 ·exact .inr ⟨g, c, cs, rfl, h1, by rw [hk g (.inr ⟨_, _, rfl⟩)]; exact h2, h3⟩
theorem Bld.set {F : Ids} {H : Heap} {b : Nat} {l : List UInt8} {x : AC} (h : Bld F H b l x) {d : Nat} (hd : H.get d = none ∨ (∃ cs, H.get d = some (.cells cs)) ∨ ∃ n m, H.get d = some (.tail n m)) (o : HObj) : Bld F (H.set d o) b l x :=
 h.mono fun e he => Heap.zza _ _ (by
  rintro rfl
  obtain ⟨t, cs, hm⟩ := h.mem he
  rw [hm] at hd
  rcases hd with hd | ⟨cs', hd⟩ | ⟨n, m, hd⟩ <;> simp at hd)
theorem Bld.new {F : Ids} {H : Heap} {b : Nat} {l : List UInt8} {x : AC} (h : Bld F H b l x) {d : Nat} (hd : H.get d = none) (o : HObj) : Bld F (H.set d o) b l x := h.set (.inl hd) o
theorem Bld.only {F : Ids} {H : Heap} {b : Nat} {l : List UInt8} {x : AC} (h : Bld F H b l x) : Bld F (H.only (bldBlk b x)) b l x := h.mono fun d hd => Heap.xxf hd
theorem only_blk {H : Heap} {S : Nat → Prop} : ∀ d, (H.only S).get d ≠ none → S d := fun d hd => by
 by_cases h : S d
 ·exact h
 ·exact absurd (Heap.only_none h) hd
theorem bld_live (F : Ids) (b : Nat) (l' : List UInt8) (hl : l'.length ≤ 2 ^ 40) (Hf : Heap) (hb : Hf.get b ≠ none) :
 Live (fun q H' => ∃ x', Bld F H' b l' x' ∧ ∀ d, H'.get d ≠ none → bldBlk b x' d) Hf := by
 intro N
 have hg : N + b + 1 ≠ b := by omega
 refine ⟨.junk, (one b (.typed F.T_strings_Builder [.ptr b 0, .lit (.slice (some ⟨N + b + 1, 0, none⟩) l'.length l'.length)])).set (N + b + 1) (.typed F.T_uint8 (l'.map byteC)), ⟨_, ⟨⟨_, .inr rfl, ?_⟩, .inr ⟨N + b + 1, l'.length, l'.map byteC, rfl, hg, Heap.zzb _ _ _, Nat.le_refl _, by simp only [maxLen]; omega, by simp, by rw [List.take_of_length_le (by simp)]⟩⟩, ?_⟩, ?_⟩
 ·rw [Heap.zza _ _ (Ne.symm hg)]; exact yyh _ _
 ·intro d hd
  by_cases e : d = N + b + 1
  ·subst e; exact .inr ⟨_, _, rfl⟩
  ·rw [Heap.zza _ _ e] at hd
   by_cases e2 : d = b
   ·exact .inl e2
   ·rw [get_one_ne _ e2] at hd; simp at hd
 ·intro d hd hn
  by_cases e : d = N + b + 1
  ·omega
  ·rw [Heap.zza _ _ e] at hd
   by_cases e2 : d = b
   ·subst e2; exact absurd hn hb
   ·rw [get_one_ne _ e2] at hd; simp at hd
section
variable {P : Program} {F : Ids} {dr : Bool} {K : Env → Heap → Prop} {xs : List XOper} {E : Env} {H : Heap} {f : Fps}
theorem run_bld {l0 : Lds} {i : Nat} {g : FuncId} {args : List XArg} {d : Option Nat} {as as' : List AC} {b : Nat} {l l' : List UInt8} {x : AC} (hc : BldC P F g as b l l') (hB : Bld F H b l x) (ha : args.map (XArg.ev E) = as') (hle : LeA as' as) (hl : l'.length ≤ 2 ^ 40)
 (h : ∀ q H1 x' fp, Bld F H1 b l' x' → (∀ e, H.get e ≠ none → ¬ bldBlk b x e → H1.get e = H.get e) → (∀ e, bldBlk b x' e → bldBlk b x e ∨ H.get e = none) → (∀ e, H1.get e ≠ none → H.get e ≠ none ∨ bldBlk b x' e) → rrun P dr K xs (E.put d q) H1 l0 ((i, fp) :: f)) :
 rrun P dr K (⟨i, d, none, .eff (.call g args), []⟩ :: xs) E H l0 f := by
 refine run_callS (bldBlk b x) (hc _ x hB.only only_blk) ha hle (fun _ => bld_live F b l' hl _ (by rw [Heap.xxf (.inl rfl)]; obtain ⟨t, cs, hm⟩ := hB.mem (.inl rfl); rw [hm]; simp)) trivial ?_
 rintro q H' H1 ⟨x', hB', ho⟩ hsub hafter hnew hrest
 refine h q H1 x' _ (hB'.mono fun e he => ?_) (fun e he hn => hafter.out e hn he) (fun e he => hnew e ?_) (fun e he => ?_)
 ·obtain ⟨t, cs, hm⟩ := hB'.mem he
  rw [hm]; exact hsub _ _ hm
 ·obtain ⟨t, cs, hm⟩ := hB'.mem he
  rw [hm]; simp
 ·rcases hrest e he with h | h
  ·exact .inr (ho e h)
  ·exact .inl h.2
end
section
variable {P : Program} {F : Ids}
theorem post_bld {E : Env} {H : Heap} {b : Nat} {l' : List UInt8} {x : AC} (hB : Bld F H b l' x) : XFunc.post [] (fun q H' => ∃ x', Bld F H' b l' x' ∧ ∀ d, H'.get d ≠ none → bldBlk b x' d) .normal E H :=
 xxh (Heap.only_sub H (bldBlk b x)) ⟨x, hB.only, only_blk⟩
theorem c_progLine (L : Lib P F) (Z : Shf P F) (rows : List (List UInt8)) (tok : Option (Nat × Nat × Nat)) (b : Nat) (l : List UInt8) (hr : rows.length ≤ 2 ^ 20) (hl : l.length + (joinL rows).length + 1 ≤ 2 ^ 40) :
 BldC P F F.i_progLine [.ptr b 0, .sl 1 tok (rows.map fun r => [Tx r])] b l (l ++ joinL rows ++ bn [10]) := by
 intro H x hB ho
 refine L.i_progLine (by simp [x_i_progLine]) ?_
 simp only [x_i_progLine, go_sem, rE]
 refine zzc (Z.join rows tok hr (by omega)) (by simp only [bl_eq, go_sem, rE]) ?_
 refine run_bld (Z.ws b l (joinL rows) (by omega)) hB (rfl) (.refl _) (by rw [List.length_append]; omega) ?_
 rintro q H1 x1 fp hB1 - - -
 simp only [go_sem, rE]
 refine run_bld (Z.wb b (l ++ joinL rows) 10 (by rw [List.length_append]; omega)) hB1 (rfl) (.refl _) (by simp; omega) ?_
 rintro q H2 x2 fp hB2 - - -
 simp only [go_sem, rE]
 exact post_bld hB2
theorem joinL_cons (r : List UInt8) (rs : List (List UInt8)) : joinL (r :: rs) = r ++ rs.flatMap fun q => bn [32] ++ q := by
 induction rs generalizing r with
 | nil => simp [joinL]
 | cons q rs ih => rw [joinL, ih, List.flatMap_cons]; simp [List.append_assoc]
section
variable {dr : Bool} {K : Env → Heap → Prop} {xs : List XOper} {E : Env} {H : Heap} {f : Fps}
theorem xxj (L : Lib P F) (Z : Shf P F) {l0 : Lds} {i : Nat} {args : List XArg} {d : Option Nat} {b : Nat} {l : List UInt8} {x : AC} (rows : List (List UInt8)) (tok : Option (Nat × Nat × Nat)) (hB : Bld F H b l x)
 (ha : args.map (XArg.ev E) = [.ptr b 0, .sl 1 tok (rows.map fun r => [Tx r])]) (hr : rows.length ≤ 2 ^ 20) (hl : l.length + (joinL rows).length + 1 ≤ 2 ^ 40)
 (h : ∀ q H1 x' fp, Bld F H1 b (l ++ joinL rows ++ bn [10]) x' → (∀ e, H.get e ≠ none → ¬ bldBlk b x e → H1.get e = H.get e) → rrun P dr K xs (E.put d q) H1 l0 ((i, fp) :: f)) :
 rrun P dr K (⟨i, d, none, .eff (.call F.i_progLine args), []⟩ :: xs) E H l0 f :=
 run_bld (c_progLine L Z rows tok b l hr hl) hB ha (.refl _) (by simp [bn]; omega) fun q H1 x' fp h1 h2 _ _ => h q H1 x' fp h1 h2
theorem bld_keep {b d : Nat} {l : List UInt8} {x : AC} {H H1 : Heap} {cs : List AC} (hB : Bld F H b l x) (hk : ∀ e, H.get e ≠ none → ¬ bldBlk b x e → H1.get e = H.get e) (hd : H.get d = some (.cells cs)) : H1.get d = some (.cells cs) := by
 rw [hk d (by rw [hd]; simp) (fun h => by obtain ⟨t, cs', hm⟩ := hB.mem h; rw [hd] at hm; simp at hm)]; exact hd
end
end
end Go.Xl
