/- FnProgOne: a part of the proof. -/
import Derived.Test.YtjfbfchnfdhbpaaGreatDoorX2
set_option linter.unusedVariables false
set_option linter.unusedSimpArgs false
namespace Go.Xl
open Nat renaming reduceEqDiff → rE, reduceAdd → rA, reduceLeDiff → rL
noncomputable instance : DecidableEq Ty := fun _ _ => Classical.propDecidable _
noncomputable instance : DecidableEq Pl := fun _ _ => Classical.propDecidable _
theorem strEq (a b : ByteArray) : (a.toList == b.toList) = decide (a = b) := by
 rw [Bool.eq_iff_iff, beq_iff_eq, decide_eq_true_eq, ByteArray.toList_eq, ByteArray.toList_eq]
 exact ⟨fun h => ByteArray.ext (Array.toList_inj.mp h), fun h => by rw [h]⟩
@[go_sem] theorem strBin_eql (a b : ByteArray) : strBin .eql a b = some (B (decide (a = b))) := by simp only [strBin, strEq]
@[go_sem] theorem strBin_neq (a b : ByteArray) : strBin .neq a b = some (B (!decide (a = b))) := by simp only [strBin, strEq]
theorem run_callP {P : Program} {dr : Bool} {K : Env → Heap → Prop} {xs : List XOper} {E : Env} {H : Heap} {l : Lds} {f : Fps} {i : Nat} {g : FuncId} {args : List XArg} {d : Option Nat} {inc : List Nat} {as as' : List AC} {r : AC}
 (hc : Pure1 P g as r) (ha : args.map (XArg.ev E) = as') (hl : LeA as' as)
 (h : rrun P dr K xs (E.put d r) H l ((i, fun b => False ∨ H.get b = none) :: f)) : rrun P dr K (⟨i, d, none, .eff (.call g args), inc⟩ :: xs) E H l f :=
 zzc (hc.weaken hl (fun b => by simp)) ha h
section
variable {P : Program} {F : Ids}
theorem c_l6In (L : Lib P F) (n lo hi : Int) : Pure1 P F.s_l6In [I n, I lo, I hi] (B (decide (lo ≤ n ∧ n ≤ hi))) := by
 refine L.s_l6In (by simp [x_s_l6In]) ?_
 by_cases h1 : lo ≤ n
 ·simp only [x_s_l6In, go_sem, rE, rA, ge_iff_le, h1]
  exact post_slot ⟨rfl, rfl⟩
 ·simp only [x_s_l6In, go_sem, rE, rA, ge_iff_le, h1]
  exact post_slot ⟨by simp [put_same, h1], rfl⟩
theorem Ty.le_kids {D : Nat} {ks : List Ty} (h : Ty.le D (.mk ks)) : ks.length ≤ 3 ∧ ∀ k ∈ ks, ∃ D', D = D' + 1 ∧ k.le D' := by
 cases D with
 | zero => simp only [Ty.le] at h; subst h; simp
 | succ D => exact ⟨h.1, fun k hk => ⟨D, rfl, h.2 k hk⟩⟩
theorem Ty.enc_eq (t : Ty) : t.enc = [.sl 1 none (Ty.encs t.kids)] := by cases t; rfl
theorem encs_get {ks : List Ty} {k : Nat} (h : k < ks.length) : (Ty.encs ks)[k]? = some (ks[k]).enc := by simp [Ty.zzk, h]
@[go_sem] theorem encs_len {ks : List Ty} : (Ty.encs ks).length = ks.length := by simp [Ty.zzk]
theorem c_l1Same (L : Lib P F) : ∀ (D : Nat) (a b : Ty), a.le D → Pure1 P F.s_l1Same [.agg a.enc, .agg b.enc] (B (decide (a = b))) := by
 intro D
 induction D using Nat.strongRecOn with
 | _ D ih =>
   rintro ⟨as⟩ ⟨bs⟩ ha
   obtain ⟨hl, hk⟩ := Ty.le_kids ha
   refine L.s_l1Same (by simp [x_s_l1Same]) ?_
   simp only [x_s_l1Same, go_sem, rE, rA, Ty.enc]
   intro b1 hb1 b2 hb2
   have hne : b1 ≠ b2 := by rintro rfl; simp at hb2
   simp only [go_sem, rE, rA, hne]
   by_cases hlen : as.length = bs.length
   ·have hlen' : ((as.length : Int) != bs.length) = false := by simp [hlen]
    simp only [go_sem, rE, rA, hlen']
    refine yyc as.length (fun k E H => H = (Heap.empty.set b1 (.cells [.sl 1 none (Ty.encs as)])).set b2 (.cells [.sl 1 none (Ty.encs bs)]) ∧ E 2 = .ptr b1 0 ∧ E 3 = .ptr b2 0 ∧ E 5 = I k ∧
     ∀ i (h : i < as.length) (h' : i < bs.length), i < k → as[i] = bs[i]) (by simp [go_sem]) ?_
    rintro k E H hk' ⟨rfl, h2, h3, h5, hall⟩
    simp only [go_sem, rE, rA, h2, h3, h5, hne]
    refine zzn (fun hlt => ?_) (fun hge => ?_)
    ·have hlt1 : k < as.length := by omega
     have hlt2 : k < bs.length := by omega
     have w1 := yya (n := (k : Int) + 1) (by omega) (by omega)
     obtain ⟨D', rfl, hD'⟩ := hk _ (List.getElem_mem hlt1)
     have hg1 := encs_get hlt1
     have hg2 := encs_get hlt2
     have hih := ih D' (by omega) as[k] bs[k] hD'
     rw [Ty.enc_eq] at hg1 hg2
     rw [Ty.enc_eq, Ty.enc_eq bs[k]] at hih
     simp only [go_sem, rE, rA, h2, h3, h5, hne, hg1, hg2]
     refine zzc hih (rfl) ?_
     simp only [go_sem, rE, rA, h2, h3, h5, hne]
     by_cases heq : as[k] = bs[k]
     ·simp only [heq, go_sem, rE, rA, h2, h3, h5, hne, w1]
      refine ⟨hlt1, _, Heap.zzm _, rfl, by simp, fun i h h' hi => ?_⟩
      by_cases hik : i = k
      ·subst hik; exact heq
      ·exact hall i h h' (by omega)
     ·simp only [heq, go_sem, rE, rA, h2, h3, h5, hne, w1]
      refine zzd (.refl _) (Heap.zzf _) ⟨?_, rfl⟩
      have : ¬ Ty.mk as = .mk bs := by rintro h; injection h with h; subst h; exact heq rfl
      simp only [go_sem, this]
    ·simp only [go_sem, rE, rA]
     refine zzd (.refl _) (Heap.zzf _) ⟨?_, rfl⟩
     have : Ty.mk as = .mk bs := by
      congr 1
      exact List.ext_getElem hlen fun i h h' => hall i h h' (by omega)
     simp only [go_sem, this]
   ·have hlen' : ((as.length : Int) != bs.length) = true := bne_iff_ne.2 (by omega)
    simp only [go_sem, rE, rA, hlen']
    refine zzd (.refl _) (Heap.zzf _) ⟨?_, rfl⟩
    have : ¬ Ty.mk as = .mk bs := by rintro h; injection h with h; exact hlen (by rw [h])
    simp only [go_sem, this]
def Ty.deepB : Nat → Ty → Bool
 | 0, _ => false
 | n + 1, .mk ks => (decide (ks.length = 0) || decide (ks.length = 2)) && ks.all (Ty.deepB n)
theorem c_l1Deep (L : Lib P F) : ∀ (n : Nat) (t : Ty), n ≤ 100 → Pure1 P F.s_l1Deep [.agg t.enc, I n] (B (t.deepB n)) := by
 intro n
 induction n with
 | zero =>
   rintro ⟨ks⟩ -
   refine L.s_l1Deep (by simp [x_s_l1Deep]) ?_
   simp only [x_s_l1Deep, go_sem, rE, Ty.enc]
   intro b1 hb1
   simp only [go_sem, rE, Int.natCast_zero, show (0 : Int) < 1 from by decide]
   exact zzd (.refl _) (Heap.zzf _) ⟨by simp only [go_sem, Ty.deepB], rfl⟩
 | succ n ih =>
   rintro ⟨ks⟩ hn
   refine L.s_l1Deep (by simp [x_s_l1Deep]) ?_
   simp only [x_s_l1Deep, go_sem, rE, Ty.enc]
   intro b1 hb1
   have h1 : ¬ ((n + 1 : Nat) : Int) < 1 := by omega
   simp only [go_sem, rE, h1]
   by_cases hl0 : ks.length = 0
   ·have hks : ks = [] := List.eq_nil_of_length_eq_zero hl0
    subst hks
    simp only [go_sem, rE, Int.natCast_zero, bne_self_eq_false]
    refine yyc 0 (fun k E H => E 2 = .ptr b1 0 ∧ H.get b1 = some (.cells [.sl 1 none []]) ∧ E 5 = I k) (by simp [go_sem, Ty.encs]) ?_
    rintro k E H hk ⟨h2, hg, h5⟩
    have : k = 0 := by omega
    subst this
    simp only [go_sem, rE, h2, hg, h5, Int.natCast_zero, Int.lt_irrefl]
    exact zzd (.refl _) (Heap.zzf _) ⟨by simp [put_same, Ty.deepB], rfl⟩
   ·have hb0 : ((ks.length : Int) != 0) = true := bne_iff_ne.2 (by omega)
    by_cases hl2 : ks.length = 2
    ·have hb2 : ((ks.length : Int) != 2) = false := by simp [hl2]
     simp only [go_sem, rE, hb0, hb2]
     refine yyc ks.length (fun k E H => E 1 = I (n + 1 : Nat) ∧ E 2 = .ptr b1 0 ∧ H.get b1 = some (.cells [.sl 1 none (Ty.encs ks)]) ∧ E 5 = I k ∧ ∀ i (h : i < ks.length), i < k → (ks[i]).deepB n = true) (by simp [go_sem]) ?_
     rintro k E H hk ⟨h1', h2, hg, h5, hall⟩
     simp only [go_sem, rE, h2, hg, h5]
     refine zzn (fun hlt => ?_) (fun hge => ?_)
     ·have hlt1 : k < ks.length := by omega
      have w1 := yya (n := (k : Int) + 1) (by omega) (by omega)
      have w2 : IntKind.i64.wrap (((n + 1 : Nat) : Int) - 1) = n := by rw [yya (by omega) (by omega)]; omega
      have hih := ih ks[k] (by omega)
      have hg1 := encs_get hlt1
      rw [Ty.enc_eq] at hg1 hih
      simp only [go_sem, rE, rA, h1', h2, hg, h5, hg1, w2]
      refine zzc hih (rfl) ?_
      simp only [go_sem, rE, h1', h2, hg, h5]
      refine wcond_bool (fun hd => ?_) (fun hd => ?_)
      ·simp only [Bool.not_eq_true'] at hd
       simp only [go_sem, rE]
       refine zzd (.refl _) (Heap.zzf _) ⟨?_, rfl⟩
       have : Ty.deepB (n + 1) (.mk ks) = false := by
        simp only [Ty.deepB, Bool.and_eq_false_iff, List.all_eq_false]
        exact .inr ⟨ks[k], List.getElem_mem _, by simp [hd]⟩
       simp only [go_sem, this]
      ·simp only [Bool.not_eq_false'] at hd
       simp only [go_sem, rE, h1', h2, hg, h5, w1]
       refine ⟨hlt1, H, Heap.zzm _, hg, by simp, fun i h hi => ?_⟩
       by_cases hik : i = k
       ·subst hik; exact hd
       ·exact hall i h (by omega)
     ·simp only [go_sem, rE]
      refine zzd (.refl _) (Heap.zzf _) ⟨?_, rfl⟩
      have : Ty.deepB (n + 1) (.mk ks) = true := by
       simp only [Ty.deepB, hl2, Bool.and_eq_true, List.all_eq_true]
       refine ⟨by simp, fun x hx => ?_⟩
       obtain ⟨i, hi, rfl⟩ := List.mem_iff_getElem.1 hx
       exact hall i hi (by omega)
      simp only [go_sem, this]
    ·have hb2 : ((ks.length : Int) != 2) = true := bne_iff_ne.2 (by omega)
     simp only [go_sem, rE, hb0, hb2]
     exact zzd (.refl _) (Heap.zzf _) ⟨by simp [put_same, Ty.deepB, hl0, hl2], rfl⟩
def Ty.okB (t : Ty) : Bool := t.deepB 4
theorem c_TypeOk (L : Lib P F) (t : Ty) : Pure1 P F.s_TypeOk [.agg t.enc] (B t.okB) := by
 refine L.s_TypeOk (by simp [x_s_TypeOk]) ?_
 have h := c_l1Deep L 4 t (by omega)
 rw [Ty.enc_eq] at h ⊢
 simp only [x_s_TypeOk, go_sem, rE]
 intro b1 hb1
 refine zzc h (rfl) ?_
 simp only [go_sem, rE]
 exact zzd (.refl _) (Heap.zzf _) ⟨by simp only [go_sem, Ty.okB], rfl⟩
theorem c_l3Among (L : Lib P F) (ns : List Int) (n : Int) (hl : ns.length ≤ 2 ^ 40) : Pure1 P F.s_l3Among [.sl 1 none (ns.map fun i => [I i]), I n] (B (ns.contains n)) := by
 refine L.s_l3Among (by simp [x_s_l3Among]) ?_
 simp only [x_s_l3Among, go_sem, rE]
 refine yyc ns.length (fun k E H => E 0 = .sl 1 none (ns.map fun i => [I i]) ∧ E 1 = I n ∧ E 5 = I k ∧ ∀ i (h : i < ns.length), i < k → ns[i] ≠ n) (by simp [go_sem]) ?_
 rintro k E H hk ⟨h0, h1, h5, hall⟩
 simp only [go_sem, rE, h0, h1, h5, List.length_map]
 refine zzn (fun hlt => ?_) (fun hge => ?_)
 ·have hlt1 : k < ns.length := by omega
  have w1 := yya (n := (k : Int) + 1) (by omega) (by omega)
  have hg : (ns.map fun i => [I i])[k]? = some [I ns[k]] := by simp [hlt1]
  simp only [go_sem, rE, h0, h1, h5, hg]
  refine wcond_bool (fun hd => ?_) (fun hd => ?_)
  ·simp only [go_sem, rE]
   refine zzd (.refl _) (Heap.zzf _) ⟨?_, rfl⟩
   have : ns.contains n = true := by rw [List.contains_iff_mem]; rw [beq_iff_eq] at hd; rw [← hd]; exact List.getElem_mem _
   simp only [go_sem, this]
  ·simp only [go_sem, rE, h0, h1, h5, w1]
   refine ⟨hlt1, H, Heap.zzm _, by simp, fun i h hi => ?_⟩
   by_cases hik : i = k
   ·subst hik; simpa using hd
   ·exact hall i h (by omega)
 ·simp only [go_sem, rE]
  refine zzd (.refl _) (Heap.zzf _) ⟨?_, rfl⟩
  have : ns.contains n = false := by
   rw [← Bool.not_eq_true, List.contains_iff_mem]
   intro hm
   obtain ⟨i, hi, he⟩ := List.mem_iff_getElem.1 hm
   exact hall i hi (by omega) he
  simp only [go_sem, this]
theorem c_l3Loans (L : Lib P F) (lent : Bool) (es : List (List AC)) (sz : Nat) : Pure1 P F.s_l3Loans [B lent, .sl sz none es] (.sl sz none (if lent then es else [])) := by
 refine L.s_l3Loans (by simp [x_s_l3Loans]) ?_
 cases lent
 ·simp only [x_s_l3Loans, go_sem, rE]
  exact zzd (by simpa [put_same] using Le.nil sz) (Heap.zzf _) ⟨rfl, rfl⟩
 ·simp only [x_s_l3Loans, go_sem, rE]
  exact zzd (by simpa [put_same] using Le.refl _) (Heap.zzf _) ⟨rfl, rfl⟩
def Pl.meet (a b : Pl) : Bool := decide (a.name = b.name) && (a.path.zip b.path).all fun p => decide (p.1 = p.2)
theorem path_get {p : List Int} {k : Nat} (h : k < p.length) : (p.map fun i => [I i])[k]? = some [I p[k]] := by simp [h]
theorem c_l3Meet (L : Lib P F) (a b : Pl) (ha : a.path.length ≤ 2 ^ 40) : Pure1 P F.s_l3Meet [.agg a.enc, .agg b.enc] (B (a.meet b)) := by
 refine L.s_l3Meet (by simp [x_s_l3Meet]) ?_
 simp only [x_s_l3Meet, go_sem, rE, Pl.enc, zze]
 intro b1 hb1 b2 hb2
 have hne : b1 ≠ b2 := by rintro rfl; simp at hb2
 simp only [go_sem, rE, rA, hne]
 by_cases hn : a.name = b.name
 ·simp only [go_sem, rE, hn]
  refine yyc a.path.length (fun k E H => H.get b1 = some (.cells [S b.name, .sl 1 none (a.path.map fun i => [I i])]) ∧ H.get b2 = some (.cells [S b.name, .sl 1 none (b.path.map fun i => [I i])]) ∧ E 2 = .ptr b1 0 ∧ E 3 = .ptr b2 0 ∧ E 5 = I k ∧
   ∀ i (h : i < a.path.length) (h' : i < b.path.length), i < k → a.path[i] = b.path[i]) (by simp [go_sem, hne]) ?_
  rintro k E H hk ⟨g1, g2, h2, h3, h5, hall⟩
  have fin : a.path.length ≤ k ∨ b.path.length ≤ k → Pl.meet a b = true := by
   intro hle
   simp only [Pl.meet, hn, decide_true, Bool.true_and, List.all_eq_true, decide_eq_true_eq]
   intro p hp
   obtain ⟨i, hi, rfl⟩ := List.mem_iff_getElem.1 hp
   simp only [List.length_zip] at hi
   simp only [List.getElem_zip]
   exact hall i (by omega) (by omega) (by omega)
  simp only [go_sem, rE, rA, h2, h3, h5, g1, g2, List.length_map]
  by_cases hlt1 : k < a.path.length
  ·have hlt1' : (k : Int) < a.path.length := by omega
   simp only [go_sem, rE, rA, h2, h3, h5, g1, g2, hlt1', List.length_map]
   refine zzn (fun hlt => ?_) (fun hge => ?_)
   ·have hlt2 : k < b.path.length := by omega
    have w1 := yya (n := (k : Int) + 1) (by omega) (by omega)
    simp only [go_sem, rE, rA, h2, h3, h5, g1, g2, path_get hlt1, path_get hlt2]
    by_cases he : a.path[k] = b.path[k]
    ·have he' : (a.path[k] != b.path[k]) = false := by simp [he]
     simp only [go_sem, rE, he', h2, h3, h5, w1]
     refine ⟨hlt1, H, Heap.zzm _, g1, g2, by simp, fun i h h' hi => ?_⟩
     by_cases hik : i = k
     ·subst hik; exact he
     ·exact hall i h h' (by omega)
    ·have he' : (a.path[k] != b.path[k]) = true := bne_iff_ne.2 he
     simp only [go_sem, rE, he']
     refine zzd (.refl _) (Heap.zzf _) ⟨?_, rfl⟩
     have : Pl.meet a b = false := by
      simp only [Pl.meet, Bool.and_eq_false_iff, List.all_eq_false]
      refine .inr ⟨(a.path[k], b.path[k]), ?_, by simpa using he⟩
      have hz : k < (a.path.zip b.path).length := by simp; omega
      have := List.getElem_mem hz
      simpa using this
     simp only [go_sem, this]
   ·simp only [go_sem, rE]
    exact zzd (.refl _) (Heap.zzf _) ⟨by simp only [go_sem, fin (.inr (by omega))], rfl⟩
  ·have hlt1' : ¬ (k : Int) < a.path.length := by omega
   simp only [go_sem, rE, hlt1']
   exact zzd (.refl _) (Heap.zzf _) ⟨by simp only [go_sem, fin (.inl (by omega))], rfl⟩
 ·simp only [go_sem, rE, hn]
  exact zzd (.refl _) (Heap.zzf _) ⟨by simp [put_same, Pl.meet, hn], rfl⟩
theorem Ex.enc_eq (e : Ex) : e.enc = [I e.kind, I e.num, S e.place.name, zze e.place.path, .sl 5 none (Ex.encs e.kids)] := by cases e; rfl
theorem Fu.enc_eq (f : Fu) : f.enc = [S f.name, .sl 3 none (f.params.map Pa.enc), B f.lent, .sl 1 none (Ty.encs f.type.kids), .sl 15 none (St.encs f.body), I f.says.kind, I f.says.num, S f.says.place.name,
 zze f.says.place.path, .sl 5 none (Ex.encs f.says.kids), S f.gives.name, zze f.gives.path] := by
 simp only [Fu.enc, Ty.enc_eq, Ex.enc_eq, Pl.enc]; rfl
theorem St.enc_eq (s : St) : s.enc = [I s.kind, S s.name, S s.place.name, zze s.place.path, S s.other.name, zze s.other.path, I s.expr.kind, I s.expr.num, S s.expr.place.name, zze s.expr.place.path, .sl 5 none (Ex.encs s.expr.kids),
 S s.fn, .sl 8 none (s.args.map Ag.enc), .sl 15 none (St.encs s.thn), .sl 15 none (St.encs s.els)] := by
 obtain ⟨k, n, p, o, e, f, as, t, l⟩ := s
 simp only [St.enc, Ex.enc_eq]; rfl
theorem fu_get {fs : List Fu} {k : Nat} (h : k < fs.length) : (fs.map Fu.enc)[k]? = some fs[k].enc := by simp [h]
def fnAt (fs : List Fu) (name : ByteArray) (most : Nat) : Int := match (fs.take most).findIdx? fun f => decide (f.name = name) with
 | some i => i
 | none => -1
theorem c_l3Fn (L : Lib P F) (fs : List Fu) (name : ByteArray) (most : Nat) (hl : fs.length ≤ 2 ^ 40) (hm : most ≤ 2 ^ 40) : Pure1 P F.s_l3Fn [.agg (Pg.enc fs), S name, I most] (I (fnAt fs name most)) := by
 refine L.s_l3Fn (by simp [x_s_l3Fn]) ?_
 simp only [x_s_l3Fn, go_sem, rE, Pg.enc]
 intro b1 hb1
 refine yyc most (fun k E H => H.get b1 = some (.cells [.sl 12 none (fs.map Fu.enc)]) ∧ E 1 = S name ∧ E 2 = I most ∧ E 3 = .ptr b1 0 ∧ E 7 = I k ∧
  ∀ i (h : i < fs.length), i < k → fs[i].name ≠ name) (by simp [go_sem]) ?_
 rintro k E H hk ⟨g1, h1, h2, h3, h7, hall⟩
 have fin : most ≤ k ∨ fs.length ≤ k → fnAt fs name most = -1 := by
  intro hle
  have : (fs.take most).findIdx? (fun f => decide (f.name = name)) = none := by
   rw [List.findIdx?_eq_none_iff]
   intro x hx
   obtain ⟨i, hi, rfl⟩ := List.mem_iff_getElem.1 hx
   simp only [List.length_take] at hi
   simp only [List.getElem_take, decide_eq_false_iff_not]
   exact hall i (by omega) (by omega)
  simp only [fnAt, this]
 by_cases hlt1 : k < most
 ·have hlt1' : (k : Int) < most := by omega
  simp only [go_sem, rE, rA, h1, h2, h3, h7, g1, hlt1', List.length_map]
  refine zzn (fun hlt => ?_) (fun hge => ?_)
  ·have hlt2 : k < fs.length := by omega
   have w1 := yya (n := (k : Int) + 1) (by omega) (by omega)
   simp only [go_sem, rE, rA, h1, h2, h3, h7, g1, fu_get hlt2, Fu.enc_eq]
   by_cases he : fs[k].name = name
   ·simp only [go_sem, rE, he, h7]
    refine zzd (.refl _) (Heap.zzf _) ⟨?_, rfl⟩
    have : (fs.take most).findIdx? (fun f => decide (f.name = name)) = some k := by
     rw [List.findIdx?_eq_some_iff_getElem]
     refine ⟨by simp; omega, by simpa using he, fun j hj => ?_⟩
     simp only [List.getElem_take, decide_eq_true_eq]
     exact hall j (by omega) hj
    simp only [go_sem, fnAt, this]
   ·simp only [go_sem, rE, he, h1, h2, h3, h7, w1]
    refine ⟨hlt1, H, Heap.zzm _, g1, by simp, fun i h hi => ?_⟩
    by_cases hik : i = k
    ·subst hik; exact he
    ·exact hall i h (by omega)
  ·simp only [go_sem, rE]
   exact zzd (.refl _) (Heap.zzf _) ⟨by simp only [go_sem, fin (.inr (by omega))], rfl⟩
 ·have hlt1' : ¬ (k : Int) < most := by omega
  simp only [go_sem, rE, h1, h2, h7, hlt1']
  exact zzd (.refl _) (Heap.zzf _) ⟨by simp only [go_sem, fin (.inl (by omega))], rfl⟩
theorem encs_snoc (ks : List Ty) (k : Ty) : Ty.encs (ks ++ [k]) = Ty.encs ks ++ [k.enc] := by simp only [Ty.zzk, List.map_append, List.map_cons, List.map_nil]
theorem LeC.self_sl {sz : Nat} {x : AC} {es : List (List AC)} (h : Le x (.sl sz none es)) : LeC [x] [.sl sz none es] := ⟨⟨h, rfl⟩, trivial⟩
theorem c_l1Copy (L : Lib P F) : ∀ (D : Nat) (t : Ty), t.le D → Pure1 P F.s_l1Copy [.agg t.enc] (.agg t.enc) := by
 intro D
 induction D using Nat.strongRecOn with
 | _ D ih =>
   rintro ⟨ks⟩ ht
   obtain ⟨hl, hk⟩ := Ty.le_kids ht
   refine L.s_l1Copy (by simp [x_s_l1Copy]) ?_
   simp only [x_s_l1Copy, go_sem, rE, Ty.enc]
   intro b1 hb1 b2 hb2 b3 hb3
   have h12 : b1 ≠ b2 := by rintro rfl; simp at hb2
   have h23 : b2 ≠ b3 := by rintro rfl; simp at hb3
   have h13 : b1 ≠ b3 := by rintro rfl; rw [Heap.zza _ _ h12] at hb3; simp at hb3
   refine yyc ks.length (fun k E H => H.get b1 = some (.cells [.sl 1 none (Ty.encs ks)]) ∧ (∃ y, H.get b2 = some (.cells [y])) ∧ (∃ x, H.get b3 = some (.cells [x]) ∧ AppSt H 1 (Ty.encs (ks.take k)) x) ∧
    E 1 = .ptr b1 0 ∧ E 2 = .ptr b2 0 ∧ E 3 = .ptr b3 0 ∧ E 4 = I k) ⟨by simp [go_sem, h12, h13], ⟨_, by rw [Heap.zza _ _ h23, Heap.zzb]⟩, ⟨NIL, by simp, by simpa [Ty.encs] using AppSt.nil _ _⟩, by simp [go_sem]⟩ ?_
   rintro k E H hk' ⟨g1, ⟨y, g2⟩, ⟨x, g3, hx⟩, h1, h2, h3, h4⟩
   simp only [go_sem, rE, rA, h1, h2, h3, h4, g1]
   refine zzn (fun hlt => ?_) (fun hge => ?_)
   ·have hlt1 : k < ks.length := by omega
    have w1 := yya (n := (k : Int) + 1) (by omega) (by omega)
    have hg1 := encs_get hlt1
    obtain ⟨D', rfl, hD'⟩ := hk _ (List.getElem_mem hlt1)
    have hih := ih D' (by omega) _ hD'
    rw [Ty.enc_eq] at hg1 hih
    simp only [go_sem, rE, rA, h1, h2, h3, h4, g1, g3, hg1]
    refine zzc hih (rfl) ?_
    simp only [go_sem, rE, rA, List.replicate, List.flatten_cons, List.flatten_nil]
    refine run_appM (es := Ty.encs (ks.take k)) (ys := [ks[k].enc]) (by simp only [go_sem, rE]; exact hx) (by simp [go_sem, chunk, Ty.enc_eq]) (by simp [Ty.enc_eq]) (by simp [Ty.zzk]; omega) rfl ?_
    intro x' H' fp hx' hkeep
    have k1 := hkeep.1 _ _ g1
    have k2 := hkeep.1 _ _ g2
    have k3 := hkeep.1 _ _ g3
    simp only [go_sem, rE, rA, h1, h2, h3, h4, k3, hx'.one, w1]
    refine ⟨hlt1, _, Heap.zzm _, ?_, ⟨y, ?_⟩, ⟨x', Heap.zzb _ _ _, ?_⟩, ?_⟩
    ·rw [Heap.zza _ _ h13]; exact k1
    ·rw [Heap.zza _ _ h23]; exact k2
    ·have := hx'.set k3 (.cells [x'])
     rwa [show Ty.encs (ks.take k) ++ [ks[k].enc] = Ty.encs (ks.take (k + 1)) from by rw [List.take_succ_eq_append_getElem hlt1, encs_snoc]] at this
    ·simp
   ·have hkk : k = ks.length := by omega
    subst hkk
    rw [List.take_length] at hx
    simp only [go_sem, rE, rA, h1, h2, h3, g2, g3]
    exact yym (off := 0) (h2) (Heap.zzb _ _ _) rfl (.agg (.self_sl hx.le)) (Heap.zzf _) ⟨rfl, rfl⟩
def Ty.at : Ty → List Int → Option Ty
 | t, [] => some t
 | .mk ks, i :: p => if 0 ≤ i then (ks[i.toNat]?).bind fun u => Ty.at u p else none
def Ty.atOk (t : Ty) (p : List Int) : Option Ty := if t.okB then t.at p else none
def tyRes : Option Ty → AC
 | some u => .tup [.agg u.enc, B true]
 | none => .tup [.agg (Ty.mk []).enc, B false]
theorem resVal_two {E : Env} {H : Heap} {a b : XRes} {x y : AC} (ha : a.val E H = some x) (hb : b.val E H = some y) : resVal E H [a, b] = some (.tup [x, y]) := by
 simp only [resVal, resVals, ha, hb]
theorem post_cell2 {E : Env} {H : Heap} {n m r off : Nat} {g : Option Nat} {cs : List AC} {q q1 : AC} {R : AC → Heap → Prop} (hE : E n = .ptr r off) (hg : H.get r = some (.cells cs)) (hq : partA g cs off = some q)
 (hl : Le q q1) {H' : Heap} (hs : H'.sub H) (h : R (.tup [q1, E m]) H') : XFunc.post [.cell n g, .slot m] R .ret E H :=
 ⟨.tup [q, E m], resVal_two (by simp only [XRes.val, hE, hg, hq]) rfl, _, H', .of (Le.tup (show LeA [q, E m] [q1, E m] from ⟨hl, .refl _, trivial⟩)) hs, h⟩
theorem c_TypeAt (L : Lib P F) (D : Nat) (t : Ty) (ht : t.le D) (p : List Int) (hp : p.length ≤ 2 ^ 40) : Pure1 P F.s_TypeAt [.agg t.enc, zze p] (tyRes (t.atOk p)) := by
 refine L.s_TypeAt (by simp [x_s_TypeAt]) ?_
 have hok := c_TypeOk L t
 rw [Ty.enc_eq] at hok ⊢
 simp only [x_s_TypeAt, go_sem, rE, zze]
 intro b1 hb1 b2 hb2
 have h12 : b1 ≠ b2 := by rintro rfl; simp at hb2
 have h21 : b2 ≠ b1 := Ne.symm h12
 simp only [go_sem, rE, rA, h12]
 refine zzc hok (rfl) ?_
 simp only [go_sem, rE, rA]
 cases hb : t.okB
 ·simp only [go_sem, rE, rA]
  exact post_cell2 (off := 0) (rfl) (Heap.zzb _ _ _) rfl le_ty0 (Heap.zzf _) ⟨by simp only [go_sem, rE, Ty.atOk, hb, tyRes], rfl⟩
 ·simp only [go_sem, rE, rA]
  refine yyc p.length (fun k E H => (∃ u D, u.le D ∧ H.get b1 = some (.cells [.sl 1 none (Ty.encs u.kids)]) ∧ t.at p = u.at (p.drop k)) ∧ (∃ y, H.get b2 = some (.cells [y])) ∧ E 1 = .sl 1 none (p.map fun i => [I i]) ∧
   E 2 = .ptr b1 0 ∧ E 4 = .ptr b2 0 ∧ E 6 = I k) ⟨⟨t, D, ht, by simp [go_sem, h12], by simp⟩, ⟨_, by rw [Heap.zzb]⟩, by simp [go_sem]⟩ ?_
  rintro k E H hk ⟨⟨u, D', hu, g1, hat⟩, ⟨y, g2⟩, h1, h2, h4, h6⟩
  simp only [go_sem, rE, rA, h1, h2, h4, h6, List.length_map]
  refine zzn (fun hlt => ?_) (fun hge => ?_)
  ·have hlt1 : k < p.length := by omega
   have w1 := yya (n := (k : Int) + 1) (by omega) (by omega)
   obtain ⟨us⟩ := u
   obtain ⟨hl, hsub⟩ := Ty.le_kids hu
   have w2 := yya (n := (us.length : Int) - 1) (by omega) (by omega)
   simp only [Ty.kids] at g1
   simp only [go_sem, rE, rA, h1, h2, h4, h6, g1, path_get hlt1, w2]
   refine zzc (c_l6In L p[k] 0 (us.length - 1)) (rfl) ?_
   simp only [go_sem, rE, rA, h1, h2, h4, h6, g1]
   rw [List.drop_eq_getElem_cons hlt1] at hat
   by_cases hin : 0 ≤ p[k] ∧ p[k] ≤ (us.length : Int) - 1
   ·have hin' : p[k].toNat < us.length := by omega
    have hge0 : 0 ≤ p[k] := hin.1
    obtain ⟨D'', -, hD''⟩ := hsub _ (List.getElem_mem hin')
    have hg := encs_get hin'
    rw [Ty.enc_eq] at hg
    simp only [go_sem, rE, rA, hin, hge0, h1, h2, h4, h6, g1, path_get hlt1, hg, w1]
    refine ⟨hlt1, _, Heap.zzm _, ⟨us[p[k].toNat], D'', hD'', Heap.zzb _ _ _, ?_⟩, ⟨y, ?_⟩, by simp⟩
    ·rw [hat]; simp only [Ty.at, hge0, if_true, List.getElem?_eq_getElem hin', Option.bind_some]
    ·rw [Heap.zza _ _ h21]; exact g2
   ·simp only [go_sem, rE, rA, hin, h1, h2, h4, h6, g2]
    have hn : t.at p = none := by
     rw [hat]; simp only [Ty.at]
     split
     ·rw [List.getElem?_eq_none (by omega)]; rfl
     ·rfl
    exact post_cell2 (off := 0) (h4) (Heap.zzb _ _ _) rfl le_ty0 (Heap.zzf _) ⟨by simp only [go_sem, rE, Ty.atOk, hb, hn, tyRes], rfl⟩
  ·have hkk : k = p.length := by omega
   subst hkk
   rw [List.drop_length] at hat
   simp only [Ty.at] at hat
   have hc := c_l1Copy L D' u hu
   rw [Ty.enc_eq] at hc
   simp only [go_sem, rE, rA, h1, h2, h4, h6, g1, g2]
   refine zzc hc (rfl) ?_
   simp only [go_sem, rE, rA, h1, h2, h4, h6, g1, g2]
   exact post_cell2 (off := 0) (h4) (Heap.zzb _ _ _) rfl (.refl _) (Heap.zzf _) ⟨by simp only [go_sem, rE, Ty.atOk, hb, hat, tyRes, Ty.enc_eq], rfl⟩
end
end Go.Xl
namespace Go.Xl
open Nat renaming reduceEqDiff → rE, reduceAdd → rA, reduceLeDiff → rL
structure Vr where
 name : ByteArray
 lent : Bool
 param : Bool
 type : Ty
 loans : List Pl
 dead : Bool
 deriving Inhabited
def Vr.enc (v : Vr) : List AC := [S v.name, B v.lent, B v.param, .sl 1 none (Ty.encs v.type.kids), .sl 2 none (v.loans.map Pl.enc), B v.dead]
structure En where
 p : Pg
 fn : Nat
 vars : List Vr
 names : List ByteArray
 code : Int
 deriving Inhabited
def EnvO (p : Pg) (fn : Nat) (VS NS : AC) (code : Int) : HObj := .cells [.sl 12 none (p.map Fu.enc), I fn, VS, NS, I code]
def VarsAt (H : Heap) (vs : List Vr) (VS : AC) : Prop := RowAt H 6 (vs.map Vr.enc) VS
def xxe (ns : List ByteArray) : List (List AC) := ns.map fun s => [S s]
structure EnvAt (H : Heap) (e : Nat) (v : En) (VS NS : AC) : Prop where
 obj : H.get e = some (EnvO v.p v.fn VS NS v.code)
 vars : VarsAt H v.vars VS
 names : AppSt H 1 (xxe v.names) NS
def failC (code c : Int) : Int := if code = 0 then c else code
theorem xxh {E : Env} {H H' : Heap} {R : AC → Heap → Prop} (hs : H'.sub H) (h : R (.tup []) H') : XFunc.post [] R .normal E H := ⟨.tup [], rfl, _, H', .of (.refl _) hs, h⟩
theorem post_unit_ret {E : Env} {H H' : Heap} {R : AC → Heap → Prop} (hs : H'.sub H) (h : R (.tup []) H') : XFunc.post [] R .ret E H := ⟨.tup [], rfl, _, H', .of (.refl _) hs, h⟩
section
variable {P : Program} {F : Ids}
theorem c_fail (L : Lib P F) (e : Nat) (p : Pg) (fn : Nat) (VS NS : AC) (code c : Int) :
 ACalls P F.s_l3Env_fail [.ptr e 0, I c] (one e (EnvO p fn VS NS code)) fun q H' => ∃ o', (q = .tup [] ∧ o' = EnvO p fn VS NS (failC code c)) ∧ H' = one e o' := by
 refine L.s_l3Env_fail (by simp [x_s_l3Env_fail]) ?_
 simp only [x_s_l3Env_fail, go_sem, rE, yyh, EnvO]
 by_cases h : code = 0
 ·subst h
  simp only [go_sem, rE, yyh, set_one, EnvO, beq_self_eq_true, rA, rL]
  exact xxh (Heap.zzm _) ⟨_, ⟨rfl, rfl⟩, rfl⟩
 ·have h' : (code == 0) = false := by simpa using h
  simp only [go_sem, rE, yyh, set_one, EnvO, h']
  exact xxh (Heap.zzm _) ⟨_, ⟨rfl, by simp only [failC, h, if_false, EnvO]⟩, rfl⟩
theorem run_callO {dr : Bool} {K : Env → Heap → Prop} {xs : List XOper} {E : Env} {H : Heap} {l : Lds} {f : Fps} {i : Nat} {g : FuncId} {args : List XArg} {d : Option Nat} {inc : List Nat} {as : List AC} {r : Nat} {o : HObj}
 {R : AC → HObj → Prop} (hc : ACalls P g as (one r o) fun q H' => ∃ o', R q o' ∧ H' = one r o') (ha : args.map (XArg.ev E) = as) (hr : H.get r = some o) (hlive : dr = true → ∃ q o', R q o') (hchk : chkE inc l (· = r))
 (h : ∀ q o', R q o' → rrun P dr K xs (E.put d q) (H.set r o') l ((i, fun b => b = r ∨ H.get b = none) :: f)) :
 rrun P dr K (⟨i, d, none, .eff (.call g args), inc⟩ :: xs) E H l f := by
 refine run_call1 (r := r) (o := o) (R := fun q H' => ∃ o', H' = one r o' ∧ R q o') (hc.mono ?_) ha hr (fun hd => ?_) hchk ?_
 ·rintro q H' ⟨o', h1, rfl⟩; exact ⟨o', ⟨o', rfl, h1⟩, rfl⟩
 ·obtain ⟨q, o', h1⟩ := hlive hd; exact ⟨q, o', o', rfl, h1⟩
 ·rintro q o' ⟨o2, h1, h2⟩
  have : o' = o2 := by
   have := congrArg (fun H => Heap.get H r) h1
   simpa [yyh] using this
  subst this
  exact h q o' h2
theorem c_fail0 (L : Lib P F) (e : Nat) (p : Pg) (fn : Nat) (VS NS : AC) (code c : Int) :
 ACalls P F.s_l3Env_fail0 [.ptr e 0, I c] (one e (EnvO p fn VS NS code)) fun q H' => ∃ o', (q = .tup [] ∧ o' = EnvO p fn VS NS (if 0 < c then failC code c else code)) ∧ H' = one e o' := by
 refine L.s_l3Env_fail0 (by simp [x_s_l3Env_fail0]) ?_
 by_cases h : 0 < c
 ·simp only [x_s_l3Env_fail0, go_sem, rE, gt_iff_lt, h]
  refine run_callO (c_fail L e p fn VS NS code c) (rfl) (yyh _ _) (by simp) trivial ?_
  rintro q o' ⟨rfl, rfl⟩
  simp only [go_sem, set_one]
  exact xxh (Heap.zzm _) ⟨_, ⟨rfl, by simp only [h, if_true]⟩, rfl⟩
 ·simp only [x_s_l3Env_fail0, go_sem, rE, gt_iff_lt, h]
  exact xxh (Heap.zzm _) ⟨_, ⟨rfl, by simp only [h, if_false]⟩, rfl⟩
theorem c_num (L : Lib P F) (e : Nat) (p : Pg) (fn : Nat) (VS NS : AC) (code : Int) (t : Ty) :
 ACalls P F.s_l3Env_num [.ptr e 0, .agg t.enc] (one e (EnvO p fn VS NS code)) fun q H' => ∃ o', (q = .tup [] ∧ o' = EnvO p fn VS NS (if t.kids = [] then code else failC code 3)) ∧ H' = one e o' := by
 refine L.s_l3Env_num (by simp [x_s_l3Env_num]) ?_
 rw [Ty.enc_eq]
 simp only [x_s_l3Env_num, go_sem, rE]
 intro b hb
 have hbe : b ≠ e := by rintro rfl; rw [yyh] at hb; simp at hb
 have heb : e ≠ b := Ne.symm hbe
 simp only [go_sem, rE, gt_iff_lt]
 refine zzn (fun hgt => ?_) (fun hle => ?_)
 ·have hk : ¬ t.kids = [] := by rintro h; rw [h] at hgt; simp at hgt
  simp only [go_sem, rE]
  refine run_callO (c_fail L e p fn VS NS code 3) (rfl) (by rw [Heap.zza _ _ heb, yyh]) (by simp) trivial ?_
  rintro q o' ⟨rfl, rfl⟩
  simp only [go_sem]
  exact xxh (one_sub (Heap.zzb _ _ _)) ⟨_, ⟨rfl, by simp only [hk, if_false]⟩, rfl⟩
 ·have hk : t.kids = [] := by
   cases h : t.kids with
   | nil => rfl
   | cons x xs => rw [h] at hle; simp at hle
  simp only [go_sem]
  exact xxh (one_sub (by rw [Heap.zza _ _ heb, yyh])) ⟨_, ⟨rfl, by simp only [hk, if_true]⟩, rfl⟩
theorem c_same (L : Lib P F) (e : Nat) (p : Pg) (fn : Nat) (VS NS : AC) (code : Int) (a t : Ty) (D : Nat) (ha : a.le D) :
 ACalls P F.s_l3Env_same [.ptr e 0, .agg a.enc, .agg t.enc] (one e (EnvO p fn VS NS code)) fun q H' => ∃ o', (q = .tup [] ∧ o' = EnvO p fn VS NS (if a = t then code else failC code 3)) ∧ H' = one e o' := by
 refine L.s_l3Env_same (by simp [x_s_l3Env_same]) ?_
 have hs := c_l1Same L D a t ha
 rw [Ty.enc_eq a, Ty.enc_eq t] at hs ⊢
 simp only [x_s_l3Env_same, go_sem, rE]
 intro b hb b2 hb2
 have hbe : b ≠ e := by rintro rfl; rw [yyh] at hb; simp at hb
 have heb : e ≠ b := Ne.symm hbe
 have hbb : b ≠ b2 := by rintro rfl; simp at hb2
 have heb2 : e ≠ b2 := by rintro rfl; rw [Heap.zza _ _ heb, yyh] at hb2; simp at hb2
 simp only [go_sem, rE, rA, hbb]
 refine zzc hs (rfl) ?_
 simp only [go_sem, rE]
 by_cases h : a = t
 ·simp only [go_sem, rE, h]
  exact xxh (one_sub (by rw [Heap.zza _ _ heb2, Heap.zza _ _ heb, yyh])) ⟨_, ⟨rfl, rfl⟩, rfl⟩
 ·simp only [go_sem, rE, h]
  refine run_callO (c_fail L e p fn VS NS code 3) (rfl) (by rw [Heap.zza _ _ heb2, Heap.zza _ _ heb, yyh]) (by simp) trivial ?_
  rintro q o' ⟨rfl, rfl⟩
  simp only [go_sem]
  exact xxh (one_sub (Heap.zzb _ _ _)) ⟨_, ⟨rfl, rfl⟩, rfl⟩
theorem Vr.enc_len (v : Vr) : v.enc.length = 6 := rfl
theorem vars_get {vs : List Vr} {cs : List AC} (h : cs.take (vs.length * 6) = (vs.map Vr.enc).flatten) {k j : Nat} (hk : k < vs.length) (hj : j < 6) : cs[k * 6 + j]? = (vs[k]).enc[j]? := by
 have hs : ∀ e ∈ vs.map Vr.enc, e.length = 6 := by intro e he; obtain ⟨v, -, rfl⟩ := List.mem_map.1 he; exact v.enc_len
 obtain ⟨e, x, h1, h2, h3⟩ := flatten_get hs (i := k) (j := j) (by simpa using hk) hj
 have : k * 6 + j < vs.length * 6 := lt_of_chunk hk hj
 rw [← h, List.getElem?_take_of_lt this] at h3
 rw [h3, ← h2]
 simp [hk] at h1; rw [← h1]
def varAt (vs : List Vr) (n : ByteArray) : Int := match vs.findIdx? fun v => decide (v.name = n) with
 | some i => i
 | none => -1
theorem c_find (L : Lib P F) (e : Nat) (v : En) (VS NS : AC) (H : Heap) (h : EnvAt H e v VS NS) (hl : v.vars.length ≤ 2 ^ 40) (n : ByteArray) :
 ACalls P F.s_l3Env_find [.ptr e 0, S n] H fun q H' => q = I (varAt v.vars n) ∧ H' = H := by
 refine L.s_l3Env_find (by simp [x_s_l3Env_find]) ?_
 obtain ⟨p, fn, vs, names, code⟩ := v
 have ho := h.obj
 have hv := h.vars
 simp only [EnvO] at ho hv
 simp only [x_s_l3Env_find, go_sem, rE]
 refine yyc vs.length (fun k E H2 => H2 = H ∧ E 0 = .ptr e 0 ∧ E 1 = S n ∧ E 5 = I k ∧ ∀ i (h : i < vs.length), i < k → vs[i].name ≠ n) (by simp [go_sem]) ?_
 rintro k E H2 hk ⟨rfl, h0, h1, h5, hall⟩
 rcases hv with ⟨hv, rfl⟩ | ⟨b, c, cs, rfl, hg, hc, hvc, hcs⟩
 ·have hv' : vs = [] := by simpa using hv
  subst hv'
  have hk0 : k = 0 := by simpa using hk
  subst hk0
  simp only [go_sem, rE, rA, h0, h1, h5, ho, Int.natCast_zero, Int.lt_irrefl]
  exact zzd (.refl _) (Heap.zzm _) ⟨by simp [put_same, varAt], rfl⟩
 ·simp only [List.length_map] at hvc hcs ho
  have hlim : vs.length ≤ LIM := hl
  have hl' : vs.length ≤ 2 ^ 40 := hl
  simp only [go_sem, rE, rA, h0, h1, h5, ho, hlim]
  refine zzn (fun hlt => ?_) (fun hge => ?_)
  ·have hlt1 : k < vs.length := by omega
   have w1 := yya (n := (k : Int) + 1) (by omega) (by omega)
   have hg0 := vars_get hcs hlt1 (j := 0) (by omega)
   simp only [Vr.enc, List.getElem?_cons_zero, Nat.add_zero] at hg0
   simp only [go_sem, rE, rA, h0, h1, h5, ho, hlim, hlt, hg, hg0]
   by_cases he : vs[k].name = n
   ·simp only [go_sem, rE, he, h5]
    refine zzd (.refl _) (Heap.zzm _) ⟨?_, rfl⟩
    have : vs.findIdx? (fun v => decide (v.name = n)) = some k := by
     rw [List.findIdx?_eq_some_iff_getElem]
     exact ⟨hlt1, by simpa using he, fun j hj => by simpa using hall j (by omega) hj⟩
    simp only [go_sem, varAt, this]
   ·simp only [go_sem, rE, he, h0, h1, h5, w1]
    refine ⟨hlt1, _, Heap.zzm _, rfl, by simp, fun i h hi => ?_⟩
    by_cases hik : i = k
    ·subst hik; exact he
    ·exact hall i h (by omega)
  ·simp only [go_sem, rE]
   refine zzd (.refl _) (Heap.zzm _) ⟨?_, rfl⟩
   have : vs.findIdx? (fun v => decide (v.name = n)) = none := by
    rw [List.findIdx?_eq_none_iff]
    intro x hx
    obtain ⟨i, hi, rfl⟩ := List.mem_iff_getElem.1 hx
    simpa using hall i hi (by omega)
   simp only [go_sem, varAt, this]
theorem EnvO_ne {H : Heap} {e : Nat} {p : Pg} {fn : Nat} {VS NS : AC} {code : Int} (ho : H.get e = some (EnvO p fn VS NS code)) {vs : List Vr} {V : AC} (hv : VarsAt H vs V) : ¬ blkOf V e := by
 rintro ⟨n, c, rfl⟩
 rcases hv with ⟨-, h⟩ | ⟨b, c', cs, h, hg, hc, -⟩
 ·simp at h
 ·simp at h
  obtain ⟨rfl, -⟩ := h
  rw [ho] at hg
  simp only [EnvO, Option.some.injEq, HObj.cells.injEq] at hg
  subst hg
  simp at hc; omega
def addC (v : En) (n : ByteArray) : Int := if v.names.any fun m => decide (m = n) then failC v.code 2 else v.code
def En.add (v : En) (x : Vr) : En := { v with vars := v.vars ++ [x], names := v.names ++ [x.name], code := addC v x.name }
theorem failC_failC (c d : Int) (h : d ≠ 0) : failC (failC c d) d = failC c d := by
 unfold failC; split <;> simp_all
theorem c_add (L : Lib P F) (e : Nat) (v : En) (VS NS : AC) (H : Heap) (h : EnvAt H e v VS NS) (hl : v.vars.length ≤ 2 ^ 30) (hn : v.names.length ≤ 2 ^ 30) (x : Vr) :
 ACalls P F.s_l3Env_add [.ptr e 0, .agg x.enc] H fun q H' => q = .tup [] ∧ ∃ VS' NS', EnvAt H' e (v.add x) VS' NS' := by
 refine L.s_l3Env_add (by simp [x_s_l3Env_add]) ?_
 obtain ⟨p, fn, vs, names, code⟩ := v
 obtain ⟨ho, hv, hns⟩ := h
 simp only at ho hv hns hl hn
 simp only [x_s_l3Env_add, go_sem, rE, Vr.enc]
 intro b hb
 have heb : e ≠ b := by rintro rfl; rw [ho] at hb; simp at hb
 refine yyc names.length (fun k E H2 => (∃ c : Int, c = (if (names.take k).any (fun m => decide (m = x.name)) then failC code 2 else code) ∧ H2.get e = some (EnvO p fn VS NS c)) ∧
  H2.get b = some (.cells [S x.name, B x.lent, B x.param, .sl 1 none (Ty.encs x.type.kids), .sl 2 none (x.loans.map Pl.enc), B x.dead]) ∧ VarsAt H2 vs VS ∧ AppSt H2 1 (xxe names) NS ∧ E 0 = .ptr e 0 ∧ E 3 = .ptr b 0 ∧ E 4 = I k)
  ⟨⟨code, by simp, by rw [Heap.zza _ _ heb]; exact ho⟩, Heap.zzb _ _ _, hv.mono (fun d hd => Heap.zza _ _ (by
    rintro rfl
    obtain ⟨n, c, rfl⟩ := hd
    rcases hv with ⟨-, h⟩ | ⟨b', c', cs, h, hg, -⟩
    ·simp at h
    ·simp at h; obtain ⟨rfl, -⟩ := h; rw [hg] at hb; simp at hb)), hns.new hb _, by simp [go_sem]⟩ ?_
 rintro k E H2 hk ⟨⟨c, hc, g0⟩, g1, hv2, hns2, h0, h3, h4⟩
 have hev := EnvO_ne g0 hv2
 simp only [EnvO] at g0
 have step : ∀ (t : Bool), (decide (names.length ≤ k) = false → (∃ h : k < names.length, t = decide (names[k] = x.name)) → (if t then failC c 2 else c) = if (names.take (k + 1)).any (fun m => decide (m = x.name)) then failC code 2 else code) := by
  rintro t - ⟨h, rfl⟩
  rw [List.take_succ_eq_append_getElem h, List.any_append, hc]
  by_cases h1 : names[k] = x.name
  ·simp only [h1, decide_true, if_true, List.any_cons, List.any_nil, Bool.or_false, Bool.or_true]
   split
   ·exact failC_failC _ _ (by decide)
   ·rfl
  ·simp only [h1, decide_false, Bool.false_eq_true, if_false, List.any_cons, List.any_nil, Bool.or_false]
 by_cases hlt : k < names.length
 ·have w1 := yya (n := (k : Int) + 1) (by omega) (by omega)
  have hlt' : (k : Int) < (xxe names).length := by simp [xxe]; omega
  have hg : (xxe names)[k]? = some [S names[k]] := by simp [xxe, hlt]
  rcases hns2 with ⟨hz, rfl⟩ | ⟨nb, n1, m1, rfl, hnb⟩
  ·simp [xxe] at hz; subst hz; simp at hlt
  ·have hne : nb ≠ e := by rintro rfl; rw [g0] at hnb; simp at hnb
   simp only [go_sem, rE, rA, h0, h3, h4, g0, g1, hlt', hg]
   by_cases he : names[k] = x.name
   ·have hst := step true (by simpa using hlt) ⟨hlt, by simp [he]⟩
    simp only [if_true] at hst
    simp only [go_sem, rE, rA, h0, h3, h4, g0, g1, he]
    refine run_callO (c_fail L e p fn VS _ c 2) (by simp only [go_sem, rE, h0]) (by simpa only [EnvO] using g0) (by simp) trivial ?_
    rintro q o' ⟨rfl, rfl⟩
    simp only [go_sem, rE, h0, h3, h4, w1]
    refine ⟨hlt, _, Heap.zzm _, ⟨_, hst, Heap.zzb _ _ _⟩, by rw [Heap.zza _ _ (Ne.symm heb)]; exact g1, hv2.mono (fun d hd => Heap.zza _ _ (by rintro rfl; exact hev hd)),
     .inr ⟨nb, n1, m1, rfl, by rw [Heap.zza _ _ hne]; exact hnb⟩, by simp⟩
   ·have hst := step false (by simpa using hlt) ⟨hlt, by simp [he]⟩
    simp only [Bool.false_eq_true, if_false] at hst
    simp only [go_sem, rE, rA, h0, h3, h4, he, w1]
    exact ⟨hlt, _, Heap.zzm _, ⟨c, hst, by simpa only [EnvO] using g0⟩, g1, hv2, .inr ⟨nb, n1, m1, rfl, hnb⟩, by simp⟩
 ·have hkk : k = names.length := by omega
  subst hkk
  rw [List.take_length] at hc
  have hlt' : ¬ ((names.length : Nat) : Int) < (xxe names).length := by simp [xxe]
  have hcode : addC ⟨p, fn, vs, names, code⟩ x.name = c := by rw [hc]; rfl
  have hns3 := hns2
  have fin : ∀ (E' : Env) (K : XExit → Env → Heap → Prop), E' 0 = .ptr e 0 → E' 3 = .ptr b 0 → (∀ E2 H4 VS' NS', EnvAt H4 e (En.add ⟨p, fn, vs, names, code⟩ x) VS' NS' → K .normal E2 H4) →
   (XCode.seq (.region true [mv 0 26 0, mv 1 27 0, nc 2 28 27, fa 3 29 3 28, ld 4 30 none 29, fa 5 31 0 3, ld 6 32 none 31, ⟨7, some 33, none, .lits 1 1 [.string (bl [])] [(0, (1, 32))], []⟩, ⟨8, some 34, none, .eff (.appendM 1 16 30 33), []⟩, nc 9 35 26, fa 10 36 3 35, ⟨11, none, none, .eff (.store 1 36 34), []⟩])
    (.region true [mv 0 37 0, mv 1 38 0, nc 2 39 38, fa 3 40 2 39, ld 4 41 none 40, ld 5 42 (some 6) 3, ⟨6, some 43, none, .lits 6 1 [.string (bl []), .bool false, .bool false, .slice none 0 0, .slice none 0 0, .bool false] [(0, (6, 42))], []⟩, ⟨7, some 44, none, .eff (.appendM 6 80 41 43), []⟩, nc 8 45 37, fa 9 46 2 45, ⟨10, none, none, .eff (.store 1 46 44), []⟩])).wp P K E' H2 := by
   intro E' K e0 e3 hK
   simp only [go_sem, rE, rA, e0, e3, g0, g1, List.replicate, List.flatten_cons, List.flatten_nil]
   refine run_appM (es := xxe names) (ys := [[S x.name]]) (by simp only [go_sem, rE]; exact hns3) (by simp [go_sem, chunk]) (by simp) (by simp [xxe]; omega) rfl ?_
   intro NS' H3 fp hNS' hkeep
   have k1 := hkeep.1 _ _ g0
   have k2 := hkeep.1 _ _ g1
   have hv3 := hv2.keep hkeep
   have hbe := Ne.symm heb
   have hv4 : VarsAt (H3.set e (.cells [AC.sl 12 none (List.map Fu.enc p), I fn, VS, NS', I c])) vs VS := RowAt.mono hv3 fun d hd => Heap.zza _ _ (by rintro rfl; exact hev hd)
   have hn4 := hNS'.set k1 (.cells [AC.sl 12 none (List.map Fu.enc p), I fn, VS, NS', I c])
   simp only [go_sem, rE, rA, e0, e3, k1, k2, hNS'.one, rL, hbe, List.replicate, List.flatten_cons, List.flatten_nil]
   refine run_appR (rows := vs.map Vr.enc) (ys := [x.enc]) (by simp only [go_sem, rE]; exact hv4) (by simp [go_sem, chunk, Vr.enc]) (by simp [Vr.enc]) (by simp; omega) rfl ?_
   intro VS' H5 fp2 hVS' hout hblk
   simp only [go_sem, rE] at hout hblk
   have g5 : H5.get e = some (.cells [AC.sl 12 none (List.map Fu.enc p), I fn, VS, NS', I c]) := by
    rw [hout e (by simp) hev]; exact Heap.zzb _ _ _
   have hn5 := hn4.rows hv4 hout
   simp only [go_sem, rE, rA, e0, e3, g5, hVS'.one, rL]
   refine hK _ _ VS' NS' ⟨?_, ?_, ?_⟩
   ·simp only [En.add, hcode, Heap.zzb, EnvO]
   ·have : VarsAt H5 (vs ++ [x]) VS' := by simpa [VarsAt] using hVS'
    refine RowAt.mono this fun d hd => Heap.zza _ _ ?_
    rintro rfl
    rcases hblk d hd with h | h
    ·exact hev h
    ·simp at h
   ·have : AppSt H5 1 (xxe (names ++ [x.name])) NS' := by simpa [xxe] using hn5
    exact this.set g5 _
  have done : ∀ E2 H4 VS' NS', EnvAt H4 e (En.add ⟨p, fn, vs, names, code⟩ x) VS' NS' → XFunc.post (x_s_l3Env_add F).results (fun q H' => q = .tup [] ∧ ∃ VS' NS', EnvAt H' e (En.add ⟨p, fn, vs, names, code⟩ x) VS' NS') .normal E2 H4 :=
   fun E2 H4 VS' NS' h => xxh (Heap.zzm _) ⟨rfl, _, _, h⟩
  rcases hns2 with ⟨hz, rfl⟩ | ⟨nb, n1, m1, rfl, hnb⟩
  ·simp [xxe] at hz; subst hz
   simp only [go_sem, rE, rA, h0, h3, h4, g0, g1]
   refine zzn (fun h => absurd h (by simp)) (fun _ => ?_)
   simp only [wp_exit, then_exit, xxi, xxa]
   exact fin _ _ (h0) (h3) done
  ·simp only [go_sem, rE, rA, h0, h3, h4, g0, g1]
   refine zzn (fun h => absurd h hlt') (fun _ => ?_)
   simp only [wp_exit, then_exit, xxi, xxa]
   exact fin _ _ (h0) (h3) done
end
end Go.Xl
namespace Go.Xl
open Nat renaming reduceEqDiff → rE, reduceAdd → rA, reduceLeDiff → rL
section
variable {P : Program} {F : Ids}
def yyb (e : Nat) (VS NS : AC) (d : Nat) : Prop := d = e ∨ blkOf VS d ∨ tokOf NS d
theorem EnvAt.mono {H H' : Heap} {e : Nat} {v : En} {VS NS : AC} (h : EnvAt H e v VS NS) (hk : ∀ d, yyb e VS NS d → H'.get d = H.get d) : EnvAt H' e v VS NS := by
 obtain ⟨h1, h2, h3⟩ := h
 refine ⟨by rw [hk e (.inl rfl)]; exact h1, RowAt.mono h2 fun d hd => hk d (.inr (.inl hd)), ?_⟩
 rcases h3 with h3 | ⟨b, n, m, rfl, hb⟩
 ·exact .inl h3
 ·exact .inr ⟨b, n, m, rfl, by rw [hk b (.inr (.inr ⟨_, _, _, _, rfl⟩))]; exact hb⟩
theorem c_copy (L : Lib P F) (e : Nat) (v : En) (VS NS : AC) (H : Heap) (h : EnvAt H e v VS NS) (hl : v.vars.length ≤ 2 ^ 30) (hn : v.names.length ≤ 2 ^ 30) :
 ACalls P F.s_l3Env_copy [.ptr e 0] H fun q H' => ∃ a VS' NS', q = .ptr a 0 ∧ EnvAt H' a v VS' NS' ∧ (∀ d, H.get d ≠ none → H'.get d = H.get d) ∧ ∀ d, yyb a VS' NS' d → H.get d = none := by
 refine L.s_l3Env_copy (by simp [x_s_l3Env_copy]) ?_
 obtain ⟨p, fn, vs, names, code⟩ := v
 obtain ⟨ho, hv, hns⟩ := h
 simp only [EnvO] at ho hv hns hl hn
 have hne := EnvO_ne (H := H) (by simpa only [EnvO] using ho) hv
 simp only [x_s_l3Env_copy, go_sem, rE, rA, ho, rL, List.replicate, List.flatten_nil, chunk]
 intro b1 hb1
 have h1e : e ≠ b1 := by rintro rfl; rw [ho] at hb1; simp at hb1
 have hv1 : VarsAt (H.set b1 (.tail 0 0)) vs VS := RowAt.mono hv fun d ⟨n, c, hd⟩ => Heap.zza _ _ (by
  rintro rfl
  rcases hv with ⟨-, h⟩ | ⟨b', c', cs, h, hg, -⟩
  ·rw [hd] at h; simp at h
  ·rw [hd] at h; simp at h; obtain ⟨rfl, -⟩ := h; rw [hg] at hb1; simp at hb1)
 simp only [go_sem, rE, rA, ho, h1e]
 refine run_appC (b := b1) (ys := vs.map Vr.enc) (rfl) (Heap.zzb _ _ _) (by simp only [go_sem, rE]; exact hv1.elems (by simp [Vr.enc]) (by simp [LIM]; omega)) (by simp [Vr.enc]) (by simp; omega) ?_ ?_
 ·simp [chkE, h1e]
 ·intro VS' H2 fp hVS hfp hout hblk
  have ho2 : H2.get e = some (HObj.cells [AC.sl 12 none (List.map Fu.enc p), I fn, VS, NS, I code]) := by
   rw [hout e (by rw [Heap.zza _ _ h1e, ho]; simp) h1e, Heap.zza _ _ h1e]; exact ho
  have hfe : ¬ fp e := by
   intro hc
   rcases hfp e hc with h | h
   ·exact h1e h
   ·rw [Heap.zza _ _ h1e, ho] at h; simp at h
  simp only [go_sem, rE, rA, rL, List.replicate, List.flatten_nil, chunk]
  intro b2 hb2
  have h2e : e ≠ b2 := by rintro rfl; rw [ho2] at hb2; simp at hb2
  simp only [go_sem, rE, rA, ho2, h2e, chkL, List.mem_cons, List.not_mem_nil, or_false, forall_eq, hfe]
  refine run_appM2 (es := []) (ys := xxe names) (by simp only [go_sem, rE]; exact .inr ⟨b2, 0, 0, rfl, Heap.zzb _ _ _⟩) (by simp only [go_sem, rE]; exact hns.elems) (by simp [xxe]) (by simp [xxe]; omega) ?_
  intro NS' H3 fp2 hNS hfp2 hout2 htok
  have tb2 : ∀ d, tokOf (AC.sl 1 (some (b2, 0, 0)) []) d → d = b2 := by
   rintro d ⟨_, _, _, _, h⟩; simp at h; exact h.2.1.1.symm
  simp only [go_sem, rE] at hout2 htok
  have keep2 : ∀ d, H2.get d ≠ none → H3.get d = H2.get d := by
   intro d hd
   have hdb : d ≠ b2 := by rintro rfl; exact hd hb2
   rw [hout2 d (by rw [Heap.zza _ _ hdb]; exact hd) (fun h => hdb (tb2 d h)), Heap.zza _ _ hdb]
  have keep1 : ∀ d, H.get d ≠ none → H2.get d = H.get d := by
   intro d hd
   have hdb : d ≠ b1 := by rintro rfl; exact hd hb1
   rw [hout d (by rw [Heap.zza _ _ hdb]; exact hd) hdb, Heap.zza _ _ hdb]
  have ho3 : H3.get e = some (HObj.cells [AC.sl 12 none (List.map Fu.enc p), I fn, VS, NS, I code]) := by
   rw [keep2 e (by rw [ho2]; simp)]; exact ho2
  have hfe2 : ¬ fp2 e := by
   intro hc
   have := hfp2 e hc
   rw [Heap.zza _ _ h2e, ho2] at this; simp at this
  have hvs1 : VS'.cells? = some [VS'] := hVS.one
  have hns1 : NS'.cells? = some [NS'] := hNS.one
  simp only [go_sem, rE, rA, rL, ho3, chkL, List.mem_cons, List.not_mem_nil, or_false, forall_eq, hfe2, hfe, forall_eq_or_imp, hvs1, hns1]
  intro a ha
  have hv3 : VarsAt H3 vs VS' := RowAt.mono hVS fun d hd => by
   rcases hVS with ⟨-, h⟩ | ⟨b', c', cs, h, hg, -⟩
   ·obtain ⟨n, c, hd⟩ := hd; rw [hd] at h; simp at h
   ·obtain ⟨n, c, hd⟩ := hd
    rw [hd] at h; simp at h; obtain ⟨rfl, -⟩ := h
    exact keep2 d (by rw [hg]; simp)
  have keepA : ∀ d, H3.get d ≠ none → (H3.set a (.cells [AC.sl 12 none (List.map Fu.enc p), I fn, VS', NS', I code])).get d = H3.get d := fun d hd => Heap.zza _ _ (by rintro rfl; exact hd ha)
  refine post_slot ⟨a, VS', NS', rfl, ⟨?_, ?_, ?_⟩, fun d hd => ?_, fun d hd => ?_⟩
  ·simp only [EnvO]; exact Heap.zzb _ _ _
  ·refine RowAt.mono hv3 fun d hd => keepA d ?_
   rcases hv3 with ⟨-, h⟩ | ⟨b', c', cs, h, hg, -⟩
   ·obtain ⟨n, c, hd⟩ := hd; rw [hd] at h; simp at h
   ·obtain ⟨n, c, hd⟩ := hd
    rw [hd] at h; simp at h; obtain ⟨rfl, -⟩ := h
    rw [hg]; simp
  ·have : AppSt H3 1 (xxe names) NS' := by simpa using hNS
   exact this.new ha _
  ·have hd' : H.get d ≠ none := hd
   rw [keepA d (by rw [keep2 d (by rw [keep1 d hd']; exact hd'), keep1 d hd']; exact hd'), keep2 d (by rw [keep1 d hd']; exact hd'), keep1 d hd']
  ·apply Classical.byContradiction
   intro hn'
   have h2 : H2.get d ≠ none := by rw [keep1 d hn']; exact hn'
   rcases hd with rfl | hd | hd
   ·rw [keep2 d h2] at ha; exact h2 ha
   ·rcases hblk d hd with h | h
    ·subst h; exact hn' hb1
    ·by_cases hdb : d = b1
     ·subst hdb; exact hn' hb1
     ·rw [Heap.zza _ _ hdb] at h; exact hn' h
   ·rcases htok d hd with h | h
    ·have := tb2 d h; subst this; exact h2 hb2
    ·by_cases hdb : d = b2
     ·subst hdb; exact h2 hb2
     ·rw [Heap.zza _ _ hdb] at h; exact h2 h
end
end Go.Xl
namespace Go.Xl
open Nat renaming reduceEqDiff → rE, reduceAdd → rA, reduceLeDiff → rL
def AppTk (H : Heap) (sz : Nat) (es : List (List AC)) (x : AC) : Prop := ∃ b n m, x = .sl sz (some (b, n, m)) es ∧ H.get b = some (.tail n m)
section
variable {P : Program} {dr : Bool} {K : Env → Heap → Prop} {xs : List XOper} {E : Env} {H : Heap} {l : Lds} {f : Fps}
theorem run_appT {i sz bytes : Nat} {d : Option Nat} {s y : XArg} {inc : List Nat} {b n m : Nat} {es ys : List (List AC)} (hs : s.ev E = .sl sz (some (b, n, m)) es) (hb : H.get b = some (.tail n m)) (hy : elemsH H sz (y.ev E) = some ys)
 (hsz : ∀ e ∈ ys, e.length = sz) (hl : es.length + ys.length ≤ 2 ^ 32)
 (h : ∀ b' n' m' H' fp, H'.get b' = some (.tail n' m') → (∀ c, H.get c ≠ none → c ≠ b → H'.get c = H.get c) → (b' = b ∨ H.get b' = none) → (∀ c, fp c → H.get c = none) →
  rrun P dr K xs (E.put d (.sl sz (some (b', n', m')) (es ++ ys))) H' l ((i, fp) :: f)) :
 rrun P dr K (⟨i, d, none, .eff (.appendM sz bytes s y), inc⟩ :: xs) E H l f := by
 simp only [rrun, XOper.act, wantedA, EOp.isA, EOp.run, hy, Bool.false_eq_true, if_false]
 refine ⟨hsz, ?_⟩
 simp only [hs, appM]
 refine ⟨trivial, hl, hb, .inl fun b' m' hb' hm => ⟨chkE_false _ _, h _ _ _ _ _ (Heap.zzb _ _ _) (fun c hc hn => Heap.zza _ _ ?_) hb' (fun c hc => hc.resolve_left id)⟩⟩
 rintro rfl
 rcases hb' with rfl | hb'
 ·exact hn rfl
 ·exact hc hb'
end
@[go_sem] theorem chunk_zero (sz : Nat) (cs : List AC) : chunk sz 0 cs = [] := rfl
def cntOut (n : Nat) (L : List Nat) : Nat := ((List.range n).filter fun i => decide (i ∉ L)).length
theorem cntOut_snoc {n i : Nat} {L : List Nat} (hi : i < n) (hn : i ∉ L) : cntOut n (L ++ [i]) + 1 ≤ cntOut n L := by
 unfold cntOut
 have key : ∀ (R : List Nat), i ∈ R → (R.filter fun j => decide (j ∉ L ++ [i])).length + 1 ≤ (R.filter fun j => decide (j ∉ L)).length := by
  have mono : ∀ (R : List Nat), (R.filter fun j => decide (j ∉ L ++ [i])).length ≤ (R.filter fun j => decide (j ∉ L)).length := by
   intro R
   induction R with
   | nil => simp
   | cons a R ih =>
     simp only [List.filter_cons]
     by_cases h1 : a ∈ L
     ·simp [h1]; simpa using ih
     ·by_cases h2 : a = i
      ·simp [h1, h2, hn]; have := ih; simp at this; omega
      ·simp [h1, h2]; simpa using ih
  intro R hR
  induction R with
  | nil => simp at hR
  | cons a R ih =>
    by_cases h2 : a = i
    ·subst h2
     have := mono R
     simp only [List.filter_cons]
     simp [hn]; simpa using this
    ·have hR' : i ∈ R := by simpa [Ne.symm h2] using hR
     have := ih hR'
     simp only [List.filter_cons]
     by_cases h1 : a ∈ L
     ·simp [h1]; simpa using this
     ·simp [h1, h2]; simp at this; omega
 exact key _ (by simpa using hi)
inductive Ended (vs : List Vr) (L : List Nat) : Nat → Prop where
 | base {i : Nat} : i ∈ L → Ended vs L i
 | step {i j : Nat} {q : Pl} (hi : i < vs.length) (hd : vs[i].dead = false) (hl : vs[i].lent = true) (hq : q ∈ vs[i].loans) (hj : Ended vs L j) (hjl : j < vs.length) (hn : vs[j].name = q.name) : Ended vs L i
open Classical in
noncomputable def ordL (vs : List Vr) (L : List Nat) : List Nat := (List.range vs.length).reverse.filter fun i => decide (Ended vs L i)
def yyk (L : List Nat) : List (List AC) := L.map fun (i : Nat) => [I i]
theorem loan_get {ps : List Pl} {k : Nat} (h : k < ps.length) : (ps.map Pl.enc)[k]? = some [S ps[k].name, zze ps[k].path] := by simp [h, Pl.enc]
def ClosedAt (vs : List Vr) (L : List Nat) (i : Nat) : Prop := i ∈ L ∨ ∀ (h : i < vs.length), vs[i].dead = true ∨ vs[i].lent = false ∨ ∀ q ∈ vs[i].loans, ∀ j ∈ L, ∀ (hj : j < vs.length), vs[j].name ≠ q.name
theorem ended_of_closed {vs : List Vr} {L0 L : List Nat} (h0 : ∀ i ∈ L0, i ∈ L) (hc : ∀ i, i < vs.length → ClosedAt vs L i) (i : Nat) (h : Ended vs L0 i) : i ∈ L := by
 induction h with
 | base hi => exact h0 _ hi
 | step hi hd hl hq hj hjl hn ih =>
   rcases hc _ hi with h | h
   ·exact h
   ·rcases h hi with h | h | h
    ·rw [hd] at h; simp at h
    ·rw [hl] at h; simp at h
    ·exact absurd hn (h _ hq _ ih hjl)
section
variable {P : Program} {F : Ids}
theorem c_l3AmongN (L : Lib P F) (xs : List Nat) (n : Nat) (tok : Option (Nat × Nat × Nat)) (hl : xs.length ≤ 2 ^ 40) : Pure1 P F.s_l3Among [.sl 1 tok (yyk xs), I n] (B (decide (n ∈ xs))) := by
 have h := c_l3Among L (xs.map Int.ofNat) n (by simpa using hl)
 have e1 : List.map (fun i => [I i]) (List.map Int.ofNat xs) = yyk xs := by simp [yyk]
 have e2 : (xs.map Int.ofNat).contains (n : Int) = decide (n ∈ xs) := by
  rw [Bool.eq_iff_iff]
  simp only [List.contains_iff_mem, List.mem_map, decide_eq_true_eq]
  constructor
  ·rintro ⟨a, ha, he⟩
   have : a = n := Int.ofNat.inj he
   exact this ▸ ha
  ·intro h; exact ⟨n, h, rfl⟩
 rw [e1, e2] at h
 exact h.args ⟨.tok _ _ _, .refl _, trivial⟩
theorem natRows_get {L : List Nat} {k : Nat} (h : k < L.length) : (yyk L)[k]? = some [I L[k]] := by simp [yyk, h]
theorem natRows_len (L : List Nat) : (yyk L).length = L.length := by simp [yyk]
theorem var_row {H : Heap} {vs : List Vr} {b c : Nat} {cs : List AC} (hcs : cs.take ((vs.map Vr.enc).length * 6) = (vs.map Vr.enc).flatten) {k : Nat} (hk : k < vs.length) :
 cs[k * 6]? = some (S vs[k].name) ∧ cs[k * 6 + 1]? = some (B vs[k].lent) ∧ cs[k * 6 + 2]? = some (B vs[k].param) ∧ cs[k * 6 + 3]? = some (.sl 1 none (Ty.encs vs[k].type.kids)) ∧
  cs[k * 6 + 4]? = some (.sl 2 none (vs[k].loans.map Pl.enc)) ∧ cs[k * 6 + 5]? = some (B vs[k].dead) := by
 simp only [List.length_map] at hcs
 refine ⟨vars_get hcs hk (j := 0) (by omega), vars_get hcs hk (j := 1) (by omega), vars_get hcs hk (j := 2) (by omega), vars_get hcs hk (j := 3) (by omega), vars_get hcs hk (j := 4) (by omega), vars_get hcs hk (j := 5) (by omega)⟩
structure OrdI (vs : List Vr) (L0 : List Nat) (C : Nat) (L1 : List Nat) : Prop where
 sub : ∀ i ∈ L0, i ∈ L1
 end_ : ∀ i ∈ L1, Ended vs L0 i
 lt : ∀ i ∈ L1, i < vs.length
 cnt : L1.length + cntOut vs.length L1 ≤ C
theorem c_l3Order (L : Lib P F) (vs : List Vr) (VS : AC) (L0 : List Nat) (x0 : AC) (H : Heap) (hv : VarsAt H vs VS) (hx : AppTk H 1 (yyk L0) x0) (h0 : ∀ i ∈ L0, i < vs.length)
 (hl : vs.length ≤ 2 ^ 20) (hl0 : L0.length ≤ 2 ^ 20) (hlo : ∀ v ∈ vs, v.loans.length ≤ 2 ^ 20) :
 ACalls P F.s_l3Order [VS, x0] H fun q H' => q = .sl 1 none (yyk (ordL vs L0)) ∧ H' = H.only (blkOf VS) := by
 refine L.s_l3Order (by simp [x_s_l3Order]) ?_
 have hcnt0 : cntOut vs.length L0 ≤ vs.length := by unfold cntOut; exact Nat.le_trans (List.length_filter_le _ _) (by simp)
 have hI0 : OrdI vs L0 (L0.length + vs.length) L0 := ⟨fun _ h => h, fun _ h => .base h, h0, by omega⟩
 rcases hv with ⟨hv, rfl⟩ | ⟨vb, vc, cs, rfl, hg, hc, hvc, hcs⟩
 ·have hvs : vs = [] := by simpa using hv
  subst hvs
  have hL0 : L0 = [] := by
   cases L0 with
   | nil => rfl
   | cons a _ => have := h0 a (by simp); simp at this
  subst hL0
  have w1 := yya (n := (0 : Int) - 1) (by omega) (by omega)
  obtain ⟨tb, n0, m0, rfl, ht0⟩ := hx
  have hblk : ∀ d, ¬ blkOf NIL d := by rintro d ⟨_, _, h⟩; simp at h
  simp only [x_s_l3Order, go_sem, rE]
  refine wp_loop (fun n E H1 => ∃ ag : Bool, n = (if ag then 1 else 0) ∧ E 0 = NIL ∧ E 5 = B ag) 1 ⟨true, rfl, rfl, rfl⟩ ?_
  rintro n E H1 ⟨ag, rfl, e0, e5⟩
  simp only [go_sem, rE, e5]
  cases ag
  ·simp only [go_sem, rE]
   intro b9 hb9
   simp only [go_sem, rE, e0, w1]
   refine yyc 0 (fun k E H2 => E 9 = .sl 1 (some (b9, 0, 0)) [] ∧ E 10 = I (-1)) ⟨rfl, rfl⟩ ?_
   rintro k E H2 - ⟨e9, e10⟩
   simp only [go_sem, rE, e10, e9]
   refine zzn (fun h => absurd h (by decide)) (fun _ => ?_)
   simp only [go_sem, rE, e9]
   refine zzd (q' := .sl 1 none (yyk (ordL [] []))) ?_ (H' := H.only (blkOf NIL)) (fun d o hd => ?_) ⟨rfl, rfl⟩
   ·simp only [go_sem, rE]; exact .tok _ _ _
   ·rw [Heap.only_none (hblk d)] at hd; simp at hd
  ·simp only [go_sem, rE]
   refine yyc 0 (fun k E H2 => E 0 = NIL ∧ E 5 = B false ∧ E 6 = I 0) ⟨e0, rfl, rfl⟩ ?_
   rintro k E H2 - ⟨e0, e5, e6⟩
   simp only [go_sem, rE, e0, e6]
   refine zzn (fun h => absurd h (by decide)) (fun _ => ?_)
   simp only [go_sem, rE]
   exact ⟨0, by simp, H2, Heap.zzm _, false, by simp, e0, e5⟩
 ·have hb : ∀ d, blkOf (AC.lit (.slice (some ⟨vb, 0, none⟩) (vs.map Vr.enc).length vc)) d → d = vb := by rintro d ⟨_, _, h⟩; simp at h; exact h.1.symm
  have hrow := fun {k : Nat} (hk : k < vs.length) => var_row (H := H) (b := vb) (c := vc) hcs hk
  have hlim : vs.length ≤ LIM := by simp [LIM]; omega
  have hdrop : ∀ k, k < vs.length → True := fun _ _ => trivial
  simp only [List.length_map] at *
  obtain ⟨tb, n0, m0, rfl, ht0⟩ := hx
  simp only [x_s_l3Order, go_sem, rE]
  refine wp_loop (fun n E H1 => ∃ (L1 : List Nat) (ag : Bool) (b n1 m1 : Nat), n = 2 * cntOut vs.length L1 + (if ag then 1 else 0) ∧ OrdI vs L0 (L0.length + vs.length) L1 ∧ (ag = false → ∀ i, i < vs.length → ClosedAt vs L1 i) ∧
   E 0 = .lit (.slice (some ⟨vb, 0, none⟩) vs.length vc) ∧ E 1 = .sl 1 (some (b, n1, m1)) (yyk L1) ∧ H1.get b = some (.tail n1 m1) ∧ E 5 = B ag ∧ H1.get vb = some (.cells cs))
   (2 * cntOut vs.length L0 + 1) ⟨L0, true, tb, n0, m0, by simp, hI0, by simp, rfl, rfl, ht0, rfl, hg⟩ ?_
  rintro n E H1 ⟨L1, ag, b, n1, m1, rfl, hI1, hcl, e0, e1, hb1, e5, hg1⟩
  simp only [go_sem, rE, e5]
  cases ag
  ·simp only [go_sem, rE]
   intro b9 hb9
   have hvb9 : vb ≠ b9 := by rintro rfl; rw [hg1] at hb9; simp at hb9
   have hmem : ∀ i, i < vs.length → (i ∈ L1 ↔ Ended vs L0 i) := fun i hi => ⟨hI1.end_ i, fun h => ended_of_closed hI1.sub (hcl rfl) i h⟩
   have w1 := yya (n := (vs.length : Int) - 1) (by omega) (by omega)
   simp only [go_sem, rE, e0, hlim, w1]
   refine yyc vs.length (fun k E H2 => k ≤ vs.length ∧ ∃ (bo no mo : Nat), E 0 = .lit (.slice (some ⟨vb, 0, none⟩) vs.length vc) ∧ E 1 = .sl 1 (some (b, n1, m1)) (yyk L1) ∧ H2.get vb = some (.cells cs) ∧
    E 10 = I (vs.length - 1 - k) ∧ E 9 = .sl 1 (some (bo, no, mo)) (yyk (((List.range vs.length).reverse.take k).filter fun i => decide (i ∈ L1))) ∧ H2.get bo = some (.tail no mo))
    ⟨by omega, b9, 0, 0, by simp [go_sem, e0], by simp [go_sem, e1], by rw [Heap.zza _ _ hvb9]; exact hg1, by simp [go_sem], by simp [go_sem, yyk], Heap.zzb _ _ _⟩ ?_
   rintro k E H2 - ⟨hk, bo, no, mo, f0, f1, hg2, f10, f9, hbo⟩
   simp only [go_sem, rE, f10]
   refine zzn (fun hge => ?_) (fun hlt => ?_)
   ·have hk1 : k < vs.length := by omega
    have hkk : ((vs.length : Int) - 1 - k) = ((vs.length - 1 - k : Nat) : Int) := by omega
    have htk : (List.range vs.length).reverse.take (k + 1) = (List.range vs.length).reverse.take k ++ [vs.length - 1 - k] := by
     rw [List.take_succ_eq_append_getElem (by simpa using hk1)]; simp
    have w2 := yya (n := ((vs.length - 1 - k : Nat) : Int) - 1) (by omega) (by omega)
    have hlen : (((List.range vs.length).reverse.take k).filter fun i => decide (i ∈ L1)).length ≤ vs.length := Nat.le_trans (List.length_filter_le _ _) (by simp; omega)
    simp only [go_sem, rE, f10, f1, hkk]
    refine zzc (c_l3AmongN L L1 (vs.length - 1 - k) (some (b, n1, m1)) (by have := hI1.cnt; omega)) (rfl) ?_
    simp only [go_sem, rE, f10, f1, f9, hkk]
    by_cases hm : vs.length - 1 - k ∈ L1
    ·simp only [go_sem, rE, f10, f1, f9, hkk, hm, List.replicate, List.flatten_cons, List.flatten_nil]
     refine run_appT (es := yyk (((List.range vs.length).reverse.take k).filter fun i => decide (i ∈ L1))) (ys := yyk [vs.length - 1 - k]) (rfl) hbo (by simp [go_sem, chunk, yyk]) (by simp [yyk]) (by rw [natRows_len, natRows_len]; exact Nat.le_trans (Nat.add_le_add_right hlen 1) (by omega)) ?_
     intro b' n' m' H' fp hb' hkeep _ _
     have hvb : H'.get vb = some (.cells cs) := by
      rw [hkeep vb (by rw [hg2]; simp) (by rintro rfl; rw [hbo] at hg2; simp at hg2)]; exact hg2
     simp only [go_sem, rE, f10, f1, f0, hkk, w2]
     refine ⟨hk1, H', Heap.zzm _, by omega, b', n', m', hvb, by congr 2; omega, ?_, hb'⟩
     rw [htk, List.filter_append, yyk, yyk, yyk, List.map_append]
     simp [hm]
    ·simp only [go_sem, rE, f10, f1, f9, hkk, hm, f0, w2]
     refine ⟨hk1, H2, Heap.zzm _, by omega, bo, no, mo, hg2, by congr 2; omega, ?_, hbo⟩
     rw [htk, List.filter_append]
     simp [hm]
   ·have hkl : k = vs.length := by omega
    subst hkl
    simp only [go_sem, rE, f9]
    refine zzd (q' := .sl 1 none (yyk (ordL vs L0))) ?_ (H' := H.only (blkOf (AC.lit (.slice (some ⟨vb, 0, none⟩) vs.length vc)))) ?_ ⟨rfl, rfl⟩
    ·simp only [go_sem, rE]
     rw [List.take_of_length_le (by simp)]
     have : ordL vs L0 = List.filter (fun i => decide (i ∈ L1)) (List.range vs.length).reverse := by
      unfold ordL
      refine List.filter_congr fun i hi => ?_
      have := hmem i (by simpa using hi)
      simp [this]
     rw [this]
     exact .tok _ _ _
    ·intro d o hd
     by_cases hbd : blkOf (AC.lit (.slice (some ⟨vb, 0, none⟩) vs.length vc)) d
     ·have := hb d hbd
      subst this
      rw [Heap.xxf hbd, hg] at hd
      rw [hg2, hd]
     ·rw [Heap.only_none hbd] at hd; simp at hd
  ·simp only [go_sem, rE]
   let St := fun (L2 : List Nat) (ag2 : Bool) => OrdI vs L0 (L0.length + vs.length) L2 ∧ (ag2 = false → L2 = L1) ∧ (ag2 = true → cntOut vs.length L2 < cntOut vs.length L1)
   let At := fun (L2 : List Nat) (ag2 : Bool) (b2 n2 m2 : Nat) (i : Nat) (E : Env) (H2 : Heap) => E 0 = .lit (.slice (some ⟨vb, 0, none⟩) vs.length vc) ∧ E 1 = .sl 1 (some (b2, n2, m2)) (yyk L2) ∧
    E 5 = B ag2 ∧ E 6 = I i ∧ H2.get b2 = some (.tail n2 m2) ∧ H2.get vb = some (.cells cs)
   let J : Nat → Env → Heap → Prop := fun i E H2 => ∃ (L2 : List Nat) (ag2 : Bool) (b n1 m1 : Nat), St L2 ag2 ∧ (ag2 = false → ∀ j, j < i → ClosedAt vs L1 j) ∧ At L2 ag2 b n1 m1 i E H2
   refine yyc vs.length J
    ⟨L1, false, b, n1, m1, ⟨hI1, fun _ => rfl, by simp⟩, by simp, e0, e1, rfl, rfl, hb1, hg1⟩ ?_
   rintro i E H2 hi ⟨L2, ag2, b2, n2, m2, hSt, hcl2, f0, f1, f5, f6, hb2, hg2⟩
   simp only [go_sem, rE, rA, f0, f1, f6, hlim]
   refine zzn (fun hlt => ?_) (fun hge => ?_)
   ·have hi1 : i < vs.length := by omega
    obtain ⟨r0, r1, r2, r3, r4, r5⟩ := hrow hi1
    have w1 := yya (n := (i : Int) + 1) (by omega) (by omega)
    have hlen2 : L2.length ≤ L0.length + vs.length := by have := hSt.1.cnt; omega
    simp only [go_sem, rE, rA, f0, f1, f6, hlt, hg2, r5]
    have skip : ∀ (E' : Env), E' 0 = .lit (.slice (some ⟨vb, 0, none⟩) vs.length vc) → E' 1 = .sl 1 (some (b2, n2, m2)) (yyk L2) → E' 5 = B ag2 → E' 6 = I (i + 1 : Nat) → ClosedAt vs L2 i →
     i < vs.length ∧ ∃ H'', Heap.sub H'' H2 ∧ J (i + 1) E' H'' := by
     intro E' g0 g1 g5 g6 hc'
     refine ⟨hi1, H2, Heap.zzm _, L2, ag2, b2, n2, m2, hSt, fun ha j hj => ?_, g0, g1, g5, g6, hb2, hg2⟩
     by_cases hji : j = i
     ·subst hji; rw [← hSt.2.1 ha]; exact hc'
     ·exact hcl2 ha j (by omega)
    by_cases hd : vs[i].dead = true
    ·simp only [go_sem, rE, rA, f0, f1, f6, hd, w1]
     exact skip _ (f0) (f1) (f5) (rfl) (.inr fun _ => .inl hd)
    simp only [Bool.not_eq_true] at hd
    by_cases hl : vs[i].lent = false
    ·simp only [go_sem, rE, rA, f0, f1, f6, hd, hl, w1, hlt, hg2, r1]
     exact skip _ (f0) (f1) (f5) (rfl) (.inr fun _ => .inr (.inl hl))
    simp only [Bool.not_eq_false] at hl
    simp only [go_sem, rE, rA, f0, f1, f6, hd, hl, w1, hlt, hg2, r1]
    refine zzc (c_l3AmongN L L2 i (some (b2, n2, m2)) (by omega)) (rfl) ?_
    by_cases hm : i ∈ L2
    ·simp only [go_sem, rE, rA, f0, f1, f6, hm, w1]
     exact skip _ (f0) (f1) (f5) (rfl) (.inl hm)
    simp only [go_sem, rE, rA, f0, f1, f6, hm]
    have hll : vs[i].loans.length ≤ 2 ^ 20 := hlo _ (List.getElem_mem hi1)
    let J2 : Nat → Env → Heap → Prop := fun k E H2 => E 7 = I k ∧ ∃ (L2 : List Nat) (ag2 : Bool) (b n1 m1 : Nat), St L2 ag2 ∧ (ag2 = false → (∀ j, j < i → ClosedAt vs L1 j) ∧ i ∉ L1 ∧
     ∀ k', k' < k → ∀ (h : k' < vs[i].loans.length), ∀ j ∈ L1, ∀ (hj : j < vs.length), vs[j].name ≠ vs[i].loans[k'].name) ∧ At L2 ag2 b n1 m1 i E H2
    refine yyc vs[i].loans.length J2 ⟨rfl, L2, ag2, b2, n2, m2, hSt, fun ha => ⟨hcl2 ha, by rw [← hSt.2.1 ha]; exact hm, by simp⟩, f0, f1, f5, f6, hb2, hg2⟩ ?_
    clear skip hm hSt hcl2 hb2 f0 f1 f5 f6 hg2 hlen2
    rintro k E H2 hk ⟨f7, L2, ag2, b2, n2, m2, hSt, hcl2, f0, f1, f5, f6, hb2, hg2⟩
    simp only [go_sem, rE, rA, f0, f1, f6, f7, hlt, hg2, r4, List.length_map]
    refine zzn (fun hltk => ?_) (fun hgek => ?_)
    ·have hk1 : k < vs[i].loans.length := by omega
     simp only [go_sem, rE]
     let J3 : Nat → Env → Heap → Prop := fun n E H2 => E 8 = I n ∧ E 7 = I k ∧ ∃ (L2 : List Nat) (ag2 : Bool) (b n1 m1 : Nat), St L2 ag2 ∧ n ≤ L2.length ∧ (ag2 = false → (∀ j, j < i → ClosedAt vs L1 j) ∧ i ∉ L1 ∧
      (∀ k', k' < k → ∀ (h : k' < vs[i].loans.length), ∀ j ∈ L1, ∀ (hj : j < vs.length), vs[j].name ≠ vs[i].loans[k'].name) ∧
      ∀ n', n' < n → ∀ (h : n' < L1.length), ∀ (hj : L1[n'] < vs.length), vs[L1[n']].name ≠ vs[i].loans[k].name) ∧ At L2 ag2 b n1 m1 i E H2
     refine yyc (L0.length + vs.length) J3 ⟨rfl, f7, L2, ag2, b2, n2, m2, hSt, by omega, fun ha => ⟨(hcl2 ha).1, (hcl2 ha).2.1, (hcl2 ha).2.2, by simp⟩, f0, f1, f5, f6, hb2, hg2⟩ ?_
     clear hSt hcl2 hb2 f0 f1 f5 f6 f7 hg2
     rintro n E H2 hn ⟨f8, f7, L2, ag2, b2, n2, m2, hSt, hn2, hcl2, f0, f1, f5, f6, hb2, hg2⟩
     have hlen2 : L2.length ≤ L0.length + vs.length := by have := hSt.1.cnt; omega
     simp only [go_sem, rE, rA, f0, f1, f6, f7, f8, natRows_len]
     refine zzn (fun hltn => ?_) (fun hgen => ?_)
     ·have hn1 : n < L2.length := by omega
      have hj1 := hSt.1.lt _ (List.getElem_mem hn1)
      have hj1' : (L2[n] : Int) < vs.length := by omega
      have w2 := yya (n := (n : Int) + 1) (by omega) (by omega)
      simp only [go_sem, rE, rA, f0, f1, f6, f7, f8, natRows_get hn1, hj1', hlt, hg2, r4, (hrow hj1).1, loan_get hk1]
      by_cases he : vs[L2[n]].name = vs[i].loans[k].name
      ·simp only [go_sem, rE, rA, he]
       refine zzc (c_l3AmongN L L2 i (some (b2, n2, m2)) (by omega)) (by simp only [go_sem, rE, f1, f6]) ?_
       by_cases hm : i ∈ L2
       ·simp only [go_sem, rE, rA, hm, f8, w2]
        have hag : ag2 = true := by
         cases ag2
         ·exact absurd (hSt.2.1 rfl ▸ hm) (hcl2 rfl).2.1
         ·rfl
        subst hag
        exact ⟨by omega, H2, Heap.zzm _, rfl, f7, L2, true, b2, n2, m2, hSt, hn1, by simp, f0, f1, f5, f6, hb2, hg2⟩
       ·simp only [go_sem, rE, rA, hm, f1, f6, List.replicate, List.flatten_cons, List.flatten_nil]
        refine run_appT (es := yyk L2) (ys := yyk [i]) (rfl) hb2 (by simp [go_sem, chunk, yyk]) (by simp [yyk]) (by simp [yyk]; omega) ?_
        intro b' n' m' H' fp hb' hkeep _ _
        have hvb : H'.get vb = some (.cells cs) := by
         rw [hkeep vb (by rw [hg2]; simp) (by rintro rfl; rw [hb2] at hg2; simp at hg2)]; exact hg2
        have hsnoc := cntOut_snoc hi1 hm
        simp only [go_sem, rE, rA, f8, w2]
        refine ⟨by omega, H', Heap.zzm _, rfl, f7, L2 ++ [i], true, b', n', m', ⟨⟨fun j hj => by simp [hSt.1.sub j hj], fun j hj => ?_, fun j hj => ?_, by simp; have := hSt.1.cnt; omega⟩, by simp, fun _ => ?_⟩, by simp; omega, by simp,
         by simp [go_sem, f0], by simp [go_sem, yyk], by simp [go_sem], by simp [go_sem, f6], hb', hvb⟩
        ·rcases List.mem_append.1 hj with hj | hj
         ·exact hSt.1.end_ j hj
         ·simp at hj; subst hj
          exact .step hi1 hd hl (List.getElem_mem hk1) (hSt.1.end_ _ (List.getElem_mem hn1)) hj1 he
        ·rcases List.mem_append.1 hj with hj | hj
         ·exact hSt.1.lt j hj
         ·simp at hj; subst hj; exact hi1
        ·cases ag2
         ·have := hSt.2.1 rfl; subst this; omega
         ·have := hSt.2.2 rfl; omega
      ·simp only [go_sem, rE, rA, he, f8, w2]
       refine ⟨by omega, H2, Heap.zzm _, rfl, f7, L2, ag2, b2, n2, m2, hSt, hn1, fun ha => ⟨(hcl2 ha).1, (hcl2 ha).2.1, (hcl2 ha).2.2.1, fun n' hn' hl' hj' => ?_⟩, f0, f1, f5, f6, hb2, hg2⟩
       by_cases hnn : n' = n
       ·subst hnn
        have := hSt.2.1 ha; subst this; exact he
       ·exact (hcl2 ha).2.2.2 n' (by omega) hl' hj'
     ·have hnn : n = L2.length := by omega
      have w2 := yya (n := (k : Int) + 1) (by omega) (by omega)
      simp only [go_sem, rE, f7, w2]
      refine ⟨hk1, H2, Heap.zzm _, rfl, L2, ag2, b2, n2, m2, hSt, fun ha => ⟨(hcl2 ha).1, (hcl2 ha).2.1, fun k' hk' hkl j hj hjl => ?_⟩, f0, f1, f5, f6, hb2, hg2⟩
      by_cases hkk : k' = k
      ·subst hkk
       obtain ⟨n', hn', rfl⟩ := List.mem_iff_getElem.1 hj
       have := hSt.2.1 ha; subst this
       exact (hcl2 ha).2.2.2 n' (by omega) hn' hjl
      ·exact (hcl2 ha).2.2.1 k' (by omega) hkl j hj hjl
    ·have hkk : k = vs[i].loans.length := by omega
     simp only [go_sem, rE, f6, w1]
     refine ⟨hi1, H2, Heap.zzm _, L2, ag2, b2, n2, m2, hSt, fun ha j hj => ?_, f0, f1, f5, rfl, hb2, hg2⟩
     by_cases hji : j = i
     ·subst hji
      refine .inr fun hj' => .inr (.inr fun q hq j' hj'' hjl => ?_)
      obtain ⟨k', hk', rfl⟩ := List.mem_iff_getElem.1 hq
      exact (hcl2 ha).2.2 k' (by omega) hk' j' hj'' hjl
     ·exact (hcl2 ha).1 j (by omega)
   ·have : i = vs.length := by omega
    subst this
    simp only [go_sem, rE, f0, f1, f5]
    cases ag2
    ·have h21 := hSt.2.1 rfl
     subst h21
     refine ⟨2 * cntOut vs.length L2, by simp, H2, Heap.zzm _, L2, false, b2, n2, m2, by simp, hI1, fun _ => hcl2 rfl, ?_⟩
     simp only [go_sem, rE, f5, hb2, hg2]
    ·have := hSt.2.2 rfl
     refine ⟨2 * cntOut vs.length L2 + 1, by simp; omega, H2, Heap.zzm _, L2, true, b2, n2, m2, by simp, hSt.1, by simp, ?_⟩
     simp only [go_sem, rE, f5, hb2, hg2]
end
end Go.Xl
namespace Go.Xl
open Nat renaming reduceEqDiff → rE, reduceAdd → rA, reduceLeDiff → rL
def nameIs (vs : List Vr) (n : Nat) (s : ByteArray) : Bool := match vs[n]? with
 | some v => decide (v.name = s)
 | none => false
def meets1 (vs : List Vr) (p : Pl) (out : List Nat) (q : Pl) : Bool := p.meet q || out.any fun n => nameIs vs n q.name
def endsStep (vs : List Vr) (p : Pl) (out : List Nat) (i : Nat) : List Nat := match vs[i]? with
 | some v => if v.dead = false ∧ v.lent = true ∧ v.loans.any (meets1 vs p out) = true then out ++ [i] else out
 | none => out
def xxd (vs : List Vr) (p : Pl) : Nat → List Nat
 | 0 => []
 | j + 1 => endsStep vs p (xxd vs p j) (vs.length - 1 - j)
noncomputable def endsL (vs : List Vr) (p : Pl) : List Nat := ordL vs (xxd vs p vs.length)
theorem rawEnds_lt (vs : List Vr) (p : Pl) : ∀ j, ∀ i ∈ xxd vs p j, i < vs.length
 | 0, i, h => by simp [xxd] at h
 | j + 1, i, h => by
   simp only [xxd, endsStep] at h
   split at h
   ·rename_i v hv
    obtain ⟨hl, -⟩ := List.getElem?_eq_some_iff.1 hv
    split at h
    ·rcases List.mem_append.1 h with h | h
     ·exact rawEnds_lt vs p j i h
     ·simp at h; omega
    ·exact rawEnds_lt vs p j i h
   ·exact rawEnds_lt vs p j i h
theorem rawEnds_len (vs : List Vr) (p : Pl) : ∀ j, (xxd vs p j).length ≤ j
 | 0 => by simp [xxd]
 | j + 1 => by
   have ih := rawEnds_len vs p j
   simp only [xxd, endsStep]
   split
   ·split
    ·simp; omega
    ·omega
   ·omega
section
variable {P : Program} {F : Ids}
structure Vr.ok (v : Vr) : Prop where
 loans : v.loans.length ≤ 2 ^ 20
 paths : ∀ q ∈ v.loans, q.path.length ≤ 2 ^ 20
theorem RowAt.blk {H : Heap} {sz : Nat} {rows : List (List AC)} {x : AC} (h : RowAt H sz rows x) {d : Nat} (hd : blkOf x d) : ∃ cs, H.get d = some (.cells cs) := by
 obtain ⟨n, c, rfl⟩ := hd
 rcases h with ⟨-, h⟩ | ⟨b, c', cs, h, hg, -⟩
 ·simp at h
 ·simp at h; obtain ⟨rfl, -⟩ := h; exact ⟨_, hg⟩
theorem RowAt.sub {H H' : Heap} {sz : Nat} {rows : List (List AC)} {x : AC} (h : RowAt H sz rows x) (hs : H.sub H') : RowAt H' sz rows x :=
 h.mono fun d hd => by obtain ⟨cs, hc⟩ := h.blk hd; rw [hs _ _ hc, hc]
theorem Heap.sub.new {H H' : Heap} (h : H.sub H') {b : Nat} (hb : H'.get b = none) (o : HObj) : H.sub (H'.set b o) := by
 intro c q hc
 have := h c q hc
 rw [Heap.zza _ _ (by rintro rfl; rw [hb] at this; simp at this)]; exact this
theorem c_ends (L : Lib P F) (e : Nat) (v : En) (VS NS : AC) (H : Heap) (h : EnvAt H e v VS NS) (hl : v.vars.length ≤ 2 ^ 20) (ho : ∀ x ∈ v.vars, x.ok) (p : Pl) (hp : p.path.length ≤ 2 ^ 20) :
 ACalls P F.s_l3Env_ends [.ptr e 0, .agg p.enc] H fun q H' => q = .sl 1 none (yyk (endsL v.vars p)) ∧ H' = H := by
 refine L.s_l3Env_ends (by simp [x_s_l3Env_ends]) ?_
 obtain ⟨pg, fn, vs, names, code⟩ := v
 obtain ⟨hob, hv, hns⟩ := h
 simp only [EnvO] at hob hv hns hl ho
 have fin : ∀ (E : Env) (H1 : Heap) (b n m : Nat), E 0 = .ptr e 0 → E 5 = .sl 1 (some (b, n, m)) (yyk (xxd vs p vs.length)) → H1.get b = some (.tail n m) → H.sub H1 → H.get b = none →
  (XCode.seq (rg [mv 0 99 0, nc 1 100 99, fa 2 101 2 100, ld 3 102 none 101, mv 4 103 5, ca 5 104 F.s_l3Order [102, 103], mv 6 4 104]) .ret).wp P
   (XFunc.post [.slot 4] fun q H' => q = .sl 1 none (yyk (endsL vs p)) ∧ H' = H) E H1 := by
  intro E H1 b n m e0 e5 hb hs hbn
  simp only [go_sem, rE, e0, hs _ _ hob, e5]
  have hv1 := hv.sub hs
  let S := fun d => blkOf VS d ∨ d = b
  refine run_callS S (c_l3Order L vs VS (xxd vs p vs.length) (.sl 1 (some (b, n, m)) (yyk (xxd vs p vs.length))) (H1.only S) (RowAt.mono hv1 fun d hd => Heap.xxf (.inl hd)) ⟨b, n, m, rfl, by rw [Heap.xxf (.inr rfl)]; exact hb⟩
   (rawEnds_lt vs p _) hl (Nat.le_trans (rawEnds_len vs p _) hl) fun x hx => (ho x hx).loans) (rfl) (.refl _) (by simp) trivial ?_
  rintro q H' H2 ⟨rfl, rfl⟩ hsub hafter - -
  simp only [go_sem, rE]
  refine zzd (q' := .sl 1 none (yyk (endsL vs p))) (by simp only [go_sem, rE]; exact .refl _) (H' := H) (fun d o hd => ?_) ⟨rfl, rfl⟩
  have hd1 := hs _ _ hd
  by_cases hSd : blkOf VS d
  ·refine hsub d o ?_
   rw [Heap.xxf hSd, Heap.xxf (.inl hSd)]; exact hd1
  ·have hn : ¬ S d := fun h => h.elim hSd (fun h => by subst h; rw [hbn] at hd; simp at hd)
   rw [hafter.out d hn (by rw [hd1]; simp)]; exact hd1
 simp only [x_s_l3Env_ends, go_sem, rE, Pl.enc]
 intro pb hpb ob hob'
 have hs1 : H.sub (H.set pb (.cells [S p.name, zze p.path])) := sub_set hpb
 have hs2 := hs1.new hob' (.tail 0 0)
 have hpo : pb ≠ ob := by rintro rfl; simp at hob'
 have hobn : H.get ob = none := by rw [Heap.zza _ _ (Ne.symm hpo)] at hob'; exact hob'
 rcases hv with ⟨hv, rfl⟩ | ⟨vb, vc, cs, rfl, hg, hc, hvc, hcs⟩
 ·have hvs : vs = [] := by simpa using hv
  subst hvs
  have w1 := yya (n := (0 : Int) - 1) (by omega) (by omega)
  simp only [go_sem, rE, hs2 _ _ hob, w1]
  refine yyc 0 (fun k E H1 => E 0 = .ptr e 0 ∧ E 5 = .sl 1 (some (ob, 0, 0)) [] ∧ H1.get ob = some (.tail 0 0) ∧ H.sub H1 ∧ E 6 = I (-1)) ⟨rfl, rfl, Heap.zzb _ _ _, hs2, rfl⟩ ?_
  rintro k E H1 - ⟨e0, e5, hb, hs, e6⟩
  simp only [wp_seq, go_sem, rE, e6]
  refine zzn (fun h => absurd h (by decide)) (fun _ => ?_)
  simp only [wp_exit, then_exit, xxi, xxa]
  exact fin _ _ ob 0 0 (e0) (by simp [go_sem, e5, xxd, yyk]) hb hs hobn
 ·have hrow := fun {k : Nat} (hk : k < vs.length) => var_row (H := H) (b := vb) (c := vc) hcs hk
  have hlim : vs.length ≤ LIM := by simp [LIM]; omega
  simp only [List.length_map] at *
  have w1 := yya (n := (vs.length : Int) - 1) (by omega) (by omega)
  simp only [go_sem, rE, hs2 _ _ hob, w1, hlim]
  let At := fun (k b n m : Nat) (out : List Nat) (E : Env) (H1 : Heap) => E 0 = .ptr e 0 ∧ E 3 = .ptr pb 0 ∧ E 5 = .sl 1 (some (b, n, m)) (yyk out) ∧ E 6 = I (vs.length - 1 - k) ∧ H1.get b = some (.tail n m) ∧ H.get b = none ∧ H.sub H1 ∧
   H1.get pb = some (.cells [S p.name, zze p.path])
  let J : Nat → Env → Heap → Prop := fun k E H1 => k ≤ vs.length ∧ ∃ b n m, At k b n m (xxd vs p k) E H1
  refine yyc vs.length J ⟨by omega, ob, 0, 0, by simp [go_sem], by simp [go_sem], by simp [go_sem, xxd, yyk], by simp [go_sem], Heap.zzb _ _ _, hobn, hs2, by rw [Heap.zza _ _ hpo, Heap.zzb]⟩ ?_
  rintro k E H1 hk ⟨-, b, n, m, e0, e3, e5, e6, hb, hbn, hs, hp1⟩
  have hob1 := hs _ _ hob
  have hg1 := hs _ _ hg
  simp only [wp_seq, go_sem, rE, e6]
  refine zzn (fun hge => ?_) (fun hlt => ?_)
  ·have hi : vs.length - 1 - k < vs.length := by omega
   have hkk : ((vs.length : Int) - 1 - k) = ((vs.length - 1 - k : Nat) : Int) := by omega
   obtain ⟨r0, r1, r2, r3, r4, r5⟩ := hrow hi
   have hvi : vs[vs.length - 1 - k]? = some vs[vs.length - 1 - k] := List.getElem?_eq_getElem hi
   have hraw : xxd vs p (k + 1) = endsStep vs p (xxd vs p k) (vs.length - 1 - k) := rfl
   simp only [endsStep, hvi] at hraw
   have hvo := ho _ (List.getElem_mem hi)
   generalize hix : vs.length - 1 - k = i at *
   generalize hxv : vs[i] = x at *
   have hlt : (i : Int) < vs.length := by omega
   have w2 := yya (n := (i : Int) - 1) (by omega) (by omega)
   have hnext : ∀ (E' : Env) (H2 : Heap) (b n m : Nat) (out : List Nat), E' 0 = .ptr e 0 → E' 3 = .ptr pb 0 → E' 5 = .sl 1 (some (b, n, m)) (yyk out) → E' 6 = I ((i : Int) - 1) → H2.get b = some (.tail n m) → H.get b = none → H.sub H2 →
    H2.get pb = some (.cells [S p.name, zze p.path]) → xxd vs p (k + 1) = out → k < vs.length ∧ ∃ H'', Heap.sub H'' H2 ∧ J (k + 1) E' H'' := by
    rintro E' H2 b n m out g0 g3 g5 g6 g7 g8 g9 g10 rfl
    exact ⟨by omega, H2, Heap.zzm _, by omega, b, n, m, g0, g3, g5, by rw [g6]; exact congrArg (fun z : Int => I z) (by omega), g7, g8, g9, g10⟩
   simp only [go_sem, rE, rA, e0, e6, hob1, hkk, hlt, hg1, r5]
   by_cases hd : x.dead = true
   ·simp only [go_sem, rE, rA, hd, e6, hkk, w2]
    exact hnext _ _ b n m (xxd vs p k) (e0) (e3) (e5) (rfl) hb hbn hs hp1 (by rw [hraw]; simp [hd])
   simp only [Bool.not_eq_true] at hd
   by_cases hle : x.lent = false
   ·simp only [go_sem, rE, rA, hd, e0, e6, hob1, hkk, hlt, hg1, r1, hle, w2]
    exact hnext _ _ b n m (xxd vs p k) (e0) (e3) (e5) (rfl) hb hbn hs hp1 (by rw [hraw]; simp [hle])
   simp only [Bool.not_eq_false] at hle
   simp only [go_sem, rE, rA, hd, e0, e6, hob1, hkk, hlt, hg1, r1, hle]
   simp only [hd, hle, true_and] at hraw
   let At2 := fun (c : Bool) (E : Env) (H1 : Heap) => At k b n m (xxd vs p k) E H1 ∧ E 7 = B c
   let J2 : Nat → Env → Heap → Prop := fun j E H1 => At2 ((x.loans.take j).any (meets1 vs p (xxd vs p k))) E H1 ∧ E 8 = I j
   refine yyc x.loans.length J2 ⟨⟨⟨e0, e3, e5, e6, hb, hbn, hs, hp1⟩, rfl⟩, rfl⟩ ?_
   clear hb hs hp1 hob1 hg1 e0 e3 e5 e6
   rintro j E H1 hj ⟨⟨⟨e0, e3, e5, e6, hb, -, hs, hp1⟩, e7⟩, e8⟩
   have hob1 := hs _ _ hob
   have hg1 := hs _ _ hg
   have hloans := hvo.loans
   simp only [go_sem, rE, rA, e0, e6, e8, hob1, hkk, hix, hlt, hg1, r4, List.length_map]
   refine zzn (fun hltj => ?_) (fun hgej => ?_)
   ·have hj1 : j < x.loans.length := by omega
    have w3 := yya (n := (j : Int) + 1) (by omega) (by omega)
    have hpath := hvo.paths _ (List.getElem_mem hj1)
    simp only [go_sem, rE, rA, e0, e6, e8, hob1, hkk, hix, hlt, hg1, r4, loan_get hj1]
    intro qb hqb
    have hpq : pb ≠ qb := by rintro rfl; rw [hp1] at hqb; simp at hqb
    have hbq : b ≠ qb := by rintro rfl; rw [hb] at hqb; simp at hqb
    have heq : e ≠ qb := by rintro rfl; rw [hob1] at hqb; simp at hqb
    have hvq : vb ≠ qb := by rintro rfl; rw [hg1] at hqb; simp at hqb
    have htk : x.loans.take (j + 1) = x.loans.take j ++ [x.loans[j]] := List.take_succ_eq_append_getElem hj1
    have hsq : H.sub (H1.set qb (.cells [S x.loans[j].name, zze x.loans[j].path])) := hs.new hqb _
    have hc := c_l3Meet L p x.loans[j] (Nat.le_trans hp (by decide))
    simp only [Pl.enc] at hc
    have inner : ∀ (E' : Env) (c0 : Bool) (H2 : Heap), c0 = ((x.loans.take j).any (meets1 vs p (xxd vs p k)) || p.meet x.loans[j]) → At k b n m (xxd vs p k) E' H2 → E' 7 = B c0 → E' 8 = I j → E' 9 = .ptr qb 0 → E' 10 = I 0 →
     H2.get qb = some (.cells [S x.loans[j].name, zze x.loans[j].path]) →
     ∀ K : XExit → Env → Heap → Prop, (∀ E2 H3, At2 ((x.loans.take (j + 1)).any (meets1 vs p (xxd vs p k))) E2 H3 → E2 8 = I j → K .normal E2 H3) →
     (XCode.wp P (.block 4 (.loop (.seq (.seq (rg [mv 0 71 10, mv 1 72 5, pu 2 73 (.lenSl 72), pu 3 74 (.bin .lss 71 73)]) (.cond 74 .skip (.exit 4))) (.seq (.block 5 (.region true [mv 0 77 7, mv 1 78 77, gp 2 79 78 false (.move 0), gp 3 80 78 false (.nilCheck 79), gp 4 81 78 false (.fieldAddr 2 80), gl 5 82 78 false none 81, gp 6 83 78 false (.move 5), gp 7 84 78 false (.move 10), gp 8 85 78 false (.indexAddr 1 83 84), gl 9 86 78 false none 85, gp 10 87 78 false (.indexAddr 6 82 86), gp 11 88 78 false (.fieldAddr 0 87), gl 12 89 78 false none 88, gp 13 90 78 false (.fieldAddr 0 9), gl 14 91 78 false none 90, gp 15 92 78 false (.bin .eql 89 91), pu 16 93 (.pick 78 ct 92), mv 17 7 93])) (rg [mv 0 75 10, pu 1 76 (.bin .add 75 (ci 1)), mv 2 10 76]))))) K E' H2) := by
     rintro E' c0 H2 hc0 hAt e7 e8 e9 e10 hq K hK
     simp only [wp_block]
     let J3 : Nat → Env → Heap → Prop := fun n' E H2 => n' ≤ (xxd vs p k).length ∧ At k b n m (xxd vs p k) E H2 ∧ E 7 = B (c0 || ((xxd vs p k).take n').any fun n => nameIs vs n x.loans[j].name) ∧ E 8 = I j ∧ E 9 = .ptr qb 0 ∧ E 10 = I n' ∧ H2.get qb = some (.cells [S x.loans[j].name, zze x.loans[j].path])
     refine yyc (xxd vs p k).length J3 ⟨by omega, hAt, by simp [e7], e8, e9, by simpa using e10, hq⟩ ?_
     clear hAt e7 e8 e9 e10 hq
     rintro n' E H2 hn' ⟨-, ⟨e0, e3, e5, e6, hb, hbn, hs, hp1⟩, e7, e8, e9, e10, hq⟩
     have hob1 := hs _ _ hob
     have hg1 := hs _ _ hg
     have hlr := rawEnds_len vs p k
     simp only [go_sem, rE, rA, e10, e5, natRows_len]
     refine zzn (fun hltn => ?_) (fun hgen => ?_)
     ·have hn1 : n' < (xxd vs p k).length := by omega
      have hjl := rawEnds_lt vs p k _ (List.getElem_mem hn1)
      have hjl' : (((xxd vs p k)[n'] : Nat) : Int) < vs.length := by omega
      have w4 := yya (n := (n' : Int) + 1) (by omega) (by omega)
      have htn : ((xxd vs p k).take (n' + 1)).any (fun n => nameIs vs n x.loans[j].name) = (((xxd vs p k).take n').any (fun n => nameIs vs n x.loans[j].name) || decide (vs[(xxd vs p k)[n']].name = x.loans[j].name)) := by
       rw [List.take_succ_eq_append_getElem hn1, List.any_append]
       simp [nameIs, hjl]
      cases hc1 : (c0 || ((xxd vs p k).take n').any fun n => nameIs vs n x.loans[j].name)
      ·rw [hc1] at e7
       simp only [go_sem, rE, rA, e0, e5, e7, e9, e10, hob1, natRows_get hn1, hjl', hg1, (hrow hjl).1, hq, w4]
       refine ⟨hn1, H2, Heap.zzm _, by omega, ⟨e0, e3, e5, e6, hb, hbn, hs, hp1⟩, ?_, e8, e9, rfl, hq⟩
       rw [htn, ← Bool.or_assoc, hc1]; simp [go_sem]
      ·rw [hc1] at e7
       simp only [go_sem, rE, rA, e7, e10, w4]
       refine ⟨hn1, H2, Heap.zzm _, by omega, ⟨e0, e3, e5, e6, hb, hbn, hs, hp1⟩, ?_, e8, e9, rfl, hq⟩
       rw [htn, ← Bool.or_assoc, hc1]; simp [go_sem]
     ·have hnn : n' = (xxd vs p k).length := by omega
      subst hnn
      rw [List.take_length] at e7
      simp only [wp_exit, then_exit, xxi]
      refine hK _ _ ⟨⟨e0, e3, e5, e6, hb, hbn, hs, hp1⟩, ?_⟩ (e8)
      simp only [go_sem, rE, e7]
      rw [htk, List.any_append, hc0, Bool.or_assoc]
      simp [meets1]
    have back : ∀ E2 H3, At2 ((x.loans.take (j + 1)).any (meets1 vs p (xxd vs p k))) E2 H3 → E2 8 = I j →
     rrun P false (fun E' H' => j < x.loans.length ∧ ∃ H'', H''.sub H' ∧ J2 (j + 1) E' H'') [mv 0 52 8, pu 1 53 (.bin .add 52 (ci 1)), mv 2 8 53] E2 H3 [] [] := by
     rintro E2 H3 ⟨⟨e0, e3, e5, e6, hb, -, hs, hp1⟩, e7⟩ e8
     simp only [go_sem, rE, e8, w3]
     exact ⟨hj1, H3, Heap.zzm _, ⟨⟨e0, e3, e5, e6, hb, hbn, hs, hp1⟩, e7⟩, rfl⟩
    cases hc0 : (x.loans.take j).any (meets1 vs p (xxd vs p k))
    ·rw [hc0] at e7
     simp only [wp_seq, go_sem, rE, rA, e7, e3, hp1, hpq]
     refine zzc hc (rfl) ?_
     simp only [go_sem, rE, rA]
     refine inner _ (p.meet x.loans[j]) _ (by simp [hc0]) ⟨by simp [go_sem, e0], by simp [go_sem, e3], by simp [go_sem, e5], by simp [go_sem, e6], by rw [Heap.zza _ _ hbq]; exact hb, hbn, hsq, by rw [Heap.zza _ _ hpq]; exact hp1⟩ (by simp [go_sem, e7]) (by simp [go_sem, e8]) (by simp [go_sem]) (by simp [go_sem]) (by simp) _ ?_
     intro E2 H3 hA2 h8
     simp only [inBlock_normal, xxa, wp_region]
     exact back E2 H3 hA2 h8
    ·rw [hc0] at e7
     simp only [wp_seq, go_sem, rE, rA, e7]
     refine inner _ true _ (by simp [hc0]) ⟨by simp [go_sem, e0], by simp [go_sem, e3], by simp [go_sem, e5], by simp [go_sem, e6], by rw [Heap.zza _ _ hbq]; exact hb, hbn, hsq, by rw [Heap.zza _ _ hpq]; exact hp1⟩ (by simp [go_sem, e7]) (by simp [go_sem, e8]) (by simp [go_sem]) (by simp [go_sem]) (by simp) _ ?_
     intro E2 H3 hA2 h8
     simp only [inBlock_normal, xxa, wp_region]
     exact back E2 H3 hA2 h8
   ·have hjj : j = x.loans.length := by omega
    subst hjj
    rw [List.take_length] at e7
    have hrl := rawEnds_len vs p k
    cases hc0 : x.loans.any (meets1 vs p (xxd vs p k))
    ·rw [hc0] at e7 hraw
     simp only [go_sem, rE, rA, e7, e6, hkk, hix, w2]
     exact hnext _ _ b n m (xxd vs p k) (e0) (e3) (e5) (rfl) hb hbn hs hp1 (by rw [hraw]; simp)
    ·rw [hc0] at e7 hraw
     simp only [go_sem, rE, rA, e7, e5, e6, hkk, hix, List.replicate, List.flatten_cons, List.flatten_nil]
     refine run_appT (es := yyk (xxd vs p k)) (ys := yyk [i]) (rfl) hb (by simp [go_sem, chunk, yyk]) (by simp [yyk]) (by simp [yyk]; omega) ?_
     intro b' n' m' H' fp hb' hkeep hbb _
     have hs' : H.sub H' := by
      intro d o hd
      have hd1 := hs _ _ hd
      rw [hkeep d (by rw [hd1]; simp) (by rintro rfl; rw [hbn] at hd; simp at hd)]; exact hd1
     have hpb' : H'.get pb = some (.cells [S p.name, zze p.path]) := by
      rw [hkeep pb (by rw [hp1]; simp) (by rintro rfl; rw [hb] at hp1; simp at hp1)]; exact hp1
     have hbn' : H.get b' = none := by
      rcases hbb with rfl | h
      ·exact hbn
      ·rcases Option.eq_none_or_eq_some (H.get b') with e | ⟨o, e⟩
       ·exact e
       ·rw [hs _ _ e] at h; simp at h
     simp only [go_sem, rE, rA, e6, hkk, hix, w2]
     exact hnext _ _ b' n' m' (xxd vs p k ++ [i]) (by simp [go_sem, e0]) (by simp [go_sem, e3]) (by simp [go_sem, yyk]) (by simp [go_sem]) hb' hbn' hs' hpb' (by rw [hraw]; simp)
  ·have hkk : k = vs.length := by omega
   subst hkk
   simp only [wp_exit, then_exit, xxi, xxa]
   exact fin _ _ b n m (e0) (e5) hb hs hbn
end
end Go.Xl
namespace Go.Xl
open Nat renaming reduceEqDiff → rE, reduceAdd → rA, reduceLeDiff → rL
theorem EnvAt.mem {H : Heap} {e : Nat} {v : En} {VS NS : AC} (h : EnvAt H e v VS NS) {d : Nat} (hd : yyb e VS NS d) : H.get d ≠ none := by
 rcases hd with rfl | hd | ⟨sz, n, m, es, hd⟩
 ·rw [h.obj]; simp
 ·obtain ⟨cs, hc⟩ := h.vars.blk hd; rw [hc]; simp
 ·subst hd
  rcases h.names with ⟨-, h'⟩ | ⟨b, n', m', h', hb⟩
  ·simp at h'
  ·simp at h'; obtain ⟨-, ⟨rfl, -⟩, -⟩ := h'; rw [hb]; simp
theorem EnvAt.only {H : Heap} {e : Nat} {v : En} {VS NS : AC} (h : EnvAt H e v VS NS) : EnvAt (H.only (yyb e VS NS)) e v VS NS :=
 h.mono fun d hd => Heap.xxf hd
theorem env_live (e N : Nat) (v : En) : ∃ H' VS NS, EnvAt H' e v VS NS ∧ ∀ b, H'.get b ≠ none → b = e ∨ N ≤ b := by
 let b1 := N + e + 1
 let b2 := N + e + 2
 let VS : AC := .lit (.slice (some ⟨b1, 0, none⟩) (v.vars.map Vr.enc).length (v.vars.map Vr.enc).length)
 let NS : AC := .sl 1 (some (b2, 0, 0)) (xxe v.names)
 refine ⟨((Heap.empty.set b2 (.tail 0 0)).set b1 (.cells (v.vars.map Vr.enc).flatten)).set e (EnvO v.p v.fn VS NS v.code), VS, NS, ⟨Heap.zzb _ _ _, ?_, ?_⟩, fun b hb => ?_⟩
 ·refine .inr ⟨b1, _, (v.vars.map Vr.enc).flatten, rfl, ?_, ?_, Nat.le_refl _, ?_⟩
  ·rw [Heap.zza _ _ (by omega), Heap.zzb]
  ·rw [xxg (sz := 6) (by simp [Vr.enc])]
  ·rw [List.take_of_length_le]; rw [xxg (sz := 6) (by simp [Vr.enc])]; omega
 ·refine .inr ⟨b2, 0, 0, rfl, ?_⟩
  rw [Heap.zza _ _ (by omega), Heap.zza _ _ (by omega), Heap.zzb]
 ·by_cases h1 : b = e
  ·exact .inl h1
  ·rw [Heap.zza _ _ h1] at hb
   by_cases h2 : b = b1
   ·exact .inr (by omega)
   ·rw [Heap.zza _ _ h2] at hb
    by_cases h3 : b = b2
    ·exact .inr (by omega)
    ·rw [Heap.zza _ _ h3] at hb; simp at hb
def EnvC (P : Program) (g : FuncId) (as : List AC) (e : Nat) (v : En) (R : AC → En → Prop) : Prop :=
 ∀ (H : Heap) (VS NS : AC), EnvAt H e v VS NS → ACalls P g as H fun q H' => ∃ v' VS' NS', R q v' ∧ EnvAt H' e v' VS' NS'
theorem EnvAt.setO {H : Heap} {e : Nat} {v : En} {VS NS : AC} (h : EnvAt H e v VS NS) (c : Int) : EnvAt (H.set e (EnvO v.p v.fn VS NS c)) e { v with code := c } VS NS := by
 refine ⟨Heap.zzb _ _ _, RowAt.mono h.vars fun d hd => Heap.zza _ _ ?_, h.names.set h.obj _⟩
 rintro rfl; exact EnvO_ne h.obj h.vars hd
section
variable {P : Program} {dr : Bool} {K : Env → Heap → Prop} {xs : List XOper} {E : Env} {H : Heap} {l : Lds} {f : Fps}
theorem run_env {i : Nat} {g : FuncId} {args : List XArg} {d : Option Nat} {inc : List Nat} {as as' : List AC} {e : Nat} {v : En} {VS NS : AC} {R : AC → En → Prop} (hc : EnvC P g as e v R) (hE : EnvAt H e v VS NS)
 (ha : args.map (XArg.ev E) = as') (hl : LeA as' as) (hlive : dr = true → ∃ q v', R q v') (hchk : chkE inc l (yyb e VS NS))
 (h : ∀ q v' VS' NS' H1 fp, R q v' → EnvAt H1 e v' VS' NS' → (∀ b o, H.get b = some o → ¬ yyb e VS NS b → H1.get b = some o ∧ ¬ yyb e VS' NS' b) →
  (∀ c, fp c → yyb e VS NS c ∨ H.get c = none) → rrun P dr K xs (E.put d q) H1 l ((i, fp) :: f)) :
 rrun P dr K (⟨i, d, none, .eff (.call g args), inc⟩ :: xs) E H l f := by
 have hge : ∀ b, (H.only (yyb e VS NS)).get b ≠ none ↔ yyb e VS NS b := by
  intro b
  by_cases hb : yyb e VS NS b
  ·simp only [Heap.xxf hb, hb, iff_true]; exact hE.mem hb
  ·simp [Heap.only_none hb, hb]
 refine run_callS (yyb e VS NS) (hc (H.only (yyb e VS NS)) VS NS hE.only) ha hl (fun hd N => ?_) ?_ ?_
 ·obtain ⟨q, v', hq⟩ := hlive hd
  obtain ⟨H', VS', NS', hE', hfar⟩ := env_live e N v'
  refine ⟨q, H', ⟨v', VS', NS', hq, hE'⟩, fun b hb hn => ?_⟩
  rcases hfar b hb with rfl | h
  ·rw [Heap.xxf (.inl rfl), hE.obj] at hn; simp at hn
  ·exact h
 ·have : (fun b => (H.only (yyb e VS NS)).get b ≠ none) = yyb e VS NS := by funext b; exact propext (hge b)
  rw [this]; exact hchk
 ·rintro q H' H1 ⟨v', VS', NS', hq, hE'⟩ hsub hafter hnew -
  refine h q v' VS' NS' H1 _ hq (hE'.mono fun d hd => ?_) (fun b o hb hn => ⟨by rw [hafter.out b hn (by rw [hb]; simp)]; exact hb, fun h => ?_⟩) (fun c hc => ?_)
  ·obtain ⟨o, ho⟩ := Option.ne_none_iff_exists'.1 (hE'.mem hd)
   rw [ho]; exact hsub _ _ ho
  ·rcases hnew b (hE'.mem h) with h | h
   ·exact hn h
   ·rw [hb] at h; simp at h
  ·rcases hc with hc | hc
   ·exact .inl ((hge c).1 hc)
   ·exact .inr hc
end
def vIdx (vs : List Vr) (n : ByteArray) : Option Nat := vs.findIdx? fun v => decide (v.name = n)
theorem varAt_eq (vs : List Vr) (n : ByteArray) : varAt vs n = match vIdx vs n with | some i => (i : Int) | none => -1 := rfl
def killAt (vs : List Vr) (i : Nat) : List Vr := vs.modify i fun v => { v with dead := true }
def kill (vs : List Vr) (L : List Nat) : List Vr := L.foldl killAt vs
theorem killAt_len (vs : List Vr) (i : Nat) : (killAt vs i).length = vs.length := by simp [killAt]
theorem kill_len : ∀ (L : List Nat) (vs : List Vr), (kill vs L).length = vs.length
 | [], vs => rfl
 | i :: L, vs => by simp only [kill, List.foldl_cons]; exact (kill_len L _).trans (killAt_len vs i)
noncomputable def En.use (v : En) (p : Pl) : En × Ty := match vIdx v.vars p.name with
 | none => ({ v with code := failC v.code 2 }, .mk [])
 | some i => match v.vars[i]? with
   | none => (v, .mk [])
   | some x =>
     let c1 := if x.dead then failC v.code 4 else v.code
     let c2 := if (x.type.atOk p.path).isSome then c1 else failC c1 3
     ({ v with code := c2, vars := kill v.vars (endsL v.vars p) }, (x.type.atOk p.path).getD (.mk []))
theorem rows_set {α : Type} {sz : Nat} : ∀ (rows : List (List α)) (i j : Nat) (x : α), (∀ e ∈ rows, e.length = sz) → j < sz →
 (rows.modify i fun r => r.set j x).flatten = rows.flatten.set (i * sz + j) x
 | [], i, j, x, _, _ => by simp
 | e :: rows, 0, j, x, h, hj => by
   have he : e.length = sz := h e (by simp)
   simp only [List.modify_zero_cons, List.flatten_cons, Nat.zero_mul, Nat.zero_add]
   rw [List.set_append_left _ _ (by omega)]
 | e :: rows, i + 1, j, x, h, hj => by
   have he : e.length = sz := h e (by simp)
   simp only [List.modify_succ_cons, List.flatten_cons]
   rw [rows_set rows i j x (fun e he => h e (by simp [he])) hj, List.set_append_right _ _ (by rw [he, Nat.add_mul]; omega)]
   congr 2
   rw [he, Nat.add_mul]; omega
theorem splice_set {α : Type} {cs : List α} {off : Nat} (x : α) (h : off < cs.length) : yyi cs off [x] = cs.set off x := by
 simp only [yyi, List.length_cons, List.length_nil, Nat.zero_add]
 rw [List.set_eq_take_append_cons_drop, if_pos h]; simp
theorem enc_killAt (vs : List Vr) (i : Nat) : (killAt vs i).map Vr.enc = (vs.map Vr.enc).modify i fun r => r.set 5 (B true) := by
 unfold killAt
 apply List.ext_getElem?
 intro k
 simp only [List.getElem?_map, List.getElem?_modify]
 cases vs[k]? with
 | none => rfl
 | some v => by_cases h : i = k <;> simp [h, Vr.enc]
theorem vars_kill {vs : List Vr} {cs : List AC} (hcs : cs.take ((vs.map Vr.enc).length * 6) = (vs.map Vr.enc).flatten) {i : Nat} (hi : i < vs.length) :
 (yyi cs (i * 6 + 5) [B true]).length = cs.length ∧ (yyi cs (i * 6 + 5) [B true]).take (((killAt vs i).map Vr.enc).length * 6) = ((killAt vs i).map Vr.enc).flatten := by
 have hlen := xxg (ys := vs.map Vr.enc) (sz := 6) (by simp [Vr.enc])
 have h1 : i * 6 + 5 < (vs.map Vr.enc).length * 6 := by simp; omega
 have h2 : (vs.map Vr.enc).length * 6 ≤ cs.length := by
  have := congrArg List.length hcs
  rw [hlen, List.length_take] at this; omega
 rw [splice_set _ (by omega)]
 refine ⟨by simp, ?_⟩
 have h3 : ((killAt vs i).map Vr.enc).length = (vs.map Vr.enc).length := by simp [killAt_len]
 rw [h3, List.take_set, hcs, enc_killAt, rows_set (sz := 6) _ _ _ _ (by simp [Vr.enc]) (by omega)]
theorem EnvAt.new {H : Heap} {e : Nat} {v : En} {VS NS : AC} (h : EnvAt H e v VS NS) {b : Nat} (hb : H.get b = none) (o : HObj) : EnvAt (H.set b o) e v VS NS :=
 h.mono fun d hd => Heap.zza _ _ (by rintro rfl; exact h.mem hd hb)
theorem EnvAt.notin {H : Heap} {e : Nat} {v : En} {VS NS : AC} (h : EnvAt H e v VS NS) {b : Nat} (hb : H.get b = none) : ¬ yyb e VS NS b := fun hd => h.mem hd hb
theorem take_one {α : Type} {cs : List α} {k : Nat} {x : α} (h : cs[k]? = some x) : (cs.drop k).take 1 = [x] := by
 obtain ⟨hk, rfl⟩ := List.getElem?_eq_some_iff.1 h
 rw [List.drop_eq_getElem_cons hk]; rfl
structure RowOf (H : Heap) (vs : List Vr) (i vb vc : Nat) (cs : List AC) (hi : i < vs.length) : Prop where
 get : H.get vb = some (.cells cs)
 len : cs.length = vc * 6
 cap : vs.length ≤ vc
 all : cs.take ((vs.map Vr.enc).length * 6) = (vs.map Vr.enc).flatten
 name : cs[i * 6]? = some (S vs[i].name)
 lent : cs[i * 6 + 1]? = some (B vs[i].lent)
 param : cs[i * 6 + 2]? = some (B vs[i].param)
 type : cs[i * 6 + 3]? = some (.sl 1 none (Ty.encs vs[i].type.kids))
 loans : cs[i * 6 + 4]? = some (.sl 2 none (vs[i].loans.map Pl.enc))
 dead : cs[i * 6 + 5]? = some (B vs[i].dead)
 off : i * 6 + 5 < cs.length
 off3 : i * 6 + 3 + 1 ≤ cs.length
 type1 : (cs.drop (i * 6 + 3)).take 1 = [.sl 1 none (Ty.encs vs[i].type.kids)]
theorem VarsAt.row {H : Heap} {vs : List Vr} {VS : AC} (h : VarsAt H vs VS) {i : Nat} (hi : i < vs.length) : ∃ vb vc cs, VS = .lit (.slice (some ⟨vb, 0, none⟩) vs.length vc) ∧ RowOf H vs i vb vc cs hi := by
 rcases h with ⟨hv0, -⟩ | ⟨vb, vc, cs, rfl, hg, hc, hvc, hcs⟩
 ·have : vs = [] := by simpa using hv0
  rw [this] at hi; simp at hi
 ·obtain ⟨r0, r1, r2, r3, r4, r5⟩ := var_row (H := H) (b := vb) (c := vc) hcs hi
  simp only [List.length_map] at hvc
  exact ⟨vb, vc, cs, by simp, hg, hc, hvc, hcs, r0, r1, r2, r3, r4, r5, by omega, by omega, take_one r3⟩
theorem EnvAt.kill {H : Heap} {e : Nat} {v : En} {NS : AC} {vb vc i : Nat} {cs : List AC} (h : EnvAt H e v (.lit (.slice (some ⟨vb, 0, none⟩) v.vars.length vc)) NS) (hi : i < v.vars.length) (hr : RowOf H v.vars i vb vc cs hi) :
 EnvAt (H.set vb (.cells (yyi cs (i * 6 + 5) [B true]))) e { v with vars := killAt v.vars i } (.lit (.slice (some ⟨vb, 0, none⟩) v.vars.length vc)) NS := by
 obtain ⟨k1, k2⟩ := vars_kill hr.all hi
 have hne : e ≠ vb := by
  rintro rfl; exact EnvO_ne h.obj h.vars ⟨_, _, rfl⟩
 refine ⟨by rw [Heap.zza _ _ hne]; exact h.obj, .inr ⟨vb, vc, _, by simp [killAt_len], Heap.zzb _ _ _, by rw [k1]; exact hr.len, by simp [killAt_len]; exact hr.cap, k2⟩, h.names.set hr.get _⟩
section
variable {P : Program} {F : Ids}
theorem e_find (L : Lib P F) (e : Nat) (v : En) (hl : v.vars.length ≤ 2 ^ 40) (n : ByteArray) : EnvC P F.s_l3Env_find [.ptr e 0, S n] e v fun q v' => q = I (varAt v.vars n) ∧ v' = v :=
 fun H VS NS hE => (c_find L e v VS NS H hE hl n).mono fun q H' ⟨h1, h2⟩ => ⟨v, VS, NS, ⟨h1, rfl⟩, h2 ▸ hE⟩
theorem e_ends (L : Lib P F) (e : Nat) (v : En) (hl : v.vars.length ≤ 2 ^ 20) (ho : ∀ x ∈ v.vars, x.ok) (p : Pl) (hp : p.path.length ≤ 2 ^ 20) : EnvC P F.s_l3Env_ends [.ptr e 0, .agg p.enc] e v fun q v' => q = .sl 1 none (yyk (endsL v.vars p)) ∧ v' = v :=
 fun H VS NS hE => (c_ends L e v VS NS H hE hl ho p hp).mono fun q H' ⟨h1, h2⟩ => ⟨v, VS, NS, ⟨h1, rfl⟩, h2 ▸ hE⟩
def Ty.wf (t : Ty) : Prop := ∃ D, D ≤ 8 ∧ t.le D
theorem endsL_lt (vs : List Vr) (p : Pl) : ∀ i ∈ endsL vs p, i < vs.length := by
 intro i hi
 have := (List.mem_filter.1 hi).1
 simpa using this
theorem endsL_len (vs : List Vr) (p : Pl) : (endsL vs p).length ≤ vs.length := by
 refine Nat.le_trans (List.length_filter_le _ _) ?_
 simp
theorem e_use (L : Lib P F) (e : Nat) (v : En) (hl : v.vars.length ≤ 2 ^ 20) (ho : ∀ x ∈ v.vars, x.ok ∧ x.type.wf) (p : Pl) (hp : p.path.length ≤ 2 ^ 20) :
 EnvC P F.s_l3Env_use [.ptr e 0, .agg p.enc] e v fun q v' => q = .agg (v.use p).2.enc ∧ v' = (v.use p).1 := by
 intro H VS NS hE
 refine L.s_l3Env_use (by simp [x_s_l3Env_use]) ?_
 simp only [x_s_l3Env_use, go_sem, rE, Pl.enc]
 intro b3 hb3 b4 hb4
 have h34 : b3 ≠ b4 := by rintro rfl; simp at hb4
 have he3 := hE.new hb3 (.cells [S p.name, zze p.path])
 have he4 := he3.new hb4 (.cells [.lit (.slice none 0 0)])
 have n4 := (he3.notin hb4)
 simp only [go_sem, rE, rA, h34]
 refine run_env (e_find L e v (by omega) p.name) he4 (rfl) (.refl _) (by simp) trivial ?_
 rintro q v VS1 NS1 H1 fp ⟨rfl, rfl⟩ hE1 hk1 -
 obtain ⟨g3, n3⟩ := hk1 b3 (.cells [S p.name, zze p.path]) (by simp [go_sem, h34]) (hE.notin hb3)
 obtain ⟨g4, n4⟩ := hk1 b4 (.cells [.lit (.slice none 0 0)]) (by simp) n4
 have e3 : e ≠ b3 := fun h => n3 (.inl h.symm)
 have e4 : e ≠ b4 := fun h => n4 (.inl h.symm)
 have ho1 := hE1.obj
 simp only [EnvO] at ho1
 simp only [go_sem, rE, rA, varAt_eq]
 cases hi : vIdx v.vars p.name with
 | none =>
   simp only [go_sem, rE, rA, Int.reduceLT]
   refine run_callO (c_fail L e v.p v.fn VS1 NS1 v.code 2) (rfl) (by simpa only [EnvO] using ho1) (by simp) trivial ?_
   rintro q o' ⟨rfl, rfl⟩
   have hE2 := hE1.setO (failC v.code 2)
   simp only [go_sem, rE, rA, g4, Ne.symm e4]
   exact yym (off := 0) (rfl) (Heap.zzb _ _ _) rfl le_ty0 (Heap.zzm _) ⟨_, VS1, NS1, ⟨by simp [En.use, hi], rfl⟩, by
    simp only [En.use, hi]
    exact hE2.mono fun d hd => Heap.zza _ _ (by rintro rfl; exact n4 hd)⟩
 | some i =>
   obtain ⟨hil, -, -⟩ := List.findIdx?_eq_some_iff_getElem.1 hi
   have hge : ¬ (i : Int) < 0 := by omega
   have hlt : (i : Int) < v.vars.length := by omega
   have hvi : v.vars[i]? = some v.vars[i] := List.getElem?_eq_getElem hil
   obtain ⟨hvo, D, -, hD⟩ := ho _ (List.getElem_mem hil)
   obtain ⟨vb, vc, cs, rfl, hr⟩ := hE1.vars.row hil
   have hta := c_TypeAt L D v.vars[i].type hD p.path (by omega)
   rw [Ty.enc_eq] at hta
   simp only [go_sem, rE, rA, hge, ho1, hlt, hr.get, hr.dead]
   have step3 : ∀ (E : Env) (H2 : Heap) (v2 : En) (u : Ty) (t6 : Nat) (VS2 NS2 : AC), EnvAt H2 e v2 VS2 NS2 → ¬ yyb e VS2 NS2 b4 → E 4 = .ptr b4 0 → E 6 = .ptr t6 0 → H2.get b4 = some (.cells [NIL]) →
    H2.get t6 = some (.cells [.sl 1 none (Ty.encs u.kids)]) →
    (XCode.wp P (.seq (rg [ld 0 66 (some 1) 6, ⟨1, none, none, .eff (.store 1 4 66), []⟩]) .ret) (XFunc.post [XRes.cell 4 (some 1)] fun q H' => ∃ v' VS' NS', (q = AC.agg u.enc ∧ v' = v2) ∧ EnvAt H' e v' VS' NS') E H2) := by
    intro E H2 v2 u t6 VS2 NS2 hE2 n4 e4 e6 g4 g6
    simp only [go_sem, rE, rA, e4, e6, g6, g4]
    refine yym (q' := .agg u.enc) (off := 0) (e4) (Heap.zzb _ _ _) rfl (by rw [Ty.enc_eq]; exact .refl _) (Heap.zzm _) ⟨v2, VS2, NS2, ⟨rfl, rfl⟩, ?_⟩
    exact hE2.mono fun d hd => Heap.zza _ _ (by rintro rfl; exact n4 hd)
   have step2 : ∀ (E : Env) (H2 : Heap) (c2 : Int) (u : Ty) (t6 : Nat) (VS2 NS2 : AC), EnvAt H2 e { v with code := c2 } VS2 NS2 → E 0 = .ptr e 0 → E 3 = .ptr b3 0 → E 4 = .ptr b4 0 → E 6 = .ptr t6 0 →
    H2.get b3 = some (.cells [S p.name, zze p.path]) → H2.get b4 = some (.cells [NIL]) → H2.get t6 = some (.cells [.sl 1 none (Ty.encs u.kids)]) → ¬ yyb e VS2 NS2 b4 → ¬ yyb e VS2 NS2 t6 →
    (XCode.wp P (kd1 F) (XFunc.post [XRes.cell 4 (some 1)] fun q H' => ∃ v' VS' NS', (q = AC.agg u.enc ∧ v' = { v with code := c2, vars := kill v.vars (endsL v.vars p) }) ∧ EnvAt H' e v' VS' NS') E H2) := by
    intro E H2 c2 u t6 VS2 NS2 hE2 e0 e3 e4 e6 g3 g4 g6 n4 n6
    rw [kd1]
    simp only [go_sem, rE, rA, e0, e3, g3]
    refine run_env (e_ends L e { v with code := c2 } hl (fun x hx => (ho x hx).1) p hp) hE2 (by simp only [go_sem, rE, Pl.enc]) (.refl _) (by simp) trivial ?_
    rintro q v' VS3 NS3 H3 fp ⟨rfl, rfl⟩ hE3 hk3 -
    obtain ⟨g4, n4⟩ := hk3 _ _ g4 n4
    obtain ⟨g6, n6⟩ := hk3 _ _ g6 n6
    simp only [go_sem, rE, rA]
    have hll := endsL_len v.vars p
    refine yyc (endsL v.vars p).length (fun k E H => EnvAt H e { v with code := c2, vars := kill v.vars ((endsL v.vars p).take k) } VS3 NS3 ∧ E 0 = .ptr e 0 ∧ E 4 = .ptr b4 0 ∧ E 6 = .ptr t6 0 ∧ E 8 = .sl 1 none (yyk (endsL v.vars p)) ∧ E 9 = I k ∧
     H.get b4 = some (.cells [NIL]) ∧ H.get t6 = some (.cells [.sl 1 none (Ty.encs u.kids)])) ⟨hE3, e0, e4, e6, rfl, rfl, g4, g6⟩ ?_
    rintro k E H hk ⟨hE3, e0, e4, e6, e8, e9, g4, g6⟩
    simp only [wp_seq, go_sem, rE, rA, e8, e9, natRows_len]
    refine zzn (fun hlt => ?_) (fun hge => ?_)
    ·have hk1 : k < (endsL v.vars p).length := by omega
     have hil := endsL_lt _ _ _ (List.getElem_mem hk1)
     have hil2 : (endsL v.vars p)[k] < (kill v.vars ((endsL v.vars p).take k)).length := by rw [kill_len]; exact hil
     have w1 := yya (n := (k : Int) + 1) (by omega) (by omega)
     obtain ⟨vb3, vc3, cs3, rfl, hr3⟩ := hE3.vars.row hil2
     have hob := hE3.obj
     have hE4 := hE3.kill hil2 hr3
     simp only [EnvO, kill_len] at hob hE4
     have hlt3 : (((endsL v.vars p)[k] : Nat) : Int) < v.vars.length := by omega
     simp only [go_sem, rE, rA, e0, e8, e9, hob, natRows_get hk1, hlt3, hr3.get, hr3.off, w1, kill_len]
     refine ⟨?_, hk1, _, Heap.zzm _, ?_, ?_⟩
     ·have := hr3.off; omega
     ·rw [List.take_succ_eq_append_getElem hk1, kill, List.foldl_append]
      exact hE4
     ·have d4 : b4 ≠ vb3 := by rintro rfl; exact n4 (.inr (.inl ⟨_, _, rfl⟩))
      have d6 : t6 ≠ vb3 := by rintro rfl; exact n6 (.inr (.inl ⟨_, _, rfl⟩))
      simp [go_sem, e0, e4, e6, e8, Heap.zza _ _ d4, Heap.zza _ _ d6, g4, g6]
    ·have hkk : k = (endsL v.vars p).length := by omega
     subst hkk
     rw [List.take_length] at hE3
     simp only [wp_exit, then_exit, xxi, xxa]
     exact step3 _ _ _ u t6 _ _ hE3 n4 (e4) (e6) g4 g6
   have step1 : ∀ (E : Env) (H2 : Heap) (c1 : Int), EnvAt H2 e { v with code := c1 } (AC.lit (Value.slice (some { block := vb, off := 0 }) v.vars.length vc)) NS1 → E 0 = .ptr e 0 → E 3 = .ptr b3 0 → E 4 = .ptr b4 0 → E 5 = I i →
    H2.get b3 = some (.cells [S p.name, zze p.path]) → H2.get b4 = some (.cells [NIL]) → c1 = (if v.vars[i].dead then failC v.code 4 else v.code) →
    (XCode.wp P (.seq (.region true [mv 0 30 0, nc 1 31 30, fa 2 32 2 31, ld 3 33 none 32, mv 4 34 5, ia 5 35 6 33 34, fa 6 36 3 35, ld 7 37 (some 1) 36, fa 8 38 1 3, ld 9 39 none 38, ca 10 40 F.s_TypeAt [37, 39], mv 11 29 40, pu 12 41 (.extract 29 0), pu 13 42 (.extract 29 1), ⟨14, some 6, none, .eff (.alloc [.slice none 0 0]), []⟩, ⟨15, none, none, .eff (.store 1 6 41), []⟩, mv 16 7 42]) (.seq (.seq (rg [mv 0 43 7, pu 1 44 (.not 43)]) (.cond 44 (rg [mv 0 45 0, ca 1 46 F.s_l3Env_fail [45, ci 3]]) .skip)) (kd1 F))) (XFunc.post [XRes.cell 4 (some 1)] fun q H' => ∃ v' VS' NS', (q = AC.agg (v.use p).2.enc ∧ v' = (v.use p).1) ∧ EnvAt H' e v' VS' NS') E H2) := by
    intro E H2 c1 hE2 f0 f3 f4 f5 g3 g4 hc1
    obtain ⟨vb5, vc5, cs5, heq, hr5⟩ := hE2.vars.row hil
    simp only [AC.lit.injEq, Value.slice.injEq, Option.some.injEq, Addr.mk.injEq, true_and, and_true] at heq
    obtain ⟨rfl, rfl⟩ := heq
    have ho2 := hE2.obj
    simp only [EnvO] at ho2
    simp only [go_sem, rE, rA, f0, f3, f5, ho2, hlt, hr5.get, hr5.off3, hr5.type1, g3, rL]
    refine zzc hta (rfl) ?_
    have nV : ¬ yyb e (AC.lit (Value.slice (some { block := vb, off := 0 }) v.vars.length vc)) NS1 b4 := n4
    cases hat : v.vars[i].type.atOk p.path with
    | none =>
      simp only [tyRes, go_sem, rE, rA, Ty.enc]
      intro t6 ht6
      have n6 := hE2.notin ht6
      have hE3 := hE2.new ht6 (.cells [AC.sl 1 none (Ty.encs [])])
      have d6e : e ≠ t6 := by rintro rfl; exact n6 (.inl rfl)
      have d64 : b4 ≠ t6 := by rintro rfl; rw [g4] at ht6; simp at ht6
      have d63 : b3 ≠ t6 := by rintro rfl; rw [g3] at ht6; simp at ht6
      refine run_callO (c_fail L e v.p v.fn _ NS1 c1 3) (by simp only [go_sem, rE, f0]) (by simp only [go_sem, d6e]; simpa only [EnvO] using ho2) (by simp) trivial ?_
      rintro q o' ⟨rfl, rfl⟩
      have hE4 := hE3.setO (failC c1 3)
      simp only [go_sem]
      have hu : v.use p = ({ v with code := failC c1 3, vars := kill v.vars (endsL v.vars p) }, .mk []) := by
       simp only [En.use, hi, hvi, hat, ← hc1]; rfl
      rw [hu]
      refine step2 _ _ (failC c1 3) (.mk []) t6 _ _ hE4 (f0) (f3) (f4) (rfl)
       (by simp only [go_sem, Ne.symm e3, d63, g3]) (by simp only [go_sem, Ne.symm e4, d64, g4]) (by simp only [go_sem, Ne.symm d6e]; rfl) nV n6
    | some u =>
      simp only [tyRes, go_sem, rE, rA, Ty.enc_eq u]
      intro t6 ht6
      have n6 := hE2.notin ht6
      have hE3 := hE2.new ht6 (.cells [AC.sl 1 none (Ty.encs u.kids)])
      have d64 : b4 ≠ t6 := by rintro rfl; rw [g4] at ht6; simp at ht6
      have d63 : b3 ≠ t6 := by rintro rfl; rw [g3] at ht6; simp at ht6
      have hu : v.use p = ({ v with code := c1, vars := kill v.vars (endsL v.vars p) }, u) := by
       simp only [En.use, hi, hvi, hat, ← hc1]; rfl
      rw [hu]
      refine step2 _ _ c1 u t6 _ _ hE3 (f0) (f3) (f4) (rfl)
       (by simp only [go_sem, d63, g3]) (by simp only [go_sem, d64, g4]) (by simp only [go_sem]) nV n6
   by_cases hd : v.vars[i].dead = true
   ·simp only [hd, wcond_true, wp_region, run_mv, ev_sl, put_other, put_same, ne_eq, rE, not_false_eq_true]
    refine run_callO (c_fail L e v.p v.fn _ NS1 v.code 4) (rfl) (by simpa only [EnvO] using ho1) (by simp) trivial ?_
    rintro q o' ⟨rfl, rfl⟩
    have hE2 := hE1.setO (failC v.code 4)
    simp only [run_nil, xxa]
    exact step1 _ _ _ hE2 (rfl) (rfl) (rfl) (rfl) (by simp only [go_sem, Ne.symm e3, g3]) (by simp only [go_sem, Ne.symm e4, g4]) (by simp [hd])
   ·simp only [Bool.not_eq_true] at hd
    simp only [hd, wcond_false, wp_skip, xxa]
    exact step1 _ _ _ hE1 (rfl) (rfl) (rfl) (rfl) g3 g4 (by simp [hd])
end
end Go.Xl
namespace Go.Xl
open Nat renaming reduceEqDiff → rE, reduceAdd → rA, reduceLeDiff → rL
inductive Ex.ok : Ex → Prop where
 | mk {k n : Int} {p : Pl} {ks : List Ex} (hp : p.path.length ≤ 2 ^ 20) (hk : k ≠ 1 → k ≠ 2 → 2 ≤ ks.length) (hs : ∀ x ∈ ks, Ex.ok x) : Ex.ok (.mk k n p ks)
def En.num (v : En) (t : Ty) : En := { v with code := if t.kids = [] then v.code else failC v.code 3 }
noncomputable def En.same (v : En) (a t : Ty) : En := { v with code := if a = t then v.code else failC v.code 3 }
def En.fail (v : En) (c : Int) : En := { v with code := failC v.code c }
noncomputable def En.expr (v : En) : Ex → En × Ty
 | .mk k n p ks => if k = 1 then (v, .mk []) else if k = 2 then v.use p else match ks with
   | a :: b :: _ =>
     let r1 := v.expr a
     let r2 := r1.1.expr b
     if k = 6 then (if (Ty.mk [r1.2, r2.2]).okB then (r2.1, .mk [r1.2, r2.2]) else (r2.1.fail 3, .mk []))
     else ((r2.1.num r1.2).num r2.2, .mk [])
   | _ => (v, .mk [])
termination_by x => SizeOf.sizeOf x
theorem En.expr_eq (v : En) (k n : Int) (p : Pl) (ks : List Ex) : v.expr (.mk k n p ks) = if k = 1 then (v, .mk []) else if k = 2 then v.use p else match ks with
 | a :: b :: _ => if k = 6 then (if (Ty.mk [(v.expr a).2, ((v.expr a).1.expr b).2]).okB then (((v.expr a).1.expr b).1, .mk [(v.expr a).2, ((v.expr a).1.expr b).2]) else (((v.expr a).1.expr b).1.fail 3, .mk []))
   else ((((v.expr a).1.expr b).1.num (v.expr a).2).num ((v.expr a).1.expr b).2, .mk [])
 | _ => (v, .mk []) := by
 rw [En.expr.eq_def]
structure En.ok (v : En) : Prop where
 len : v.vars.length ≤ 2 ^ 20
 all : ∀ x ∈ v.vars, x.ok ∧ x.type.wf
structure En.like (v w : En) : Prop where
 p : w.p = v.p
 fn : w.fn = v.fn
 names : w.names = v.names
 vars : w.vars.map (fun x => { x with dead := false }) = v.vars.map (fun x => { x with dead := false })
theorem En.like.refl (v : En) : v.like v := ⟨rfl, rfl, rfl, rfl⟩
theorem En.like.trans {u v w : En} (h : u.like v) (h' : v.like w) : u.like w := ⟨h'.p.trans h.p, h'.fn.trans h.fn, h'.names.trans h.names, h'.vars.trans h.vars⟩
theorem En.like.len {v w : En} (h : v.like w) : w.vars.length = v.vars.length := by
 have := congrArg List.length h.vars; simpa using this
theorem En.like.ok {v w : En} (h : v.like w) (ho : v.ok) : w.ok := by
 refine ⟨by rw [h.len]; exact ho.len, fun x hx => ?_⟩
 have : { x with dead := false } ∈ v.vars.map (fun x : Vr => { x with dead := false }) := by rw [← h.vars]; exact List.mem_map.2 ⟨x, hx, rfl⟩
 obtain ⟨y, hy, he⟩ := List.mem_map.1 this
 obtain ⟨⟨h1, h2⟩, h3⟩ := ho.all y hy
 simp only [Vr.mk.injEq] at he
 obtain ⟨-, -, -, e1, e2, -⟩ := he
 exact ⟨⟨e2 ▸ h1, e2 ▸ h2⟩, e1 ▸ h3⟩
theorem killAt_core (vs : List Vr) (i : Nat) : (killAt vs i).map (fun x => { x with dead := false }) = vs.map (fun x => { x with dead := false }) := by
 apply List.ext_getElem?
 intro k
 simp only [killAt, List.getElem?_map, List.getElem?_modify]
 cases vs[k]? with
 | none => rfl
 | some v => by_cases h : i = k <;> simp [h]
theorem kill_core : ∀ (L : List Nat) (vs : List Vr), (kill vs L).map (fun x => { x with dead := false }) = vs.map (fun x => { x with dead := false })
 | [], vs => rfl
 | i :: L, vs => by simp only [kill, List.foldl_cons]; exact (kill_core L _).trans (killAt_core vs i)
theorem En.use_like (v : En) (p : Pl) : v.like (v.use p).1 := by
 unfold En.use
 split
 ·exact ⟨rfl, rfl, rfl, rfl⟩
 ·split
  ·exact .refl _
  ·exact ⟨rfl, rfl, rfl, kill_core _ _⟩
theorem Ty.wf_at : ∀ (p : List Int) (t : Ty), t.wf → ∀ u, t.at p = some u → u.wf
 | [], t, h, u, e => by simp [Ty.at] at e; exact e ▸ h
 | i :: p, .mk ks, ⟨D, h8, hD⟩, u, e => by
   simp only [Ty.at] at e
   split at e
   ·cases hk : ks[i.toNat]? with
    | none => rw [hk] at e; simp at e
    | some x =>
      rw [hk] at e
      obtain ⟨D', hDD, hx⟩ := (Ty.le_kids hD).2 x (List.mem_of_getElem? hk)
      exact Ty.wf_at p x ⟨D', by omega, hx⟩ u e
   ·simp at e
theorem Ty.wf_nil : (Ty.mk []).wf := ⟨0, by omega, rfl⟩
theorem Ty.le_mono : ∀ (d d' : Nat) (t : Ty), d ≤ d' → t.le d → t.le d'
 | 0, 0, t, _, h => h
 | 0, d' + 1, .mk ks, _, h => by simp only [Ty.le] at h; subst h; exact Ty.le_nil _
 | d + 1, d' + 1, .mk ks, hd, h => ⟨h.1, fun k hk => Ty.le_mono d d' k (by omega) (h.2 k hk)⟩
theorem Ty.deep_le : ∀ (n : Nat) (t : Ty), t.deepB n = true → t.le n
 | 0, .mk ks, h => by simp [Ty.deepB] at h
 | n + 1, .mk ks, h => by
   simp only [Ty.deepB, Bool.and_eq_true, Bool.or_eq_true, List.all_eq_true, decide_eq_true_eq] at h
   obtain ⟨h1, h2⟩ := h
   exact ⟨by omega, fun k hk => Ty.deep_le n k (h2 k hk)⟩
theorem Ty.wf_ok {t : Ty} (h : t.okB = true) : t.wf := ⟨4, by omega, Ty.deep_le 4 t h⟩
theorem En.use_wf {v : En} (h : v.ok) (p : Pl) : (v.use p).2.wf := by
 unfold En.use
 split
 ·exact Ty.wf_nil
 ·split
  ·exact Ty.wf_nil
  ·rename_i x hx
   have hw := (h.all x (List.mem_of_getElem? hx)).2
   simp only [Ty.atOk]
   split
   ·cases e : x.type.at p.path with
    | none => exact Ty.wf_nil
    | some u => exact Ty.wf_at _ _ hw _ e
   ·exact Ty.wf_nil
theorem En.expr_good : ∀ (x : Ex) (v : En), v.ok → v.like (v.expr x).1 ∧ (v.expr x).2.wf
 | .mk k n p ks, v, h => by
   rw [En.expr_eq]
   split
   ·exact ⟨.refl _, Ty.wf_nil⟩
   ·split
    ·exact ⟨v.use_like p, En.use_wf h p⟩
    ·split
     ·rename_i a b l
      obtain ⟨h1, w1⟩ := En.expr_good a v h
      obtain ⟨h2, w2⟩ := En.expr_good b _ (h1.ok h)
      have h3 := h1.trans h2
      split
      ·split
       ·rename_i hok; exact ⟨h3, Ty.wf_ok hok⟩
       ·exact ⟨h3.trans ⟨rfl, rfl, rfl, rfl⟩, Ty.wf_nil⟩
      ·exact ⟨h3.trans ⟨rfl, rfl, rfl, rfl⟩, Ty.wf_nil⟩
     ·exact ⟨.refl _, Ty.wf_nil⟩
termination_by x => SizeOf.sizeOf x
theorem zzj {H : Heap} {b c : Nat} {o : HObj} (h : H.get b = some o) (h' : H.get c = none) : b ≠ c := by rintro rfl; rw [h] at h'; simp at h'
theorem EnvAt.ne {H : Heap} {e : Nat} {v : En} {VS NS : AC} (h : EnvAt H e v VS NS) {b : Nat} (hb : H.get b = none) : e ≠ b := zzj h.obj hb
section
variable {P : Program} {F : Ids}
theorem e_use' (L : Lib P F) (e : Nat) (v : En) (h : v.ok) (p : Pl) (hp : p.path.length ≤ 2 ^ 20) :
 EnvC P F.s_l3Env_use [.ptr e 0, .agg p.enc] e v fun q v' => q = .agg (v.use p).2.enc ∧ v' = (v.use p).1 := e_use L e v h.len h.all p hp
theorem post_rc {E : Env} {H : Heap} {n r off : Nat} {g : Option Nat} {cs : List AC} {q : AC} {R : AC → Heap → Prop} (hE : E n = .ptr r off) (hg : H.get r = some (.cells cs)) (hq : partA g cs off = some q)
 (h : R q H) : XFunc.post [.cell n g] R .ret E H := post_cell hE hg hq H.zzm h
theorem e_expr (L : Lib P F) (e : Nat) : ∀ (n : Nat) (x : Ex), SizeOf.sizeOf x ≤ n → x.ok → ∀ (v : En), v.ok → EnvC P F.s_l3Env_expr [.ptr e 0, .agg x.enc] e v fun q v' => q = .agg (v.expr x).2.enc ∧ v' = (v.expr x).1 := by
 intro n
 induction n with
 | zero => rintro ⟨k, m, p, ks⟩ h; simp at h
 | succ n ih =>
   rintro ⟨k, m, p, ks⟩ hn hx v hv H VS NS hE
   obtain ⟨hp, hk2, hks⟩ := hx
   refine L.s_l3Env_expr (by simp [x_s_l3Env_expr]) ?_
   simp only [x_s_l3Env_expr, go_sem, rE, Ex.enc]
   intro b3 hb3 b4 hb4
   have h34 : b3 ≠ b4 := by rintro rfl; simp at hb4
   have he3 := hE.new hb3 (.cells [I k, I m, S p.name, zze p.path, .sl 5 none (Ex.encs ks)])
   have he4 := he3.new hb4 (.cells [.lit (.slice none 0 0)])
   have n3 := he4.notin (b := b3)
   have d3e : e ≠ b3 := by rintro rfl; exact hE.notin hb3 (.inl rfl)
   have d4e : e ≠ b4 := by rintro rfl; exact he3.notin hb4 (.inl rfl)
   by_cases h1 : k = 1
   ·subst h1
    simp only [go_sem, rE, rA, h34, beq_self_eq_true]
    refine yym (q' := .agg (Ty.mk []).enc) (off := 0) (rfl) (Heap.zzb _ _ _) rfl le_ty0 (Heap.zzm _) ⟨v, VS, NS, ⟨by simp [En.expr_eq], by simp [En.expr_eq]⟩, ?_⟩
    exact he4
   ·by_cases h2 : k = 2
    ·subst h2
     simp only [go_sem, rE, rA, h34, beq_self_eq_true, Int.reduceBEq, rL]
     refine run_env (e_use' L e v hv p hp) he4 (by simp only [go_sem, rE, Pl.enc]) (.refl _) (by simp) trivial ?_
     rintro q v' VS1 NS1 H1 fp ⟨rfl, rfl⟩ hE1 hk1 -
     obtain ⟨g4, n4⟩ := hk1 b4 (.cells [.lit (.slice none 0 0)]) (by simp) (he3.notin hb4)
     simp only [go_sem, rE, rA, g4, Ty.enc_eq (v.use p).2]
     refine post_rc (off := 0) (rfl) (Heap.zzb _ _ _) rfl ⟨(v.use p).1, VS1, NS1, ⟨by simp [En.expr_eq, Ty.enc_eq], by simp [En.expr_eq]⟩, ?_⟩
     exact hE1.mono fun d hd => Heap.zza _ _ (by rintro rfl; exact n4 hd)
    ·have h1' : (k == 1) = false := by simpa using h1
     have h2' : (k == 2) = false := by simpa using h2
     obtain ⟨a, b, l, rfl⟩ : ∃ a b l, ks = a :: b :: l := by
      rcases ks with _ | ⟨a, _ | ⟨b, l⟩⟩
      ·simp at hk2; omega
      ·simp at hk2; omega
      ·exact ⟨_, _, _, rfl⟩
     have ea : (Ex.encs (a :: b :: l))[0]? = some a.enc := by simp [Ex.encs]
     have eb : (Ex.encs (a :: b :: l))[1]? = some b.enc := by simp [Ex.encs]
     rw [Ex.enc_eq] at ea eb
     simp only [Ex.mk.sizeOf_spec, List.cons.sizeOf_spec] at hn
     simp only [go_sem, rE, rA, h34, h1', h2', Int.toNat_zero, ea, Int.toNat_one, Int.le_refl, rL]
     refine run_env (ih a (by omega) (hks a (by simp)) v hv) he4 (by simp only [go_sem, rE, Ex.enc_eq a]) (.refl _) (by simp) trivial ?_
     rintro q v1 VS1 NS1 H1 fp ⟨rfl, hv1⟩ hE1 hk1 -
     obtain ⟨g3, n3⟩ := hk1 b3 (.cells [I k, I m, S p.name, zze p.path, .sl 5 none (Ex.encs (a :: b :: l))]) (by simp [go_sem, h34]) (hE.notin hb3)
     obtain ⟨g4, n4⟩ := hk1 b4 (.cells [.lit (.slice none 0 0)]) (by simp) (he3.notin hb4)
     obtain ⟨lk1, wf1⟩ := En.expr_good a v hv
     rw [← hv1] at lk1
     have hv1o := lk1.ok hv
     clear hk1 he4 he3
     simp only [go_sem, rE, rA, Ty.enc_eq (v.expr a).2]
     intro b5 hb5
     have n5 := hE1.notin hb5
     have hE1' := hE1.new hb5 (.cells [.sl 1 none (Ty.encs (v.expr a).2.kids)])
     have d35 := zzj g3 hb5
     have d45 := zzj g4 hb5
     simp only [go_sem, rE, rA, d35, g3, eb, Int.reduceLE, Int.reduceToNat, rL]
     refine run_env (ih b (by omega) (hks b (by simp)) v1 hv1o) hE1' (by simp only [go_sem, rE, Ex.enc_eq b]) (.refl _) (by simp) trivial ?_
     rintro q v2 VS2 NS2 H2 fp2 ⟨rfl, hv2⟩ hE2 hk2 -
     obtain ⟨g3, n3⟩ := hk2 b3 (.cells [I k, I m, S p.name, zze p.path, .sl 5 none (Ex.encs (a :: b :: l))]) (by simp [go_sem, d35, g3]) n3
     obtain ⟨g4, n4⟩ := hk2 b4 (.cells [.lit (.slice none 0 0)]) (by simp [go_sem, d45, g4]) n4
     obtain ⟨g5, n5⟩ := hk2 b5 (.cells [.sl 1 none (Ty.encs (v.expr a).2.kids)]) (by simp) n5
     obtain ⟨lk2, wf2⟩ := En.expr_good b v1 hv1o
     rw [← hv2] at lk2
     have hx : v.expr (.mk k m p (a :: b :: l)) = if k = 6 then (if (Ty.mk [(v.expr a).2, (v1.expr b).2]).okB then (v2, .mk [(v.expr a).2, (v1.expr b).2]) else (v2.fail 3, .mk []))
      else ((v2.num (v.expr a).2).num (v1.expr b).2, .mk []) := by
      rw [En.expr_eq]; simp only [h1, h2, if_false, ← hv1, ← hv2]
     rw [hx]
     generalize (v.expr a).2 = ta at *
     generalize (v1.expr b).2 = tb at *
     clear hk2
     simp only [go_sem, rE, rA, Ty.enc_eq tb]
     intro b6 hb6
     have n6 := hE2.notin hb6
     have hE2' := hE2.new hb6 (.cells [.sl 1 none (Ty.encs tb.kids)])
     have d36 := zzj g3 hb6
     have d46 := zzj g4 hb6
     have d56 := zzj g5 hb6
     by_cases h6 : k = 6
     ·subst h6
      simp only [go_sem, rE, rA, d36, g3, d56, g5, beq_self_eq_true, rL, List.replicate, List.flatten_cons, List.flatten_nil, chunk]
      intro bs hbs
      have hs6 := zzj (Heap.zzb H2 b6 (.cells [.sl 1 none (Ty.encs tb.kids)])) hbs
      have hE3 := hE2'.new hbs (.tail 2 2)
      intro b7 hb7
      have hE4 := hE3.new hb7 (.cells [AC.sl 1 (some (bs, 2, 2)) [[AC.sl 1 none (Ty.encs ta.kids)], [AC.sl 1 none (Ty.encs tb.kids)]]])
      have hle : Le (.agg [AC.sl 1 (some (bs, 2, 2)) [[AC.sl 1 none (Ty.encs ta.kids)], [AC.sl 1 none (Ty.encs tb.kids)]]]) (.agg (Ty.mk [ta, tb]).enc) := by
       have := le_ty (some (bs, 2, 2)) [ta, tb]
       simpa [Ty.encs, Ty.enc_eq ta, Ty.enc_eq tb] using this
      have d47 : b4 ≠ b7 := by
       have : ((H2.set b6 (.cells [.sl 1 none (Ty.encs tb.kids)])).set bs (.tail 2 2)).get b4 = some (.cells [.lit (.slice none 0 0)]) := by
        have d4s : b4 ≠ bs := zzj (H := H2.set b6 (.cells [.sl 1 none (Ty.encs tb.kids)])) (by rw [Heap.zza _ _ d46]; exact g4) hbs
        rw [Heap.zza _ _ d4s, Heap.zza _ _ d46]; exact g4
       exact zzj this hb7
      have d4s : b4 ≠ bs := zzj (H := H2.set b6 (.cells [.sl 1 none (Ty.encs tb.kids)])) (by rw [Heap.zza _ _ d46]; exact g4) hbs
      refine run_callP (as' := [.agg [AC.sl 1 (some (bs, 2, 2)) [[AC.sl 1 none (Ty.encs ta.kids)], [AC.sl 1 none (Ty.encs tb.kids)]]]]) (c_TypeOk L (.mk [ta, tb])) (rfl) ⟨hle, trivial⟩ ?_
      cases hok : (Ty.mk [ta, tb]).okB
      ·simp only [go_sem, rE, rA, rL]
       refine run_callO (c_fail L e v2.p v2.fn VS2 NS2 v2.code 3) (rfl) hE4.obj (by simp) trivial ?_
       rintro q o' ⟨rfl, rfl⟩
       have hE5 := hE4.setO (failC v2.code 3)
       have d4e : b4 ≠ e := fun h => n4 (.inl h)
       simp only [go_sem, rE, rA, d4e, d47, d4s, d46, g4, rL]
       refine yym (q' := .agg (Ty.mk []).enc) (off := 0) (rfl) (Heap.zzb _ _ _) rfl le_ty0 (Heap.zzm _) ⟨_, VS2, NS2, ⟨rfl, rfl⟩, ?_⟩
       refine EnvAt.mono hE5 ?_
       intro d hd
       have hdn : d ≠ b4 := by rintro rfl; exact n4 hd
       exact Heap.zza _ _ hdn
      ·simp only [go_sem, rE, rA, d47, d4s, d46, g4, rL]
       refine yym (q' := .agg (Ty.mk [ta, tb]).enc) (off := 0) (rfl) (Heap.zzb _ _ _) rfl hle (Heap.zzm _) ⟨v2, VS2, NS2, ⟨rfl, rfl⟩, ?_⟩
       refine EnvAt.mono hE4 ?_
       intro d hd
       have hdn : d ≠ b4 := by rintro rfl; exact n4 hd
       exact Heap.zza _ _ hdn
     ·have h6' : (k == 6) = false := by simpa using h6
      have d6e := hE2.ne hb6
      have ho2 := hE2.obj
      simp only [go_sem, rE, rA, d36, g3, d56, g5, h6', rL, h6]
      refine run_callO (c_num L e v2.p v2.fn VS2 NS2 v2.code ta) (by simp only [go_sem, rE, Ty.enc_eq ta]) (by rw [Heap.zza _ _ d6e]; exact ho2) (by simp) trivial ?_
      rintro q o' ⟨rfl, rfl⟩
      have hE3 := hE2'.setO (if ta.kids = [] then v2.code else failC v2.code 3)
      simp only [go_sem, rE, rA, Ne.symm d6e, rL]
      refine run_callO (c_num L e v2.p v2.fn VS2 NS2 _ tb) (by simp only [go_sem, rE, Ty.enc_eq tb]) (Heap.zzb _ _ _) (by simp) trivial ?_
      rintro q o' ⟨rfl, rfl⟩
      have hE4 := hE3.setO (if tb.kids = [] then (if ta.kids = [] then v2.code else failC v2.code 3) else failC (if ta.kids = [] then v2.code else failC v2.code 3) 3)
      rw [Heap.set_set] at hE4
      have d4e : b4 ≠ e := fun h => n4 (.inl h)
      simp only [go_sem, rE, rA, d46, d4e, g4, rL]
      refine yym (q' := .agg (Ty.mk []).enc) (off := 0) (rfl) (Heap.zzb _ _ _) rfl le_ty0 (Heap.zzm _) ⟨_, VS2, NS2, ⟨rfl, rfl⟩, ?_⟩
      refine EnvAt.mono hE4 ?_
      intro d hd
      have hdn : d ≠ b4 := by rintro rfl; exact n4 hd
      exact Heap.zza _ _ hdn
end
end Go.Xl
namespace Go.Xl
open Nat renaming reduceEqDiff → rE, reduceAdd → rA, reduceLeDiff → rL
theorem ACalls.frame {P : Program} {f : FuncId} {xs : List AC} {Hf H : Heap} {R : AC → Heap → Prop} (h : ACalls P f xs Hf R) (hs : Hf.sub H) :
 ACalls P f xs H fun q H1 => ∃ H', R q H' ∧ H1 = H.swap Hf H' := by
 intro M w vs s r
 refine (h M w vs (s.sub hs) r).mono ?_
 rintro e w' ⟨q, v, M', H', h1, h2, h3, h4, h5⟩
 obtain ⟨s', t'⟩ := s.frame hs h3 h4
 exact ⟨q, v, M', _, h1, h2, s', t', H', h5, rfl⟩
def PW (H H' : Heap) : Prop := ∀ b, H'.get b = H.get b ∨ ∃ o o', H.get b = some o ∧ H'.get b = some o' ∧ ∀ M w, ObjSim M w b o → ObjSim M w b o'
theorem PW.refl (H : Heap) : PW H H := fun b => .inl rfl
theorem PW.dom {H H' : Heap} (h : PW H H') (b : Nat) : H.get b = none ↔ H'.get b = none := by
 rcases h b with e | ⟨o, o', e1, e2, -⟩
 ·rw [e]
 ·simp [e1, e2]
theorem PW.sim {H H' : Heap} (h : PW H H') {M : FMem} {w : World} (s : Sim M H w) : Sim M H' w := by
 refine ⟨s.mem, fun b o' ho' => ?_⟩
 rcases h b with e | ⟨o, o2, e1, e2, hh⟩
 ·exact s.obj b o' (by rw [← e]; exact ho')
 ·rw [e2] at ho'; cases ho'; exact hh M w (s.obj b o e1)
theorem PW.wk {H H' : Heap} (h : PW H H') : HWk H H' := ⟨fun _ _ s => h.sim s, fun b hb hn => hb ((h.dom b).1 hn)⟩
theorem PW.only {H H' : Heap} (h : PW H H') (S : Nat → Prop) : PW (H.only S) (H'.only S) := by
 intro b
 by_cases hb : S b
 ·rw [Heap.xxf hb, Heap.xxf hb]; exact h b
 ·exact .inl (by rw [Heap.only_none hb, Heap.only_none hb])
theorem ACalls.pw {P : Program} {f : FuncId} {xs : List AC} {H H' : Heap} {R : AC → Heap → Prop} (h : ACalls P f xs H' R) (hp : PW H H') : ACalls P f xs H R := by
 intro M w vs s r
 refine (h M w vs (hp.sim s) r).mono ?_
 rintro e w' ⟨q, v, M', H2, h1, h2, h3, h4, h5⟩
 exact ⟨q, v, M', H2, h1, h2, h3, h4.dom fun b => (hp.dom b).symm, h5⟩
theorem PW.set {H : Heap} {b : Nat} {cs cs' : List AC} (hg : H.get b = some (.cells cs)) (hl : cs'.length = cs.length)
 (hle : ∀ (j : Nat) (y : AC), cs'[j]? = some y → cs[j]? = some y ∨ ∃ x, cs[j]? = some x ∧ Le x y ∧ y.one = true) : PW H (H.set b (.cells cs')) := by
 intro c
 by_cases hc : c = b
 ·subst hc
  refine .inr ⟨_, _, hg, Heap.zzb _ _ _, fun M w ho => ?_⟩
  obtain ⟨vs, el, h1, h2, h3, h4, h5⟩ := ho
  refine ⟨vs, el, h1, fun y hy => ?_, by rw [hl]; exact h3, fun j y v hy hv => ?_, h5⟩
  ·obtain ⟨j, hj⟩ := List.mem_iff_getElem?.1 hy
   rcases hle j y hj with h | ⟨x, -, -, h⟩
   ·exact h2 y (List.mem_of_getElem? h)
   ·exact h
  ·rcases hle j y hy with h | ⟨x, hx, hxy, -⟩
   ·exact h4 j y v h hv
   ·exact hxy M v (h4 j x v hx hv)
 ·exact .inl (Heap.zza _ _ hc)
def EnvAtW (H : Heap) (e : Nat) (v : En) (VS NS : AC) : Prop := ∃ H', PW H H' ∧ (∀ d, ¬ yyb e VS NS d → H'.get d = H.get d) ∧ EnvAt H' e v VS NS
section
variable {P : Program} {dr : Bool} {K : Env → Heap → Prop} {xs : List XOper} {E : Env} {H : Heap} {l : Lds} {f : Fps}
theorem run_envW {i : Nat} {g : FuncId} {args : List XArg} {d : Option Nat} {inc : List Nat} {as as' : List AC} {e : Nat} {v : En} {VS NS : AC} {R : AC → En → Prop} (hc : EnvC P g as e v R) (hE : EnvAtW H e v VS NS)
 (ha : args.map (XArg.ev E) = as') (hl : LeA as' as) (hlive : dr = true → ∃ q v', R q v') (hchk : chkE inc l (yyb e VS NS))
 (h : ∀ q v' VS' NS' H1 fp, R q v' → EnvAt H1 e v' VS' NS' → (∀ b o, H.get b = some o → ¬ yyb e VS NS b → H1.get b = some o ∧ ¬ yyb e VS' NS' b) →
  (∀ c, fp c → yyb e VS NS c ∨ H.get c = none) → rrun P dr K xs (E.put d q) H1 l ((i, fp) :: f)) :
 rrun P dr K (⟨i, d, none, .eff (.call g args), inc⟩ :: xs) E H l f := by
 obtain ⟨H0, hpw, hout, hE0⟩ := hE
 have hge : ∀ b, (H.only (yyb e VS NS)).get b ≠ none ↔ yyb e VS NS b := by
  intro b
  by_cases hb : yyb e VS NS b
  ·simp only [Heap.xxf hb, hb, iff_true]
   exact fun h => hE0.mem hb ((hpw.dom b).1 h)
  ·simp [Heap.only_none hb, hb]
 refine run_callS (yyb e VS NS) ((hc (H0.only (yyb e VS NS)) VS NS hE0.only).pw (hpw.only _)) ha hl (fun hd N => ?_) ?_ ?_
 ·obtain ⟨q, v', hq⟩ := hlive hd
  obtain ⟨H', VS', NS', hE', hfar⟩ := env_live e N v'
  refine ⟨q, H', ⟨v', VS', NS', hq, hE'⟩, fun b hb hn => ?_⟩
  rcases hfar b hb with rfl | h
  ·rw [Heap.xxf (.inl rfl)] at hn
   exact absurd ((hpw.dom _).1 hn) (hE0.mem (.inl rfl))
  ·exact h
 ·have : (fun b => (H.only (yyb e VS NS)).get b ≠ none) = yyb e VS NS := by funext b; exact propext (hge b)
  rw [this]; exact hchk
 ·rintro q H' H1 ⟨v', VS', NS', hq, hE'⟩ hsub hafter hnew -
  refine h q v' VS' NS' H1 _ hq (hE'.mono fun d hd => ?_) (fun b o hb hn => ⟨by rw [hafter.out b hn (by rw [hb]; simp)]; exact hb, fun h => ?_⟩) (fun c hc => ?_)
  ·obtain ⟨o, ho⟩ := Option.ne_none_iff_exists'.1 (hE'.mem hd)
   rw [ho]; exact hsub _ _ ho
  ·rcases hnew b (hE'.mem h) with h | h
   ·exact hn h
   ·rw [hb] at h; simp at h
  ·rcases hc with hc | hc
   ·exact .inl ((hge c).1 hc)
   ·exact .inr hc
end
section
variable {P : Program} {F : Ids}
theorem EnvC.of_one {g : FuncId} {as : List AC} {e : Nat} {v : En} {q0 : AC} {c' : Int}
 (h : ∀ VS NS, ACalls P g as (one e (EnvO v.p v.fn VS NS v.code)) fun q H' => ∃ o', (q = q0 ∧ o' = EnvO v.p v.fn VS NS c') ∧ H' = one e o') : EnvC P g as e v fun q v' => q = q0 ∧ v' = { v with code := c' } := by
 intro H VS NS hE
 refine ((h VS NS).frame (one_sub hE.obj)).mono ?_
 rintro q H1 ⟨H', ⟨o', ⟨rfl, rfl⟩, rfl⟩, rfl⟩
 rw [swap_one]
 exact ⟨_, VS, NS, ⟨rfl, rfl⟩, hE.setO c'⟩
theorem e_fail (L : Lib P F) (e : Nat) (v : En) (c : Int) : EnvC P F.s_l3Env_fail [.ptr e 0, I c] e v fun q v' => q = .tup [] ∧ v' = v.fail c := EnvC.of_one fun VS NS => c_fail L e v.p v.fn VS NS v.code c
def En.fail0 (v : En) (c : Int) : En := { v with code := if 0 < c then failC v.code c else v.code }
theorem e_fail0 (L : Lib P F) (e : Nat) (v : En) (c : Int) : EnvC P F.s_l3Env_fail0 [.ptr e 0, I c] e v fun q v' => q = .tup [] ∧ v' = v.fail0 c := EnvC.of_one fun VS NS => c_fail0 L e v.p v.fn VS NS v.code c
theorem e_num (L : Lib P F) (e : Nat) (v : En) (t : Ty) : EnvC P F.s_l3Env_num [.ptr e 0, .agg t.enc] e v fun q v' => q = .tup [] ∧ v' = v.num t := EnvC.of_one fun VS NS => c_num L e v.p v.fn VS NS v.code t
theorem e_same (L : Lib P F) (e : Nat) (v : En) (a t : Ty) (ha : a.wf) : EnvC P F.s_l3Env_same [.ptr e 0, .agg a.enc, .agg t.enc] e v fun q v' => q = .tup [] ∧ v' = v.same a t := by
 obtain ⟨D, -, hD⟩ := ha
 exact EnvC.of_one fun VS NS => c_same L e v.p v.fn VS NS v.code a t D hD
theorem e_add (L : Lib P F) (e : Nat) (v : En) (hl : v.vars.length ≤ 2 ^ 30) (hn : v.names.length ≤ 2 ^ 30) (x : Vr) : EnvC P F.s_l3Env_add [.ptr e 0, .agg x.enc] e v fun q v' => q = .tup [] ∧ v' = v.add x :=
 fun H VS NS hE => (c_add L e v VS NS H hE hl hn x).mono fun q H' ⟨h1, VS', NS', h2⟩ => ⟨_, VS', NS', ⟨h1, rfl⟩, h2⟩
def En.push (v : En) (x : Vr) : En := { v with vars := v.vars ++ [x] }
def En.pop (v : En) (n : Nat) : En := { v with vars := v.vars.take n }
def LeRow (xs ys : List AC) : Prop := xs.length = ys.length ∧ ∀ (j : Nat) (y : AC), ys[j]? = some y → xs[j]? = some y ∨ ∃ x, xs[j]? = some x ∧ Le x y ∧ y.one = true
theorem EnvAtW.push {H : Heap} {e : Nat} {v : En} {VS' NS : AC} {row : List AC} {x : Vr} (ho : H.get e = some (EnvO v.p v.fn VS' NS v.code)) (hr : RowAt H 6 (v.vars.map Vr.enc ++ [row]) VS') (hn : AppSt H 1 (xxe v.names) NS) (hrow : LeRow row x.enc) :
 EnvAtW H e (v.push x) VS' NS := by
 rcases hr with ⟨h, -⟩ | ⟨b, c, cs, rfl, hg, hc, hlen, hcs⟩
 ·simp at h
 ·have h6 : row.length = 6 := hrow.1
  have hl1 := xxg (ys := v.vars.map Vr.enc) (sz := 6) (by simp [Vr.enc])
  simp only [List.length_map] at hl1
  have hlv : (v.vars.map Vr.enc ++ [row]).length = v.vars.length + 1 := by simp
  rw [hlv] at hlen hcs
  simp only [List.flatten_append, List.flatten_cons, List.flatten_nil, List.append_nil] at hcs
  let cs' := (v.vars.map Vr.enc).flatten ++ x.enc ++ cs.drop ((v.vars.length + 1) * 6)
  have hsplit : cs = (v.vars.map Vr.enc).flatten ++ row ++ cs.drop ((v.vars.length + 1) * 6) := by rw [← hcs, List.take_append_drop]
  have hcl : cs'.length = cs.length := by
   conv => rhs; rw [hsplit]
   simp only [cs', List.length_append, h6, Vr.enc_len]
  have hne : e ≠ b := by
   rintro rfl
   rw [ho] at hg; simp only [EnvO, Option.some.injEq, HObj.cells.injEq] at hg
   rw [← hg] at hc; simp at hc; omega
  refine ⟨H.set b (.cells cs'), .set hg hcl fun j y hy => ?_, fun d hd => Heap.zza _ _ (by rintro rfl; exact hd (.inr (.inl ⟨_, _, rfl⟩))), ⟨?_, .inr ⟨b, c, cs', ?_, Heap.zzb _ _ _, hcl.trans hc, ?_, ?_⟩, hn.set hg _⟩⟩
  ·rw [hsplit]
   simp only [cs'] at hy
   rw [List.append_assoc] at hy ⊢
   by_cases h1 : j < ((v.vars.map Vr.enc).flatten).length
   ·rw [List.getElem?_append_left h1] at hy ⊢; exact .inl hy
   ·rw [List.getElem?_append_right (by omega)] at hy ⊢
    generalize j - ((v.vars.map Vr.enc).flatten).length = k at *
    by_cases h2 : k < 6
    ·rw [List.getElem?_append_left (by rw [Vr.enc_len]; exact h2)] at hy
     rw [List.getElem?_append_left (by rw [h6]; exact h2)]
     exact hrow.2 k y hy
    ·rw [List.getElem?_append_right (by rw [Vr.enc_len]; omega)] at hy
     rw [List.getElem?_append_right (by rw [h6]; omega)]
     rw [Vr.enc_len] at hy; rw [h6]
     exact .inl hy
  ·rw [Heap.zza _ _ hne]; exact ho
  ·simp [En.push]
  ·simp [En.push]; omega
  ·simp only [En.push, List.map_append, List.map_cons, List.map_nil, List.length_append, List.length_map, List.length_cons, List.length_nil, List.flatten_append, List.flatten_cons, List.flatten_nil, List.append_nil, cs']
   rw [List.take_left']
   simp only [List.length_append, hl1, Vr.enc_len]; omega
theorem EnvAt.pop {H : Heap} {e : Nat} {v : En} {NS : AC} {b c n : Nat} (h : EnvAt H e v (.lit (.slice (some ⟨b, 0, none⟩) v.vars.length c)) NS) (hn : n ≤ v.vars.length) :
 EnvAt (H.set e (EnvO v.p v.fn (.lit (.slice (some ⟨b, 0, none⟩) n c)) NS v.code)) e (v.pop n) (.lit (.slice (some ⟨b, 0, none⟩) n c)) NS := by
 have hne : e ≠ b := by rintro rfl; exact EnvO_ne h.obj h.vars ⟨_, _, rfl⟩
 rcases h.vars with ⟨-, hh⟩ | ⟨b', c', cs, hh, hg, hc, hl, ht⟩
 ·simp at hh
 ·simp only [AC.lit.injEq, Value.slice.injEq, Option.some.injEq, Addr.mk.injEq, true_and, and_true, List.length_map] at hh hl ht
  obtain ⟨rfl, rfl⟩ := hh
  refine ⟨Heap.zzb _ _ _, .inr ⟨b, c, cs, by simp [En.pop]; omega, by rw [Heap.zza _ _ (Ne.symm hne)]; exact hg, hc, by simp [En.pop]; omega, ?_⟩, h.names.set h.obj _⟩
  have : (v.pop n).vars = v.vars.take n := rfl
  rw [this]
  simp only [List.length_map, List.length_take, Nat.min_eq_left hn, List.map_take]
  have h1 := congrArg (List.take (n * 6)) ht
  rw [List.take_take, Nat.min_eq_left (by omega)] at h1
  rw [h1]
  have h2 : v.vars.map Vr.enc = (v.vars.map Vr.enc).take n ++ (v.vars.map Vr.enc).drop n := (List.take_append_drop _ _).symm
  conv => lhs; rw [h2, List.flatten_append]
  rw [List.take_left']
  rw [xxg (sz := 6) (by simp [Vr.enc, List.mem_take_iff_getElem] ; intros; subst_vars; rfl)]
  simp; omega
end
end Go.Xl
namespace Go.Xl
open Nat renaming reduceEqDiff → rE, reduceAdd → rA, reduceLeDiff → rL
def deadAt (vs : List Vr) (n : Nat) : Bool := match vs[n]? with
 | some x => x.dead
 | none => false
def tmpVr (p : Pl) : Vr := ⟨bl [], true, false, .mk [], [p], false⟩
noncomputable def En.pick (v : En) (s : St) : En :=
 let r := v.expr s.expr
 let u := (r.1.num r.2).use s.place
 let n := u.1.vars.length
 let w := (u.1.push (tmpVr s.place)).use s.other
 let v5 := w.1.same w.2 u.2
 let v6 := if deadAt v5.vars n then v5.fail 4 else v5
 (v6.pop n).add ⟨s.name, true, false, u.2, [s.place, s.other], false⟩
theorem En.num_like (v : En) (t : Ty) : v.like (v.num t) := ⟨rfl, rfl, rfl, rfl⟩
theorem En.same_like (v : En) (a t : Ty) : v.like (v.same a t) := ⟨rfl, rfl, rfl, rfl⟩
theorem En.fail_like (v : En) (c : Int) : v.like (v.fail c) := ⟨rfl, rfl, rfl, rfl⟩
theorem Vr.ok_tmp {p : Pl} (hp : p.path.length ≤ 2 ^ 20) : (tmpVr p).ok := ⟨by simp [tmpVr], by simp [tmpVr]; exact hp⟩
theorem En.ok.push {v : En} (h : v.ok) (hl : v.vars.length + 1 ≤ 2 ^ 20) {x : Vr} (hx : x.ok ∧ x.type.wf) : (v.push x).ok := by
 refine ⟨by simp [En.push]; omega, fun y hy => ?_⟩
 simp only [En.push, List.mem_append, List.mem_singleton] at hy
 rcases hy with hy | rfl
 ·exact h.all y hy
 ·exact hx
theorem leRow_tmp (tok : Option (Nat × Nat × Nat)) (p : Pl) : LeRow [S (bl []), B true, B false, NIL, .sl 2 tok [[S p.name, zze p.path]], B false] (tmpVr p).enc := by
 refine ⟨rfl, fun j y hy => ?_⟩
 simp only [tmpVr, Vr.enc, Ty.kids, Ty.encs, List.map_cons, List.map_nil, Pl.enc] at hy
 match j, hy with
 | 0, hy => simp at hy; subst hy; exact .inl rfl
 | 1, hy => simp at hy; subst hy; exact .inl rfl
 | 2, hy => simp at hy; subst hy; exact .inl rfl
 | 3, hy => simp at hy; subst hy; exact .inr ⟨NIL, rfl, .nil 1, rfl⟩
 | 4, hy => simp at hy; subst hy; exact .inr ⟨_, rfl, .tok _ _ _, rfl⟩
 | 5, hy => simp at hy; subst hy; exact .inl rfl
 | n + 6, hy => simp at hy
structure StC (s : St) (cs : List AC) : Prop where
 len : cs.length = 15
 kind : cs[0]? = some (I s.kind)
 name : cs[1]? = some (S s.name)
 place : (cs.drop 2).take 2 = [S s.place.name, zze s.place.path]
 other : (cs.drop 4).take 2 = [S s.other.name, zze s.other.path]
 expr : (cs.drop 6).take 5 = s.expr.enc
 fn : cs[11]? = some (S s.fn)
 args : cs[12]? = some (.sl 8 none (s.args.map Ag.enc))
 thn : cs[13]? = some (.sl 15 none (St.encs s.thn))
 els : cs[14]? = some (.sl 15 none (St.encs s.els))
 all : cs.take 15 = cs
theorem stC (s : St) : ∃ cs, s.enc = cs ∧ StC s cs :=
 ⟨_, St.enc_eq s, rfl, rfl, rfl, rfl, rfl, by rw [Ex.enc_eq]; rfl, rfl, rfl, rfl, rfl, rfl⟩
section
variable {P : Program} {F : Ids}
theorem e_pick (L : Lib P F) (e : Nat) (v : En) (s : St) (hv : v.ok) (hl : v.vars.length + 1 ≤ 2 ^ 20) (hn : v.names.length + 1 ≤ 2 ^ 20) (hne : 0 < v.vars.length) (hx : s.expr.ok) (hp : s.place.path.length ≤ 2 ^ 20) (ho : s.other.path.length ≤ 2 ^ 20) :
 EnvC P F.s_l3Env_pick [.ptr e 0, .agg s.enc] e v fun q v' => q = .tup [] ∧ v' = v.pick s := by
 intro H VS NS hE
 refine L.s_l3Env_pick (by simp [x_s_l3Env_pick]) ?_
 obtain ⟨cs3, hcs3, C⟩ := stC s
 rw [hcs3]
 simp only [x_s_l3Env_pick, go_sem, rE, rA, C.len, rL, C.expr]
 intro b3 hb3
 have he3 := hE.new hb3 (.cells cs3)
 have hg3 : (H.set b3 (.cells cs3)).get b3 = some (.cells cs3) := Heap.zzb _ _ _
 refine run_env (e_expr L e _ s.expr (Nat.le_refl _) hx v hv) he3 (rfl) (.refl _) (by simp) trivial ?_
 rintro q v1 VS1 NS1 H1 fp ⟨rfl, hv1⟩ hE1 hk1 -
 obtain ⟨g3, n3⟩ := hk1 b3 (.cells cs3) hg3 (hE.notin hb3)
 obtain ⟨lk1, wf1⟩ := En.expr_good s.expr v hv
 rw [← hv1] at lk1
 refine run_env (e_num L e v1 (v.expr s.expr).2) hE1 (rfl) (.refl _) (by simp) trivial ?_
 rintro q v2 VS2 NS2 H2 fp2 ⟨rfl, hv2⟩ hE2 hk2 -
 obtain ⟨g3, n3⟩ := hk2 _ _ g3 n3
 have lk2 : v.like v2 := lk1.trans (hv2 ▸ v1.num_like _)
 simp only [go_sem, rE, rA, g3, C.len, rL, C.place]
 refine run_env (e_use' L e v2 (lk2.ok hv) s.place hp) hE2 (by simp only [go_sem, rE, Pl.enc]) (.refl _) (by simp) trivial ?_
 rintro q v3 VS3 NS3 H3 fp3 ⟨rfl, hv3⟩ hE3 hk3 -
 obtain ⟨g3, n3⟩ := hk3 _ _ g3 n3
 have lk3 : v.like v3 := lk2.trans (hv3 ▸ v2.use_like _)
 have wf3 := En.use_wf (lk2.ok hv) s.place
 have hu : v2.use s.place = (v3, (v2.use s.place).2) := by rw [hv3]
 generalize (v2.use s.place).2 = t at *
 simp only [go_sem, rE, rA, Ty.enc_eq t]
 intro b4 hb4
 have hE4 := hE3.new hb4 (.cells [.sl 1 none (Ty.encs t.kids)])
 have n4 := hE3.notin hb4
 have d34 := zzj g3 hb4
 have d4e := hE3.ne hb4
 have hob := hE3.obj
 have hlen3 : v3.vars.length = v.vars.length := lk3.len
 obtain ⟨vb, vc, cs, rfl, hr⟩ := hE3.vars.row (i := 0) (by omega)
 have hlim : v3.vars.length ≤ LIM := by simp only [LIM]; omega
 simp only [EnvO] at hob
 simp only [go_sem, rE, rA, d4e, hob, hlim, d34, g3, C.len, rL, C.place, List.replicate, List.flatten_cons, List.flatten_nil, chunk]
 intro b5 hb5
 have hE5 := hE4.new hb5 (.tail 2 2)
 have d45 := zzj (Heap.zzb H3 b4 (.cells [.sl 1 none (Ty.encs t.kids)])) hb5
 have d35 : b3 ≠ b5 := zzj (H := H3.set b4 (.cells [.sl 1 none (Ty.encs t.kids)])) (by rw [Heap.zza _ _ d34]; exact g3) hb5
 have d5e := hE4.ne hb5
 have hrv := hE5.vars
 have hnv := hE5.names
 have g4' : ((H3.set b4 (.cells [.sl 1 none (Ty.encs t.kids)])).set b5 (.tail 2 2)).get b4 = some (.cells [.sl 1 none (Ty.encs t.kids)]) := by rw [Heap.zza _ _ d45, Heap.zzb]
 have g3' : ((H3.set b4 (.cells [.sl 1 none (Ty.encs t.kids)])).set b5 (.tail 2 2)).get b3 = some (.cells cs3) := by rw [Heap.zza _ _ d35, Heap.zza _ _ d34]; exact g3
 have ge' := hE5.obj
 simp only [EnvO] at ge'
 generalize ((H3.set b4 (.cells [.sl 1 none (Ty.encs t.kids)])).set b5 (.tail 2 2)) = H5 at *
 refine run_appR (rows := v3.vars.map Vr.enc) (ys := [[S (bl []), B true, B false, NIL, .sl 2 (some (b5, 2, 2)) [[S s.place.name, zze s.place.path]], B false]]) (by simp only [go_sem, rE]; exact hrv) (rfl) (by simp) (by simp; omega) rfl ?_
 intro VS6 H6 fp6 hVS6 hkeep6 hblk6
 simp only [go_sem, rE] at hkeep6 hblk6
 have nb3 : ¬ blkOf (AC.lit (Value.slice (some { block := vb, off := 0 }) v3.vars.length vc)) b3 := fun h => n3 (.inr (.inl h))
 have nb4 : ¬ blkOf (AC.lit (Value.slice (some { block := vb, off := 0 }) v3.vars.length vc)) b4 := fun h => n4 (.inr (.inl h))
 have g6e : H6.get e = some (.cells [.sl 12 none (v3.p.map Fu.enc), I v3.fn, AC.lit (Value.slice (some { block := vb, off := 0 }) v3.vars.length vc), NS3, I v3.code]) := by
  rw [hkeep6 e (by rw [ge']; simp) (EnvO_ne hE3.obj hE3.vars)]; exact ge'
 have g63 : H6.get b3 = some (.cells cs3) := by rw [hkeep6 b3 (by rw [g3']; simp) nb3]; exact g3'
 have g64 : H6.get b4 = some (.cells [.sl 1 none (Ty.encs t.kids)]) := by rw [hkeep6 b4 (by rw [g4']; simp) nb4]; exact g4'
 have hn6 : AppSt H6 1 (xxe v3.names) NS3 := hnv.rows hrv hkeep6
 have d3e : b3 ≠ e := fun h => n3 (.inl h)
 have d4e' : b4 ≠ e := Ne.symm d4e
 simp only [go_sem, rE, rA, g6e, hVS6.one, rL]
 have hWo : (H6.set e (EnvO v3.p v3.fn VS6 NS3 v3.code)).get e = some (EnvO v3.p v3.fn VS6 NS3 v3.code) := Heap.zzb _ _ _
 have hnb6 : ∀ d, blkOf VS6 d → d ≠ e := by
  rintro d hd rfl
  rcases hblk6 d hd with h | h
  ·exact EnvO_ne hE3.obj hE3.vars h
  ·rw [ge'] at h; simp at h
 have hW := EnvAtW.push hWo (RowAt.mono hVS6 fun d hd => Heap.zza _ _ (hnb6 d hd)) (hn6.set g6e _) (leRow_tmp (some (b5, 2, 2)) s.place)
 have g73 : (H6.set e (EnvO v3.p v3.fn VS6 NS3 v3.code)).get b3 = some (.cells cs3) := by rw [Heap.zza _ _ d3e]; exact g63
 have g74 : (H6.set e (EnvO v3.p v3.fn VS6 NS3 v3.code)).get b4 = some (.cells [.sl 1 none (Ty.encs t.kids)]) := by rw [Heap.zza _ _ d4e']; exact g64
 simp only [EnvO] at hW g73 g74
 generalize H6.set e (.cells [.sl 12 none (v3.p.map Fu.enc), I v3.fn, VS6, NS3, I v3.code]) = H7 at *
 have n63 : ¬ yyb e VS6 NS3 b3 := by
  rintro (h | h | h)
  ·exact d3e h
  ·rcases hblk6 b3 h with h | h
   ·exact nb3 h
   ·rw [g3'] at h; simp at h
  ·exact n3 (.inr (.inr h))
 have n64 : ¬ yyb e VS6 NS3 b4 := by
  rintro (h | h | h)
  ·exact d4e' h
  ·rcases hblk6 b4 h with h | h
   ·exact nb4 h
   ·rw [g4'] at h; simp at h
  ·exact n4 (.inr (.inr h))
 have ok3 : (v3.push (tmpVr s.place)).ok := (lk3.ok hv).push (by omega) ⟨Vr.ok_tmp hp, Ty.wf_nil⟩
 simp only [go_sem, rE, rA, g73, C.len, rL, C.other]
 refine run_envW (e_use' L e (v3.push (tmpVr s.place)) ok3 s.other ho) hW (by simp only [go_sem, rE, Pl.enc]) (.refl _) (fun _ => ⟨_, _, rfl, rfl⟩) (by simp [chkE]) ?_
 rintro q v8 VS8 NS8 H8 fp8 ⟨rfl, hv8⟩ hE8 hk8 hfp8
 obtain ⟨g83, n83⟩ := hk8 _ _ g73 n63
 obtain ⟨g84, n84⟩ := hk8 _ _ g74 n64
 have nf4 : ¬ fp8 b4 := fun h => (hfp8 b4 h).elim n64 (fun h => by rw [g74] at h; simp at h)
 have lk8 : (v3.push (tmpVr s.place)).like v8 := hv8 ▸ En.use_like _ _
 have wf8 := En.use_wf ok3 s.other
 have hw : (v3.push (tmpVr s.place)).use s.other = (v8, ((v3.push (tmpVr s.place)).use s.other).2) := by rw [hv8]
 generalize ((v3.push (tmpVr s.place)).use s.other).2 = u at *
 simp only [go_sem, rE, rA, g84, chkL, List.mem_cons, List.not_mem_nil, or_false, forall_eq, nf4, rL]
 refine run_env (e_same L e v8 u t wf8) hE8 (by simp only [go_sem, rE, Ty.enc_eq t]) (.refl _) (fun _ => ⟨_, _, rfl, rfl⟩) trivial ?_
 rintro q v9 VS9 NS9 H9 fp9 ⟨rfl, hv9⟩ hE9 hk9 -
 obtain ⟨g93, n93⟩ := hk9 _ _ g83 n83
 obtain ⟨g94, n94⟩ := hk9 _ _ g84 n84
 have lk9 : (v3.push (tmpVr s.place)).like v9 := lk8.trans (hv9 ▸ En.same_like _ _ _)
 have hl9 : v9.vars.length = v3.vars.length + 1 := by rw [lk9.len]; simp [En.push]
 have hpick : v.pick s = ((if deadAt v9.vars v3.vars.length then v9.fail 4 else v9).pop v3.vars.length).add ⟨s.name, true, false, t, [s.place, s.other], false⟩ := by
  simp only [En.pick, ← hv1, ← hv2, hu, hw, ← hv9]
 have hnm : v9.names.length = v.names.length := by rw [lk9.names]; simp only [En.push]; rw [lk3.names]
 rw [hpick]
 have step : ∀ (E : Env) (H : Heap) (v6 : En) (VS NS : AC), EnvAt H e v6 VS NS → v6.vars.length = v3.vars.length + 1 → v6.names.length = v.names.length → E 0 = .ptr e 0 → E 3 = .ptr b3 0 → E 4 = .ptr b4 0 → E 5 = I v3.vars.length →
  H.get b3 = some (.cells cs3) → H.get b4 = some (.cells [.sl 1 none (Ty.encs t.kids)]) → ¬ yyb e VS NS b3 → ¬ yyb e VS NS b4 →
  XCode.wp P (kd2 F) (XFunc.post [] fun q H' => ∃ v' VS' NS', (q = .tup [] ∧ v' = (v6.pop v3.vars.length).add ⟨s.name, true, false, t, [s.place, s.other], false⟩) ∧ EnvAt H' e v' VS' NS') E H := by
  intro E H v6 VS NS hE hl6 hn6 e0 e3 e4 e5 g3 g4 n3 n4
  rw [kd2]
  obtain ⟨vb, vc, cs, rfl, hr⟩ := hE.vars.row (i := 0) (by omega)
  have hob := hE.obj
  simp only [EnvO] at hob
  have hcap : v3.vars.length ≤ vc ∧ 0 < vc := by have := hr.cap; omega
  have hpop := hE.pop (n := v3.vars.length) (by omega)
  simp only [EnvO] at hpop
  have d3e : b3 ≠ e := fun h => n3 (.inl h)
  have d4e : b4 ≠ e := fun h => n4 (.inl h)
  simp only [go_sem, rE, rA, e0, e3, e4, e5, hob, Int.natCast_nonneg, Int.toNat_natCast, hcap, rL, d3e, d4e, g3, g4, C.name, C.len, C.place, C.other, List.replicate, List.flatten_cons, List.flatten_nil, chunk]
  intro b10 hb10
  have hE10 := hpop.new hb10 (.tail 4 4)
  refine run_env (as' := [.ptr e 0, .agg [S s.name, B true, B false, .sl 1 none (Ty.encs t.kids), .sl 2 (some (b10, 2 * 2, 2 * 2)) [[S s.place.name, zze s.place.path], [S s.other.name, zze s.other.path]], B false]]) (e_add L e (v6.pop v3.vars.length) (by simp [En.pop]; omega) (by simp only [En.pop]; omega) ⟨s.name, true, false, t, [s.place, s.other], false⟩) hE10 (rfl)
   ⟨.refl _, .agg ⟨⟨.refl _, rfl⟩, ⟨.refl _, rfl⟩, ⟨.refl _, rfl⟩, ⟨.refl _, rfl⟩, ⟨.tok _ _ _, rfl⟩, ⟨.refl _, rfl⟩, trivial⟩, trivial⟩ (by simp) trivial ?_
  rintro q v11 VS11 NS11 H11 fp11 ⟨rfl, hv11⟩ hE11 - -
  simp only [run_nil]
  exact xxh (Heap.zzm _) ⟨v11, VS11, NS11, ⟨rfl, hv11⟩, hE11⟩
 obtain ⟨vb9, vc9, cs9, rfl, hr9⟩ := hE9.vars.row (i := v3.vars.length) (by omega)
 have hob9 := hE9.obj
 simp only [EnvO] at hob9
 have hlt9 : ((v3.vars.length : Nat) : Int) < v9.vars.length := by omega
 simp only [go_sem, rE, rA, hob9, hlt9, hr9.get, hr9.dead]
 have hdd : deadAt v9.vars v3.vars.length = v9.vars[v3.vars.length].dead := by
  simp only [deadAt, List.getElem?_eq_getElem (show v3.vars.length < v9.vars.length by omega)]
 rw [hdd]
 cases hd : v9.vars[v3.vars.length].dead
 ·simp only [wcond_false, wp_skip, xxa]
  exact step _ _ v9 _ _ hE9 hl9 hnm (rfl) (rfl) (rfl) (rfl) g93 g94 n93 n94
 ·simp only [wcond_true, go_sem, rE]
  refine run_env (e_fail L e v9 4) hE9 (rfl) (.refl _) (by simp) trivial ?_
  rintro q v10 VS10 NS10 H10 fp10 ⟨rfl, hv10⟩ hE10 hk10 -
  obtain ⟨g103, n103⟩ := hk10 _ _ g93 n93
  obtain ⟨g104, n104⟩ := hk10 _ _ g94 n94
  subst hv10
  simp only [run_nil, xxa, if_true]
  exact step _ _ (v9.fail 4) _ _ hE10 hl9 hnm (rfl) (rfl) (rfl) (rfl) g103 g104 n103 n104
end
end Go.Xl
namespace Go.Xl
open Nat renaming reduceEqDiff → rE, reduceAdd → rA, reduceLeDiff → rL
noncomputable def En.args : En → List (Pa × Ag) → List Pl → En × Option (List Pl)
 | v, [], pl => (v, some pl)
 | v, (p, a) :: l, pl => if a.lent ≠ p.lent then (v.fail 3, none) else
   if a.lent then ((((v.use a.place).1.same (v.use a.place).2 p.type)).push (tmpVr a.place)).args l (pl ++ [a.place])
   else ((v.expr a.expr).1.same (v.expr a.expr).2 p.type).args l pl
def En.gone (v : En) (n : Nat) : En := if (v.vars.drop n).any (fun x => x.dead) then v.fail 4 else v
def fnIdx (fs : List Fu) (name : ByteArray) (most : Nat) : Option Nat := (fs.take most).findIdx? fun f => decide (f.name = name)
noncomputable def En.call (v : En) (s : St) : En := match fnIdx v.p s.fn v.fn with
 | none => v.fail 2
 | some k => match v.p[k]? with
   | none => v
   | some f => if f.params.length ≠ s.args.length then v.fail 3 else
     match v.args (f.params.zip s.args) [] with
     | (w, none) => w
     | (w, some pl) => ((w.gone v.vars.length).pop v.vars.length).add ⟨s.name, f.lent, false, f.type, if f.lent then pl else [], false⟩
structure Ag.ok (a : Ag) : Prop where
 expr : a.lent = false → a.expr.ok
 path : a.place.path.length ≤ 2 ^ 20
structure Pa.ok (p : Pa) : Prop where
 type : p.type.wf
structure Fu.okS (f : Fu) : Prop where
 params : ∀ p ∈ f.params, p.ok
 type : f.type.wf
structure FuC (f : Fu) (cs : List AC) : Prop where
 len : cs.length = 12
 name : cs[0]? = some (S f.name)
 params : cs[1]? = some (.sl 3 none (f.params.map Pa.enc))
 lent : cs[2]? = some (B f.lent)
 type : (cs.drop 3).take 1 = f.type.enc
 body : cs[4]? = some (.sl 15 none (St.encs f.body))
 says : (cs.drop 5).take 5 = f.says.enc
 gives : (cs.drop 10).take 2 = [S f.gives.name, zze f.gives.path]
 all : cs.take 12 = cs
theorem fuC (f : Fu) : ∃ cs, f.enc = cs ∧ FuC f cs := ⟨_, Fu.enc_eq f, rfl, rfl, rfl, rfl, by rw [Ty.enc_eq]; rfl, rfl, by rw [Ex.enc_eq]; rfl, rfl, rfl⟩
structure AgC (a : Ag) (cs : List AC) : Prop where
 len : cs.length = 8
 lent : cs[0]? = some (B a.lent)
 place : (cs.drop 1).take 2 = [S a.place.name, zze a.place.path]
 expr : (cs.drop 3).take 5 = a.expr.enc
theorem agC (a : Ag) : ∃ cs, a.enc = cs ∧ AgC a cs := ⟨a.enc, rfl, by rw [Ag.enc, Ex.enc_eq]; rfl, rfl, rfl, by rw [Ag.enc, Ex.enc_eq]; rfl⟩
structure PaC (p : Pa) (cs : List AC) : Prop where
 len : cs.length = 3
 name : cs[0]? = some (S p.name)
 lent : cs[1]? = some (B p.lent)
 lent1 : (cs.drop 1)[0]? = some (B p.lent)
 type : (cs.drop 2).take 1 = p.type.enc
 all : cs.take 3 = cs
theorem paC (p : Pa) : ∃ cs, p.enc = cs ∧ PaC p cs := ⟨p.enc, rfl, by rw [Pa.enc, Ty.enc_eq]; rfl, rfl, rfl, rfl, by rw [Pa.enc, Ty.enc_eq]; rfl, by rw [Pa.enc, Ty.enc_eq]; rfl⟩
theorem push_step {H : Heap} {e : Nat} {v : En} {VS NS VS' : AC} {H' : Heap} {row : List AC} {x : Vr} (hE : EnvAt H e v VS NS) (hr : RowAt H' 6 (v.vars.map Vr.enc ++ [row]) VS')
 (hkeep : ∀ c, H.get c ≠ none → ¬ blkOf VS c → H'.get c = H.get c) (hblk : ∀ c, blkOf VS' c → blkOf VS c ∨ H.get c = none) (hrow : LeRow row x.enc) :
 H'.get e = some (EnvO v.p v.fn VS NS v.code) ∧ EnvAtW (H'.set e (EnvO v.p v.fn VS' NS v.code)) e (v.push x) VS' NS ∧
  ∀ b o, H.get b = some o → ¬ yyb e VS NS b → (H'.set e (EnvO v.p v.fn VS' NS v.code)).get b = some o ∧ H'.get b = some o ∧ ¬ yyb e VS' NS b := by
 have he : H'.get e = some (EnvO v.p v.fn VS NS v.code) := by
  rw [hkeep e (by rw [hE.obj]; simp) (EnvO_ne hE.obj hE.vars)]; exact hE.obj
 have hnb : ∀ d, blkOf VS' d → d ≠ e := by
  rintro d hd rfl
  rcases hblk d hd with h | h
  ·exact EnvO_ne hE.obj hE.vars h
  ·rw [hE.obj] at h; simp at h
 have hn : AppSt H' 1 (xxe v.names) NS := hE.names.rows hE.vars hkeep
 refine ⟨he, EnvAtW.push (Heap.zzb _ _ _) (RowAt.mono hr fun d hd => Heap.zza _ _ (hnb d hd)) (hn.set he _) hrow, fun b o hb hnb' => ?_⟩
 have h1 : b ≠ e := fun h => hnb' (.inl h)
 have h2 : H'.get b = some o := by
  rw [hkeep b (by rw [hb]; simp) (fun h => hnb' (.inr (.inl h)))]; exact hb
 refine ⟨by rw [Heap.zza _ _ h1]; exact h2, h2, ?_⟩
 rintro (h | h | h)
 ·exact h1 h
 ·rcases hblk b h with h | h
  ·exact hnb' (.inr (.inl h))
  ·rw [hb] at h; simp at h
 ·exact hnb' (.inr (.inr h))
open Classical in
theorem EnvAtW.mono {H H' : Heap} {e : Nat} {v : En} {VS NS : AC} (h : EnvAtW H e v VS NS) (hk : ∀ d, yyb e VS NS d → H'.get d = H.get d) : EnvAtW H' e v VS NS := by
 obtain ⟨H0, h1, h2, h3⟩ := h
 let G : Heap := ⟨fun b => if yyb e VS NS b then H0.get b else H'.get b, by
  obtain ⟨N, hN⟩ := H0.fin
  obtain ⟨N', hN'⟩ := H'.fin
  exact ⟨N + N', fun b hb => by simp only [hN b (by omega), hN' b (by omega), ite_self]⟩⟩
 have gin : ∀ d, yyb e VS NS d → G.get d = H0.get d := fun d hd => by simp only [G, hd, if_true]
 have gout : ∀ d, ¬ yyb e VS NS d → G.get d = H'.get d := fun d hd => by simp only [G, hd, if_false]
 refine ⟨G, fun b => ?_, gout, h3.mono gin⟩
 by_cases hb : yyb e VS NS b
 ·rw [gin b hb, hk b hb]; exact h1 b
 ·rw [gout b hb]; exact .inl rfl
theorem EnvAtW.wk {H : Heap} {e : Nat} {v : En} {VS NS : AC} (h : EnvAtW H e v VS NS) : ∃ H', HWk H H' ∧ EnvAt H' e v VS NS ∧ ∀ b, ¬ yyb e VS NS b → H'.get b = H.get b := by
 obtain ⟨H', h1, h2, h3⟩ := h
 exact ⟨H', h1.wk, h3, h2⟩
section
variable {P : Program} {F : Ids}
theorem fnAt_eq (fs : List Fu) (name : ByteArray) (most : Nat) : fnAt fs name most = match fnIdx fs name most with | some i => (i : Int) | none => -1 := rfl
theorem e_call (L : Lib P F) (e : Nat) (v : En) (s : St) (hv : v.ok) (hl : v.vars.length + s.args.length + 1 ≤ 2 ^ 20) (hn : v.names.length + 1 ≤ 2 ^ 20) (hne : 0 < v.vars.length) (ha : ∀ a ∈ s.args, a.ok)
 (hp : ∀ f ∈ v.p, f.okS) (hpl : v.p.length ≤ 2 ^ 20) (hfn : v.fn ≤ 2 ^ 20) : EnvC P F.s_l3Env_call [.ptr e 0, .agg s.enc] e v fun q v' => q = .tup [] ∧ v' = v.call s := by
 intro H VS NS hE
 refine L.s_l3Env_call (by simp [x_s_l3Env_call]) ?_
 obtain ⟨cs3, hcs3, C⟩ := stC s
 rw [hcs3]
 have hob := hE.obj
 simp only [EnvO] at hob
 simp only [x_s_l3Env_call, go_sem, rE, rA, C.len, rL]
 intro b3 hb3
 have d3e := hE.ne hb3
 have he3 := hE.new hb3 (.cells cs3)
 have n3 := hE.notin hb3
 simp only [go_sem, rE, rA, d3e, hob, C.fn, rL]
 refine zzc (c_l3Fn L v.p s.fn v.fn (by omega) (by omega)) (by simp only [go_sem, rE, Pg.enc]) ?_
 have hg3 : (H.set b3 (.cells cs3)).get b3 = some (.cells cs3) := Heap.zzb _ _ _
 simp only [go_sem, rE, rA, fnAt_eq]
 cases hk : fnIdx v.p s.fn v.fn with
 | none =>
   simp only [go_sem, rE, rA, Int.reduceLT]
   refine run_env (e_fail L e v 2) he3 (rfl) (.refl _) (by simp) trivial ?_
   rintro q v1 VS1 NS1 H1 fp1 ⟨rfl, hv1⟩ hE1 - -
   simp only [go_sem]
   exact post_unit_ret (Heap.zzm _) ⟨v1, VS1, NS1, ⟨rfl, by rw [hv1]; simp only [En.call, hk]⟩, hE1⟩
 | some k =>
   have hkl : k < v.p.length := by
    obtain ⟨h, -⟩ := List.findIdx?_eq_some_iff_getElem.1 hk
    simp at h; omega
   have hvk : v.p[k]? = some v.p[k] := List.getElem?_eq_getElem hkl
   have hfk := hp _ (List.getElem_mem hkl)
   have hge : ¬ (k : Int) < 0 := by omega
   obtain ⟨cs5, hcs5, CF⟩ := fuC v.p[k]
   have hgk : (v.p.map Fu.enc)[k]? = some cs5 := by rw [← hcs5]; simp [hkl]
   have hcall : v.call s = if v.p[k].params.length ≠ s.args.length then v.fail 3 else
    match v.args (v.p[k].params.zip s.args) [] with
    | (w, none) => w
    | (w, some pl) => ((w.gone v.vars.length).pop v.vars.length).add ⟨s.name, v.p[k].lent, false, v.p[k].type, if v.p[k].lent then pl else [], false⟩ := by
    simp only [En.call, hk, hvk]
   rw [hcall]
   generalize v.p[k] = f at *
   clear hcall
   have stepEnd : ∀ (E : Env) (H : Heap) (w : En) (pl : List Pl) (VS NS : AC) (tok : Option (Nat × Nat × Nat)), EnvAt H e w VS NS → v.vars.length ≤ w.vars.length → w.names.length = v.names.length → E 0 = .ptr e 0 → ∀ b5, E 3 = .ptr b3 0 → E 5 = .ptr b5 0 → E 6 = I v.vars.length →
    E 7 = .sl 2 tok (pl.map Pl.enc) → H.get b3 = some (.cells cs3) → H.get b5 = some (.cells cs5) → ¬ yyb e VS NS b3 → ¬ yyb e VS NS b5 →
    XCode.wp P (kd3 F) (XFunc.post [] fun q H' => ∃ v' VS' NS', (q = .tup [] ∧ v' = (w.pop v.vars.length).add ⟨s.name, f.lent, false, f.type, if f.lent then pl else [], false⟩) ∧ EnvAt H' e v' VS' NS') E H := by
    intro E H w pl VS NS tok hE hlw hnw e0 b5 e3 e5 e6 e7 g3 g5 n3 n5
    rw [kd3]
    obtain ⟨vb, vc, cs, rfl, hr⟩ := hE.vars.row (i := 0) (by omega)
    have hob := hE.obj
    simp only [EnvO] at hob
    have hcap : v.vars.length ≤ vc ∧ 0 < vc := by have := hr.cap; omega
    have hpop := hE.pop (n := v.vars.length) (by omega)
    simp only [EnvO] at hpop
    have d3e : b3 ≠ e := fun h => n3 (.inl h)
    have d5e : b5 ≠ e := fun h => n5 (.inl h)
    simp only [go_sem, rE, rA, e0, e3, e5, e6, e7, hob, Int.natCast_nonneg, Int.toNat_natCast, hcap, rL, d3e, d5e, g3, g5, C.name, CF.lent, CF.len, CF.type]
    refine run_callP (as' := [B f.lent, .sl 2 tok (pl.map Pl.enc)]) (c_l3Loans L f.lent (pl.map Pl.enc) 2) (by simp only [go_sem, rE, e7]) ⟨.refl _, .tok _ _ _, trivial⟩ ?_
    rw [Ty.enc_eq f.type]
    simp only [go_sem, rE, rA, e0]
    have hle : (if f.lent = true then List.map Pl.enc pl else []) = List.map Pl.enc (if f.lent then pl else []) := by cases f.lent <;> rfl
    rw [hle]
    refine run_env (e_add L e (w.pop v.vars.length) (by simp [En.pop]; omega) (by simp only [En.pop]; omega) ⟨s.name, f.lent, false, f.type, if f.lent then pl else [], false⟩) hpop (by simp only [go_sem, rE, Vr.enc]) (.refl _) (fun _ => ⟨_, _, rfl, rfl⟩) trivial ?_
    rintro q v11 VS11 NS11 H11 fp11 ⟨rfl, hv11⟩ hE11 - -
    simp only [run_nil]
    exact xxh (Heap.zzm _) ⟨v11, VS11, NS11, ⟨rfl, hv11⟩, hE11⟩
   have stepGone : ∀ (E : Env) (H : Heap) (w : En) (pl : List Pl) (VS NS : AC) (tok : Option (Nat × Nat × Nat)), EnvAt H e w VS NS → v.vars.length ≤ w.vars.length → w.vars.length ≤ 2 ^ 20 → w.names.length = v.names.length → E 0 = .ptr e 0 → ∀ b5, E 3 = .ptr b3 0 → E 5 = .ptr b5 0 → E 6 = I v.vars.length →
    E 7 = .sl 2 tok (pl.map Pl.enc) → H.get b3 = some (.cells cs3) → H.get b5 = some (.cells cs5) → ¬ yyb e VS NS b3 → ¬ yyb e VS NS b5 →
    XCode.wp P (kd4 F) (XFunc.post [] fun q H' => ∃ v' VS' NS', (q = .tup [] ∧ v' = ((w.gone v.vars.length).pop v.vars.length).add ⟨s.name, f.lent, false, f.type, if f.lent then pl else [], false⟩) ∧ EnvAt H' e v' VS' NS') E H := by
    intro E H w pl VS NS tok hE hlw hlw2 hnw e0 b5 e3 e5 e6 e7 g3 g5 n3 n5
    rw [kd4]
    simp only [go_sem, rE, rA, e6]
    refine yyc (w.vars.length - v.vars.length) (fun i E H => ∃ VS NS, EnvAt H e (if ((w.vars.drop v.vars.length).take i).any (fun x => x.dead) then w.fail 4 else w) VS NS ∧ E 0 = .ptr e 0 ∧ E 3 = .ptr b3 0 ∧ E 5 = .ptr b5 0 ∧ E 6 = I v.vars.length ∧
     E 7 = .sl 2 tok (pl.map Pl.enc) ∧ E 9 = I ((v.vars.length + i : Nat) : Int) ∧ H.get b3 = some (.cells cs3) ∧ H.get b5 = some (.cells cs5) ∧ ¬ yyb e VS NS b3 ∧ ¬ yyb e VS NS b5) ⟨VS, NS, by simpa using hE, e0, e3, e5, e6, e7, rfl, g3, g5, n3, n5⟩ ?_
    clear hE e0 e3 e5 e6 e7 g3 g5 n3 n5
    rintro i E H hi ⟨VS, NS, hE, e0, e3, e5, e6, e7, e9, g3, g5, n3, n5⟩
    have hvars : (if ((w.vars.drop v.vars.length).take i).any (fun x => x.dead) then w.fail 4 else w).vars = w.vars := by split <;> rfl
    obtain ⟨vb, vc, cs, rfl, hr0⟩ := hE.vars.row (i := 0) (by rw [hvars]; omega)
    have hob := hE.obj
    have hlim : w.vars.length ≤ LIM := by simp only [LIM]; omega
    simp only [EnvO, hvars] at hob
    simp only [go_sem, rE, rA, e0, e9, hob, hlim]
    refine zzn (fun hlt => ?_) (fun hge => ?_)
    ·have hlt1 : v.vars.length + i < w.vars.length := by omega
     obtain ⟨vb', vc', cs', heq, hr⟩ := hE.vars.row (i := v.vars.length + i) (by rw [hvars]; omega)
     simp only [AC.lit.injEq, Value.slice.injEq, Option.some.injEq, Addr.mk.injEq, true_and, and_true] at heq
     obtain ⟨rfl, rfl⟩ := heq
     have w1 := yya (n := ((v.vars.length + i : Nat) : Int) + 1) (by omega) (by omega)
     have hdd := hr.dead
     simp only [hvars] at hdd
     have htk : ((w.vars.drop v.vars.length).take (i + 1)).any (fun x => x.dead) = (((w.vars.drop v.vars.length).take i).any (fun x => x.dead) || w.vars[v.vars.length + i].dead) := by
      rw [List.take_succ_eq_append_getElem (by simp; omega), List.any_append]; simp
     simp only [go_sem, rE, rA, e0, e9, hob, hlt, hr.get, hdd]
     cases hd : w.vars[v.vars.length + i].dead
     ·simp only [go_sem, rE, rA, e9, w1]
      refine ⟨by omega, H, Heap.zzm _, _, NS, by rw [htk, hd, Bool.or_false]; exact hE, e0, e3, e5, e6, e7, by simp [go_sem]; omega, g3, g5, n3, n5⟩
     ·simp only [go_sem, rE, rA, e0]
      refine run_env (e_fail L e _ 4) hE (by simp only [go_sem, rE, e0]) (.refl _) (by simp) trivial ?_
      rintro q v10 VS10 NS10 H10 fp10 ⟨rfl, hv10⟩ hE10 hk10 -
      obtain ⟨g3, n3⟩ := hk10 _ _ g3 n3
      obtain ⟨g5, n5⟩ := hk10 _ _ g5 n5
      simp only [go_sem, rE, rA, e9, w1]
      refine ⟨by omega, H10, Heap.zzm _, VS10, NS10, ?_, e0, e3, e5, e6, e7, by simp [go_sem]; omega, g3, g5, n3, n5⟩
      rw [htk, hd, Bool.or_true, if_pos rfl]
      have : v10 = w.fail 4 := by
       rw [hv10]
       split
       ·simp only [En.fail, failC_failC _ 4 (by decide)]
       ·rfl
      rw [← this]; exact hE10
    ·simp only [wp_exit, then_exit, xxi, xxa]
     have hi' : i = w.vars.length - v.vars.length := by omega
     rw [List.take_of_length_le (by simp; omega)] at hE n3 n5
     exact stepEnd _ _ (w.gone v.vars.length) pl _ _ tok hE (by unfold En.gone; split <;> exact hlw) (by unfold En.gone; split <;> exact hnw) (e0) b5 (e3) (e5) (e6) (e7) g3 g5 n3 n5
   simp only [go_sem, rE, rA, hge, d3e, hob, hgk, CF.len, CF.all, CF.params]
   intro b5 hb5
   have d35 : b3 ≠ b5 := zzj hg3 hb5
   have he5 := he3.new hb5 (.cells cs5)
   have n5 := he3.notin hb5
   have d5e := he3.ne hb5
   simp only [go_sem, rE, rA, d35, C.args, List.length_map]
   by_cases hlen : f.params.length = s.args.length
   ·have hbne : ((f.params.length : Int) != s.args.length) = false := by rw [hlen]; simp
    have hlim : v.vars.length ≤ LIM := by simp only [LIM]; omega
    have hvr := he5.vars
    obtain ⟨vb, vc, cs, rfl, hr0⟩ := hvr.row (i := 0) hne
    have hlc : ¬ f.params.length ≠ s.args.length := by simpa using hlen
    rw [if_neg hlc]
    simp only [hbne, go_sem, rE, rA, d3e, d5e, hob, hlim]
    intro b7 hb7
    have d37 : b3 ≠ b7 := zzj (H := (H.set b3 (.cells cs3)).set b5 (.cells cs5)) (by rw [Heap.zza _ _ d35]; exact hg3) hb7
    have d57 : b5 ≠ b7 := zzj (Heap.zzb _ _ _) hb7
    let J : Nat → Env → Heap → Prop := fun k E H => ∃ (w : En) (pl : List Pl) (VS NS : AC) (bt nt mt : Nat), EnvAt H e w VS NS ∧ w.ok ∧ w.names = v.names ∧ v.vars.length ≤ w.vars.length ∧ w.vars.length ≤ v.vars.length + k ∧ pl.length ≤ k ∧
     v.args (f.params.zip s.args) [] = w.args ((f.params.zip s.args).drop k) pl ∧ E 0 = .ptr e 0 ∧ E 3 = .ptr b3 0 ∧ E 5 = .ptr b5 0 ∧ E 6 = I v.vars.length ∧ E 7 = .sl 2 (some (bt, nt, mt)) (pl.map Pl.enc) ∧ E 8 = I k ∧
     H.get b3 = some (.cells cs3) ∧ H.get b5 = some (.cells cs5) ∧ H.get bt = some (.tail nt mt) ∧ ¬ yyb e VS NS b3 ∧ ¬ yyb e VS NS b5 ∧ ¬ yyb e VS NS bt
    have he7 := he5.new hb7 (.tail 0 0)
    refine wp_rangeW s.args.length J ⟨v, [], _, NS, b7, 0, 0, he7, hv, rfl, by omega, by omega, by simp, by simp, rfl, rfl, rfl, rfl, rfl, rfl, by rw [Heap.zza _ _ d37, Heap.zza _ _ d35]; exact hg3,
     by rw [Heap.zza _ _ d57, Heap.zzb], Heap.zzb _ _ _, n3, n5, he5.notin hb7⟩ ?_
    clear he7 hob hlim he5 hvr
    rintro k E H hk ⟨w, pl, VS, NS, bt, nt, mt, hE, hw, hnm, hlw, hlw2, hpk, hargs, e0, e3, e5, e6, e7, e8, g3, g5, gt, n3, n5, n7⟩
    simp only [wp_seq, go_sem, rE, rA, e3, e8, g3, C.args, List.length_map]
    refine zzn (fun hlt => ?_) (fun hge => ?_)
    ·have hk1 : k < s.args.length := by omega
     have hk1' := hk1
     have hk2 : k < f.params.length := by omega
     obtain ⟨ca, hca, CA⟩ := agC s.args[k]
     obtain ⟨cp, hcp, CP⟩ := paC f.params[k]
     have hga : (s.args.map Ag.enc)[k]? = some ca := by rw [← hca]; simp [hk1]
     have hgp : (f.params.map Pa.enc)[k]? = some cp := by rw [← hcp]; simp [hk2]
     have hoka := ha _ (List.getElem_mem hk1)
     have hokp := hfk.params _ (List.getElem_mem hk2)
     have hz : (f.params.zip s.args).drop k = (f.params[k], s.args[k]) :: (f.params.zip s.args).drop (k + 1) := by
      rw [List.drop_eq_getElem_cons (by simp; omega)]; simp
     rw [hz] at hargs
     simp only [En.args] at hargs
     have w1 := yya (n := (k : Int) + 1) (by omega) (by omega)
     simp only [go_sem, rE, rA, e3, e5, e8, g3, C.args, g5, CF.params, hga, hgp, CA.lent, CP.lent1]
     by_cases hll : s.args[k].lent = f.params[k].lent
     ·rw [if_neg (by simpa using hll)] at hargs
      have hlf : f.params[k].lent = s.args[k].lent := hll.symm
      have cl := CA.lent
      cases hlent : s.args[k].lent
      ·rw [hlent] at hargs cl
       rw [if_neg (by simp)] at hargs
       simp only [hlf, hlent, cl, go_sem, rE, rA, e0, e3, e5, e8, g3, C.args, g5, CF.params, hga, hgp, CA.expr, CA.len, List.length_drop, Nat.reduceSub, rL]
       refine run_env (e_expr L e _ s.args[k].expr (Nat.le_refl _) (hoka.expr hlent) w hw) hE (by simp only [go_sem, rE, e0]) (.refl _) (fun _ => ⟨_, _, rfl, rfl⟩) (by simp [chkE]) ?_
       rintro q v1 VS1 NS1 H1 fp1 ⟨rfl, hv1⟩ hE1 hk1 hfp1
       have nf5 : ¬ fp1 b5 := fun h => (hfp1 b5 h).elim n5 (fun h => by rw [g5] at h; simp at h)
       obtain ⟨g3, n3⟩ := hk1 _ _ g3 n3
       obtain ⟨g5, n5⟩ := hk1 _ _ g5 n5
       obtain ⟨gt, n7⟩ := hk1 _ _ gt n7
       obtain ⟨lk1, wf1⟩ := En.expr_good s.args[k].expr w hw
       rw [← hv1] at lk1 hargs
       generalize (w.expr s.args[k].expr).2 = t1 at *
       simp only [go_sem, rE, rA, e0, e3, e5, e8, g5, CF.params, hgp, chkL, List.mem_cons, List.not_mem_nil, or_false, forall_eq, nf5, CP.len, CP.type, List.length_drop, Nat.reduceSub, rL]
       refine run_env (e_same L e v1 t1 f.params[k].type wf1) hE1 (rfl) (.refl _) (fun _ => ⟨_, _, rfl, rfl⟩) trivial ?_
       rintro q v2 VS2 NS2 H2 fp2 ⟨rfl, hv2⟩ hE2 hk2 -
       obtain ⟨g3, n3⟩ := hk2 _ _ g3 n3
       obtain ⟨g5, n5⟩ := hk2 _ _ g5 n5
       obtain ⟨gt, n7⟩ := hk2 _ _ gt n7
       rw [← hv2] at hargs
       have lk2 : w.like v2 := lk1.trans (hv2 ▸ En.same_like _ _ _)
       simp only [go_sem, rE, rA, e8, w1]
       refine ⟨hk1', H2, ⟨fun _ _ h => h, fun _ h => h⟩, v2, pl, VS2, NS2, bt, nt, mt, hE2, lk2.ok hw, by rw [lk2.names, hnm], by rw [lk2.len]; exact hlw, by rw [lk2.len]; omega, by omega, hargs, e0, e3, e5, e6, e7, rfl, g3, g5, gt, n3, n5, n7⟩
      ·rw [hlent] at hargs cl
       rw [if_pos rfl] at hargs
       simp only [hlf, hlent, cl, go_sem, rE, rA, e0, e3, e5, e8, g3, C.args, g5, CF.params, hga, hgp, CA.place, CA.len, List.length_drop, Nat.reduceSub, rL]
       refine run_env (e_use' L e w hw s.args[k].place hoka.path) hE (by simp only [go_sem, rE, e0, Pl.enc]) (.refl _) (fun _ => ⟨_, _, rfl, rfl⟩) (by simp [chkE]) ?_
       rintro q v1 VS1 NS1 H1 fp1 ⟨rfl, hv1⟩ hE1 hk1 hfp1
       have nf5 : ¬ fp1 b5 := fun h => (hfp1 b5 h).elim n5 (fun h => by rw [g5] at h; simp at h)
       obtain ⟨g3, n3⟩ := hk1 _ _ g3 n3
       obtain ⟨g5, n5⟩ := hk1 _ _ g5 n5
       obtain ⟨gt, n7⟩ := hk1 _ _ gt n7
       have lk1 : w.like v1 := hv1 ▸ w.use_like _
       have wf1 := En.use_wf hw s.args[k].place
       rw [← hv1] at hargs
       generalize (w.use s.args[k].place).2 = t1 at *
       simp only [go_sem, rE, rA, e0, e3, e5, e8, g5, CF.params, hgp, chkL, List.mem_cons, List.not_mem_nil, or_false, forall_eq, nf5, CP.len, CP.type, List.length_drop, Nat.reduceSub, rL]
       refine run_env (e_same L e v1 t1 f.params[k].type wf1) hE1 (rfl) (.refl _) (fun _ => ⟨_, _, rfl, rfl⟩) trivial ?_
       rintro q v2 VS2 NS2 H2 fp2 ⟨rfl, hv2⟩ hE2 hk2 -
       obtain ⟨g3, n3⟩ := hk2 _ _ g3 n3
       obtain ⟨g5, n5⟩ := hk2 _ _ g5 n5
       obtain ⟨gt, n7⟩ := hk2 _ _ gt n7
       rw [← hv2] at hargs
       have lk2 : w.like v2 := lk1.trans (hv2 ▸ En.same_like _ _ _)
       have hl2 := lk2.len
       have ho2 := hE2.obj
       simp only [EnvO] at ho2
       simp only [go_sem, rE, rA, e0, e3, e8, ho2, g3, C.args, hga, CA.place, CA.len, List.length_drop, Nat.reduceSub, rL, List.replicate, List.flatten_cons, List.flatten_nil, chunk]
       intro b9 hb9
       have hE3 := hE2.new hb9 (.tail 2 2)
       have d39 := zzj g3 hb9
       have d59 := zzj g5 hb9
       have dt9 := zzj gt hb9
       refine run_appR (rows := v2.vars.map Vr.enc) (ys := [[S (bl []), B true, B false, NIL, .sl 2 (some (b9, 2, 2)) [[S s.args[k].place.name, zze s.args[k].place.path]], B false]]) (by simp only [go_sem, rE]; exact hE3.vars) (rfl) (by simp) (by simp; omega) rfl ?_
       intro VS6 H6 fp6 hVS6 hkeep6 hblk6
       simp only [go_sem, rE] at hkeep6 hblk6
       obtain ⟨g6e, hW, hk6⟩ := push_step (x := tmpVr s.args[k].place) hE3 hVS6 hkeep6 hblk6 (leRow_tmp _ _)
       obtain ⟨g63, -, n63⟩ := hk6 b3 _ (by rw [Heap.zza _ _ d39]; exact g3) n3
       obtain ⟨g65, -, n65⟩ := hk6 b5 _ (by rw [Heap.zza _ _ d59]; exact g5) n5
       obtain ⟨g6t, -, n67⟩ := hk6 bt _ (by rw [Heap.zza _ _ dt9]; exact gt) n7
       simp only [EnvO] at g6e hW g63 g65 g6t
       simp only [go_sem, rE, rA, g6e, hVS6.one, rL]
       generalize H6.set e (.cells [AC.sl 12 none (v2.p.map Fu.enc), I v2.fn, VS6, NS2, I v2.code]) = H7 at *
       simp only [go_sem, rE, rA, e3, e7, e8, g63, C.args, hga, CA.place, CA.len, List.length_drop, Nat.reduceSub, rL, List.replicate, List.flatten_cons, List.flatten_nil, chunk]
       refine run_appT (es := pl.map Pl.enc) (ys := [[S s.args[k].place.name, zze s.args[k].place.path]]) (rfl) g6t (rfl) (by simp) (by simp; omega) ?_
       intro bt' nt' mt' H8 fp8 gt8 hkeep8 hbt8 _
       have keep8 : ∀ d, yyb e VS6 NS2 d → H8.get d = H7.get d := by
        intro d hd
        have hne : H7.get d ≠ none := by
         obtain ⟨H0, hpw, -, hE0⟩ := hW
         exact fun hn => hE0.mem hd ((hpw.dom d).1 hn)
        exact hkeep8 d hne (by rintro rfl; exact n67 hd)
       have hW8 := hW.mono keep8
       obtain ⟨H9, hwk, hE9, hout9⟩ := hW8.wk
       have hin : ∀ b o, H7.get b = some o → b ≠ bt → ¬ yyb e VS6 NS2 b → H9.get b = some o := by
        intro b o hb hne hnb
        rw [hout9 b hnb, hkeep8 b (by rw [hb]; simp) hne]; exact hb
       have nt9 : ¬ yyb e VS6 NS2 bt' := by
        rcases hbt8 with rfl | h
        ·exact n67
        ·intro hd
         obtain ⟨H0, hpw, -, hE0⟩ := hW
         exact hE0.mem hd ((hpw.dom _).1 h)
       have d3t : b3 ≠ bt := by rintro rfl; rw [g63] at g6t; simp at g6t
       have d5t : b5 ≠ bt := by rintro rfl; rw [g65] at g6t; simp at g6t
       simp only [go_sem, rE, rA, e8, w1]
       have hpush : (v2.push (tmpVr s.args[k].place)).vars.length = v2.vars.length + 1 := by simp [En.push]
       refine ⟨hk1', H9, hwk, v2.push (tmpVr s.args[k].place), pl ++ [s.args[k].place], VS6, NS2, bt', nt', mt', hE9, (lk2.ok hw).push (by omega) ⟨Vr.ok_tmp hoka.path, Ty.wf_nil⟩, ?_, by rw [hpush]; omega, by rw [hpush]; omega, by simp; omega, hargs,
        e0, e3, e5, e6, by simp [go_sem, Pl.enc], rfl, hin b3 _ g63 d3t n63, hin b5 _ g65 d5t n65, by rw [hout9 bt' nt9]; exact gt8, n63, n65, nt9⟩
       show (v2.push (tmpVr s.args[k].place)).names = v.names
       exact lk2.names.trans hnm
     ·have hb1 : (!(s.args[k].lent == f.params[k].lent)) = true := by simp [hll]
      rw [if_pos (by simpa using hll)] at hargs
      simp only [hb1, go_sem, rE, rA, e0]
      refine run_env (e_fail L e w 3) hE (by simp only [go_sem, rE, e0]) (.refl _) (by simp) trivial ?_
      rintro q v1 VS1 NS1 H1 fp1 ⟨rfl, hv1⟩ hE1 - -
      simp only [go_sem]
      rw [hargs]
      exact post_unit_ret (Heap.zzm _) ⟨v1, VS1, NS1, ⟨rfl, hv1⟩, hE1⟩
    ·have hkk : k = s.args.length := by omega
     subst hkk
     simp only [wp_exit, then_exit, xxi, xxa]
     rw [List.drop_of_length_le (by simp; omega), En.args] at hargs
     rw [hargs]
     exact stepGone _ _ w pl VS NS (some (bt, nt, mt)) hE hlw hw.len (by rw [hnm]) (e0) b5 (e3) (e5) (e6) (e7) g3 g5 n3 n5
   ·have hbne : ((f.params.length : Int) != s.args.length) = true := bne_iff_ne.2 (by omega)
    have hlc : f.params.length ≠ s.args.length := hlen
    rw [if_pos hlc]
    simp only [hbne, go_sem, rE, rA]
    refine run_env (e_fail L e v 3) he5 (rfl) (.refl _) (by simp) trivial ?_
    rintro q v1 VS1 NS1 H1 fp1 ⟨rfl, hv1⟩ hE1 - -
    simp only [go_sem]
    exact post_unit_ret (Heap.zzm _) ⟨v1, VS1, NS1, ⟨rfl, hv1⟩, hE1⟩
end
end Go.Xl
namespace Go.Xl
open Nat renaming reduceEqDiff → rE, reduceAdd → rA, reduceLeDiff → rL
def mergeV (vs as bs : List Vr) : List Vr := vs.mapIdx fun i x => { x with dead := deadAt as i || deadAt bs i }
def En.join (v a b : En) : En := (({ v with vars := mergeV v.vars a.vars b.vars, names := b.names } : En).fail0 a.code).fail0 b.code
mutual
noncomputable def En.stmt (v : En) : St → En
 | .mk k n p o e f as t l =>
   if k = 1 then (v.expr e).1.add ⟨n, false, false, (v.expr e).2, [], false⟩
   else if k = 2 then (v.use p).1.add ⟨n, true, false, (v.use p).2, [p], false⟩
   else if k = 3 then ((v.expr e).1.use p).1.same ((v.expr e).1.use p).2 (v.expr e).2
   else if k = 4 then v.call (.mk k n p o e f as t l)
   else if k = 6 then v.pick (.mk k n p o e f as t l)
   else
    let w := (v.expr e).1.num (v.expr e).2
    let a := w.body t
    w.join a (({ w with names := a.names } : En).body l)
termination_by x => SizeOf.sizeOf x
noncomputable def En.body (v : En) : List St → En
 | [] => v
 | s :: l => if v.code = 0 then (v.stmt s).body l else v
termination_by x => SizeOf.sizeOf x
end
noncomputable def En.fork (v : En) (s : St) : En := v.join (v.body s.thn) (({ v with names := (v.body s.thn).names } : En).body s.els)
theorem En.stmt_eq (v : En) (s : St) : v.stmt s = if s.kind = 1 then (v.expr s.expr).1.add ⟨s.name, false, false, (v.expr s.expr).2, [], false⟩
 else if s.kind = 2 then (v.use s.place).1.add ⟨s.name, true, false, (v.use s.place).2, [s.place], false⟩
 else if s.kind = 3 then ((v.expr s.expr).1.use s.place).1.same ((v.expr s.expr).1.use s.place).2 (v.expr s.expr).2
 else if s.kind = 4 then v.call s else if s.kind = 6 then v.pick s else ((v.expr s.expr).1.num (v.expr s.expr).2).fork s := by
 obtain ⟨k, n, p, o, e, f, as, t, l⟩ := s
 rw [En.stmt.eq_def]; rfl
theorem En.body_nil (v : En) : v.body [] = v := by rw [En.body.eq_def]
theorem En.body_cons (v : En) (s : St) (l : List St) : v.body (s :: l) = if v.code = 0 then (v.stmt s).body l else v := by rw [En.body.eq_def]
mutual
def St.cnt : St → Nat
 | .mk _ _ _ _ _ _ as t l => 1 + as.length + St.cntL t + St.cntL l
def St.cntL : List St → Nat
 | [] => 0
 | s :: l => s.cnt + St.cntL l
end
theorem St.cnt_eq (s : St) : s.cnt = 1 + s.args.length + St.cntL s.thn + St.cntL s.els := by cases s; rw [St.cnt]; rfl
theorem St.cntL_nil : St.cntL [] = 0 := by rw [St.cntL]
theorem St.cntL_cons (s : St) (l : List St) : St.cntL (s :: l) = s.cnt + St.cntL l := by rw [St.cntL]
theorem St.len_le : ∀ l : List St, l.length ≤ St.cntL l
 | [] => by simp
 | s :: l => by rw [St.cntL_cons, St.cnt_eq, List.length_cons]; have := St.len_le l; omega
inductive St.ok : St → Prop where
 | mk {k : Int} {n : ByteArray} {p o : Pl} {e : Ex} {f : ByteArray} {as : List Ag} {t l : List St} (hp : p.path.length ≤ 2 ^ 20) (ho : o.path.length ≤ 2 ^ 20) (he : k ≠ 2 → k ≠ 4 → e.ok) (ha : ∀ a ∈ as, a.ok)
  (ht : ∀ x ∈ t, St.ok x) (hl : ∀ x ∈ l, St.ok x) : St.ok (.mk k n p o e f as t l)
theorem St.ok.get {s : St} (h : s.ok) : s.place.path.length ≤ 2 ^ 20 ∧ s.other.path.length ≤ 2 ^ 20 ∧ (s.kind ≠ 2 → s.kind ≠ 4 → s.expr.ok) ∧ (∀ a ∈ s.args, a.ok) ∧ (∀ x ∈ s.thn, x.ok) ∧ ∀ x ∈ s.els, x.ok := by
 cases h with
 | mk h1 h2 h3 h4 h5 h6 => exact ⟨h1, h2, h3, h4, h5, h6⟩
structure En.step (v w : En) (n : Nat) : Prop where
 p : w.p = v.p
 fn : w.fn = v.fn
 lo : v.vars.length ≤ w.vars.length
 hi : w.vars.length ≤ v.vars.length + n
 names : w.names.length ≤ v.names.length + n
 ok : w.ok
theorem En.step.refl {v : En} (h : v.ok) : v.step v 0 := ⟨rfl, rfl, Nat.le_refl _, Nat.le_refl _, Nat.le_refl _, h⟩
theorem En.step.trans {u v w : En} {n m : Nat} (h : u.step v n) (h' : v.step w m) : u.step w (n + m) :=
 ⟨h'.p.trans h.p, h'.fn.trans h.fn, Nat.le_trans h.lo h'.lo, by have := h.hi; have := h'.hi; omega, by have := h.names; have := h'.names; omega, h'.ok⟩
theorem En.step.mono {v w : En} {n m : Nat} (h : v.step w n) (hm : n ≤ m) : v.step w m := ⟨h.p, h.fn, h.lo, by have := h.hi; omega, by have := h.names; omega, h.ok⟩
theorem En.like.step {v w : En} (h : v.like w) (ho : v.ok) : v.step w 0 := ⟨h.p, h.fn, by rw [h.len]; exact Nat.le_refl _, by rw [h.len]; exact Nat.le_refl _, by rw [h.names]; exact Nat.le_refl _, h.ok ho⟩
theorem En.step.add {v w : En} {n : Nat} (h : v.step w n) (hl : v.vars.length + n + 1 ≤ 2 ^ 20) {x : Vr} (hx : x.ok ∧ x.type.wf) : v.step (w.add x) (n + 1) := by
 have hh := h.hi
 have hlo := h.lo
 have hn := h.names
 refine ⟨h.p, h.fn, by simp [En.add]; omega, by simp [En.add]; omega, by simp [En.add]; omega, ⟨by simp [En.add]; omega, fun y hy => ?_⟩⟩
 simp only [En.add, List.mem_append, List.mem_singleton] at hy
 rcases hy with hy | rfl
 ·exact h.ok.all y hy
 ·exact hx
theorem En.args_step : ∀ (l : List (Pa × Ag)) (v : En) (pl : List Pl), v.ok → v.vars.length + l.length ≤ 2 ^ 20 → (∀ x ∈ l, x.2.ok) →
 v.step (v.args l pl).1 l.length ∧ (v.args l pl).1.names = v.names ∧ ∀ q, (v.args l pl).2 = some q → q.length ≤ pl.length + l.length ∧ ∀ r ∈ q, r ∈ pl ∨ r.path.length ≤ 2 ^ 20
 | [], v, pl, h, hl, ha => ⟨.refl h, rfl, fun q hq => by simp [En.args] at hq; subst hq; exact ⟨by simp, fun r hr => .inl hr⟩⟩
 | (p, a) :: l, v, pl, h, hl, ha => by
   simp only [List.length_cons] at hl
   have hoka := ha (p, a) (by simp)
   rw [En.args]
   by_cases h1 : a.lent ≠ p.lent
   ·rw [if_pos h1]
    exact ⟨(En.fail_like v 3).step h |>.mono (by simp), rfl, fun q hq => by simp at hq⟩
   ·rw [if_neg h1]
    by_cases h2 : a.lent = true
    ·rw [if_pos h2]
     have hs := ((v.use_like a.place).trans (En.same_like _ (v.use a.place).2 p.type))
     have ho := hs.ok h
     have hpush := ho.push (x := tmpVr a.place) (by rw [hs.len]; omega) ⟨Vr.ok_tmp hoka.path, Ty.wf_nil⟩
     obtain ⟨i1, i2, i3⟩ := En.args_step l _ (pl ++ [a.place]) hpush (by simp only [En.push, List.length_append, List.length_cons, List.length_nil, hs.len]; omega) (fun x hx => ha x (by simp [hx]))
     refine ⟨?_, i2.trans hs.names, fun q hq => ?_⟩
     ·have s1 : v.step (((v.use a.place).1.same (v.use a.place).2 p.type).push (tmpVr a.place)) 1 :=
       ⟨hs.p, hs.fn, by simp only [En.push, List.length_append, hs.len]; omega, by simp only [En.push, List.length_append, List.length_cons, List.length_nil, hs.len]; omega, by simp only [En.push, hs.names]; omega, hpush⟩
      exact (s1.trans i1).mono (by simp; omega)
     ·obtain ⟨j1, j2⟩ := i3 q hq
      refine ⟨by simp at j1 ⊢; omega, fun r hr => ?_⟩
      rcases j2 r hr with h | h
      ·rcases List.mem_append.1 h with h | h
       ·exact .inl h
       ·simp at h; subst h; exact .inr hoka.path
      ·exact .inr h
    ·rw [if_neg h2]
     obtain ⟨g1, g2⟩ := En.expr_good a.expr v h
     have hs := g1.trans (En.same_like _ (v.expr a.expr).2 p.type)
     obtain ⟨i1, i2, i3⟩ := En.args_step l _ pl (hs.ok h) (by rw [hs.len]; omega) (fun x hx => ha x (by simp [hx]))
     exact ⟨((hs.step h).trans i1).mono (by simp), i2.trans hs.names, fun q hq => by obtain ⟨j1, j2⟩ := i3 q hq; exact ⟨by simp; omega, j2⟩⟩
theorem En.ok.pop {v : En} (h : v.ok) (n : Nat) : (v.pop n).ok := ⟨by simp [En.pop]; have := h.len; omega, fun x hx => h.all x (List.mem_of_mem_take hx)⟩
theorem En.call_step {v : En} {s : St} (h : v.ok) (hl : v.vars.length + s.args.length + 1 ≤ 2 ^ 20) (ha : ∀ a ∈ s.args, a.ok) (hp : ∀ f ∈ v.p, f.okS) : v.step (v.call s) (s.args.length + 1) := by
 unfold En.call
 split
 ·exact ((En.fail_like v 2).step h).mono (by omega)
 ·split
  ·exact (En.step.refl h).mono (by omega)
  ·rename_i f hf
   have hfo := hp f (List.mem_of_getElem? hf)
   split
   ·exact ((En.fail_like v 3).step h).mono (by omega)
   ·rename_i hlen
    have hlen : f.params.length = s.args.length := by simpa using hlen
    have hz : (f.params.zip s.args).length = s.args.length := by simp; omega
    obtain ⟨i1, i2, i3⟩ := En.args_step (f.params.zip s.args) v [] h (by rw [hz]; omega) (fun x hx => ha _ (List.of_mem_zip hx).2)
    rw [hz] at i1 i3
    split
    ·rename_i w hw
     rw [hw] at i1
     exact i1.mono (by omega)
    ·rename_i w pl hw
     rw [hw] at i1 i2 i3
     simp only at i1 i2 i3
     obtain ⟨j1, j2⟩ := i3 pl rfl
     have hg : (w.gone v.vars.length).vars = w.vars := by unfold En.gone; split <;> rfl
     have hg2 : (w.gone v.vars.length).names = w.names := by unfold En.gone; split <;> rfl
     have hg3 : (w.gone v.vars.length).p = w.p := by unfold En.gone; split <;> rfl
     have hg4 : (w.gone v.vars.length).fn = w.fn := by unfold En.gone; split <;> rfl
     have hgo : (w.gone v.vars.length).ok := by unfold En.gone; split; exact (En.fail_like _ _).ok i1.ok; exact i1.ok
     have hlo := i1.lo
     have s1 : v.step ((w.gone v.vars.length).pop v.vars.length) 0 := by
      refine ⟨hg3.trans i1.p, hg4.trans i1.fn, ?_, ?_, ?_, hgo.pop _⟩
      ·simp only [En.pop, hg, List.length_take]; omega
      ·simp only [En.pop, hg, List.length_take]; omega
      ·simp only [En.pop, hg2, i2]; omega
     refine (s1.add (by omega) ⟨⟨?_, ?_⟩, hfo.type⟩).mono (by omega)
     ·simp only; split
      ·simp at j1; omega
      ·simp
     ·intro q hq
      simp only at hq
      split at hq
      ·exact (j2 q hq).resolve_left (by simp)
      ·simp at hq
theorem En.pick_step {v : En} {s : St} (h : v.ok) (hl : v.vars.length + 1 ≤ 2 ^ 20) (hp : s.place.path.length ≤ 2 ^ 20) (ho : s.other.path.length ≤ 2 ^ 20) : v.step (v.pick s) 1 := by
 obtain ⟨g1, g2⟩ := En.expr_good s.expr v h
 have l1 := (g1.trans (En.num_like _ (v.expr s.expr).2)).trans (En.use_like _ s.place)
 have l2 : ((((v.expr s.expr).1.num (v.expr s.expr).2).use s.place).1.push (tmpVr s.place)).like _ := (En.use_like _ s.other).trans (En.same_like _ (((((v.expr s.expr).1.num (v.expr s.expr).2).use s.place).1.push (tmpVr s.place)).use s.other).2 (((v.expr s.expr).1.num (v.expr s.expr).2).use s.place).2)
 have wf : (((v.expr s.expr).1.num (v.expr s.expr).2).use s.place).2.wf := En.use_wf ((g1.trans (En.num_like _ (v.expr s.expr).2)).ok h) s.place
 simp only [En.pick]
 generalize (((v.expr s.expr).1.num (v.expr s.expr).2).use s.place).2 = t at *
 generalize (((v.expr s.expr).1.num (v.expr s.expr).2).use s.place).1 = u at *
 generalize ((u.push (tmpVr s.place)).use s.other).1.same ((u.push (tmpVr s.place)).use s.other).2 t = w at *
 have l3 : (u.push (tmpVr s.place)).like (if deadAt w.vars u.vars.length then w.fail 4 else w) := by
  split
  ·exact l2.trans (En.fail_like _ _)
  ·exact l2
 generalize (if deadAt w.vars u.vars.length then w.fail 4 else w) = w' at *
 have okp := (l1.ok h).push (x := tmpVr s.place) (by rw [l1.len]; exact hl) ⟨Vr.ok_tmp hp, Ty.wf_nil⟩
 have hlw : w'.vars.length = u.vars.length + 1 := by rw [l3.len]; simp [En.push]
 have hlu := l1.len
 have s1 : v.step (w'.pop u.vars.length) 0 := by
  refine ⟨l3.p.trans l1.p, l3.fn.trans l1.fn, ?_, ?_, ?_, (l3.ok okp).pop _⟩
  ·simp only [En.pop, List.length_take]; omega
  ·simp only [En.pop, List.length_take]; omega
  ·simp only [En.pop, l3.names, En.push, l1.names]; omega
 exact s1.add (by omega) ⟨⟨by simp, by simp; exact ⟨hp, ho⟩⟩, wf⟩
theorem mergeV_len (vs as bs : List Vr) : (mergeV vs as bs).length = vs.length := by simp [mergeV]
theorem mergeV_ok {vs as bs : List Vr} (h : ∀ x ∈ vs, x.ok ∧ x.type.wf) : ∀ x ∈ mergeV vs as bs, x.ok ∧ x.type.wf := by
 intro x hx
 obtain ⟨i, hi, rfl⟩ := List.mem_iff_getElem.1 hx
 simp only [mergeV, List.length_mapIdx] at hi
 simp only [mergeV, List.getElem_mapIdx]
 obtain ⟨⟨h1, h2⟩, h3⟩ := h _ (List.getElem_mem hi)
 exact ⟨⟨h1, h2⟩, h3⟩
theorem En.join_step {v a b : En} (h : v.ok) {n : Nat} (hn : b.names.length ≤ v.names.length + n) : v.step (v.join a b) n := by
 have hl := h.len
 refine ⟨rfl, rfl, by simp [En.join, En.fail0, mergeV_len], by simp [En.join, En.fail0, mergeV_len], hn, ⟨by simp [En.join, En.fail0, mergeV_len]; exact hl, ?_⟩⟩
 exact mergeV_ok h.all
theorem En.stmt_step : ∀ (n : Nat), (∀ (s : St), s.cnt ≤ n → s.ok → ∀ v : En, v.ok → v.vars.length + s.cnt ≤ 2 ^ 20 → (∀ f ∈ v.p, f.okS) → v.step (v.stmt s) s.cnt) ∧
 (∀ (l : List St), St.cntL l ≤ n → (∀ s ∈ l, s.ok) → ∀ v : En, v.ok → v.vars.length + St.cntL l ≤ 2 ^ 20 → (∀ f ∈ v.p, f.okS) → v.step (v.body l) (St.cntL l)) := by
 intro n
 induction n with
 | zero =>
   refine ⟨fun s hs => by rw [St.cnt_eq] at hs; omega, fun l hl hok v hv hle hp => ?_⟩
   have : l = [] := by
    cases l with
    | nil => rfl
    | cons s l => rw [St.cntL_cons, St.cnt_eq] at hl; omega
   subst this
   rw [En.body_nil, St.cntL_nil]; exact .refl hv
 | succ n ih =>
   have stm : ∀ (s : St), s.cnt ≤ n + 1 → s.ok → ∀ v : En, v.ok → v.vars.length + s.cnt ≤ 2 ^ 20 → (∀ f ∈ v.p, f.okS) → v.step (v.stmt s) s.cnt := by
    intro s hs hok v hv hle hp
    rw [St.cnt_eq] at hs hle ⊢
    obtain ⟨h1, h2, h3, h4, h5, h6⟩ := hok.get
    rw [En.stmt_eq]
    obtain ⟨g1, g2⟩ := En.expr_good s.expr v hv
    by_cases k1 : s.kind = 1
    ·rw [if_pos k1]; exact ((g1.step hv).add (by omega) ⟨⟨by simp, by simp⟩, g2⟩).mono (by omega)
    rw [if_neg k1]
    by_cases k2 : s.kind = 2
    ·rw [if_pos k2]; exact (((v.use_like s.place).step hv).add (by omega) ⟨⟨by simp, by simp; exact h1⟩, En.use_wf hv s.place⟩).mono (by omega)
    rw [if_neg k2]
    by_cases k3 : s.kind = 3
    ·rw [if_pos k3]; exact (((g1.trans (En.use_like _ s.place)).trans (En.same_like _ _ _)).step hv).mono (by omega)
    rw [if_neg k3]
    by_cases k4 : s.kind = 4
    ·rw [if_pos k4]; exact (En.call_step hv (by omega) h4 hp).mono (by omega)
    rw [if_neg k4]
    by_cases k6 : s.kind = 6
    ·rw [if_pos k6]; exact (En.pick_step hv (by omega) h1 h2).mono (by omega)
    rw [if_neg k6]
    have hw := g1.trans (En.num_like _ (v.expr s.expr).2)
    generalize (v.expr s.expr).1.num (v.expr s.expr).2 = w at *
    have hwl := hw.len
    have ha := ih.2 s.thn (by omega) h5 w (hw.ok hv) (by omega) (by rw [hw.p]; exact hp)
    have hb := ih.2 s.els (by omega) h6 { w with names := (w.body s.thn).names } (by obtain ⟨q1, q2⟩ := hw.ok hv; exact ⟨q1, q2⟩) (by simp only; omega) (by simp only; rw [hw.p]; exact hp)
    have n1 := ha.names
    have n2 := hb.names
    have := En.join_step (a := w.body s.thn) (b := ({ w with names := (w.body s.thn).names } : En).body s.els) (hw.ok hv) (n := St.cntL s.thn + St.cntL s.els) (by simp only at n2; omega)
    exact (((hw.step hv).trans this)).mono (by omega)
   refine ⟨stm, fun l => ?_⟩
   induction l with
   | nil => intro hl hok v hv hle hp; rw [En.body_nil, St.cntL_nil]; exact .refl hv
   | cons s l ihl =>
     intro hl hok v hv hle hp
     rw [St.cntL_cons] at hl hle ⊢
     rw [En.body_cons]
     split
     ·have h1 := stm s (by omega) (hok s (by simp)) v hv (by omega) hp
      have h2 := h1.hi
      exact h1.trans (ihl (by omega) (fun x hx => hok x (by simp [hx])) _ h1.ok (by omega) (by rw [h1.p]; exact hp))
     ·exact (En.step.refl hv).mono (by omega)
end Go.Xl
namespace Go.Xl
open Nat renaming reduceEqDiff → rE, reduceAdd → rA, reduceLeDiff → rL
theorem EnvAt.sub {H H1 : Heap} {e : Nat} {v : En} {VS NS : AC} (h : EnvAt H e v VS NS) (hs : H.sub H1) : EnvAt H1 e v VS NS := by
 refine h.mono fun d hd => ?_
 obtain ⟨o, ho⟩ := Option.ne_none_iff_exists'.1 (h.mem hd)
 rw [ho]; exact hs _ _ ho
theorem EnvAt.keep {H H1 : Heap} {e : Nat} {v : En} {VS NS : AC} {T T1 : Nat → Prop} (h : EnvAt H e v VS NS) (hk : ∀ b o, H.get b = some o → ¬ T b → H1.get b = some o ∧ ¬ T1 b) (hd : ∀ d, yyb e VS NS d → ¬ T d) :
 EnvAt H1 e v VS NS ∧ ∀ d, yyb e VS NS d → ¬ T1 d := by
 have key : ∀ d, yyb e VS NS d → ∃ o, H.get d = some o ∧ H1.get d = some o ∧ ¬ T1 d := by
  intro d hd'
  obtain ⟨o, ho⟩ := Option.ne_none_iff_exists'.1 (h.mem hd')
  obtain ⟨h1, h2⟩ := hk d o ho (hd d hd')
  exact ⟨o, ho, h1, h2⟩
 exact ⟨h.mono fun d hd' => by obtain ⟨o, h1, h2, -⟩ := key d hd'; rw [h1, h2], fun d hd' => by obtain ⟨o, -, -, h3⟩ := key d hd'; exact h3⟩
def setAt (vs : List Vr) (i : Nat) (c : Bool) : List Vr := vs.modify i fun v => { v with dead := c }
theorem setAt_len (vs : List Vr) (i : Nat) (c : Bool) : (setAt vs i c).length = vs.length := by simp [setAt]
theorem enc_setAt (vs : List Vr) (i : Nat) (c : Bool) : (setAt vs i c).map Vr.enc = (vs.map Vr.enc).modify i fun r => r.set 5 (B c) := by
 unfold setAt
 apply List.ext_getElem?
 intro k
 simp only [List.getElem?_map, List.getElem?_modify]
 cases vs[k]? with
 | none => rfl
 | some v => by_cases h : i = k <;> simp [h, Vr.enc]
theorem vars_set {vs : List Vr} {cs : List AC} (c : Bool) (hcs : cs.take ((vs.map Vr.enc).length * 6) = (vs.map Vr.enc).flatten) {i : Nat} (hi : i < vs.length) :
 (yyi cs (i * 6 + 5) [B c]).length = cs.length ∧ (yyi cs (i * 6 + 5) [B c]).take (((setAt vs i c).map Vr.enc).length * 6) = ((setAt vs i c).map Vr.enc).flatten := by
 have hlen := xxg (ys := vs.map Vr.enc) (sz := 6) (by simp [Vr.enc])
 have h1 : i * 6 + 5 < (vs.map Vr.enc).length * 6 := by simp; omega
 have h2 : (vs.map Vr.enc).length * 6 ≤ cs.length := by
  have := congrArg List.length hcs
  rw [hlen, List.length_take] at this; omega
 rw [splice_set _ (by omega)]
 refine ⟨by simp, ?_⟩
 have h3 : ((setAt vs i c).map Vr.enc).length = (vs.map Vr.enc).length := by simp [setAt_len]
 rw [h3, List.take_set, hcs, enc_setAt, rows_set (sz := 6) _ _ _ _ (by simp [Vr.enc]) (by omega)]
theorem EnvAt.setD {H : Heap} {e : Nat} {v : En} {NS : AC} {vb vc i : Nat} {cs : List AC} (c : Bool) (h : EnvAt H e v (.lit (.slice (some ⟨vb, 0, none⟩) v.vars.length vc)) NS) (hi : i < v.vars.length) (hr : RowOf H v.vars i vb vc cs hi) :
 EnvAt (H.set vb (.cells (yyi cs (i * 6 + 5) [B c]))) e { v with vars := setAt v.vars i c } (.lit (.slice (some ⟨vb, 0, none⟩) v.vars.length vc)) NS := by
 obtain ⟨k1, k2⟩ := vars_set c hr.all hi
 have hne : e ≠ vb := by rintro rfl; exact EnvO_ne h.obj h.vars ⟨_, _, rfl⟩
 refine ⟨by rw [Heap.zza _ _ hne]; exact h.obj, .inr ⟨vb, vc, _, by simp [setAt_len], Heap.zzb _ _ _, by rw [k1]; exact hr.len, by simp [setAt_len]; exact hr.cap, k2⟩, h.names.set hr.get _⟩
def mergeTo (vs as bs : List Vr) (n : Nat) : List Vr := vs.mapIdx fun i x => if i < n then { x with dead := deadAt as i || deadAt bs i } else x
theorem mergeTo_len (vs as bs : List Vr) (n : Nat) : (mergeTo vs as bs n).length = vs.length := by simp [mergeTo]
theorem mergeTo_zero (vs as bs : List Vr) : mergeTo vs as bs 0 = vs := by
 apply List.ext_getElem?
 intro k
 simp [mergeTo]
theorem mergeTo_all (vs as bs : List Vr) : mergeTo vs as bs vs.length = mergeV vs as bs := by
 apply List.ext_getElem (by simp [mergeTo, mergeV])
 intro k h1 h2
 have : k < vs.length := by simpa [mergeTo] using h1
 simp [mergeTo, mergeV, this]
theorem mergeTo_succ (vs as bs : List Vr) (n : Nat) : mergeTo vs as bs (n + 1) = setAt (mergeTo vs as bs n) n (deadAt as n || deadAt bs n) := by
 apply List.ext_getElem?
 intro k
 simp only [setAt, mergeTo, List.getElem?_modify, List.getElem?_mapIdx]
 cases vs[k]? with
 | none => rfl
 | some v =>
   by_cases h : n = k
   ·subst h; simp
   ·have : (k < n + 1) = (k < n) := by apply propext; omega
    simp [h, this]
section
variable {P : Program} {F : Ids}
theorem run_copy (L : Lib P F) {K : Env → Heap → Prop} {xs : List XOper} {E : Env} {H : Heap} {l : Lds} {f : Fps} {i : Nat} {args : List XArg} {d : Option Nat} {e : Nat} {v : En} {VS NS : AC} (hE : EnvAt H e v VS NS)
 (hl : v.vars.length ≤ 2 ^ 30) (hn : v.names.length ≤ 2 ^ 30) (ha : args.map (XArg.ev E) = [.ptr e 0])
 (h : ∀ a VS' NS' H1 fp, EnvAt H1 a v VS' NS' → H.sub H1 → (∀ d, yyb a VS' NS' d → H.get d = none) → rrun P false K xs (E.put d (.ptr a 0)) H1 l ((i, fp) :: f)) :
 rrun P false K (⟨i, d, none, .eff (.call F.s_l3Env_copy args), []⟩ :: xs) E H l f := by
 refine run_callS (yyb e VS NS) (c_copy L e v VS NS (H.only (yyb e VS NS)) hE.only hl hn) ha (.refl _) (by simp) trivial ?_
 rintro q H' H1 ⟨a, VS', NS', rfl, hE', hsame, hnew⟩ hsub hafter hn2 -
 refine h a VS' NS' H1 _ (hE'.sub hsub) (fun b o hb => ?_) (fun d hd => ?_)
 ·by_cases hS : yyb e VS NS b
  ·refine hsub b o ?_
   rw [hsame b (by rw [Heap.xxf hS, hb]; simp), Heap.xxf hS]; exact hb
  ·rw [hafter.out b hS (by rw [hb]; simp)]; exact hb
 ·rcases hn2 d (hE'.mem hd) with h | h
  ·have := hnew d hd
   rw [Heap.xxf h] at this; exact this
  ·exact h
theorem e_fork (L : Lib P F) (e : Nat) (v : En) (s : St) (hv : v.ok) (hl : v.vars.length + St.cntL s.thn + St.cntL s.els ≤ 2 ^ 20) (hn : v.names.length + St.cntL s.thn + St.cntL s.els ≤ 2 ^ 20) (hne : 0 < v.vars.length) (hs : s.ok)
 (hp : ∀ f ∈ v.p, f.okS)
 (hbody : ∀ (a : Nat) (l : List St), (l = s.thn ∨ l = s.els) → ∀ w : En, w.ok → w.p = v.p → w.fn = v.fn → w.vars.length = v.vars.length → w.names.length + St.cntL l ≤ 2 ^ 20 → EnvC P F.s_l3Env_body [.ptr a 0, .sl 15 none (St.encs l)] a w fun q v' => q = .tup [] ∧ v' = w.body l) :
 EnvC P F.s_l3Env_fork [.ptr e 0, .agg s.enc] e v fun q v' => q = .tup [] ∧ v' = v.fork s := by
 intro H VS NS hE
 refine L.s_l3Env_fork (by simp [x_s_l3Env_fork]) ?_
 obtain ⟨cs3, hcs3, C⟩ := stC s
 obtain ⟨h1, h2, h3, h4, h5, h6⟩ := hs.get
 have hvl := hv.len
 rw [hcs3]
 simp only [x_s_l3Env_fork, go_sem, rE, rA]
 intro b3 hb3
 have hE3 := hE.new hb3 (.cells cs3)
 have n3 := hE.notin hb3
 have g3 : (H.set b3 (.cells cs3)).get b3 = some (.cells cs3) := Heap.zzb _ _ _
 refine run_copy L hE3 (by omega) (by omega) (rfl) ?_
 intro a VSa NSa H1 fp hEa hs1 hnew
 have hE1 := hE3.sub hs1
 have dis1 : ∀ d, yyb e VS NS d → ¬ yyb a VSa NSa d := fun d hd hd' => hE3.mem hd (hnew d hd')
 have na3 : ¬ yyb a VSa NSa b3 := fun h => by have := hnew b3 h; rw [g3] at this; simp at this
 have g3 := hs1 _ _ g3
 clear hnew hs1 hE3 hE
 simp only [go_sem, rE, rA, g3, C.thn]
 refine run_env (hbody a s.thn (.inl rfl) v hv rfl rfl rfl (by omega)) hEa (rfl) (.refl _) (by simp) trivial ?_
 rintro q va VSa NSa H2 fp2 ⟨rfl, hva⟩ hEa hk2 -
 obtain ⟨hE2, dis2⟩ := hE1.keep hk2 dis1
 obtain ⟨g3, na3⟩ := hk2 _ _ g3 na3
 have sa := (En.stmt_step (St.cntL s.thn)).2 s.thn (Nat.le_refl _) h5 v hv (by omega) hp
 rw [← hva] at sa
 clear hk2 dis1 hE1
 simp only [go_sem, rE, rA]
 refine run_copy L hE2 (by omega) (by omega) (rfl) ?_
 intro b VSb NSb H3 fp hEb hs3 hnew
 have hE3 := hE2.sub hs3
 have hEa3 := hEa.sub hs3
 have disb : ∀ d, yyb e VS NS d → ¬ yyb b VSb NSb d := fun d hd hd' => hE2.mem hd (hnew d hd')
 have disab : ∀ d, yyb a VSa NSa d → ¬ yyb b VSb NSb d := fun d hd hd' => hEa.mem hd (hnew d hd')
 have nb3 : ¬ yyb b VSb NSb b3 := fun h => by have := hnew b3 h; rw [g3] at this; simp at this
 have g3 := hs3 _ _ g3
 clear hnew hs3 hE2 hEa
 have hoa := hEa3.obj
 have hob := hEb.obj
 simp only [EnvO] at hoa hob
 simp only [go_sem, rE, rA]
 intro b16 hb16
 have hne16a := hEa3.ne hb16
 have hne16b := hEb.ne hb16
 simp only [go_sem, rE, rA, hne16a, hoa]
 refine run_appT (es := []) (ys := xxe va.names) (rfl) (Heap.zzb _ _ _) (by simp only [go_sem, rE]; exact hEa3.names.elems) (by simp [xxe]) (by have := sa.names; simp [xxe]; omega) ?_
 intro bt nt mt H4 fp4 hbt hkeep4 hbt16 _
 have hbtn : H3.get bt = none := by
  rcases hbt16 with rfl | h
  ·exact hb16
  ·by_cases hbb : bt = b16
   ·subst hbb; exact hb16
   ·rw [Heap.zza _ _ hbb] at h; exact h
 have hs4 : H3.sub H4 := by
  intro d o hd
  have hd16 : d ≠ b16 := by rintro rfl; rw [hb16] at hd; simp at hd
  rw [hkeep4 d (by rw [Heap.zza _ _ hd16, hd]; simp) hd16, Heap.zza _ _ hd16]; exact hd
 have hEb4 := hEb.sub hs4
 have ob4 := hs4 _ _ hob
 simp only [go_sem, rE, rA, ob4, rL]
 have hbtb : bt ≠ b := by rintro rfl; rw [hob] at hbtn; simp at hbtn
 have hEb5 : EnvAt (H4.set b (EnvO v.p v.fn VSb (.sl 1 (some (bt, nt, mt)) (xxe va.names)) v.code)) b { v with names := va.names } VSb (.sl 1 (some (bt, nt, mt)) (xxe va.names)) := by
  refine ⟨Heap.zzb _ _ _, RowAt.mono hEb4.vars fun d hd => Heap.zza _ _ (by rintro rfl; exact EnvO_ne hEb4.obj hEb4.vars hd), .inr ⟨bt, nt, mt, rfl, ?_⟩⟩
  rw [Heap.zza _ _ hbtb]; exact hbt
 have inb : ∀ d, yyb b VSb (.sl 1 (some (bt, nt, mt)) (xxe va.names)) d → yyb b VSb NSb d ∨ H3.get d = none := by
  rintro d (h | h | ⟨_, _, _, _, h⟩)
  ·exact .inl (.inl h)
  ·exact .inl (.inr (.inl h))
  ·simp at h; exact .inr (h.2.1.1 ▸ hbtn)
 have keep5 : ∀ {d o}, H3.get d = some o → ¬ yyb b VSb NSb d → (H4.set b (EnvO v.p v.fn VSb (.sl 1 (some (bt, nt, mt)) (xxe va.names)) v.code)).get d = some o ∧ ¬ yyb b VSb (.sl 1 (some (bt, nt, mt)) (xxe va.names)) d := by
  intro d o hd hn
  refine ⟨by rw [Heap.zza _ _ (fun h => hn (.inl h))]; exact hs4 _ _ hd, fun h => ?_⟩
  rcases inb d h with h | h
  ·exact hn h
  ·rw [hd] at h; simp at h
 obtain ⟨hE5, dis5⟩ := hE3.keep (fun b o h1 h2 => keep5 h1 h2) disb
 obtain ⟨hEa5, disa5⟩ := hEa3.keep (fun b o h1 h2 => keep5 h1 h2) disab
 obtain ⟨g3, nb3⟩ := keep5 g3 nb3
 simp only [EnvO] at hEb5 hE5 hEa5 g3
 clear keep5 inb hEb4 hs4 hkeep4 hE3 hEa3 hEb
 generalize H4.set b (.cells [AC.sl 12 none (v.p.map Fu.enc), I v.fn, VSb, .sl 1 (some (bt, nt, mt)) (xxe va.names), I v.code]) = H5 at *
 simp only [go_sem, rE, rA, g3, C.els]
 have san := sa.names
 refine run_env (hbody b s.els (.inr rfl) { v with names := va.names } (by obtain ⟨q1, q2⟩ := hv; exact ⟨q1, q2⟩) rfl rfl rfl (by simp only; omega)) hEb5 (rfl) (.refl _) (by simp) trivial ?_
 rintro q vb VSb NSb H6 fp6 ⟨rfl, hvb⟩ hEb6 hk6 -
 obtain ⟨hE6, dis6⟩ := hE5.keep hk6 dis5
 obtain ⟨hEa6, disa6⟩ := hEa5.keep hk6 disa5
 have disae : ∀ d, yyb e VS NS d → ¬ yyb a VSa NSa d := dis2
 have sb := (En.stmt_step (St.cntL s.els)).2 s.els (Nat.le_refl _) h6 { v with names := va.names } (by obtain ⟨q1, q2⟩ := hv; exact ⟨q1, q2⟩) (by simp only; omega) hp
 rw [← hvb] at sb
 have hfork : v.fork s = v.join va vb := by simp only [En.fork, ← hva, ← hvb]
 rw [hfork]
 clear hk6 hEb5 hEa5 hE5 dis5 disa5
 have sal := sa.lo
 have sbl := sb.lo
 simp only at sbl
 have dnb : b ≠ e := by rintro rfl; exact dis6 _ (.inl rfl) (.inl rfl)
 have dna : a ≠ e := by rintro rfl; exact disae _ (.inl rfl) (.inl rfl)
 simp only [go_sem, rE, rA]
 obtain ⟨eb, ec, ecs, rfl, er⟩ := hE6.vars.row (i := 0) hne
 have hlim : v.vars.length ≤ LIM := by simp only [LIM]; omega
 let At := fun (H : Heap) => EnvAt H a va VSa NSa ∧ EnvAt H b vb VSb NSb
 refine yyc v.vars.length (fun i E H => EnvAt H e { v with vars := mergeTo v.vars va.vars vb.vars i } (AC.lit (Value.slice (some { block := eb, off := 0 }) v.vars.length ec)) NS ∧ EnvAt H a va VSa NSa ∧ EnvAt H b vb VSb NSb ∧ E 0 = .ptr e 0 ∧ E 4 = .ptr a 0 ∧ E 5 = .ptr b 0 ∧ E 6 = I i)
  ⟨by rw [mergeTo_zero]; exact hE6, hEa6, hEb6, rfl, rfl, rfl, rfl⟩ ?_
 clear hE6 hEa6 hEb6 g3
 rintro i E H hi ⟨hE6, hEa6, hEb6, e0, e4, e5, e6⟩
 have hob := hE6.obj
 have hoa := hEa6.obj
 have hobb := hEb6.obj
 simp only [EnvO] at hob hoa hobb
 simp only [wp_seq, go_sem, rE, rA, e0, e6, hob, hlim]
 refine zzn (fun hlt => ?_) (fun hge => ?_)
 ·have hi1 : i < v.vars.length := by omega
  have him : i < (mergeTo v.vars va.vars vb.vars i).length := by rw [mergeTo_len]; exact hi1
  obtain ⟨eb', ec', ecs', heq, er⟩ := hE6.vars.row him
  simp only [AC.lit.injEq, Value.slice.injEq, Option.some.injEq, Addr.mk.injEq, true_and, and_true] at heq
  obtain ⟨rfl, -, rfl⟩ := heq
  obtain ⟨ab, ac, acs, rfl, ar⟩ := hEa6.vars.row (i := i) (by omega)
  obtain ⟨bb, bc, bcs, rfl, br⟩ := hEb6.vars.row (i := i) (by omega)
  have hda : deadAt va.vars i = va.vars[i].dead := by simp only [deadAt, List.getElem?_eq_getElem (show i < va.vars.length by omega)]
  have hdb : deadAt vb.vars i = vb.vars[i].dead := by simp only [deadAt, List.getElem?_eq_getElem (show i < vb.vars.length by omega)]
  have w1 := yya (n := (i : Int) + 1) (by omega) (by omega)
  have l1 : (i : Int) < va.vars.length := by omega
  have l2 : (i : Int) < vb.vars.length := by omega
  have next : ∀ (c : Bool), c = (deadAt va.vars i || deadAt vb.vars i) → (EnvAt (H.set eb (.cells (yyi ecs' (i * 6 + 5) [B c]))) e { v with vars := mergeTo v.vars va.vars vb.vars (i + 1) } (AC.lit (Value.slice (some { block := eb, off := 0 }) v.vars.length ec)) NS ∧
   EnvAt (H.set eb (.cells (yyi ecs' (i * 6 + 5) [B c]))) a va (AC.lit (Value.slice (some { block := ab, off := 0 }) va.vars.length ac)) NSa ∧ EnvAt (H.set eb (.cells (yyi ecs' (i * 6 + 5) [B c]))) b vb (AC.lit (Value.slice (some { block := bb, off := 0 }) vb.vars.length bc)) NSb) := by
   intro c hc
   have hlen : (mergeTo v.vars va.vars vb.vars i).length = v.vars.length := mergeTo_len _ _ _ _
   have h1 := EnvAt.setD (v := { v with vars := mergeTo v.vars va.vars vb.vars i }) c (by simp only [hlen]; exact hE6) him er
   simp only [hlen] at h1
   refine ⟨by rw [mergeTo_succ, ← hc]; exact h1, hEa6.mono fun d hd => Heap.zza _ _ (by rintro rfl; exact disae _ (.inr (.inl ⟨_, _, rfl⟩)) hd), hEb6.mono fun d hd => Heap.zza _ _ (by rintro rfl; exact dis6 _ (.inr (.inl ⟨_, _, rfl⟩)) hd)⟩
  cases hc : va.vars[i].dead
  ·have ad := ar.dead
   rw [hc] at ad
   simp only [go_sem, rE, rA, e0, e4, e5, e6, hob, hoa, hobb, l1, l2, hlt, ar.get, ad, br.get, br.dead, er.get, w1]
   obtain ⟨q1, q2, q3⟩ := next vb.vars[i].dead (by rw [hda, hdb, hc]; rfl)
   exact ⟨by have := er.off; omega, hi1, _, Heap.zzm _, q1, q2, q3, rfl⟩
  ·have ad := ar.dead
   rw [hc] at ad
   simp only [go_sem, rE, rA, e0, e4, e5, e6, hob, hoa, hobb, l1, l2, hlt, ar.get, ad, br.get, br.dead, er.get, w1]
   obtain ⟨q1, q2, q3⟩ := next true (by rw [hda, hdb, hc]; rfl)
   exact ⟨by have := er.off; omega, hi1, _, Heap.zzm _, q1, q2, q3, rfl⟩
 ·have hii : i = v.vars.length := by omega
  subst hii
  simp only [wp_exit, then_exit, xxi, xxa]
  rw [mergeTo_all] at hE6
  have hns := hEb6.names.one
  simp only [go_sem, rE, rA, e0, e4, e5, hob, hobb, hoa, hns, rL, dna, dnb]
  have hE7 : EnvAt (H.set e (EnvO v.p v.fn (AC.lit (Value.slice (some { block := eb, off := 0 }) v.vars.length ec)) NSb v.code)) e { v with vars := mergeV v.vars va.vars vb.vars, names := vb.names } (AC.lit (Value.slice (some { block := eb, off := 0 }) v.vars.length ec)) NSb := by
   refine ⟨Heap.zzb _ _ _, RowAt.mono hE6.vars fun d hd => Heap.zza _ _ (by rintro rfl; exact EnvO_ne hE6.obj hE6.vars hd), hEb6.names.set hob _⟩
  have gb7 : (H.set e (EnvO v.p v.fn (AC.lit (Value.slice (some { block := eb, off := 0 }) v.vars.length ec)) NSb v.code)).get b = some (.cells [AC.sl 12 none (vb.p.map Fu.enc), I vb.fn, VSb, NSb, I vb.code]) := by rw [Heap.zza _ _ dnb]; exact hobb
  have nb7 : ¬ yyb e (AC.lit (Value.slice (some { block := eb, off := 0 }) v.vars.length ec)) NSb b := by
   rintro (h | h | ⟨_, _, _, _, h⟩)
   ·exact dnb h
   ·exact dis6 _ (.inr (.inl h)) (.inl rfl)
   ·have := hEb6.names
    rcases this with ⟨-, h'⟩ | ⟨b', n', m', h', hb'⟩
    ·rw [h] at h'; simp at h'
    ·rw [h] at h'; simp at h'; rw [← h'.2.1.1, hobb] at hb'; simp at hb'
  simp only [EnvO] at hE7 gb7
  have ga7 : (H.set e (EnvO v.p v.fn (AC.lit (Value.slice (some { block := eb, off := 0 }) v.vars.length ec)) NSb v.code)).get a = some (.cells [AC.sl 12 none (va.p.map Fu.enc), I va.fn, VSa, NSa, I va.code]) := by rw [Heap.zza _ _ dna]; exact hoa
  simp only [EnvO] at ga7
  generalize H.set e (.cells [AC.sl 12 none (v.p.map Fu.enc), I v.fn, AC.lit (Value.slice (some { block := eb, off := 0 }) v.vars.length ec), NSb, I v.code]) = H7 at *
  generalize hu : ({ v with vars := mergeV v.vars va.vars vb.vars, names := vb.names } : En) = u at *
  have hjoin : v.join va vb = (u.fail0 va.code).fail0 vb.code := by rw [← hu]; rfl
  rw [hjoin]
  have fin : ∀ (E : Env) (H : Heap) (VS NS : AC), EnvAt H e (u.fail0 va.code) VS NS → E 0 = .ptr e 0 → E 5 = .ptr b 0 → H.get b = some (.cells [AC.sl 12 none (vb.p.map Fu.enc), I vb.fn, VSb, NSb, I vb.code]) →
   XCode.wp P (rg [mv 0 80 0, mv 1 81 5, nc 2 82 81, fa 3 83 4 82, ld 4 84 none 83, ca 5 85 F.s_l3Env_fail0 [80, 84]]) (XFunc.post [] fun q H' => ∃ v' VS' NS', (q = .tup [] ∧ v' = (u.fail0 va.code).fail0 vb.code) ∧ EnvAt H' e v' VS' NS') E H := by
   intro E H VS NS hE e0 e5 gb
   simp only [go_sem, rE, rA, e0, e5, gb]
   refine run_env (e_fail0 L e (u.fail0 va.code) vb.code) hE (rfl) (.refl _) (by simp) trivial ?_
   rintro q v9 VS9 NS9 H9 fp9 ⟨rfl, hv9⟩ hE9 - -
   simp only [run_nil]
   exact xxh (Heap.zzm _) ⟨v9, VS9, NS9, ⟨rfl, hv9⟩, hE9⟩
  refine zzn (fun hgt => ?_) (fun hle => ?_)
  ·simp only [go_sem, rE, rA, e0, e4, ga7]
   refine run_env (e_fail L e u va.code) hE7 (rfl) (.refl _) (by simp) trivial ?_
   rintro q v8 VS8 NS8 H8 fp8 ⟨rfl, hv8⟩ hE8 hk8 -
   obtain ⟨gb8, -⟩ := hk8 _ _ gb7 nb7
   have : v8 = u.fail0 va.code := by rw [hv8]; simp only [En.fail, En.fail0]; rw [if_pos (by omega)]
   subst this
   simp only [run_nil, xxa]
   exact fin _ _ _ _ hE8 (e0) (e5) gb8
  ·have : u.fail0 va.code = u := by simp only [En.fail0]; rw [if_neg (by omega)]
   rw [this] at fin ⊢
   simp only [wp_skip, xxa]
   exact fin _ _ _ _ hE7 (e0) (e5) gb7
end
end Go.Xl
namespace Go.Xl
open Nat renaming reduceEqDiff → rE, reduceAdd → rA, reduceLeDiff → rL
section
variable {P : Program} {F : Ids}
def StmtC (P : Program) (F : Ids) (n : Nat) : Prop := ∀ (e : Nat) (s : St), s.cnt ≤ n → s.ok → ∀ v : En, v.ok → v.vars.length + s.cnt ≤ 2 ^ 20 → v.names.length + s.cnt ≤ 2 ^ 20 → 0 < v.vars.length → (∀ f ∈ v.p, f.okS) → v.p.length ≤ 2 ^ 20 → v.fn ≤ 2 ^ 20 →
 EnvC P F.s_l3Env_stmt [.ptr e 0, .agg s.enc] e v fun q v' => q = .tup [] ∧ v' = v.stmt s
def BodyC (P : Program) (F : Ids) (n : Nat) : Prop := ∀ (e : Nat) (l : List St), St.cntL l ≤ n → (∀ s ∈ l, s.ok) → ∀ v : En, v.ok → v.vars.length + St.cntL l ≤ 2 ^ 20 → v.names.length + St.cntL l ≤ 2 ^ 20 → 0 < v.vars.length → (∀ f ∈ v.p, f.okS) → v.p.length ≤ 2 ^ 20 → v.fn ≤ 2 ^ 20 →
 EnvC P F.s_l3Env_body [.ptr e 0, .sl 15 none (St.encs l)] e v fun q v' => q = .tup [] ∧ v' = v.body l
theorem cntL_take : ∀ (l : List St) (k : Nat), St.cntL (l.take k) + St.cntL (l.drop k) = St.cntL l
 | [], k => by simp [St.cntL_nil]
 | s :: l, 0 => by simp [St.cntL_nil]
 | s :: l, k + 1 => by simp only [List.take_succ_cons, List.drop_succ_cons, St.cntL_cons]; have := cntL_take l k; omega
theorem e_body (L : Lib P F) (n : Nat) (h : StmtC P F n) : BodyC P F n := by
 intro e l hl hok v hv hvl hnl hne hp hpl hfn H VS NS hE
 refine L.s_l3Env_body (by simp [x_s_l3Env_body]) ?_
 have hll := St.len_le l
 simp only [x_s_l3Env_body, go_sem, rE]
 refine yyc l.length (fun k E H => ∃ (w : En) (VS NS : AC), EnvAt H e w VS NS ∧ v.body l = w.body (l.drop k) ∧ v.step w (St.cntL (l.take k)) ∧ E 0 = .ptr e 0 ∧ E 1 = .sl 15 none (St.encs l) ∧ E 4 = I k)
  ⟨v, VS, NS, hE, by simp, by simp [St.cntL_nil]; exact .refl hv, rfl, rfl, rfl⟩ ?_
 rintro k E H hk ⟨w, VS, NS, hE, hb, hs, e0, e1, e4⟩
 have hob := hE.obj
 simp only [EnvO] at hob
 simp only [go_sem, rE, rA, e0, e1, e4, St.zzk, List.length_map]
 have stop : ∀ (E : Env), (l.drop k = [] ∨ w.code ≠ 0) → XFunc.post [] (fun q H' => ∃ v' VS' NS', (q = AC.tup [] ∧ v' = v.body l) ∧ EnvAt H' e v' VS' NS') .normal E H := by
  intro E hor
  refine xxh (Heap.zzm _) ⟨w, VS, NS, ⟨rfl, ?_⟩, hE⟩
  rw [hb]
  rcases hor with h | h
  ·rw [h, En.body_nil]
  ·cases l.drop k with
   | nil => rw [En.body_nil]
   | cons s l' => rw [En.body_cons, if_neg h]
 by_cases hlt : k < l.length
 ·have hlt' : (k : Int) < l.length := by omega
  have hg : (l.map St.enc)[k]? = some l[k].enc := by simp [hlt]
  obtain ⟨cs, hcs, C⟩ := stC l[k]
  rw [hcs] at hg
  simp only [go_sem, rE, rA, hlt', e0, hob]
  by_cases hc : w.code = 0
  ·have hc' : (w.code == 0) = true := by simpa using hc
   have hd : l.drop k = l[k] :: l.drop (k + 1) := List.drop_eq_getElem_cons hlt
   have hsplit := cntL_take l k
   rw [hd, St.cntL_cons] at hsplit
   have w1 := yya (n := (k : Int) + 1) (by omega) (by omega)
   have hlo := hs.lo
   have hhi := hs.hi
   have hnn := hs.names
   simp only [go_sem, rE, rA, hc', e0, e1, e4, hg, C.len, C.all, St.zzk]
   refine run_env (h e l[k] (by omega) (hok _ (List.getElem_mem hlt)) w hs.ok (by omega) (by omega) (by omega) (by rw [hs.p]; exact hp) (by rw [hs.p]; exact hpl) (by rw [hs.fn]; exact hfn)) hE (by simp only [go_sem, rE, hcs]) (.refl _) (by simp) trivial ?_
   rintro q w2 VS2 NS2 H2 fp2 ⟨rfl, hw2⟩ hE2 - -
   simp only [go_sem, rE, rA, e4, w1]
   refine ⟨hlt, H2, Heap.zzm _, w2, VS2, NS2, hE2, ?_, ?_, e0, by simp [go_sem, e1, St.zzk], by simp⟩
   ·rw [hb, hd, En.body_cons, if_pos hc, hw2]
   ·have st := (En.stmt_step (l[k].cnt)).1 l[k] (Nat.le_refl _) (hok _ (List.getElem_mem hlt)) w hs.ok (by omega) (by rw [hs.p]; exact hp)
    rw [← hw2] at st
    have htk : St.cntL (l.take (k + 1)) = St.cntL (l.take k) + l[k].cnt := by
     have := cntL_take l (k + 1)
     have := cntL_take l k
     rw [hd, St.cntL_cons] at this
     omega
    rw [htk]
    exact hs.trans st
  ·have hc' : (w.code == 0) = false := by simpa using hc
   simp only [go_sem, rE, rA, hc']
   exact stop _ (.inr hc)
 ·have hlt' : ¬ (k : Int) < l.length := by omega
  simp only [go_sem, rE, rA, hlt']
  exact stop _ (.inl (List.drop_of_length_le (by omega)))
theorem e_stmt1 (L : Lib P F) (n : Nat) (hbody : BodyC P F n) : StmtC P F (n + 1) := by
 intro e s hs hok v hv hvl hnl hne hp hpl hfn H VS NS hE
 obtain ⟨h1, h2, h3, h4, h5, h6⟩ := hok.get
 rw [St.cnt_eq] at hs hvl hnl
 refine L.s_l3Env_stmt (by simp [x_s_l3Env_stmt]) ?_
 obtain ⟨cs3, hcs3, C⟩ := stC s
 rw [hcs3]
 simp only [x_s_l3Env_stmt, go_sem, rE, rA, C.kind]
 intro b3 hb3
 have hE3 := hE.new hb3 (.cells cs3)
 have n3 := hE.notin hb3
 have g3 : (H.set b3 (.cells cs3)).get b3 = some (.cells cs3) := Heap.zzb _ _ _
 generalize H.set b3 (.cells cs3) = H1 at *
 clear hE hb3
 rw [En.stmt_eq]
 by_cases k1 : s.kind = 1
 ·have c1 : (s.kind == 1) = true := by simpa using k1
  rw [if_pos k1]
  simp only [c1, go_sem, rE, rA, g3, C.len, rL, C.expr]
  refine run_env (e_expr L e _ s.expr (Nat.le_refl _) (h3 (by omega) (by omega)) v hv) hE3 (rfl) (.refl _) (by simp) trivial ?_
  rintro q v1 VS1 NS1 H2 fp ⟨rfl, hv1⟩ hE1 hk1 -
  obtain ⟨g3, n3⟩ := hk1 _ _ g3 n3
  obtain ⟨lk1, wf1⟩ := En.expr_good s.expr v hv
  rw [← hv1] at lk1 ⊢
  generalize (v.expr s.expr).2 = t at *
  simp only [go_sem, rE, rA, Ty.enc_eq t]
  intro b4 hb4
  have d34 := zzj g3 hb4
  have hl1 := lk1.len
  have hn1 := lk1.names
  simp only [go_sem, rE, rA, d34, g3, C.name, rL]
  refine run_env (as' := [.ptr e 0, .agg [S s.name, B false, B false, .sl 1 none (Ty.encs t.kids), NIL, B false]]) (e_add L e v1 (by omega) (by rw [hn1]; omega) ⟨s.name, false, false, t, [], false⟩) (hE1.new hb4 _) (rfl)
   ⟨.refl _, .agg ⟨⟨.refl _, rfl⟩, ⟨.refl _, rfl⟩, ⟨.refl _, rfl⟩, ⟨.refl _, rfl⟩, ⟨.nil 2, rfl⟩, ⟨.refl _, rfl⟩, trivial⟩, trivial⟩ (by simp) trivial ?_
  rintro q v2 VS2 NS2 H3 fp2 ⟨rfl, hv2⟩ hE2 - -
  simp only [go_sem]
  exact xxh (Heap.zzm _) ⟨v2, VS2, NS2, ⟨rfl, hv2⟩, hE2⟩
 have c1 : (s.kind == 1) = false := by simpa using k1
 rw [if_neg k1]
 by_cases k2 : s.kind = 2
 ·have c2 : (s.kind == 2) = true := by simpa using k2
  rw [if_pos k2]
  simp only [c1, c2, go_sem, rE, rA, g3, C.len, rL, C.place]
  refine run_env (e_use' L e v hv s.place h1) hE3 (by simp only [go_sem, rE, Pl.enc]) (.refl _) (by simp) trivial ?_
  rintro q v1 VS1 NS1 H2 fp ⟨rfl, hv1⟩ hE1 hk1 -
  obtain ⟨g3, n3⟩ := hk1 _ _ g3 n3
  have lk1 : v.like v1 := hv1 ▸ v.use_like _
  rw [← hv1]
  generalize (v.use s.place).2 = t at *
  simp only [go_sem, rE, rA, Ty.enc_eq t]
  intro b4 hb4
  have d34 := zzj g3 hb4
  have hl1 := lk1.len
  have hn1 := lk1.names
  have hE4 := hE1.new hb4 (.cells [.sl 1 none (Ty.encs t.kids)])
  simp only [go_sem, rE, rA, d34, g3, C.name, C.len, C.place, rL, List.replicate, List.flatten_cons, List.flatten_nil, chunk]
  intro b5 hb5
  refine run_env (as' := [.ptr e 0, .agg [S s.name, B true, B false, .sl 1 none (Ty.encs t.kids), .sl 2 (some (b5, 2, 2)) [[S s.place.name, zze s.place.path]], B false]]) (e_add L e v1 (by omega) (by rw [hn1]; omega) ⟨s.name, true, false, t, [s.place], false⟩) (hE4.new hb5 _) (rfl)
   ⟨.refl _, .agg ⟨⟨.refl _, rfl⟩, ⟨.refl _, rfl⟩, ⟨.refl _, rfl⟩, ⟨.refl _, rfl⟩, ⟨.tok _ _ _, rfl⟩, ⟨.refl _, rfl⟩, trivial⟩, trivial⟩ (by simp) trivial ?_
  rintro q v2 VS2 NS2 H3 fp2 ⟨rfl, hv2⟩ hE2 - -
  simp only [go_sem]
  exact xxh (Heap.zzm _) ⟨v2, VS2, NS2, ⟨rfl, hv2⟩, hE2⟩
 have c2 : (s.kind == 2) = false := by simpa using k2
 rw [if_neg k2]
 by_cases k3 : s.kind = 3
 ·have c3 : (s.kind == 3) = true := by simpa using k3
  rw [if_pos k3]
  simp only [c1, c2, c3, go_sem, rE, rA, g3, C.len, rL, C.expr]
  refine run_env (e_expr L e _ s.expr (Nat.le_refl _) (h3 (by omega) (by omega)) v hv) hE3 (rfl) (.refl _) (by simp) trivial ?_
  rintro q v1 VS1 NS1 H2 fp ⟨rfl, hv1⟩ hE1 hk1 -
  obtain ⟨g3, n3⟩ := hk1 _ _ g3 n3
  obtain ⟨lk1, wf1⟩ := En.expr_good s.expr v hv
  rw [← hv1] at lk1 ⊢
  generalize (v.expr s.expr).2 = t at *
  simp only [go_sem, rE, rA, Ty.enc_eq t]
  intro b4 hb4
  have n4 := hE1.notin hb4
  have d34 := zzj g3 hb4
  have hE4 := hE1.new hb4 (.cells [.sl 1 none (Ty.encs t.kids)])
  have g4 : (H2.set b4 (.cells [.sl 1 none (Ty.encs t.kids)])).get b4 = some (.cells [.sl 1 none (Ty.encs t.kids)]) := Heap.zzb _ _ _
  simp only [go_sem, rE, rA, d34, g3, C.place, C.len, rL]
  refine run_env (e_use' L e v1 (lk1.ok hv) s.place h1) hE4 (by simp only [go_sem, rE, Pl.enc]) (.refl _) (fun _ => ⟨_, _, rfl, rfl⟩) (by simp [chkE]) ?_
  rintro q v2 VS2 NS2 H3 fp2 ⟨rfl, hv2⟩ hE2 hk2 hfp2
  have nf4 : ¬ fp2 b4 := fun h => (hfp2 b4 h).elim n4 (fun h => by rw [g4] at h; simp at h)
  obtain ⟨g4, n4⟩ := hk2 _ _ g4 n4
  have wf2 := En.use_wf (lk1.ok hv) s.place
  rw [← hv2]
  generalize (v1.use s.place).2 = u at *
  simp only [go_sem, rE, rA, g4, chkL, List.mem_cons, List.not_mem_nil, or_false, forall_eq, nf4, rL]
  refine run_env (e_same L e v2 u t wf2) hE2 (by simp only [go_sem, rE, Ty.enc_eq t]) (.refl _) (fun _ => ⟨_, _, rfl, rfl⟩) trivial ?_
  rintro q v3 VS3 NS3 H4 fp3 ⟨rfl, hv3⟩ hE3 - -
  simp only [go_sem]
  exact xxh (Heap.zzm _) ⟨v3, VS3, NS3, ⟨rfl, hv3⟩, hE3⟩
 have c3 : (s.kind == 3) = false := by simpa using k3
 rw [if_neg k3]
 by_cases k4 : s.kind = 4
 ·have c4 : (s.kind == 4) = true := by simpa using k4
  rw [if_pos k4]
  simp only [c1, c2, c3, c4, go_sem, rE, rA, g3, C.len, rL, C.all]
  refine run_env (e_call L e v s hv (by omega) (by omega) hne h4 hp hpl hfn) hE3 (by simp only [go_sem, rE, hcs3]) (.refl _) (by simp) trivial ?_
  rintro q v3 VS3 NS3 H4 fp3 ⟨rfl, hv3⟩ hE3 - -
  simp only [go_sem]
  exact xxh (Heap.zzm _) ⟨v3, VS3, NS3, ⟨rfl, hv3⟩, hE3⟩
 have c4 : (s.kind == 4) = false := by simpa using k4
 rw [if_neg k4]
 by_cases k6 : s.kind = 6
 ·have c6 : (s.kind == 6) = true := by simpa using k6
  rw [if_pos k6]
  simp only [c1, c2, c3, c4, c6, go_sem, rE, rA, g3, C.len, rL, C.all]
  refine run_env (e_pick L e v s hv (by omega) (by omega) hne (h3 (by omega) (by omega)) h1 h2) hE3 (by simp only [go_sem, rE, hcs3]) (.refl _) (by simp) trivial ?_
  rintro q v3 VS3 NS3 H4 fp3 ⟨rfl, hv3⟩ hE3 - -
  simp only [go_sem]
  exact xxh (Heap.zzm _) ⟨v3, VS3, NS3, ⟨rfl, hv3⟩, hE3⟩
 have c6 : (s.kind == 6) = false := by simpa using k6
 rw [if_neg k6]
 simp only [c1, c2, c3, c4, c6, go_sem, rE, rA, g3, C.len, rL, C.expr]
 refine run_env (e_expr L e _ s.expr (Nat.le_refl _) (h3 (by omega) (by omega)) v hv) hE3 (rfl) (.refl _) (by simp) trivial ?_
 rintro q v1 VS1 NS1 H2 fp ⟨rfl, hv1⟩ hE1 hk1 -
 obtain ⟨g3, n3⟩ := hk1 _ _ g3 n3
 obtain ⟨lk1, wf1⟩ := En.expr_good s.expr v hv
 rw [← hv1] at lk1 ⊢
 generalize (v.expr s.expr).2 = t at *
 refine run_env (e_num L e v1 t) hE1 (rfl) (.refl _) (by simp) trivial ?_
 rintro q v2 VS2 NS2 H3 fp2 ⟨rfl, hv2⟩ hE2 hk2 -
 obtain ⟨g3, n3⟩ := hk2 _ _ g3 n3
 have lk2 : v.like v2 := lk1.trans (hv2 ▸ En.num_like _ _)
 rw [← hv2]
 have hl2 := lk2.len
 have hn2 := lk2.names
 simp only [go_sem, rE, rA, g3, C.len, rL, C.all]
 refine run_env (e_fork L e v2 s (lk2.ok hv) (by omega) (by rw [hn2]; omega) (by omega) hok (by rw [lk2.p]; exact hp) ?_) hE2 (by simp only [go_sem, rE, hcs3]) (.refl _) (by simp) trivial ?_
 ·intro a l hll w hw hwp hwf hwl hwn
  have hc : St.cntL l ≤ n ∧ (∀ x ∈ l, x.ok) ∧ w.vars.length + St.cntL l ≤ 2 ^ 20 := by
   rcases hll with rfl | rfl
   ·exact ⟨by omega, h5, by omega⟩
   ·exact ⟨by omega, h6, by omega⟩
  exact hbody a l hc.1 hc.2.1 w hw hc.2.2 hwn (by omega) (by rw [hwp, lk2.p]; exact hp) (by rw [hwp, lk2.p]; exact hpl) (by rw [hwf, lk2.fn]; exact hfn)
 ·rintro q v3 VS3 NS3 H4 fp3 ⟨rfl, hv3⟩ hE3 - -
  simp only [go_sem]
  exact xxh (Heap.zzm _) ⟨v3, VS3, NS3, ⟨rfl, hv3⟩, hE3⟩
theorem e_stmtN (L : Lib P F) : ∀ n, StmtC P F n
 | 0 => by intro e s hs; rw [St.cnt_eq] at hs; omega
 | n + 1 => e_stmt1 L n (e_body L n (e_stmtN L n))
end
end Go.Xl
namespace Go.Xl
open Nat renaming reduceEqDiff → rE, reduceAdd → rA, reduceLeDiff → rL
def Pa.vr (x : Pa) : Vr := ⟨x.name, x.lent, true, x.type, [], false⟩
def En.givens (v : En) : List Pa → En
 | [] => v
 | x :: l => (v.add x.vr).givens l
def En.start (p : Pg) (fn : Nat) : En := match p[fn]? with
 | some f => (⟨p, fn, [], [], 0⟩ : En).givens f.params
 | none => ⟨p, fn, [], [], 0⟩
theorem En.givens_like : ∀ (l : List Pa) (v : En), (v.givens l).p = v.p ∧ (v.givens l).fn = v.fn ∧ (v.givens l).vars = v.vars ++ l.map Pa.vr ∧ (v.givens l).names = v.names ++ l.map (fun x => x.name)
 | [], v => by simp [En.givens]
 | x :: l, v => by
   obtain ⟨h1, h2, h3, h4⟩ := En.givens_like l (v.add x.vr)
   refine ⟨h1, h2, ?_, ?_⟩
   ·rw [En.givens, h3]; simp [En.add]
   ·rw [En.givens, h4]; simp [En.add, Pa.vr]
section
variable {P : Program} {F : Ids}
theorem c_start (L : Lib P F) (p : Pg) (fn : Nat) (hfn : fn < p.length) (hpl : p.length ≤ 2 ^ 20) (hpa : (p[fn]).params.length ≤ 2 ^ 20) :
 ACalls P F.s_l3Start [.agg (Pg.enc p), I fn] .empty fun q H' => ∃ a VS NS, q = .ptr a 0 ∧ EnvAt H' a (En.start p fn) VS NS := by
 refine L.s_l3Start (by simp [x_s_l3Start]) ?_
 simp only [x_s_l3Start, go_sem, rE, rA, Pg.enc, rL]
 intro b2 hb2 a ha
 have d2a : b2 ≠ a := zzj (Heap.zzb _ _ _) ha
 obtain ⟨cf, hcf, CF⟩ := fuC p[fn]
 have hgf : (p.map Fu.enc)[fn]? = some cf := by rw [← hcf]; simp [hfn]
 have hst : En.start p fn = (⟨p, fn, [], [], 0⟩ : En).givens p[fn].params := by simp only [En.start, List.getElem?_eq_getElem hfn]
 rw [hst]
 generalize p[fn] = f at *
 have hE0 : EnvAt ((Heap.empty.set b2 (.cells [.sl 12 none (p.map Fu.enc)])).set a (EnvO p fn NIL NIL 0)) a ⟨p, fn, [], [], 0⟩ NIL NIL := ⟨Heap.zzb _ _ _, .inl ⟨rfl, rfl⟩, .inl ⟨rfl, rfl⟩⟩
 refine yyc f.params.length (fun k E H => ∃ w VS NS, EnvAt H a w VS NS ∧ (⟨p, fn, [], [], 0⟩ : En).givens f.params = w.givens (f.params.drop k) ∧ w.vars.length = k ∧ w.names.length = k ∧ E 1 = I fn ∧ E 2 = .ptr b2 0 ∧ E 5 = .ptr a 0 ∧ E 6 = I k ∧
  H.get b2 = some (.cells [.sl 12 none (p.map Fu.enc)]) ∧ ¬ yyb a VS NS b2)
  ⟨_, NIL, NIL, hE0, by simp, rfl, rfl, rfl, rfl, rfl, rfl, by rw [Heap.zza _ _ d2a, Heap.zzb], by
   rintro (h | ⟨_, _, h⟩ | ⟨_, _, _, _, h⟩)
   ·exact d2a h
   ·simp at h
   ·simp at h⟩ ?_
 clear hE0
 rintro k E H hk ⟨w, VS, NS, hE, hg, hwl, hwn, e1, e2, e5, e6, g2, n2⟩
 simp only [wp_seq, go_sem, rE, rA, e1, e2, e5, e6, g2, hgf, CF.len, CF.params, List.length_map]
 have cfp : (cf.drop 1)[0]? = some (.sl 3 none (f.params.map Pa.enc)) := by rw [List.getElem?_drop]; exact CF.params
 simp only [wp_seq, go_sem, rE, rA, e1, e2, e5, e6, g2, hgf, CF.len, cfp, List.length_map]
 refine zzn (fun hlt => ?_) (fun hge => ?_)
 ·have hk1 : k < f.params.length := by omega
  obtain ⟨cp, hcp, CP⟩ := paC f.params[k]
  have hgp : (f.params.map Pa.enc)[k]? = some cp := by rw [← hcp]; simp [hk1]
  have w1 := yya (n := (k : Int) + 1) (by omega) (by omega)
  simp only [go_sem, rE, rA, e1, e2, e5, e6, g2, hgf, cfp, hgp, CP.len, CP.all, CP.name, CP.lent, CP.type, rL]
  intro b7 hb7
  simp only [go_sem, rE, rA, e5, e6, CP.len, CP.all, CP.name, CP.lent, CP.type, List.append_nil, rL, Ty.enc_eq f.params[k].type]
  refine run_env (as' := [.ptr a 0, .agg [S f.params[k].name, B f.params[k].lent, B true, .sl 1 none (Ty.encs f.params[k].type.kids), NIL, B false]]) (e_add L a w (by omega) (by omega) f.params[k].vr) (hE.new hb7 _) (by simp only [go_sem, rE, e5])
   ⟨.refl _, .agg ⟨⟨.refl _, rfl⟩, ⟨.refl _, rfl⟩, ⟨.refl _, rfl⟩, ⟨.refl _, rfl⟩, ⟨.nil 2, rfl⟩, ⟨.refl _, rfl⟩, trivial⟩, trivial⟩ (by simp) trivial ?_
  rintro q w2 VS2 NS2 H2 fp2 ⟨rfl, hw2⟩ hE2 hk2 -
  obtain ⟨g2, n2⟩ := hk2 b2 (.cells [.sl 12 none (p.map Fu.enc)]) (by rw [Heap.zza _ _ (zzj g2 hb7)]; exact g2) n2
  simp only [go_sem, rE, rA, e6, w1]
  refine ⟨hk1, H2, Heap.zzm _, w2, VS2, NS2, hE2, ?_, by rw [hw2]; simp [En.add, hwl], by rw [hw2]; simp [En.add, hwn], e1, e2, e5, by simp, g2, n2⟩
  rw [hg, List.drop_eq_getElem_cons hk1, En.givens, hw2]
 ·have hkk : k = f.params.length := by omega
  subst hkk
  simp only [go_sem, rE, rA, e5]
  rw [List.drop_length, En.givens] at hg
  rw [hg]
  exact post_slot ⟨a, VS, NS, rfl, hE⟩
end
end Go.Xl
namespace Go.Xl
open Nat renaming reduceEqDiff → rE, reduceAdd → rA, reduceLeDiff → rL
def outN (vs : List Vr) : Nat → Pl → Bool
 | 0, p => false
 | n + 1, p => match vIdx vs p.name with
   | none => false
   | some i => match vs[i]? with
     | none => false
     | some x => x.lent && (x.param || x.loans.all (outN vs n))
def En.outside (v : En) (p : Pl) : Bool := outN v.vars v.vars.length p
def Up (vs : List Vr) : Prop := ∀ i (h : i < vs.length), ∀ q ∈ vs[i].loans, ∃ j, vIdx vs q.name = some j ∧ j < i
theorem vIdx_lt {vs : List Vr} {n : ByteArray} {i : Nat} (h : vIdx vs n = some i) : i < vs.length := by
 obtain ⟨h, -⟩ := List.findIdx?_eq_some_iff_getElem.1 h; exact h
section
variable {P : Program} {F : Ids}
theorem e_outN (L : Lib P F) (e : Nat) (v : En) (hl : v.vars.length ≤ 2 ^ 20) (ho : ∀ x ∈ v.vars, x.ok) (hup : Up v.vars) : ∀ (n : Nat) (p : Pl), (∀ i, vIdx v.vars p.name = some i → i < n) →
 EnvC P F.s_l3Env_outside [.ptr e 0, .agg p.enc] e v fun q v' => q = B (outN v.vars n p) ∧ v' = v := by
 intro n
 induction n with
 | zero =>
   intro p hp H VS NS hE
   have hi : vIdx v.vars p.name = none := by
    cases h : vIdx v.vars p.name with
    | none => rfl
    | some i => have := hp i h; omega
   refine L.s_l3Env_outside (by simp [wwa]) ?_
   simp only [wwa, go_sem, rE, Pl.enc]
   intro b3 hb3
   refine run_env (e_find L e v (by omega) p.name) (hE.new hb3 _) (rfl) (.refl _) (by simp) trivial ?_
   rintro q w VS1 NS1 H1 fp ⟨rfl, hw⟩ hE1 hk1 -
   subst hw
   simp only [go_sem, rE, rA, varAt_eq, hi, Int.reduceLT]
   exact zzd (q' := B (outN w.vars 0 p)) (by simp only [go_sem, rE, outN]; exact .refl _) (Heap.zzm _) ⟨w, VS1, NS1, ⟨rfl, rfl⟩, hE1⟩
 | succ n ih =>
   intro p hp H VS NS hE
   refine L.s_l3Env_outside (by simp [wwa]) ?_
   simp only [wwa, go_sem, rE, Pl.enc]
   intro b3 hb3
   refine run_env (e_find L e v (by omega) p.name) (hE.new hb3 _) (rfl) (.refl _) (by simp) trivial ?_
   rintro q w VS1 NS1 H1 fp ⟨rfl, hw⟩ hE1 hk1 -
   subst hw
   clear hE hk1
   simp only [go_sem, rE, rA, varAt_eq]
   cases hi : vIdx w.vars p.name with
   | none =>
     simp only [go_sem, rE, rA, Int.reduceLT]
     exact zzd (q' := B (outN w.vars (n + 1) p)) (by simp only [go_sem, rE, outN, hi]; exact .refl _) (Heap.zzm _) ⟨w, VS1, NS1, ⟨rfl, rfl⟩, hE1⟩
   | some i =>
     have hil := vIdx_lt hi
     have hin := hp i hi
     have hge : ¬ (i : Int) < 0 := by omega
     have hlt : (i : Int) < w.vars.length := by omega
     have hvi : w.vars[i]? = some w.vars[i] := List.getElem?_eq_getElem hil
     have hout : outN w.vars (n + 1) p = (w.vars[i].lent && (w.vars[i].param || w.vars[i].loans.all (outN w.vars n))) := by simp only [outN, hi, hvi]
     rw [hout]
     obtain ⟨vb, vc, cs, rfl, hr⟩ := hE1.vars.row hil
     have hob := hE1.obj
     simp only [EnvO] at hob
     have ll := (ho _ (List.getElem_mem hil)).loans
     have r1 := hr.lent
     have r2 := hr.param
     cases h1 : w.vars[i].lent
     ·rw [h1] at r1
      simp only [go_sem, rE, rA, hge, hob, hlt, hr.get, r1]
      exact zzd (q' := B false) (by simp only [go_sem, rE]; exact .refl _) (Heap.zzm _) ⟨w, _, NS1, ⟨by simp, rfl⟩, hE1⟩
     ·rw [h1] at r1
      cases h2 : w.vars[i].param
      ·rw [h2] at r2
       simp only [go_sem, rE, rA, hge, hob, hlt, hr.get, r1, r2]
       clear hr hob r1 r2
       refine yyc w.vars[i].loans.length (fun k E H => ∃ VS NS, EnvAt H e w VS NS ∧ (w.vars[i].loans.take k).all (outN w.vars n) = true ∧ E 0 = .ptr e 0 ∧ E 5 = I i ∧ E 6 = I k) ⟨_, NS1, hE1, by simp, rfl, rfl, rfl⟩ ?_
       clear hE1
       rintro k E H hk ⟨VS, NS, hE1, hall, e0, e5, e6⟩
       obtain ⟨vb, vc, cs, rfl, hr⟩ := hE1.vars.row hil
       have hob := hE1.obj
       simp only [EnvO] at hob
       simp only [wp_seq, go_sem, rE, rA, e0, e5, e6, hob, hlt, hr.get, hr.loans, List.length_map]
       refine zzn (fun hltk => ?_) (fun hgek => ?_)
       ·have hk1 : k < w.vars[i].loans.length := by omega
        have w1 := yya (n := (k : Int) + 1) (by omega) (by omega)
        obtain ⟨j0, hj0, hji⟩ := hup i hil _ (List.getElem_mem hk1)
        simp only [go_sem, rE, rA, e0, e5, e6, hob, hlt, hr.get, hr.loans, loan_get hk1, rL]
        refine run_env (ih w.vars[i].loans[k] (fun j hj => by rw [hj0] at hj; cases hj; omega)) hE1 (by simp only [go_sem, rE, Pl.enc]) (.refl _) (by simp) trivial ?_
        rintro q w' VS2 NS2 H2 fp2 ⟨rfl, hw'⟩ hE2 - -
        subst hw'
        cases ho : outN w'.vars n w'.vars[i].loans[k]
        ·simp only [go_sem, rE, rA]
         refine zzd (q' := B false) (by simp only [go_sem, rE]; exact .refl _) (Heap.zzm _) ⟨w', VS2, NS2, ⟨?_, rfl⟩, hE2⟩
         have : w'.vars[i].loans.all (outN w'.vars n) = false := by
          rw [List.all_eq_false]
          exact ⟨_, List.getElem_mem hk1, by simp [ho]⟩
         simp [this]
        ·simp only [go_sem, rE, rA, e6, w1]
         refine ⟨hk1, H2, Heap.zzm _, VS2, NS2, hE2, ?_, e0, e5, by simp⟩
         rw [List.take_succ_eq_append_getElem hk1, List.all_append, hall]
         simp [ho]
       ·have hkk : k = w.vars[i].loans.length := by omega
        subst hkk
        rw [List.take_length] at hall
        simp only [go_sem, rE, rA]
        exact zzd (q' := B true) (by simp only [go_sem, rE]; exact .refl _) (Heap.zzm _) ⟨w, _, NS, ⟨by simp [hall], rfl⟩, hE1⟩
      ·rw [h2] at r2
       simp only [go_sem, rE, rA, hge, hob, hlt, hr.get, r1, r2]
       exact zzd (q' := B true) (by simp only [go_sem, rE]; exact .refl _) (Heap.zzm _) ⟨w, _, NS1, ⟨by simp, rfl⟩, hE1⟩
theorem e_outside (L : Lib P F) (e : Nat) (v : En) (hl : v.vars.length ≤ 2 ^ 20) (ho : ∀ x ∈ v.vars, x.ok) (hup : Up v.vars) (p : Pl) :
 EnvC P F.s_l3Env_outside [.ptr e 0, .agg p.enc] e v fun q v' => q = B (v.outside p) ∧ v' = v := e_outN L e v hl ho hup _ p fun i hi => vIdx_lt hi
end
end Go.Xl
namespace Go.Xl
open Nat renaming reduceEqDiff → rE, reduceAdd → rA, reduceLeDiff → rL
theorem failC_zero {c d : Int} (hd : d ≠ 0) (h : failC c d = 0) : c = 0 ∧ False := by unfold failC at h; split at h <;> simp_all
theorem En.fail_code {v : En} {c : Int} (hc : c ≠ 0) : (v.fail c).code ≠ 0 := fun h => (failC_zero hc h).2
theorem En.num_code {v : En} {t : Ty} (h : (v.num t).code = 0) : v.code = 0 := by
 simp only [En.num] at h; split at h
 ·exact h
 ·exact (failC_zero (by decide) h).1
theorem En.same_code {v : En} {a t : Ty} (h : (v.same a t).code = 0) : v.code = 0 := by
 simp only [En.same] at h; split at h
 ·exact h
 ·exact (failC_zero (by decide) h).1
theorem En.use_code {v : En} {p : Pl} (h : (v.use p).1.code = 0) : v.code = 0 ∧ ∃ i, vIdx v.vars p.name = some i := by
 unfold En.use at h
 split at h
 ·exact ((failC_zero (by decide) h).2).elim
 ·rename_i i hi
  refine ⟨?_, i, hi⟩
  split at h
  ·exact h
  ·simp only at h
   split at h
   ·split at h
    ·exact (failC_zero (by decide) h).1
    ·exact h
   ·exact ((failC_zero (by decide) h).2).elim
theorem En.add_code {v : En} {x : Vr} (h : (v.add x).code = 0) : v.code = 0 := by
 simp only [En.add, addC] at h; split at h
 ·exact (failC_zero (by decide) h).1
 ·exact h
theorem En.expr_code : ∀ (x : Ex) (v : En), (v.expr x).1.code = 0 → v.code = 0
 | .mk k n p ks, v, h => by
   rw [En.expr_eq] at h
   split at h
   ·exact h
   ·split at h
    ·exact (En.use_code h).1
    ·split at h
     ·rename_i a b l
      have fin : ((v.expr a).1.expr b).1.code = 0 → v.code = 0 := fun h => En.expr_code a v (En.expr_code b _ h)
      split at h
      ·split at h
       ·exact fin h
       ·exact (En.fail_code (by decide) h).elim
      ·exact fin (En.num_code (En.num_code h))
     ·exact h
termination_by x => SizeOf.sizeOf x
theorem En.fail0_code {v : En} {c : Int} (h : (v.fail0 c).code = 0) : v.code = 0 := by
 simp only [En.fail0] at h
 split at h
 ·exact (failC_zero (by omega) h).1
 ·exact h
theorem vIdx_core {vs ws : List Vr} (h : ws.map (fun x => { x with dead := false }) = vs.map (fun x => { x with dead := false })) (n : ByteArray) : vIdx ws n = vIdx vs n := by
 have key : ∀ us : List Vr, vIdx us n = vIdx (us.map (fun x => { x with dead := false })) n := by
  intro us; simp only [vIdx, List.findIdx?_map]; rfl
 rw [key ws, key vs, h]
theorem Up.core {vs ws : List Vr} (h : ws.map (fun x => { x with dead := false }) = vs.map (fun x => { x with dead := false })) (hu : Up vs) : Up ws := by
 intro i hi q hq
 have hl : ws.length = vs.length := by have := congrArg List.length h; simpa using this
 have hi' : i < vs.length := by omega
 have he : ({ ws[i] with dead := false } : Vr) = { vs[i] with dead := false } := by
  have h1 := List.getElem_map (fun x : Vr => ({ x with dead := false } : Vr)) (l := ws) (i := i) (h := by simpa using hi)
  have h2 := List.getElem_map (fun x : Vr => ({ x with dead := false } : Vr)) (l := vs) (i := i) (h := by simpa using hi')
  rw [← h1, ← h2]; congr 1
 have hlo : ws[i].loans = vs[i].loans := by
  have h3 : ∀ x y : Vr, ({ x with dead := false } : Vr) = { y with dead := false } → x.loans = y.loans := by intro x y h; simpa using (congrArg Vr.loans h)
  exact h3 _ _ he
 rw [hlo] at hq
 obtain ⟨j, hj, hji⟩ := hu i hi' q hq
 exact ⟨j, by rw [vIdx_core h]; exact hj, hji⟩
theorem vIdx_append {vs ws : List Vr} {n : ByteArray} {i : Nat} (h : vIdx vs n = some i) : vIdx (vs ++ ws) n = some i := by
 simp only [vIdx, List.findIdx?_append] at h ⊢; rw [h]; rfl
theorem vIdx_append_or {vs ws : List Vr} {n : ByteArray} (hw : ∀ x ∈ ws, x.name ≠ n) : vIdx (vs ++ ws) n = vIdx vs n := by
 simp only [vIdx, List.findIdx?_append]
 have : ws.findIdx? (fun v => decide (v.name = n)) = none := by
  rw [List.findIdx?_eq_none_iff]; intro x hx; simpa using hw x hx
 rw [this]; cases vs.findIdx? (fun v => decide (v.name = n)) <;> rfl
theorem Up.add {vs : List Vr} (h : Up vs) {x : Vr} (hx : ∀ q ∈ x.loans, ∃ j, vIdx vs q.name = some j) : Up (vs ++ [x]) := by
 intro i hi q hq
 by_cases h1 : i < vs.length
 ·rw [List.getElem_append_left h1] at hq
  obtain ⟨j, hj, hji⟩ := h i h1 q hq
  exact ⟨j, vIdx_append hj, hji⟩
 ·have hii : i = vs.length := by simp at hi; omega
  subst hii
  simp at hq
  obtain ⟨j, hj⟩ := hx q hq
  exact ⟨j, vIdx_append hj, vIdx_lt hj⟩
theorem core_take {vs ws : List Vr} (h : ws.map (fun x => { x with dead := false }) = vs.map (fun x : Vr => { x with dead := false })) (n : Nat) : (ws.take n).map (fun x => { x with dead := false }) = (vs.take n).map (fun x => { x with dead := false }) := by
 rw [List.map_take, List.map_take, h]
inductive St.nm : St → Prop where
 | mk {k : Int} {n : ByteArray} {p o : Pl} {e : Ex} {f : ByteArray} {as : List Ag} {t l : List St} (ho : k = 6 → o.name ≠ bl []) (ha : k = 4 → ∀ a ∈ as, a.lent = true → a.place.name ≠ bl [])
  (ht : ∀ x ∈ t, St.nm x) (hl : ∀ x ∈ l, St.nm x) : St.nm (.mk k n p o e f as t l)
theorem St.nm.get {s : St} (h : s.nm) : (s.kind = 6 → s.other.name ≠ bl []) ∧ (s.kind = 4 → ∀ a ∈ s.args, a.lent = true → a.place.name ≠ bl []) ∧ (∀ x ∈ s.thn, x.nm) ∧ ∀ x ∈ s.els, x.nm := by
 cases h with
 | mk h1 h2 h3 h4 => exact ⟨h1, h2, h3, h4⟩
def Grown (vs ws : List Vr) : Prop := (ws.take vs.length).map (fun x => { x with dead := false }) = vs.map (fun x : Vr => { x with dead := false }) ∧ ∀ x ∈ ws.drop vs.length, x.name = bl []
theorem Grown.refl (vs : List Vr) : Grown vs vs := ⟨by rw [List.take_length], by simp⟩
theorem Grown.core {vs ws us : List Vr} (h : Grown vs ws) (hc : us.map (fun x => { x with dead := false }) = ws.map (fun x : Vr => { x with dead := false })) : Grown vs us := by
 refine ⟨(core_take hc _).trans h.1, fun x hx => ?_⟩
 have : ({ x with dead := false } : Vr) ∈ (us.drop vs.length).map (fun x => { x with dead := false }) := List.mem_map.2 ⟨x, hx, rfl⟩
 rw [List.map_drop, hc, ← List.map_drop] at this
 obtain ⟨y, hy, he⟩ := List.mem_map.1 this
 have := h.2 y hy
 rw [← this]; exact (congrArg Vr.name he).symm
theorem Grown.len {vs ws : List Vr} (h : Grown vs ws) : vs.length ≤ ws.length := by
 have := congrArg List.length h.1
 simp at this; omega
theorem Grown.push {vs ws : List Vr} (h : Grown vs ws) (p : Pl) : Grown vs (ws ++ [tmpVr p]) := by
 have hl := h.len
 refine ⟨by rw [List.take_append_of_le_length hl]; exact h.1, fun x hx => ?_⟩
 rw [List.drop_append_of_le_length hl] at hx
 rcases List.mem_append.1 hx with hx | hx
 ·exact h.2 x hx
 ·simp at hx; subst hx; rfl
theorem Grown.vIdx {vs ws : List Vr} (h : Grown vs ws) {n : ByteArray} (hn : n ≠ bl []) : vIdx ws n = vIdx vs n := by
 have : ws = ws.take vs.length ++ ws.drop vs.length := (List.take_append_drop _ _).symm
 rw [this, vIdx_append_or (fun x hx => by rw [h.2 x hx]; exact Ne.symm hn), vIdx_core h.1]
theorem En.args_up : ∀ (l : List (Pa × Ag)) (v0 : List Vr) (v : En) (pl : List Pl), Grown v0 v.vars → (∀ x ∈ l, x.2.lent = true → x.2.place.name ≠ bl []) → (∀ q ∈ pl, ∃ j, vIdx v0 q.name = some j) →
 ((v.args l pl).1.code = 0 → v.code = 0) ∧ ∀ q, (v.args l pl).2 = some q → (v.args l pl).1.code = 0 → Grown v0 (v.args l pl).1.vars ∧ ∀ r ∈ q, ∃ j, vIdx v0 r.name = some j
 | [], v0, v, pl, hg, ha, hp => ⟨fun h => h, fun q hq _ => by simp [En.args] at hq; subst hq; exact ⟨hg, hp⟩⟩
 | (p, a) :: l, v0, v, pl, hg, ha, hp => by
   rw [En.args]
   by_cases h1 : a.lent ≠ p.lent
   ·rw [if_pos h1]
    exact ⟨fun h => (En.fail_code (by decide) h).elim, fun q hq => by simp at hq⟩
   ·rw [if_neg h1]
    by_cases h2 : a.lent = true
    ·rw [if_pos h2]
     have hlike := (v.use_like a.place).trans (En.same_like _ (v.use a.place).2 p.type)
     have code : ((((v.use a.place).1.same (v.use a.place).2 p.type).push (tmpVr a.place)).args l (pl ++ [a.place])).1.code = 0 → (v.use a.place).1.code = 0 := by
      intro h
      by_cases hc : ∃ j, vIdx v0 a.place.name = some j
      ·have h0 := (En.args_up l v0 (((v.use a.place).1.same (v.use a.place).2 p.type).push (tmpVr a.place)) (pl ++ [a.place]) ((hg.core hlike.vars).push a.place) (fun x hx => ha x (by simp [hx])) (by
        intro q hq
        rcases List.mem_append.1 hq with hq | hq
        ·exact hp q hq
        ·simp at hq; subst hq; exact hc)).1 h
       exact En.same_code (v := (v.use a.place).1) (a := (v.use a.place).2) (t := p.type) h0
      ·have := (En.args_up l (((v.use a.place).1.same (v.use a.place).2 p.type).push (tmpVr a.place)).vars (((v.use a.place).1.same (v.use a.place).2 p.type).push (tmpVr a.place)) [] (.refl _) (fun x hx => ha x (by simp [hx])) (by simp)).1
       have eq : ∀ (l : List (Pa × Ag)) (w : En) (q r : List Pl), (w.args l q).1 = (w.args l r).1 := by
        intro l
        induction l with
        | nil => intros; rfl
        | cons x l ih =>
          intro w q r
          obtain ⟨p, a⟩ := x
          rw [En.args, En.args]
          split
          ·rfl
          ·split
           ·exact ih _ _ _
           ·exact ih _ _ _
       rw [eq l _ _ []] at h
       exact En.same_code (v := (v.use a.place).1) (a := (v.use a.place).2) (t := p.type) (this h)
     refine ⟨fun h => (En.use_code (code h)).1, fun q hq h => ?_⟩
     obtain ⟨-, j, hj⟩ := En.use_code (code h)
     rw [hg.vIdx (ha (p, a) (by simp) h2)] at hj
     exact (En.args_up l v0 (((v.use a.place).1.same (v.use a.place).2 p.type).push (tmpVr a.place)) (pl ++ [a.place]) ((hg.core hlike.vars).push a.place) (fun x hx => ha x (by simp [hx])) (by
           intro q hq
           rcases List.mem_append.1 hq with hq | hq
           ·exact hp q hq
           ·simp at hq; subst hq; exact ⟨j, hj⟩)).2 q hq h
    ·rw [if_neg h2]
     by_cases hv : True
     ·have ih := En.args_up l v0 ((v.expr a.expr).1.same (v.expr a.expr).2 p.type) pl
      have hx : ((v.expr a.expr).1.same (v.expr a.expr).2 p.type).vars.map (fun x => { x with dead := false }) = v.vars.map (fun x : Vr => { x with dead := false }) := by
       have : ∀ (x : Ex) (v : En), (v.expr x).1.vars.map (fun x => { x with dead := false }) = v.vars.map (fun x : Vr => { x with dead := false }) := expr_core
       exact this _ _
      obtain ⟨i1, i2⟩ := ih (hg.core hx) (fun x hx => ha x (by simp [hx])) hp
      exact ⟨fun h => En.expr_code _ _ (En.same_code (i1 h)), i2⟩
     ·exact (hv trivial).elim
where
 expr_core : ∀ (x : Ex) (v : En), (v.expr x).1.vars.map (fun x => { x with dead := false }) = v.vars.map (fun x : Vr => { x with dead := false })
 | .mk k n p ks, v => by
   rw [En.expr_eq]
   split
   ·rfl
   ·split
    ·exact (v.use_like p).vars
    ·split
     ·rename_i a b l
      have h := (expr_core b (v.expr a).1).trans (expr_core a v)
      split
      ·split
       ·exact h
       ·exact h
      ·exact h
     ·rfl
 termination_by x => SizeOf.sizeOf x
theorem En.expr_like (x : Ex) (v : En) : (v.expr x).1.vars.map (fun x => { x with dead := false }) = v.vars.map (fun x : Vr => { x with dead := false }) := En.args_up.expr_core x v
theorem En.gone_code {v : En} {n : Nat} (h : (v.gone n).code = 0) : v.code = 0 := by
 unfold En.gone at h; split at h
 ·exact (En.fail_code (by decide) h).elim
 ·exact h
theorem En.call_up {v : En} {s : St} (hn : ∀ a ∈ s.args, a.lent = true → a.place.name ≠ bl []) (h : (v.call s).code = 0) : v.code = 0 ∧ (Up v.vars → Up (v.call s).vars) := by
 unfold En.call at h ⊢
 split at h
 ·exact (En.fail_code (by decide) h).elim
 ·split at h
  ·exact ⟨h, id⟩
  ·rename_i f hf
   split at h
   ·exact (En.fail_code (by decide) h).elim
   ·rename_i hlen
    obtain ⟨i1, i2⟩ := En.args_up (f.params.zip s.args) v.vars v [] (.refl _) (fun x hx => hn _ (List.of_mem_zip hx).2) (by simp)
    rw [if_neg hlen]
    split at h
    ·rename_i w hw
     rw [hw] at i1
     simp only at i1
     refine ⟨i1 h, ?_⟩
     exfalso
     have none_code : ∀ (l : List (Pa × Ag)) (v w : En) (pl : List Pl), v.args l pl = (w, none) → w.code ≠ 0 := by
      intro l
      induction l with
      | nil => intro v w pl h; simp [En.args] at h
      | cons x l ih =>
        intro v w pl h
        obtain ⟨p, a⟩ := x
        rw [En.args] at h
        split at h
        ·simp at h; obtain ⟨rfl, -⟩ := h; exact En.fail_code (by decide)
        ·split at h
         ·exact ih _ _ _ h
         ·exact ih _ _ _ h
     exact none_code _ _ _ _ hw h
    ·rename_i w pl hw
     rw [hw] at i1 i2
     simp only at i1 i2
     have hc := En.gone_code (En.add_code h)
     obtain ⟨j1, j2⟩ := i2 pl rfl hc
     refine ⟨i1 hc, fun hu => ?_⟩
     have hg : ((w.gone v.vars.length).pop v.vars.length).vars = w.vars.take v.vars.length := by
      simp only [En.pop]; unfold En.gone; split <;> rfl
     have hu2 : Up (w.vars.take v.vars.length) := Up.core j1.1 hu
     simp only [En.add, hg]
     refine hu2.add fun q hq => ?_
     simp only at hq
     split at hq
     ·rw [vIdx_core j1.1]; exact j2 q hq
     ·simp at hq
theorem En.pick_up {v : En} {s : St} (hn : s.other.name ≠ bl []) (h : (v.pick s).code = 0) : v.code = 0 ∧ (Up v.vars → Up (v.pick s).vars) := by
 have hc1 : (v.expr s.expr).1.vars.map (fun x => { x with dead := false }) = v.vars.map (fun x : Vr => { x with dead := false }) := En.expr_like _ _
 simp only [En.pick] at h ⊢
 have l1 := En.use_like ((v.expr s.expr).1.num (v.expr s.expr).2) s.place
 have k1 := fun h => En.use_code (v := (v.expr s.expr).1.num (v.expr s.expr).2) (p := s.place) h
 have kk : ((v.expr s.expr).1.num (v.expr s.expr).2).code = 0 → v.code = 0 := fun h => En.expr_code _ _ (En.num_code h)
 have hv1 : ((v.expr s.expr).1.num (v.expr s.expr).2).vars = (v.expr s.expr).1.vars := rfl
 generalize (v.expr s.expr).1.num (v.expr s.expr).2 = v1 at *
 rw [← hv1] at hc1
 generalize hu : (v1.use s.place).1 = u at *
 generalize (v1.use s.place).2 = t at *
 have l2 := En.use_like (u.push (tmpVr s.place)) s.other
 have k2 := fun h => En.use_code (v := u.push (tmpVr s.place)) (p := s.other) h
 have hsv : (((u.push (tmpVr s.place)).use s.other).1.same ((u.push (tmpVr s.place)).use s.other).2 t).vars = ((u.push (tmpVr s.place)).use s.other).1.vars := rfl
 have hsc : (((u.push (tmpVr s.place)).use s.other).1.same ((u.push (tmpVr s.place)).use s.other).2 t).code = 0 → ((u.push (tmpVr s.place)).use s.other).1.code = 0 := En.same_code
 generalize (((u.push (tmpVr s.place)).use s.other).1.same ((u.push (tmpVr s.place)).use s.other).2 t) = w at *
 have hc := En.add_code h
 have hwc : w.code = 0 := by
  simp only [En.pop] at hc
  split at hc
  ·exact (En.fail_code (by decide) hc).elim
  ·exact hc
 obtain ⟨c2, j2, hj2⟩ := k2 (hsc hwc)
 obtain ⟨c1, j1, hj1⟩ := k1 c2
 refine ⟨kk c1, fun hup => ?_⟩
 have hgv : ((if deadAt w.vars u.vars.length then w.fail 4 else w).pop u.vars.length).vars = w.vars.take u.vars.length := by
  simp only [En.pop]; split <;> rfl
 have hgr : Grown u.vars w.vars := by rw [hsv]; exact ((Grown.refl u.vars).push s.place).core l2.vars
 have huv : u.vars.map (fun x => { x with dead := false }) = v.vars.map (fun x : Vr => { x with dead := false }) := l1.vars.trans hc1
 have hu0 : Up u.vars := hup.core huv
 have hu2 : Up (w.vars.take u.vars.length) := hu0.core hgr.1
 simp only [En.add, hgv]
 refine hu2.add fun q hq => ?_
 simp at hq
 rw [vIdx_core hgr.1]
 rcases hq with rfl | rfl
 ·exact ⟨j1, by rw [vIdx_core l1.vars]; exact hj1⟩
 ·refine ⟨j2, ?_⟩
  rw [← hj2]
  exact (((Grown.refl u.vars).push s.place).vIdx hn).symm
theorem mergeV_core (vs as bs : List Vr) : (mergeV vs as bs).map (fun x => { x with dead := false }) = vs.map (fun x => { x with dead := false }) := by
 apply List.ext_getElem (by simp [mergeV])
 intro k h1 h2
 simp [mergeV]
theorem En.join_code {v a b : En} (h : (v.join a b).code = 0) : v.code = 0 := En.fail0_code (v := ({ v with vars := mergeV v.vars a.vars b.vars, names := b.names } : En)) (En.fail0_code h)
theorem En.stmt_up {s : St} (hs : s.nm) {v : En} (h : (v.stmt s).code = 0) : v.code = 0 ∧ (Up v.vars → Up (v.stmt s).vars) := by
 obtain ⟨n1, n2, n3, n4⟩ := hs.get
 rw [En.stmt_eq] at h ⊢
 by_cases k1 : s.kind = 1
 ·rw [if_pos k1] at h ⊢
  have := En.add_code h
  refine ⟨En.expr_code _ _ this, fun hu => ?_⟩
  exact (hu.core (En.expr_like s.expr v)).add (by simp)
 rw [if_neg k1] at h ⊢
 by_cases k2 : s.kind = 2
 ·rw [if_pos k2] at h ⊢
  obtain ⟨c1, j, hj⟩ := En.use_code (En.add_code h)
  refine ⟨c1, fun hu => ?_⟩
  have hl := v.use_like s.place
  refine (hu.core hl.vars).add fun q hq => ?_
  simp at hq; subst hq
  exact ⟨j, by rw [vIdx_core hl.vars]; exact hj⟩
 rw [if_neg k2] at h ⊢
 by_cases k3 : s.kind = 3
 ·rw [if_pos k3] at h ⊢
  refine ⟨En.expr_code _ _ (En.use_code (En.same_code h)).1, fun hu => ?_⟩
  exact (hu.core (En.expr_like s.expr v)).core (En.use_like (v.expr s.expr).1 s.place).vars
 rw [if_neg k3] at h ⊢
 by_cases k4 : s.kind = 4
 ·rw [if_pos k4] at h ⊢; exact En.call_up (n2 k4) h
 rw [if_neg k4] at h ⊢
 by_cases k6 : s.kind = 6
 ·rw [if_pos k6] at h ⊢; exact En.pick_up (n1 k6) h
 rw [if_neg k6] at h ⊢
 have hj := En.join_code h
 refine ⟨En.expr_code _ _ (En.num_code hj), fun hu => ?_⟩
 exact (hu.core (En.expr_like s.expr v)).core (mergeV_core _ _ _)
theorem Up.nil : Up [] := fun i h => by simp at h
theorem En.givens_up (l : List Pa) (v : En) (hu : Up v.vars) : Up (v.givens l).vars := by
 induction l generalizing v with
 | nil => exact hu
 | cons x l ih => exact ih _ (hu.add (by simp [Pa.vr]))
theorem En.start_up (p : Pg) (fn : Nat) : Up (En.start p fn).vars := by
 unfold En.start
 split
 ·exact En.givens_up _ _ .nil
 ·exact .nil
end Go.Xl
namespace Go.Xl
open Nat renaming reduceEqDiff → rE, reduceAdd → rA, reduceLeDiff → rL
def letter (b : UInt8) : Bool := decide (97 ≤ b.toNat) && decide (b.toNat ≤ 122)
def yyf (s : ByteArray) : Bool := decide (1 ≤ s.size) && (decide (s.size ≤ 6) && s.data.toList.all letter)
def pathOk (p : List Int) : Bool := decide (p.length ≤ 4) && p.all fun i => decide (0 ≤ i ∧ i ≤ 1)
def Pl.okB (p : Pl) : Bool := yyf p.name && pathOk p.path
def Pl.noneB (p : Pl) : Bool := decide (p.name = bl []) && decide (p.path.length = 0)
def Ex.noneB (e : Ex) : Bool := decide (e.kind = 0) && (decide (e.num = 0) && (e.place.noneB && decide (e.kids.length = 0)))
theorem byte_get {s : ByteArray} {k : Nat} (h : k < s.size) : s[k]? = some s.data.toList[k] := by
 show s[k]? = _
 simp [h]; rfl
section
variable {P : Program} {F : Ids}
theorem c_l2Name (L : Lib P F) (s : ByteArray) : Pure1 P F.s_l2Name [S s] (B (yyf s)) := by
 refine L.s_l2Name (by simp [x_s_l2Name]) ?_
 have hsz : s.data.toList.length = s.size := rfl
 by_cases h1 : s.size < 1
 ·have h1' : (s.size : Int) < 1 := by omega
  simp only [x_s_l2Name, go_sem, rE, h1']
  exact zzd (.refl _) (Heap.zzf _) ⟨by simp only [go_sem, yyf]; simp; omega, rfl⟩
 ·have h1' : ¬ (s.size : Int) < 1 := by omega
  by_cases h6 : s.size > 6
  ·have h6' : (s.size : Int) > 6 := by omega
   simp only [x_s_l2Name, go_sem, rE, h1', h6']
   refine zzd (.refl _) (Heap.zzf _) ⟨?_, rfl⟩
   have : yyf s = false := by
    simp only [yyf, Bool.and_eq_false_iff, decide_eq_false_iff_not]; exact .inr (.inl (by omega))
   simp only [go_sem, this]
  ·have h6' : ¬ (s.size : Int) > 6 := by omega
   simp only [x_s_l2Name, go_sem, rE, h1', h6']
   refine yyc s.size (fun k E H => E 0 = S s ∧ E 3 = I k ∧ (s.data.toList.take k).all letter = true) ⟨rfl, rfl, by simp⟩ ?_
   rintro k E H hk ⟨e0, e3, hall⟩
   simp only [go_sem, rE, e0, e3]
   refine zzn (fun hlt => ?_) (fun hge => ?_)
   ·have hk1 : k < s.size := by omega
    have w1 := yya (n := (k : Int) + 1) (by omega) (by omega)
    have hb := byte_get hk1
    have htk : s.data.toList.take (k + 1) = s.data.toList.take k ++ [s.data.toList[k]] := List.take_succ_eq_append_getElem hk1
    have no : letter s.data.toList[k] = false → yyf s = false := by
     intro h
     have : s.data.toList.all letter = false := by rw [List.all_eq_false]; exact ⟨_, List.getElem_mem hk1, by rw [h]; exact Bool.false_ne_true⟩
     simp only [yyf, this, Bool.and_false]
    generalize s.data.toList[k] = c at *
    simp only [go_sem, rE, e0, e3, hb]
    by_cases ha : (c.toNat : Int) < 97
    ·simp only [go_sem, rE, ha]
     exact zzd (.refl _) (Heap.zzf _) ⟨by simp only [go_sem]; rw [no (by simp [letter]; omega)], rfl⟩
    ·simp only [go_sem, rE, ha, e0, e3, hb]
     by_cases hz : (c.toNat : Int) > 122
     ·simp only [go_sem, rE, hz]
      exact zzd (.refl _) (Heap.zzf _) ⟨by simp only [go_sem]; rw [no (by simp [letter]; omega)], rfl⟩
     ·simp only [go_sem, rE, hz, e3, w1]
      refine ⟨hk1, H, Heap.zzm _, e0, by simp, ?_⟩
      rw [htk, List.all_append, hall]
      simp [letter]; omega
   ·have hkk : k = s.size := by omega
    subst hkk
    simp only [go_sem, rE]
    rw [← hsz, List.take_length] at hall
    refine zzd (.refl _) (Heap.zzf _) ⟨?_, rfl⟩
    have : yyf s = true := by simp only [yyf, hall, Bool.and_true, Bool.and_eq_true, decide_eq_true_eq]; omega
    simp only [go_sem, this]
theorem c_l2None (L : Lib P F) (p : Pl) : Pure1 P F.s_l2None [.agg p.enc] (B p.noneB) := by
 refine L.s_l2None (by simp [x_s_l2None]) ?_
 simp only [x_s_l2None, go_sem, rE, Pl.enc, zze]
 intro b hb
 by_cases h : p.name = bl []
 ·simp only [go_sem, rE, h, List.length_map]
  refine zzd (.refl _) (Heap.zzf _) ⟨?_, rfl⟩
  simp only [go_sem, rE, Pl.noneB, h]
  congr 2
  rw [Bool.eq_iff_iff]; simp
 ·simp only [go_sem, rE, h]
  exact zzd (.refl _) (Heap.zzf _) ⟨by simp only [go_sem, Pl.noneB, h, Bool.false_and], rfl⟩
theorem c_l2Place (L : Lib P F) (p : Pl) : Pure1 P F.s_l2Place [.agg p.enc] (B p.okB) := by
 refine L.s_l2Place (by simp [x_s_l2Place]) ?_
 simp only [x_s_l2Place, go_sem, rE, Pl.enc, zze]
 intro b hb
 refine zzc (c_l2Name L p.name) (rfl) ?_
 cases hn : yyf p.name
 ·simp only [go_sem, rE]
  exact zzd (.refl _) (Heap.zzf _) ⟨by simp only [go_sem, Pl.okB, hn, Bool.false_and], rfl⟩
 ·have g1 : ((Heap.empty.set b (.cells [S p.name, .sl 1 none (p.path.map fun i => [I i])]))).get b = some (.cells [S p.name, .sl 1 none (p.path.map fun i => [I i])]) := Heap.zzb _ _ _
  by_cases h4 : (p.path.length : Int) > 4
  ·simp only [go_sem, rE, h4, List.length_map]
   refine zzd (.refl _) (Heap.zzf _) ⟨?_, rfl⟩
   have : pathOk p.path = false := by simp only [pathOk, Bool.and_eq_false_iff, decide_eq_false_iff_not]; exact .inl (by omega)
   simp only [go_sem, Pl.okB, this, Bool.and_false]
  ·simp only [go_sem, rE, h4, List.length_map]
   refine yyc p.path.length (fun k E H => E 1 = .ptr b 0 ∧ E 3 = I k ∧ H.get b = some (.cells [S p.name, .sl 1 none (p.path.map fun i => [I i])]) ∧ ((p.path.take k).all fun i => decide (0 ≤ i ∧ i ≤ 1)) = true) ⟨rfl, rfl, g1, by simp⟩ ?_
   rintro k E H hk ⟨e1, e3, g1, hall⟩
   simp only [go_sem, rE, rA, e1, e3, g1, List.length_map]
   refine zzn (fun hlt => ?_) (fun hge => ?_)
   ·have hk1 : k < p.path.length := by omega
    have w1 := yya (n := (k : Int) + 1) (by omega) (by omega)
    simp only [go_sem, rE, rA, e1, e3, g1, path_get hk1]
    refine zzc (c_l6In L p.path[k] 0 1) (rfl) ?_
    by_cases hi : 0 ≤ p.path[k] ∧ p.path[k] ≤ 1
    ·simp only [go_sem, rE, hi, e3, w1]
     refine ⟨hk1, H, Heap.zzm _, e1, by simp, g1, ?_⟩
     rw [List.take_succ_eq_append_getElem hk1, List.all_append, hall]
     simp [hi]
    ·simp only [go_sem, rE, hi]
     refine zzd (.refl _) (Heap.zzf _) ⟨?_, rfl⟩
     have : (p.path.all fun i => decide (0 ≤ i ∧ i ≤ 1)) = false := by rw [List.all_eq_false]; exact ⟨_, List.getElem_mem hk1, by simpa using hi⟩
     simp only [go_sem, Pl.okB, pathOk, this, Bool.and_false]
   ·have hkk : k = p.path.length := by omega
    subst hkk
    rw [List.take_length] at hall
    simp only [go_sem, rE]
    refine zzd (.refl _) (Heap.zzf _) ⟨?_, rfl⟩
    have : pathOk p.path = true := by simp only [pathOk, hall, Bool.and_true, decide_eq_true_eq]; omega
    simp only [go_sem, Pl.okB, hn, this, Bool.and_true]
theorem c_l2NoExpr (L : Lib P F) (e : Ex) : Pure1 P F.s_l2NoExpr [.agg e.enc] (B e.noneB) := by
 refine L.s_l2NoExpr (by simp [x_s_l2NoExpr]) ?_
 rw [Ex.enc_eq]
 simp only [x_s_l2NoExpr, go_sem, rE]
 intro b hb
 by_cases h1 : e.kind = 0
 ·by_cases h2 : e.num = 0
  ·simp only [go_sem, rE, h1, h2, beq_self_eq_true, rL, rA]
   refine zzc (c_l2None L e.place) (by simp only [go_sem, rE, Pl.enc]) ?_
   cases h3 : e.place.noneB
   ·simp only [go_sem, rE]
    exact zzd (.refl _) (Heap.zzf _) ⟨by simp only [go_sem, Ex.noneB, h3, Bool.false_and, Bool.and_false], rfl⟩
   ·simp only [go_sem, rE, Ex.zzk, List.length_map]
    refine zzd (.refl _) (Heap.zzf _) ⟨?_, rfl⟩
    simp only [go_sem, rE, Ex.noneB, h1, h2, h3, Bool.true_and]
    congr 2
    rw [Bool.eq_iff_iff]; simp
  ·have h2' : (e.num == 0) = false := by simpa using h2
   simp only [go_sem, rE, h1, h2', beq_self_eq_true]
   exact zzd (.refl _) (Heap.zzf _) ⟨by simp only [go_sem, Ex.noneB, h2, Bool.false_and, Bool.and_false], rfl⟩
 ·have h1' : (e.kind == 0) = false := by simpa using h1
  simp only [go_sem, rE, h1']
  exact zzd (.refl _) (Heap.zzf _) ⟨by simp only [go_sem, Ex.noneB, h1, Bool.false_and], rfl⟩
end
end Go.Xl
namespace Go.Xl
open Nat renaming reduceEqDiff → rE, reduceAdd → rA, reduceLeDiff → rL
def exLeaf (k n : Int) (p : Pl) (m : Nat) : Bool :=
 if k = 1 then decide (0 ≤ n ∧ n ≤ 9999) && decide (m = 0) else if k = 2 then p.okB && decide (m = 0) else decide (3 ≤ k ∧ k ≤ 6) && decide (m = 2)
def exGuard (k n : Int) (p : Pl) (m : Nat) : Bool := (decide (k = 1) || decide (n = 0)) && ((decide (k = 2) || p.noneB) && decide (m ≤ 2))
def Ex.okD : Nat → Ex → Bool
 | 0, _ => false
 | d + 1, e => exGuard e.kind e.num e.place e.kids.length && (e.kids.all (Ex.okD d) && exLeaf e.kind e.num e.place e.kids.length)
theorem ex_get {ks : List Ex} {k : Nat} (h : k < ks.length) : (ks.map Ex.enc)[k]? = some ks[k].enc := by simp [h]
theorem ex_take (e : Ex) : e.enc.take 5 = e.enc := by rw [Ex.enc_eq]; rfl
theorem ex_len (e : Ex) : e.enc.length = 5 := by rw [Ex.enc_eq]; rfl
section
variable {P : Program} {F : Ids}
theorem c_l2Expr (L : Lib P F) : ∀ (d : Nat), d ≤ 100 → ∀ (e : Ex), Pure1 P F.s_l2Expr [.agg e.enc, I d] (B (e.okD d)) := by
 intro d
 induction d with
 | zero =>
   intro _ e
   refine L.s_l2Expr (by simp [x_s_l2Expr]) ?_
   rw [Ex.enc_eq]
   simp only [x_s_l2Expr, go_sem, rE, Int.natCast_zero, Int.reduceLT]
   intro b hb
   exact zzd (.refl _) (Heap.zzf _) ⟨by simp only [go_sem, Ex.okD], rfl⟩
 | succ d ih =>
   intro hd e
   have ih := ih (by omega)
   refine L.s_l2Expr (by simp [x_s_l2Expr]) ?_
   have h1 : ¬ ((d + 1 : Nat) : Int) < 1 := by omega
   have w0 := yya (n := ((d + 1 : Nat) : Int) - 1) (by omega) (by omega)
   have hd1 : ((d + 1 : Nat) : Int) - 1 = (d : Nat) := by omega
   rw [hd1] at w0
   rw [Ex.enc_eq]
   simp only [x_s_l2Expr, go_sem, rE, h1]
   intro b hb
   have g1 : (Heap.empty.set b (.cells [I e.kind, I e.num, S e.place.name, zze e.place.path, .sl 5 none (Ex.encs e.kids)])).get b = some (.cells [I e.kind, I e.num, S e.place.name, zze e.place.path, .sl 5 none (Ex.encs e.kids)]) := Heap.zzb _ _ _
   have tail : ∀ (E : Env) (H : Heap), exGuard e.kind e.num e.place e.kids.length = true → E 1 = I (d + 1 : Nat) → E 2 = .ptr b 0 → H.get b = some (.cells [I e.kind, I e.num, S e.place.name, zze e.place.path, .sl 5 none (Ex.encs e.kids)]) →
    XCode.wp P (kd5 F) (XFunc.post [.slot 4] fun q H' => q = B (e.okD (d + 1)) ∧ H' = Heap.empty) E H := by
    intro E H hg e1 e2 g1
    rw [kd5]
    have hm : e.kids.length ≤ 2 := by
     simp only [exGuard, Bool.and_eq_true, decide_eq_true_eq] at hg; exact hg.2.2
    simp only [go_sem, rE]
    refine yyc e.kids.length (fun k E H => E 1 = I (d + 1 : Nat) ∧ E 2 = .ptr b 0 ∧ E 5 = I k ∧ H.get b = some (.cells [I e.kind, I e.num, S e.place.name, zze e.place.path, .sl 5 none (Ex.encs e.kids)]) ∧ (e.kids.take k).all (Ex.okD d) = true)
     ⟨e1, e2, rfl, g1, by simp⟩ ?_
    clear e1 e2 g1
    rintro k E H hk ⟨e1, e2, e5, g1, hall⟩
    simp only [go_sem, rE, rA, e2, e5, g1, Ex.zzk, List.length_map]
    refine zzn (fun hlt => ?_) (fun hge => ?_)
    ·have hk1 : k < e.kids.length := by omega
     have w1 := yya (n := (k : Int) + 1) (by omega) (by omega)
     simp only [go_sem, rE, rA, e1, e2, e5, g1, Ex.zzk, List.length_map, ex_get hk1, ex_len, ex_take, w0, hd1]
     refine zzc (ih e.kids[k]) (rfl) ?_
     cases ho : e.kids[k].okD d
     ·simp only [go_sem, rE]
      refine zzd (.refl _) (Heap.zzf _) ⟨?_, rfl⟩
      have : e.kids.all (Ex.okD d) = false := by rw [List.all_eq_false]; exact ⟨_, List.getElem_mem hk1, by rw [ho]; exact Bool.false_ne_true⟩
      simp only [go_sem, Ex.okD, this, Bool.false_and, Bool.and_false]
     ·simp only [go_sem, rE, e5, w1]
      refine ⟨hk1, H, Heap.zzm _, e1, e2, by simp, by rw [← Ex.zzk]; exact g1, ?_⟩
      rw [List.take_succ_eq_append_getElem hk1, List.all_append, hall]
      simp [ho]
    ·have hkk : k = e.kids.length := by omega
     subst hkk
     rw [List.take_length] at hall
     have hres : e.okD (d + 1) = exLeaf e.kind e.num e.place e.kids.length := by simp only [Ex.okD, hg, hall, Bool.true_and]
     rw [hres]
     have hz : ((e.kids.length : Int) == 0) = decide (e.kids.length = 0) := by rw [Bool.eq_iff_iff]; simp
     have hz2 : ((e.kids.length : Int) == 2) = decide (e.kids.length = 2) := by
      rw [Bool.eq_iff_iff]; simp; omega
     simp only [go_sem, rE, rA, e2, g1, Ex.zzk, List.length_map]
     by_cases k1 : e.kind = 1
     ·simp only [k1, beq_self_eq_true, go_sem, rE, rA, e2, g1, Ex.zzk, List.length_map]
      refine zzc (c_l6In L e.num 0 9999) (rfl) ?_
      by_cases hi : 0 ≤ e.num ∧ e.num ≤ 9999
      ·simp only [go_sem, rE, rA, hi, e2, g1, Ex.zzk, List.length_map]
       exact zzd (.refl _) (Heap.zzf _) ⟨by simp only [go_sem, rE, exLeaf, hi, hz, Bool.true_and], rfl⟩
      ·simp only [go_sem, rE, rA, hi]
       exact zzd (.refl _) (Heap.zzf _) ⟨by simp only [go_sem, rE, exLeaf, hi, Bool.false_and], rfl⟩
     ·have k1' : (e.kind == 1) = false := by simpa using k1
      by_cases k2 : e.kind = 2
      ·simp only [k2, beq_self_eq_true, go_sem, rE, rA, e2, g1, Ex.zzk, List.length_map, Int.reduceBEq, rL]
       refine zzc (c_l2Place L e.place) (by simp only [go_sem, rE, Pl.enc]) ?_
       cases hp : e.place.okB
       ·simp only [go_sem, rE, rA]
        exact zzd (.refl _) (Heap.zzf _) ⟨by simp only [go_sem, rE, exLeaf, Int.reduceEq, hp, Bool.false_and], rfl⟩
       ·simp only [go_sem, rE, rA, e2, g1, Ex.zzk, List.length_map]
        exact zzd (.refl _) (Heap.zzf _) ⟨by simp only [go_sem, rE, exLeaf, Int.reduceEq, hp, hz, Bool.true_and], rfl⟩
      ·have k2' : (e.kind == 2) = false := by simpa using k2
       simp only [k1', k2', go_sem, rE, rA, e2, g1]
       refine zzc (c_l6In L e.kind 3 6) (rfl) ?_
       by_cases hi : 3 ≤ e.kind ∧ e.kind ≤ 6
       ·simp only [go_sem, rE, rA, hi, e2, g1, Ex.zzk, List.length_map]
        exact zzd (.refl _) (Heap.zzf _) ⟨by simp only [go_sem, rE, exLeaf, k1, k2, hi, hz2, Bool.true_and], rfl⟩
       ·simp only [go_sem, rE, rA, hi]
        exact zzd (.refl _) (Heap.zzf _) ⟨by simp only [go_sem, rE, exLeaf, k1, k2, hi, Bool.false_and], rfl⟩
   have no : exGuard e.kind e.num e.place e.kids.length = false → e.okD (d + 1) = false := fun h => by simp only [Ex.okD, h, Bool.false_and]
   have fin : ∀ (E : Env), E 1 = I (d + 1 : Nat) → E 2 = .ptr b 0 → ∀ c, (c = true → exGuard e.kind e.num e.place e.kids.length = false) → (c = false → exGuard e.kind e.num e.place e.kids.length = true) →
    wcond P E ((Heap.empty.set b (.cells [I e.kind, I e.num, S e.place.name, zze e.place.path, .sl 5 none (Ex.encs e.kids)]))) (XExit.then (XCode.wp P (kd5 F) (XFunc.post [.slot 4] fun q H' => q = B (e.okD (d + 1)) ∧ H' = Heap.empty)) (XFunc.post [.slot 4] fun q H' => q = B (e.okD (d + 1)) ∧ H' = Heap.empty)) (B c)
     (.seq (rg [mv 0 4 cf]) .ret) .skip := by
    intro E e1 e2 c hc1 hc2
    refine wcond_bool (fun hc => ?_) (fun hc => ?_)
    ·simp only [go_sem, rE]
     exact zzd (.refl _) (Heap.zzf _) ⟨by simp only [go_sem, no (hc1 hc)], rfl⟩
    ·simp only [go_sem]
     exact tail E _ (hc2 hc) e1 e2 g1
   have hm2 : ∀ c : Bool, c = decide ((e.kids.length : Int) > 2) → (c = true → exGuard e.kind e.num e.place e.kids.length = false) ∧ ((decide (e.kind = 1) || decide (e.num = 0)) = true → (decide (e.kind = 2) || e.place.noneB) = true → c = false → exGuard e.kind e.num e.place e.kids.length = true) := by
    rintro c rfl
    refine ⟨fun h => ?_, fun h1 h2 h => ?_⟩
    ·have : ¬ e.kids.length ≤ 2 := by have := of_decide_eq_true h; omega
     simp only [exGuard, this, decide_false, Bool.and_false]
    ·have : e.kids.length ≤ 2 := by have := of_decide_eq_false h; omega
     simp only [exGuard, h1, h2, this, decide_true, Bool.and_true]
   obtain ⟨m1, m2⟩ := hm2 _ rfl
   by_cases k1 : e.kind = 1
   ·have k1a : (e.kind != 1) = false := by simp [k1]
    have k2a : (e.kind != 2) = true := by simp [k1]
    simp only [k1a, k2a, go_sem, rE, rA, rL]
    refine zzc (c_l2None L e.place) (by simp only [go_sem, rE, Pl.enc]) ?_
    cases hp : e.place.noneB
    ·simp only [go_sem, rE, rA]
     exact zzd (.refl _) (Heap.zzf _) ⟨by simp only [go_sem]; rw [no (by simp [exGuard, k1, hp])], rfl⟩
    ·simp only [go_sem, rE, rA, Ex.zzk, List.length_map]
     simp only [← Ex.zzk]
     exact fin _ (rfl) (rfl) _ m1 (m2 (by simp [k1]) (by simp [hp]))
   ·have k1a : (e.kind != 1) = true := by simpa using k1
    by_cases n0 : e.num = 0
    ·have n0a : (e.num != 0) = false := by simp [n0]
     by_cases k2 : e.kind = 2
     ·have k2a : (e.kind != 2) = false := by simp [k2]
      simp only [k1a, n0a, k2a, go_sem, rE, rA, Ex.zzk, List.length_map]
      simp only [← Ex.zzk]
      exact fin _ (rfl) (rfl) _ m1 (m2 (by simp [n0]) (by simp [k2]))
     ·have k2a : (e.kind != 2) = true := by simpa using k2
      simp only [k1a, n0a, k2a, go_sem, rE, rA, rL]
      refine zzc (c_l2None L e.place) (by simp only [go_sem, rE, Pl.enc]) ?_
      cases hp : e.place.noneB
      ·simp only [go_sem, rE, rA]
       exact zzd (.refl _) (Heap.zzf _) ⟨by simp only [go_sem]; rw [no (by simp [exGuard, k2, hp])], rfl⟩
      ·simp only [go_sem, rE, rA, Ex.zzk, List.length_map]
       simp only [← Ex.zzk]
       exact fin _ (rfl) (rfl) _ m1 (m2 (by simp [n0]) (by simp [hp]))
    ·have n0a : (e.num != 0) = true := by simpa using n0
     simp only [k1a, n0a, go_sem, rE, rA]
     exact zzd (.refl _) (Heap.zzf _) ⟨by simp only [go_sem]; rw [no (by simp [exGuard, k1, n0])], rfl⟩
end
end Go.Xl
namespace Go.Xl
open Nat renaming reduceEqDiff → rE, reduceAdd → rA, reduceLeDiff → rL
def Ag.okB (a : Ag) : Bool := if a.lent then a.place.okB && a.expr.noneB else a.place.noneB && a.expr.okD 4
def argsOk (l : List Ag) : Bool := decide (l.length ≤ 4) && l.all Ag.okB
structure AgC2 (a : Ag) (cs : List AC) : Prop extends AgC a cs where
 all : cs.take 8 = cs
theorem agC2 (a : Ag) : ∃ cs, a.enc = cs ∧ AgC2 a cs := ⟨a.enc, rfl, ⟨by rw [Ag.enc, Ex.enc_eq]; rfl, rfl, rfl, by rw [Ag.enc, Ex.enc_eq]; rfl⟩, by rw [Ag.enc, Ex.enc_eq]; rfl⟩
section
variable {P : Program} {F : Ids}
theorem c_l2Args (L : Lib P F) (l : List Ag) : Pure1 P F.s_l2Args [.sl 8 none (l.map Ag.enc)] (B (argsOk l)) := by
 refine L.s_l2Args (by simp [x_s_l2Args]) ?_
 simp only [x_s_l2Args, go_sem, rE, List.length_map]
 refine zzn (fun hgt => ?_) (fun hle => ?_)
 ·simp only [go_sem, rE]
  refine zzd (.refl _) (Heap.zzf _) ⟨?_, rfl⟩
  have : argsOk l = false := by simp only [argsOk, Bool.and_eq_false_iff, decide_eq_false_iff_not]; exact .inl (by omega)
  simp only [go_sem, this]
 ·simp only [go_sem, rE]
  refine yyc l.length (fun k E H => E 0 = .sl 8 none (l.map Ag.enc) ∧ E 3 = I k ∧ (l.take k).all Ag.okB = true) ⟨rfl, rfl, by simp⟩ ?_
  rintro k E H hk ⟨e0, e3, hall⟩
  simp only [go_sem, rE, e0, e3, List.length_map]
  refine zzn (fun hlt => ?_) (fun hge => ?_)
  ·have hk1 : k < l.length := by omega
   have w1 := yya (n := (k : Int) + 1) (by omega) (by omega)
   obtain ⟨ca, hca, CA⟩ := agC2 l[k]
   have hga : (l.map Ag.enc)[k]? = some ca := by rw [← hca]; simp [hk1]
   have no : l[k].okB = false → argsOk l = false := by
    intro h
    have : l.all Ag.okB = false := by rw [List.all_eq_false]; exact ⟨_, List.getElem_mem hk1, by rw [h]; exact Bool.false_ne_true⟩
    simp only [argsOk, this, Bool.and_false]
   have yes : l[k].okB = true → (l.take (k + 1)).all Ag.okB = true := by
    intro h
    rw [List.take_succ_eq_append_getElem hk1, List.all_append, hall]
    simp [h]
   have goE : l[k].okB = if l[k].lent then l[k].place.okB && l[k].expr.noneB else l[k].place.noneB && l[k].expr.okD 4 := rfl
   generalize l[k] = a at *
   have cl := CA.lent
   simp only [go_sem, rE, rA, e0, e3, hga, CA.len, CA.all]
   intro b4 hb4
   cases hl : a.lent
   ·rw [hl] at cl goE
    simp only [go_sem, rE, rA, cl, CA.len, CA.place, CA.expr, rL]
    refine zzc (c_l2None L a.place) (by simp only [go_sem, rE, Pl.enc]) ?_
    cases hp : a.place.noneB
    ·simp only [go_sem, rE]
     exact zzd (.refl _) (Heap.zzf _) ⟨by simp only [go_sem]; rw [no (by rw [goE, hp]; rfl)], rfl⟩
    ·simp only [go_sem, rE, rA, CA.len, CA.place, CA.expr, rL]
     refine zzc (c_l2Expr L 4 (by omega) a.expr) (rfl) ?_
     cases hx : a.expr.okD 4
     ·simp only [go_sem, rE]
      exact zzd (.refl _) (Heap.zzf _) ⟨by simp only [go_sem]; rw [no (by rw [goE, hp, hx]; rfl)], rfl⟩
     ·simp only [go_sem, rE, e0, e3, w1]
      exact ⟨hk1, H, sub_set hb4, by simp, yes (by rw [goE, hp, hx]; rfl)⟩
   ·rw [hl] at cl goE
    simp only [go_sem, rE, rA, cl, CA.len, CA.place, CA.expr, rL]
    refine zzc (c_l2Place L a.place) (by simp only [go_sem, rE, Pl.enc]) ?_
    cases hp : a.place.okB
    ·simp only [go_sem, rE]
     exact zzd (.refl _) (Heap.zzf _) ⟨by simp only [go_sem]; rw [no (by rw [goE, hp]; rfl)], rfl⟩
    ·simp only [go_sem, rE, rA, CA.len, CA.place, CA.expr, rL]
     refine zzc (c_l2NoExpr L a.expr) (rfl) ?_
     cases hx : a.expr.noneB
     ·simp only [go_sem, rE]
      exact zzd (.refl _) (Heap.zzf _) ⟨by simp only [go_sem]; rw [no (by rw [goE, hp, hx]; rfl)], rfl⟩
     ·simp only [go_sem, rE, rA, cl, e0, e3, w1]
      exact ⟨hk1, H, sub_set hb4, by simp, yes (by rw [goE, hp, hx]; rfl)⟩
  ·have hkk : k = l.length := by omega
   subst hkk
   rw [List.take_length] at hall
   simp only [go_sem, rE]
   refine zzd (.refl _) (Heap.zzf _) ⟨?_, rfl⟩
   have : argsOk l = true := by simp only [argsOk, hall, Bool.and_true, decide_eq_true_eq]; omega
   simp only [go_sem, this]
end
end Go.Xl
namespace Go.Xl
open Nat renaming reduceEqDiff → rE, reduceAdd → rA, reduceLeDiff → rL
def isN (k : Int) : Bool := decide (k = 1) || (decide (k = 2) || (decide (k = 4) || decide (k = 6)))
def isP (k : Int) : Bool := decide (k = 2) || (decide (k = 3) || decide (k = 6))
def isE (k : Int) : Bool := decide (k = 1) || (decide (k = 3) || (decide (k = 5) || decide (k = 6)))
def stD (Bd : List St → Bool) (s : St) : Bool := if s.kind = 5 then Bd s.thn && Bd s.els else decide (1 ≤ s.kind ∧ s.kind ≤ 6) && decide (s.thn.length + s.els.length = 0)
def stC' (s : St) : Bool := (if s.kind = 4 then yyf s.fn else decide (s.fn = bl []) && decide (s.args.length = 0)) && argsOk s.args
def stB (s : St) : Bool := (if isN s.kind then yyf s.name else !yyf s.name && decide (s.name = bl [])) && ((if isP s.kind then s.place.okB else s.place.noneB) && (if isE s.kind then s.expr.okD 4 else s.expr.noneB))
def stA (s : St) : Bool := if s.kind = 6 then s.other.okB else s.other.noneB
def stOkW (Bd : List St → Bool) (s : St) : Bool := stA s && (stB s && (stC' s && stD Bd s))
def xxc : Nat → List St → Bool
 | 0, _ => false
 | d + 1, l => decide (l.length ≤ 40) && l.all (stOkW (xxc d))
def St.okB (d : Nat) (s : St) : Bool := stOkW (xxc (d - 1)) s
section
variable {P : Program} {F : Ids}
theorem c_l2StmtW (L : Lib P F) (d : Nat) (hd : 1 ≤ d) (hd2 : d ≤ 100) (Bd : List St → Bool) (s : St) (hc : s.thn.length + s.els.length ≤ 2 ^ 40)
 (hB : ∀ l, (l = s.thn ∨ l = s.els) → Pure1 P F.s_l2Body [.sl 15 none (St.encs l), I ((d - 1 : Nat) : Int)] (B (Bd l))) : Pure1 P F.s_l2Stmt [.agg s.enc, I d] (B (stOkW Bd s)) := by
 refine L.s_l2Stmt (by simp [x_s_l2Stmt]) ?_
 obtain ⟨cs, hcs, C⟩ := stC s
 have w0 := yya (n := (d : Int) - 1) (by omega) (by omega)
 have hd1 : (d : Int) - 1 = ((d - 1 : Nat) : Int) := by omega
 rw [hd1] at w0
 have wl := yya (n := (s.thn.length : Int) + s.els.length) (by omega) (by omega)
 rw [hcs]
 simp only [x_s_l2Stmt, go_sem, rE]
 intro b hb
 have g1 : (Heap.empty.set b (.cells cs)).get b = some (.cells cs) := Heap.zzb _ _ _
 generalize Heap.empty.set b (.cells cs) = H1 at *
 have back : ∀ (E : Env) (H : Heap) (c : Bool), E 4 = B c → c = stOkW Bd s → XFunc.post [.slot 4] (fun q H' => q = B (stOkW Bd s) ∧ H' = Heap.empty) .ret E H := by
  rintro E H c e4 rfl
  exact zzd (.refl _) (Heap.zzf _) ⟨e4, rfl⟩
 have bad : ∀ (E : Env) (H : Heap), stOkW Bd s = false → XCode.wp P (.seq (rg [mv 0 4 cf]) .ret) (XFunc.post [.slot 4] fun q H' => q = B (stOkW Bd s) ∧ H' = Heap.empty) E H := by
  intro E H h
  simp only [go_sem, rE]
  exact back _ _ false (rfl) h.symm
 have stepD : ∀ (E : Env) (H : Heap), stA s = true → stB s = true → stC' s = true → E 1 = I d → E 2 = .ptr b 0 → H.get b = some (.cells cs) →
  XCode.wp P (kd6 F) (XFunc.post [.slot 4] fun q H' => q = B (stOkW Bd s) ∧ H' = Heap.empty) E H := by
  intro E H hA hB' hC e1 e2 g
  rw [kd6]
  have hres : stOkW Bd s = stD Bd s := by simp only [stOkW, hA, hB', hC, Bool.true_and]
  by_cases k5 : s.kind = 5
  ·have k5' : (s.kind != 5) = false := by simp [k5]
   simp only [go_sem, rE, rA, e1, e2, g, C.kind, k5', C.thn, w0, hd1]
   refine zzc (hB s.thn (.inl rfl)) (rfl) ?_
   cases ht : Bd s.thn
   ·simp only [go_sem, rE, rA]
    exact back _ _ false (rfl) (by rw [hres]; simp [stD, k5, ht])
   ·simp only [go_sem, rE, rA, e1, e2, g, C.els, w0, hd1]
    refine zzc (hB s.els (.inr rfl)) (rfl) ?_
    simp only [go_sem, rE, rA]
    exact back _ _ (Bd s.els) (rfl) (by rw [hres]; simp [stD, k5, ht])
  ·have k5' : (s.kind != 5) = true := by simpa using k5
   simp only [go_sem, rE, rA, e1, e2, g, C.kind, k5']
   refine zzc (c_l6In L s.kind 1 6) (rfl) ?_
   by_cases hi : 1 ≤ s.kind ∧ s.kind ≤ 6
   ·simp only [go_sem, rE, rA, hi, e2, g, C.thn, C.els, St.zzk, List.length_map, wl]
    refine back _ _ (((s.thn.length : Int) + s.els.length) == 0) (rfl) ?_
    rw [hres]; simp only [stD, k5, if_false, hi, and_self, decide_true, Bool.true_and]
    rw [Bool.eq_iff_iff, beq_iff_eq, decide_eq_true_eq]; omega
   ·simp only [go_sem, rE, rA, hi]
    exact back _ _ false (rfl) (by rw [hres]; simp only [stD, k5, if_false, hi, decide_false, Bool.false_and])
 have stepC : ∀ (E : Env) (H : Heap), stA s = true → stB s = true → E 1 = I d → E 2 = .ptr b 0 → H.get b = some (.cells cs) →
  XCode.wp P (kd7 F) (XFunc.post [.slot 4] fun q H' => q = B (stOkW Bd s) ∧ H' = Heap.empty) E H := by
  intro E H hA hB' e1 e2 g
  rw [kd7]
  have no : stC' s = false → stOkW Bd s = false := fun h => by simp only [stOkW, h, Bool.false_and, Bool.and_false]
  by_cases k4 : s.kind = 4
  ·have k4' : (s.kind == 4) = true := by simp [k4]
   have k4a : (s.kind != 4) = false := by simp [k4]
   simp only [go_sem, rE, rA, e1, e2, g, C.kind, k4', C.fn]
   refine zzc (c_l2Name L s.fn) (rfl) ?_
   cases hn : yyf s.fn
   ·simp only [go_sem, rE, rA]
    exact back _ _ false (rfl) (by rw [no (by simp [stC', k4, hn])])
   ·simp only [go_sem, rE, rA, e2, g, C.kind, k4a, C.args]
    refine zzc (c_l2Args L s.args) (rfl) ?_
    cases ha : argsOk s.args
    ·simp only [go_sem, rE, rA]
     exact back _ _ false (rfl) (by rw [no (by simp [stC', ha])])
    ·simp only [go_sem, rE, rA]
     exact stepD _ _ hA hB' (by simp [stC', k4, hn, ha]) (e1) (e2) g
  ·have k4' : (s.kind == 4) = false := by simpa using k4
   have k4a : (s.kind != 4) = true := by simpa using k4
   simp only [go_sem, rE, rA, e1, e2, g, C.kind, k4', k4a, C.fn]
   by_cases hf : s.fn = bl []
   ·simp only [go_sem, rE, rA, hf, e2, g, C.args, List.length_map]
    by_cases hz : (s.args.length : Int) > 0
    ·simp only [go_sem, rE, rA, hz]
     exact back _ _ false (rfl) (by rw [no (by simp only [stC', k4, if_false, hf, decide_true, Bool.true_and, Bool.and_eq_false_iff, decide_eq_false_iff_not]; exact .inl (by omega))])
    ·simp only [go_sem, rE, rA, hz, e2, g, C.args]
     refine zzc (c_l2Args L s.args) (rfl) ?_
     cases ha : argsOk s.args
     ·simp only [go_sem, rE, rA]
      exact back _ _ false (rfl) (by rw [no (by simp [stC', ha])])
     ·simp only [go_sem, rE, rA]
      exact stepD _ _ hA hB' (by simp only [stC', k4, if_false, hf, decide_true, Bool.true_and, ha, Bool.and_true, decide_eq_true_eq]; omega) (e1) (e2) g
   ·simp only [go_sem, rE, rA, hf]
    exact back _ _ false (rfl) (by rw [no (by simp [stC', k4, hf])])
 have stepB : ∀ (E : Env) (H : Heap), stA s = true → E 1 = I d → E 2 = .ptr b 0 → E 6 = B (isN s.kind) → E 7 = B (isP s.kind) → E 8 = B (isE s.kind) → H.get b = some (.cells cs) →
  XCode.wp P (kd8 F) (XFunc.post [.slot 4] fun q H' => q = B (stOkW Bd s) ∧ H' = Heap.empty) E H := by
  intro E H hA e1 e2 e6 e7 e8 g
  rw [kd8]
  have no : stB s = false → stOkW Bd s = false := fun h => by simp only [stOkW, h, Bool.false_and, Bool.and_false]
  have last : ∀ (K : XExit → Env → Heap → Prop), True := fun _ => trivial
  simp only [go_sem, rE, rA, e2, e6, g, C.name]
  refine zzc (c_l2Name L s.name) (rfl) ?_
  cases hN : isN s.kind <;> cases hn : yyf s.name
  ·
   rw [hN] at e6
   by_cases hs : s.name = bl []
   ·have hpre : (if isN s.kind then yyf s.name else !yyf s.name && decide (s.name = bl [])) = true := by rw [hN, hn, hs]; simp
    cases hP : isP s.kind <;> rw [hP] at e7
    ·simp only [go_sem, rE, rA, e2, e6, e7, e8, g, C.name, hs, C.len, rL, C.place, C.expr]
     refine zzc (c_l2None L s.place) (by simp only [go_sem, rE, Pl.enc]) ?_
     cases hp : s.place.noneB
     ·simp only [go_sem, rE, rA]
      exact back _ _ false (rfl) (by rw [no (by simp only [stB, hpre, hP, hp, if_true, if_false, Bool.false_eq_true, Bool.false_and, Bool.and_false])])
     ·cases hE : isE s.kind <;> rw [hE] at e8
      ·simp only [go_sem, rE, rA, e2, e6, e7, e8, g, C.name, hs, C.len, rL, C.place, C.expr]
       refine zzc (c_l2NoExpr L s.expr) (rfl) ?_
       cases hx : s.expr.noneB
       ·simp only [go_sem, rE, rA]
        exact back _ _ false (rfl) (by rw [no (by simp only [stB, hpre, hP, hp, hE, hx, if_true, if_false, Bool.false_eq_true, Bool.false_and, Bool.and_false])])
       ·simp only [go_sem, rE, rA, e8]
        exact stepC _ _ hA (by simp only [stB, hpre, hP, hp, hE, hx, if_true, if_false, Bool.false_eq_true, Bool.and_self]) (e1) (e2) g
      ·simp only [go_sem, rE, rA, e2, e6, e7, e8, g, C.name, hs, C.len, rL, C.place, C.expr]
       refine zzc (c_l2Expr L 4 (by omega) s.expr) (rfl) ?_
       cases hx : s.expr.okD 4
       ·simp only [go_sem, rE, rA]
        exact back _ _ false (rfl) (by rw [no (by simp only [stB, hpre, hP, hp, hE, hx, if_true, if_false, Bool.false_eq_true, Bool.false_and, Bool.and_false])])
       ·simp only [go_sem, rE, rA, e8]
        exact stepC _ _ hA (by simp only [stB, hpre, hP, hp, hE, hx, if_true, if_false, Bool.false_eq_true, Bool.and_self]) (e1) (e2) g
    ·simp only [go_sem, rE, rA, e2, e6, e7, e8, g, C.name, hs, C.len, rL, C.place, C.expr]
     refine zzc (c_l2Place L s.place) (by simp only [go_sem, rE, Pl.enc]) ?_
     cases hp : s.place.okB
     ·simp only [go_sem, rE, rA]
      exact back _ _ false (rfl) (by rw [no (by simp only [stB, hpre, hP, hp, if_true, if_false, Bool.false_eq_true, Bool.false_and, Bool.and_false])])
     ·cases hE : isE s.kind <;> rw [hE] at e8
      ·simp only [go_sem, rE, rA, e2, e6, e7, e8, g, C.name, hs, C.len, rL, C.place, C.expr]
       refine zzc (c_l2NoExpr L s.expr) (rfl) ?_
       cases hx : s.expr.noneB
       ·simp only [go_sem, rE, rA]
        exact back _ _ false (rfl) (by rw [no (by simp only [stB, hpre, hP, hp, hE, hx, if_true, if_false, Bool.false_eq_true, Bool.false_and, Bool.and_false])])
       ·simp only [go_sem, rE, rA, e8]
        exact stepC _ _ hA (by simp only [stB, hpre, hP, hp, hE, hx, if_true, if_false, Bool.false_eq_true, Bool.and_self]) (e1) (e2) g
      ·simp only [go_sem, rE, rA, e2, e6, e7, e8, g, C.name, hs, C.len, rL, C.place, C.expr]
       refine zzc (c_l2Expr L 4 (by omega) s.expr) (rfl) ?_
       cases hx : s.expr.okD 4
       ·simp only [go_sem, rE, rA]
        exact back _ _ false (rfl) (by rw [no (by simp only [stB, hpre, hP, hp, hE, hx, if_true, if_false, Bool.false_eq_true, Bool.false_and, Bool.and_false])])
       ·simp only [go_sem, rE, rA, e8]
        exact stepC _ _ hA (by simp only [stB, hpre, hP, hp, hE, hx, if_true, if_false, Bool.false_eq_true, Bool.and_self]) (e1) (e2) g
   ·simp only [go_sem, rE, rA, e2, e6, g, C.name, hs]
    exact back _ _ false (rfl) (by rw [no (by simp [stB, hN, hs])])
  ·simp only [go_sem, rE, rA]
   exact back _ _ false (rfl) (by rw [no (by simp [stB, hN, hn])])
  ·simp only [go_sem, rE, rA]
   exact back _ _ false (rfl) (by rw [no (by simp [stB, hN, hn])])
  ·rw [hN] at e6
   have hpre : (if isN s.kind then yyf s.name else !yyf s.name && decide (s.name = bl [])) = true := by rw [hN, hn]; rfl
   cases hP : isP s.kind <;> rw [hP] at e7
   ·simp only [go_sem, rE, rA, e2, e6, e7, e8, g, C.name, C.len, rL, C.place, C.expr]
    refine zzc (c_l2None L s.place) (by simp only [go_sem, rE, Pl.enc]) ?_
    cases hp : s.place.noneB
    ·simp only [go_sem, rE, rA]
     exact back _ _ false (rfl) (by rw [no (by simp only [stB, hpre, hP, hp, if_true, if_false, Bool.false_eq_true, Bool.false_and, Bool.and_false])])
    ·cases hE : isE s.kind <;> rw [hE] at e8
     ·simp only [go_sem, rE, rA, e2, e6, e7, e8, g, C.name, C.len, rL, C.place, C.expr]
      refine zzc (c_l2NoExpr L s.expr) (rfl) ?_
      cases hx : s.expr.noneB
      ·simp only [go_sem, rE, rA]
       exact back _ _ false (rfl) (by rw [no (by simp only [stB, hpre, hP, hp, hE, hx, if_true, if_false, Bool.false_eq_true, Bool.false_and, Bool.and_false])])
      ·simp only [go_sem, rE, rA, e8]
       exact stepC _ _ hA (by simp only [stB, hpre, hP, hp, hE, hx, if_true, if_false, Bool.false_eq_true, Bool.and_self]) (e1) (e2) g
     ·simp only [go_sem, rE, rA, e2, e6, e7, e8, g, C.name, C.len, rL, C.place, C.expr]
      refine zzc (c_l2Expr L 4 (by omega) s.expr) (rfl) ?_
      cases hx : s.expr.okD 4
      ·simp only [go_sem, rE, rA]
       exact back _ _ false (rfl) (by rw [no (by simp only [stB, hpre, hP, hp, hE, hx, if_true, if_false, Bool.false_eq_true, Bool.false_and, Bool.and_false])])
      ·simp only [go_sem, rE, rA, e8]
       exact stepC _ _ hA (by simp only [stB, hpre, hP, hp, hE, hx, if_true, if_false, Bool.false_eq_true, Bool.and_self]) (e1) (e2) g
   ·simp only [go_sem, rE, rA, e2, e6, e7, e8, g, C.name, C.len, rL, C.place, C.expr]
    refine zzc (c_l2Place L s.place) (by simp only [go_sem, rE, Pl.enc]) ?_
    cases hp : s.place.okB
    ·simp only [go_sem, rE, rA]
     exact back _ _ false (rfl) (by rw [no (by simp only [stB, hpre, hP, hp, if_true, if_false, Bool.false_eq_true, Bool.false_and, Bool.and_false])])
    ·cases hE : isE s.kind <;> rw [hE] at e8
     ·simp only [go_sem, rE, rA, e2, e6, e7, e8, g, C.name, C.len, rL, C.place, C.expr]
      refine zzc (c_l2NoExpr L s.expr) (rfl) ?_
      cases hx : s.expr.noneB
      ·simp only [go_sem, rE, rA]
       exact back _ _ false (rfl) (by rw [no (by simp only [stB, hpre, hP, hp, hE, hx, if_true, if_false, Bool.false_eq_true, Bool.false_and, Bool.and_false])])
      ·simp only [go_sem, rE, rA, e8]
       exact stepC _ _ hA (by simp only [stB, hpre, hP, hp, hE, hx, if_true, if_false, Bool.false_eq_true, Bool.and_self]) (e1) (e2) g
     ·simp only [go_sem, rE, rA, e2, e6, e7, e8, g, C.name, C.len, rL, C.place, C.expr]
      refine zzc (c_l2Expr L 4 (by omega) s.expr) (rfl) ?_
      cases hx : s.expr.okD 4
      ·simp only [go_sem, rE, rA]
       exact back _ _ false (rfl) (by rw [no (by simp only [stB, hpre, hP, hp, hE, hx, if_true, if_false, Bool.false_eq_true, Bool.false_and, Bool.and_false])])
      ·simp only [go_sem, rE, rA, e8]
       exact stepC _ _ hA (by simp only [stB, hpre, hP, hp, hE, hx, if_true, if_false, Bool.false_eq_true, Bool.and_self]) (e1) (e2) g
 have stepA : ∀ (E : Env) (H : Heap), E 1 = I d → E 2 = .ptr b 0 → E 5 = B (decide (s.kind = 6)) → E 6 = B (isN s.kind) → E 7 = B (isP s.kind) → E 8 = B (isE s.kind) → H.get b = some (.cells cs) →
  XCode.wp P (kd9 F) (XFunc.post [.slot 4] fun q H' => q = B (stOkW Bd s) ∧ H' = Heap.empty) E H := by
  intro E H e1 e2 e5 e6 e7 e8 g
  rw [kd9]
  have no : stA s = false → stOkW Bd s = false := fun h => by simp only [stOkW, h, Bool.false_and]
  by_cases k6 : s.kind = 6
  ·simp only [k6, decide_true] at e5
   simp only [go_sem, rE, rA, e2, e5, g, C.len, rL, C.other]
   refine zzc (c_l2Place L s.other) (by simp only [go_sem, rE, Pl.enc]) ?_
   cases hp : s.other.okB
   ·simp only [go_sem, rE, rA, e5]
    exact back _ _ false (rfl) (by rw [no (by simp only [stA, k6, hp, if_true])])
   ·simp only [go_sem, rE, rA, e5]
    exact stepB _ _ (by simp only [stA, k6, hp, if_true]) (e1) (e2) (e6) (e7) (e8) g
  ·simp only [k6, decide_false] at e5
   simp only [go_sem, rE, rA, e2, e5, g, C.len, rL, C.other]
   refine zzc (c_l2None L s.other) (by simp only [go_sem, rE, Pl.enc]) ?_
   cases hp : s.other.noneB
   ·simp only [go_sem, rE, rA, e5]
    exact back _ _ false (rfl) (by rw [no (by simp only [stA, k6, hp, if_false])])
   ·simp only [go_sem, rE, rA, e5]
    exact stepB _ _ (by simp only [stA, k6, hp, if_false]) (e1) (e2) (e6) (e7) (e8) g
 have k1 : (s.kind == 1) = decide (s.kind = 1) := by rw [Bool.eq_iff_iff, beq_iff_eq, decide_eq_true_eq]
 have k2 : (s.kind == 2) = decide (s.kind = 2) := by rw [Bool.eq_iff_iff, beq_iff_eq, decide_eq_true_eq]
 have k3 : (s.kind == 3) = decide (s.kind = 3) := by rw [Bool.eq_iff_iff, beq_iff_eq, decide_eq_true_eq]
 have k4 : (s.kind == 4) = decide (s.kind = 4) := by rw [Bool.eq_iff_iff, beq_iff_eq, decide_eq_true_eq]
 have k5 : (s.kind == 5) = decide (s.kind = 5) := by rw [Bool.eq_iff_iff, beq_iff_eq, decide_eq_true_eq]
 have k6 : (s.kind == 6) = decide (s.kind = 6) := by rw [Bool.eq_iff_iff, beq_iff_eq, decide_eq_true_eq]
 have all : ∀ k : Int, (k = 1 ∨ k = 2 ∨ k = 3 ∨ k = 4 ∨ k = 5 ∨ k = 6 ∨ (¬ k = 1 ∧ ¬ k = 2 ∧ ¬ k = 3 ∧ ¬ k = 4 ∧ ¬ k = 5 ∧ ¬ k = 6)) := by intro k; omega
 have ck := C.kind
 rcases all s.kind with h | h | h | h | h | h | ⟨h1, h2, h3, h4, h5, h6⟩
 ·rw [h] at k1 k2 k3 k4 k5 k6 stepA ck
  simp only [Int.reduceBEq, Int.reduceEq, decide_true, decide_false] at k1 k2 k3 k4 k5 k6
  simp only [go_sem, rE, rA, g1, ck, Int.reduceBEq]
  exact stepA _ _ (by simp [go_sem]) (by simp [go_sem]) (by simp [go_sem]) (by simp [go_sem, isN]) (by simp [go_sem, isP]) (by simp [go_sem, isE]) g1
 ·rw [h] at k1 k2 k3 k4 k5 k6 stepA ck
  simp only [Int.reduceBEq, Int.reduceEq, decide_true, decide_false] at k1 k2 k3 k4 k5 k6
  simp only [go_sem, rE, rA, g1, ck, Int.reduceBEq]
  exact stepA _ _ (by simp [go_sem]) (by simp [go_sem]) (by simp [go_sem]) (by simp [go_sem, isN]) (by simp [go_sem, isP]) (by simp [go_sem, isE]) g1
 ·rw [h] at k1 k2 k3 k4 k5 k6 stepA ck
  simp only [Int.reduceBEq, Int.reduceEq, decide_true, decide_false] at k1 k2 k3 k4 k5 k6
  simp only [go_sem, rE, rA, g1, ck, Int.reduceBEq]
  exact stepA _ _ (by simp [go_sem]) (by simp [go_sem]) (by simp [go_sem]) (by simp [go_sem, isN]) (by simp [go_sem, isP]) (by simp [go_sem, isE]) g1
 ·rw [h] at k1 k2 k3 k4 k5 k6 stepA ck
  simp only [Int.reduceBEq, Int.reduceEq, decide_true, decide_false] at k1 k2 k3 k4 k5 k6
  simp only [go_sem, rE, rA, g1, ck, Int.reduceBEq]
  exact stepA _ _ (by simp [go_sem]) (by simp [go_sem]) (by simp [go_sem]) (by simp [go_sem, isN]) (by simp [go_sem, isP]) (by simp [go_sem, isE]) g1
 ·rw [h] at k1 k2 k3 k4 k5 k6 stepA ck
  simp only [Int.reduceBEq, Int.reduceEq, decide_true, decide_false] at k1 k2 k3 k4 k5 k6
  simp only [go_sem, rE, rA, g1, ck, Int.reduceBEq]
  exact stepA _ _ (by simp [go_sem]) (by simp [go_sem]) (by simp [go_sem]) (by simp [go_sem, isN]) (by simp [go_sem, isP]) (by simp [go_sem, isE]) g1
 ·rw [h] at k1 k2 k3 k4 k5 k6 stepA ck
  simp only [Int.reduceBEq, Int.reduceEq, decide_true, decide_false] at k1 k2 k3 k4 k5 k6
  simp only [go_sem, rE, rA, g1, ck, Int.reduceBEq]
  exact stepA _ _ (by simp [go_sem]) (by simp [go_sem]) (by simp [go_sem]) (by simp [go_sem, isN]) (by simp [go_sem, isP]) (by simp [go_sem, isE]) g1
 ·simp only [h1, h2, h3, h4, h5, h6, decide_false] at k1 k2 k3 k4 k5 k6
  simp only [go_sem, rE, rA, g1, ck, k1, k2, k3, k4, k5, k6]
  exact stepA _ _ (by simp [go_sem]) (by simp [go_sem]) (by simp [go_sem, h6]) (by simp [go_sem, isN, h1, h2, h4, h6]) (by simp [go_sem, isP, h2, h3, h6]) (by simp [go_sem, isE, h1, h3, h5, h6]) g1
end
end Go.Xl
