/- FnProgOne: a part of the proof. -/
import Derived.Test.YtjfbfchnfdhbpaaGreatDoorProg
import Derived.KernelRfl
import Derived.Shelf.Strings.OnBuilder
import Derived.Shelf.Strconv.Itoa3
import Derived.Test.YtjfbfchnfdhbpaaGreatDoorCards
import Derived.Test.YtjfbfchnfdhbpaaGreatDoorTie
import Derived.WalkKit
import Derived.ProofKit
import Derived.OpenShut
import Derived.LaidMore
import Derived.Stop.Joined
import Derived.SevenTiedAt
import Derived.Test.YtjfbfchnfdhbpaaGreatDoorX6
set_option linter.unusedVariables false
set_option linter.unusedSimpArgs false
namespace Go.Xl
open Nat renaming reduceEqDiff → rE, reduceAdd → rA, reduceLeDiff → rL
open Go.Proofs
def ids : Ids := ⟨116, 118, 120, 106, 108, 102, 100, 110, 104, 36, 5, 5, 40, 93, 74, 44, 43, 52, 31, 26, 11, 39, 75, 51, 42, 45, 30, 10, 27, 78, 50, 41, 29, 54, 73, 49, 28, 20, 21, 35, 22, 7, 19, 4, 6, 89, 56, 104, 80, 91, 15, 97, 17, 57, 58, 62, 32, 14, 16, 55, 60, 61, 59, 18, 34, 81, 116, 83, 114, 101, 67, 90, 72, 88, 115, 87, 103, 92, 69, 102, 71, 85, 68, 112, 113, 105, 106, 64, 33, 82, 9, 37, 24, 25, 38, 36, 65, 100, 70, 99, 98, 66, 84, 86, 23, 8, 63, 53, 12, 13, 48, 46, 47⟩
theorem lib : Lib Tryz.prog ids := ⟨fits_of Tryz.func4 (by kernel_rfl) (by kernel_rfl),
 fits_of Tryz.func5 (by kernel_rfl) (by kernel_rfl),
 fits_of Tryz.func6 (by kernel_rfl) (by kernel_rfl),
 fits_of Tryz.func7 (by kernel_rfl) (by kernel_rfl),
 fits_of Tryz.func8 (by kernel_rfl) (by kernel_rfl),
 fits_of Tryz.func9 (by kernel_rfl) (by kernel_rfl),
 fits_of Tryz.func10 (by kernel_rfl) (by kernel_rfl),
 fits_of Tryz.func11 (by kernel_rfl) (by kernel_rfl),
 fits_of Tryz.func14 (by kernel_rfl) (by kernel_rfl),
 fits_of Tryz.func15 (by kernel_rfl) (by kernel_rfl),
 fits_of Tryz.func16 (by kernel_rfl) (by kernel_rfl),
 fits_of Tryz.func17 (by kernel_rfl) (by kernel_rfl),
 fits_of Tryz.func18 (by kernel_rfl) (by kernel_rfl),
 fits_of Tryz.func19 (by kernel_rfl) (by kernel_rfl),
 fits_of Tryz.func20 (by kernel_rfl) (by kernel_rfl),
 fits_of Tryz.func21 (by kernel_rfl) (by kernel_rfl),
 fits_of Tryz.func22 (by kernel_rfl) (by kernel_rfl),
 fits_of Tryz.func23 (by kernel_rfl) (by kernel_rfl),
 fits_of Tryz.func24 (by kernel_rfl) (by kernel_rfl),
 fits_of Tryz.func25 (by kernel_rfl) (by kernel_rfl),
 fits_of Tryz.func26 (by kernel_rfl) (by kernel_rfl),
 fits_of Tryz.func27 (by kernel_rfl) (by kernel_rfl),
 fits_of Tryz.func28 (by kernel_rfl) (by kernel_rfl),
 fits_of Tryz.func29 (by kernel_rfl) (by kernel_rfl),
 fits_of Tryz.func30 (by kernel_rfl) (by kernel_rfl),
 fits_of Tryz.func31 (by kernel_rfl) (by kernel_rfl),
 fits_of Tryz.func32 (by kernel_rfl) (by kernel_rfl),
 fits_of Tryz.func33 (by kernel_rfl) (by kernel_rfl),
 fits_of Tryz.func34 (by kernel_rfl) (by kernel_rfl),
 fits_of Tryz.func35 (by kernel_rfl) (by kernel_rfl),
 fits_of Tryz.func36 (by kernel_rfl) (by kernel_rfl),
 fits_of Tryz.func37 (by kernel_rfl) (by kernel_rfl),
 fits_of Tryz.func38 (by kernel_rfl) (by kernel_rfl),
 fits_of Tryz.func39 (by kernel_rfl) (by kernel_rfl),
 fits_of Tryz.func40 (by kernel_rfl) (by kernel_rfl),
 fits_of Tryz.func41 (by kernel_rfl) (by kernel_rfl),
 fits_of Tryz.func42 (by kernel_rfl) (by kernel_rfl),
 fits_of Tryz.func43 (by kernel_rfl) (by kernel_rfl),
 fits_of Tryz.func44 (by kernel_rfl) (by kernel_rfl),
 fits_of Tryz.func45 (by kernel_rfl) (by kernel_rfl),
 fits_of Tryz.func49 (by kernel_rfl) (by kernel_rfl),
 fits_of Tryz.func50 (by kernel_rfl) (by kernel_rfl),
 fits_of Tryz.func51 (by kernel_rfl) (by kernel_rfl),
 fits_of Tryz.func52 (by kernel_rfl) (by kernel_rfl),
 fits_of Tryz.func54 (by kernel_rfl) (by kernel_rfl),
 fits_of Tryz.func55 (by kernel_rfl) (by kernel_rfl),
 fits_of Tryz.func56 (by kernel_rfl) (by kernel_rfl),
 fits_of Tryz.func57 (by kernel_rfl) (by kernel_rfl),
 fits_of Tryz.func58 (by kernel_rfl) (by kernel_rfl),
 fits_of Tryz.func59 (by kernel_rfl) (by kernel_rfl),
 fits_of Tryz.func60 (by kernel_rfl) (by kernel_rfl),
 fits_of Tryz.func61 (by kernel_rfl) (by kernel_rfl),
 fits_of Tryz.func62 (by kernel_rfl) (by kernel_rfl),
 fits_of Tryz.func63 (by kernel_rfl) (by kernel_rfl),
 fits_of Tryz.func64 (by kernel_rfl) (by kernel_rfl),
 fits_of Tryz.func65 (by kernel_rfl) (by kernel_rfl),
 fits_of Tryz.func66 (by kernel_rfl) (by kernel_rfl),
 fits_of Tryz.func67 (by kernel_rfl) (by kernel_rfl),
 fits_of Tryz.func68 (by kernel_rfl) (by kernel_rfl),
 fits_of Tryz.func69 (by kernel_rfl) (by kernel_rfl),
 fits_of Tryz.func70 (by kernel_rfl) (by kernel_rfl),
 fits_of Tryz.func71 (by kernel_rfl) (by kernel_rfl),
 fits_of Tryz.func72 (by kernel_rfl) (by kernel_rfl),
 fits_of Tryz.func73 (by kernel_rfl) (by kernel_rfl),
 fits_of Tryz.func74 (by kernel_rfl) (by kernel_rfl),
 fits_of Tryz.func75 (by kernel_rfl) (by kernel_rfl),
 fits_of Tryz.func78 (by kernel_rfl) (by kernel_rfl),
 fits_of Tryz.func80 (by kernel_rfl) (by kernel_rfl),
 fits_of Tryz.func81 (by kernel_rfl) (by kernel_rfl),
 fits_of Tryz.func82 (by kernel_rfl) (by kernel_rfl),
 fits_of Tryz.func83 (by kernel_rfl) (by kernel_rfl),
 fits_of Tryz.func84 (by kernel_rfl) (by kernel_rfl),
 fits_of Tryz.func85 (by kernel_rfl) (by kernel_rfl),
 fits_of Tryz.func86 (by kernel_rfl) (by kernel_rfl),
 fits_of Tryz.func87 (by kernel_rfl) (by kernel_rfl),
 fits_of Tryz.func88 (by kernel_rfl) (by kernel_rfl),
 fits_of Tryz.func89 (by kernel_rfl) (by kernel_rfl),
 fits_of Tryz.func90 (by kernel_rfl) (by kernel_rfl),
 fits_of Tryz.func91 (by kernel_rfl) (by kernel_rfl),
 fits_of Tryz.func92 (by kernel_rfl) (by kernel_rfl),
 fits_of Tryz.func93 (by kernel_rfl) (by kernel_rfl),
 fits_of Tryz.func97 (by kernel_rfl) (by kernel_rfl),
 fits_of Tryz.func98 (by kernel_rfl) (by kernel_rfl),
 fits_of Tryz.func99 (by kernel_rfl) (by kernel_rfl),
 fits_of Tryz.func100 (by kernel_rfl) (by kernel_rfl),
 fits_of Tryz.func101 (by kernel_rfl) (by kernel_rfl),
 fits_of Tryz.func102 (by kernel_rfl) (by kernel_rfl),
 fits_of Tryz.func103 (by kernel_rfl) (by kernel_rfl),
 fits_of Tryz.func104 (by kernel_rfl) (by kernel_rfl),
 fits_of Tryz.func105 (by kernel_rfl) (by kernel_rfl),
 fits_of Tryz.func106 (by kernel_rfl) (by kernel_rfl),
 fits_of Tryz.func112 (by kernel_rfl) (by kernel_rfl),
 fits_of Tryz.func113 (by kernel_rfl) (by kernel_rfl),
 fits_of Tryz.func114 (by kernel_rfl) (by kernel_rfl),
 fits_of Tryz.func115 (by kernel_rfl) (by kernel_rfl),
 fits_of Tryz.func116 (by kernel_rfl) (by kernel_rfl)⟩
end Go.Xl
namespace Go.Xl
open Nat renaming reduceEqDiff → rE, reduceAdd → rA, reduceLeDiff → rL
open Go.Proofs Go.Shelf Go.RowKit
variable {P : Program} {ρ : Ren}
structure Kp (b : Nat) (g : Option Nat) (w w' : World) : Prop where
 io : IoEq w w'
 size : w.heap.size ≤ w'.heap.size
 block : ∀ k, k < w.heap.size → k ≠ b → some k ≠ g → w'.heap[k]? = w.heap[k]?
theorem bw_check (L : Lays.n240 P ρ) (X : Builder.X72 P ρ) (b : Nat) (p v : Value) (w : World) (hp : p = .pointer none ∨ p = .pointer (some ⟨b, 0, none⟩)) (hb : w.heap[b]? = some (.cells #[p, v] (ρ.t 72) (0, 0))) :
 Calls P (ρ.f 240) #[.pointer (some ⟨b, 0, none⟩)] w fun e w' => e = .returned (.tuple #[]) ∧ w'.heap[b]? = some (.cells #[.pointer (some ⟨b, 0, none⟩), v] (ρ.t 72) (0, 0)) ∧ Kp b none w w' := by
 rcases hp with rfl | rfl
 ·refine (Any.Builder_copyCheck_fresh L X b w (by simp [World.cell?, hb]) (by simp [World.shape?, hb]) (by simp [World.frozen?, hb])).mono ?_
  rintro e w' ⟨rfl, rfl⟩
  exact ⟨rfl, by simp [World.setCell, Array.getElem?_modify, hb], ⟨rfl, rfl⟩, by simp [World.setCell], fun k _ hk _ => Below.heap_setCell _ _ _ _ hk⟩
 ·refine (Any.Builder_copyCheck_used L X b w (by simp [World.cell?, hb])).mono ?_
  rintro e w' ⟨rfl, rfl⟩
  exact ⟨rfl, hb, ⟨rfl, rfl⟩, Nat.le_refl _, fun _ _ _ _ => rfl⟩
theorem lt_of_row {w : World} {b : Nat} {o : Obj} (h : w.heap[b]? = some o) : b < w.heap.size := by
 rcases Nat.lt_or_ge b w.heap.size with h' | h'
 ·exact h'
 ·simp [Array.getElem?_eq_none h'] at h
theorem ownsRow_kp {b : Nat} {w w' : World} {e T : TypeId} {v : Value} {n : Nat} {xs : List Value} (h : w.ownsRow 0 e 1 v n xs) (k : Kp b none w w') (hb : v.ownBlock ≠ some b) : w'.ownsRow 0 e 1 v n xs := by
 refine ⟨h.1, ?_⟩
 rcases h.2 with h2 | ⟨g, cap, cur, rfl, hB, hg, h3⟩
 ·exact .inl h2
 ·refine .inr ⟨g, cap, cur, rfl, hB, ?_, h3⟩
  rw [k.block g (lt_of_row hg) (by rintro rfl; simp [Value.ownBlock] at hb) (by simp)]; exact hg
theorem Kp.set {b : Nat} (w : World) (o : Nat) (q : Value) : Kp b none w (w.setCell ⟨b, o, none⟩ q) :=
 ⟨⟨rfl, rfl⟩, by simp [World.setCell], fun k _ hk _ => Below.heap_setCell _ _ _ _ hk⟩
theorem Kp.trans {b : Nat} {g : Option Nat} {w w1 w2 : World} (h : Kp b g w w1) (k : Kp b g w1 w2) : Kp b g w w2 :=
 ⟨h.io.trans k.io, Nat.le_trans h.size k.size, fun i hi hb hg => (k.block i (Nat.lt_of_lt_of_le hi h.size) hb hg).trans (h.block i hi hb hg)⟩
theorem Kp.wide {b : Nat} {g : Option Nat} {w w1 : World} (h : Kp b none w w1) : Kp b g w w1 := ⟨h.io, h.size, fun i hi hb _ => h.block i hi hb (by simp)⟩
theorem Kp.grown {b : Nat} {w w1 : World} {g : Option Nat} (h : w.grownBy w1 g) : Kp b g w w1 := ⟨⟨h.os, h.output⟩, h.size, fun i hi _ hg => h.block i hi hg⟩
theorem Kp.freeze {b g : Nat} (w : World) (n : Nat) : Kp b (some g) w (w.freeze ⟨g, 0, none⟩ n) := by
 unfold World.freeze
 split
 ·exact ⟨⟨rfl, rfl⟩, Nat.le_refl _, fun _ _ _ _ => rfl⟩
 ·exact ⟨⟨rfl, rfl⟩, by simp, fun k _ _ hk => by
   simp only [Array.getElem?_modify]
   rw [if_neg (by rintro rfl; exact hk rfl)]⟩
def Where (v v' : Value) (w : World) : Prop := ∀ g, v'.ownBlock = some g → v.ownBlock = some g ∨ w.heap.size ≤ g
theorem run_app_str (w : World) (t u ty e : TypeId) (i : TypeInfo) (ht : P.underlying t = some (.slice e)) (hu : P.underlying u = some .string) (hi : P.info? e = some i) (hz : i.zero = some (.int .u8 0)) (hsize : i.size = 1) (hby : i.bytes = 1)
 (v : Value) (n : Nat) (xs : List Value) (hown : w.ownsRow 0 e 1 v n xs) (s : ByteArray) (h63 : n + s.size ≤ maxLen) (hbytes : n + s.size ≤ 140737488355328) :
 ∃ v' w', (Builtin.append_ #[t, u] ty #[v, .string s]).run P w = .ok v' w' ∧ w'.ownsRow 0 e 1 v' (n + s.size) (xs ++ Lib.strCells s) ∧ w.grownBy w' v.ownBlock ∧ Where v v' w := by
 obtain ⟨v', w', h1, h2, h3, -⟩ := Lib.run_append_own_string (P := P) w 0 t u ty e i ht hu hi hz hsize hby v n xs hown s h63 hbytes (Nat.zero_le _)
 refine ⟨v', w', h1, h2, h3, fun g hg => ?_⟩
 have hsmall : n + s.size ≤ 9223372036854775807 := by simp only [maxLen] at h63; omega
 have hxl : xs.length = n := by simpa using hown.1
 rcases hown.2 with ⟨rfl, rfl⟩ | ⟨g0, cap, cur, rfl, -, hg0, hnc, hcm, hcs, -⟩
 ·have hx : xs = [] := List.eq_nil_of_length_eq_zero hxl
  subst hx
  obtain ⟨v2, w2, q1, q2, -, -⟩ := Lib.run_append_own_string (P := P) w w.heap.size t u ty e i ht hu hi hz hsize hby _ 0 [] (World.ownsRow_nil w _ e 1) s h63 hbytes (Nat.le_refl _)
  rw [h1] at q1
  cases q1
  exact .inr (q2.lt g hg).1
 ·by_cases hroom : n + s.size ≤ cap
  ·have hr := Lib.run_append_room_string (P := P) w t u ty e i ht hu hi hsize g0 n cap cur hg0 s hroom (by omega)
   rw [h1] at hr
   cases hr
   exact .inl hg
  ·have holds : ∀ j u, xs[j]? = some u → w.cell? ((⟨g0, 0, none⟩ : Addr).add j) = some u := hown.cells (g := g0) rfl
   have hr := Lib.run_append_grow_string (P := P) w t u ty e i (.int .u8 0) ht hu hi hz ⟨g0, 0, none⟩ n cap xs (by rw [hsize]; simpa using hxl) holds s (by omega) (by omega) (by rw [hby]; exact growslice_fits (by omega) (by omega))
   rw [h1] at hr
   cases hr
   simp only [Value.ownBlock, Option.some.injEq] at hg
   exact .inr (Nat.le_of_eq hg)
theorem run_app_one (w : World) (t ty e : TypeId) (i : TypeInfo) (ht : P.underlying t = some (.slice e)) (hi : P.info? e = some i) (hz : i.zero = some (.int .u8 0)) (hsize : i.size = 1) (hby : i.bytes = 1)
 (v : Value) (n : Nat) (xs : List Value) (hown : w.ownsRow 0 e 1 v n xs) (a : Addr) (q : Value) (hq : w.cell? a = some q) (h1 : q.oneCell' = true) (h63 : n + 1 ≤ maxLen) (hbytes : n + 1 ≤ 140737488355328) :
 ∃ v' w', (Builtin.append_ #[t, t] ty #[v, .slice (some a) 1 1]).run P w = .ok v' w' ∧ w'.ownsRow 0 e 1 v' (n + 1) (xs ++ [q]) ∧ w.grownBy w' v.ownBlock ∧ Where v v' w := by
 have hnews : ∀ (j : Nat) u, [q][j]? = some u → w.cell? (a.add j) = some u := by
  intro j u hj
  match j, hj with
  | 0, hj => simp at hj; subst hj; simpa [Addr.add] using hq
 have hone : ∀ u ∈ [q], u.oneCell' = true := by intro u hu; simp at hu; subst hu; exact h1
 obtain ⟨v', w', k1, k2, k3, -⟩ := run_append_own (P := P) w 0 t ty e i (.int .u8 0) 1 1 ht hi hz hsize hby rfl (by decide) v n xs hown a 1 1 [q] rfl hnews hone h63 (by omega) (Nat.zero_le _)
 refine ⟨v', w', k1, k2, k3, fun g hg => ?_⟩
 have hsmall : n + 1 ≤ 9223372036854775807 := by simp only [maxLen] at h63; omega
 have hxl : xs.length = n := by simpa using hown.1
 rcases hown.2 with ⟨rfl, rfl⟩ | ⟨g0, cap, cur, rfl, -, hg0, hnc, hcm, hcs, -⟩
 ·have hx : xs = [] := List.eq_nil_of_length_eq_zero hxl
  subst hx
  obtain ⟨v2, w2, q1, q2, -, -⟩ := run_append_own (P := P) w w.heap.size t ty e i (.int .u8 0) 1 1 ht hi hz hsize hby rfl (by decide) _ 0 [] (World.ownsRow_nil w _ e 1) a 1 1 [q] rfl hnews hone h63 (by omega) (Nat.le_refl _)
  rw [k1] at q1
  cases q1
  exact .inr (q2.lt g hg).1
 ·by_cases hroom : n + 1 ≤ cap
  ·have hr := run_append_room (P := P) w t ty e i ht hi g0 n cap cur hg0 a 1 1 [q] (by rw [hsize]; rfl) hnews hone hroom (by rw [hsize]; simp; omega)
   rw [k1] at hr
   cases hr
   exact .inl hg
  ·have holds : ∀ j u, xs[j]? = some u → w.cell? ((⟨g0, 0, none⟩ : Addr).add j) = some u := hown.cells (g := g0) rfl
   have hr := run_append_grow (P := P) w t ty e i (.int .u8 0) ht hi hz ⟨g0, 0, none⟩ n cap xs (by rw [hsize]; simpa using hxl) holds a 1 1 [q] (by rw [hsize]; rfl) hnews (by omega) (by omega) (by rw [hby]; exact growslice_fits (by omega) (by omega))
   rw [k1] at hr
   cases hr
   simp only [Value.ownBlock, Option.some.injEq] at hg
   exact .inr (Nat.le_of_eq hg)
theorem wpList_app_str {w : World} {ops : Array Oper} {rest : List Oper} {o : Oper} {a : Act} {Q : Exit → Act → World → Prop} (hgd : o.guard = none) (sl x : Operand) (t u : TypeId) (ho : o.op = .call { callee := .builtin .append, args := #[sl, x], argTypes := #[t, u] })
 (e : TypeId) (i : TypeInfo) (ht : P.underlying t = some (.slice e)) (hu : P.underlying u = some .string) (hi : P.info? e = some i) (hz : i.zero = some (.int .u8 0)) (hsize : i.size = 1) (hby : i.bytes = 1)
 (v : Value) (n : Nat) (xs : List Value) (hs : a.eval sl = v) (hown : w.ownsRow 0 e 1 v n xs) (s : ByteArray) (hx : a.eval x = .string s) (h63 : n + s.size ≤ maxLen) (hbytes : n + s.size ≤ 140737488355328)
 (h : ∀ v' w', w'.ownsRow 0 e 1 v' (n + s.size) (xs ++ Lib.strCells s) → w.grownBy w' v.ownBlock → Where v v' w → wpList P ops Q rest (a.put o.dst v') w') : wpList P ops Q (o :: rest) a w := by
 refine wpList_plain hgd fun K hK => ?_
 obtain ⟨v', w', hr, h2, h3, h4⟩ := run_app_str (P := P) w t u o.type e i ht hu hi hz hsize hby v n xs hown s h63 hbytes
 unfold Oper.wp execOp
 simp only [ho, resolve, invoke, builtin, Sem.run_bind, Sem.run_pure, Result.andThen_ok, List.map_toArray, List.map_cons, List.map_nil, hs, hx, hr]
 exact hK _ _ (h v' w' h2 h3 h4)
theorem wpList_app_one {w : World} {ops : Array Oper} {rest : List Oper} {o : Oper} {a : Act} {Q : Exit → Act → World → Prop} (hgd : o.guard = none) (sl x : Operand) (t : TypeId) (ho : o.op = .call { callee := .builtin .append, args := #[sl, x], argTypes := #[t, t] })
 (e : TypeId) (i : TypeInfo) (ht : P.underlying t = some (.slice e)) (hi : P.info? e = some i) (hz : i.zero = some (.int .u8 0)) (hsize : i.size = 1) (hby : i.bytes = 1)
 (v : Value) (n : Nat) (xs : List Value) (hs : a.eval sl = v) (hown : w.ownsRow 0 e 1 v n xs) (ad : Addr) (q : Value) (hx : a.eval x = .slice (some ad) 1 1) (hq : w.cell? ad = some q) (h1 : q.oneCell' = true) (h63 : n + 1 ≤ maxLen) (hbytes : n + 1 ≤ 140737488355328)
 (h : ∀ v' w', w'.ownsRow 0 e 1 v' (n + 1) (xs ++ [q]) → w.grownBy w' v.ownBlock → Where v v' w → wpList P ops Q rest (a.put o.dst v') w') : wpList P ops Q (o :: rest) a w := by
 refine wpList_plain hgd fun K hK => ?_
 obtain ⟨v', w', hr, h2, h3, h4⟩ := run_app_one (P := P) w t o.type e i ht hi hz hsize hby v n xs hown ad q hq h1 h63 hbytes
 unfold Oper.wp execOp
 simp only [ho, resolve, invoke, builtin, Sem.run_bind, Sem.run_pure, Result.andThen_ok, List.map_toArray, List.map_cons, List.map_nil, hs, hx, hr]
 exact hK _ _ (h v' w' h2 h3 h4)
def Wrote (T e : TypeId) (b : Nat) (v : Value) (xs : List Value) (w w' : World) : Prop := ∃ v', w'.heap[b]? = some (.cells #[.pointer (some ⟨b, 0, none⟩), v'] T (0, 0)) ∧
 w'.ownsRow 0 e 1 v' xs.length xs ∧ v'.ownBlock ≠ some b ∧ Where v v' w ∧ Kp b v.ownBlock w w'
theorem Wrote.of {T e : TypeId} {b : Nat} {v v' : Value} {xs : List Value} {w w1 w2 : World} (hb : w2.heap[b]? = some (.cells #[.pointer (some ⟨b, 0, none⟩), v] T (0, 0))) (hown : w2.ownsRow 0 e 1 v' xs.length xs) (hne : v.ownBlock ≠ some b) (hblt : b < w1.heap.size) (hw : Where v v' w1) (k : Kp b v.ownBlock w w2) (hsz : w.heap.size ≤ w1.heap.size) :
 Wrote T e b v xs w (w2.setCell ⟨b, 1, none⟩ v') := by
 have hne' : v'.ownBlock ≠ some b := fun h => by
  rcases hw b h with h | h
  ·exact hne h
  ·omega
 refine ⟨v', by simp [World.setCell, Array.getElem?_modify, hb], ownsRow_kp (T := T) hown (Kp.set w2 1 v') hne', hne', fun g hg => (hw g hg).imp id fun h => by omega, k.trans (Kp.set w2 1 v').wide⟩
set_option maxHeartbeats 2000000 in
set_option maxRecDepth 100000 in
theorem bw_string (L : Lays.n166 P ρ) (X : Builder.Extra P ρ) (b : Nat) (p v : Value) (bs : List Value) (s : ByteArray) (w : World) (hp : p = .pointer none ∨ p = .pointer (some ⟨b, 0, none⟩)) (hb : w.heap[b]? = some (.cells #[p, v] (ρ.t 72) (0, 0)))
 (hown : w.ownsRow 0 (ρ.t 5) 1 v bs.length bs) (hne : v.ownBlock ≠ some b) (hlen : bs.length + s.size ≤ 140737488355328) :
 Calls P (ρ.f 166) #[.pointer (some ⟨b, 0, none⟩), .string s] w fun e w' => e = .returned (.tuple #[.int .i64 s.size, .nilIface]) ∧ Wrote (ρ.t 72) (ρ.t 5) b v (bs ++ Lib.strCells s) w w' := by
 obtain ⟨i0, hi, hz0, hz1, hz2⟩ := info_parts X.infoByte
 have mixed := L.mixed
 have t72 := L.t72; have a72 := L.a72; have z72 := L.z72; have v72 := L.v72; have u72 := run_underlying L.t72
 have t70 := L.t70; have a70 := L.a70; have z70 := L.z70; have v70 := L.v70; have u70 := run_underlying L.t70
 have t37 := L.t37; have a37 := L.a37; have z37 := L.z37; have v37 := L.v37; have u37 := run_underlying L.t37
 have t3 := L.t3; have a3 := L.a3; have z3 := L.z3; have v3 := L.v3; have u3 := run_underlying L.t3
 have t9 := L.t9; have a9 := L.a9; have z9 := L.z9; have v9 := L.v9; have u9 := run_underlying L.t9
 have t4 := L.t4; have a4 := L.a4; have z4 := L.z4; have v4 := L.v4; have u4 := run_underlying L.t4
 have t164 := L.t164; have a164 := L.a164; have z164 := L.z164; have v164 := L.v164; have u164 := run_underlying L.t164
 have t5 := X.t5; have a5 := X.a5; have z5 := X.z5; have v5 := X.v5; have u5 := run_underlying X.t5
 have e240 : ∀ args w, (callFunc (ρ.f 240) args).run P w = .ok (.enter (ρ.f 240) args) w := enters_of L.f240 (by kernel_rfl) rfl
 go_enter L.f166, Body.n166_ntmps ρ
 go_wp2_with (go_at_fn (ρ.f 240); refine (bw_check { L with } X.toX72 b p v _ hp hb).mono ?_)
 rintro e w1 ⟨rfl, hbk, k1⟩
 have hown1 := ownsRow_kp (T := ρ.t 72) hown k1 hne
 have c0 : w1.cell? ⟨b, 0, none⟩ = some (.pointer (some ⟨b, 0, none⟩)) := by rw [Lib.cell_of_heap hbk]; rfl
 have c1 : w1.cell? ⟨b, 1, none⟩ = some v := by rw [Lib.cell_of_heap hbk]; rfl
 go_wp2_with (at_builtin; refine wpList_app_str rfl _ _ (ρ.t 37) (ρ.t 9) rfl (ρ.t 5) i0 L.t37 L.t9 hi hz0 hz1 hz2 _ _ _ rfl hown1 s rfl ?c3 ?c4 ?_)
 case c3 => unfold maxLen; omega
 case c4 => omega
 intro v' w2 hown' hgrow hnil
 have hlt := lt_of_row hbk
 have hb2 : w2.heap[b]? = some (.cells #[.pointer (some ⟨b, 0, none⟩), v] (ρ.t 72) (0, 0)) := by
  rw [hgrow.block b hlt (fun e => hne e.symm)]
  exact hbk
 have d0 : w2.cell? ⟨b, 0, none⟩ = some (.pointer (some ⟨b, 0, none⟩)) := by rw [Lib.cell_of_heap hb2]; rfl
 have d1 : w2.cell? ⟨b, 1, none⟩ = some v := by rw [Lib.cell_of_heap hb2]; rfl
 have f1 : w2.frozen? ⟨b, 1, none⟩ = false := Lib.frozen_of_heap hb2 1
 obtain ⟨ao, n', cap, rfl⟩ : ∃ ao n' cap, v' = .slice ao n' cap := by
  rcases hown'.2 with ⟨hv, _⟩ | ⟨g, cap, cur, hv, _⟩
  ·exact ⟨_, _, _, hv⟩
  ·exact ⟨_, _, _, hv⟩
 go_wp2
 go_ret2
 refine ⟨rfl, Wrote.of (w1 := w1) hb2 (by rw [List.length_append, Lib.strCells_length]; exact hown') hne hlt hnil (k1.wide.trans (Kp.grown hgrow)) k1.size⟩
set_option maxHeartbeats 2000000 in
set_option maxRecDepth 100000 in
theorem bw_byte (L : Lays.n167 P ρ) (X : Builder.Extra P ρ) (b : Nat) (p v : Value) (bs : List Value) (c : Int) (w : World) (hp : p = .pointer none ∨ p = .pointer (some ⟨b, 0, none⟩)) (hb : w.heap[b]? = some (.cells #[p, v] (ρ.t 72) (0, 0)))
 (hown : w.ownsRow 0 (ρ.t 5) 1 v bs.length bs) (hne : v.ownBlock ≠ some b) (hlen : bs.length + 1 ≤ 140737488355328) :
 Calls P (ρ.f 167) #[.pointer (some ⟨b, 0, none⟩), .int .u8 c] w fun e w' => e = .returned .nilIface ∧ Wrote (ρ.t 72) (ρ.t 5) b v (bs ++ [.int .u8 c]) w w' := by
 obtain ⟨i0, hi, hz0, hz1, hz2⟩ := info_parts X.infoByte
 have mixed := L.mixed
 have t72 := L.t72; have a72 := L.a72; have z72 := L.z72; have v72 := L.v72; have u72 := run_underlying L.t72
 have t70 := L.t70; have a70 := L.a70; have z70 := L.z70; have v70 := L.v70; have u70 := run_underlying L.t70
 have t5 := L.t5; have a5 := L.a5; have z5 := L.z5; have v5 := L.v5; have u5 := run_underlying L.t5
 have t37 := L.t37; have a37 := L.a37; have z37 := L.z37; have v37 := L.v37; have u37 := run_underlying L.t37
 have t9 := L.t9; have a9 := L.a9; have z9 := L.z9; have v9 := L.v9; have u9 := run_underlying L.t9
 have t4 := L.t4; have a4 := L.a4; have z4 := L.z4; have v4 := L.v4; have u4 := run_underlying L.t4
 have t164 := L.t164; have a164 := L.a164; have z164 := L.z164; have v164 := L.v164; have u164 := run_underlying L.t164
 have e240 : ∀ args w, (callFunc (ρ.f 240) args).run P w = .ok (.enter (ρ.f 240) args) w := enters_of L.f240 (by kernel_rfl) rfl
 go_enter L.f167, Body.n167_ntmps ρ
 go_wp2_with (go_at_fn (ρ.f 240); refine (bw_check { L with } X.toX72 b p v _ hp hb).mono ?_)
 rintro e w1 ⟨rfl, hbk, k1⟩
 have hown1 := ownsRow_kp (T := ρ.t 72) hown k1 hne
 have c0 : w1.cell? ⟨b, 0, none⟩ = some (.pointer (some ⟨b, 0, none⟩)) := by rw [Lib.cell_of_heap hbk]; rfl
 have c1 : w1.cell? ⟨b, 1, none⟩ = some v := by rw [Lib.cell_of_heap hbk]; rfl
 go_wp2_with (at_builtin; refine wpList_app_one rfl _ _ (ρ.t 37) rfl (ρ.t 5) i0 L.t37 hi hz0 hz1 hz2 _ _ _ rfl (hown1.alloc _) ⟨w1.heap.size, 0, none⟩ (.int .u8 c) rfl ?c1 rfl ?c3 ?c4 ?_)
 case c1 => simp
 case c3 => unfold maxLen; omega
 case c4 => omega
 intro v' w2 hown' hgrow hnil
 have hlt := lt_of_row hbk
 have ka : ∀ o, Kp b v.ownBlock w1 (w1.alloc o) := fun o => ⟨⟨rfl, rfl⟩, by simp, fun k hk _ _ => Lib.alloc_old w1 _ k hk⟩
 have hb2 : w2.heap[b]? = some (.cells #[.pointer (some ⟨b, 0, none⟩), v] (ρ.t 72) (0, 0)) := by
  rw [hgrow.block b (by simp; omega) (fun e => hne e.symm), Lib.alloc_old w1 _ b hlt]
  exact hbk
 have d0 : w2.cell? ⟨b, 0, none⟩ = some (.pointer (some ⟨b, 0, none⟩)) := by rw [Lib.cell_of_heap hb2]; rfl
 have d1 : w2.cell? ⟨b, 1, none⟩ = some v := by rw [Lib.cell_of_heap hb2]; rfl
 have f1 : w2.frozen? ⟨b, 1, none⟩ = false := Lib.frozen_of_heap hb2 1
 obtain ⟨g, cap, rfl⟩ : ∃ g cap, v' = .slice (some ⟨g, 0, none⟩) (bs.length + 1) cap := by
  rcases hown'.2 with ⟨_, h0⟩ | ⟨g, cap, cur, hv, _⟩
  ·omega
  ·exact ⟨g, cap, hv⟩
 go_wp2
 go_ret
 exact ⟨rfl, Wrote.of hb2 (by simpa using hown') hne (by simp; omega) hnil (k1.wide.trans ((ka _).trans (Kp.grown hgrow))) (by simp; have := k1.size; omega)⟩
set_option maxHeartbeats 1000000 in
set_option maxRecDepth 100000 in
theorem bw_text (L : Lays.n169 P ρ) (X : Builder.Extra P ρ) (b g cap : Nat) (p : Value) (cur : Array Value) (l : List UInt8) (w : World) (hbk : w.heap[b]? = some (.cells #[p, .slice (some ⟨g, 0, none⟩) l.length cap] (ρ.t 72) (0, 0))) (h0 : l ≠ [])
 (hg : w.heap[g]? = some (.cells cur (ρ.t 5) (0, 0))) (hown : w.ownsRow 0 (ρ.t 5) 1 (.slice (some ⟨g, 0, none⟩) l.length cap) l.length (Lib.byteCells l)) (hc0 : cap ≠ 0) (hsz : cur.size ≤ maxLen) (hcs : l.length ≤ cur.size) :
 Calls P (ρ.f 169) #[.pointer (some ⟨b, 0, none⟩)] w fun e w' => e = .returned (.string ⟨l.toArray⟩) ∧ Kp b (some g) w w' := by
 have c1 : w.drew.cell? ⟨b, 1, none⟩ = some (.slice (some ⟨g, 0, none⟩) l.length cap) := by
  have : w.drew.heap[b]? = some (.cells #[p, .slice (some ⟨g, 0, none⟩) l.length cap] (ρ.t 72) (0, 0)) := hbk
  rw [Lib.cell_of_heap this]; rfl
 have hSD : (Builtin.unsafeSliceData_ #[(ρ.t 37)] (ρ.t 127) #[.slice (some ⟨g, 0, none⟩) l.length cap]).run P w.drew = .ok (.pointer (some ⟨g, 0, none⟩)) w.drew :=
  Lib.run_unsafeSliceData_row _ _ _ _ _ _ hc0
 have hUS : (Builtin.unsafeString_ #[(ρ.t 127), (ρ.t 3)] (ρ.t 9) #[.pointer (some ⟨g, 0, none⟩), .int .i64 l.length]).run P w.drew = .ok (.string ⟨l.toArray⟩) (w.drew.freeze ⟨g, 0, none⟩ l.length) := by
  refine Lib.run_unsafeString_row w.drew (ρ.t 127) (ρ.t 3) (ρ.t 9) (ρ.t 5) L.t127 X.cellsByte g cur.size (by have hg' : w.drew.heap[g]? = some (.cells cur (ρ.t 5) (0, 0)) := hg; simp [World.shape?, hg']) l h0 (by omega) (by unfold maxLen at hsz; omega) ?_
  intro j x hx
  have := hown.cells (g := g) rfl j (.int .u8 x.toNat) (by simp [Lib.byteCells, hx])
  exact this
 clear hc0
 have mixed := L.mixed
 have t72 := L.t72; have a72 := L.a72; have z72 := L.z72; have v72 := L.v72; have u72 := run_underlying L.t72
 have t70 := L.t70; have a70 := L.a70; have z70 := L.z70; have v70 := L.v70; have u70 := run_underlying L.t70
 have t37 := L.t37; have a37 := L.a37; have z37 := L.z37; have v37 := L.v37; have u37 := run_underlying L.t37
 have t127 := L.t127; have a127 := L.a127; have z127 := L.z127; have v127 := L.v127; have u127 := run_underlying L.t127
 have t3 := L.t3; have a3 := L.a3; have z3 := L.z3; have v3 := L.v3; have u3 := run_underlying L.t3
 have t9 := L.t9; have a9 := L.a9; have z9 := L.z9; have v9 := L.v9; have u9 := run_underlying L.t9
 have t5 := X.t5; have a5 := X.a5; have z5 := X.z5; have v5 := X.v5; have u5 := run_underlying X.t5
 go_enter L.f169, Body.n169_ntmps ρ
 go_wp2
 go_region_o
 all_goals (go_wp2; go_ret; exact ⟨rfl, Kp.trans (⟨⟨rfl, rfl⟩, Nat.le_refl _, fun _ _ _ _ => rfl⟩ : Kp b (some g) w w.drew) (Kp.freeze w.drew l.length)⟩)
end Go.Xl
namespace Go.Xl
open Nat renaming reduceEqDiff → rE, reduceAdd → rA, reduceLeDiff → rL
open Go.Proofs Go.Shelf Go.RowKit
variable {P : Program} {ρ : Ren} {F : Ids}
theorem decL_eq (n : Nat) : decL n = Lib.decDigits n := by
 induction n using Nat.strongRecOn with
 | ind n ih =>
   rw [decL, Lib.decDigits]
   split
   ·rfl
   ·rename_i h; rw [ih (n / 10) (by omega)]
theorem sim_after {M : FMem} {H H' : Heap} {w w' : World} (s : Sim M H w) (io : IoEq w w') (size : w.heap.size ≤ w'.heap.size) (own : ∀ k, k < w.heap.size → H.get k = none → w'.heap[k]? = w.heap[k]?)
 (hM : ∀ b, H.get b ≠ none → ∀ o, M b o = none) (new : ∀ b o, H'.get b = some o → ObjSim M w' b o) (fresh : ∀ b, H'.get b ≠ none → H.get b ≠ none ∨ w.heap.size ≤ b) : Sim M H' w' ∧ Trans M H w M H' w' := by
 refine ⟨⟨fun b o v h => ?_, new⟩, FMem.le_refl M, size, fun b hb hn => ⟨own b hb hn, fun _ => rfl⟩, fresh, io⟩
 have hn : H.get b = none := by
  rcases Option.eq_none_or_eq_some (H.get b) with e | ⟨q, e⟩
  ·exact e
  ·rw [hM b (by simp [e]) o] at h; simp at h
 have := s.mem b o v h
 rw [cell?_mk] at *
 rw [own b (s.mem_lt h) hn]; exact this
theorem sim_below {M : FMem} {w w' : World} (s : Sim M .empty w) (h : Below w.heap.size w w') : Sim M .empty w' ∧ Trans M .empty w M .empty w' :=
 sim_after s ⟨h.os, h.output⟩ h.size (fun k hk _ => h.block k hk) (fun b hb => by simp at hb) (fun b o hb => by simp at hb) (fun b hb => by simp at hb)
theorem repL1 {M : FMem} {x : AC} {vs : List Value} (h : RepL M [x] vs) : ∃ v, vs = [v] ∧ Rep M x v := by
 obtain ⟨hl, hr⟩ := h
 match vs, hl with
 | [v], _ => exact ⟨v, rfl, hr 0 _ _ rfl rfl⟩
theorem repL2 {M : FMem} {x y : AC} {vs : List Value} (h : RepL M [x, y] vs) : ∃ v u, vs = [v, u] ∧ Rep M x v ∧ Rep M y u := by
 obtain ⟨hl, hr⟩ := h
 match vs, hl with
 | [v, u], _ => exact ⟨v, u, rfl, hr 0 _ _ rfl rfl, hr 1 _ _ rfl rfl⟩
theorem joinL_eq (rows : List (List UInt8)) : Lib.join rows (bn [32]) = joinL rows := by
 cases rows with
 | nil => rfl
 | cons r rs =>
   rw [Lib.join_cons, joinL_cons, Lib.joinTail]
   congr 1
structure Lay (P : Program) (F : Ids) (ρ : Ren) : Prop where
 X : Builder.Extra P ρ
 l156 : Lays.n156 P ρ
 l166 : Lays.n166 P ρ
 l167 : Lays.n167 P ρ
 l169 : Lays.n169 P ρ
 l170 : Lays.n170 P ρ
 l171 : Lays.n171 P ρ
 f156 : F.strings_Join = ρ.f 156
 f166 : F.strings_Builder_WriteString = ρ.f 166
 f167 : F.strings_Builder_WriteByte = ρ.f 167
 f169 : F.strings_Builder_String = ρ.f 169
 f170 : F.strings_Builder_Len = ρ.f 170
 f171 : F.strconv_Itoa = ρ.f 171
 t72 : F.T_strings_Builder = ρ.t 72
 t5 : F.T_uint8 = ρ.t 5
structure BW (ρ : Ren) (M : FMem) (w : World) (b : Nat) (l : List UInt8) (x : AC) (pv xv : Value) : Prop where
 p : pv = .pointer none ∨ pv = .pointer (some ⟨b, 0, none⟩)
 heap : w.heap[b]? = some (.cells #[pv, xv] (ρ.t 72) (0, 0))
 own : w.ownsRow 0 (ρ.t 5) 1 xv (Lib.byteCells l).length (Lib.byteCells l)
 ne : xv.ownBlock ≠ some b
 blk : ∀ g, xv.ownBlock = some g → blkOf x g
theorem bld_world (Y : Lay P F ρ) {M : FMem} {H : Heap} {w : World} {b : Nat} {l : List UInt8} {x : AC} (s : Sim M H w) (hB : Bld F H b l x) : ∃ pv xv, BW ρ M w b l x pv xv := by
 obtain ⟨p, hp, hb⟩ := hB.obj
 obtain ⟨vs, h1, h2, h3, -⟩ := s.obj b _ hb
 rw [Y.t72] at h1
 obtain ⟨vs⟩ := vs
 match vs, h2 with
 | [pv, xv], _ =>
   have rp := h3 0 p pv rfl rfl
   have rx := h3 1 x xv rfl rfl
   have hpv : pv = .pointer none ∨ pv = .pointer (some ⟨b, 0, none⟩) := by
    rcases hp with rfl | rfl
    ·exact .inl rp.yyn.1
    ·exact .inr rp.ptr_inv
   suffices h : w.ownsRow 0 (ρ.t 5) 1 xv (Lib.byteCells l).length (Lib.byteCells l) ∧ xv.ownBlock ≠ some b ∧ ∀ g, xv.ownBlock = some g → blkOf x g from ⟨pv, xv, hpv, h1, h.1, h.2.1, h.2.2⟩
   ·rcases hB.row with ⟨rfl, rfl⟩ | ⟨g, c, cs, rfl, hg, hgg, hlc, hcm, hcl, htk⟩
    ·obtain ⟨rfl, -⟩ := rx.yyn
     exact ⟨⟨rfl, .inl ⟨rfl, rfl⟩⟩, by simp [Value.ownBlock], fun g h => by simp [Value.ownBlock] at h⟩
    ·obtain ⟨rfl, -⟩ := rx.yyn
     obtain ⟨cur, k1, k2, k3, -⟩ := s.obj g _ hgg
     rw [Y.t5] at k1
     refine ⟨?_, by simpa [Value.ownBlock] using hg, fun g' h => by simp only [Value.ownBlock, Option.some.injEq] at h; subst h; exact ⟨_, _, rfl⟩⟩
     refine ⟨by simp, .inr ⟨g, c, cur, by rw [Lib.byteCells_length], Nat.zero_le _, k1, by rw [Lib.byteCells_length]; exact hlc, hcm, by omega, ?_⟩⟩
     rw [Lib.byteCells_length, Nat.mul_one]
     apply List.ext_getElem?
     intro j
     by_cases hj : j < l.length
     ·have e1 : cs[j]? = some (byteC l[j]) := by
       have := congrArg (fun q => q[j]?) htk
       simp only [List.getElem?_take_of_lt hj, List.getElem?_map, List.getElem?_eq_getElem hj, Option.map_some] at this
       exact this
      have hjc : j < cur.size := by omega
      have e2 := (k3 j _ (cur[j]) e1 (Array.getElem?_eq_getElem hjc)).yyn.1
      rw [List.getElem?_take_of_lt hj, Array.getElem?_toList, Array.getElem?_eq_getElem hjc, e2]
      simp [Lib.byteCells, hj]
     ·rw [List.getElem?_eq_none (by simp; omega), List.getElem?_eq_none (by rw [Lib.byteCells_length]; omega)]
theorem bld_none {M : FMem} {H : Heap} {w : World} {b : Nat} {l : List UInt8} {x : AC} (s : Sim M H w) (hB : Bld F H b l x) (ho : ∀ d, H.get d ≠ none → bldBlk b x d) : ∀ d, H.get d ≠ none → ∀ o, M d o = none := by
 intro d hd o
 obtain ⟨t, cs, h⟩ := hB.mem (ho d hd)
 obtain ⟨vs, -, -, -, h4⟩ := s.obj d _ h
 exact h4 o
theorem bld_wrote (Y : Lay P F ρ) {M : FMem} {H : Heap} {w w' : World} {b : Nat} {l l' : List UInt8} {x : AC} {pv xv : Value} (s : Sim M H w) (hB : Bld F H b l x) (ho : ∀ d, H.get d ≠ none → bldBlk b x d) (hw : BW ρ M w b l x pv xv)
 (h : Wrote (ρ.t 72) (ρ.t 5) b xv (Lib.byteCells l') w w') : ∃ H', (∃ x', Bld F H' b l' x' ∧ ∀ d, H'.get d ≠ none → bldBlk b x' d) ∧ Sim M H' w' ∧ Trans M H w M H' w' := by
 obtain ⟨v', h1, h2, h3, h4, k⟩ := h
 have hMn := bld_none s hB ho
 have hbH : H.get b ≠ none := by obtain ⟨t, cs, h⟩ := hB.mem (.inl rfl); rw [h]; simp
 have own : ∀ k, k < w.heap.size → H.get k = none → w'.heap[k]? = w.heap[k]? := fun i hi hn => k.block i hi (by rintro rfl; exact hbH hn) fun e => by
  obtain ⟨t, cs, h⟩ := hB.mem (.inr (hw.blk i e.symm))
  rw [h] at hn; simp at hn
 have ob : ∀ x' : AC, Rep M x' v' → ObjSim M w' b (.typed F.T_strings_Builder [.ptr b 0, x']) := fun x' hr =>
  ⟨#[.pointer (some ⟨b, 0, none⟩), v'], by rw [Y.t72]; exact h1, rfl, fun j y v hy hv => by
   match j, hy, hv with
   | 0, hy, hv => simp at hy hv; subst hy hv; exact .ptr
   | 1, hy, hv => simp at hy hv; subst hy hv; exact hr, hMn b hbH⟩
 rcases h2.2 with ⟨rfl, hn⟩ | ⟨g, cap, cur, rfl, -, hg, hnc, hcm, hcs, htk⟩
 ·have hl' : l' = [] := by rw [Lib.byteCells_length] at hn; exact List.eq_nil_of_length_eq_zero hn
  subst hl'
  refine ⟨one b (.typed F.T_strings_Builder [.ptr b 0, NIL]), ⟨NIL, ⟨⟨_, .inr rfl, yyh _ _⟩, .inl ⟨rfl, rfl⟩⟩, fun d hd => ?_⟩, sim_after s k.io k.size own hMn (fun d o hd => ?_) (fun d hd => ?_)⟩
  ·by_cases e : d = b
   ·exact .inl e
   ·rw [get_one_ne _ e] at hd; simp at hd
  ·by_cases e : d = b
   ·subst e; rw [yyh] at hd; cases hd; exact ob NIL (.lit trivial)
   ·rw [get_one_ne _ e] at hd; simp at hd
  ·by_cases e : d = b
   ·subst e; exact .inl hbH
   ·rw [get_one_ne _ e] at hd; simp at hd
 ·have hgb : g ≠ b := fun e => h3 (by rw [e]; rfl)
  rw [Lib.byteCells_length] at hnc htk
  simp only [Nat.mul_one] at hcs htk
  have hMg : ∀ o, M g o = none := by
   rcases h4 g rfl with e | e
   ·exact hMn g (by obtain ⟨t, cs, h⟩ := hB.mem (.inr (hw.blk g e)); rw [h]; simp)
   ·exact fun o => s.mem_free e
  have hmem : ∀ d, ((one b (.typed F.T_strings_Builder [.ptr b 0, .lit (.slice (some ⟨g, 0, none⟩) l'.length cap)])).set g (.typed F.T_uint8 (l'.map byteC ++ List.replicate (cap - l'.length) .junk))).get d ≠ none → d = b ∨ d = g := by
   intro d hd
   by_cases e : d = g
   ·exact .inr e
   ·rw [Heap.zza _ _ e] at hd
    by_cases e2 : d = b
    ·exact .inl e2
    ·rw [get_one_ne _ e2] at hd; simp at hd
  refine ⟨(one b (.typed F.T_strings_Builder [.ptr b 0, .lit (.slice (some ⟨g, 0, none⟩) l'.length cap)])).set g (.typed F.T_uint8 (l'.map byteC ++ List.replicate (cap - l'.length) .junk)),
   ⟨_, ⟨⟨_, .inr rfl, by rw [Heap.zza _ _ (Ne.symm hgb)]; exact yyh _ _⟩, .inr ⟨g, cap, _, rfl, hgb, Heap.zzb _ _ _, hnc, hcm, by simp; omega, by rw [List.take_left' (by simp)]⟩⟩, fun d hd => ?_⟩, sim_after s k.io k.size own hMn (fun d o hd => ?_) (fun d hd => ?_)⟩
  ·rcases hmem d hd with e | e
   ·exact .inl e
   ·subst e; exact .inr ⟨_, _, rfl⟩
  ·rcases hmem d (by rw [hd]; simp) with e | e
   ·subst e
    rw [Heap.zza _ _ (Ne.symm hgb), yyh] at hd
    cases hd
    refine ob _ ?_
    rw [← Lib.byteCells_length l']; exact .lit trivial
   ·subst e
    rw [Heap.zzb] at hd
    cases hd
    refine ⟨cur, by rw [Y.t5]; exact hg, by simp; omega, fun j y v hy hv => ?_, hMg⟩
    by_cases hj : j < l'.length
    ·rw [List.getElem?_append_left (by simpa using hj)] at hy
     simp only [List.getElem?_map, List.getElem?_eq_getElem hj, Option.map_some, Option.some.injEq] at hy
     have e := congrArg (fun q => q[j]?) htk
     simp only [List.getElem?_take_of_lt hj, Array.getElem?_toList, hv] at e
     simp [Lib.byteCells, hj] at e
     subst hy e
     have hu := (l'[j]).toNat_lt
     exact .lit (by simp only [okv, IntKind.min, IntKind.max, IntKind.bits, IntKind.signed]; constructor <;> simp <;> omega)
    ·rw [List.getElem?_append_right (by simpa using hj)] at hy
     have := List.eq_of_mem_replicate (List.mem_of_getElem? hy)
     subst this
     exact .junk
  ·rcases hmem d hd with e | e
   ·subst e; exact .inl hbH
   ·subst e
    rcases h4 d rfl with e | e
    ·exact .inl (by obtain ⟨t, cs, h⟩ := hB.mem (.inr (hw.blk d e)); rw [h]; simp)
    ·exact .inr e
theorem shf_of (Y : Lay P F ρ) : Shf P F where
 itoa := by
  intro i hi M w vs s r
  obtain ⟨v, rfl, hv⟩ := repL1 r
  obtain ⟨rfl, -⟩ := hv.yyn
  rw [Y.f171]
  refine (Any.strconv_Itoa_small Y.l171 i hi w).mono ?_
  rintro e w' ⟨rfl, rfl⟩
  refine ⟨_, _, M, .empty, rfl, ?_, s, Trans.refl _ _ _, rfl, rfl⟩
  rw [decL_eq]
  have := decL_len 6 i (by omega) (by omega)
  rw [decL_eq] at this
  exact .lit (by show (ofL _).size ≤ LIM; rw [ofL_size]; simp [LIM]; omega)
 join := by
  intro rows tok hr hl M w vs s r
  obtain ⟨v, u, rfl, hv, hu⟩ := repL2 r
  obtain ⟨rfl, -⟩ := hu.yyn
  have out : Rep M (Tx (joinL rows)) (.string ⟨(joinL rows).toArray⟩) := .lit (by show (ofL _).size ≤ LIM; rw [ofL_size]; simp [LIM]; omega)
  rw [Y.f156]
  by_cases hz : rows = []
  ·subst hz
   obtain ⟨a, c, rfl⟩ : ∃ a c, v = .slice a 0 c := by
    cases hv with
    | sl0 => exact ⟨_, _, rfl⟩
    | sl vs hlim hcap hs hm hr ht => exact ⟨_, _, rfl⟩
   refine (Any.strings_Join_none Y.l156 Y.X a c _ w).mono ?_
   rintro e w' ⟨rfl, rfl⟩
   exact ⟨_, _, M, .empty, rfl, out, s, Trans.refl _ _ _, rfl, rfl⟩
  ·have hgen : ∃ bk o c, v = .slice (some ⟨bk, o, none⟩) rows.length c ∧ rows.length ≤ c ∧ ∀ (j : Nat) x, rows[j]? = some x → M bk (o + j) = some (.string (ofL x)) := by
    generalize hes : rows.map (fun r => [Tx r]) = es at hv
    cases hv with
    | sl0 => simp at hes; exact absurd hes hz
    | sl vs hlim hcap hs hm hr ht =>
      have hle : es.length = rows.length := by rw [← hes]; simp
      rename_i bk off cap
      refine ⟨bk, off, cap, by rw [hle], by omega, fun j x hx => ?_⟩
      have e : es[j]? = some [Tx x] := by rw [← hes]; simp [hx]
      have h1 := hm j 0 _ _ e rfl
      have h2 := (hr j 0 _ _ e rfl).yyn.1
      rw [h2, Nat.mul_one, Nat.add_zero] at h1
      exact h1
   obtain ⟨bk, o, c, rfl, hcap, hcell⟩ := hgen
   have hlt : bk < w.heap.size := by
    cases rows with
    | nil => exact absurd rfl hz
    | cons r rs => exact s.mem_lt (hcell 0 _ rfl)
   have hmap : (rows.map ofL).map (fun x => x.data.toList) = rows := by rw [List.map_map]; exact List.map_id' rows
   have key := Any.strings_Join Y.l156 Y.X bk o c (rows.map ofL) (ofL (bn [32])) w (fun j x hx => by
    simp only [List.getElem?_map, Option.map_eq_some_iff] at hx
    obtain ⟨y, hy, rfl⟩ := hx
    exact s.mem _ _ _ (hcell j y hy)) hlt (by rw [List.length_map]; omega) (by rw [List.length_map]; exact hcap) (by
    rw [hmap]; show (Lib.join rows (bn [32])).length ≤ _; rw [joinL_eq]; omega)
   rw [List.length_map, hmap] at key
   refine key.mono ?_
   rintro e w' ⟨rfl, hb⟩
   obtain ⟨s', t'⟩ := sim_below s hb
   refine ⟨_, _, M, .empty, rfl, ?_, s', t', rfl, rfl⟩
   show Rep M (Tx (joinL rows)) (.string ⟨(Lib.join rows (bn [32])).toArray⟩)
   rw [joinL_eq]; exact out
 ws := by
  intro b l q hlen H x hB ho M w vs s r
  obtain ⟨v, u, rfl, hv, hu⟩ := repL2 r
  obtain rfl := hv.ptr_inv
  obtain ⟨rfl, -⟩ := hu.yyn
  obtain ⟨pv, xv, hw⟩ := bld_world Y s hB
  have hsz : (ofL q).size = q.length := ofL_size q
  rw [Y.f166]
  refine (bw_string Y.l166 Y.X b pv xv (Lib.byteCells l) (ofL q) w hw.p hw.heap hw.own hw.ne (by rw [Lib.byteCells_length, hsz]; omega)).mono ?_
  rintro e w' ⟨rfl, hwr⟩
  obtain ⟨H', h1, h2, h3⟩ := bld_wrote (l' := l ++ q) Y s hB ho hw (by
   have : Lib.byteCells (l ++ q) = Lib.byteCells l ++ Lib.strCells (ofL q) := by simp [Lib.byteCells, Lib.strCells, ofL]
   rw [this]; exact hwr)
  exact ⟨.junk, _, M, H', rfl, .junk, h2, h3, h1⟩
 wb := by
  intro b l c hlen H x hB ho M w vs s r
  obtain ⟨v, u, rfl, hv, hu⟩ := repL2 r
  obtain rfl := hv.ptr_inv
  obtain ⟨rfl, -⟩ := hu.yyn
  obtain ⟨pv, xv, hw⟩ := bld_world Y s hB
  rw [Y.f167]
  refine (bw_byte Y.l167 Y.X b pv xv (Lib.byteCells l) c.toNat w hw.p hw.heap hw.own hw.ne (by rw [Lib.byteCells_length]; omega)).mono ?_
  rintro e w' ⟨rfl, hwr⟩
  obtain ⟨H', h1, h2, h3⟩ := bld_wrote (l' := l ++ [c]) Y s hB ho hw (by
   have : Lib.byteCells (l ++ [c]) = Lib.byteCells l ++ [.int .u8 c.toNat] := by simp [Lib.byteCells]
   rw [this]; exact hwr)
  exact ⟨.junk, _, M, H', rfl, .junk, h2, h3, h1⟩
 len := by
  intro b l H x hl hB ho M w vs s r
  obtain ⟨v, rfl, hv⟩ := repL1 r
  obtain rfl := hv.ptr_inv
  obtain ⟨pv, xv, hw⟩ := bld_world Y s hB
  have hbl : Lib.BuilderAt (ρ.t 72) (ρ.t 5) 0 b pv (Lib.byteCells l) w := ⟨Nat.zero_le _, xv, hw.heap, hw.own, hw.ne⟩
  rw [Y.f170]
  refine (Any.Builder_Len Y.l170 0 b (Lib.byteCells l) w (by
   rcases hw.p with e | e
   ·exact .inl (e ▸ hbl)
   ·exact .inr (e ▸ hbl))).mono ?_
  rintro e w' ⟨rfl, rfl⟩
  refine ⟨_, _, M, H, rfl, ?_, s, Trans.refl _ _ _, rfl, rfl⟩
  rw [Lib.byteCells_length]
  exact .lit (by simp only [okv, IntKind.min, IntKind.max, IntKind.bits, IntKind.signed]; constructor <;> simp <;> omega)
 str := by
  intro b l H x hl hB ho M w vs s r
  obtain ⟨v, rfl, hv⟩ := repL1 r
  obtain rfl := hv.ptr_inv
  obtain ⟨pv, xv, hw⟩ := bld_world Y s hB
  have hMn := bld_none s hB ho
  have hbH : H.get b ≠ none := by obtain ⟨t, cs, h⟩ := hB.mem (.inl rfl); rw [h]; simp
  have out : Rep M (Tx l) (.string ⟨l.toArray⟩) := .lit (by show (ofL _).size ≤ LIM; rw [ofL_size]; simp [LIM]; omega)
  have fin : ∀ w', IoEq w w' → w.heap.size ≤ w'.heap.size → (∀ k, k < w.heap.size → H.get k = none → w'.heap[k]? = w.heap[k]?) → Sim M .empty w' ∧ Trans M H w M .empty w' := fun w' h1 h2 h3 =>
   sim_after s h1 h2 h3 hMn (fun d o hd => by simp at hd) (fun d hd => by simp at hd)
  rw [Y.f169]
  rcases hw.own.2 with ⟨hx, hn⟩ | ⟨g, cap, cur, hx, -, hg, hnc, hcm, hcs, htk⟩
  ·have hl0 : l = [] := by rw [Lib.byteCells_length] at hn; exact List.eq_nil_of_length_eq_zero hn
   subst hl0
   have hh := hw.heap
   rw [hx] at hh
   refine (Any.Builder_String_nil Y.l169 Y.X w.heap.size b pv w hh).mono ?_
   rintro e w' ⟨rfl, hb⟩
   obtain ⟨s', t'⟩ := fin w' ⟨hb.os, hb.output⟩ hb.size (fun k hk _ => hb.block k hk)
   exact ⟨_, _, M, .empty, rfl, out, s', t', rfl, rfl⟩
  ·have hh := hw.heap
   rw [hx] at hh
   rw [Lib.byteCells_length] at hh
   simp only [Nat.mul_one] at hcs
   by_cases hl0 : l = []
   ·subst hl0
    by_cases hc0 : cap = 0
    ·subst hc0
     refine (Any.Builder_String_noroom Y.l169 Y.X w.heap.size b g pv cur w (Nat.le_refl _) hh hg).mono ?_
     rintro e w' ⟨rfl, hb⟩
     obtain ⟨s', t'⟩ := fin w' ⟨hb.os, hb.output⟩ hb.size (fun k hk _ => hb.block k hk)
     exact ⟨_, _, M, .empty, rfl, out, s', t', rfl, rfl⟩
    ·refine (Any.Builder_String_room Y.l169 Y.X w.heap.size b g cap pv w hc0 hh).mono ?_
     rintro e w' ⟨rfl, hb⟩
     obtain ⟨s', t'⟩ := fin w' ⟨hb.os, hb.output⟩ hb.size (fun k hk _ => hb.block k hk)
     exact ⟨_, _, M, .empty, rfl, out, s', t', rfl, rfl⟩
   ·have hlp : 0 < l.length := List.length_pos_iff.2 hl0
    have ho2 := hw.own
    rw [hx, Lib.byteCells_length] at ho2
    rw [Lib.byteCells_length] at hnc
    refine (bw_text Y.l169 Y.X b g cap pv cur l w hh hl0 hg ho2 (by omega) (by omega) (by omega)).mono ?_
    rintro e w' ⟨rfl, hk⟩
    obtain ⟨s', t'⟩ := fin w' hk.io hk.size (fun k hk1 hn => hk.block k hk1 (by rintro rfl; exact hbH hn) fun e => by
     obtain ⟨t, cs, h⟩ := hB.mem (.inr (hw.blk k (by rw [hx]; exact e.symm)))
     rw [h] at hn; simp at hn)
    exact ⟨_, _, M, .empty, rfl, out, s', t', rfl, rfl⟩
end Go.Xl
namespace Go.Xl
open Nat renaming reduceEqDiff → rE, reduceAdd → rA, reduceLeDiff → rL
open Go.Proofs Go.Shelf
def lren : Ren := ⟨fun | 129 => 118 | 156 => 47 | 165 => 77 | 166 => 46 | 167 => 48 | 169 => 13 | 170 => 12 | 171 => 53 | 240 => 76 | 241 => 95 | 243 => 79 | 246 => 96 | 276 => 94 | 277 => 107 | 283 => 108 | 284 => 109 | 285 => 110 | 286 => 111 | 317 => 117 | 318 => 119 | 319 => 120 | 320 => 121 | 337 => 122 | 338 => 123 | n => n, fun | 0 => 0 | 2 => 2 | 3 => 3 | 4 => 4 | 5 => 5 | 9 => 9 | 20 => 20 | 31 => 77 | 37 => 22 | 46 => 183 | 51 => 180 | 53 => 169 | 70 => 34 | 72 => 36 | 75 => 91 | 76 => 92 | 80 => 52 | 127 => 70 | 164 => 161 | 171 => 168 | 173 => 172 | 212 => 179 | 213 => 181 | 232 => 186 | 233 => 187 | n => n, fun | 17 => 1 | 18 => 2 | 19 => 3 | n => n⟩
theorem lextra : Builder.Extra Tryz.prog lren :=
 { sizeBuilder := by kernel_rfl, liesBuilder := by kernel_rfl, t5 := Tryz.underlying5, a5 := Tryz.isAgg5, z5 := Tryz.sizeOf5, v5 := Tryz.zeroValue5, infoByte := by kernel_rfl, cellsByte := by kernel_rfl, sizeByte := by kernel_rfl, neB5 := by decide }
theorem lay156 : Lays.n156 Tryz.prog lren :=
 { mixed := by kernel_rfl, f156 := Tryz.func47.trans (congrArg some (by kernel_rfl)), f165 := Tryz.func77.trans (congrArg some (by kernel_rfl)), f166 := Tryz.func46.trans (congrArg some (by kernel_rfl)), f169 := Tryz.func13.trans (congrArg some (by kernel_rfl)), f240 := Tryz.func76.trans (congrArg some (by kernel_rfl)), f241 := Tryz.func95.trans (congrArg some (by kernel_rfl)), f276 := Tryz.func94.trans (congrArg some (by kernel_rfl)), f277 := Tryz.func107.trans (congrArg some (by kernel_rfl)), t0 := Tryz.underlying0, a0 := Tryz.isAgg0, z0 := Tryz.sizeOf0, v0 := Tryz.zeroValue0, t3 := Tryz.underlying3, a3 := Tryz.isAgg3, z3 := Tryz.sizeOf3, v3 := Tryz.zeroValue3, t4 := Tryz.underlying4, a4 := Tryz.isAgg4, z4 := Tryz.sizeOf4, v4 := Tryz.zeroValue4, t9 := Tryz.underlying9, a9 := Tryz.isAgg9, z9 := Tryz.sizeOf9, v9 := Tryz.zeroValue9, t20 := Tryz.underlying20, a20 := Tryz.isAgg20, z20 := Tryz.sizeOf20, v20 := Tryz.zeroValue20, t31 := Tryz.underlying77, a31 := Tryz.isAgg77, z31 := Tryz.sizeOf77, v31 := Tryz.zeroValue77, t37 := Tryz.underlying22, a37 := Tryz.isAgg22, z37 := Tryz.sizeOf22, v37 := Tryz.zeroValue22, t70 := Tryz.underlying34, a70 := Tryz.isAgg34, z70 := Tryz.sizeOf34, v70 := Tryz.zeroValue34, t72 := Tryz.underlying36, a72 := Tryz.isAgg36, z72 := Tryz.sizeOf36, v72 := Tryz.zeroValue36, t75 := Tryz.underlying91, a75 := Tryz.isAgg91, z75 := Tryz.sizeOf91, v75 := Tryz.zeroValue91, t76 := Tryz.underlying92, a76 := Tryz.isAgg92, z76 := Tryz.sizeOf92, v76 := Tryz.zeroValue92, t127 := Tryz.underlying70, a127 := Tryz.isAgg70, z127 := Tryz.sizeOf70, v127 := Tryz.zeroValue70, t164 := Tryz.underlying161, a164 := Tryz.isAgg161, z164 := Tryz.sizeOf161, v164 := Tryz.zeroValue161 }
theorem lay166 : Lays.n166 Tryz.prog lren :=
 { mixed := by kernel_rfl, f166 := Tryz.func46.trans (congrArg some (by kernel_rfl)), f240 := Tryz.func76.trans (congrArg some (by kernel_rfl)), f276 := Tryz.func94.trans (congrArg some (by kernel_rfl)), t0 := Tryz.underlying0, a0 := Tryz.isAgg0, z0 := Tryz.sizeOf0, v0 := Tryz.zeroValue0, t3 := Tryz.underlying3, a3 := Tryz.isAgg3, z3 := Tryz.sizeOf3, v3 := Tryz.zeroValue3, t4 := Tryz.underlying4, a4 := Tryz.isAgg4, z4 := Tryz.sizeOf4, v4 := Tryz.zeroValue4, t9 := Tryz.underlying9, a9 := Tryz.isAgg9, z9 := Tryz.sizeOf9, v9 := Tryz.zeroValue9, t20 := Tryz.underlying20, a20 := Tryz.isAgg20, z20 := Tryz.sizeOf20, v20 := Tryz.zeroValue20, t37 := Tryz.underlying22, a37 := Tryz.isAgg22, z37 := Tryz.sizeOf22, v37 := Tryz.zeroValue22, t70 := Tryz.underlying34, a70 := Tryz.isAgg34, z70 := Tryz.sizeOf34, v70 := Tryz.zeroValue34, t72 := Tryz.underlying36, a72 := Tryz.isAgg36, z72 := Tryz.sizeOf36, v72 := Tryz.zeroValue36, t75 := Tryz.underlying91, a75 := Tryz.isAgg91, z75 := Tryz.sizeOf91, v75 := Tryz.zeroValue91, t164 := Tryz.underlying161, a164 := Tryz.isAgg161, z164 := Tryz.sizeOf161, v164 := Tryz.zeroValue161 }
theorem lay167 : Lays.n167 Tryz.prog lren :=
 { mixed := by kernel_rfl, f167 := Tryz.func48.trans (congrArg some (by kernel_rfl)), f240 := Tryz.func76.trans (congrArg some (by kernel_rfl)), f276 := Tryz.func94.trans (congrArg some (by kernel_rfl)), t0 := Tryz.underlying0, a0 := Tryz.isAgg0, z0 := Tryz.sizeOf0, v0 := Tryz.zeroValue0, t4 := Tryz.underlying4, a4 := Tryz.isAgg4, z4 := Tryz.sizeOf4, v4 := Tryz.zeroValue4, t5 := Tryz.underlying5, a5 := Tryz.isAgg5, z5 := Tryz.sizeOf5, v5 := Tryz.zeroValue5, t9 := Tryz.underlying9, a9 := Tryz.isAgg9, z9 := Tryz.sizeOf9, v9 := Tryz.zeroValue9, t20 := Tryz.underlying20, a20 := Tryz.isAgg20, z20 := Tryz.sizeOf20, v20 := Tryz.zeroValue20, t37 := Tryz.underlying22, a37 := Tryz.isAgg22, z37 := Tryz.sizeOf22, v37 := Tryz.zeroValue22, t70 := Tryz.underlying34, a70 := Tryz.isAgg34, z70 := Tryz.sizeOf34, v70 := Tryz.zeroValue34, t72 := Tryz.underlying36, a72 := Tryz.isAgg36, z72 := Tryz.sizeOf36, v72 := Tryz.zeroValue36, t75 := Tryz.underlying91, a75 := Tryz.isAgg91, z75 := Tryz.sizeOf91, v75 := Tryz.zeroValue91, t164 := Tryz.underlying161, a164 := Tryz.isAgg161, z164 := Tryz.sizeOf161, v164 := Tryz.zeroValue161 }
theorem lay169 : Lays.n169 Tryz.prog lren :=
 { mixed := by kernel_rfl, f169 := Tryz.func13.trans (congrArg some (by kernel_rfl)), t0 := Tryz.underlying0, a0 := Tryz.isAgg0, z0 := Tryz.sizeOf0, v0 := Tryz.zeroValue0, t3 := Tryz.underlying3, a3 := Tryz.isAgg3, z3 := Tryz.sizeOf3, v3 := Tryz.zeroValue3, t9 := Tryz.underlying9, a9 := Tryz.isAgg9, z9 := Tryz.sizeOf9, v9 := Tryz.zeroValue9, t37 := Tryz.underlying22, a37 := Tryz.isAgg22, z37 := Tryz.sizeOf22, v37 := Tryz.zeroValue22, t70 := Tryz.underlying34, a70 := Tryz.isAgg34, z70 := Tryz.sizeOf34, v70 := Tryz.zeroValue34, t72 := Tryz.underlying36, a72 := Tryz.isAgg36, z72 := Tryz.sizeOf36, v72 := Tryz.zeroValue36, t127 := Tryz.underlying70, a127 := Tryz.isAgg70, z127 := Tryz.sizeOf70, v127 := Tryz.zeroValue70 }
theorem lay170 : Lays.n170 Tryz.prog lren :=
 { mixed := by kernel_rfl, f170 := Tryz.func12.trans (congrArg some (by kernel_rfl)), t0 := Tryz.underlying0, a0 := Tryz.isAgg0, z0 := Tryz.sizeOf0, v0 := Tryz.zeroValue0, t3 := Tryz.underlying3, a3 := Tryz.isAgg3, z3 := Tryz.sizeOf3, v3 := Tryz.zeroValue3, t37 := Tryz.underlying22, a37 := Tryz.isAgg22, z37 := Tryz.sizeOf22, v37 := Tryz.zeroValue22, t70 := Tryz.underlying34, a70 := Tryz.isAgg34, z70 := Tryz.sizeOf34, v70 := Tryz.zeroValue34, t72 := Tryz.underlying36, a72 := Tryz.isAgg36, z72 := Tryz.sizeOf36, v72 := Tryz.zeroValue36 }
theorem lay171 : Lays.n171 Tryz.prog lren :=
 { mixed := by kernel_rfl, f129 := Tryz.func118.trans (congrArg some (by kernel_rfl)), f171 := Tryz.func53.trans (congrArg some (by kernel_rfl)), f243 := Tryz.func79.trans (congrArg some (by kernel_rfl)), f246 := Tryz.func96.trans (congrArg some (by kernel_rfl)), f283 := Tryz.func108.trans (congrArg some (by kernel_rfl)), f284 := Tryz.func109.trans (congrArg some (by kernel_rfl)), f285 := Tryz.func110.trans (congrArg some (by kernel_rfl)), f286 := Tryz.func111.trans (congrArg some (by kernel_rfl)), f317 := Tryz.func117.trans (congrArg some (by kernel_rfl)), f318 := Tryz.func119.trans (congrArg some (by kernel_rfl)), f319 := Tryz.func120.trans (congrArg some (by kernel_rfl)), f320 := Tryz.func121.trans (congrArg some (by kernel_rfl)), f337 := Tryz.func122.trans (congrArg some (by kernel_rfl)), f338 := Tryz.func123.trans (congrArg some (by kernel_rfl)), t0 := Tryz.underlying0, a0 := Tryz.isAgg0, z0 := Tryz.sizeOf0, v0 := Tryz.zeroValue0, t2 := Tryz.underlying2, a2 := Tryz.isAgg2, z2 := Tryz.sizeOf2, v2 := Tryz.zeroValue2, t3 := Tryz.underlying3, a3 := Tryz.isAgg3, z3 := Tryz.sizeOf3, v3 := Tryz.zeroValue3, t4 := Tryz.underlying4, a4 := Tryz.isAgg4, z4 := Tryz.sizeOf4, v4 := Tryz.zeroValue4, t5 := Tryz.underlying5, a5 := Tryz.isAgg5, z5 := Tryz.sizeOf5, v5 := Tryz.zeroValue5, t9 := Tryz.underlying9, a9 := Tryz.isAgg9, z9 := Tryz.sizeOf9, v9 := Tryz.zeroValue9, t20 := Tryz.underlying20, a20 := Tryz.isAgg20, z20 := Tryz.sizeOf20, v20 := Tryz.zeroValue20, t37 := Tryz.underlying22, a37 := Tryz.isAgg22, z37 := Tryz.sizeOf22, v37 := Tryz.zeroValue22, t46 := Tryz.underlying183, a46 := Tryz.isAgg183, z46 := Tryz.sizeOf183, v46 := Tryz.zeroValue183, t51 := Tryz.underlying180, a51 := Tryz.isAgg180, z51 := Tryz.sizeOf180, v51 := Tryz.zeroValue180, t53 := Tryz.underlying169, a53 := Tryz.isAgg169, z53 := Tryz.sizeOf169, v53 := Tryz.zeroValue169, t171 := Tryz.underlying168, a171 := Tryz.isAgg168, z171 := Tryz.sizeOf168, v171 := Tryz.zeroValue168, t173 := Tryz.underlying172, a173 := Tryz.isAgg172, z173 := Tryz.sizeOf172, v173 := Tryz.zeroValue172, t212 := Tryz.underlying179, a212 := Tryz.isAgg179, z212 := Tryz.sizeOf179, v212 := Tryz.zeroValue179, t213 := Tryz.underlying181, a213 := Tryz.isAgg181, z213 := Tryz.sizeOf181, t232 := Tryz.underlying186, a232 := Tryz.isAgg186, z232 := Tryz.sizeOf186, v232 := Tryz.zeroValue186, t233 := Tryz.underlying187, a233 := Tryz.isAgg187, z233 := Tryz.sizeOf187, v233 := Tryz.zeroValue187, g17 := by kernel_rfl, g18 := by kernel_rfl, g19 := by kernel_rfl }
theorem shf : Shf Tryz.prog ids := shf_of (ρ := lren) ⟨lextra, lay156, lay166, lay167, lay169, lay170, lay171, rfl, rfl, rfl, rfl, rfl, rfl, rfl, rfl⟩
theorem tys : Tys ids := by constructor <;> decide
end Go.Xl
namespace Go.Proofs.YtjfbfchnfdhbpaaGreatDoor
open Nat renaming reduceEqDiff → rE, reduceAdd → rA, reduceLeDiff → rL
open Go.ChangeShapes Go.WideShapes Go.ChangeAt Go.WideElems Go.RowKit Go.Xl
theorem fitsRoot : Fits Tryz.prog 3 (x_l_FnProgOne ids) := fits_of (fn := Tryz.f3) Tryz.func3 (by kernel_rfl) (by kernel_rfl)
def IsRow (w : World) (a : Option Addr) (len cap : Nat) (zs : List Int) : Prop :=
 (a = none ∧ len = 0 ∧ cap = 0 ∧ zs = []) ∨
 ∃ x, a = some x ∧ len ≤ cap ∧ cap ≤ maxLen ∧ zs.length = cap ∧ (∀ i, i < zs.length → w.cell? (x.add i) = some (.int .u8 (zs.getD i 0))) ∧ ∀ n ∈ zs, (Lit.int .u8 n).wf = true
structure Late (w w' : World) : Prop where
 os : w'.os = w.os
 output : w'.output = w.output
 size : w.heap.size ≤ w'.heap.size
 block : ∀ k, k < w.heap.size → w'.heap[k]? = w.heap[k]?
theorem Late.refl (w : World) : Late w w := ⟨rfl, rfl, Nat.le_refl _, fun _ _ => rfl⟩
theorem Late.frame {W w' : World} (h : Late W w') (may : MemPlace → Prop) : W.keptBut w' may := by
 refine ⟨h.os, h.output, fun i hi => ?_⟩
 rw [h.block i hi]
 split <;> simp_all
theorem Late.same {W w' : World} (h : Late W w') {p : MemPlace} (hp : p.block < W.heap.size) : W.sameAt w' p := by
 cases p with
 | cell b o => exact World.cell?_of_block (w := W) (h.block b hp)
 | map b => exact h.block b hp
theorem Late.trod {H : Type} {enc : TypeId × Value → H} {P : Program} {t : TypeId} (hl : laidOutB P = true) (hr : P.readableRec t = true) (hrow : t < P.types.size) {W W' : World} {v : Value} {d : DataW H} {ps : List MemPlace}
 (h : DataW.Trod enc P W 0 (fun _ => true) true t v d ps) (hb : Late W W') (hlt : ∀ x ∈ ps, x.block < W.heap.size) : DataW.Trod enc P W' 0 (fun b => decide (b < W.heap.size)) true t v d ps :=
 WideElems.Trod_stays hl hr hrow h (fun x hx => hb.same (hlt x hx)) (fun x hx => by simpa using hlt x hx)
def memOf (w : World) : FMem := fun b o => w.cell? ⟨b, o, none⟩
theorem simOf (w : World) : Sim (memOf w) .empty w := ⟨fun _ _ _ h => h, fun b o h => by simp at h⟩
theorem rep_row {w : World} {a : Option Addr} {len cap : Nat} {zs : List Int} (h : IsRow w a len cap zs) (hl : len ≤ 2 ^ 20) : ∃ bs : List UInt8, Rep (memOf w) (.sl 1 none (byteRows bs)) (.slice a len cap) := by
 by_cases h0 : len = 0
 ·subst h0; exact ⟨[], .sl0⟩
 rcases h with ⟨-, h, -⟩ | ⟨x, rfl, hlc, hcm, hz, hcell, hwf⟩
 ·exact absurd h h0
 obtain ⟨b, off, sp⟩ := x
 have hsp : sp = none := by
  have := hcell 0 (by omega)
  cases sp with
  | none => rfl
  | some s => simp [World.cell?, Addr.add] at this; split at this <;> simp at this
 subst hsp
 have hby : ∀ i (h : i < zs.length), 0 ≤ zs[i] ∧ zs[i] ≤ 255 := fun i h => by
  have := hwf _ (List.getElem_mem h)
  simp [Lit.wf, IntKind.min, IntKind.max, IntKind.bits, IntKind.signed] at this
  omega
 have hlen : (byteRows ((zs.take len).map fun n => UInt8.ofNat n.toNat)).length = len := by simp [byteRows]; omega
 have get : ∀ (i j : Nat) (e : List AC) (x : AC), (byteRows ((zs.take len).map fun n => UInt8.ofNat n.toNat))[i]? = some e → e[j]? = some x → i < len ∧ j = 0 ∧ x = .lit (.int .u8 (zs.getD i 0)) := by
  intro i j e x he hx
  have hi : i < len := by rw [← hlen]; exact (List.getElem?_eq_some_iff.1 he).1
  have hi2 : i < zs.length := by omega
  simp only [byteRows, List.getElem?_map, List.getElem?_take_of_lt hi, List.getElem?_eq_getElem hi2, Option.map_some, Option.some.injEq] at he
  subst he
  have hj : j = 0 := by
   cases j with
   | zero => rfl
   | succ j => simp at hx
  subst hj
  simp only [List.getElem?_cons_zero, Option.some.injEq] at hx
  subst hx
  refine ⟨hi, rfl, ?_⟩
  have hb := hby i hi2
  have : ((UInt8.ofNat zs[i].toNat).toNat : Int) = zs[i] := by rw [UInt8.toNat_ofNat']; omega
  rw [this, List.getD_eq_getElem?_getD, List.getElem?_eq_getElem hi2]; rfl
 refine ⟨(zs.take len).map fun n => UInt8.ofNat n.toNat, ?_⟩
 have key := Rep.sl (M := memOf w) (sz := 1) (tok := none) (es := byteRows ((zs.take len).map fun n => UInt8.ofNat n.toNat)) (b := b) (off := off) (cap := cap) (fun i _ => .int .u8 (zs.getD i 0)) (by rw [hlen]; simp [LIM]; omega) (by rw [hlen]; exact hlc)
  (fun e he => by simp only [byteRows, List.mem_map] at he; obtain ⟨_, _, rfl⟩ := he; exact ⟨rfl, by simp [AC.one]⟩)
  (fun i j e x he hx => by
   obtain ⟨hi, rfl, -⟩ := get i j e x he hx
   have := hcell i (by omega)
   rw [Addr.add_lit] at this
   simpa [memOf] using this)
  (fun i j e x he hx => by
   obtain ⟨hi, rfl, rfl⟩ := get i j e x he hx
   have hb := hby i (by omega)
   have hi2 : i < zs.length := by omega
   have hg : zs.getD i 0 = zs[i] := by rw [List.getD_eq_getElem?_getD, List.getElem?_eq_getElem hi2]; rfl
   exact .lit (by simp only [okv, IntKind.min, IntKind.max, IntKind.bits, IntKind.signed, hg]; simp; omega))
  (fun t h => by simp at h)
 rw [hlen] at key
 exact key
theorem walk (W : World) (a0 : Option Addr) (len0 cap0 : Nat) (z0 : List Int) (a1 : Option Addr) (len1 cap1 : Nat) (z1 : List Int) (h0 : IsRow W a0 len0 cap0 z0) (h1 : IsRow W a1 len1 cap1 z1) :
 Calls Tryz.prog 3 #[.slice a0 len0 cap0, .slice a1 len1 cap1] W fun e W' => e = .returned (.bool true) ∧ Late W W' := by
 by_cases b0 : (len0 : Int) > 1048576
 ·go_enter Tryz.func3, Tryz.ntmps3
  go_wp2
  go_ret
  exact ⟨rfl, Late.refl _⟩
 by_cases b1 : (len1 : Int) > 1048576
 ·go_enter Tryz.func3, Tryz.ntmps3
  go_wp2
  go_ret
  exact ⟨rfl, Late.refl _⟩
 obtain ⟨l0, r0⟩ := rep_row h0 (by omega)
 obtain ⟨l1, r1⟩ := rep_row h1 (by omega)
 refine (c_FnProgOne lib tys shf fitsRoot l0 l1 (memOf W) W _ (simOf W) (RepL.cons r0 (RepL.cons r1 (RepL.nil _)))).mono ?_
 rintro e W' ⟨r, v, M', H', rfl, hr, -, t, rfl⟩
 obtain ⟨rfl, -⟩ := hr.yyn
 exact ⟨rfl, t.io.1, t.io.2, t.size, fun k hk => (t.same k hk rfl).1⟩
def laidL : List (String × DataW Unit) := [("math/bits.deBruijn32tab", Rows.laid_math_bits_deBruijn32tab), ("math/bits.deBruijn64tab", Rows.laid_math_bits_deBruijn64tab), ("internal/strconv.uint64pow10", Rows.laid_internal_strconv_uint64pow10)]
theorem own : ownKnob Tryz.prog.godebug = none := by kernel_rfl
theorem laidOut : laidOutB Tryz.prog = true := by kernel_rfl
theorem door_met (os : Os) (args : Array Value) : laidMetH Tryz.prog laidL ((World.doorLaid Tryz.prog 400 os).forCall (fun _ _ => 0) ⟨#[], args, []⟩).memory :=
 laidMetH_of_parts3 (fuel := 8) (laidMet_of_run' 8 (by kernel_rfl) (by kernel_rfl)) (by kernel_rfl) (by kernel_rfl)
set_option maxRecDepth 100000 in
theorem lifted (os : Os) (started : os.Started) (H : Type) (enc : TypeId × Value → H) :
 ReturnsInHanded {} Tryz.checked os 3 .any (fun w args => (Rows.fnProgOneSpec.pre enc Tryz.prog Tryz.f3 [] false w args ∧ laidMetH Tryz.prog laidL w) ∧ sizedMet enc Tryz.prog Tryz.f3 (OpenSpec.ofChange Rows.fnProgOneSpec) false w args)
  (Rows.fnProgOneSpec.post enc Tryz.prog Tryz.f3 false true false false) := by
 refine returnsInHanded_of_change_and (C := Tryz.checked) (X := fun w _ => laidMetH Tryz.prog laidL w) (fun _ _ _ hh h => h.of_heap hh) own started (by kernel_rfl) Tryz.func3
  (ChangeSpec.witness_shaped (enc := enc) (C := Tryz.checked) (os := os) (X := fun w _ => laidMetH Tryz.prog laidL w) false (World.doorLaid Tryz.prog 400 os) #[.slice none 0 0, .slice none 0 0] 8 rfl (World.shaped_of_RefB (by kernel_rfl) (by kernel_rfl)) (by kernel_rfl) (by kernel_rfl) (by kernel_rfl) (door_met os _)) ?_
 intro W base args ds gs before hval0 hW _ _ hL _
 have hval : ∀ (j : Nat) t v, Tryz.f3.params[j]? = some t → args[j]? = some v → Value.okWide Tryz.prog W .any base t v := hval0
 have hW' := hW
 obtain ⟨p, q, hA0, hV, rfl, hfz, hnd⟩ := hW
 have hA : DataW.TrodAll enc Tryz.prog W 0 (fun _ => true) true Tryz.f3.params.toList args.toList ds p := hA0
 rw [Tryz.params3] at hA hval
 obtain ⟨v0, vs0, d0, ds0, p0, q0, hargs, rfl, rfl, h0, r0⟩ := trodAll_cons hA
 obtain ⟨v1, vs1, d1, ds1, p1, q1, rfl, rfl, rfl, h1, r1⟩ := trodAll_cons r0
 obtain ⟨rfl, rfl, rfl⟩ := trodAll_nil r1
 obtain rfl : args = #[v0, v1] := by cases args; simp_all
 obtain ⟨rfl, rfl⟩ := trodVars_none hV
 obtain ⟨a0, len0, cap0, rfl⟩ := okWide_slice Tryz.underlying22 (hval 0 22 v0 rfl rfl)
 have k0 := h0
 have lt0 : ∀ x ∈ p0, x.block < W.heap.size := by obtain ⟨m, hm⟩ := k0; exact DataW.trod_lt m _ _ _ hm
 obtain ⟨z0, w0⟩ : ∃ zs, IsRow W a0 len0 cap0 zs := by
  obtain ⟨fuel, hf⟩ := h0
  rcases open_ints Tryz.underlying22 Tryz.underlying5 (by kernel_rfl) hf with ⟨hcs, _⟩ | ⟨x, l, c, zs, hcs, _, hl, hm, hz, _, hcell, hwz⟩
  ·simp [Value.cells] at hcs
   obtain ⟨rfl, rfl, rfl⟩ := hcs
   exact ⟨[], .inl ⟨rfl, rfl, rfl, rfl⟩⟩
  ·simp [Value.cells] at hcs
   obtain ⟨rfl, rfl, rfl⟩ := hcs
   exact ⟨zs, .inr ⟨_, rfl, hl, hm, by simpa using hz, hcell, hwz⟩⟩
 obtain ⟨a1, len1, cap1, rfl⟩ := okWide_slice Tryz.underlying22 (hval 1 22 v1 rfl rfl)
 have k1 := h1
 have lt1 : ∀ x ∈ p1, x.block < W.heap.size := by obtain ⟨m, hm⟩ := k1; exact DataW.trod_lt m _ _ _ hm
 obtain ⟨z1, w1⟩ : ∃ zs, IsRow W a1 len1 cap1 zs := by
  obtain ⟨fuel, hf⟩ := h1
  rcases open_ints Tryz.underlying22 Tryz.underlying5 (by kernel_rfl) hf with ⟨hcs, _⟩ | ⟨x, l, c, zs, hcs, _, hl, hm, hz, _, hcell, hwz⟩
  ·simp [Value.cells] at hcs
   obtain ⟨rfl, rfl, rfl⟩ := hcs
   exact ⟨[], .inl ⟨rfl, rfl, rfl, rfl⟩⟩
  ·simp [Value.cells] at hcs
   obtain ⟨rfl, rfl, rfl⟩ := hcs
   exact ⟨zs, .inr ⟨_, rfl, hl, hm, by simpa using hz, hcell, hwz⟩⟩
 clear hA0 hval0
 refine (walk W a0 len0 cap0 z0 a1 len1 cap1 z1 w0 w1).mono fun e W' ⟨he, bel⟩ => ?_
 subst he
 exact ⟨_, rfl, _, _, _, [], _, [], hW', trodAll_mk1 (shut_bool Tryz.underlying4 _), (trodAll_cons_mk (Late.trod laidOut (by kernel_rfl) (of_decide_eq_true (by kernel_rfl)) k0 bel lt0) (trodAll_cons_mk (Late.trod laidOut (by kernel_rfl) (of_decide_eq_true (by kernel_rfl)) k1 bel lt1) trodAll_mk0)), rfl, bel.frame _, fun h => by cases h⟩
theorem row_holds : Rows.FnProgOneSaid :=
 OpenClaim.holds_of_wide 3 Tryz.f3 rfl rfl rfl rfl rfl rfl rfl ⟨rfl, rfl, rfl, rfl, rfl⟩ rfl rfl rfl rfl rfl (by kernel_rfl) Tryz.func3 (by kernel_rfl)
  (of_decide_eq_true (by kernel_rfl)) (by unfold Func.isWrapper; first | (rw [if_pos (by decide +kernel)]; kernel_rfl) | (rw [if_neg (by decide +kernel)]; exact ⟨rfl, rfl⟩))
  (fun os started H enc _ => lifted os started H enc)
theorem holds : Rows.FnProgOneCardSaid :=
 Claim7.holds_tied_plain_at .later [] [.data, .data, .data] true (true, "f539670f1e48b08ae7b9fffcbdfe97bb229537001c8fee8f6bc34b7b2f2958a5") true
  row_holds (fun _ h => by cases h) (by kernel_rfl) (fun _ h => by cases h) fnProgOne_row_tie rfl ⟨rfl, rfl⟩ (by kernel_rfl) rfl
  (fun f fn hf hfn => by
   obtain rfl : f = 3 := Option.some.inj ((show Tryz.prog.funcNamed "loop.example/handfast/laws.FnProgOne" = some 3 by kernel_rfl).symm.trans hf) |>.symm
   obtain rfl : fn = Tryz.f3 := (Option.some.inj (Tryz.func3.symm.trans hfn)).symm
   exact ⟨by kernel_rfl, fun j t ht => by
    rw [Tryz.params3] at ht
    have hm : t ∈ [22, 22] := by simpa using Array.mem_of_getElem? ht
    have hall : ([22, 22].all fun u => !Tryz.prog.wantsStandIn u) = true := by kernel_rfl
    exact (show Tryz.prog.wantsStandIn t = false by simpa using List.all_eq_true.1 hall t hm)⟩)
  (by kernel_rfl)
end Go.Proofs.YtjfbfchnfdhbpaaGreatDoor
