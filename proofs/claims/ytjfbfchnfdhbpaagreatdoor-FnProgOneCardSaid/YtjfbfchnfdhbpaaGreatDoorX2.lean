/- FnProgOne: a part of the proof. -/
import Derived.Test.YtjfbfchnfdhbpaaGreatDoorX1
set_option linter.unusedVariables false
set_option linter.unusedSimpArgs false
namespace Go.Xl
open Nat renaming reduceEqDiff → rE, reduceAdd → rA, reduceLeDiff → rL
inductive XCode where
 | skip
 | region (drawn : Bool) (xs : List XOper)
 | region2 (a b : Nat) (xs ys : List XOper)
 | seq (a b : XCode)
 | cond (c : XArg) (a b : XCode)
 | block (id : Nat) (c : XCode)
 | loop (c : XCode)
 | exit (id : Nat)
 | ret
 deriving Inhabited
inductive XExit where
 | normal
 | exit (id : Nat)
 | ret
def XExit.then (K' : Env → Heap → Prop) (K : XExit → Env → Heap → Prop) : XExit → Env → Heap → Prop
 | .normal => K'
 | e => K e
def XExit.inBlock (id : Nat) (K : XExit → Env → Heap → Prop) : XExit → Env → Heap → Prop
 | .exit i => if i = id then K .normal else K (.exit i)
 | e => K e
def HWk (H H' : Heap) : Prop := (∀ M w, Sim M H w → Sim M H' w) ∧ ∀ b, H'.get b ≠ none → H.get b ≠ none
theorem HWk.of_sub {H H' : Heap} (h : H'.sub H) : HWk H H' := ⟨fun _ _ s => s.sub h, fun b hb => by
 obtain ⟨o, ho⟩ := Option.ne_none_iff_exists'.1 hb
 simp [h b o ho]⟩
theorem Trans.wk {M M' : FMem} {H H' H'' : Heap} {w w' : World} (t : Trans M H w M' H' w') (h : HWk H' H'') : Trans M H w M' H'' w' :=
 ⟨t.le, t.size, t.same, fun b hb => t.fresh b (h.2 b hb), t.io⟩
def XCode.wp (P : Program) : XCode → (XExit → Env → Heap → Prop) → Env → Heap → Prop
 | .skip, K, E, H => K .normal E H
 | .region d xs, K, E, H => rrun P d (K .normal) xs E H [] []
 | .region2 _ _ xs ys, K, E, H => rrun P true (K .normal) xs E H [] [] ∧ rrun P true (K .normal) ys E H [] []
 | .seq a b, K, E, H => a.wp P (XExit.then (b.wp P K) K) E H
 | .cond c a b, K, E, H => ∃ t, c.ev E = .lit (.bool t) ∧ (t = true → a.wp P K E H) ∧ (t = false → b.wp P K E H)
 | .block id c, K, E, H => c.wp P (XExit.inBlock id K) E H
 | .loop c, K, E, H => ∃ I : Nat → Env → Heap → Prop, (∃ n, I n E H) ∧ ∀ n E H, I n E H → c.wp P (XExit.then (fun E' H' => ∃ m, m < n ∧ ∃ H'', HWk H' H'' ∧ I m E' H'') K) E H
 | .exit id, K, E, H => K (.exit id) E H
 | .ret, K, E, H => K .ret E H
def clsOf (P : Program) (op : Op) : Nat := match resOp P op with
 | some (.load _) => 1
 | some (.eff (.append ..)) => 4
 | some (.eff e) => if e.isA then 3 else 2
 | _ => 0
def transN (ops : Array Oper) (n : Nat) : Nat :=
 (List.range n).foldl (fun acc i => acc ||| (upT (fun p => (acc >>> (n * p)) % 2 ^ n) (predsOf ops i) 0) <<< (n * i)) 0
def rowT (ops : Array Oper) (n : Nat) (i : Nat) : Nat := (transN ops n >>> (n * i)) % 2 ^ n
def clsMask (cls : List Nat) (c : Nat) : Nat := (cls.zipIdx).foldl (fun m p => if p.1 == c then m ||| (1 <<< p.2) else m) 0
def incOf (T : Nat → Nat) (m1 m2 : Nat) (n i : Nat) : List Nat :=
 if m1.testBit i then (List.range n).filter fun j => m2.testBit j && !(T i).testBit j && !(T j).testBit i
 else if m2.testBit i then (List.range n).filter fun j => m1.testBit j && !(T i).testBit j && !(T j).testBit i
 else []
def resList (P : Program) (N : Nat) (ops : Array Oper) (inc : Nat → List Nat) : List Nat → Option (List XOper)
 | [] => some []
 | i :: is => match resOper P N ops i (inc i), resList P N ops inc is with
   | some x, some xs => some (x :: xs)
   | _, _ => none
def mayM (T : Nat → Nat) (m01 m34 : Nat) (n i : Nat) : Bool := (List.range n).all fun j => j == i || m01.testBit j || (T i).testBit j || (T j).testBit i || (decide (i < j) && m34.testBit j)
def convMask (T : Nat → Nat) (cls : List Nat) (n : Nat) : Nat :=
 (List.range n).foldl (fun m i => if (clsMask cls 4).testBit i && mayM T (clsMask cls 0 ||| clsMask cls 1) (clsMask cls 3 ||| clsMask cls 4) n i then m ||| (1 <<< i) else m) 0
def toMif (m : Nat → Bool) (x : XOper) : XOper := match x.op with
 | .eff (.append ..) => if m x.id then x.toM else x
 | _ => x
theorem toMif_or (m : Nat → Bool) (x : XOper) : toMif m x = x ∨ toMif m x = x.toM := by
 unfold toMif
 split
 ·split
  ·exact .inr rfl
  ·exact .inl rfl
 ·exact .inl rfl
def tell (zs : List XOper) : XCode := match twinOf zs with
 | some (a, b) => .region2 a b (zs.map (clr a b)) (turned a b (zs.map (clr a b)))
 | none => .region true zs
def resRegion (P : Program) (N : Nat) (ops : Array Oper) : Bool → Option XCode
 | false => (resList P N ops (fun _ => []) (List.range ops.size)).map fun xs => .region false (xs.map XOper.toM)
 | true =>
   let cls := ops.toList.map fun o => clsOf P o.op
   let cm := convMask (rowT ops ops.size) cls ops.size
   (resList P N ops (incOf (rowT ops ops.size) (clsMask cls 1) (clsMask cls 2 ||| cm) ops.size) (List.range ops.size)).map fun xs => tell (xs.map (toMif fun i => cm.testBit i))
def okCode (P : Program) : Code → XCode → Bool
 | .region _ ops true, x => match x with
   | .region true xs => closedB ops (rowT ops ops.size) ops.size && pairsB xs (rowT ops ops.size) && P.follows .mixedOrders
   | .region2 a b xs ys => okTwin ops (rowT ops ops.size) a b xs ys && P.follows .mixedOrders
   | _ => false
 | .seq a b, x => match x with
   | .seq x y => okCode P a x && okCode P b y
   | _ => false
 | .cond _ a b, x => match x with
   | .cond _ x y => okCode P a x && okCode P b y
   | _ => false
 | .block _ c, x => match x with
   | .block _ x => okCode P c x
   | _ => false
 | .loop c, x => match x with
   | .loop x => okCode P c x
   | _ => false
 | _, _ => true
def resCode (P : Program) (N : Nat) : Code → Option XCode
 | .skip => some .skip
 | .label _ => some .skip
 | .region _ ops d => resRegion P N ops d
 | .seq a b => match resCode P N a, resCode P N b with
   | some x, some y => some (.seq x y)
   | _, _ => none
 | .cond c a b => match xarg c, resCode P N a, resCode P N b with
   | some c, some x, some y => some (.cond c x y)
   | _, _, _ => none
 | .block id c => (resCode P N c).map (.block id)
 | .loop c => (resCode P N c).map .loop
 | .exit id => some (.exit id)
 | .ret => some .ret
 | _ => none
section
variable {P : Program} {N : Nat}
theorem resList_spec {ops : Array Oper} {inc : Nat → List Nat} : ∀ {is : List Nat} {xs : List XOper}, resList P N ops inc is = some xs →
 xs.map (·.id) = is ∧ ∀ x ∈ xs, resOper P N ops x.id x.inc = some x := by
 intro is
 induction is with
 | nil => intro xs h; simp [resList] at h; subst h; simp
 | cons i is ih =>
   intro xs h
   simp only [resList] at h
   split at h
   ·rename_i x xs' hx hxs
    simp at h; subst h
    obtain ⟨h1, h2⟩ := ih hxs
    have hid : x.id = i ∧ x.inc = inc i := by
     have hx' := hx
     simp only [resOper] at hx'
     split at hx'
     ·split at hx'
      ·split at hx'
       ·simp at hx'; subst hx'; exact ⟨rfl, rfl⟩
       ·simp at hx'
      ·simp at hx'
     ·simp at hx'
    refine ⟨by simp [h1, hid.1], fun y hy => ?_⟩
    rcases List.mem_cons.1 hy with rfl | hy
    ·rw [hid.1, hid.2]; exact hx
    ·exact h2 y hy
   ·simp at h
def exitOf : Exit → Option XExit
 | .normal => some .normal
 | .exit id => some (.exit id)
 | .ret => some .ret
 | _ => none
def CPost (N : Nat) (K : XExit → Env → Heap → Prop) (M : FMem) (H : Heap) (w : World) (a : Act) (e : Exit) (a' : Act) (w' : World) : Prop :=
 ∃ xe E' H' M', exitOf e = some xe ∧ K xe E' H' ∧ RepEnv N M' E' a' ∧ Sim M' H' w' ∧ Trans M H w M' H' w' ∧ a'.defers = a.defers
theorem rrun_mono {dr : Bool} {K K' : Env → Heap → Prop} (h : ∀ E H, K E H → K' E H) : ∀ (xs : List XOper) {E : Env} {H : Heap} {l : Lds} {f : Fps}, rrun P dr K xs E H l f → rrun P dr K' xs E H l f := by
 intro xs
 induction xs with
 | nil => intro E H l f hr; exact h _ _ hr
 | cons x xs ih => intro E H l f hr; exact XOper.act_mono (fun r H' l' f' q => ih q) hr
theorem resRegion_sound {id : Nat} {ops : Array Oper} {d : Bool} {xc : XCode} (h : resRegion P N ops d = some xc) (hok : okCode P (.region id ops d) xc = true) {K : XExit → Env → Heap → Prop} {M : FMem} {E : Env} {H : Heap} {a : Act} {w : World}
 (hE : RepEnv N M E a) (s : Sim M H w) (hw : xc.wp P K E H) : (Code.region id ops d).wp P (CPost N K M H w a) a w := by
 cases d with
 | false =>
   simp only [resRegion, Option.map_eq_some_iff] at h
   obtain ⟨xs, hxs, rfl⟩ := h
   obtain ⟨h1, h2⟩ := resList_spec hxs
   refine wp_region ?_
   rw [← h1]
   refine region_textM xs h2 hE s hw fun a' w' hp => ?_
   obtain ⟨E', H', M', p1, p2, p3, p4, p5⟩ := hp
   exact ⟨.normal, E', H', M', rfl, p1, p2, p3, p4, p5⟩
 | true =>
   simp only [resRegion, Option.map_eq_some_iff] at h
   obtain ⟨xs, hxs, rfl⟩ := h
   ·have hto : ∀ (m : Nat → Bool) (x : XOper), (toMif m x).id = x.id ∧ (toMif m x).inc = x.inc := by
     intro m x
     rcases toMif_or m x with e | e <;> rw [e] <;> exact ⟨rfl, rfl⟩
    obtain ⟨h1', h2'⟩ := resList_spec hxs
    generalize hm : (fun i => (convMask (rowT ops ops.size) (ops.toList.map fun o => clsOf P o.op) ops.size).testBit i) = m at *
    have h1 : (xs.map (toMif m)).map (·.id) = List.range ops.size := by
     rw [← h1', List.map_map]; exact List.map_congr_left fun x _ => (hto m x).1
    have h2 : ∀ x ∈ xs.map (toMif m), ∃ x0, resOper P N ops x.id x.inc = some x0 ∧ (x = x0 ∨ x = x0.toM) := by
     intro x hx
     obtain ⟨y, hy, rfl⟩ := List.mem_map.1 hx
     rw [(hto m y).1, (hto m y).2]
     exact ⟨y, h2' y hy, toMif_or m y⟩
    generalize xs.map (toMif m) = xs at *
    have s' : Sim M H { w with drawn := w.drawn + 1 } := Sim.heap (w := w) (w' := { w with drawn := w.drawn + 1 }) rfl s
    unfold tell at hok hw
    split at hok
    ·rename_i ia ib htw
     rw [htw] at hw
     simp only [okCode, Bool.and_eq_true] at hok
     refine wp_region_any hok.2 ?_
     refine okTwin_sound (K := K .normal) hok.1 ?_ ?_ turned_sub hE s' hw.1 hw.2 fun a' w' hp => ?_
     ·rw [← h1, List.map_map]; exact List.map_congr_left fun x _ => clr_id _ _ x
     ·intro x hx
      obtain ⟨y, hy, rfl⟩ := List.mem_map.1 hx
      exact clr_res (h2 y hy)
     ·obtain ⟨E', H', M', p1, p2, p3, p4, p5⟩ := hp
      exact ⟨.normal, E', H', M', rfl, p1, p2, p3, (Trans.heap (w := w) (w' := { w with drawn := w.drawn + 1 }) rfl ⟨rfl, rfl⟩).trans p4, p5⟩
    ·rename_i htw
     rw [htw] at hw
     have hc := hok
     simp only [okCode, Bool.and_eq_true] at hc
     refine wp_region_any hc.2 ?_
     have hl : left (Array.replicate ops.size false) xs = xs := by
      simp only [left]
      apply List.filter_eq_self.2
      intro x hx
      have hlt : x.id < ops.size := List.mem_range.1 (h1 ▸ List.mem_map_of_mem hx)
      simp [hlt]
     refine region_any h1 h2 hc.1.1 hc.1.2 (K := K .normal) ops.size _ (by simp) (by rw [hl, ← List.length_map (f := fun x => x.id), h1]; simp) ?_ hE s' (by rw [hl]; exact hw) fun a' w' hp => ?_
     ·intro i hi
      exfalso
      by_cases hlt : i < ops.size <;> simp [hlt] at hi
     ·obtain ⟨E', H', M', p1, p2, p3, p4, p5⟩ := hp
      exact ⟨.normal, E', H', M', rfl, p1, p2, p3, (Trans.heap (w := w) (w' := { w with drawn := w.drawn + 1 }) rfl ⟨rfl, rfl⟩).trans p4, p5⟩
theorem exists_min {p : Nat → Prop} (h : ∃ n, p n) : ∃ n, p n ∧ ∀ m, p m → n ≤ m := by
 obtain ⟨n, hn⟩ := h
 induction n using Nat.strongRecOn with
 | _ n ih =>
   by_cases hm : ∃ m, m < n ∧ p m
   ·obtain ⟨m, h1, h2⟩ := hm; exact ih m h1 h2
   ·exact ⟨n, hn, fun m hp => Nat.le_of_not_lt fun hlt => hm ⟨m, hlt, hp⟩⟩
noncomputable def least (p : Nat → Prop) : Nat := by
 classical exact if h : ∃ n, p n then Classical.choose (exists_min h) else 0
theorem least_spec {p : Nat → Prop} (h : ∃ n, p n) : p (least p) ∧ ∀ m, p m → least p ≤ m := by
 unfold least
 rw [dif_pos h]
 exact Classical.choose_spec (exists_min h)
theorem XCode.sound (c : Code) : ∀ {xc : XCode}, resCode P N c = some xc → okCode P c xc = true → ∀ {K : XExit → Env → Heap → Prop} {M : FMem} {E : Env} {H : Heap} {a : Act} {w : World},
 RepEnv N M E a → Sim M H w → xc.wp P K E H → c.wp P (CPost N K M H w a) a w := by
 induction c with
 | skip =>
   intro xc h hok K M E H a w hE s hw
   simp [resCode] at h; subst h
   exact wp_skip ⟨.normal, E, H, M, rfl, hw, hE, s, Trans.refl _ _ _, rfl⟩
 | label l =>
   intro xc h hok K M E H a w hE s hw
   simp [resCode] at h; subst h
   exact wp_label ⟨.normal, E, H, M, rfl, hw, hE, s, Trans.refl _ _ _, rfl⟩
 | exit id =>
   intro xc h hok K M E H a w hE s hw
   simp [resCode] at h; subst h
   exact wp_exit ⟨.exit id, E, H, M, rfl, hw, hE, s, Trans.refl _ _ _, rfl⟩
 | ret =>
   intro xc h hok K M E H a w hE s hw
   simp [resCode] at h; subst h
   exact wp_ret ⟨.ret, E, H, M, rfl, hw, hE, s, Trans.refl _ _ _, rfl⟩
 | region id ops d =>
   intro xc h hok K M E H a w hE s hw
   exact resRegion_sound h hok hE s hw
 | seq x y ihx ihy =>
   intro xc h hok K M E H a w hE s hw
   simp only [resCode] at h
   split at h
   ·rename_i xx xy hx hy
    simp at h; subst h
    simp only [okCode, Bool.and_eq_true] at hok
    refine wp_seq (wp_mono (ihx hx hok.1 hE s hw) ?_)
    rintro e a' w' ⟨xe, E', H', M', he, hk, hE', s', t', hd⟩
    cases e with
    | normal =>
      simp [exitOf] at he; subst he
      refine wp_mono (ihy hy hok.2 hE' s' hk) ?_
      rintro e a'' w'' ⟨xe, E'', H'', M'', he, hk, hE'', s'', t'', hd''⟩
      exact ⟨xe, E'', H'', M'', he, hk, hE'', s'', t'.trans t'', hd''.trans hd⟩
    | exit id => simp [exitOf] at he; subst he; exact ⟨_, E', H', M', rfl, hk, hE', s', t', hd⟩
    | ret => simp [exitOf] at he; subst he; exact ⟨_, E', H', M', rfl, hk, hE', s', t', hd⟩
    | goto l => simp [exitOf] at he
    | panic ch => simp [exitOf] at he
    | outgrown => simp [exitOf] at he
   ·simp at h
 | cond c x y ihx ihy =>
   intro xc h hok K M E H a w hE s hw
   simp only [resCode] at h
   split at h
   ·rename_i xa xx xy hc hx hy
    simp at h; subst h
    simp only [okCode, Bool.and_eq_true] at hok
    obtain ⟨t, ht, h1, h2⟩ := hw
    have hr := hE.arg _ _ hc
    rw [ht] at hr
    obtain ⟨e, -⟩ := hr.yyn
    refine wp_cond e ?_
    cases t
    ·exact ihy hy hok.2 hE s (h2 rfl)
    ·exact ihx hx hok.1 hE s (h1 rfl)
   ·simp at h
 | block id c ih =>
   intro xc h hok K M E H a w hE s hw
   simp only [resCode, Option.map_eq_some_iff] at h
   obtain ⟨x, hx, rfl⟩ := h
   refine wp_block (wp_mono (ih hx (by simpa only [okCode] using hok) hE s hw) ?_)
   rintro e a' w' ⟨xe, E', H', M', he, hk, hE', s', t', hd⟩
   cases e with
   | normal => simp [exitOf] at he; subst he; exact ⟨_, E', H', M', rfl, hk, hE', s', t', hd⟩
   | exit i =>
     simp [exitOf] at he; subst he
     simp only [Exit.inBlock]
     simp only [XExit.inBlock] at hk
     split
     ·rename_i e; rw [if_pos e] at hk; exact ⟨_, E', H', M', rfl, hk, hE', s', t', hd⟩
     ·rename_i e; rw [if_neg e] at hk; exact ⟨_, E', H', M', rfl, hk, hE', s', t', hd⟩
   | ret => simp [exitOf] at he; subst he; exact ⟨_, E', H', M', rfl, hk, hE', s', t', hd⟩
   | goto l => simp [exitOf] at he
   | panic ch => simp [exitOf] at he
   | outgrown => simp [exitOf] at he
 | loop c ih =>
   intro xc h hok K M E H a w hE s hw
   simp only [resCode, Option.map_eq_some_iff] at h
   obtain ⟨x, hx, rfl⟩ := h
   obtain ⟨I, ⟨n0, h0⟩, hround⟩ := hw
   let J : Nat → Act → World → Prop := fun n a' w' => ∃ E' H' M', I n E' H' ∧ RepEnv N M' E' a' ∧ Sim M' H' w' ∧ Trans M H w M' H' w' ∧ a'.defers = a.defers
   refine wp_loop (fun a' w' => ∃ n, J n a' w') (fun a' w' => least fun n => J n a' w') ⟨n0, E, H, M, h0, hE, s, Trans.refl _ _ _, rfl⟩ ?_
   intro a1 w1 hJ
   have hmin := (least_spec hJ).1
   generalize hn : (least fun n => J n a1 w1) = n at hmin
   obtain ⟨E1, H1, M1, i1, e1, s1, t1, d1⟩ := hmin
   refine wp_mono (ih hx (by simpa only [okCode] using hok) e1 s1 (hround n E1 H1 i1)) ?_
   rintro e a' w' ⟨xe, E', H', M', he, hk, hE', s', t', hd⟩
   cases e with
   | normal =>
     simp [exitOf] at he; subst he
     obtain ⟨m, hm, H'', hsub, hi⟩ := hk
     have hJm : J m a' w' := ⟨E', H'', M', hi, hE', hsub.1 _ _ s', (t1.trans t').wk hsub, hd.trans d1⟩
     refine ⟨⟨m, hJm⟩, ?_⟩
     exact Nat.lt_of_le_of_lt ((least_spec ⟨m, hJm⟩).2 m hJm) hm
   | exit id => simp [exitOf] at he; subst he; exact ⟨_, E', H', M', rfl, hk, hE', s', t1.trans t', hd.trans d1⟩
   | ret => simp [exitOf] at he; subst he; exact ⟨_, E', H', M', rfl, hk, hE', s', t1.trans t', hd.trans d1⟩
   | goto l => simp [exitOf] at he
   | panic ch => simp [exitOf] at he
   | outgrown => simp [exitOf] at he
 | scope c ih => intro xc h; simp [resCode] at h
 | goto l => intro xc h; simp [resCode] at h
 | refuse y => intro xc h; simp [resCode] at h
 | rangeFunc f ps x y ihx ihy => intro xc h; simp [resCode] at h
inductive XRes where
 | slot (t : Nat)
 | cell (t : Nat) (g : Option Nat)
 deriving Inhabited
structure XFunc where
 ntmps : Nat
 results : List XRes
 body : XCode
 deriving Inhabited
def resVars (P : Program) : List ResultVar → Option (List XRes)
 | [] => some []
 | .tmp t :: r => (resVars P r).map (.slot t :: ·)
 | .cell t ty :: r => match aggN P ty with
   | some g => (resVars P r).map (.cell t g :: ·)
   | none => none
def resFunc (P : Program) (fn : Func) : Option XFunc := match fn.body with
 | some c => match resCode P fn.ntmps c, resVars P fn.results.toList with
   | some x, some rs => some ⟨fn.ntmps, rs, x⟩
   | _, _ => none
 | none => none
def okFunc (P : Program) (fn : Func) (x : XFunc) : Bool := match fn.body with
 | some c => okCode P c x.body
 | none => false
def initEnv (xs : List AC) : Env := fun n => (xs[n]?).getD (.tup [])
def XRes.val (E : Env) (H : Heap) : XRes → Option AC
 | .slot t => some (E t)
 | .cell t g => match E t with
   | .ptr r off => match H.get r with
     | some (.cells cs) => partA g cs off
     | _ => none
   | _ => none
def resVals (E : Env) (H : Heap) : List XRes → Option (List AC)
 | [] => some []
 | x :: r => match x.val E H, resVals E H r with
   | some a, some as => some (a :: as)
   | _, _ => none
def resVal (E : Env) (H : Heap) (rs : List XRes) : Option AC := match resVals E H rs with
 | some [a] => some a
 | some as => some (.tup as)
 | none => none
def XFunc.post (rs : List XRes) (R : AC → Heap → Prop) : XExit → Env → Heap → Prop
 | .exit _ => fun _ _ => False
 | _ => fun E H => ∃ q, resVal E H rs = some q ∧ ∃ r H', Told q H r H' ∧ R r H'
def resF (tmps : Array Value) : ResultVar → Sem Value
 | .tmp t => pure (tmps.getD t undef)
 | .cell b t => do loadVar t (← asAddr (tmps.getD b undef))
theorem results_eq (fn : Func) (tmps : Array Value) : results fn tmps = (fn.results.mapM (resF tmps) >>= fun vs => pure (if h : vs.size = 1 then vs[0] else .tuple vs)) := by
 unfold results
 congr 1
theorem results_sound {fn : Func} {rs : List XRes} (h : resVars P fn.results.toList = some rs) {N : Nat} {M : FMem} {E : Env} {H : Heap} {a : Act} {w : World} (hE : RepEnv N M E a) (s : Sim M H w)
 {q : AC} (hq : resVal E H rs = some q) : ∃ v, (results fn a.tmps).run P w = .ok v w ∧ Rep M q v := by
 have key : ∀ (l : List ResultVar) (rs : List XRes) (as : List AC), resVars P l = some rs → resVals E H rs = some as →
  ∃ vs : List Value, (l.mapM (resF a.tmps)).run P w = .ok vs w ∧ RepL M as vs := by
  intro l
  induction l with
  | nil =>
    intro rs as h ha
    simp [resVars] at h; subst h
    simp [resVals] at ha; subst ha
    exact ⟨[], by simp, RepL.nil M⟩
  | cons x l ih =>
    intro rs as h ha
    have one : ∀ (y : XRes) (r : List XRes), resVals E H (y :: r) = some as → (∀ b, y.val E H = some b → ∃ v, (resF a.tmps x).run P w = .ok v w ∧ Rep M b v) → resVars P l = some r →
     ∃ vs : List Value, ((x :: l).mapM (resF a.tmps)).run P w = .ok vs w ∧ RepL M as vs := by
     intro y r ha hy hr
     simp only [resVals] at ha
     split at ha
     ·rename_i b bs hb hbs
      simp at ha; subst ha
      obtain ⟨v, h1, h2⟩ := hy b hb
      obtain ⟨vs, h3, h4⟩ := ih r bs hr hbs
      refine ⟨v :: vs, ?_, RepL.cons h2 h4⟩
      rw [List.mapM_cons, Sem.run_bind, h1]
      simp only [Result.andThen_ok, Sem.run_bind, h3]
      rfl
     ·simp at ha
    cases x with
    | tmp t =>
      simp only [resVars, Option.map_eq_some_iff] at h
      obtain ⟨r, hr, rfl⟩ := h
      refine one _ _ ha (fun b hb => ?_) hr
      simp [XRes.val] at hb; subst hb
      exact ⟨_, by simp only [resF, Sem.run_pure], hE.rep t⟩
    | cell t ty =>
      simp only [resVars] at h
      split at h
      ·rename_i g hg
       simp only [Option.map_eq_some_iff] at h
       obtain ⟨r, hr, rfl⟩ := h
       refine one _ _ ha (fun b hb => ?_) hr
       simp only [XRes.val] at hb
       split at hb
       ·rename_i rr off he
        split at hb
        ·rename_i cs hget
         have hp := (he ▸ hE.rep t).ptr_inv
         obtain ⟨f, h1, h2⟩ := (s.obj _ _ hget).cells_get
         obtain ⟨v, e1, e2⟩ := partA_rep (P := P) (w := w) hg f h1 h2 hb
         simp only [Nat.zero_add] at e1
         exact ⟨v, by simp only [resF, hp, asAddr, Sem.run_bind, Sem.run_pure, Result.andThen_ok, e1], e2⟩
        ·simp at hb
       ·simp at hb
      ·simp at h
 simp only [resVal] at hq
 cases hv : resVals E H rs with
 | none => simp [hv] at hq
 | some as =>
   obtain ⟨vs, h1, h2⟩ := key _ _ _ h hv
   refine ⟨if h : vs.toArray.size = 1 then vs.toArray[0] else .tuple vs.toArray, ?_, ?_⟩
   ·rw [results_eq, Sem.run_bind, Array.mapM_eq_mapM_toList, Sem.run_map, h1]
    rfl
   ·rw [hv] at hq
    obtain ⟨hl, hr⟩ := h2
    match as, vs, hl with
    | [], [], _ => simp at hq; subst hq; exact .tup rfl (by simp)
    | [x], [v], _ => simp at hq; subst hq; simpa using hr 0 x v rfl rfl
    | x :: y :: as, v :: u :: vs, hl =>
      simp at hq; subst hq
      rw [dif_neg (by simp)]
      exact .tup (by simpa using hl) (fun j a b ha hb => hr j a b ha (by simpa using hb))
theorem acalls_of {f : FuncId} {fn : Func} {xf : XFunc} (hf : P.funcs[f]? = some fn) (hx : resFunc P fn = some xf) (hok : okFunc P fn xf = true) {xs : List AC} (hlen : xs.length ≤ xf.ntmps) {H : Heap} {R : AC → Heap → Prop}
 (h : xf.body.wp P (XFunc.post xf.results R) (initEnv xs) H) : ACalls P f xs H R := by
 intro M w vs s hr
 simp only [resFunc] at hx
 split at hx
 ·rename_i c hb
  split at hx
  ·rename_i x rs hc hrs
   simp at hx; subst hx
   simp only at hlen
   have hlv := hr.1
   refine calls_of_wp hf hb ?_
   have hE : RepEnv fn.ntmps M (initEnv xs) { tmps := vs.toArray ++ Array.replicate (fn.ntmps - vs.toArray.size) undef, defers := [] } := by
    refine ⟨by simp; omega, fun n => ?_⟩
    simp only [initEnv]
    by_cases c : n < xs.length
    ·have c' : n < vs.length := hr.1 ▸ c
     rw [List.getElem?_eq_getElem c]
     have : (vs.toArray ++ Array.replicate (fn.ntmps - vs.toArray.size) undef).getD n undef = vs[n] := by
      rw [Array.getD_eq_getD_getElem?, Array.getElem?_append_left (by simpa using c')]; simp [c']
     rw [this]
     exact hr.2 n _ _ (List.getElem?_eq_getElem c) (List.getElem?_eq_getElem c')
    ·rw [List.getElem?_eq_none (by omega)]
     have : (vs.toArray ++ Array.replicate (fn.ntmps - vs.toArray.size) undef).getD n undef = undef := by
      rw [Array.getD_eq_getD_getElem?, Array.getElem?_append_right (by simp; omega), Array.getElem?_replicate]
      split <;> rfl
     rw [this]
     exact .tup rfl (by simp)
   refine wp_mono (XCode.sound c hc (by simpa only [okFunc, hb] using hok) hE s h) ?_
   rintro e a' w' ⟨xe, E', H', M', he, hk, hE', s', t', hd⟩
   have fin : (∃ q, resVal E' H' rs = some q ∧ ∃ r H'', Told q H' r H'' ∧ R r H'') → a'.defers = [] ∧ ∃ v, (results fn a'.tmps).run P w' = .ok v w' ∧
    ∃ r v' M' H', Ending.returned v = .returned v' ∧ Rep M' r v' ∧ Sim M' H' w' ∧ Trans M H w M' H' w' ∧ R r H' := by
    rintro ⟨q, hq, r, H'', hv, hR⟩
    obtain ⟨v, h1, h2⟩ := results_sound (P := P) hrs hE' s' hq
    obtain ⟨M'', s'', t'', h3⟩ := hv M' w' v s' h2
    exact ⟨hd, v, h1, r, v, M'', H'', rfl, h3, s'', t'.trans t'', hR⟩
   cases e with
   | normal => simp [exitOf] at he; subst he; exact fin hk
   | ret => simp [exitOf] at he; subst he; exact fin hk
   | exit id => simp [exitOf] at he; subst he; exact hk.elim
   | goto l => simp [exitOf] at he
   | panic ch => simp [exitOf] at he
   | outgrown => simp [exitOf] at he
  ·simp at hx
 ·simp at hx
end
end Go.Xl
namespace Go.Xl
open Nat renaming reduceEqDiff → rE, reduceAdd → rA, reduceLeDiff → rL
@[reducible] def I (n : Int) : AC := .lit (.int .i64 n)
@[reducible] def S (s : ByteArray) : AC := .lit (.string s)
@[reducible] def B (b : Bool) : AC := .lit (.bool b)
def bl (l : List Nat) : ByteArray := ⟨(l.map UInt8.ofNat).toArray⟩
@[reducible] def NIL : AC := .lit (.slice none 0 0)
inductive Ty where
 | mk (kids : List Ty)
 deriving Inhabited
def Ty.kids : Ty → List Ty | .mk k => k
structure Pl where
 name : ByteArray
 path : List Int
 deriving Inhabited
inductive Ex where
 | mk (kind num : Int) (place : Pl) (kids : List Ex)
 deriving Inhabited
def Ex.kind : Ex → Int | .mk k _ _ _ => k
def Ex.num : Ex → Int | .mk _ n _ _ => n
def Ex.place : Ex → Pl | .mk _ _ p _ => p
def Ex.kids : Ex → List Ex | .mk _ _ _ k => k
structure Ag where
 lent : Bool
 place : Pl
 expr : Ex
 deriving Inhabited
inductive St where
 | mk (kind : Int) (name : ByteArray) (place other : Pl) (expr : Ex) (fn : ByteArray) (args : List Ag) (thn els : List St)
 deriving Inhabited
def St.kind : St → Int | .mk k .. => k
def St.name : St → ByteArray | .mk _ n .. => n
def St.place : St → Pl | .mk _ _ p .. => p
def St.other : St → Pl | .mk _ _ _ p .. => p
def St.expr : St → Ex | .mk _ _ _ _ e .. => e
def St.fn : St → ByteArray | .mk _ _ _ _ _ f .. => f
def St.args : St → List Ag | .mk _ _ _ _ _ _ a _ _ => a
def St.thn : St → List St | .mk _ _ _ _ _ _ _ t _ => t
def St.els : St → List St | .mk _ _ _ _ _ _ _ _ e => e
structure Pa where
 name : ByteArray
 lent : Bool
 type : Ty
 deriving Inhabited
structure Fu where
 name : ByteArray
 params : List Pa
 lent : Bool
 type : Ty
 body : List St
 says : Ex
 gives : Pl
 deriving Inhabited
abbrev Pg := List Fu
mutual
def Ty.enc : Ty → List AC
 | .mk ks => [.sl 1 none (Ty.encs ks)]
def Ty.encs : List Ty → List (List AC)
 | [] => []
 | t :: ts => t.enc :: Ty.encs ts
end
def zze (p : List Int) : AC := .sl 1 none (p.map fun i => [I i])
def Pl.enc (p : Pl) : List AC := [S p.name, zze p.path]
mutual
def Ex.enc : Ex → List AC
 | .mk k n p ks => [I k, I n, S p.name, zze p.path, .sl 5 none (Ex.encs ks)]
def Ex.encs : List Ex → List (List AC)
 | [] => []
 | e :: es => e.enc :: Ex.encs es
end
def Ag.enc (a : Ag) : List AC := [B a.lent, S a.place.name, zze a.place.path] ++ a.expr.enc
mutual
def St.enc : St → List AC
 | .mk k n p o e f as t l => [I k, S n, S p.name, zze p.path, S o.name, zze o.path] ++ e.enc ++ [S f, .sl 8 none (as.map Ag.enc), .sl 15 none (St.encs t), .sl 15 none (St.encs l)]
def St.encs : List St → List (List AC)
 | [] => []
 | s :: ss => s.enc :: St.encs ss
end
def Pa.enc (p : Pa) : List AC := [S p.name, B p.lent] ++ p.type.enc
def Fu.enc (f : Fu) : List AC := [S f.name, .sl 3 none (f.params.map Pa.enc), B f.lent] ++ f.type.enc ++ [.sl 15 none (St.encs f.body)] ++ f.says.enc ++ f.gives.enc
def Pg.enc (p : Pg) : List AC := [.sl 12 none (p.map Fu.enc)]
theorem Ty.zzk (ts : List Ty) : Ty.encs ts = ts.map Ty.enc := by induction ts <;> simp_all [Ty.encs]
theorem Ex.zzk (ts : List Ex) : Ex.encs ts = ts.map Ex.enc := by induction ts <;> simp_all [Ex.encs]
theorem St.zzk (ts : List St) : St.encs ts = ts.map St.enc := by induction ts <;> simp_all [St.encs]
end Go.Xl
namespace Go.Xl
open Nat renaming reduceEqDiff → rE, reduceAdd → rA, reduceLeDiff → rL
def obind (o : Option AC) (k : AC → Prop) : Prop := match o with
 | some r => k r
 | none => False
def obindL (o : Option (List AC)) (k : List AC → Prop) : Prop := match o with
 | some r => k r
 | none => False
def obind2 (o : Option (AC × Option Nat)) (k : AC → Option Nat → Prop) : Prop := match o with
 | some r => k r.1 r.2
 | none => False
theorem obind_some (r : AC) (k : AC → Prop) : obind (some r) k = k r := propext Iff.rfl
theorem obindL_some (r : List AC) (k : List AC → Prop) : obindL (some r) k = k r := propext Iff.rfl
theorem obind2_some (r : AC) (ob : Option Nat) (k : AC → Option Nat → Prop) : obind2 (some (r, ob)) k = k r ob := propext Iff.rfl
section
variable (P : Program) (dr : Bool) (K : Env → Heap → Prop) (xs : List XOper) (E : Env) (d : Option Nat) (H : Heap) (l : Lds) (f : Fps)
def runK (r : AC) : Prop := rrun P dr K xs (E.put d r) H l f
def runK2 (i : Nat) (inc : List Nat) (r : AC) (ob : Option Nat) : Prop := chkL inc f ob ∧ rrun P dr K xs (E.put d r) H (addL i ob l) f
def runKlit (sz len : Nat) (cs : List AC) : Prop := rrun P dr K xs (E.put d (.sl sz none (chunk sz len cs))) H l f
def runKbox (cs : List AC) : Prop := ∀ b, H.get b = none → rrun P dr K xs (E.put d (.ptr b 0)) (H.set b (.cells cs)) l f
def runKsl (sz len : Nat) (cs : List AC) : Prop :=
 ∀ b, H.get b = none → rrun P dr K xs (E.put d (.sl sz (some (b, len * sz, len * sz)) (chunk sz len cs))) (H.set b (.tail (len * sz) (len * sz))) l f
def runG (o : Option Bool) (x : XOper) : Prop := match o with
 | some true => rrun P dr K (x :: xs) E H l f
 | some false => rrun P dr K xs (E.put x.dst (.tup [])) H l f
 | none => False
def wcond (K : XExit → Env → Heap → Prop) (x : AC) (a b : XCode) : Prop := ∃ t, x = .lit (.bool t) ∧ (t = true → a.wp P K E H) ∧ (t = false → b.wp P K E H)
end
section
variable {P : Program} {dr : Bool} {K : Env → Heap → Prop} {xs : List XOper} {E : Env} {d : Option Nat} {H : Heap} {l : Lds} {f : Fps}
theorem runK_eq {r : AC} : runK P dr K xs E d H l f r = rrun P dr K xs (E.put d r) H l f := propext Iff.rfl
theorem runK2_eq {i : Nat} {inc : List Nat} {r : AC} {ob : Option Nat} : runK2 P dr K xs E d H l f i inc r ob = (chkL inc f ob ∧ rrun P dr K xs (E.put d r) H (addL i ob l) f) := propext Iff.rfl
theorem runKlit_eq {sz len : Nat} {cs : List AC} : runKlit P dr K xs E d H l f sz len cs = rrun P dr K xs (E.put d (.sl sz none (chunk sz len cs))) H l f := propext Iff.rfl
theorem runKbox_eq {cs : List AC} : runKbox P dr K xs E d H l f cs = ∀ b, H.get b = none → rrun P dr K xs (E.put d (.ptr b 0)) (H.set b (.cells cs)) l f := propext Iff.rfl
theorem runKsl_eq {sz len : Nat} {cs : List AC} : runKsl P dr K xs E d H l f sz len cs =
 ∀ b, H.get b = none → rrun P dr K xs (E.put d (.sl sz (some (b, len * sz, len * sz)) (chunk sz len cs))) (H.set b (.tail (len * sz) (len * sz))) l f := propext Iff.rfl
theorem runG_true {x : XOper} : runG P dr K xs E H l f (some true) x = rrun P dr K (x :: xs) E H l f := propext Iff.rfl
theorem runG_false {x : XOper} : runG P dr K xs E H l f (some false) x = rrun P dr K xs (E.put x.dst (.tup [])) H l f := propext Iff.rfl
end
section
variable {P : Program} {E : Env} {H : Heap} {K : XExit → Env → Heap → Prop} {a b : XCode}
theorem wcond_true : wcond P E H K (.lit (.bool true)) a b = a.wp P K E H := by simp [wcond]
theorem wcond_false : wcond P E H K (.lit (.bool false)) a b = b.wp P K E H := by simp [wcond]
theorem wcond_bool {t : Bool} (ha : t = true → a.wp P K E H) (hb : t = false → b.wp P K E H) : wcond P E H K (.lit (.bool t)) a b := ⟨t, rfl, ha, hb⟩
theorem zzn {p : Prop} [Decidable p] (ha : p → a.wp P K E H) (hb : ¬ p → b.wp P K E H) : wcond P E H K (.lit (.bool (decide p))) a b :=
 ⟨decide p, rfl, fun h => ha (of_decide_eq_true h), fun h => hb (of_decide_eq_false h)⟩
end
theorem put_same (E : Env) (n : Nat) (x : AC) : Env.put E (some n) x n = x := by simp [Env.put]
theorem put_other (E : Env) {n m : Nat} (x : AC) (h : m ≠ n) : Env.put E (some n) x m = E m := by simp [Env.put, h]
theorem put_none (E : Env) (x : AC) : Env.put E none x = E := rfl
section
variable {P : Program} {dr : Bool} {K : Env → Heap → Prop} {xs : List XOper} {E : Env} {H : Heap} {l : Lds} {f : Fps}
theorem run_nil : rrun P dr K [] E H l f = K E H := propext Iff.rfl
theorem run_guard {i : Nat} {d : Option Nat} {g : Nat × Bool} {op : XOp} {inc : List Nat} :
 rrun P dr K (⟨i, d, some g, op, inc⟩ :: xs) E H l f = runG P dr K xs E H l f (wantedA E (some g)) ⟨i, d, none, op, inc⟩ := by
 simp only [rrun, XOper.act]
 cases h : wantedA E (some g) with
 | none => rfl
 | some b => cases b <;> simp [runG, rrun, XOper.act, wantedA]
theorem run_pure {i : Nat} {d : Option Nat} {p : POp} {inc : List Nat} :
 rrun P dr K (⟨i, d, none, .pure p, inc⟩ :: xs) E H l f = obind (p.val (XArg.ev E)) (runK P dr K xs E d H l f) := by
 simp only [rrun, XOper.act, wantedA, obind]
 rfl
theorem run_load {i : Nat} {d : Option Nat} {o : LOp} {inc : List Nat} :
 rrun P dr K (⟨i, d, none, .load o, inc⟩ :: xs) E H l f = obind2 (o.val H (XArg.ev E)) (runK2 P dr K xs E d H l f i inc) := by
 simp only [rrun, XOper.act, wantedA, obind2, runK2]
 split <;> simp_all
theorem run_lits {i sz len : Nat} {d : Option Nat} {z : List Value} {ps : List (Nat × Nat × XArg)} {inc : List Nat} :
 rrun P dr K (⟨i, d, none, .lits sz len z ps, inc⟩ :: xs) E H l f =
  obindL (buildL ((List.replicate len (z.map AC.lit)).flatten) (ps.map fun p => (p.1, p.2.1, XArg.ev E p.2.2))) (runKlit P dr K xs E d H l f sz len) := by
 simp only [rrun, XOper.act, wantedA, obindL]
 rfl
theorem run_box {i : Nat} {d : Option Nat} {x : XArg} {inc : List Nat} :
 rrun P dr K (⟨i, d, none, .eff (.box x), inc⟩ :: xs) E H l f = obindL (x.ev E).cells? (runKbox P dr K xs E d H l f) := by
 simp only [rrun, XOper.act, wantedA, EOp.isA, EOp.run, obindL, if_true]
 rfl
theorem run_alloc {i : Nat} {d : Option Nat} {z : List Value} {inc : List Nat} :
 rrun P dr K (⟨i, d, none, .eff (.alloc z), inc⟩ :: xs) E H l f = ∀ b, H.get b = none → rrun P dr K xs (E.put d (.ptr b 0)) (H.set b (allocO z)) l f := by
 simp only [rrun, XOper.act, wantedA, EOp.isA, EOp.run, if_true]
theorem allocO_int {k : IntKind} {n : Int} {z : List Value} : allocO (.int k n :: z) = .cells ((Value.int k n :: z).map .lit) := rfl
theorem allocO_bool {n : Bool} {z : List Value} : allocO (.bool n :: z) = .cells ((Value.bool n :: z).map .lit) := rfl
theorem allocO_string {n : ByteArray} {z : List Value} : allocO (.string n :: z) = .cells ((Value.string n :: z).map .lit) := rfl
theorem allocO_slice {a : Option Addr} {n c : Nat} {z : List Value} : allocO (.slice a n c :: z) = .cells ((Value.slice a n c :: z).map .lit) := rfl
theorem allocO_pointer {a : Option Addr} {z : List Value} : allocO (.pointer a :: z) = .cells ((Value.pointer a :: z).map .lit) := rfl
theorem allocO_iface {z : List Value} : allocO (.nilIface :: z) = .cells ((Value.nilIface :: z).map .lit) := rfl
theorem allocO_map {a : Option Nat} {z : List Value} : allocO (.map a :: z) = .cells ((Value.map a :: z).map .lit) := rfl
theorem allocO_typed {ts : Array Value} {z : List Value} : allocO (.tuple ts :: z) = .typed ts.size (z.map .lit) := rfl
theorem run_buildSlice {i sz len : Nat} {d : Option Nat} {z : List Value} {ps : List (Nat × Nat × XArg)} {inc : List Nat} :
 rrun P dr K (⟨i, d, none, .eff (.buildSlice sz len z ps), inc⟩ :: xs) E H l f =
  obindL (buildL ((List.replicate len (z.map AC.lit)).flatten) (ps.map fun p => (p.1, p.2.1, XArg.ev E p.2.2))) (runKsl P dr K xs E d H l f sz len) := by
 simp only [rrun, XOper.act, wantedA, EOp.isA, EOp.run, obindL, if_true]
 rfl
def mv (i d : Nat) (a : XArg) : XOper := ⟨i, some d, none, .pure (.move a), []⟩
def pu (i d : Nat) (p : POp) : XOper := ⟨i, some d, none, .pure p, []⟩
def ld (i d : Nat) (g : Option Nat) (a : XArg) : XOper := ⟨i, some d, none, .load (.load g a), []⟩
def sl (n : Nat) : XArg := .slot n
instance (n : Nat) : OfNat XArg n := ⟨.slot n⟩
def ci (n : Int) : XArg := .const (.int .i64 n)
def ct : XArg := .const (.bool true)
def cf : XArg := .const (.bool false)
def rg (xs : List XOper) : XCode := .region false xs
def ca (i d : Nat) (f : FuncId) (as : List XArg) : XOper := ⟨i, some d, none, .eff (.call f as), []⟩
def gp (i d g : Nat) (b : Bool) (p : POp) : XOper := ⟨i, some d, some (g, b), .pure p, []⟩
def gl (i d g : Nat) (b : Bool) (o : Option Nat) (a : XArg) : XOper := ⟨i, some d, some (g, b), .load (.load o a), []⟩
def fa (i d k : Nat) (x : XArg) : XOper := pu i d (.fieldAddr k x)
def nc (i d : Nat) (x : XArg) : XOper := pu i d (.nilCheck x)
def ia (i d z : Nat) (x y : XArg) : XOper := pu i d (.indexAddr z x y)
theorem run_fa {i d k : Nat} {x : XArg} : rrun P dr K (fa i d k x :: xs) E H l f = rrun P dr K (pu i d (.fieldAddr k x) :: xs) E H l f := propext Iff.rfl
theorem run_nc {i d : Nat} {x : XArg} : rrun P dr K (nc i d x :: xs) E H l f = rrun P dr K (pu i d (.nilCheck x) :: xs) E H l f := propext Iff.rfl
theorem run_ia {i d z : Nat} {x y : XArg} : rrun P dr K (ia i d z x y :: xs) E H l f = rrun P dr K (pu i d (.indexAddr z x y) :: xs) E H l f := propext Iff.rfl
theorem ev_num {n : Nat} : XArg.ev E (no_index (OfNat.ofNat n : XArg)) = E (OfNat.ofNat n : Nat) := rfl
theorem ev_ci {n : Int} : XArg.ev E (ci n) = I n := rfl
theorem ev_ct : XArg.ev E ct = B true := rfl
theorem ev_cf : XArg.ev E cf = B false := rfl
theorem run_gp {i d g : Nat} {b : Bool} {p : POp} : rrun P dr K (gp i d g b p :: xs) E H l f = rrun P dr K (⟨i, some d, some (g, b), .pure p, []⟩ :: xs) E H l f := propext Iff.rfl
theorem run_gl {i d g : Nat} {b : Bool} {o : Option Nat} {a : XArg} : rrun P dr K (gl i d g b o a :: xs) E H l f = rrun P dr K (⟨i, some d, some (g, b), .load (.load o a), []⟩ :: xs) E H l f := propext Iff.rfl
theorem wp_rg {xs : List XOper} {K : XExit → Env → Heap → Prop} : (rg xs).wp P K E H = rrun P false (K .normal) xs E H [] [] := propext Iff.rfl
theorem ev_slot {n : Nat} : XArg.ev E (.slot n) = E n := rfl
theorem ev_const {v : Value} : XArg.ev E (.const v) = .lit v := rfl
theorem ev_aggc {vs : List Value} : XArg.ev E (.aggc vs) = .agg (vs.map .lit) := rfl
theorem ev_func {g : FuncId} : XArg.ev E (.func g) = .fn (.func g) [] [] := rfl
theorem ev_sl {n : Nat} : XArg.ev E (sl n) = E n := rfl
theorem run_mv {i d : Nat} {a : XArg} : rrun P dr K (mv i d a :: xs) E H l f = rrun P dr K xs (E.put (some d) (a.ev E)) H l f := by
 simp only [mv, run_pure, POp.val, obind_some, runK_eq]
theorem run_pu {i d : Nat} {p : POp} : rrun P dr K (pu i d p :: xs) E H l f = obind (p.val (XArg.ev E)) (runK P dr K xs E (some d) H l f) := by
 simp only [pu, run_pure]
theorem run_ld {i d : Nat} {g : Option Nat} {a : XArg} : rrun P dr K (ld i d g a :: xs) E H l f = obind2 ((LOp.load g a).val H (XArg.ev E)) (runK2 P dr K xs E (some d) H l f i []) := by
 simp only [ld, run_load]
def runS2 (P : Program) (dr : Bool) (K : Env → Heap → Prop) (xs : List XOper) (E : Env) (d : Option Nat) (H : Heap) (l : Lds) (f : Fps) (i : Nat) (inc : List Nat) (n r off : Nat) (us : List AC) (o : Option HObj) : Prop := match o with
 | some (.cells cs) => us.length = n ∧ off + n ≤ cs.length ∧ chkE inc l (· = r) ∧ rrun P dr K xs (E.put d (.tup [])) (H.set r (.cells (yyi cs off us))) l ((i, fun b => b = r ∨ H.get b = none) :: f)
 | _ => False
def runS (P : Program) (dr : Bool) (K : Env → Heap → Prop) (xs : List XOper) (E : Env) (d : Option Nat) (H : Heap) (l : Lds) (f : Fps) (i : Nat) (inc : List Nat) (n : Nat) (a : AC) (us : Option (List AC)) : Prop := match a, us with
 | .ptr r off, some us => runS2 P dr K xs E d H l f i inc n r off us (H.get r)
 | _, _ => False
theorem runS_ptr {i n r off : Nat} {d : Option Nat} {inc : List Nat} {us : List AC} : runS P dr K xs E d H l f i inc n (.ptr r off) (some us) = runS2 P dr K xs E d H l f i inc n r off us (H.get r) := propext Iff.rfl
theorem runS2_cells {i n r off : Nat} {d : Option Nat} {inc : List Nat} {us cs : List AC} : runS2 P dr K xs E d H l f i inc n r off us (some (.cells cs)) =
 (us.length = n ∧ off + n ≤ cs.length ∧ chkE inc l (· = r) ∧ rrun P dr K xs (E.put d (.tup [])) (H.set r (.cells (yyi cs off us))) l ((i, fun b => b = r ∨ H.get b = none) :: f)) := propext Iff.rfl
theorem run_st {i n : Nat} {d : Option Nat} {a x : XArg} {inc : List Nat} :
 rrun P dr K (⟨i, d, none, .eff (.store n a x), inc⟩ :: xs) E H l f = runS P dr K xs E d H l f i inc n (a.ev E) (x.ev E).cells? := by
 simp only [rrun, XOper.act, wantedA, EOp.isA, EOp.run, Bool.false_eq_true, if_false, runS]
 split
 ·rename_i ha hx
  simp only [ha, hx, runS2]
  split <;> simp_all
 ·rename_i h
  split
  ·rename_i ha hx
   exact absurd ‹(x.ev E).cells? = some _› (h _ _ _ ‹a.ev E = .ptr _ _›)
  ·rfl
def Pure1 (P : Program) (g : FuncId) (as : List AC) (r : AC) : Prop := ACalls P g as .empty fun q H' => q = r ∧ H' = .empty
theorem live_pure (r : AC) : Live (fun q H' => q = r ∧ H' = Heap.empty) .empty := fun N => ⟨r, .empty, ⟨rfl, rfl⟩, fun b hb => by simp at hb⟩
theorem zzc {i : Nat} {g : FuncId} {args : List XArg} {d : Option Nat} {inc : List Nat} {as : List AC} {r : AC} (hc : Pure1 P g as r) (ha : args.map (XArg.ev E) = as)
 (h : rrun P dr K xs (E.put d r) H l ((i, fun b => False ∨ H.get b = none) :: f)) : rrun P dr K (⟨i, d, none, .eff (.call g args), inc⟩ :: xs) E H l f := by
 simp only [rrun, XOper.act, wantedA, EOp.isA, EOp.run, ha, Bool.false_eq_true, if_false]
 refine ⟨.empty, _, H.zzf, hc, fun _ => live_pure r, ?_⟩
 rintro q H' ⟨rfl, rfl⟩ hd
 refine ⟨?_, ?_⟩
 ·cases inc with
  | nil => trivial
  | cons => intro z hz hi; simp
 ·rw [Heap.swap_empty]
  simpa using h
theorem run_call {i : Nat} {g : FuncId} {args : List XArg} {d : Option Nat} {inc : List Nat} {as : List AC} {Hf : Heap} {R : AC → Heap → Prop} (hc : ACalls P g as Hf R) (ha : args.map (XArg.ev E) = as) (hs : Hf.sub H)
 (hlive : dr = true → Live R Hf) (hchk : chkE inc l fun b => Hf.get b ≠ none)
 (h : ∀ r H', R r H' → (∀ b, H'.get b ≠ none → Hf.get b = none → H.get b = none) → rrun P dr K xs (E.put d r) (H.swap Hf H') l ((i, fun b => Hf.get b ≠ none ∨ H.get b = none) :: f)) :
 rrun P dr K (⟨i, d, none, .eff (.call g args), inc⟩ :: xs) E H l f := by
 simp only [rrun, XOper.act, wantedA, EOp.isA, EOp.run, ha, Bool.false_eq_true, if_false]
 exact ⟨Hf, R, hs, hc, hlive, fun r H' hr hd => ⟨hchk, h r H' hr hd⟩⟩
end
section
variable {P : Program} {K : XExit → Env → Heap → Prop} {E : Env} {H : Heap}
theorem wp_skip : XCode.skip.wp P K E H = K .normal E H := propext Iff.rfl
theorem wp_region {d : Bool} {xs : List XOper} : (XCode.region d xs).wp P K E H = rrun P d (K .normal) xs E H [] [] := propext Iff.rfl
theorem wp_region2 {a b : Nat} {xs ys : List XOper} : (XCode.region2 a b xs ys).wp P K E H = (rrun P true (K .normal) xs E H [] [] ∧ rrun P true (K .normal) ys E H [] []) := propext Iff.rfl
theorem wp_seq {a b : XCode} : (XCode.seq a b).wp P K E H = a.wp P (XExit.then (b.wp P K) K) E H := propext Iff.rfl
theorem wp_cond {c : XArg} {a b : XCode} : (XCode.cond c a b).wp P K E H = wcond P E H K (c.ev E) a b := propext Iff.rfl
theorem wp_block {id : Nat} {c : XCode} : (XCode.block id c).wp P K E H = c.wp P (XExit.inBlock id K) E H := propext Iff.rfl
theorem wp_exit {id : Nat} : (XCode.exit id).wp P K E H = K (.exit id) E H := propext Iff.rfl
theorem wp_ret : XCode.ret.wp P K E H = K .ret E H := propext Iff.rfl
theorem XCode.wp_mono {c : XCode} : ∀ {K K' : XExit → Env → Heap → Prop} {E : Env} {H : Heap}, (∀ e E H, K e E H → K' e E H) → c.wp P K E H → c.wp P K' E H := by
 induction c with
 | skip => intro K K' E H h; exact h _ _ _
 | region d xs => intro K K' E H h; exact rrun_mono (h .normal) xs
 | region2 a b xs ys => intro K K' E H h hh; exact ⟨rrun_mono (h .normal) xs hh.1, rrun_mono (h .normal) ys hh.2⟩
 | seq a b iha ihb =>
   intro K K' E H h
   refine iha (fun e E H q => ?_)
   cases e with
   | normal => exact ihb h q
   | exit i => exact h _ _ _ q
   | ret => exact h _ _ _ q
 | cond c a b iha ihb => intro K K' E H h; rintro ⟨t, h0, h1, h2⟩; exact ⟨t, h0, fun q => iha h (h1 q), fun q => ihb h (h2 q)⟩
 | block i c ih =>
   intro K K' E H h
   refine ih (fun e E H q => ?_)
   cases e with
   | normal => exact h _ _ _ q
   | exit j =>
     simp only [XExit.inBlock] at q ⊢
     split <;> rename_i hj <;> simp only [hj, if_true, if_false] at q <;> exact h _ _ _ q
   | ret => exact h _ _ _ q
 | loop c ih =>
   intro K K' E H h
   rintro ⟨J, h0, h1⟩
   refine ⟨J, h0, fun n E H q => ih (fun e E H q => ?_) (h1 n E H q)⟩
   cases e with
   | normal => exact q
   | exit i => exact h _ _ _ q
   | ret => exact h _ _ _ q
 | exit i => intro K K' E H h; exact h _ _ _
 | ret => intro K K' E H h; exact h _ _ _
theorem wp_loopW {c : XCode} (I : Nat → Env → Heap → Prop) (n : Nat) (h0 : I n E H)
 (h : ∀ n E H, I n E H → c.wp P (XExit.then (fun E' H' => ∃ m, m < n ∧ ∃ H'', HWk H' H'' ∧ I m E' H'') K) E H) : (XCode.loop c).wp P K E H := ⟨I, ⟨n, h0⟩, h⟩
theorem wp_loop {c : XCode} (I : Nat → Env → Heap → Prop) (n : Nat) (h0 : I n E H)
 (h : ∀ n E H, I n E H → c.wp P (XExit.then (fun E' H' => ∃ m, m < n ∧ ∃ H'', H''.sub H' ∧ I m E' H'') K) E H) : (XCode.loop c).wp P K E H := by
 refine wp_loopW I n h0 fun n E H hI => XCode.wp_mono (fun e E' H' he => ?_) (h n E H hI)
 cases e with
 | normal => obtain ⟨m, hm, H'', hs, hi⟩ := he; exact ⟨m, hm, H'', .of_sub hs, hi⟩
 | exit i => exact he
 | ret => exact he
theorem wp_rangeW {c : XCode} (len : Nat) (J : Nat → Env → Heap → Prop) (h0 : J 0 E H)
 (h : ∀ k E H, k ≤ len → J k E H → c.wp P (XExit.then (fun E' H' => k < len ∧ ∃ H'', HWk H' H'' ∧ J (k + 1) E' H'') K) E H) : (XCode.loop c).wp P K E H := by
 refine wp_loopW (fun n E H => ∃ k, n = len - k ∧ k ≤ len ∧ J k E H) len ⟨0, rfl, Nat.zero_le _, h0⟩ ?_
 rintro n E H ⟨k, rfl, hk, hJ⟩
 refine XCode.wp_mono (fun e E' H' he => ?_) (h k E H hk hJ)
 cases e with
 | normal =>
   obtain ⟨hlt, H'', hs, hj⟩ := he
   exact ⟨len - (k + 1), by omega, H'', hs, k + 1, rfl, hlt, hj⟩
 | exit i => exact he
 | ret => exact he
theorem yyc {c : XCode} (len : Nat) (J : Nat → Env → Heap → Prop) (h0 : J 0 E H)
 (h : ∀ k E H, k ≤ len → J k E H → c.wp P (XExit.then (fun E' H' => k < len ∧ ∃ H'', H''.sub H' ∧ J (k + 1) E' H'') K) E H) : (XCode.loop c).wp P K E H := by
 refine wp_rangeW len J h0 fun k E H hk hJ => XCode.wp_mono (fun e E' H' he => ?_) (h k E H hk hJ)
 cases e with
 | normal => obtain ⟨hm, H'', hs, hi⟩ := he; exact ⟨hm, H'', .of_sub hs, hi⟩
 | exit i => exact he
 | ret => exact he
theorem xxa {A : Env → Heap → Prop} : XExit.then A K .normal E H = A E H := propext Iff.rfl
theorem then_exit {A : Env → Heap → Prop} {i : Nat} : XExit.then A K (.exit i) E H = K (.exit i) E H := propext Iff.rfl
theorem then_ret {A : Env → Heap → Prop} : XExit.then A K .ret E H = K .ret E H := propext Iff.rfl
theorem inBlock_normal {i : Nat} : XExit.inBlock i K .normal E H = K .normal E H := propext Iff.rfl
theorem inBlock_ret {i : Nat} : XExit.inBlock i K .ret E H = K .ret E H := propext Iff.rfl
theorem xxi {i : Nat} : XExit.inBlock i K (.exit i) E H = K .normal E H := by simp [XExit.inBlock]
theorem inBlock_other {i j : Nat} (h : j ≠ i) : XExit.inBlock i K (.exit j) E H = K (.exit j) E H := by simp [XExit.inBlock, h]
end
theorem post_slot {E : Env} {H : Heap} {n : Nat} {R : AC → Heap → Prop} (h : R (E n) H) : XFunc.post [.slot n] R .ret E H :=
 ⟨E n, rfl, E n, H, .refl _ _, h⟩
theorem post_cell {E : Env} {H : Heap} {n r off : Nat} {g : Option Nat} {cs : List AC} {q : AC} {R : AC → Heap → Prop} (hE : E n = .ptr r off) (hg : H.get r = some (.cells cs)) (hq : partA g cs off = some q)
 {H' : Heap} (hs : H'.sub H) (h : R q H') : XFunc.post [.cell n g] R .ret E H :=
 ⟨q, by simp only [resVal, resVals, XRes.val, hE, hg, hq], q, H', .of (.refl _) hs, h⟩
theorem cells?_agg (cs : List AC) : AC.cells? (.agg cs) = some cs := rfl
theorem cells?_sl (sz : Nat) (t : Option (Nat × Nat × Nat)) (es : List (List AC)) : AC.cells? (.sl sz t es) = some [.sl sz t es] := rfl
theorem cells?_ptr (r o : Nat) : AC.cells? (.ptr r o) = some [.ptr r o] := rfl
theorem cells?_elt (cs : List AC) : AC.cells? (.elt cs) = some [.elt cs] := rfl
theorem cells?_iface (t : TypeId) (x : AC) : AC.cells? (.iface t x) = some [.iface t x] := rfl
theorem cells?_fn (f : Fn) (a b : List AC) : AC.cells? (.fn f a b) = some [.fn f a b] := rfl
theorem cells?_int (k : IntKind) (n : Int) : AC.cells? (.lit (.int k n)) = some [.lit (.int k n)] := rfl
theorem cells?_string (s : ByteArray) : AC.cells? (.lit (.string s)) = some [.lit (.string s)] := rfl
theorem cells?_bool (b : Bool) : AC.cells? (.lit (.bool b)) = some [.lit (.bool b)] := rfl
theorem cells?_slice (a : Option Addr) (n c : Nat) : AC.cells? (.lit (.slice a n c)) = some [.lit (.slice a n c)] := rfl
theorem cells?_pointer (a : Option Addr) : AC.cells? (.lit (.pointer a)) = some [.lit (.pointer a)] := rfl
theorem cells?_nilIface : AC.cells? (.lit .nilIface) = some [.lit .nilIface] := rfl
theorem beq_tt : (true == true) = true := rfl
theorem beq_tf : (true == false) = false := rfl
theorem beq_ft : (false == true) = false := rfl
theorem beq_ff : (false == false) = true := rfl
theorem ite_t {α : Type} (a b : α) : (if true = true then a else b) = a := rfl
theorem ite_f {α : Type} (a b : α) : (if false = true then a else b) = b := rfl
theorem Heap.set_set (H : Heap) (b : Nat) (o o' : HObj) : (H.set b o).set b o' = H.set b o' := by
 apply Heap.ext; intro c; simp only [Heap.get_set]; split <;> rfl
theorem yya {n : Int} (h : -9223372036854775808 ≤ n) (h' : n ≤ 9223372036854775807) : IntKind.i64.wrap n = n :=
 wrap_id .i64 n (by simpa [IntKind.min, IntKind.bits, IntKind.signed] using h) (by simpa [IntKind.max, IntKind.bits, IntKind.signed] using h')
def Fits (P : Program) (f : FuncId) (x : XFunc) : Prop :=
 ∀ {xs : List AC} {H : Heap} {R : AC → Heap → Prop}, xs.length ≤ x.ntmps → x.body.wp P (XFunc.post x.results R) (initEnv xs) H → ACalls P f xs H R
theorem fits_of {P : Program} {f : FuncId} {fn : Func} {xf : XFunc} (hf : P.funcs[f]? = some fn) (hx : resFunc P fn = some xf) (hok : okFunc P fn xf = true) : Fits P f xf :=
 fun hlen h => acalls_of hf hx hok hlen h
attribute [go_sem] run_fa run_nc run_ia ev_num ev_ci ev_ct ev_cf run_gp run_gl wp_rg List.drop_zero List.drop_succ_cons List.append_nil List.nil_append allocO_int allocO_bool allocO_string allocO_slice allocO_pointer allocO_iface allocO_map allocO_typed List.not_mem_nil false_implies implies_true Nat.add_zero Nat.zero_add Nat.zero_mul Nat.one_mul Nat.mul_one Nat.le_refl buildL Heap.zzb Heap.zza beq_tt beq_tf beq_ft beq_ff ite_t ite_f decide_true decide_false Bool.not_true Bool.not_false run_st runS_ptr runS2_cells yyi List.take_succ_cons List.take_zero List.length_cons List.length_nil List.take_nil List.drop_nil Heap.set_set ev_sl run_mv run_pu run_ld obind_some obindL_some obind2_some runG_true runG_false runK_eq runK2_eq runKlit_eq runKbox_eq runKsl_eq wcond_true wcond_false put_same put_other put_none run_nil run_guard run_pure run_load run_lits run_box run_alloc run_buildSlice
 wp_skip wp_region wp_region2 wp_seq wp_cond wp_block wp_exit wp_ret xxa then_exit then_ret inBlock_normal inBlock_ret xxi inBlock_other
 POp.val ev_slot ev_const ev_aggc ev_func intBin LOp.val partA chkL addL elemsOf bndLo bndHi cells?_agg cells?_sl cells?_ptr cells?_elt cells?_iface cells?_fn cells?_int cells?_string cells?_bool cells?_slice cells?_pointer cells?_nilIface initEnv wantedA chkE Option.bind
 List.getElem?_cons_zero List.getElem?_cons_succ Option.map_some Option.getD_some if_true if_false ne_eq not_false_eq_true not_true_eq_false List.map_cons List.map_nil true_and and_true and_self Int.natCast_nonneg Int.toNat_natCast
 List.cons_append List.nil_append List.drop_succ_cons List.drop_zero
end Go.Xl
namespace Go.Xl
open Nat renaming reduceEqDiff → rE, reduceAdd → rA, reduceLeDiff → rL
def LeA : List AC → List AC → Prop
 | [], [] => True
 | x :: xs, y :: ys => Le x y ∧ LeA xs ys
 | _, _ => False
def LeC : List AC → List AC → Prop
 | [], [] => True
 | x :: xs, y :: ys => (Le x y ∧ y.one = true) ∧ LeC xs ys
 | _, _ => False
def LeR : List (List AC) → List (List AC) → Prop
 | [], [] => True
 | x :: xs, y :: ys => LeC x y ∧ LeR xs ys
 | _, _ => False
theorem LeA.refl : ∀ xs, LeA xs xs
 | [] => trivial
 | x :: xs => ⟨.refl x, LeA.refl xs⟩
theorem LeC.refl : ∀ {xs : List AC}, (∀ x ∈ xs, x.one = true) → LeC xs xs
 | [], _ => trivial
 | x :: xs, h => ⟨⟨.refl x, h x (by simp)⟩, LeC.refl fun y hy => h y (by simp [hy])⟩
theorem LeA.length : ∀ {xs ys : List AC}, LeA xs ys → xs.length = ys.length
 | [], [], _ => rfl
 | x :: xs, y :: ys, h => by simp [LeA.length h.2]
theorem LeC.length : ∀ {xs ys : List AC}, LeC xs ys → xs.length = ys.length
 | [], [], _ => rfl
 | x :: xs, y :: ys, h => by simp [LeC.length h.2]
theorem LeR.length : ∀ {xs ys : List (List AC)}, LeR xs ys → xs.length = ys.length
 | [], [], _ => rfl
 | x :: xs, y :: ys, h => by simp [LeR.length h.2]
theorem LeA.get : ∀ {xs ys : List AC}, LeA xs ys → ∀ {j : Nat} {y}, ys[j]? = some y → ∃ x, xs[j]? = some x ∧ Le x y
 | [], [], _, j, y, h => by simp at h
 | x :: xs, y :: ys, h, 0, z, hz => by simp at hz; subst hz; exact ⟨x, rfl, h.1⟩
 | x :: xs, y :: ys, h, j + 1, z, hz => by simpa using LeA.get h.2 (by simpa using hz)
theorem LeC.get : ∀ {xs ys : List AC}, LeC xs ys → ∀ {j : Nat} {y}, ys[j]? = some y → ∃ x, xs[j]? = some x ∧ Le x y ∧ y.one = true
 | [], [], _, j, y, h => by simp at h
 | x :: xs, y :: ys, h, 0, z, hz => by simp at hz; subst hz; exact ⟨x, rfl, h.1⟩
 | x :: xs, y :: ys, h, j + 1, z, hz => by simpa using LeC.get h.2 (by simpa using hz)
theorem LeR.get : ∀ {xs ys : List (List AC)}, LeR xs ys → ∀ {j : Nat} {y}, ys[j]? = some y → ∃ x, xs[j]? = some x ∧ LeC x y
 | [], [], _, j, y, h => by simp at h
 | x :: xs, y :: ys, h, 0, z, hz => by simp at hz; subst hz; exact ⟨x, rfl, h.1⟩
 | x :: xs, y :: ys, h, j + 1, z, hz => by simpa using LeR.get h.2 (by simpa using hz)
theorem LeC.one {xs ys : List AC} (h : LeC xs ys) : ∀ y ∈ ys, y.one = true := by
 intro y hy
 obtain ⟨j, hj⟩ := List.mem_iff_getElem?.1 hy
 obtain ⟨x, -, -, h1⟩ := h.get hj
 exact h1
theorem Le.nil (sz : Nat) : Le NIL (.sl sz none []) := by
 intro M v r
 obtain ⟨rfl, -⟩ := r.yyn
 exact .sl0
theorem Le.slR {sz : Nat} {tok : Option (Nat × Nat × Nat)} {es es' : List (List AC)} (h : LeR es es') : Le (.sl sz tok es) (.sl sz none es') := by
 intro M v r
 cases r with
 | sl0 =>
   cases es' with
   | nil => exact .sl0
   | cons => simp [LeR] at h
 | sl vs hl hc hs hm hr ht =>
   have hlen := h.length
   rw [hlen]
   refine .sl vs (by omega) (by omega) (fun e he => ?_) (fun i j e x he hx => ?_) (fun i j e x he hx => ?_) (by simp)
   ·obtain ⟨i, hi⟩ := List.mem_iff_getElem?.1 he
    obtain ⟨e0, h0, hle⟩ := h.get hi
    exact ⟨by rw [← hle.length]; exact (hs e0 (List.mem_of_getElem? h0)).1, hle.one⟩
   ·obtain ⟨e0, h0, hle⟩ := h.get he
    obtain ⟨x0, hx0, -⟩ := hle.get hx
    exact hm i j e0 x0 h0 hx0
   ·obtain ⟨e0, h0, hle⟩ := h.get he
    obtain ⟨x0, hx0, hxx, -⟩ := hle.get hx
    exact hxx M _ (hr i j e0 x0 h0 hx0)
theorem Le.tok (sz : Nat) (tok : Option (Nat × Nat × Nat)) (es : List (List AC)) : Le (.sl sz tok es) (.sl sz none es) := by
 intro M v r
 cases r with
 | sl0 => exact .sl0
 | sl vs hl hc hs hm hr ht => exact .sl vs hl hc hs hm hr (by simp)
theorem Le.agg {xs ys : List AC} (h : LeC xs ys) : Le (.agg xs) (.agg ys) := by
 intro M v r
 cases r with
 | agg h1 hl hr =>
   refine .agg h.one (by rw [← h.length]; exact hl) fun j y v hy hv => ?_
   obtain ⟨x, hx, hle, -⟩ := h.get hy
   exact hle M v (hr j x v hx hv)
theorem Le.tup {xs ys : List AC} (h : LeA xs ys) : Le (.tup xs) (.tup ys) := by
 intro M v r
 cases r with
 | tup hl hr =>
   refine .tup (by rw [← h.length]; exact hl) fun j y v hy hv => ?_
   obtain ⟨x, hx, hle⟩ := h.get hy
   exact hle M v (hr j x v hx hv)
def OLe : HObj → HObj → Prop
 | .cells cs, .cells cs' => LeC cs cs'
 | o, o' => o = o'
def HLe (H H' : Heap) : Prop := ∀ b, match H.get b, H'.get b with
 | some o, some o' => OLe o o'
 | none, none => True
 | _, _ => False
theorem HLe.none {H H' : Heap} (h : HLe H H') (b : Nat) : H.get b = none ↔ H'.get b = none := by
 have := h b
 split at this <;> simp_all
theorem HLe.sim {H H' : Heap} (h : HLe H H') {M : FMem} {w : World} (s : Sim M H w) : Sim M H' w := by
 refine ⟨s.mem, fun b o' ho' => ?_⟩
 have := h b
 rw [ho'] at this
 split at this
 ·rename_i o o2 ho heq
  simp at heq; subst heq
  have so := s.obj b o ho
  unfold OLe at this
  split at this
  ·obtain ⟨vs, el, h1, h2, h3, h4, h5⟩ := so
   refine ⟨vs, el, h1, this.one, by rw [← this.length]; exact h3, fun j y v hy hv => ?_, h5⟩
   obtain ⟨x, hx, hle, -⟩ := this.get hy
   exact hle M v (h4 j x v hx hv)
  ·subst this; exact so
 ·rename_i heq; simp at heq
 ·exact this.elim
theorem Trans.dom {M M' : FMem} {H H₀ H' : Heap} {w w' : World} (h : ∀ b, H.get b = none ↔ H₀.get b = none) (t : Trans M H w M' H' w') : Trans M H₀ w M' H' w' :=
 ⟨t.le, t.size, fun b hb hn => t.same b hb ((h b).2 hn), fun b hb => (t.fresh b hb).imp (fun q e => q ((h b).2 e)) id, t.io⟩
theorem ACalls.weaken {P : Program} {f : FuncId} {xs xs' : List AC} {H H' : Heap} {R : AC → Heap → Prop} (h : ACalls P f xs H R) (hx : LeA xs' xs) (hh : HLe H' H) : ACalls P f xs' H' R := by
 intro M w vs s r
 have r' : RepL M xs vs := by
  refine ⟨by rw [← hx.length]; exact r.1, fun j y v hy hv => ?_⟩
  obtain ⟨x, hx', hle⟩ := hx.get hy
  exact hle M v (r.2 j x v hx' hv)
 refine (h M w vs (hh.sim s) r').mono ?_
 rintro e w' ⟨q, v, M', H2, h1, h2, h3, h4, h5⟩
 exact ⟨q, v, M', H2, h1, h2, h3, h4.dom fun b => (hh.none b).symm, h5⟩
theorem Told.trans_le {x y z : AC} {H H' : Heap} (h : Told x H y H') (h' : Le y z) : Told x H z H' := h.trans (.of h' H'.zzm)
theorem yym {E : Env} {H : Heap} {n r off : Nat} {g : Option Nat} {cs : List AC} {q q' : AC} {R : AC → Heap → Prop} (hE : E n = .ptr r off) (hg : H.get r = some (.cells cs)) (hq : partA g cs off = some q)
 (hl : Le q q') {H' : Heap} (hs : H'.sub H) (h : R q' H') : XFunc.post [.cell n g] R .ret E H :=
 ⟨q, by simp only [resVal, resVals, XRes.val, hE, hg, hq], q', H', .of hl hs, h⟩
theorem zzd {E : Env} {H : Heap} {n : Nat} {q' : AC} {R : AC → Heap → Prop} (hl : Le (E n) q') {H' : Heap} (hs : H'.sub H) (h : R q' H') : XFunc.post [.slot n] R .ret E H :=
 ⟨E n, rfl, q', H', .of hl hs, h⟩
end Go.Xl
namespace Go.Xl
open Nat renaming reduceEqDiff → rE, reduceAdd → rA, reduceLeDiff → rL
def AppSt (H : Heap) (sz : Nat) (es : List (List AC)) (x : AC) : Prop := (es = [] ∧ x = NIL) ∨ ∃ b n m, x = .sl sz (some (b, n, m)) es ∧ H.get b = some (.tail n m)
theorem AppSt.nil (H : Heap) (sz : Nat) : AppSt H sz [] NIL := .inl ⟨rfl, rfl⟩
theorem AppSt.le {H : Heap} {sz : Nat} {es : List (List AC)} {x : AC} (h : AppSt H sz es x) : Le x (.sl sz none es) := by
 rcases h with ⟨rfl, rfl⟩ | ⟨b, n, m, rfl, -⟩
 ·exact .nil sz
 ·exact .tok _ _ _
theorem AppSt.set {H : Heap} {sz : Nat} {es : List (List AC)} {x : AC} (h : AppSt H sz es x) {b : Nat} {cs : List AC} (hb : H.get b = some (.cells cs)) (o : HObj) : AppSt (H.set b o) sz es x := by
 rcases h with ⟨rfl, rfl⟩ | ⟨c, n, m, rfl, hc⟩
 ·exact .nil _ _
 ·refine .inr ⟨c, n, m, rfl, ?_⟩
  rw [Heap.zza _ _ (by rintro rfl; rw [hb] at hc; simp at hc)]; exact hc
theorem AppSt.new {H : Heap} {sz : Nat} {es : List (List AC)} {x : AC} (h : AppSt H sz es x) {b : Nat} (hb : H.get b = none) (o : HObj) : AppSt (H.set b o) sz es x := by
 rcases h with ⟨rfl, rfl⟩ | ⟨c, n, m, rfl, hc⟩
 ·exact .nil _ _
 ·refine .inr ⟨c, n, m, rfl, ?_⟩
  rw [Heap.zza _ _ (by rintro rfl; rw [hb] at hc; simp at hc)]; exact hc
theorem AppSt.one {H : Heap} {sz : Nat} {es : List (List AC)} {x : AC} (h : AppSt H sz es x) : x.cells? = some [x] := by
 rcases h with ⟨rfl, rfl⟩ | ⟨c, n, m, rfl, hc⟩ <;> rfl
@[go_sem] theorem elemsH_sl (H : Heap) (sz sz' : Nat) (t : Option (Nat × Nat × Nat)) (es : List (List AC)) : elemsH H sz (.sl sz' t es) = if sz = sz' then some es else none := rfl
@[go_sem] theorem elemsH_nil (H : Heap) (sz : Nat) : elemsH H sz NIL = some [] := rfl
def Keeps (H H' : Heap) : Prop := (∀ b cs, H.get b = some (.cells cs) → H'.get b = some (.cells cs)) ∧ ∀ b cs, H'.get b = some (.cells cs) → H.get b = some (.cells cs)
section
variable {P : Program} {dr : Bool} {K : Env → Heap → Prop} {xs : List XOper} {E : Env} {H : Heap} {l : Lds} {f : Fps}
theorem run_appM {i sz bytes : Nat} {d : Option Nat} {s y : XArg} {inc : List Nat} {es ys : List (List AC)} (hs : AppSt H sz es (s.ev E)) (hy : elemsH H sz (y.ev E) = some ys) (hsz : ∀ e ∈ ys, e.length = sz) (hl : es.length + ys.length ≤ 2 ^ 32)
 (hinc : inc = []) (h : ∀ x' H' fp, AppSt H' sz (es ++ ys) x' → Keeps H H' → rrun P dr K xs (E.put d x') H' l ((i, fp) :: f)) :
 rrun P dr K (⟨i, d, none, .eff (.appendM sz bytes s y), inc⟩ :: xs) E H l f := by
 subst hinc
 have keep : ∀ b o, (H.get b = none ∨ ∃ n m, H.get b = some (.tail n m)) → (∃ n m, o = .tail n m) → Keeps H (H.set b o) := by
  rintro b o hb ⟨n, m, rfl⟩
  refine ⟨fun c cs hc => ?_, fun c cs hc => ?_⟩
  ·rw [Heap.zza _ _ (by rintro rfl; rcases hb with hb | ⟨n, m, hb⟩ <;> rw [hb] at hc <;> simp at hc)]; exact hc
  ·rw [Heap.get_set] at hc
   split at hc
   ·simp at hc
   ·exact hc
 simp only [rrun, XOper.act, wantedA, EOp.isA, EOp.run, hy, Bool.false_eq_true, if_false]
 refine ⟨hsz, ?_⟩
 rcases hs with ⟨rfl, e⟩ | ⟨b, n, m, e, hb⟩
 ·simp only [e, appM]
  refine ⟨by simpa using hl, fun e => ?_, fun e => .inl fun b m hb hm => ?_⟩
  ·subst e; exact ⟨trivial, h NIL H _ (.nil _ _) ⟨fun _ _ h => h, fun _ _ h => h⟩⟩
  ·exact ⟨trivial, h _ _ _ (.inr ⟨b, _, _, rfl, Heap.zzb _ _ _⟩) (keep b _ (.inl hb) ⟨_, _, rfl⟩)⟩
 ·simp only [e, appM]
  refine ⟨trivial, hl, hb, .inl fun b' m' hb' hm => ⟨trivial, h _ _ _ (.inr ⟨b', _, _, rfl, Heap.zzb _ _ _⟩) (keep b' _ ?_ ⟨_, _, rfl⟩)⟩⟩
  rcases hb' with rfl | hb'
  ·exact .inr ⟨n, m, hb⟩
  ·exact .inl hb'
def tokOf (x : AC) (d : Nat) : Prop := ∃ sz n m es, x = .sl sz (some (d, n, m)) es
theorem chkE_false (inc : List Nat) (l : Lds) : chkE inc l (fun _ => False) := by
 cases inc with
 | nil => trivial
 | cons => intro z hz hi hf; exact hf
theorem run_appM2 {i sz bytes : Nat} {d : Option Nat} {s y : XArg} {inc : List Nat} {es ys : List (List AC)} (hs : AppSt H sz es (s.ev E)) (hy : elemsH H sz (y.ev E) = some ys) (hsz : ∀ e ∈ ys, e.length = sz) (hl : es.length + ys.length ≤ 2 ^ 32)
 (h : ∀ x' H' fp, AppSt H' sz (es ++ ys) x' → (∀ c, fp c → H.get c = none) → (∀ c, H.get c ≠ none → ¬ tokOf (s.ev E) c → H'.get c = H.get c) → (∀ c, tokOf x' c → tokOf (s.ev E) c ∨ H.get c = none) →
  rrun P dr K xs (E.put d x') H' l ((i, fp) :: f)) :
 rrun P dr K (⟨i, d, none, .eff (.appendM sz bytes s y), inc⟩ :: xs) E H l f := by
 simp only [rrun, XOper.act, wantedA, EOp.isA, EOp.run, hy, Bool.false_eq_true, if_false]
 refine ⟨hsz, ?_⟩
 rcases hs with ⟨rfl, e⟩ | ⟨b, n, m, e, hb⟩
 ·simp only [e, appM]
  refine ⟨by simpa using hl, fun e' => ?_, fun e' => .inl fun b m hb hm => ?_⟩
  ·subst e'; exact ⟨chkE_false _ _, h NIL H _ (.nil _ _) (fun c hc => hc.resolve_left id) (fun _ _ _ => rfl) (fun c ⟨_, _, _, _, e'⟩ => by simp at e')⟩
  ·refine ⟨chkE_false _ _, h _ _ _ (.inr ⟨b, _, _, rfl, Heap.zzb _ _ _⟩) (fun c hc => hc.resolve_left id) (fun c hc _ => Heap.zza _ _ (by rintro rfl; exact hc hb)) (fun c ⟨_, _, _, _, e'⟩ => ?_)⟩
   simp at e'; obtain ⟨-, ⟨rfl, -⟩, -⟩ := e'; exact .inr hb
 ·simp only [e, appM]
  refine ⟨trivial, hl, hb, .inl fun b' m' hb' hm => ⟨chkE_false _ _, h _ _ _ (.inr ⟨b', _, _, rfl, Heap.zzb _ _ _⟩) (fun c hc => hc.resolve_left id) (fun c hc hn => Heap.zza _ _ ?_) (fun c ⟨_, _, _, _, e'⟩ => ?_)⟩⟩
  ·rintro rfl
   rcases hb' with rfl | hb'
   ·exact hn ⟨_, _, _, _, e⟩
   ·exact hc hb'
  ·simp at e'; obtain ⟨-, ⟨rfl, -⟩, -⟩ := e'
   rcases hb' with rfl | hb'
   ·exact .inl ⟨_, _, _, _, e⟩
   ·exact .inr hb'
theorem AppSt.elems {H H' : Heap} {sz : Nat} {es : List (List AC)} {x : AC} (h : AppSt H sz es x) : elemsH H' sz x = some es := by
 rcases h with ⟨rfl, rfl⟩ | ⟨c, n, m, rfl, hc⟩
 ·rfl
 ·rw [elemsH_sl, if_pos rfl]
end
end Go.Xl
namespace Go.Xl
open Nat renaming reduceEqDiff → rE, reduceAdd → rA, reduceLeDiff → rL
open Classical in
noncomputable def Heap.only (H : Heap) (S : Nat → Prop) : Heap :=
 ⟨fun b => if S b then H.get b else none, by
  obtain ⟨N, h⟩ := H.fin
  exact ⟨N, fun b hb => by split <;> simp [h b hb]⟩⟩
theorem Heap.xxf {H : Heap} {S : Nat → Prop} {b : Nat} (h : S b) : (H.only S).get b = H.get b := by simp [Heap.only, h]
theorem Heap.only_none {H : Heap} {S : Nat → Prop} {b : Nat} (h : ¬ S b) : (H.only S).get b = none := by simp [Heap.only, h]
theorem Heap.only_sub (H : Heap) (S : Nat → Prop) : (H.only S).sub H := by
 intro b o hb
 by_cases h : S b
 ·rwa [Heap.xxf h] at hb
 ·rw [Heap.only_none h] at hb; simp at hb
structure After (S : Nat → Prop) (H H1 : Heap) : Prop where
 out : ∀ b, ¬ S b → H.get b ≠ none → H1.get b = H.get b
theorem swap_sub {H Hf H' : Heap} : H'.sub (H.swap Hf H') := by
 intro b o hb
 rw [Heap.get_swap, hb]; rfl
section
variable {P : Program} {dr : Bool} {K : Env → Heap → Prop} {xs : List XOper} {E : Env} {H : Heap} {l : Lds} {f : Fps}
theorem ACalls.args {P : Program} {f : FuncId} {xs xs' : List AC} {H : Heap} {R : AC → Heap → Prop} (h : ACalls P f xs H R) (hx : LeA xs' xs) : ACalls P f xs' H R := by
 intro M w vs s r
 refine h M w vs s ⟨by rw [← hx.length]; exact r.1, fun j y v hy hv => ?_⟩
 obtain ⟨x, hx', hle⟩ := hx.get hy
 exact hle M v (r.2 j x v hx' hv)
theorem run_callS {i : Nat} {g : FuncId} {args : List XArg} {d : Option Nat} {inc : List Nat} {as as' : List AC} (S : Nat → Prop) {R : AC → Heap → Prop} (hc : ACalls P g as (H.only S) R)
 (ha : args.map (XArg.ev E) = as') (hl : LeA as' as) (hlive : dr = true → Live R (H.only S)) (hchk : chkE inc l fun b => (H.only S).get b ≠ none)
 (h : ∀ q H' H1, R q H' → H'.sub H1 → After S H H1 → (∀ b, H'.get b ≠ none → S b ∨ H.get b = none) → (∀ b, H1.get b ≠ none → H'.get b ≠ none ∨ (¬ S b ∧ H.get b ≠ none)) →
  rrun P dr K xs (E.put d q) H1 l ((i, fun b => (H.only S).get b ≠ none ∨ H.get b = none) :: f)) :
 rrun P dr K (⟨i, d, none, .eff (.call g args), inc⟩ :: xs) E H l f := by
 refine run_call (hc.args hl) ha (H.only_sub S) hlive hchk ?_
 ·intro q H' hr hfresh
  refine h q H' _ hr swap_sub ⟨fun b hb hn => ?_⟩ (fun b hb => ?_) (fun b hb => ?_)
  ·rw [Heap.get_swap, Heap.only_none hb]
   have : H'.get b = none := by
    rcases Option.eq_none_or_eq_some (H'.get b) with e | ⟨o, e⟩
    ·exact e
    ·exact absurd (hfresh b (by simp [e]) (Heap.only_none hb)) hn
   simp [this]
  ·by_cases hs : S b
   ·exact .inl hs
   ·exact .inr (hfresh b hb (Heap.only_none hs))
  ·rw [Heap.get_swap] at hb
   split at hb
   ·exact .inl hb
   ·split at hb
    ·simp at hb
    ·rename_i h1 h2
     by_cases hs : S b
     ·rw [Heap.xxf hs] at h2
      simp at h2; exact absurd h2 hb
     ·exact .inr ⟨hs, hb⟩
end
end Go.Xl
namespace Go.Xl
open Nat renaming reduceEqDiff → rE, reduceAdd → rA, reduceLeDiff → rL
def RowAt (H : Heap) (sz : Nat) (rows : List (List AC)) (x : AC) : Prop := (rows = [] ∧ x = NIL) ∨
 ∃ b c cs, x = .lit (.slice (some ⟨b, 0, none⟩) rows.length c) ∧ H.get b = some (.cells cs) ∧ cs.length = c * sz ∧ rows.length ≤ c ∧ cs.take (rows.length * sz) = rows.flatten
def blkOf (x : AC) (d : Nat) : Prop := ∃ n c, x = .lit (.slice (some ⟨d, 0, none⟩) n c)
theorem RowAt.mono {H H' : Heap} {sz : Nat} {rows : List (List AC)} {x : AC} (h : RowAt H sz rows x) (hk : ∀ d, blkOf x d → H'.get d = H.get d) : RowAt H' sz rows x := by
 rcases h with h | ⟨b, c, cs, rfl, h1, h2⟩
 ·exact .inl h
 ·exact .inr ⟨b, c, cs, rfl, by rw [hk b ⟨_, _, rfl⟩]; exact h1, h2⟩
section
variable {P : Program} {dr : Bool} {K : Env → Heap → Prop} {xs : List XOper} {E : Env} {H : Heap} {l : Lds} {f : Fps}
theorem run_appR {i sz bytes : Nat} {d : Option Nat} {s y : XArg} {inc : List Nat} {rows ys : List (List AC)} (hs : RowAt H sz rows (s.ev E)) (hy : elemsH H sz (y.ev E) = some ys) (hsz : ∀ e ∈ ys, e.length = sz)
 (hl : rows.length + ys.length ≤ 2 ^ 32) (hinc : inc = [])
 (h : ∀ x' H' fp, RowAt H' sz (rows ++ ys) x' → (∀ c, H.get c ≠ none → ¬ blkOf (s.ev E) c → H'.get c = H.get c) → (∀ c, blkOf x' c → blkOf (s.ev E) c ∨ H.get c = none) → rrun P dr K xs (E.put d x') H' l ((i, fp) :: f)) :
 rrun P dr K (⟨i, d, none, .eff (.appendM sz bytes s y), inc⟩ :: xs) E H l f := by
 subst hinc
 simp only [rrun, XOper.act, wantedA, EOp.isA, EOp.run, hy, Bool.false_eq_true, if_false]
 refine ⟨hsz, ?_⟩
 rcases hs with ⟨rfl, e⟩ | ⟨b, c, cs, e, hg, hc, hn, ht⟩
 ·simp only [e, appM]
  refine ⟨by simpa using hl, fun e' => ⟨trivial, ?_⟩, fun hne => .inr fun b c cs hb h1 h2 h3 => ⟨trivial, ?_⟩⟩
  ·subst e'
   exact h NIL H _ (.inl ⟨rfl, rfl⟩) (fun _ _ _ => rfl) (fun c ⟨n, c', e'⟩ => by simp at e')
  ·refine h _ _ _ (.inr ⟨b, c, cs, rfl, Heap.zzb _ _ _, h2, h1, h3⟩) (fun c2 hc2 _ => ?_) (fun c2 ⟨n, c', e'⟩ => ?_)
   ·rw [Heap.zza _ _ (by rintro rfl; exact hc2 hb)]
   ·simp at e'; obtain ⟨rfl, -⟩ := e'; exact .inr hb
 ·simp only [e, appM]
  refine ⟨cs, hg, hc, hn, hl, fun b' c' cs' hb' h1 h2 h3 => ⟨trivial, ?_⟩⟩
  refine h _ _ _ (.inr ⟨b', c', cs', by rw [List.length_append], Heap.zzb _ _ _, h2, by rw [List.length_append]; exact h1, ?_⟩) (fun c2 hc2 hnb => ?_) (fun c2 ⟨n, c3, e'⟩ => ?_)
  ·rw [List.length_append, h3, ht, List.flatten_append]
  ·rw [Heap.zza]
   rintro rfl
   rcases hb' with rfl | hb'
   ·exact hnb ⟨_, _, e⟩
   ·exact hc2 hb'
  ·simp at e'; obtain ⟨rfl, -⟩ := e'
   rcases hb' with rfl | hb'
   ·exact .inl ⟨_, _, e⟩
   ·exact .inr hb'
theorem run_appC {i sz bytes b : Nat} {d : Option Nat} {s y : XArg} {inc : List Nat} {ys : List (List AC)} (hs : s.ev E = .sl sz (some (b, 0, 0)) []) (hb : H.get b = some (.tail 0 0)) (hy : elemsH H sz (y.ev E) = some ys)
 (hsz : ∀ e ∈ ys, e.length = sz) (hl : ys.length ≤ 2 ^ 32) (hchk : chkE inc l (· = b))
 (h : ∀ x' H' fp, RowAt H' sz ys x' → (∀ c, fp c → c = b ∨ H.get c = none) → (∀ c, H.get c ≠ none → c ≠ b → H'.get c = H.get c) → (∀ c, blkOf x' c → c = b ∨ H.get c = none) → rrun P dr K xs (E.put d x') H' l ((i, fp) :: f)) :
 rrun P dr K (⟨i, d, none, .eff (.appendM sz bytes s y), inc⟩ :: xs) E H l f := by
 simp only [rrun, XOper.act, wantedA, EOp.isA, EOp.run, hy, hs, Bool.false_eq_true, if_false, appM]
 refine ⟨hsz, trivial, by simpa using hl, hb, .inr ⟨trivial, trivial, fun b' c cs hb' h1 h2 h3 => ⟨hchk, ?_⟩⟩⟩
 refine h _ _ _ (.inr ⟨b', c, cs, rfl, Heap.zzb _ _ _, h2, h1, h3⟩) (fun c hc => hc) (fun c2 hc2 hnb => ?_) (fun c2 ⟨n, c3, e'⟩ => ?_)
 ·rw [Heap.zza]
  rintro rfl
  exact hb'.elim hnb hc2
 ·simp at e'; obtain ⟨rfl, -⟩ := e'; exact hb'
theorem chunk_flat {sz : Nat} : ∀ (rows : List (List AC)) (cs : List AC), (∀ e ∈ rows, e.length = sz) → cs.take (rows.length * sz) = rows.flatten → chunk sz rows.length cs = rows
 | [], cs, _, _ => rfl
 | e :: rows, cs, hs, h => by
   have he : e.length = sz := hs e (by simp)
   have hl := xxg (ys := e :: rows) (sz := sz) hs
   simp only [List.length_cons, Nat.add_mul, Nat.one_mul, List.flatten_cons, List.length_append] at h hl
   simp only [List.length_cons, chunk]
   have h1 : cs.take sz = e := by
    have := congrArg (List.take sz) h
    rw [List.take_take, Nat.min_eq_left (by omega), List.take_left' he] at this
    exact this
   have h2 : (cs.drop sz).take (rows.length * sz) = rows.flatten := by
    have := congrArg (List.drop sz) h
    rw [List.drop_take, List.drop_left' he, Nat.add_sub_cancel] at this
    exact this
   rw [h1, chunk_flat rows (cs.drop sz) (fun e he => hs e (by simp [he])) h2]
theorem RowAt.elems {sz : Nat} {rows : List (List AC)} {x : AC} (h : RowAt H sz rows x) (hs : ∀ e ∈ rows, e.length = sz) (hl : rows.length ≤ LIM) : elemsH H sz x = some rows := by
 rcases h with ⟨rfl, rfl⟩ | ⟨b, c, cs, rfl, h1, h2, h3, h4⟩
 ·rfl
 ·have : rows.length * sz ≤ c * sz := Nat.mul_le_mul_right _ h3
  simp only [elemsH, h1, Nat.zero_add]
  rw [if_pos ⟨by omega, hl⟩, List.drop_zero, chunk_flat rows cs hs h4]
theorem RowAt.one {H : Heap} {sz : Nat} {rows : List (List AC)} {x : AC} (h : RowAt H sz rows x) : x.cells? = some [x] := by
 rcases h with ⟨rfl, rfl⟩ | ⟨b, c, cs, rfl, -⟩ <;> rfl
theorem RowAt.cell {rows : List (List AC)} {sz : Nat} {cs : List AC} (hs : ∀ e ∈ rows, e.length = sz) (h : cs.take (rows.length * sz) = rows.flatten) {k j : Nat} (hk : k < rows.length) (hj : j < sz) : cs[k * sz + j]? = rows[k][j]? := by
 obtain ⟨e, x, h1, h2, h3⟩ := flatten_get hs hk hj
 have : k * sz + j < rows.length * sz := lt_of_chunk hk hj
 rw [← h, List.getElem?_take_of_lt this] at h3
 rw [h3, ← h2]
 simp [hk] at h1; rw [← h1]
end
theorem RowAt.keep {H H' : Heap} {sz : Nat} {rows : List (List AC)} {x : AC} (h : RowAt H sz rows x) (hk : Keeps H H') : RowAt H' sz rows x := by
 rcases h with h | ⟨b, c, cs, rfl, h1, h2⟩
 ·exact .inl h
 ·exact .inr ⟨b, c, cs, rfl, hk.1 _ _ h1, h2⟩
theorem AppSt.rows {H H' : Heap} {sz sz' : Nat} {rows es : List (List AC)} {x y : AC} (h : AppSt H sz es x) (hr : RowAt H sz' rows y) (hk : ∀ c, H.get c ≠ none → ¬ blkOf y c → H'.get c = H.get c) : AppSt H' sz es x := by
 rcases h with h | ⟨b, n, m, rfl, hb⟩
 ·exact .inl h
 ·refine .inr ⟨b, n, m, rfl, ?_⟩
  rw [hk b (by simp [hb])]
  ·exact hb
  ·rintro ⟨n', c', rfl⟩
   rcases hr with ⟨-, h⟩ | ⟨b', c, cs, h, hg, -⟩
   ·simp at h
   ·simp at h; obtain ⟨rfl, -⟩ := h; rw [hb] at hg; simp at hg
end Go.Xl
namespace Go.Xl
open Nat renaming reduceEqDiff → rE, reduceAdd → rA, reduceLeDiff → rL
structure Ids where
 T_i_exprNum : Nat
 T_i_exprRead : Nat
 T_i_exprTwo : Nat
 T_i_stmtCall : Nat
 T_i_stmtIf : Nat
 T_i_stmtLend : Nat
 T_i_stmtLet : Nat
 T_i_stmtPick : Nat
 T_i_stmtSet : Nat
 T_strings_Builder : Nat
 T_uint8 : Nat
 i_ProgWrite : Nat
 i_TypeOk : Nat
 i_argForm : Nat
 i_argsForm : Nat
 i_exprForm : Nat
 i_exprNothing : Nat
 i_exprOf : Nat
 i_exprText : Nat
 i_fnForm : Nat
 i_fnWrite : Nat
 i_nameForm : Nat
 i_pathForm : Nat
 i_pathText : Nat
 i_placeForm : Nat
 i_placeNothing : Nat
 i_placeText : Nat
 i_progForm : Nat
 i_progLine : Nat
 i_stmtNothing : Nat
 i_stmtOf : Nat
 i_stmtsForm : Nat
 i_stmtsWrite : Nat
 i_twoText : Nat
 i_typeFits : Nat
 i_typeIsNum : Nat
 i_typeWords : Nat
 l_lhBody : Nat
 l_lhExpr : Nat
 l_lhInts : Nat
 l_lhPlace : Nat
 l_lhProg : Nat
 l_lhType : Nat
 s_DrawProgWrite : Nat
 s_ProgWrite : Nat
 s_TypeAt : Nat
 s_TypeOk : Nat
 s_l1Copy : Nat
 s_l1Deep : Nat
 s_l1Same : Nat
 s_l1Say : Nat
 s_l2Args : Nat
 s_l2At : Nat
 s_l2Body : Nat
 s_l2Count : Nat
 s_l2Expr : Nat
 s_l2Fn : Nat
 s_l2Form : Nat
 s_l2Lines : Nat
 s_l2Name : Nat
 s_l2NoExpr : Nat
 s_l2None : Nat
 s_l2Place : Nat
 s_l2Say : Nat
 s_l2Signs : Nat
 s_l2Stmt : Nat
 s_l3Among : Nat
 s_l3Env_add : Nat
 s_l3Env_body : Nat
 s_l3Env_call : Nat
 s_l3Env_copy : Nat
 s_l3Env_ends : Nat
 s_l3Env_expr : Nat
 s_l3Env_fail : Nat
 s_l3Env_fail0 : Nat
 s_l3Env_find : Nat
 s_l3Env_fork : Nat
 s_l3Env_num : Nat
 s_l3Env_outside : Nat
 s_l3Env_pick : Nat
 s_l3Env_same : Nat
 s_l3Env_stmt : Nat
 s_l3Env_use : Nat
 s_l3Fn : Nat
 s_l3Loans : Nat
 s_l3Meet : Nat
 s_l3Order : Nat
 s_l3Start : Nat
 s_l6Dec : Nat
 s_l6In : Nat
 s_l6Open : Nat
 s_l6Rd_of : Nat
 s_l6Rd_pick : Nat
 s_l71Bend : Nat
 s_l71Deep : Nat
 s_l71Fn : Nat
 s_l71Mk_body : Nat
 s_l71Mk_call : Nat
 s_l71Mk_expr : Nat
 s_l71Mk_name : Nat
 s_l71Mk_pick : Nat
 s_l71Mk_place : Nat
 s_l71Mk_stmt : Nat
 s_l71Path : Nat
 s_l71Prog : Nat
 s_l71Some : Nat
 s_l71Type : Nat
 strconv_Itoa : Nat
 strings_Builder_Len : Nat
 strings_Builder_String : Nat
 strings_Builder_WriteByte : Nat
 strings_Builder_WriteString : Nat
 strings_Join : Nat
def kd19 (F : Ids) : XCode := .seq (rg [ld 0 101 (some 15) 3, ⟨1, none, none, .eff (.store 15 2 101), []⟩]) .ret
def kd10 (F : Ids) : XCode := .seq (.region true [mv 0 32 6, ld 1 33 (some 1) 3, mv 2 4 32, ⟨3, none, none, .eff (.store 1 5 33), []⟩]) .ret
def kd23 (F : Ids) : XCode := .seq (rg [mv 0 70 0, ca 1 71 F.s_l71Mk_call [70], ⟨2, none, none, .eff (.store 15 4 71), []⟩]) .ret
def kd13 (F : Ids) : XCode := .seq (rg [⟨0, some 70, none, .lits 1 6 [.int .i64 0] [(0, (1, ci 0)), (1, (1, ci 1)), (2, (1, ci 1)), (3, (1, ci 2)), (4, (1, ci 5)), (5, (1, ci 90))], []⟩, mv 1 71 0, nc 2 72 71, fa 3 73 0 72, ld 4 74 none 73, ca 5 75 F.s_l6Rd_pick [74, ci 6], ia 6 76 1 70 75, ld 7 77 none 76, pu 8 78 (.build [.int .i64 0, .int .i64 0, .string (bl []), .slice none 0 0, .slice none 0 0] [(0, (1, ci 1)), (1, (1, 77))]), ⟨9, none, none, .eff (.store 5 6 78), []⟩]) .ret
def kd11 (F : Ids) : XCode := .seq (.region true [mv 0 84 0, nc 1 85 84, fa 2 86 0 85, ld 3 87 none 86, fa 4 88 3 6, ld 5 89 (some 1) 88, ca 6 90 F.s_l71Path [87, 89], mv 7 83 90, pu 8 91 (.extract 83 0), pu 9 92 (.extract 83 1), ⟨10, some 8, none, .eff (.alloc [.slice none 0 0]), []⟩, mv 11 7 91, ⟨12, none, none, .eff (.store 1 8 92), []⟩]) (.seq (.region true [fa 0 93 0 6, ld 1 94 none 93, mv 2 95 7, pu 3 96 (.build [.string (bl []), .slice none 0 0] [(0, (1, 94)), (1, (1, 95))]), ⟨4, some 97, none, .load (.load (some 1) 8), [5]⟩, ⟨5, none, none, .eff (.store 2 2 96), [4]⟩, ⟨6, none, none, .eff (.store 1 3 97), []⟩]) .ret)
def kd29 (F : Ids) : XCode := .seq (rg [⟨0, some 185, none, .eff (.buildSlice 12 0 [.string (bl []), .slice none 0 0, .bool false, .slice none 0 0, .slice none 0 0, .int .i64 0, .int .i64 0, .string (bl []), .slice none 0 0, .slice none 0 0, .string (bl []), .slice none 0 0] []), []⟩, fa 1 186 0 3, ld 2 187 none 186, ⟨3, some 188, none, .eff (.appendM 12 216 185 187), []⟩, fa 4 189 0 3, ⟨5, none, none, .eff (.store 1 189 188), []⟩]) (.seq (rg [fa 0 190 0 3, ld 1 191 none 190, mv 2 192 5, ld 3 193 (some 12) 6, ia 4 194 12 191 192, ⟨5, none, none, .eff (.store 12 194 193), []⟩]) (.seq (rg [ld 0 195 (some 1) 3, ⟨1, none, none, .eff (.store 1 4 195), []⟩]) .ret))
def kd2 (F : Ids) : XCode := .seq (rg [mv 0 51 0, mv 1 52 0, nc 2 53 52, fa 3 54 2 53, ld 4 55 none 54, mv 5 56 5, pu 6 57 (.slice 6 55 none (some 56)), nc 7 58 51, fa 8 59 2 58, ⟨9, none, none, .eff (.store 1 59 57), []⟩]) (rg [mv 0 60 0, fa 1 61 1 3, ld 2 62 none 61, ld 3 63 (some 1) 4, fa 4 64 2 3, ld 5 65 (some 2) 64, fa 6 66 4 3, ld 7 67 (some 2) 66, ⟨8, some 68, none, .eff (.buildSlice 2 2 [.string (bl []), .slice none 0 0] [(0, (2, 65)), (2, (2, 67))]), []⟩, pu 9 69 (.build [.string (bl []), .bool false, .bool false, .slice none 0 0, .slice none 0 0, .bool false] [(0, (1, 62)), (1, (1, ct)), (3, (1, 63)), (4, (1, 68))]), ca 10 70 F.s_l3Env_add [60, 69]])
def kd21 (F : Ids) : XCode := .seq (rg [mv 0 44 0, ca 1 45 F.s_l71Mk_place [44], mv 2 43 45, pu 3 46 (.extract 43 0), pu 4 47 (.extract 43 1), ⟨5, some 5, none, .eff (.alloc [.string (bl []), .slice none 0 0]), []⟩, ⟨6, some 6, none, .eff (.alloc [.slice none 0 0]), []⟩, ⟨7, none, none, .eff (.store 2 5 46), []⟩, ⟨8, none, none, .eff (.store 1 6 47), []⟩]) (.seq (.region true [mv 0 48 0, ⟨1, some 49, none, .eff (.call F.s_l71Mk_name [48]), [2]⟩, ⟨2, some 50, none, .load (.load (some 2) 5), [1]⟩, pu 3 51 (.build [.int .i64 0, .string (bl []), .string (bl []), .slice none 0 0, .string (bl []), .slice none 0 0, .int .i64 0, .int .i64 0, .string (bl []), .slice none 0 0, .slice none 0 0, .string (bl []), .slice none 0 0, .slice none 0 0, .slice none 0 0] [(0, (1, ci 2)), (1, (1, 49)), (2, (2, 50))]), ⟨4, none, none, .eff (.store 15 4 51), []⟩]) .ret)
def kd1 (F : Ids) : XCode := .seq (rg [mv 0 47 0, ld 1 48 (some 2) 3, ca 2 49 F.s_l3Env_ends [47, 48], mv 3 8 49]) (.seq (.seq (rg [mv 0 9 (ci 0)]) (.block 0 (.loop (.seq (.seq (rg [mv 0 50 9, mv 1 51 8, pu 2 52 (.lenSl 51), pu 3 53 (.bin .lss 50 52)]) (.cond 53 .skip (.exit 0))) (.seq (.block 1 (.region true [mv 0 56 0, nc 1 57 56, fa 2 58 2 57, ld 3 59 none 58, mv 4 60 8, mv 5 61 9, ia 6 62 1 60 61, ld 7 63 none 62, ia 8 64 6 59 63, fa 9 65 5 64, ⟨10, none, none, .eff (.store 1 65 ct), []⟩])) (rg [mv 0 54 9, pu 1 55 (.bin .add 54 (ci 1)), mv 2 9 55])))))) (.seq (rg [ld 0 66 (some 1) 6, ⟨1, none, none, .eff (.store 1 4 66), []⟩]) .ret))
def kd22 (F : Ids) : XCode := .seq (rg [mv 0 57 0, ca 1 58 F.s_l71Mk_place [57], mv 2 56 58, pu 3 59 (.extract 56 0), pu 4 60 (.extract 56 1), ⟨5, some 7, none, .eff (.alloc [.string (bl []), .slice none 0 0]), []⟩, ⟨6, some 8, none, .eff (.alloc [.slice none 0 0]), []⟩, ⟨7, none, none, .eff (.store 2 7 59), []⟩, ⟨8, none, none, .eff (.store 1 8 60), []⟩]) (.seq (.region true [⟨0, some 61, none, .load (.load (some 2) 7), [3]⟩, mv 1 62 0, ld 2 63 (some 1) 8, ⟨3, some 64, none, .eff (.call F.s_l71Mk_expr [62, 63, ci 3]), [0]⟩, pu 4 65 (.build [.int .i64 0, .string (bl []), .string (bl []), .slice none 0 0, .string (bl []), .slice none 0 0, .int .i64 0, .int .i64 0, .string (bl []), .slice none 0 0, .slice none 0 0, .string (bl []), .slice none 0 0, .slice none 0 0, .slice none 0 0] [(0, (1, ci 3)), (2, (2, 61)), (6, (5, 64))]), ⟨5, none, none, .eff (.store 15 4 65), []⟩]) .ret)
def kd24 (F : Ids) : XCode := .seq (rg [mv 0 75 0, ca 1 76 F.s_l71Mk_place [75], mv 2 74 76, pu 3 77 (.extract 74 0), pu 4 78 (.extract 74 1), ⟨5, some 9, none, .eff (.alloc [.string (bl []), .slice none 0 0]), []⟩, ⟨6, some 10, none, .eff (.alloc [.slice none 0 0]), []⟩, ⟨7, none, none, .eff (.store 2 9 77), []⟩, ⟨8, none, none, .eff (.store 1 10 78), []⟩]) (.seq (.region true [⟨0, some 79, none, .load (.load (some 2) 9), [3]⟩, mv 1 80 0, ld 2 81 (some 1) 10, ⟨3, some 82, none, .eff (.call F.s_l71Mk_expr [80, 81, ci 2]), [0]⟩, pu 4 83 (.build [.int .i64 0, .string (bl []), .string (bl []), .slice none 0 0, .string (bl []), .slice none 0 0, .int .i64 0, .int .i64 0, .string (bl []), .slice none 0 0, .slice none 0 0, .string (bl []), .slice none 0 0, .slice none 0 0, .slice none 0 0] [(0, (1, ci 3)), (2, (2, 79)), (6, (5, 82))]), ⟨5, none, none, .eff (.store 15 4 83), []⟩]) .ret)
def kd3 (F : Ids) : XCode := .seq (rg [mv 0 155 0, mv 1 156 0, nc 2 157 156, fa 3 158 2 157, ld 4 159 none 158, mv 5 160 6, pu 6 161 (.slice 6 159 none (some 160)), nc 7 162 155, fa 8 163 2 162, ⟨9, none, none, .eff (.store 1 163 161), []⟩]) (.region true [mv 0 164 0, fa 1 165 1 3, ⟨2, some 166, none, .load (.load none 165), [10]⟩, fa 3 167 2 5, ⟨4, some 168, none, .load (.load none 167), [10]⟩, fa 5 169 3 5, ⟨6, some 170, none, .load (.load (some 1) 169), [10]⟩, fa 7 171 2 5, ld 8 172 none 171, mv 9 173 7, ⟨10, some 174, none, .eff (.call F.s_l3Loans [172, 173]), [2, 4, 6]⟩, pu 11 175 (.build [.string (bl []), .bool false, .bool false, .slice none 0 0, .slice none 0 0, .bool false] [(0, (1, 166)), (1, (1, 168)), (3, (1, 170)), (4, (1, 174))]), ca 12 176 F.s_l3Env_add [164, 175]])
def kd14 (F : Ids) : XCode := .seq (rg [⟨0, some 102, none, .lits 1 5 [.int .i64 0] [(0, (1, ci 3)), (1, (1, ci 3)), (2, (1, ci 3)), (3, (1, ci 5)), (4, (1, ci 4))], []⟩, mv 1 103 0, nc 2 104 103, fa 3 105 0 104, ld 4 106 none 105, ca 5 107 F.s_l6Rd_pick [106, ci 5], ia 6 108 1 102 107, ld 7 109 none 108, mv 8 14 109]) (.seq (.region true [mv 0 110 14, mv 1 111 0, ld 2 112 (some 1) 4, mv 3 113 2, pu 4 114 (.bin .sub 113 (ci 1)), ⟨5, some 115, none, .eff (.call F.s_l71Mk_expr [111, 112, 114]), [7]⟩, mv 6 116 0, ⟨7, some 117, none, .load (.load (some 1) 4), [5]⟩, mv 8 118 2, pu 9 119 (.bin .sub 118 (ci 1)), ca 10 120 F.s_l71Mk_expr [116, 117, 119], ⟨11, some 121, none, .eff (.buildSlice 5 2 [.int .i64 0, .int .i64 0, .string (bl []), .slice none 0 0, .slice none 0 0] [(0, (5, 115)), (5, (5, 120))]), []⟩, pu 12 122 (.build [.int .i64 0, .int .i64 0, .string (bl []), .slice none 0 0, .slice none 0 0] [(0, (1, 110)), (4, (1, 121))]), ⟨13, none, none, .eff (.store 5 6 122), []⟩]) .ret)
def kd18 (F : Ids) : XCode := .seq (.seq (rg [mv 0 33 2, pu 1 34 (.bin .lss 33 (ci 2))]) (.cond 34 (.seq (rg [pu 0 35 (.build [.string (bl []), .slice none 0 0] [(0, (1, .const (.string (bl [110, 111, 110, 101]))))]), pu 1 36 (.build [.int .i64 0, .int .i64 0, .string (bl []), .slice none 0 0, .slice none 0 0] [(0, (1, ci 2)), (2, (2, 35))]), ⟨2, none, none, .eff (.store 5 6 36), []⟩]) .ret) .skip)) (.seq (.region true [mv 0 37 0, fa 1 38 0 4, ld 2 39 none 38, pu 3 40 (.indexAddr 1 39 (ci 0)), ld 4 41 (some 1) 40, mv 5 42 2, pu 6 43 (.bin .sub 42 (ci 1)), ⟨7, some 44, none, .eff (.call F.s_l71Mk_expr [37, 41, 43]), [10, 12]⟩, mv 8 45 0, fa 9 46 0 4, ⟨10, some 47, none, .load (.load none 46), [7]⟩, pu 11 48 (.indexAddr 1 47 (ci 1)), ⟨12, some 49, none, .load (.load (some 1) 48), [7]⟩, mv 13 50 2, pu 14 51 (.bin .sub 50 (ci 1)), ca 15 52 F.s_l71Mk_expr [45, 49, 51], ⟨16, some 53, none, .eff (.buildSlice 5 2 [.int .i64 0, .int .i64 0, .string (bl []), .slice none 0 0, .slice none 0 0] [(0, (5, 44)), (5, (5, 52))]), []⟩, pu 17 54 (.build [.int .i64 0, .int .i64 0, .string (bl []), .slice none 0 0, .slice none 0 0] [(0, (1, ci 6)), (4, (1, 53))]), ⟨18, none, none, .eff (.store 5 6 54), []⟩]) .ret)
def kd20 (F : Ids) : XCode := .seq (.region2 1 6 [mv 0 29 0, ca 1 30 F.s_l71Mk_name [29], mv 2 31 0, mv 3 32 0, nc 4 33 32, fa 5 34 0 33, ⟨6, some 35, none, .load (.load none 34), []⟩, ca 7 36 F.s_l71Type [35, ci 3], ca 8 37 F.s_l71Mk_expr [31, 36, ci 3], pu 9 38 (.build [.int .i64 0, .string (bl []), .string (bl []), .slice none 0 0, .string (bl []), .slice none 0 0, .int .i64 0, .int .i64 0, .string (bl []), .slice none 0 0, .slice none 0 0, .string (bl []), .slice none 0 0, .slice none 0 0, .slice none 0 0] [(0, (1, ci 1)), (1, (1, 30)), (6, (5, 37))]), ⟨10, none, none, .eff (.store 15 4 38), []⟩] [mv 0 29 0, mv 2 31 0, mv 3 32 0, nc 4 33 32, fa 5 34 0 33, ⟨6, some 35, none, .load (.load none 34), []⟩, ca 1 30 F.s_l71Mk_name [29], ca 7 36 F.s_l71Type [35, ci 3], ca 8 37 F.s_l71Mk_expr [31, 36, ci 3], pu 9 38 (.build [.int .i64 0, .string (bl []), .string (bl []), .slice none 0 0, .string (bl []), .slice none 0 0, .int .i64 0, .int .i64 0, .string (bl []), .slice none 0 0, .slice none 0 0, .string (bl []), .slice none 0 0, .slice none 0 0, .slice none 0 0] [(0, (1, ci 1)), (1, (1, 30)), (6, (5, 37))]), ⟨10, none, none, .eff (.store 15 4 38), []⟩]) .ret
def kd6 (F : Ids) : XCode := .seq (.seq (rg [fa 0 155 0 2, ld 1 156 none 155, pu 2 157 (.bin .neq 156 (ci 5))]) (.cond 157 (.seq (rg [fa 0 158 0 2, ld 1 159 none 158, ca 2 160 F.s_l6In [159, ci 1, ci 6], mv 3 161 160, gp 4 162 161 true (.fieldAddr 13 2), gl 5 163 161 true none 162, gp 6 164 161 true (.lenSl 163), gp 7 165 161 true (.fieldAddr 14 2), gl 8 166 161 true none 165, gp 9 167 161 true (.lenSl 166), gp 10 168 161 true (.bin .add 164 167), gp 11 169 161 true (.bin .eql 168 (ci 0)), pu 12 170 (.pick 161 169 cf), mv 13 4 170]) .ret) .skip)) (.seq (rg [fa 0 171 13 2, ld 1 172 none 171, mv 2 173 1, pu 3 174 (.bin .sub 173 (ci 1)), ca 4 175 F.s_l2Body [172, 174], mv 5 176 175, gp 6 177 176 true (.fieldAddr 14 2), gl 7 178 176 true none 177, gp 8 179 176 true (.move 1), gp 9 180 176 true (.bin .sub 179 (ci 1)), ⟨10, some 181, some (176, true), .eff (.call F.s_l2Body [178, 180]), []⟩, pu 11 182 (.pick 176 181 cf), mv 12 4 182]) .ret)
def kd15 (F : Ids) : XCode := .seq (.seq (rg [mv 0 11 (ci 0)]) (.block 2 (.loop (.seq (.seq (rg [mv 0 81 11, pu 1 82 (.bin .lss 81 (ci 4))]) (.cond 82 .skip (.exit 2))) (.seq (.block 3 (.seq (rg [mv 0 86 0, ca 1 87 F.s_l71Mk_place [86], mv 2 85 87, pu 3 88 (.extract 85 0), pu 4 89 (.extract 85 1), ⟨5, some 12, none, .eff (.alloc [.string (bl []), .slice none 0 0]), []⟩, ⟨6, some 13, none, .eff (.alloc [.slice none 0 0]), []⟩, ⟨7, none, none, .eff (.store 2 12 88), []⟩, ⟨8, none, none, .eff (.store 1 13 89), []⟩]) (.seq (rg [fa 0 90 0 13, ld 1 91 none 90, pu 2 92 (.lenSl 91), pu 3 93 (.bin .eql 92 (ci 0)), mv 4 94 93, gp 5 95 94 true (.fieldAddr 0 12), gl 6 96 94 true none 95, gp 7 97 94 true (.bin .neq 96 (.const (.string (bl [110, 111, 110, 101])))), pu 8 98 (.pick 94 97 cf)]) (.cond 98 (.seq (rg [ld 0 99 (some 2) 12, pu 1 100 (.build [.int .i64 0, .int .i64 0, .string (bl []), .slice none 0 0, .slice none 0 0] [(0, (1, ci 2)), (2, (2, 99))]), ⟨2, none, none, .eff (.store 5 6 100), []⟩]) .ret) .skip)))) (rg [mv 0 83 11, pu 1 84 (.bin .add 83 (ci 1)), mv 2 11 84])))))) (.seq (rg [pu 0 101 (.build [.int .i64 0, .int .i64 0, .string (bl []), .slice none 0 0, .slice none 0 0] [(0, (1, ci 1)), (1, (1, ci 1))]), ⟨1, none, none, .eff (.store 5 6 101), []⟩]) .ret)
def kd4 (F : Ids) : XCode := .seq (.seq (rg [mv 0 135 6, mv 1 9 135]) (.block 2 (.loop (.seq (.seq (rg [mv 0 136 9, mv 1 137 0, nc 2 138 137, fa 3 139 2 138, ld 4 140 none 139, pu 5 141 (.lenSl 140), pu 6 142 (.bin .lss 136 141)]) (.cond 142 .skip (.exit 2))) (.seq (.block 3 (.seq (rg [mv 0 145 0, nc 1 146 145, fa 2 147 2 146, ld 3 148 none 147, mv 4 149 9, ia 5 150 6 148 149, fa 6 151 5 150, ld 7 152 none 151]) (.cond 152 (rg [mv 0 153 0, ca 1 154 F.s_l3Env_fail [153, ci 4]]) .skip))) (rg [mv 0 143 9, pu 1 144 (.bin .add 143 (ci 1)), mv 2 9 144])))))) (kd3 F)
def kd30 (F : Ids) : XCode := .seq (rg [fa 0 134 4 6, ld 1 135 none 134, pu 2 136 (.lenSl 135), pu 3 137 (.bin .gtr 136 (ci 1))]) (.cond 137 (.seq (rg [mv 0 138 0, fa 1 139 4 6, ld 2 140 none 139, pu 3 141 (.lenSl 140), pu 4 142 (.bin .sub 141 (ci 1)), ca 5 143 F.s_l6Rd_pick [138, 142], mv 6 8 143]) (.seq (rg [⟨0, some 144, none, .eff (.buildSlice 15 0 [.int .i64 0, .string (bl []), .string (bl []), .slice none 0 0, .string (bl []), .slice none 0 0, .int .i64 0, .int .i64 0, .string (bl []), .slice none 0 0, .slice none 0 0, .string (bl []), .slice none 0 0, .slice none 0 0, .slice none 0 0] []), []⟩, fa 1 145 4 6, ld 2 146 none 145, ⟨3, some 147, none, .eff (.appendM 15 272 144 146), []⟩, fa 4 148 4 6, ⟨5, none, none, .eff (.store 1 148 147), []⟩]) (.seq (rg [fa 0 149 4 6, ld 1 150 none 149, mv 2 151 8, ia 3 152 15 150 151, ld 4 153 (some 15) 152, ⟨5, some 9, none, .eff (.alloc [.int .i64 0, .string (bl []), .string (bl []), .slice none 0 0, .string (bl []), .slice none 0 0, .int .i64 0, .int .i64 0, .string (bl []), .slice none 0 0, .slice none 0 0, .string (bl []), .slice none 0 0, .slice none 0 0, .slice none 0 0]), []⟩, ⟨6, none, none, .eff (.store 15 9 153), []⟩]) (.seq (.region true [fa 0 154 4 6, ld 1 155 none 154, mv 2 156 8, fa 3 157 4 6, ld 4 158 none 157, mv 5 159 8, pu 6 160 (.bin .add 159 (ci 1)), ia 7 161 15 158 160, ld 8 162 (some 15) 161, ia 9 163 15 155 156, ⟨10, none, none, .eff (.store 15 163 162), []⟩]) (rg [fa 0 164 4 6, ld 1 165 none 164, mv 2 166 8, pu 3 167 (.bin .add 166 (ci 1)), ld 4 168 (some 15) 9, ia 5 169 15 165 167, ⟨6, none, none, .eff (.store 15 169 168), []⟩]))))) .skip)
def kd27 (F : Ids) : XCode := .seq (.seq (rg [mv 0 15 (ci 0)]) (.block 4 (.loop (.seq (.seq (rg [mv 0 104 15, pu 1 105 (.bin .lss 104 (ci 6))]) (.cond 105 .skip (.exit 4))) (.seq (.block 5 (.seq (rg [mv 0 108 0, ca 1 109 F.s_l71Type [108, ci 3], fa 2 110 3 6, ⟨3, none, none, .eff (.store 1 110 109), []⟩]) (.seq (rg [mv 0 111 10, fa 1 112 3 6, ld 2 113 (some 1) 112, ca 3 114 F.s_l71Mk_expr [111, 113, ci 3], fa 4 115 5 6, ⟨5, none, none, .eff (.store 5 115 114), []⟩]) (.seq (rg [mv 0 116 10, nc 1 117 116, fa 2 118 1 117, ld 3 119 none 118, ca 4 120 F.s_l3Env_copy [119], mv 5 16 120]) (.seq (.region true [mv 0 121 16, mv 1 122 16, fa 2 123 5 6, ld 3 124 (some 5) 123, ⟨4, some 125, none, .eff (.call F.s_l3Env_expr [122, 124]), [6]⟩, fa 5 126 3 6, ⟨6, some 127, none, .load (.load (some 1) 126), [4]⟩, ca 7 128 F.s_l3Env_same [121, 125, 127]]) (.seq (rg [mv 0 129 16, nc 1 130 129, fa 2 131 4 130, ld 3 132 none 131, pu 4 133 (.bin .eql 132 (ci 0))]) (.cond 133 (.seq (rg [ld 0 134 (some 12) 6, ⟨1, none, none, .eff (.store 12 4 134), []⟩]) .ret) .skip))))))) (rg [mv 0 106 15, pu 1 107 (.bin .add 106 (ci 1)), mv 2 15 107])))))) (.seq (rg [pu 0 135 (.build [.slice none 0 0] []), fa 1 136 3 6, ⟨2, none, none, .eff (.store 1 136 135), []⟩]) (.seq (rg [pu 0 137 (.build [.int .i64 0, .int .i64 0, .string (bl []), .slice none 0 0, .slice none 0 0] [(0, (1, ci 1)), (1, (1, ci 7))]), fa 1 138 5 6, ⟨2, none, none, .eff (.store 5 138 137), []⟩]) (.seq (rg [ld 0 139 (some 12) 6, ⟨1, none, none, .eff (.store 12 4 139), []⟩]) .ret)))
def kd5 (F : Ids) : XCode := .seq (.seq (rg [mv 0 5 (ci 0)]) (.block 0 (.loop (.seq (.seq (rg [mv 0 35 5, fa 1 36 4 2, ld 2 37 none 36, pu 3 38 (.lenSl 37), pu 4 39 (.bin .lss 35 38)]) (.cond 39 .skip (.exit 0))) (.seq (.block 1 (.seq (rg [fa 0 42 4 2, ld 1 43 none 42, mv 2 44 5, ia 3 45 5 43 44, ld 4 46 (some 5) 45, mv 5 47 1, pu 6 48 (.bin .sub 47 (ci 1)), ca 7 49 F.s_l2Expr [46, 48], pu 8 50 (.not 49)]) (.cond 50 (.seq (rg [mv 0 4 cf]) .ret) .skip))) (rg [mv 0 40 5, pu 1 41 (.bin .add 40 (ci 1)), mv 2 5 41])))))) (.seq (.seq (rg [fa 0 51 0 2, ld 1 52 none 51]) (.block 2 (.seq (rg [pu 0 54 (.bin .eql 52 (ci 1)), mv 1 53 54]) (.cond 53 (.seq (rg [fa 0 55 1 2, ld 1 56 none 55, ca 2 57 F.s_l6In [56, ci 0, ci 9999], mv 3 58 57, gp 4 59 58 true (.fieldAddr 4 2), gl 5 60 58 true none 59, gp 6 61 58 true (.lenSl 60), gp 7 62 58 true (.bin .eql 61 (ci 0)), pu 8 63 (.pick 58 62 cf), mv 9 4 63]) .ret) (.seq (rg [pu 0 65 (.bin .eql 52 (ci 2)), mv 1 64 65]) (.cond 64 (.seq (rg [fa 0 66 2 2, ld 1 67 (some 2) 66, ca 2 68 F.s_l2Place [67], mv 3 69 68, gp 4 70 69 true (.fieldAddr 4 2), gl 5 71 69 true none 70, gp 6 72 69 true (.lenSl 71), gp 7 73 69 true (.bin .eql 72 (ci 0)), pu 8 74 (.pick 69 73 cf), mv 9 4 74]) .ret) .skip)))))) (.seq (rg [fa 0 75 0 2, ld 1 76 none 75, ca 2 77 F.s_l6In [76, ci 3, ci 6], mv 3 78 77, gp 4 79 78 true (.fieldAddr 4 2), gl 5 80 78 true none 79, gp 6 81 78 true (.lenSl 80), gp 7 82 78 true (.bin .eql 81 (ci 2)), pu 8 83 (.pick 78 82 cf), mv 9 4 83]) .ret))
def kd12 (F : Ids) : XCode := .seq (.seq (rg [mv 0 38 4, pu 1 39 (.lenSl 38), pu 2 40 (.bin .eql 39 (ci 0))]) (.cond 40 (.seq (rg [pu 0 41 (.build [.string (bl []), .slice none 0 0] [(0, (1, .const (.string (bl [110, 111, 110, 101]))))]), pu 1 42 (.build [.slice none 0 0] []), ⟨2, none, none, .eff (.store 2 2 41), []⟩, ⟨3, none, none, .eff (.store 1 3 42), []⟩]) .ret) .skip)) (.seq (.region true [mv 0 43 0, nc 1 44 43, fa 2 45 1 44, ⟨3, some 46, none, .load (.load none 45), [14]⟩, nc 4 47 46, fa 5 48 2 47, ⟨6, some 49, none, .load (.load none 48), [14]⟩, mv 7 50 4, mv 8 51 0, nc 9 52 51, fa 10 53 0 52, ld 11 54 none 53, mv 12 55 4, pu 13 56 (.lenSl 55), ⟨14, some 57, none, .eff (.call F.s_l6Rd_pick [54, 56]), [3, 6]⟩, ia 15 58 1 50 57, ld 16 59 none 58, ia 17 60 6 49 59, ld 18 61 (some 6) 60, ⟨19, some 6, none, .eff (.alloc [.string (bl []), .bool false, .bool false, .slice none 0 0, .slice none 0 0, .bool false]), []⟩, ⟨20, none, none, .eff (.store 6 6 61), []⟩]) (.seq (.seq (rg [mv 0 62 0, nc 1 63 62, fa 2 64 0 63, ld 3 65 none 64, ca 4 66 F.s_l6Rd_pick [65, ci 3], pu 5 67 (.bin .eql 66 (ci 0))]) (.cond 67 (.region true [mv 0 68 0, nc 1 69 68, fa 2 70 1 69, ld 3 71 none 70, nc 4 72 71, fa 5 73 2 72, ld 6 74 none 73, mv 7 75 4, mv 8 76 4, pu 9 77 (.lenSl 76), pu 10 78 (.bin .sub 77 (ci 1)), ia 11 79 1 75 78, ld 12 80 none 79, ia 13 81 6 74 80, ld 14 82 (some 6) 81, ⟨15, none, none, .eff (.store 6 6 82), []⟩]) .skip)) (kd11 F)))
def kd16 (F : Ids) : XCode := .seq (.seq (rg [mv 0 79 10, pu 1 80 (.bin .lss 79 (ci 4))]) (.cond 80 (kd15 F) .skip)) (kd14 F)
def kd25 (F : Ids) : XCode := .seq (rg [mv 0 84 0, pu 1 85 (.build [.slice none 0 0] []), ca 2 86 F.s_l71Mk_expr [84, 85, ci 3], pu 3 87 (.build [.int .i64 0, .string (bl []), .string (bl []), .slice none 0 0, .string (bl []), .slice none 0 0, .int .i64 0, .int .i64 0, .string (bl []), .slice none 0 0, .slice none 0 0, .string (bl []), .slice none 0 0, .slice none 0 0, .slice none 0 0] [(0, (1, ci 5)), (6, (5, 86))]), ⟨4, some 11, none, .eff (.alloc [.int .i64 0, .string (bl []), .string (bl []), .slice none 0 0, .string (bl []), .slice none 0 0, .int .i64 0, .int .i64 0, .string (bl []), .slice none 0 0, .slice none 0 0, .string (bl []), .slice none 0 0, .slice none 0 0, .slice none 0 0]), []⟩, ⟨5, none, none, .eff (.store 15 11 87), []⟩]) (.seq (.region true [mv 0 88 0, nc 1 89 88, fa 2 90 0 89, ⟨3, some 91, none, .load (.load none 90), [8]⟩, mv 4 92 0, nc 5 93 92, fa 6 94 1 93, ld 7 95 none 94, ⟨8, some 96, none, .eff (.call F.s_l3Env_copy [95]), [3, 12]⟩, mv 9 97 0, nc 10 98 97, fa 11 99 2 98, ⟨12, some 100, none, .load (.load none 99), [8]⟩, pu 13 101 (.build [.pointer none, .pointer none, .int .i64 0] [(0, (1, 91)), (1, (1, 96)), (2, (1, 100))]), ⟨14, some 102, none, .eff (.box 101), []⟩, mv 15 12 102]) (.seq (rg [mv 0 103 12, mv 1 104 0, nc 2 105 104, fa 3 106 0 105, ld 4 107 none 106, ca 5 108 F.s_l6Rd_pick [107, ci 3], pu 6 109 (.bin .add (ci 1) 108), mv 7 110 1, pu 8 111 (.bin .sub 110 (ci 1)), ca 9 112 F.s_l71Mk_body [103, 109, 111], fa 10 113 13 11, ⟨11, none, none, .eff (.store 1 113 112), []⟩]) (.seq (.region true [mv 0 114 0, nc 1 115 114, fa 2 116 0 115, ⟨3, some 117, none, .load (.load none 116), [8]⟩, mv 4 118 0, nc 5 119 118, fa 6 120 1 119, ld 7 121 none 120, ⟨8, some 122, none, .eff (.call F.s_l3Env_copy [121]), [3, 12]⟩, mv 9 123 12, nc 10 124 123, fa 11 125 2 124, ⟨12, some 126, none, .load (.load none 125), [8]⟩, pu 13 127 (.build [.pointer none, .pointer none, .int .i64 0] [(0, (1, 117)), (1, (1, 122)), (2, (1, 126))]), ⟨14, some 128, none, .eff (.box 127), []⟩, mv 15 13 128]) (.seq (rg [mv 0 129 13, mv 1 130 0, nc 2 131 130, fa 3 132 0 131, ld 4 133 none 132, ca 5 134 F.s_l6Rd_pick [133, ci 3], mv 6 135 1, pu 7 136 (.bin .sub 135 (ci 1)), ca 8 137 F.s_l71Mk_body [129, 134, 136], fa 9 138 14 11, ⟨10, none, none, .eff (.store 1 138 137), []⟩]) (.seq (rg [mv 0 139 0, mv 1 140 13, nc 2 141 140, fa 3 142 2 141, ld 4 143 none 142, nc 5 144 139, fa 6 145 2 144, ⟨7, none, none, .eff (.store 1 145 143), []⟩]) (.seq (rg [ld 0 146 (some 15) 11, ⟨1, none, none, .eff (.store 15 4 146), []⟩]) .ret))))))
def kd7 (F : Ids) : XCode := .seq (.seq (rg [fa 0 124 0 2, ld 1 125 none 124, pu 2 126 (.bin .eql 125 (ci 4)), mv 3 127 126, gp 4 128 127 true (.fieldAddr 11 2), gl 5 129 127 true none 128, ⟨6, some 130, some (127, true), .eff (.call F.s_l2Name [129]), []⟩, gp 7 131 127 true (.not 130), pu 8 132 (.pick 127 131 cf), mv 9 133 132, gp 10 134 133 false (.fieldAddr 0 2), gl 11 135 133 false none 134, gp 12 136 133 false (.bin .neq 135 (ci 4)), gp 13 137 133 false (.move 136), gp 14 138 137 true (.fieldAddr 11 2), gl 15 139 137 true none 138, gp 16 140 137 true (.bin .neq 139 (.const (.string (bl [])))), gp 17 141 137 true (.move 140), gp 18 142 141 false (.fieldAddr 12 2), gl 19 143 141 false none 142, gp 20 144 141 false (.lenSl 143), gp 21 145 141 false (.bin .gtr 144 (ci 0)), gp 22 146 137 true (.pick 141 ct 145), gp 23 147 133 false (.pick 137 146 cf), pu 24 148 (.pick 133 ct 147), mv 25 149 148, gp 26 150 149 false (.fieldAddr 12 2), gl 27 151 149 false none 150, ⟨28, some 152, some (149, false), .eff (.call F.s_l2Args [151]), []⟩, gp 29 153 149 false (.not 152), pu 30 154 (.pick 149 ct 153)]) (.cond 154 (.seq (rg [mv 0 4 cf]) .ret) .skip)) (kd6 F)
def kd28 (F : Ids) : XCode := .seq (.seq (rg [mv 0 68 0, ca 1 69 F.s_l6Rd_pick [68, ci 2], pu 2 70 (.bin .eql 69 (ci 0))]) (.cond 70 (.seq (rg [mv 0 11 (ci 0)]) (.block 2 (.loop (.seq (.seq (rg [mv 0 71 11, pu 1 72 (.bin .lss 71 (ci 8))]) (.cond 72 .skip (.exit 2))) (.seq (.block 3 (.seq (rg [mv 0 76 10, ca 1 77 F.s_l71Mk_place [76], mv 2 75 77, pu 3 78 (.extract 75 0), pu 4 79 (.extract 75 1), ⟨5, some 12, none, .eff (.alloc [.string (bl []), .slice none 0 0]), []⟩, ⟨6, some 13, none, .eff (.alloc [.slice none 0 0]), []⟩, ⟨7, none, none, .eff (.store 2 12 78), []⟩, ⟨8, none, none, .eff (.store 1 13 79), []⟩]) (.seq (rg [mv 0 80 10, nc 1 81 80, fa 2 82 1 81, ld 3 83 none 82, ca 4 84 F.s_l3Env_copy [83], mv 5 14 84]) (.seq (rg [mv 0 85 14, ld 1 86 (some 2) 12, ca 2 87 F.s_l3Env_use [85, 86]]) (.seq (rg [mv 0 88 14, nc 1 89 88, fa 2 90 4 89, ld 3 91 none 90, pu 4 92 (.bin .eql 91 (ci 0)), mv 5 93 92, gp 6 94 93 true (.move 14), gl 7 95 93 true (some 2) 12, ⟨8, some 96, some (93, true), .eff (.call F.s_l3Env_outside [94, 95]), []⟩, pu 9 97 (.pick 93 96 cf)]) (.cond 97 (.seq (rg [fa 0 98 2 6, ⟨1, none, none, .eff (.store 1 98 ct), []⟩]) (.seq (rg [ld 0 99 (some 2) 12, fa 1 100 10 6, ⟨2, none, none, .eff (.store 2 100 99), []⟩]) (.seq (rg [ld 0 101 (some 1) 13, fa 1 102 3 6, ⟨2, none, none, .eff (.store 1 102 101), []⟩]) (.seq (rg [ld 0 103 (some 12) 6, ⟨1, none, none, .eff (.store 12 4 103), []⟩]) .ret)))) .skip)))))) (rg [mv 0 73 11, pu 1 74 (.bin .add 73 (ci 1)), mv 2 11 74])))))) .skip)) (kd27 F)
def kd26 (F : Ids) : XCode := .seq (.seq (rg [mv 0 72 1, pu 1 73 (.bin .lss 72 (ci 2))]) (.cond 73 (kd24 F) .skip)) (kd25 F)
def kd17 (F : Ids) : XCode := .seq (rg [mv 0 55 0, nc 1 56 55, fa 2 57 0 56, ld 3 58 none 57, ca 4 59 F.s_l6Rd_pick [58, ci 6], mv 5 10 59]) (.seq (.seq (rg [mv 0 60 10, pu 1 61 (.bin .lss 60 (ci 2)), mv 2 62 61, gp 3 63 62 false (.move 2), gp 4 64 62 false (.bin .lss 63 (ci 2)), gp 5 65 62 false (.move 64), gp 6 66 65 true (.move 10), gp 7 67 65 true (.bin .gtr 66 (ci 3)), gp 8 68 62 false (.pick 65 67 cf), pu 9 69 (.pick 62 ct 68)]) (.cond 69 (kd13 F) .skip)) (kd16 F))
def kd8 (F : Ids) : XCode := .seq (.seq (rg [mv 0 72 6, fa 1 73 1 2, ld 2 74 none 73, ca 3 75 F.s_l2Name [74], pu 4 76 (.eqBool true 72 75), mv 5 77 76, gp 6 78 77 false (.move 6), gp 7 79 77 false (.not 78), gp 8 80 77 false (.move 79), gp 9 81 80 true (.fieldAddr 1 2), gl 10 82 80 true none 81, gp 11 83 80 true (.bin .neq 82 (.const (.string (bl [])))), gp 12 84 77 false (.pick 80 83 cf), pu 13 85 (.pick 77 ct 84), mv 14 86 85, gp 15 87 86 false (.move 7), gp 16 88 86 false (.move 87), gp 17 89 88 true (.fieldAddr 2 2), gl 18 90 88 true (some 2) 89, ⟨19, some 91, some (88, true), .eff (.call F.s_l2Place [90]), []⟩, gp 20 92 88 true (.not 91), gp 21 93 86 false (.pick 88 92 cf), pu 22 94 (.pick 86 ct 93), mv 23 95 94, gp 24 96 95 false (.move 7), gp 25 97 95 false (.not 96), gp 26 98 95 false (.move 97), gp 27 99 98 true (.fieldAddr 2 2), gl 28 100 98 true (some 2) 99, ⟨29, some 101, some (98, true), .eff (.call F.s_l2None [100]), []⟩, gp 30 102 98 true (.not 101), gp 31 103 95 false (.pick 98 102 cf), pu 32 104 (.pick 95 ct 103), mv 33 105 104, gp 34 106 105 false (.move 8), gp 35 107 105 false (.move 106), gp 36 108 107 true (.fieldAddr 6 2), gl 37 109 107 true (some 5) 108, ⟨38, some 110, some (107, true), .eff (.call F.s_l2Expr [109, ci 4]), []⟩, gp 39 111 107 true (.not 110), gp 40 112 105 false (.pick 107 111 cf), pu 41 113 (.pick 105 ct 112), mv 42 114 113, gp 43 115 114 false (.move 8), gp 44 116 114 false (.not 115), gp 45 117 114 false (.move 116), gp 46 118 117 true (.fieldAddr 6 2), gl 47 119 117 true (some 5) 118, ⟨48, some 120, some (117, true), .eff (.call F.s_l2NoExpr [119]), []⟩, gp 49 121 117 true (.not 120), gp 50 122 114 false (.pick 117 121 cf), pu 51 123 (.pick 114 ct 122)]) (.cond 123 (.seq (rg [mv 0 4 cf]) .ret) .skip)) (kd7 F)
def kd9 (F : Ids) : XCode := .seq (.seq (rg [mv 0 55 5, mv 1 56 55, gp 2 57 56 true (.fieldAddr 4 2), gl 3 58 56 true (some 2) 57, ⟨4, some 59, some (56, true), .eff (.call F.s_l2Place [58]), []⟩, gp 5 60 56 true (.not 59), pu 6 61 (.pick 56 60 cf), mv 7 62 61, gp 8 63 62 false (.move 5), gp 9 64 62 false (.not 63), gp 10 65 62 false (.move 64), gp 11 66 65 true (.fieldAddr 4 2), gl 12 67 65 true (some 2) 66, ⟨13, some 68, some (65, true), .eff (.call F.s_l2None [67]), []⟩, gp 14 69 65 true (.not 68), gp 15 70 62 false (.pick 65 69 cf), pu 16 71 (.pick 62 ct 70)]) (.cond 71 (.seq (rg [mv 0 4 cf]) .ret) .skip)) (kd8 F)
def x_s_DrawProgWrite (F : Ids) : XFunc := ⟨6, [.cell 2 (some 1)], .seq (rg [⟨0, some 2, none, .eff (.alloc [.slice none 0 0]), []⟩]) (.seq (rg [mv 0 3 0, ca 1 4 F.s_l6Open [3], ca 2 5 F.s_l71Some [4], ⟨3, none, none, .eff (.store 1 2 5), []⟩]) .ret)⟩
def x_i_ProgWrite (F : Ids) : XFunc := ⟨22, [.slot 2], .seq (rg [⟨0, some 1, none, .eff (.box 0), []⟩, mv 1 2 (.const (.string (bl [])))]) (.seq (.seq (rg [ld 0 6 (some 1) 1, ca 1 7 F.i_progForm [6], pu 2 8 (.not 7)]) (.cond 8 (.seq (rg [mv 0 2 (.const (.string (bl [])))]) .ret) .skip)) (.seq (rg [⟨0, some 3, none, .eff (.alloc [.tuple (Array.replicate F.T_strings_Builder .nilIface), .pointer none, .slice none 0 0]), []⟩]) (.seq (.seq (rg [fa 0 9 0 1, ld 1 10 none 9, pu 2 11 (.lenSl 10), mv 3 12 (ci 0)]) (.block 0 (.loop (.seq (rg [pu 0 13 (.bin .lss 12 11)]) (.seq (.cond 13 .skip (.exit 0)) (.seq (.block 1 (.seq (rg [ia 0 14 12 10 12, ld 1 15 (some 12) 14, ⟨2, some 5, none, .eff (.alloc [.string (bl []), .slice none 0 0, .bool false, .slice none 0 0, .slice none 0 0, .int .i64 0, .int .i64 0, .string (bl []), .slice none 0 0, .slice none 0 0, .string (bl []), .slice none 0 0]), []⟩, ⟨3, none, none, .eff (.store 12 5 15), []⟩]) (rg [ld 0 16 (some 12) 5, ca 1 17 F.i_fnWrite [3, 16]]))) (rg [pu 0 18 (.bin .add 12 (ci 1)), mv 1 12 18]))))))) (.seq (.seq (rg [ca 0 19 F.strings_Builder_Len [3], pu 1 20 (.bin .gtr 19 (ci 6000))]) (.cond 20 (.seq (rg [mv 0 2 (.const (.string (bl [])))]) .ret) .skip)) (.seq (rg [ca 0 21 F.strings_Builder_String [3], mv 1 2 21]) .ret)))))⟩
def x_s_ProgWrite (F : Ids) : XFunc := ⟨97, [.slot 2], .seq (rg [⟨0, some 1, none, .eff (.box 0), []⟩, mv 1 2 (.const (.string (bl [])))]) (.seq (.seq (rg [ld 0 8 (some 1) 1, ca 1 9 F.s_l2Form [8], pu 2 10 (.not 9)]) (.cond 10 (.seq (rg [mv 0 2 (.const (.string (bl [])))]) .ret) .skip)) (.seq (rg [mv 0 3 (.const (.string (bl [])))]) (.seq (.seq (rg [mv 0 4 (ci 0)]) (.block 0 (.loop (.seq (.seq (rg [mv 0 11 4, fa 1 12 0 1, ld 2 13 none 12, pu 3 14 (.lenSl 13), pu 4 15 (.bin .lss 11 14)]) (.cond 15 .skip (.exit 0))) (.seq (.block 1 (.seq (rg [fa 0 18 0 1, ld 1 19 none 18, mv 2 20 4, ia 3 21 12 19 20, ld 4 22 (some 12) 21, ⟨5, some 5, none, .eff (.alloc [.string (bl []), .slice none 0 0, .bool false, .slice none 0 0, .slice none 0 0, .int .i64 0, .int .i64 0, .string (bl []), .slice none 0 0, .slice none 0 0, .string (bl []), .slice none 0 0]), []⟩, ⟨6, none, none, .eff (.store 12 5 22), []⟩]) (.seq (rg [mv 0 23 3, pu 1 24 (.bin .add 23 (.const (.string (bl [102, 110, 32])))), fa 2 25 0 5, ld 3 26 none 25, pu 4 27 (.bin .add 24 26), pu 5 28 (.bin .add 27 (.const (.string (bl [10])))), mv 6 3 28]) (.seq (.seq (rg [mv 0 6 (ci 0)]) (.block 2 (.loop (.seq (.seq (rg [mv 0 29 6, fa 1 30 1 5, ld 2 31 none 30, pu 3 32 (.lenSl 31), pu 4 33 (.bin .lss 29 32)]) (.cond 33 .skip (.exit 2))) (.seq (.block 3 (.seq (rg [mv 0 7 (.const (.string (bl [104, 97, 115, 32])))]) (.seq (.seq (rg [fa 0 36 1 5, ld 1 37 none 36, mv 2 38 6, ia 3 39 3 37 38, fa 4 40 1 39, ld 5 41 none 40]) (.cond 41 (rg [mv 0 7 (.const (.string (bl [108, 101, 110, 116, 32])))]) .skip)) (.region true [mv 0 42 3, mv 1 43 7, pu 2 44 (.bin .add 42 43), fa 3 45 1 5, ⟨4, some 46, none, .load (.load none 45), [17]⟩, mv 5 47 6, ia 6 48 3 46 47, fa 7 49 0 48, ⟨8, some 50, none, .load (.load none 49), [17]⟩, pu 9 51 (.bin .add 44 50), pu 10 52 (.bin .add 51 (.const (.string (bl [32])))), fa 11 53 1 5, ld 12 54 none 53, mv 13 55 6, ia 14 56 3 54 55, fa 15 57 2 56, ld 16 58 (some 1) 57, ⟨17, some 59, none, .eff (.call F.s_l1Say [58]), [4, 8]⟩, pu 18 60 (.bin .add 52 59), pu 19 61 (.bin .add 60 (.const (.string (bl [10])))), mv 20 3 61])))) (rg [mv 0 34 6, pu 1 35 (.bin .add 34 (ci 1)), mv 2 6 35])))))) (.seq (rg [mv 0 62 3, fa 1 63 4 5, ld 2 64 none 63, ca 3 65 F.s_l2Lines [64], pu 4 66 (.bin .add 62 65), mv 5 3 66]) (.seq (rg [fa 0 67 2 5, ld 1 68 none 67]) (.cond 68 (.region true [mv 0 69 3, pu 1 70 (.bin .add 69 (.const (.string (bl [103, 105, 118, 101, 115, 32])))), fa 2 71 3 5, ld 3 72 (some 1) 71, ⟨4, some 73, none, .eff (.call F.s_l1Say [72]), [8]⟩, pu 5 74 (.bin .add 70 73), pu 6 75 (.bin .add 74 (.const (.string (bl [32])))), fa 7 76 10 5, ⟨8, some 77, none, .load (.load (some 2) 76), [4]⟩, ca 9 78 F.s_l2At [77], pu 10 79 (.bin .add 75 78), pu 11 80 (.bin .add 79 (.const (.string (bl [10])))), mv 12 3 80]) (.region true [mv 0 81 3, pu 1 82 (.bin .add 81 (.const (.string (bl [115, 97, 121, 115, 32])))), fa 2 83 3 5, ld 3 84 (some 1) 83, ⟨4, some 85, none, .eff (.call F.s_l1Say [84]), [8]⟩, pu 5 86 (.bin .add 82 85), pu 6 87 (.bin .add 86 (.const (.string (bl [32])))), fa 7 88 5 5, ⟨8, some 89, none, .load (.load (some 5) 88), [4]⟩, ca 9 90 F.s_l2Say [89], pu 10 91 (.bin .add 87 90), pu 11 92 (.bin .add 91 (.const (.string (bl [10])))), mv 12 3 92])))))))) (rg [mv 0 16 4, pu 1 17 (.bin .add 16 (ci 1)), mv 2 4 17])))))) (.seq (.seq (rg [mv 0 93 3, pu 1 94 (.lenStr 93), pu 2 95 (.bin .gtr 94 (ci 6000))]) (.cond 95 (.seq (rg [mv 0 2 (.const (.string (bl [])))]) .ret) .skip)) (.seq (rg [mv 0 96 3, mv 1 2 96]) .ret)))))⟩
def x_l_lhProg (F : Ids) : XFunc := ⟨137, [.slot 4], .seq (rg [⟨0, some 2, none, .eff (.box 0), []⟩, ⟨1, some 3, none, .eff (.box 1), []⟩, mv 2 4 cf]) (.seq (.seq (rg [fa 0 9 0 2, ld 1 10 none 9, pu 2 11 (.lenSl 10), fa 3 12 0 3, ld 4 13 none 12, pu 5 14 (.lenSl 13), pu 6 15 (.bin .neq 11 14)]) (.cond 15 (.seq (rg [mv 0 4 cf]) .ret) .skip)) (.seq (.seq (rg [mv 0 5 (ci 0)]) (.block 0 (.loop (.seq (.seq (rg [mv 0 16 5, fa 1 17 0 2, ld 2 18 none 17, pu 3 19 (.lenSl 18), pu 4 20 (.bin .lss 16 19)]) (.cond 20 .skip (.exit 0))) (.seq (.block 1 (.seq (rg [fa 0 23 0 2, ld 1 24 none 23, mv 2 25 5, ia 3 26 12 24 25, ld 4 27 (some 12) 26, ⟨5, some 6, none, .eff (.alloc [.string (bl []), .slice none 0 0, .bool false, .slice none 0 0, .slice none 0 0, .int .i64 0, .int .i64 0, .string (bl []), .slice none 0 0, .slice none 0 0, .string (bl []), .slice none 0 0]), []⟩, ⟨6, none, none, .eff (.store 12 6 27), []⟩]) (.seq (rg [fa 0 28 0 3, ld 1 29 none 28, mv 2 30 5, ia 3 31 12 29 30, ld 4 32 (some 12) 31, ⟨5, some 7, none, .eff (.alloc [.string (bl []), .slice none 0 0, .bool false, .slice none 0 0, .slice none 0 0, .int .i64 0, .int .i64 0, .string (bl []), .slice none 0 0, .slice none 0 0, .string (bl []), .slice none 0 0]), []⟩, ⟨6, none, none, .eff (.store 12 7 32), []⟩]) (.seq (.seq (rg [fa 0 33 0 6, ld 1 34 none 33, fa 2 35 0 7, ld 3 36 none 35, pu 4 37 (.bin .neq 34 36), mv 5 38 37, gp 6 39 38 false (.fieldAddr 2 6), gl 7 40 38 false none 39, gp 8 41 38 false (.fieldAddr 2 7), gl 9 42 38 false none 41, gp 10 43 38 false (.eqBool true 40 42), pu 11 44 (.pick 38 ct 43), mv 12 45 44, gp 13 46 45 false (.fieldAddr 3 6), gl 14 47 45 false (some 1) 46, gp 15 48 45 false (.fieldAddr 3 7), gl 16 49 45 false (some 1) 48, ⟨17, some 50, some (45, false), .eff (.call F.l_lhType [47, 49]), []⟩, gp 18 51 45 false (.not 50), pu 19 52 (.pick 45 ct 51), mv 20 53 52, gp 21 54 53 false (.fieldAddr 4 6), gl 22 55 53 false none 54, gp 23 56 53 false (.fieldAddr 4 7), gl 24 57 53 false none 56, ⟨25, some 58, some (53, false), .eff (.call F.l_lhBody [55, 57]), []⟩, gp 26 59 53 false (.not 58), pu 27 60 (.pick 53 ct 59), mv 28 61 60, gp 29 62 61 false (.fieldAddr 5 6), gl 30 63 61 false (some 5) 62, gp 31 64 61 false (.fieldAddr 5 7), gl 32 65 61 false (some 5) 64, ⟨33, some 66, some (61, false), .eff (.call F.l_lhExpr [63, 65]), []⟩, gp 34 67 61 false (.not 66), pu 35 68 (.pick 61 ct 67), mv 36 69 68, gp 37 70 69 false (.fieldAddr 10 6), gl 38 71 69 false (some 2) 70, gp 39 72 69 false (.fieldAddr 10 7), gl 40 73 69 false (some 2) 72, ⟨41, some 74, some (69, false), .eff (.call F.l_lhPlace [71, 73]), []⟩, gp 42 75 69 false (.not 74), pu 43 76 (.pick 69 ct 75), mv 44 77 76, gp 45 78 77 false (.fieldAddr 1 6), gl 46 79 77 false none 78, gp 47 80 77 false (.lenSl 79), gp 48 81 77 false (.fieldAddr 1 7), gl 49 82 77 false none 81, gp 50 83 77 false (.lenSl 82), gp 51 84 77 false (.bin .neq 80 83), pu 52 85 (.pick 77 ct 84)]) (.cond 85 (.seq (rg [mv 0 4 cf]) .ret) .skip)) (.seq (rg [mv 0 8 (ci 0)]) (.block 2 (.loop (.seq (.seq (rg [mv 0 86 8, fa 1 87 1 6, ld 2 88 none 87, pu 3 89 (.lenSl 88), pu 4 90 (.bin .lss 86 89)]) (.cond 90 .skip (.exit 2))) (.seq (.block 3 (.seq (.region true [fa 0 93 1 6, ld 1 94 none 93, mv 2 95 8, ia 3 96 3 94 95, fa 4 97 0 96, ld 5 98 none 97, fa 6 99 1 7, ld 7 100 none 99, mv 8 101 8, ia 9 102 3 100 101, fa 10 103 0 102, ld 11 104 none 103, pu 12 105 (.bin .neq 98 104), mv 13 106 105, gp 14 107 106 false (.fieldAddr 1 6), gl 15 108 106 false none 107, gp 16 109 106 false (.move 8), gp 17 110 106 false (.indexAddr 3 108 109), gp 18 111 106 false (.fieldAddr 1 110), gl 19 112 106 false none 111, gp 20 113 106 false (.fieldAddr 1 7), gl 21 114 106 false none 113, gp 22 115 106 false (.move 8), gp 23 116 106 false (.indexAddr 3 114 115), gp 24 117 106 false (.fieldAddr 1 116), gl 25 118 106 false none 117, gp 26 119 106 false (.eqBool true 112 118), pu 27 120 (.pick 106 ct 119), mv 28 121 120, gp 29 122 121 false (.fieldAddr 1 6), gl 30 123 121 false none 122, gp 31 124 121 false (.move 8), gp 32 125 121 false (.indexAddr 3 123 124), gp 33 126 121 false (.fieldAddr 2 125), gl 34 127 121 false (some 1) 126, gp 35 128 121 false (.fieldAddr 1 7), gl 36 129 121 false none 128, gp 37 130 121 false (.move 8), gp 38 131 121 false (.indexAddr 3 129 130), gp 39 132 121 false (.fieldAddr 2 131), gl 40 133 121 false (some 1) 132, ⟨41, some 134, some (121, false), .eff (.call F.l_lhType [127, 133]), []⟩, gp 42 135 121 false (.not 134), pu 43 136 (.pick 121 ct 135)]) (.cond 136 (.seq (rg [mv 0 4 cf]) .ret) .skip))) (rg [mv 0 91 8, pu 1 92 (.bin .add 91 (ci 1)), mv 2 8 92])))))))))) (rg [mv 0 21 5, pu 1 22 (.bin .add 21 (ci 1)), mv 2 5 22])))))) (.seq (rg [mv 0 4 ct]) .ret)))⟩
def x_s_l71Some (F : Ids) : XFunc := ⟨13, [.cell 2 (some 1)], .seq (rg [⟨0, some 2, none, .eff (.alloc [.slice none 0 0]), []⟩]) (.seq (rg [mv 0 4 0, ca 1 5 F.s_l71Prog [4], ⟨2, some 3, none, .eff (.alloc [.slice none 0 0]), []⟩, ⟨3, none, none, .eff (.store 1 3 5), []⟩]) (.seq (.seq (rg [mv 0 6 0, ca 1 7 F.s_l6Rd_pick [6, ci 5], pu 2 8 (.bin .eql 7 (ci 0))]) (.cond 8 (.seq (rg [mv 0 9 0, ld 1 10 (some 1) 3, ca 2 11 F.s_l71Bend [9, 10], ⟨3, none, none, .eff (.store 1 2 11), []⟩]) .ret) .skip)) (.seq (rg [ld 0 12 (some 1) 3, ⟨1, none, none, .eff (.store 1 2 12), []⟩]) .ret)))⟩
def x_s_l6Open (F : Ids) : XFunc := ⟨11, [.slot 2], .seq (rg [mv 0 2 (.const (.pointer none))]) (.seq (.seq (rg [mv 0 3 0, pu 1 4 (.lenSl 3), pu 2 5 (.bin .gtr 4 (ci 2000))]) (.cond 5 (rg [mv 0 6 0, pu 1 7 (.slice 1 6 none (some (ci 2000))), mv 2 0 7]) .skip)) (.seq (rg [mv 0 8 0, pu 1 9 (.build [.slice none 0 0, .int .i64 0] [(0, (1, 8))]), ⟨2, some 10, none, .eff (.box 9), []⟩, mv 3 2 10]) .ret))⟩
def x_i_progForm (F : Ids) : XFunc := ⟨20, [.slot 2], .seq (rg [⟨0, some 1, none, .eff (.box 0), []⟩, mv 1 2 cf]) (.seq (.seq (rg [fa 0 5 0 1, ld 1 6 none 5, pu 2 7 (.lenSl 6), pu 3 8 (.bin .gtr 7 (ci 5))]) (.cond 8 (.seq (rg [mv 0 2 cf]) .ret) .skip)) (.seq (.seq (rg [fa 0 9 0 1, ld 1 10 none 9, pu 2 11 (.lenSl 10), mv 3 12 (ci 0)]) (.block 0 (.loop (.seq (rg [pu 0 13 (.bin .lss 12 11)]) (.seq (.cond 13 .skip (.exit 0)) (.seq (.block 1 (.seq (rg [ia 0 14 12 10 12, ld 1 15 (some 12) 14, ⟨2, some 4, none, .eff (.alloc [.string (bl []), .slice none 0 0, .bool false, .slice none 0 0, .slice none 0 0, .int .i64 0, .int .i64 0, .string (bl []), .slice none 0 0, .slice none 0 0, .string (bl []), .slice none 0 0]), []⟩, ⟨3, none, none, .eff (.store 12 4 15), []⟩]) (.seq (rg [ld 0 16 (some 12) 4, ca 1 17 F.i_fnForm [16], pu 2 18 (.not 17)]) (.cond 18 (.seq (rg [mv 0 2 cf]) .ret) .skip)))) (rg [pu 0 19 (.bin .add 12 (ci 1)), mv 1 12 19]))))))) (.seq (rg [mv 0 2 ct]) .ret)))⟩
def x_i_fnWrite (F : Ids) : XFunc := ⟨55, [], .seq (rg [⟨0, some 3, none, .eff (.box 1), []⟩]) (.seq (rg [mv 0 7 0, fa 1 8 0 3, ld 2 9 none 8, ⟨3, some 10, none, .eff (.buildSlice 1 2 [.string (bl [])] [(0, (1, .const (.string (bl [102, 110])))), (1, (1, 9))]), []⟩, ca 4 11 F.i_progLine [7, 10]]) (.seq (.seq (rg [fa 0 12 1 3, ld 1 13 none 12, pu 2 14 (.lenSl 13), mv 3 15 (ci 0)]) (.block 0 (.loop (.seq (rg [pu 0 16 (.bin .lss 15 14)]) (.seq (.cond 16 .skip (.exit 0)) (.seq (.block 1 (.seq (rg [ia 0 17 3 13 15, ld 1 18 (some 3) 17, ⟨2, some 5, none, .eff (.alloc [.string (bl []), .bool false, .slice none 0 0]), []⟩, ⟨3, none, none, .eff (.store 3 5 18), []⟩]) (.seq (rg [mv 0 6 (.const (.string (bl [104, 97, 115])))]) (.seq (.seq (rg [fa 0 19 1 5, ld 1 20 none 19]) (.cond 20 (rg [mv 0 6 (.const (.string (bl [108, 101, 110, 116])))]) .skip)) (.region true [mv 0 21 0, mv 1 22 6, fa 2 23 0 5, ⟨3, some 24, none, .load (.load none 23), [6]⟩, fa 4 25 2 5, ld 5 26 (some 1) 25, ⟨6, some 27, none, .eff (.call F.i_typeWords [26]), [3]⟩, ⟨7, some 28, none, .eff (.buildSlice 1 3 [.string (bl [])] [(0, (1, 22)), (1, (1, 24)), (2, (1, 27))]), []⟩, ca 8 29 F.i_progLine [21, 28]]))))) (rg [pu 0 30 (.bin .add 15 (ci 1)), mv 1 15 30]))))))) (.seq (rg [mv 0 31 0, fa 1 32 4 3, ld 2 33 none 32, ca 3 34 F.i_stmtsWrite [31, 33]]) (.seq (rg [fa 0 35 2 3, ld 1 36 none 35]) (.cond 36 (.region true [mv 0 37 0, fa 1 38 3 3, ld 2 39 (some 1) 38, ⟨3, some 40, none, .eff (.call F.i_typeWords [39]), [5]⟩, fa 4 41 10 3, ⟨5, some 42, none, .load (.load (some 2) 41), [3]⟩, ca 6 43 F.i_placeText [42], ⟨7, some 44, none, .eff (.buildSlice 1 3 [.string (bl [])] [(0, (1, .const (.string (bl [103, 105, 118, 101, 115])))), (1, (1, 40)), (2, (1, 43))]), []⟩, ca 8 45 F.i_progLine [37, 44]]) (.region true [mv 0 46 0, fa 1 47 3 3, ld 2 48 (some 1) 47, ⟨3, some 49, none, .eff (.call F.i_typeWords [48]), [5]⟩, fa 4 50 5 3, ⟨5, some 51, none, .load (.load (some 5) 50), [3]⟩, ca 6 52 F.i_exprText [51], ⟨7, some 53, none, .eff (.buildSlice 1 3 [.string (bl [])] [(0, (1, .const (.string (bl [115, 97, 121, 115])))), (1, (1, 49)), (2, (1, 52))]), []⟩, ca 8 54 F.i_progLine [46, 53]]))))))⟩
def x_s_l2Form (F : Ids) : XFunc := ⟨22, [.slot 2], .seq (rg [⟨0, some 1, none, .eff (.box 0), []⟩, mv 1 2 cf]) (.seq (.seq (rg [fa 0 4 0 1, ld 1 5 none 4, pu 2 6 (.lenSl 5), pu 3 7 (.bin .gtr 6 (ci 5))]) (.cond 7 (.seq (rg [mv 0 2 cf]) .ret) .skip)) (.seq (.seq (rg [mv 0 3 (ci 0)]) (.block 0 (.loop (.seq (.seq (rg [mv 0 8 3, fa 1 9 0 1, ld 2 10 none 9, pu 3 11 (.lenSl 10), pu 4 12 (.bin .lss 8 11)]) (.cond 12 .skip (.exit 0))) (.seq (.block 1 (.seq (rg [fa 0 15 0 1, ld 1 16 none 15, mv 2 17 3, ia 3 18 12 16 17, ld 4 19 (some 12) 18, ca 5 20 F.s_l2Fn [19], pu 6 21 (.not 20)]) (.cond 21 (.seq (rg [mv 0 2 cf]) .ret) .skip))) (rg [mv 0 13 3, pu 1 14 (.bin .add 13 (ci 1)), mv 2 3 14])))))) (.seq (rg [mv 0 2 ct]) .ret)))⟩
def x_s_l1Say (F : Ids) : XFunc := ⟨21, [.slot 2], .seq (rg [⟨0, some 1, none, .eff (.box 0), []⟩, mv 1 2 (.const (.string (bl [])))]) (.seq (.seq (rg [fa 0 3 0 1, ld 1 4 none 3, pu 2 5 (.lenSl 4), pu 3 6 (.bin .eql 5 (ci 0))]) (.cond 6 (.seq (rg [mv 0 2 (.const (.string (bl [105])))]) .ret) .skip)) (.seq (.region true [fa 0 7 0 1, ld 1 8 none 7, pu 2 9 (.indexAddr 1 8 (ci 0)), ld 3 10 (some 1) 9, ⟨4, some 11, none, .eff (.call F.s_l1Say [10]), [8, 10]⟩, pu 5 12 (.bin .add (.const (.string (bl [40]))) 11), pu 6 13 (.bin .add 12 (.const (.string (bl [44])))), fa 7 14 0 1, ⟨8, some 15, none, .load (.load none 14), [4]⟩, pu 9 16 (.indexAddr 1 15 (ci 1)), ⟨10, some 17, none, .load (.load (some 1) 16), [4]⟩, ca 11 18 F.s_l1Say [17], pu 12 19 (.bin .add 13 18), pu 13 20 (.bin .add 19 (.const (.string (bl [41])))), mv 14 2 20]) .ret))⟩
def x_s_l2Lines (F : Ids) : XFunc := ⟨146, [.slot 2], .seq (rg [mv 0 2 (.const (.string (bl [])))]) (.seq (rg [mv 0 3 (.const (.string (bl [])))]) (.seq (.seq (rg [mv 0 4 (ci 0)]) (.block 0 (.loop (.seq (.seq (rg [mv 0 7 4, mv 1 8 0, pu 2 9 (.lenSl 8), pu 3 10 (.bin .lss 7 9)]) (.cond 10 .skip (.exit 0))) (.seq (.block 1 (.seq (rg [mv 0 13 0, mv 1 14 4, ia 2 15 15 13 14, ld 3 16 (some 15) 15, ⟨4, some 5, none, .eff (.alloc [.int .i64 0, .string (bl []), .string (bl []), .slice none 0 0, .string (bl []), .slice none 0 0, .int .i64 0, .int .i64 0, .string (bl []), .slice none 0 0, .slice none 0 0, .string (bl []), .slice none 0 0, .slice none 0 0, .slice none 0 0]), []⟩, ⟨5, none, none, .eff (.store 15 5 16), []⟩]) (.seq (rg [fa 0 17 0 5, ld 1 18 none 17]) (.block 2 (.seq (rg [pu 0 37 (.bin .eql 18 (ci 1)), mv 1 36 37]) (.cond 36 (.region true [mv 0 38 3, pu 1 39 (.bin .add 38 (.const (.string (bl [108, 101, 116, 32])))), fa 2 40 1 5, ⟨3, some 41, none, .load (.load none 40), [8]⟩, pu 4 42 (.bin .add 39 41), pu 5 43 (.bin .add 42 (.const (.string (bl [32])))), fa 6 44 6 5, ld 7 45 (some 5) 44, ⟨8, some 46, none, .eff (.call F.s_l2Say [45]), [3]⟩, pu 9 47 (.bin .add 43 46), pu 10 48 (.bin .add 47 (.const (.string (bl [10])))), mv 11 3 48]) (.seq (rg [pu 0 50 (.bin .eql 18 (ci 2)), mv 1 49 50]) (.cond 49 (.region true [mv 0 51 3, pu 1 52 (.bin .add 51 (.const (.string (bl [108, 101, 110, 100, 32])))), fa 2 53 1 5, ⟨3, some 54, none, .load (.load none 53), [8]⟩, pu 4 55 (.bin .add 52 54), pu 5 56 (.bin .add 55 (.const (.string (bl [32])))), fa 6 57 2 5, ld 7 58 (some 2) 57, ⟨8, some 59, none, .eff (.call F.s_l2At [58]), [3]⟩, pu 9 60 (.bin .add 56 59), pu 10 61 (.bin .add 60 (.const (.string (bl [10])))), mv 11 3 61]) (.seq (rg [pu 0 63 (.bin .eql 18 (ci 6)), mv 1 62 63]) (.cond 62 (.region true [mv 0 64 3, pu 1 65 (.bin .add 64 (.const (.string (bl [112, 105, 99, 107, 32])))), fa 2 66 1 5, ⟨3, some 67, none, .load (.load none 66), [8, 13, 18]⟩, pu 4 68 (.bin .add 65 67), pu 5 69 (.bin .add 68 (.const (.string (bl [32])))), fa 6 70 2 5, ld 7 71 (some 2) 70, ⟨8, some 72, none, .eff (.call F.s_l2At [71]), [3, 12, 17]⟩, pu 9 73 (.bin .add 69 72), pu 10 74 (.bin .add 73 (.const (.string (bl [32])))), fa 11 75 4 5, ⟨12, some 76, none, .load (.load (some 2) 75), [8]⟩, ⟨13, some 77, none, .eff (.call F.s_l2At [76]), [3, 17]⟩, pu 14 78 (.bin .add 74 77), pu 15 79 (.bin .add 78 (.const (.string (bl [32])))), fa 16 80 6 5, ⟨17, some 81, none, .load (.load (some 5) 80), [8, 13]⟩, ⟨18, some 82, none, .eff (.call F.s_l2Say [81]), [3]⟩, pu 19 83 (.bin .add 79 82), pu 20 84 (.bin .add 83 (.const (.string (bl [10])))), mv 21 3 84]) (.seq (rg [pu 0 86 (.bin .eql 18 (ci 3)), mv 1 85 86]) (.cond 85 (.region true [mv 0 87 3, pu 1 88 (.bin .add 87 (.const (.string (bl [115, 101, 116, 32])))), fa 2 89 2 5, ld 3 90 (some 2) 89, ⟨4, some 91, none, .eff (.call F.s_l2At [90]), [8]⟩, pu 5 92 (.bin .add 88 91), pu 6 93 (.bin .add 92 (.const (.string (bl [32])))), fa 7 94 6 5, ⟨8, some 95, none, .load (.load (some 5) 94), [4]⟩, ca 9 96 F.s_l2Say [95], pu 10 97 (.bin .add 93 96), pu 11 98 (.bin .add 97 (.const (.string (bl [10])))), mv 12 3 98]) (.seq (rg [pu 0 100 (.bin .eql 18 (ci 4)), mv 1 99 100]) (.cond 99 (.seq (rg [mv 0 101 3, pu 1 102 (.bin .add 101 (.const (.string (bl [99, 97, 108, 108, 32])))), fa 2 103 1 5, ld 3 104 none 103, pu 4 105 (.bin .add 102 104), pu 5 106 (.bin .add 105 (.const (.string (bl [32])))), fa 6 107 11 5, ld 7 108 none 107, pu 8 109 (.bin .add 106 108), mv 9 3 109]) (.seq (.seq (rg [mv 0 6 (ci 0)]) (.block 3 (.loop (.seq (.seq (rg [mv 0 110 6, fa 1 111 12 5, ld 2 112 none 111, pu 3 113 (.lenSl 112), pu 4 114 (.bin .lss 110 113)]) (.cond 114 .skip (.exit 3))) (.seq (.block 4 (.seq (rg [fa 0 117 12 5, ld 1 118 none 117, mv 2 119 6, ia 3 120 8 118 119, fa 4 121 0 120, ld 5 122 none 121]) (.cond 122 (rg [mv 0 123 3, pu 1 124 (.bin .add 123 (.const (.string (bl [32, 116, 111, 32])))), fa 2 125 12 5, ld 3 126 none 125, mv 4 127 6, ia 5 128 8 126 127, fa 6 129 1 128, ld 7 130 (some 2) 129, ca 8 131 F.s_l2At [130], pu 9 132 (.bin .add 124 131), mv 10 3 132]) (rg [mv 0 133 3, pu 1 134 (.bin .add 133 (.const (.string (bl [32, 111, 102, 32])))), fa 2 135 12 5, ld 3 136 none 135, mv 4 137 6, ia 5 138 8 136 137, fa 6 139 3 138, ld 7 140 (some 5) 139, ca 8 141 F.s_l2Say [140], pu 9 142 (.bin .add 134 141), mv 10 3 142])))) (rg [mv 0 115 6, pu 1 116 (.bin .add 115 (ci 1)), mv 2 6 116])))))) (rg [mv 0 143 3, pu 1 144 (.bin .add 143 (.const (.string (bl [10])))), mv 2 3 144]))) (.region true [mv 0 19 3, pu 1 20 (.bin .add 19 (.const (.string (bl [105, 102, 32])))), fa 2 21 6 5, ld 3 22 (some 5) 21, ⟨4, some 23, none, .eff (.call F.s_l2Say [22]), [8, 13]⟩, pu 5 24 (.bin .add 20 23), pu 6 25 (.bin .add 24 (.const (.string (bl [10])))), fa 7 26 13 5, ⟨8, some 27, none, .load (.load none 26), [4]⟩, ⟨9, some 28, none, .eff (.call F.s_l2Lines [27]), [13]⟩, pu 10 29 (.bin .add 25 28), pu 11 30 (.bin .add 29 (.const (.string (bl [101, 108, 115, 101, 10])))), fa 12 31 14 5, ⟨13, some 32, none, .load (.load none 31), [4, 9]⟩, ca 14 33 F.s_l2Lines [32], pu 15 34 (.bin .add 30 33), pu 16 35 (.bin .add 34 (.const (.string (bl [101, 110, 100, 10])))), mv 17 3 35]))))))))))))))) (rg [mv 0 11 4, pu 1 12 (.bin .add 11 (ci 1)), mv 2 4 12])))))) (.seq (rg [mv 0 145 3, mv 1 2 145]) .ret)))⟩
def x_s_l2At (F : Ids) : XFunc := ⟨24, [.slot 2], .seq (rg [⟨0, some 1, none, .eff (.box 0), []⟩, mv 1 2 (.const (.string (bl [])))]) (.seq (rg [fa 0 5 0 1, ld 1 6 none 5, mv 2 3 6]) (.seq (.seq (rg [mv 0 4 (ci 0)]) (.block 0 (.loop (.seq (.seq (rg [mv 0 7 4, fa 1 8 1 1, ld 2 9 none 8, pu 3 10 (.lenSl 9), pu 4 11 (.bin .lss 7 10)]) (.cond 11 .skip (.exit 0))) (.seq (.block 1 (rg [mv 0 14 3, pu 1 15 (.bin .add 14 (.const (.string (bl [46])))), fa 2 16 1 1, ld 3 17 none 16, mv 4 18 4, ia 5 19 1 17 18, ld 6 20 none 19, ca 7 21 F.s_l6Dec [20], pu 8 22 (.bin .add 15 21), mv 9 3 22])) (rg [mv 0 12 4, pu 1 13 (.bin .add 12 (ci 1)), mv 2 4 13])))))) (.seq (rg [mv 0 23 3, mv 1 2 23]) .ret)))⟩
def x_s_l2Say (F : Ids) : XFunc := ⟨35, [.slot 2], .seq (rg [⟨0, some 1, none, .eff (.box 0), []⟩, mv 1 2 (.const (.string (bl [])))]) (.seq (.seq (rg [fa 0 3 0 1, ld 1 4 none 3]) (.block 0 (.seq (rg [pu 0 6 (.bin .eql 4 (ci 1)), mv 1 5 6]) (.cond 5 (.seq (rg [fa 0 7 1 1, ld 1 8 none 7, ca 2 9 F.s_l6Dec [8], mv 3 2 9]) .ret) (.seq (rg [pu 0 11 (.bin .eql 4 (ci 2)), mv 1 10 11]) (.cond 10 (.seq (rg [fa 0 12 2 1, ld 1 13 (some 2) 12, ca 2 14 F.s_l2At [13], pu 3 15 (.bin .add (.const (.string (bl [64]))) 14), mv 4 2 15]) .ret) .skip)))))) (.seq (.region true [⟨0, some 16, none, .eff (.call F.s_l2Signs []), [2, 7, 9, 14, 16]⟩, fa 1 17 0 1, ⟨2, some 18, none, .load (.load none 17), [0, 10, 17]⟩, ia 3 19 1 16 18, ⟨4, some 20, none, .load (.load none 19), [10, 17]⟩, pu 5 21 (.bin .add 20 (.const (.string (bl [32])))), fa 6 22 4 1, ⟨7, some 23, none, .load (.load none 22), [0]⟩, pu 8 24 (.indexAddr 5 23 (ci 0)), ⟨9, some 25, none, .load (.load (some 5) 24), [0]⟩, ⟨10, some 26, none, .eff (.call F.s_l2Say [25]), [2, 4, 14, 16]⟩, pu 11 27 (.bin .add 21 26), pu 12 28 (.bin .add 27 (.const (.string (bl [32])))), fa 13 29 4 1, ⟨14, some 30, none, .load (.load none 29), [0, 10]⟩, pu 15 31 (.indexAddr 5 30 (ci 1)), ⟨16, some 32, none, .load (.load (some 5) 31), [0, 10]⟩, ⟨17, some 33, none, .eff (.call F.s_l2Say [32]), [2, 4]⟩, pu 18 34 (.bin .add 28 33), mv 19 2 34]) .ret))⟩
def x_l_lhType (F : Ids) : XFunc := ⟨32, [.slot 4], .seq (rg [⟨0, some 2, none, .eff (.box 0), []⟩, ⟨1, some 3, none, .eff (.box 1), []⟩, mv 2 4 cf]) (.seq (.seq (rg [fa 0 6 0 2, ld 1 7 none 6, pu 2 8 (.lenSl 7), fa 3 9 0 3, ld 4 10 none 9, pu 5 11 (.lenSl 10), pu 6 12 (.bin .neq 8 11)]) (.cond 12 (.seq (rg [mv 0 4 cf]) .ret) .skip)) (.seq (.seq (rg [mv 0 5 (ci 0)]) (.block 0 (.loop (.seq (.seq (rg [mv 0 13 5, fa 1 14 0 2, ld 2 15 none 14, pu 3 16 (.lenSl 15), pu 4 17 (.bin .lss 13 16)]) (.cond 17 .skip (.exit 0))) (.seq (.block 1 (.seq (.region true [fa 0 20 0 2, ld 1 21 none 20, mv 2 22 5, ia 3 23 1 21 22, ld 4 24 (some 1) 23, fa 5 25 0 3, ld 6 26 none 25, mv 7 27 5, ia 8 28 1 26 27, ld 9 29 (some 1) 28, ca 10 30 F.l_lhType [24, 29], pu 11 31 (.not 30)]) (.cond 31 (.seq (rg [mv 0 4 cf]) .ret) .skip))) (rg [mv 0 18 5, pu 1 19 (.bin .add 18 (ci 1)), mv 2 5 19])))))) (.seq (rg [mv 0 4 ct]) .ret)))⟩
def x_l_lhBody (F : Ids) : XFunc := ⟨213, [.slot 4], .seq (rg [mv 0 4 cf]) (.seq (.seq (rg [mv 0 7 0, pu 1 8 (.lenSl 7), mv 2 9 1, pu 3 10 (.lenSl 9), pu 4 11 (.bin .neq 8 10)]) (.cond 11 (.seq (rg [mv 0 4 cf]) .ret) .skip)) (.seq (.seq (rg [mv 0 5 (ci 0)]) (.block 0 (.loop (.seq (.seq (rg [mv 0 12 5, mv 1 13 0, pu 2 14 (.lenSl 13), pu 3 15 (.bin .lss 12 14)]) (.cond 15 .skip (.exit 0))) (.seq (.block 1 (.seq (.seq (.region true [mv 0 18 0, mv 1 19 5, ia 2 20 15 18 19, fa 3 21 0 20, ld 4 22 none 21, mv 5 23 1, mv 6 24 5, ia 7 25 15 23 24, fa 8 26 0 25, ld 9 27 none 26, pu 10 28 (.bin .neq 22 27), mv 11 29 28, gp 12 30 29 false (.move 0), gp 13 31 29 false (.move 5), gp 14 32 29 false (.indexAddr 15 30 31), gp 15 33 29 false (.fieldAddr 1 32), gl 16 34 29 false none 33, gp 17 35 29 false (.move 1), gp 18 36 29 false (.move 5), gp 19 37 29 false (.indexAddr 15 35 36), gp 20 38 29 false (.fieldAddr 1 37), gl 21 39 29 false none 38, gp 22 40 29 false (.bin .neq 34 39), pu 23 41 (.pick 29 ct 40), mv 24 42 41, gp 25 43 42 false (.move 0), gp 26 44 42 false (.move 5), gp 27 45 42 false (.indexAddr 15 43 44), gp 28 46 42 false (.fieldAddr 2 45), gl 29 47 42 false (some 2) 46, gp 30 48 42 false (.move 1), gp 31 49 42 false (.move 5), gp 32 50 42 false (.indexAddr 15 48 49), gp 33 51 42 false (.fieldAddr 2 50), gl 34 52 42 false (some 2) 51, ⟨35, some 53, some (42, false), .eff (.call F.l_lhPlace [47, 52]), []⟩, gp 36 54 42 false (.not 53), pu 37 55 (.pick 42 ct 54), mv 38 56 55, gp 39 57 56 false (.move 0), gp 40 58 56 false (.move 5), gp 41 59 56 false (.indexAddr 15 57 58), gp 42 60 56 false (.fieldAddr 4 59), gl 43 61 56 false (some 2) 60, gp 44 62 56 false (.move 1), gp 45 63 56 false (.move 5), gp 46 64 56 false (.indexAddr 15 62 63), gp 47 65 56 false (.fieldAddr 4 64), gl 48 66 56 false (some 2) 65, ⟨49, some 67, some (56, false), .eff (.call F.l_lhPlace [61, 66]), []⟩, gp 50 68 56 false (.not 67), pu 51 69 (.pick 56 ct 68), mv 52 70 69, gp 53 71 70 false (.move 0), gp 54 72 70 false (.move 5), gp 55 73 70 false (.indexAddr 15 71 72), gp 56 74 70 false (.fieldAddr 6 73), gl 57 75 70 false (some 5) 74, gp 58 76 70 false (.move 1), gp 59 77 70 false (.move 5), gp 60 78 70 false (.indexAddr 15 76 77), gp 61 79 70 false (.fieldAddr 6 78), gl 62 80 70 false (some 5) 79, ⟨63, some 81, some (70, false), .eff (.call F.l_lhExpr [75, 80]), []⟩, gp 64 82 70 false (.not 81), pu 65 83 (.pick 70 ct 82), mv 66 84 83, gp 67 85 84 false (.move 0), gp 68 86 84 false (.move 5), gp 69 87 84 false (.indexAddr 15 85 86), gp 70 88 84 false (.fieldAddr 11 87), gl 71 89 84 false none 88, gp 72 90 84 false (.move 1), gp 73 91 84 false (.move 5), gp 74 92 84 false (.indexAddr 15 90 91), gp 75 93 84 false (.fieldAddr 11 92), gl 76 94 84 false none 93, gp 77 95 84 false (.bin .neq 89 94), pu 78 96 (.pick 84 ct 95), mv 79 97 96, gp 80 98 97 false (.move 0), gp 81 99 97 false (.move 5), gp 82 100 97 false (.indexAddr 15 98 99), gp 83 101 97 false (.fieldAddr 12 100), gl 84 102 97 false none 101, gp 85 103 97 false (.lenSl 102), gp 86 104 97 false (.move 1), gp 87 105 97 false (.move 5), gp 88 106 97 false (.indexAddr 15 104 105), gp 89 107 97 false (.fieldAddr 12 106), gl 90 108 97 false none 107, gp 91 109 97 false (.lenSl 108), gp 92 110 97 false (.bin .neq 103 109), pu 93 111 (.pick 97 ct 110), mv 94 112 111, gp 95 113 112 false (.move 0), gp 96 114 112 false (.move 5), gp 97 115 112 false (.indexAddr 15 113 114), gp 98 116 112 false (.fieldAddr 13 115), gl 99 117 112 false none 116, gp 100 118 112 false (.move 1), gp 101 119 112 false (.move 5), gp 102 120 112 false (.indexAddr 15 118 119), gp 103 121 112 false (.fieldAddr 13 120), gl 104 122 112 false none 121, ⟨105, some 123, some (112, false), .eff (.call F.l_lhBody [117, 122]), []⟩, gp 106 124 112 false (.not 123), pu 107 125 (.pick 112 ct 124), mv 108 126 125, gp 109 127 126 false (.move 0), gp 110 128 126 false (.move 5), gp 111 129 126 false (.indexAddr 15 127 128), gp 112 130 126 false (.fieldAddr 14 129), gl 113 131 126 false none 130, gp 114 132 126 false (.move 1), gp 115 133 126 false (.move 5), gp 116 134 126 false (.indexAddr 15 132 133), gp 117 135 126 false (.fieldAddr 14 134), gl 118 136 126 false none 135, ⟨119, some 137, some (126, false), .eff (.call F.l_lhBody [131, 136]), []⟩, gp 120 138 126 false (.not 137), pu 121 139 (.pick 126 ct 138)]) (.cond 139 (.seq (rg [mv 0 4 cf]) .ret) .skip)) (.seq (rg [mv 0 6 (ci 0)]) (.block 2 (.loop (.seq (.seq (rg [mv 0 140 6, mv 1 141 0, mv 2 142 5, ia 3 143 15 141 142, fa 4 144 12 143, ld 5 145 none 144, pu 6 146 (.lenSl 145), pu 7 147 (.bin .lss 140 146)]) (.cond 147 .skip (.exit 2))) (.seq (.block 3 (.seq (.region true [mv 0 150 0, mv 1 151 5, ia 2 152 15 150 151, fa 3 153 12 152, ld 4 154 none 153, mv 5 155 6, ia 6 156 8 154 155, fa 7 157 0 156, ld 8 158 none 157, mv 9 159 1, mv 10 160 5, ia 11 161 15 159 160, fa 12 162 12 161, ld 13 163 none 162, mv 14 164 6, ia 15 165 8 163 164, fa 16 166 0 165, ld 17 167 none 166, pu 18 168 (.eqBool true 158 167), mv 19 169 168, gp 20 170 169 false (.move 0), gp 21 171 169 false (.move 5), gp 22 172 169 false (.indexAddr 15 170 171), gp 23 173 169 false (.fieldAddr 12 172), gl 24 174 169 false none 173, gp 25 175 169 false (.move 6), gp 26 176 169 false (.indexAddr 8 174 175), gp 27 177 169 false (.fieldAddr 1 176), gl 28 178 169 false (some 2) 177, gp 29 179 169 false (.move 1), gp 30 180 169 false (.move 5), gp 31 181 169 false (.indexAddr 15 179 180), gp 32 182 169 false (.fieldAddr 12 181), gl 33 183 169 false none 182, gp 34 184 169 false (.move 6), gp 35 185 169 false (.indexAddr 8 183 184), gp 36 186 169 false (.fieldAddr 1 185), gl 37 187 169 false (some 2) 186, ⟨38, some 188, some (169, false), .eff (.call F.l_lhPlace [178, 187]), []⟩, gp 39 189 169 false (.not 188), pu 40 190 (.pick 169 ct 189), mv 41 191 190, gp 42 192 191 false (.move 0), gp 43 193 191 false (.move 5), gp 44 194 191 false (.indexAddr 15 192 193), gp 45 195 191 false (.fieldAddr 12 194), gl 46 196 191 false none 195, gp 47 197 191 false (.move 6), gp 48 198 191 false (.indexAddr 8 196 197), gp 49 199 191 false (.fieldAddr 3 198), gl 50 200 191 false (some 5) 199, gp 51 201 191 false (.move 1), gp 52 202 191 false (.move 5), gp 53 203 191 false (.indexAddr 15 201 202), gp 54 204 191 false (.fieldAddr 12 203), gl 55 205 191 false none 204, gp 56 206 191 false (.move 6), gp 57 207 191 false (.indexAddr 8 205 206), gp 58 208 191 false (.fieldAddr 3 207), gl 59 209 191 false (some 5) 208, ⟨60, some 210, some (191, false), .eff (.call F.l_lhExpr [200, 209]), []⟩, gp 61 211 191 false (.not 210), pu 62 212 (.pick 191 ct 211)]) (.cond 212 (.seq (rg [mv 0 4 cf]) .ret) .skip))) (rg [mv 0 148 6, pu 1 149 (.bin .add 148 (ci 1)), mv 2 6 149])))))))) (rg [mv 0 16 5, pu 1 17 (.bin .add 16 (ci 1)), mv 2 5 17])))))) (.seq (rg [mv 0 4 ct]) .ret)))⟩
def x_l_lhExpr (F : Ids) : XFunc := ⟨54, [.slot 4], .seq (rg [⟨0, some 2, none, .eff (.box 0), []⟩, ⟨1, some 3, none, .eff (.box 1), []⟩, mv 2 4 cf]) (.seq (.seq (rg [fa 0 6 0 2, ld 1 7 none 6, fa 2 8 0 3, ld 3 9 none 8, pu 4 10 (.bin .neq 7 9), mv 5 11 10, gp 6 12 11 false (.fieldAddr 1 2), gl 7 13 11 false none 12, gp 8 14 11 false (.fieldAddr 1 3), gl 9 15 11 false none 14, gp 10 16 11 false (.bin .neq 13 15), pu 11 17 (.pick 11 ct 16), mv 12 18 17, gp 13 19 18 false (.fieldAddr 2 2), gl 14 20 18 false (some 2) 19, gp 15 21 18 false (.fieldAddr 2 3), gl 16 22 18 false (some 2) 21, ⟨17, some 23, some (18, false), .eff (.call F.l_lhPlace [20, 22]), []⟩, gp 18 24 18 false (.not 23), pu 19 25 (.pick 18 ct 24), mv 20 26 25, gp 21 27 26 false (.fieldAddr 4 2), gl 22 28 26 false none 27, gp 23 29 26 false (.lenSl 28), gp 24 30 26 false (.fieldAddr 4 3), gl 25 31 26 false none 30, gp 26 32 26 false (.lenSl 31), gp 27 33 26 false (.bin .neq 29 32), pu 28 34 (.pick 26 ct 33)]) (.cond 34 (.seq (rg [mv 0 4 cf]) .ret) .skip)) (.seq (.seq (rg [mv 0 5 (ci 0)]) (.block 0 (.loop (.seq (.seq (rg [mv 0 35 5, fa 1 36 4 2, ld 2 37 none 36, pu 3 38 (.lenSl 37), pu 4 39 (.bin .lss 35 38)]) (.cond 39 .skip (.exit 0))) (.seq (.block 1 (.seq (.region true [fa 0 42 4 2, ld 1 43 none 42, mv 2 44 5, ia 3 45 5 43 44, ld 4 46 (some 5) 45, fa 5 47 4 3, ld 6 48 none 47, mv 7 49 5, ia 8 50 5 48 49, ld 9 51 (some 5) 50, ca 10 52 F.l_lhExpr [46, 51], pu 11 53 (.not 52)]) (.cond 53 (.seq (rg [mv 0 4 cf]) .ret) .skip))) (rg [mv 0 40 5, pu 1 41 (.bin .add 40 (ci 1)), mv 2 5 41])))))) (.seq (rg [mv 0 4 ct]) .ret)))⟩
def x_l_lhPlace (F : Ids) : XFunc := ⟨17, [.slot 4], .seq (rg [⟨0, some 2, none, .eff (.box 0), []⟩, ⟨1, some 3, none, .eff (.box 1), []⟩, mv 2 4 cf]) (.seq (rg [fa 0 5 0 2, ld 1 6 none 5, fa 2 7 0 3, ld 3 8 none 7, pu 4 9 (.bin .eql 6 8), mv 5 10 9, gp 6 11 10 true (.fieldAddr 1 2), gl 7 12 10 true none 11, gp 8 13 10 true (.fieldAddr 1 3), gl 9 14 10 true none 13, ⟨10, some 15, some (10, true), .eff (.call F.l_lhInts [12, 14]), []⟩, pu 11 16 (.pick 10 15 cf), mv 12 4 16]) .ret)⟩
def x_s_l71Prog (F : Ids) : XFunc := ⟨22, [.cell 2 (some 1)], .seq (rg [⟨0, some 2, none, .eff (.alloc [.slice none 0 0]), []⟩]) (.seq (rg [pu 0 5 (.build [.slice none 0 0] []), ⟨1, some 3, none, .eff (.alloc [.slice none 0 0]), []⟩, ⟨2, none, none, .eff (.store 1 3 5), []⟩]) (.seq (.seq (rg [mv 0 6 0, ca 1 7 F.s_l6Rd_pick [6, ci 4], pu 2 8 (.bin .add (ci 1) 7), mv 3 4 8]) (.block 0 (.loop (.seq (.seq (rg [mv 0 9 4, pu 1 10 (.bin .gtr 9 (ci 0))]) (.cond 10 .skip (.exit 0))) (.seq (.block 1 (.region true [fa 0 13 0 3, ⟨1, some 14, none, .load (.load none 13), [4]⟩, mv 2 15 0, ld 3 16 (some 1) 3, ⟨4, some 17, none, .eff (.call F.s_l71Fn [15, 16]), [1]⟩, ⟨5, some 18, none, .lits 12 1 [.string (bl []), .slice none 0 0, .bool false, .slice none 0 0, .slice none 0 0, .int .i64 0, .int .i64 0, .string (bl []), .slice none 0 0, .slice none 0 0, .string (bl []), .slice none 0 0] [(0, (12, 17))], []⟩, ⟨6, some 19, none, .eff (.appendM 12 216 14 18), []⟩, fa 7 20 0 3, ⟨8, none, none, .eff (.store 1 20 19), []⟩])) (rg [mv 0 11 4, pu 1 12 (.bin .sub 11 (ci 1)), mv 2 4 12])))))) (.seq (rg [ld 0 21 (some 1) 3, ⟨1, none, none, .eff (.store 1 2 21), []⟩]) .ret)))⟩
def x_s_l6Rd_pick (F : Ids) : XFunc := ⟨99, [.slot 4], .seq (rg [mv 0 4 (ci 0)]) (.seq (rg [mv 0 7 0, mv 1 8 0, nc 2 9 8, fa 3 10 1 9, ld 4 11 none 10, pu 5 12 (.bin .add 11 (ci 1)), nc 6 13 7, fa 7 14 1 13, ⟨8, none, none, .eff (.store 1 14 12), []⟩]) (.seq (.seq (rg [mv 0 15 1, pu 1 16 (.bin .lss 15 (ci 1)), mv 2 17 16, gp 3 18 17 false (.move 0), gp 4 19 17 false (.nilCheck 18), gp 5 20 17 false (.fieldAddr 0 19), gl 6 21 17 false none 20, gp 7 22 17 false (.lenSl 21), gp 8 23 17 false (.bin .eql 22 (ci 0)), pu 9 24 (.pick 17 ct 23)]) (.cond 24 (.seq (rg [mv 0 4 (ci 0)]) .ret) .skip)) (.seq (rg [mv 0 25 0, nc 1 26 25, fa 2 27 1 26, ld 3 28 none 27, pu 4 29 (.bin .sub 28 (ci 1)), mv 5 5 29]) (.seq (.seq (rg [mv 0 30 5, mv 1 31 0, nc 2 32 31, fa 3 33 0 32, ld 4 34 none 33, pu 5 35 (.lenSl 34), pu 6 36 (.bin .lss 30 35)]) (.cond 36 (.seq (rg [mv 0 37 0, nc 1 38 37, fa 2 39 0 38, ld 3 40 none 39, mv 4 41 5, ia 5 42 1 40 41, ld 6 43 none 42, pu 7 44 (.conv .i64 43), mv 8 45 1, pu 9 46 (.bin .rem 44 45), mv 10 4 46]) .ret) .skip)) (.seq (.region true [mv 0 47 0, nc 1 48 47, fa 2 49 0 48, ld 3 50 none 49, mv 4 51 5, mv 5 52 0, nc 6 53 52, fa 7 54 0 53, ld 8 55 none 54, pu 9 56 (.lenSl 55), pu 10 57 (.bin .rem 51 56), ia 11 58 1 50 57, ld 12 59 none 58, pu 13 60 (.conv .i64 59), pu 14 61 (.bin .mul 60 (ci 131)), mv 15 62 0, nc 16 63 62, fa 17 64 0 63, ld 18 65 none 64, mv 19 66 5, pu 20 67 (.bin .mul 66 (ci 7)), pu 21 68 (.bin .add 67 (ci 3)), mv 22 69 0, nc 23 70 69, fa 24 71 0 70, ld 25 72 none 71, pu 26 73 (.lenSl 72), pu 27 74 (.bin .rem 68 73), ia 28 75 1 65 74, ld 29 76 none 75, pu 30 77 (.conv .i64 76), pu 31 78 (.bin .mul 77 (ci 1117)), pu 32 79 (.bin .add 61 78), mv 33 80 5, pu 34 81 (.bin .mul 80 (ci 29)), pu 35 82 (.bin .add 79 81), mv 36 83 5, mv 37 84 0, nc 38 85 84, fa 39 86 0 85, ld 40 87 none 86, pu 41 88 (.lenSl 87), pu 42 89 (.bin .quo 83 88), pu 43 90 (.bin .mul 89 (ci 53)), pu 44 91 (.bin .add 82 90), mv 45 6 91]) (.seq (rg [mv 0 92 6, mv 1 93 6, pu 2 94 (.bin .quo 93 (ci 64)), pu 3 95 (.bin .xor 92 94), mv 4 6 95]) (.seq (rg [mv 0 96 6, mv 1 97 1, pu 2 98 (.bin .rem 96 97), mv 3 4 98]) .ret)))))))⟩
def x_s_l71Bend (F : Ids) : XFunc := ⟨196, [.cell 4 (some 1)], .seq (rg [⟨0, some 3, none, .eff (.box 1), []⟩, ⟨1, some 4, none, .eff (.alloc [.slice none 0 0]), []⟩]) (.seq (rg [mv 0 10 0, fa 1 11 0 3, ld 2 12 none 11, pu 3 13 (.lenSl 12), ca 4 14 F.s_l6Rd_pick [10, 13], mv 5 5 14]) (.seq (rg [fa 0 15 0 3, ld 1 16 none 15, mv 2 17 5, ia 3 18 12 16 17, ld 4 19 (some 12) 18, ⟨5, some 6, none, .eff (.alloc [.string (bl []), .slice none 0 0, .bool false, .slice none 0 0, .slice none 0 0, .int .i64 0, .int .i64 0, .string (bl []), .slice none 0 0, .slice none 0 0, .string (bl []), .slice none 0 0]), []⟩, ⟨6, none, none, .eff (.store 12 6 19), []⟩]) (.seq (.seq (rg [mv 0 20 0, ca 1 21 F.s_l6Rd_pick [20, ci 12]]) (.block 0 (.seq (rg [pu 0 31 (.bin .eql 21 (ci 0)), mv 1 30 31]) (.cond 30 (rg [mv 0 32 0, ⟨1, some 33, none, .eff (.buildSlice 1 5 [.string (bl [])] [(0, (1, .const (.string (bl [])))), (1, (1, .const (.string (bl [102, 97])))), (2, (1, .const (.string (bl [70])))), (3, (1, .const (.string (bl [116, 111, 111, 108, 111, 110, 103])))), (4, (1, .const (.string (bl [122, 122]))))]), []⟩, ca 2 34 F.s_l6Rd_of [32, 33], fa 3 35 0 6, ⟨4, none, none, .eff (.store 1 35 34), []⟩]) (.seq (rg [pu 0 37 (.bin .eql 21 (ci 1)), mv 1 36 37]) (.cond 36 (rg [mv 0 38 0, ca 1 39 F.s_l71Deep [38], fa 2 40 3 6, ⟨3, none, none, .eff (.store 1 40 39), []⟩]) (.seq (rg [pu 0 42 (.bin .eql 21 (ci 2)), mv 1 41 42]) (.cond 41 (rg [fa 0 43 2 6, ld 1 44 none 43, pu 2 45 (.not 44), fa 3 46 2 6, ⟨4, none, none, .eff (.store 1 46 45), []⟩]) (.seq (rg [pu 0 48 (.bin .eql 21 (ci 3)), mv 1 47 48]) (.cond 47 (.seq (rg [fa 0 49 4 6, ld 1 50 none 49, pu 2 51 (.lenSl 50), pu 3 52 (.bin .gtr 51 (ci 0))]) (.cond 52 (.seq (rg [mv 0 53 0, fa 1 54 4 6, ld 2 55 none 54, pu 3 56 (.lenSl 55), ca 4 57 F.s_l6Rd_pick [53, 56], mv 5 7 57]) (.region true [⟨0, some 58, none, .eff (.buildSlice 15 0 [.int .i64 0, .string (bl []), .string (bl []), .slice none 0 0, .string (bl []), .slice none 0 0, .int .i64 0, .int .i64 0, .string (bl []), .slice none 0 0, .slice none 0 0, .string (bl []), .slice none 0 0, .slice none 0 0, .slice none 0 0] []), []⟩, fa 1 59 4 6, ld 2 60 none 59, mv 3 61 7, pu 4 62 (.slice 15 60 none (some 61)), ⟨5, some 63, none, .eff (.appendM 15 272 58 62), [7]⟩, fa 6 64 4 6, ⟨7, some 65, none, .load (.load none 64), [5]⟩, mv 8 66 7, pu 9 67 (.bin .add 66 (ci 1)), pu 10 68 (.slice 15 65 (some 67) none), ⟨11, some 69, none, .eff (.appendM 15 272 63 68), []⟩, fa 12 70 4 6, ⟨13, none, none, .eff (.store 1 70 69), []⟩])) .skip)) (.seq (rg [pu 0 72 (.bin .eql 21 (ci 4)), mv 1 71 72]) (.cond 71 (.seq (rg [fa 0 73 4 6, ld 1 74 none 73, pu 2 75 (.lenSl 74), pu 3 76 (.bin .gtr 75 (ci 0))]) (.cond 76 (.region true [⟨0, some 77, none, .eff (.buildSlice 15 0 [.int .i64 0, .string (bl []), .string (bl []), .slice none 0 0, .string (bl []), .slice none 0 0, .int .i64 0, .int .i64 0, .string (bl []), .slice none 0 0, .slice none 0 0, .string (bl []), .slice none 0 0, .slice none 0 0, .slice none 0 0] []), []⟩, fa 1 78 4 6, ld 2 79 none 78, ⟨3, some 80, none, .eff (.appendM 15 272 77 79), [5, 8]⟩, fa 4 81 4 6, ⟨5, some 82, none, .load (.load none 81), [3, 10]⟩, mv 6 83 0, fa 7 84 4 6, ⟨8, some 85, none, .load (.load none 84), [3]⟩, pu 9 86 (.lenSl 85), ⟨10, some 87, none, .eff (.call F.s_l6Rd_pick [83, 86]), [5]⟩, ia 11 88 15 82 87, ld 12 89 (some 15) 88, ⟨13, some 90, none, .lits 15 1 [.int .i64 0, .string (bl []), .string (bl []), .slice none 0 0, .string (bl []), .slice none 0 0, .int .i64 0, .int .i64 0, .string (bl []), .slice none 0 0, .slice none 0 0, .string (bl []), .slice none 0 0, .slice none 0 0, .slice none 0 0] [(0, (15, 89))], []⟩, ⟨14, some 91, none, .eff (.appendM 15 272 80 90), []⟩, fa 15 92 4 6, ⟨16, none, none, .eff (.store 1 92 91), []⟩]) .skip)) (.seq (rg [pu 0 94 (.bin .eql 21 (ci 5)), mv 1 93 94]) (.cond 93 (rg [⟨0, some 95, none, .eff (.buildSlice 3 0 [.string (bl []), .bool false, .slice none 0 0] []), []⟩, fa 1 96 1 6, ld 2 97 none 96, ⟨3, some 98, none, .eff (.appendM 3 48 95 97), []⟩, mv 4 99 0, ⟨5, some 100, none, .eff (.buildSlice 1 3 [.string (bl [])] [(0, (1, .const (.string (bl [112])))), (1, (1, .const (.string (bl [122])))), (2, (1, .const (.string (bl [90]))))]), []⟩, ca 6 101 F.s_l6Rd_of [99, 100], mv 7 102 0, ca 8 103 F.s_l71Deep [102], pu 9 104 (.build [.string (bl []), .bool false, .slice none 0 0] [(0, (1, 101)), (2, (1, 103))]), ⟨10, some 105, none, .lits 3 1 [.string (bl []), .bool false, .slice none 0 0] [(0, (3, 104))], []⟩, ⟨11, some 106, none, .eff (.appendM 3 48 98 105), []⟩, fa 12 107 1 6, ⟨13, none, none, .eff (.store 1 107 106), []⟩]) (.seq (rg [pu 0 109 (.bin .eql 21 (ci 6)), mv 1 108 109]) (.cond 108 (rg [mv 0 110 0, ⟨1, some 111, none, .eff (.buildSlice 1 3 [.string (bl [])] [(0, (1, .const (.string (bl [112])))), (1, (1, .const (.string (bl [113])))), (2, (1, .const (.string (bl [122, 122]))))]), []⟩, ca 2 112 F.s_l6Rd_of [110, 111], mv 3 113 0, ca 4 114 F.s_l6Rd_pick [113, ci 3], pu 5 115 (.bin .sub 114 (ci 1)), ⟨6, some 116, none, .eff (.buildSlice 1 1 [.int .i64 0] [(0, (1, 115))]), []⟩, mv 7 117 0, ca 8 118 F.s_l6Rd_pick [117, ci 2], pu 9 119 (.slice 1 116 none (some 118)), pu 10 120 (.build [.string (bl []), .slice none 0 0] [(0, (1, 112)), (1, (1, 119))]), fa 11 121 10 6, ⟨12, none, none, .eff (.store 2 121 120), []⟩]) (.seq (rg [pu 0 123 (.bin .eql 21 (ci 7)), mv 1 122 123]) (.cond 122 (rg [mv 0 124 0, ca 1 125 F.s_l6Rd_pick [124, ci 8], mv 2 126 0, ca 3 127 F.s_l6Rd_pick [126, ci 3], pu 4 128 (.build [.string (bl []), .slice none 0 0] [(0, (1, .const (.string (bl [112]))))]), pu 5 129 (.build [.int .i64 0, .int .i64 0, .string (bl []), .slice none 0 0, .slice none 0 0] [(0, (1, 125)), (1, (1, 127)), (2, (2, 128))]), fa 6 130 5 6, ⟨7, none, none, .eff (.store 5 130 129), []⟩]) (.seq (.seq (rg [pu 0 132 (.bin .eql 21 (ci 8)), mv 1 131 132]) (.cond 131 .skip (rg [pu 0 133 (.bin .eql 21 (ci 9)), mv 1 131 133]))) (.cond 131 (kd30 F) (.seq (rg [pu 0 171 (.bin .eql 21 (ci 10)), mv 1 170 171]) (.cond 170 (rg [⟨0, some 172, none, .eff (.buildSlice 15 0 [.int .i64 0, .string (bl []), .string (bl []), .slice none 0 0, .string (bl []), .slice none 0 0, .int .i64 0, .int .i64 0, .string (bl []), .slice none 0 0, .slice none 0 0, .string (bl []), .slice none 0 0, .slice none 0 0, .slice none 0 0] []), []⟩, fa 1 173 4 6, ld 2 174 none 173, ⟨3, some 175, none, .eff (.appendM 15 272 172 174), []⟩, mv 4 176 0, ⟨5, some 177, none, .eff (.buildSlice 1 6 [.string (bl [])] [(0, (1, .const (.string (bl [112])))), (1, (1, .const (.string (bl [113])))), (2, (1, .const (.string (bl [97, 98])))), (3, (1, .const (.string (bl [97, 99])))), (4, (1, .const (.string (bl [97, 100])))), (5, (1, .const (.string (bl [97, 101]))))]), []⟩, ca 6 178 F.s_l6Rd_of [176, 177], pu 7 179 (.build [.string (bl []), .slice none 0 0] [(0, (1, 178))]), pu 8 180 (.build [.int .i64 0, .int .i64 0, .string (bl []), .slice none 0 0, .slice none 0 0] [(0, (1, ci 2)), (2, (2, 179))]), pu 9 181 (.build [.int .i64 0, .string (bl []), .string (bl []), .slice none 0 0, .string (bl []), .slice none 0 0, .int .i64 0, .int .i64 0, .string (bl []), .slice none 0 0, .slice none 0 0, .string (bl []), .slice none 0 0, .slice none 0 0, .slice none 0 0] [(0, (1, ci 1)), (1, (1, .const (.string (bl [122, 122])))), (6, (5, 180))]), ⟨10, some 182, none, .lits 15 1 [.int .i64 0, .string (bl []), .string (bl []), .slice none 0 0, .string (bl []), .slice none 0 0, .int .i64 0, .int .i64 0, .string (bl []), .slice none 0 0, .slice none 0 0, .string (bl []), .slice none 0 0, .slice none 0 0, .slice none 0 0] [(0, (15, 181))], []⟩, ⟨11, some 183, none, .eff (.appendM 15 272 175 182), []⟩, fa 12 184 4 6, ⟨13, none, none, .eff (.store 1 184 183), []⟩]) (.region true [⟨0, some 22, none, .eff (.buildSlice 12 0 [.string (bl []), .slice none 0 0, .bool false, .slice none 0 0, .slice none 0 0, .int .i64 0, .int .i64 0, .string (bl []), .slice none 0 0, .slice none 0 0, .string (bl []), .slice none 0 0] []), []⟩, fa 1 23 0 3, ld 2 24 none 23, ⟨3, some 25, none, .eff (.appendM 12 216 22 24), [4]⟩, ⟨4, some 26, none, .load (.load (some 12) 6), [3]⟩, ⟨5, some 27, none, .lits 12 1 [.string (bl []), .slice none 0 0, .bool false, .slice none 0 0, .slice none 0 0, .int .i64 0, .int .i64 0, .string (bl []), .slice none 0 0, .slice none 0 0, .string (bl []), .slice none 0 0] [(0, (12, 26))], []⟩, ⟨6, some 28, none, .eff (.appendM 12 216 25 27), []⟩, fa 7 29 0 3, ⟨8, none, none, .eff (.store 1 29 28), []⟩]))))))))))))))))))))))) (kd29 F))))⟩
def x_i_fnForm (F : Ids) : XFunc := ⟨62, [.slot 2], .seq (rg [⟨0, some 1, none, .eff (.box 0), []⟩, mv 1 2 cf]) (.seq (.seq (rg [fa 0 6 0 1, ld 1 7 none 6, ca 2 8 F.i_nameForm [7], pu 3 9 (.not 8), mv 4 10 9, gp 5 11 10 false (.fieldAddr 1 1), gl 6 12 10 false none 11, gp 7 13 10 false (.lenSl 12), gp 8 14 10 false (.bin .gtr 13 (ci 4)), pu 9 15 (.pick 10 ct 14), mv 10 16 15, gp 11 17 16 false (.fieldAddr 3 1), gl 12 18 16 false (some 1) 17, ⟨13, some 19, some (16, false), .eff (.call F.i_TypeOk [18]), []⟩, gp 14 20 16 false (.not 19), pu 15 21 (.pick 16 ct 20)]) (.cond 21 (.seq (rg [mv 0 2 cf]) .ret) .skip)) (.seq (.seq (rg [fa 0 22 1 1, ld 1 23 none 22, pu 2 24 (.lenSl 23), mv 3 25 (ci 0)]) (.block 0 (.loop (.seq (rg [pu 0 26 (.bin .lss 25 24)]) (.seq (.cond 26 .skip (.exit 0)) (.seq (.block 1 (.seq (rg [ia 0 27 3 23 25, ld 1 28 (some 3) 27, ⟨2, some 4, none, .eff (.alloc [.string (bl []), .bool false, .slice none 0 0]), []⟩, ⟨3, none, none, .eff (.store 3 4 28), []⟩]) (.seq (rg [fa 0 29 0 4, ld 1 30 none 29, ca 2 31 F.i_nameForm [30], pu 3 32 (.not 31), mv 4 33 32, gp 5 34 33 false (.fieldAddr 2 4), gl 6 35 33 false (some 1) 34, ⟨7, some 36, some (33, false), .eff (.call F.i_TypeOk [35]), []⟩, gp 8 37 33 false (.not 36), pu 9 38 (.pick 33 ct 37)]) (.cond 38 (.seq (rg [mv 0 2 cf]) .ret) .skip)))) (rg [pu 0 39 (.bin .add 25 (ci 1)), mv 1 25 39]))))))) (.seq (rg [⟨0, some 5, none, .eff (.alloc [.int .i64 0]), []⟩, ⟨1, none, none, .eff (.store 1 5 (ci 40)), []⟩]) (.seq (.seq (rg [fa 0 40 4 1, ld 1 41 none 40, ca 2 42 F.i_stmtsForm [41, ci 4, 5], pu 3 43 (.not 42)]) (.cond 43 (.seq (rg [mv 0 2 cf]) .ret) .skip)) (.seq (.seq (rg [fa 0 44 2 1, ld 1 45 none 44]) (.cond 45 (.seq (rg [fa 0 46 10 1, ld 1 47 (some 2) 46, ca 2 48 F.i_placeForm [47], mv 3 49 48, gp 4 50 49 true (.fieldAddr 5 1), gl 5 51 49 true (some 5) 50, ⟨6, some 52, some (49, true), .eff (.call F.i_exprNothing [51]), []⟩, pu 7 53 (.pick 49 52 cf), mv 8 2 53]) .ret) .skip)) (.seq (rg [fa 0 54 5 1, ld 1 55 (some 5) 54, ca 2 56 F.i_exprForm [55, ci 4], mv 3 57 56, gp 4 58 57 true (.fieldAddr 10 1), gl 5 59 57 true (some 2) 58, ⟨6, some 60, some (57, true), .eff (.call F.i_placeNothing [59]), []⟩, pu 7 61 (.pick 57 60 cf), mv 8 2 61]) .ret))))))⟩
def x_i_progLine (F : Ids) : XFunc := ⟨10, [], .seq (rg [mv 0 4 0, mv 1 5 1, ⟨2, some 6, none, .eff (.call F.strings_Join [5, .const (.string (bl [32]))]), []⟩, ca 3 7 F.strings_Builder_WriteString [4, 6]]) (rg [mv 0 8 0, ca 1 9 F.strings_Builder_WriteByte [8, .const (.int .u8 10)]])⟩
def x_i_typeWords (F : Ids) : XFunc := ⟨19, [.slot 2], .seq (rg [⟨0, some 1, none, .eff (.box 0), []⟩, mv 1 2 (.const (.string (bl [])))]) (.seq (.seq (rg [ld 0 3 (some 1) 1, ca 1 4 F.i_typeIsNum [3]]) (.cond 4 (.seq (rg [mv 0 2 (.const (.string (bl [105])))]) .ret) .skip)) (.seq (.region true [fa 0 5 0 1, ld 1 6 none 5, pu 2 7 (.indexAddr 1 6 (ci 0)), ld 3 8 (some 1) 7, ⟨4, some 9, none, .eff (.call F.i_typeWords [8]), [8, 10]⟩, pu 5 10 (.bin .add (.const (.string (bl [40]))) 9), pu 6 11 (.bin .add 10 (.const (.string (bl [44])))), fa 7 12 0 1, ⟨8, some 13, none, .load (.load none 12), [4]⟩, pu 9 14 (.indexAddr 1 13 (ci 1)), ⟨10, some 15, none, .load (.load (some 1) 14), [4]⟩, ca 11 16 F.i_typeWords [15], pu 12 17 (.bin .add 11 16), pu 13 18 (.bin .add 17 (.const (.string (bl [41])))), mv 14 2 18]) .ret))⟩
def x_i_stmtsWrite (F : Ids) : XFunc := ⟨131, [], .seq (rg [mv 0 15 1, pu 1 16 (.lenSl 15), mv 2 17 (ci 0)]) (.block 0 (.loop (.seq (rg [pu 0 18 (.bin .lss 17 16)]) (.seq (.cond 18 .skip (.exit 0)) (.seq (.block 1 (.seq (rg [ia 0 19 15 15 17, ld 1 20 (some 15) 19, ⟨2, some 5, none, .eff (.alloc [.int .i64 0, .string (bl []), .string (bl []), .slice none 0 0, .string (bl []), .slice none 0 0, .int .i64 0, .int .i64 0, .string (bl []), .slice none 0 0, .slice none 0 0, .string (bl []), .slice none 0 0, .slice none 0 0, .slice none 0 0]), []⟩, ⟨3, none, none, .eff (.store 15 5 20), []⟩]) (.seq (rg [ld 0 21 (some 15) 5, ca 1 22 F.i_stmtOf [21]]) (.block 2 (.seq (rg [pu 0 23 (.assertT F.T_i_stmtLet (.aggc [.string (bl []), .int .i64 0, .int .i64 0, .string (bl []), .slice none 0 0, .slice none 0 0]) 22), pu 1 24 (.extract 23 1), pu 2 25 (.extract 23 0)]) (.cond 24 (.seq (rg [⟨0, some 6, none, .eff (.alloc [.string (bl []), .int .i64 0, .int .i64 0, .string (bl []), .slice none 0 0, .slice none 0 0]), []⟩, ⟨1, none, none, .eff (.store 6 6 25), []⟩]) (.region true [mv 0 26 0, fa 1 27 0 6, ⟨2, some 28, none, .load (.load none 27), [5]⟩, fa 3 29 1 6, ld 4 30 (some 5) 29, ⟨5, some 31, none, .eff (.call F.i_exprText [30]), [2]⟩, ⟨6, some 32, none, .eff (.buildSlice 1 3 [.string (bl [])] [(0, (1, .const (.string (bl [108, 101, 116])))), (1, (1, 28)), (2, (1, 31))]), []⟩, ca 7 33 F.i_progLine [26, 32]])) (.seq (rg [pu 0 34 (.assertT F.T_i_stmtLend (.aggc [.string (bl []), .string (bl []), .slice none 0 0]) 22), pu 1 35 (.extract 34 1), pu 2 36 (.extract 34 0)]) (.cond 35 (.seq (rg [⟨0, some 7, none, .eff (.alloc [.string (bl []), .string (bl []), .slice none 0 0]), []⟩, ⟨1, none, none, .eff (.store 3 7 36), []⟩]) (.region true [mv 0 37 0, fa 1 38 0 7, ⟨2, some 39, none, .load (.load none 38), [5]⟩, fa 3 40 1 7, ld 4 41 (some 2) 40, ⟨5, some 42, none, .eff (.call F.i_placeText [41]), [2]⟩, ⟨6, some 43, none, .eff (.buildSlice 1 3 [.string (bl [])] [(0, (1, .const (.string (bl [108, 101, 110, 100])))), (1, (1, 39)), (2, (1, 42))]), []⟩, ca 7 44 F.i_progLine [37, 43]])) (.seq (rg [pu 0 45 (.assertT F.T_i_stmtSet (.aggc [.string (bl []), .slice none 0 0, .int .i64 0, .int .i64 0, .string (bl []), .slice none 0 0, .slice none 0 0]) 22), pu 1 46 (.extract 45 1), pu 2 47 (.extract 45 0)]) (.cond 46 (.seq (rg [⟨0, some 8, none, .eff (.alloc [.string (bl []), .slice none 0 0, .int .i64 0, .int .i64 0, .string (bl []), .slice none 0 0, .slice none 0 0]), []⟩, ⟨1, none, none, .eff (.store 7 8 47), []⟩]) (.region true [mv 0 48 0, fa 1 49 0 8, ld 2 50 (some 2) 49, ⟨3, some 51, none, .eff (.call F.i_placeText [50]), [5]⟩, fa 4 52 2 8, ⟨5, some 53, none, .load (.load (some 5) 52), [3]⟩, ca 6 54 F.i_exprText [53], ⟨7, some 55, none, .eff (.buildSlice 1 3 [.string (bl [])] [(0, (1, .const (.string (bl [115, 101, 116])))), (1, (1, 51)), (2, (1, 54))]), []⟩, ca 8 56 F.i_progLine [48, 55]])) (.seq (rg [pu 0 57 (.assertT F.T_i_stmtCall (.aggc [.string (bl []), .string (bl []), .slice none 0 0]) 22), pu 1 58 (.extract 57 1), pu 2 59 (.extract 57 0)]) (.cond 58 (.seq (rg [⟨0, some 9, none, .eff (.alloc [.string (bl []), .string (bl []), .slice none 0 0]), []⟩, ⟨1, none, none, .eff (.store 3 9 59), []⟩]) (.seq (rg [fa 0 60 0 9, ld 1 61 none 60, fa 2 62 1 9, ld 3 63 none 62, ⟨4, some 64, none, .eff (.buildSlice 1 3 [.string (bl [])] [(0, (1, .const (.string (bl [99, 97, 108, 108])))), (1, (1, 61)), (2, (1, 63))]), []⟩, mv 5 10 64]) (.seq (.seq (rg [fa 0 65 2 9, ld 1 66 none 65, pu 2 67 (.lenSl 66), mv 3 68 (ci 0)]) (.block 3 (.loop (.seq (rg [pu 0 69 (.bin .lss 68 67)]) (.seq (.cond 69 .skip (.exit 3)) (.seq (.block 4 (.seq (rg [ia 0 70 8 66 68, ld 1 71 (some 8) 70, ⟨2, some 12, none, .eff (.alloc [.bool false, .string (bl []), .slice none 0 0, .int .i64 0, .int .i64 0, .string (bl []), .slice none 0 0, .slice none 0 0]), []⟩, ⟨3, none, none, .eff (.store 8 12 71), []⟩]) (.seq (rg [fa 0 72 0 12, ld 1 73 none 72]) (.cond 73 (rg [mv 0 74 10, fa 1 75 1 12, ld 2 76 (some 2) 75, ca 3 77 F.i_placeText [76], ⟨4, some 78, none, .lits 1 2 [.string (bl [])] [(0, (1, .const (.string (bl [116, 111])))), (1, (1, 77))], []⟩, ⟨5, some 79, none, .eff (.appendM 1 16 74 78), []⟩, mv 6 10 79]) (rg [mv 0 80 10, fa 1 81 3 12, ld 2 82 (some 5) 81, ca 3 83 F.i_exprText [82], ⟨4, some 84, none, .lits 1 2 [.string (bl [])] [(0, (1, .const (.string (bl [111, 102])))), (1, (1, 83))], []⟩, ⟨5, some 85, none, .eff (.appendM 1 16 80 84), []⟩, mv 6 10 85]))))) (rg [pu 0 86 (.bin .add 68 (ci 1)), mv 1 68 86]))))))) (rg [mv 0 87 0, mv 1 88 10, ca 2 89 F.i_progLine [87, 88]])))) (.seq (rg [pu 0 90 (.assertT F.T_i_stmtIf (.aggc [.int .i64 0, .int .i64 0, .string (bl []), .slice none 0 0, .slice none 0 0, .slice none 0 0, .slice none 0 0]) 22), pu 1 91 (.extract 90 1), pu 2 92 (.extract 90 0)]) (.cond 91 (.seq (rg [⟨0, some 13, none, .eff (.alloc [.int .i64 0, .int .i64 0, .string (bl []), .slice none 0 0, .slice none 0 0, .slice none 0 0, .slice none 0 0]), []⟩, ⟨1, none, none, .eff (.store 7 13 92), []⟩]) (.seq (rg [mv 0 93 0, fa 1 94 0 13, ld 2 95 (some 5) 94, ca 3 96 F.i_exprText [95], ⟨4, some 97, none, .eff (.buildSlice 1 2 [.string (bl [])] [(0, (1, .const (.string (bl [105, 102])))), (1, (1, 96))]), []⟩, ca 5 98 F.i_progLine [93, 97]]) (.seq (rg [mv 0 99 0, fa 1 100 5 13, ld 2 101 none 100, ca 3 102 F.i_stmtsWrite [99, 101]]) (.seq (rg [mv 0 103 0, ⟨1, some 104, none, .eff (.buildSlice 1 1 [.string (bl [])] [(0, (1, .const (.string (bl [101, 108, 115, 101]))))]), []⟩, ca 2 105 F.i_progLine [103, 104]]) (.seq (rg [mv 0 106 0, fa 1 107 6 13, ld 2 108 none 107, ca 3 109 F.i_stmtsWrite [106, 108]]) (rg [mv 0 110 0, ⟨1, some 111, none, .eff (.buildSlice 1 1 [.string (bl [])] [(0, (1, .const (.string (bl [101, 110, 100]))))]), []⟩, ca 2 112 F.i_progLine [110, 111]])))))) (.seq (rg [pu 0 113 (.assertT F.T_i_stmtPick (.aggc [.string (bl []), .string (bl []), .slice none 0 0, .string (bl []), .slice none 0 0, .int .i64 0, .int .i64 0, .string (bl []), .slice none 0 0, .slice none 0 0]) 22), pu 1 114 (.extract 113 1), pu 2 115 (.extract 113 0)]) (.cond 114 (.seq (rg [⟨0, some 14, none, .eff (.alloc [.string (bl []), .string (bl []), .slice none 0 0, .string (bl []), .slice none 0 0, .int .i64 0, .int .i64 0, .string (bl []), .slice none 0 0, .slice none 0 0]), []⟩, ⟨1, none, none, .eff (.store 10 14 115), []⟩]) (.region true [mv 0 116 0, fa 1 117 0 14, ⟨2, some 118, none, .load (.load none 117), [5, 8, 11]⟩, fa 3 119 1 14, ld 4 120 (some 2) 119, ⟨5, some 121, none, .eff (.call F.i_placeText [120]), [2, 7, 10]⟩, fa 6 122 3 14, ⟨7, some 123, none, .load (.load (some 2) 122), [5]⟩, ⟨8, some 124, none, .eff (.call F.i_placeText [123]), [2, 10]⟩, fa 9 125 5 14, ⟨10, some 126, none, .load (.load (some 5) 125), [5, 8]⟩, ⟨11, some 127, none, .eff (.call F.i_exprText [126]), [2]⟩, ⟨12, some 128, none, .eff (.buildSlice 1 5 [.string (bl [])] [(0, (1, .const (.string (bl [112, 105, 99, 107])))), (1, (1, 118)), (2, (1, 121)), (3, (1, 124)), (4, (1, 127))]), []⟩, ca 13 129 F.i_progLine [116, 128]])) .skip)))))))))))))))) (rg [pu 0 130 (.bin .add 17 (ci 1)), mv 1 17 130]))))))⟩
def x_i_placeText (F : Ids) : XFunc := ⟨9, [.slot 2], .seq (rg [⟨0, some 1, none, .eff (.box 0), []⟩, mv 1 2 (.const (.string (bl [])))]) (.seq (.region true [fa 0 3 0 1, ⟨1, some 4, none, .load (.load none 3), [4]⟩, fa 2 5 1 1, ld 3 6 none 5, ⟨4, some 7, none, .eff (.call F.i_pathText [6]), [1]⟩, pu 5 8 (.bin .add 4 7), mv 6 2 8]) .ret)⟩
def x_i_exprText (F : Ids) : XFunc := ⟨37, [.slot 2], .seq (rg [⟨0, some 1, none, .eff (.box 0), []⟩, mv 1 2 (.const (.string (bl [])))]) (.seq (.seq (rg [ld 0 6 (some 5) 1, ca 1 7 F.i_exprOf [6]]) (.block 0 (.seq (rg [pu 0 8 (.assertT F.T_i_exprNum (.aggc [.int .i64 0]) 7), pu 1 9 (.extract 8 1), pu 2 10 (.extract 8 0)]) (.cond 9 (.seq (rg [⟨0, some 3, none, .eff (.alloc [.int .i64 0]), []⟩, ⟨1, none, none, .eff (.store 1 3 10), []⟩]) (.seq (rg [fa 0 11 0 3, ld 1 12 none 11, ca 2 13 F.strconv_Itoa [12], mv 3 2 13]) .ret)) (.seq (rg [pu 0 14 (.assertT F.T_i_exprRead (.aggc [.string (bl []), .slice none 0 0]) 7), pu 1 15 (.extract 14 1), pu 2 16 (.extract 14 0)]) (.cond 15 (.seq (rg [⟨0, some 4, none, .eff (.alloc [.string (bl []), .slice none 0 0]), []⟩, ⟨1, none, none, .eff (.store 2 4 16), []⟩]) (.seq (rg [fa 0 17 0 4, ld 1 18 (some 2) 17, ca 2 19 F.i_placeText [18], pu 3 20 (.bin .add (.const (.string (bl [64]))) 19), mv 4 2 20]) .ret)) (.seq (rg [pu 0 21 (.assertT F.T_i_exprTwo (.aggc [.int .i64 0, .int .i64 0, .int .i64 0, .string (bl []), .slice none 0 0, .slice none 0 0, .int .i64 0, .int .i64 0, .string (bl []), .slice none 0 0, .slice none 0 0]) 7), pu 1 22 (.extract 21 1), pu 2 23 (.extract 21 0)]) (.cond 22 (.seq (rg [⟨0, some 5, none, .eff (.alloc [.int .i64 0, .int .i64 0, .int .i64 0, .string (bl []), .slice none 0 0, .slice none 0 0, .int .i64 0, .int .i64 0, .string (bl []), .slice none 0 0, .slice none 0 0]), []⟩, ⟨1, none, none, .eff (.store 11 5 23), []⟩]) (.seq (.region true [fa 0 24 0 5, ld 1 25 none 24, ⟨2, some 26, none, .eff (.call F.i_twoText [25]), [5, 10]⟩, pu 3 27 (.bin .add 26 (.const (.string (bl [32])))), fa 4 28 1 5, ⟨5, some 29, none, .load (.load (some 5) 28), [2]⟩, ⟨6, some 30, none, .eff (.call F.i_exprText [29]), [10]⟩, pu 7 31 (.bin .add 27 30), pu 8 32 (.bin .add 31 (.const (.string (bl [32])))), fa 9 33 6 5, ⟨10, some 34, none, .load (.load (some 5) 33), [2, 6]⟩, ca 11 35 F.i_exprText [34], pu 12 36 (.bin .add 32 35), mv 13 2 36]) .ret)) .skip)))))))) (.seq (rg [mv 0 2 (.const (.string (bl [])))]) .ret))⟩
def x_s_l2Fn (F : Ids) : XFunc := ⟨75, [.slot 2], .seq (rg [⟨0, some 1, none, .eff (.box 0), []⟩, mv 1 2 cf]) (.seq (.seq (rg [fa 0 4 0 1, ld 1 5 none 4, ca 2 6 F.s_l2Name [5], pu 3 7 (.not 6), mv 4 8 7, gp 5 9 8 false (.fieldAddr 1 1), gl 6 10 8 false none 9, gp 7 11 8 false (.lenSl 10), gp 8 12 8 false (.bin .gtr 11 (ci 4)), pu 9 13 (.pick 8 ct 12), mv 10 14 13, gp 11 15 14 false (.fieldAddr 3 1), gl 12 16 14 false (some 1) 15, ⟨13, some 17, some (14, false), .eff (.call F.s_TypeOk [16]), []⟩, gp 14 18 14 false (.not 17), pu 15 19 (.pick 14 ct 18), mv 16 20 19, gp 17 21 20 false (.fieldAddr 4 1), gl 18 22 20 false none 21, ⟨19, some 23, some (20, false), .eff (.call F.s_l2Body [22, ci 4]), []⟩, gp 20 24 20 false (.not 23), pu 21 25 (.pick 20 ct 24), mv 22 26 25, gp 23 27 26 false (.fieldAddr 4 1), gl 24 28 26 false none 27, ⟨25, some 29, some (26, false), .eff (.call F.s_l2Count [28]), []⟩, gp 26 30 26 false (.bin .gtr 29 (ci 40)), pu 27 31 (.pick 26 ct 30)]) (.cond 31 (.seq (rg [mv 0 2 cf]) .ret) .skip)) (.seq (.seq (rg [mv 0 3 (ci 0)]) (.block 0 (.loop (.seq (.seq (rg [mv 0 32 3, fa 1 33 1 1, ld 2 34 none 33, pu 3 35 (.lenSl 34), pu 4 36 (.bin .lss 32 35)]) (.cond 36 .skip (.exit 0))) (.seq (.block 1 (.seq (rg [fa 0 39 1 1, ld 1 40 none 39, mv 2 41 3, ia 3 42 3 40 41, fa 4 43 0 42, ld 5 44 none 43, ca 6 45 F.s_l2Name [44], pu 7 46 (.not 45), mv 8 47 46, gp 9 48 47 false (.fieldAddr 1 1), gl 10 49 47 false none 48, gp 11 50 47 false (.move 3), gp 12 51 47 false (.indexAddr 3 49 50), gp 13 52 47 false (.fieldAddr 2 51), gl 14 53 47 false (some 1) 52, ⟨15, some 54, some (47, false), .eff (.call F.s_TypeOk [53]), []⟩, gp 16 55 47 false (.not 54), pu 17 56 (.pick 47 ct 55)]) (.cond 56 (.seq (rg [mv 0 2 cf]) .ret) .skip))) (rg [mv 0 37 3, pu 1 38 (.bin .add 37 (ci 1)), mv 2 3 38])))))) (.seq (.seq (rg [fa 0 57 2 1, ld 1 58 none 57]) (.cond 58 (.seq (rg [fa 0 59 10 1, ld 1 60 (some 2) 59, ca 2 61 F.s_l2Place [60], mv 3 62 61, gp 4 63 62 true (.fieldAddr 5 1), gl 5 64 62 true (some 5) 63, ⟨6, some 65, some (62, true), .eff (.call F.s_l2NoExpr [64]), []⟩, pu 7 66 (.pick 62 65 cf), mv 8 2 66]) .ret) .skip)) (.seq (rg [fa 0 67 10 1, ld 1 68 (some 2) 67, ca 2 69 F.s_l2None [68], mv 3 70 69, gp 4 71 70 true (.fieldAddr 5 1), gl 5 72 70 true (some 5) 71, ⟨6, some 73, some (70, true), .eff (.call F.s_l2Expr [72, ci 4]), []⟩, pu 7 74 (.pick 70 73 cf), mv 8 2 74]) .ret))))⟩
def x_s_l6Dec (F : Ids) : XFunc := ⟨28, [.slot 2], .seq (rg [mv 0 2 (.const (.string (bl [])))]) (.seq (.seq (rg [mv 0 3 0, pu 1 4 (.bin .lss 3 (.const (.int .i64 (-9223372036854775807))))]) (.cond 4 (.seq (rg [mv 0 2 (.const (.string (bl [45, 57, 50, 50, 51, 51, 55, 50, 48, 51, 54, 56, 53, 52, 55, 55, 53, 56, 48, 56])))]) .ret) .skip)) (.seq (.seq (rg [mv 0 5 0, pu 1 6 (.bin .lss 5 (ci 0))]) (.cond 6 (.seq (rg [mv 0 7 0, pu 1 8 (.neg 7), ca 2 9 F.s_l6Dec [8], pu 3 10 (.bin .add (.const (.string (bl [45]))) 9), mv 4 2 10]) .ret) .skip)) (.seq (.seq (rg [mv 0 11 0, pu 1 12 (.bin .lss 11 (ci 10))]) (.cond 12 (.seq (rg [mv 0 13 0, pu 1 14 (.bin .add (ci 48) 13), pu 2 15 (.conv .u8 14), ⟨3, some 16, none, .lits 1 1 [.int .u8 0] [(0, (1, 15))], []⟩, ⟨4, some 17, none, .load (.bytesToStr 16), []⟩, mv 5 2 17]) .ret) .skip)) (.seq (.region true [mv 0 18 0, pu 1 19 (.bin .quo 18 (ci 10)), ⟨2, some 20, none, .eff (.call F.s_l6Dec [19]), [8]⟩, mv 3 21 0, pu 4 22 (.bin .rem 21 (ci 10)), pu 5 23 (.bin .add (ci 48) 22), pu 6 24 (.conv .u8 23), ⟨7, some 25, none, .lits 1 1 [.int .u8 0] [(0, (1, 24))], []⟩, ⟨8, some 26, none, .load (.bytesToStr 25), [2]⟩, pu 9 27 (.bin .add 20 26), mv 10 2 27]) .ret))))⟩
def x_s_l2Signs (F : Ids) : XFunc := ⟨2, [.slot 0], .seq (rg [mv 0 0 (.const (.slice none 0 0))]) (.seq (rg [⟨0, some 1, none, .eff (.buildSlice 1 7 [.string (bl [])] [(0, (1, .const (.string (bl [])))), (1, (1, .const (.string (bl [])))), (2, (1, .const (.string (bl [])))), (3, (1, .const (.string (bl [43])))), (4, (1, .const (.string (bl [45])))), (5, (1, .const (.string (bl [60])))), (6, (1, .const (.string (bl [44]))))]), []⟩, mv 1 0 1]) .ret)⟩
def x_l_lhInts (F : Ids) : XFunc := ⟨26, [.slot 4], .seq (rg [mv 0 4 cf]) (.seq (.seq (rg [mv 0 6 0, pu 1 7 (.lenSl 6), mv 2 8 1, pu 3 9 (.lenSl 8), pu 4 10 (.bin .neq 7 9)]) (.cond 10 (.seq (rg [mv 0 4 cf]) .ret) .skip)) (.seq (.seq (rg [mv 0 5 (ci 0)]) (.block 0 (.loop (.seq (.seq (rg [mv 0 11 5, mv 1 12 0, pu 2 13 (.lenSl 12), pu 3 14 (.bin .lss 11 13)]) (.cond 14 .skip (.exit 0))) (.seq (.block 1 (.seq (.region true [mv 0 17 0, mv 1 18 5, ia 2 19 1 17 18, ld 3 20 none 19, mv 4 21 1, mv 5 22 5, ia 6 23 1 21 22, ld 7 24 none 23, pu 8 25 (.bin .neq 20 24)]) (.cond 25 (.seq (rg [mv 0 4 cf]) .ret) .skip))) (rg [mv 0 15 5, pu 1 16 (.bin .add 15 (ci 1)), mv 2 5 16])))))) (.seq (rg [mv 0 4 ct]) .ret)))⟩
def x_s_l71Fn (F : Ids) : XFunc := ⟨140, [.cell 4 (some 12)], .seq (rg [⟨0, some 3, none, .eff (.box 1), []⟩, ⟨1, some 4, none, .eff (.alloc [.string (bl []), .slice none 0 0, .bool false, .slice none 0 0, .slice none 0 0, .int .i64 0, .int .i64 0, .string (bl []), .slice none 0 0, .slice none 0 0, .string (bl []), .slice none 0 0]), []⟩]) (.seq (rg [fa 0 17 0 3, ld 1 18 none 17, pu 2 19 (.lenSl 18), mv 3 5 19]) (.seq (rg [⟨0, some 20, none, .lits 1 5 [.string (bl [])] [(0, (1, .const (.string (bl [102, 97])))), (1, (1, .const (.string (bl [102, 98])))), (2, (1, .const (.string (bl [102, 99])))), (3, (1, .const (.string (bl [102, 100])))), (4, (1, .const (.string (bl [102, 101]))))], []⟩, mv 1 21 5, ia 2 22 1 20 21, ld 3 23 none 22, pu 4 24 (.build [.string (bl []), .slice none 0 0, .bool false, .slice none 0 0, .slice none 0 0, .int .i64 0, .int .i64 0, .string (bl []), .slice none 0 0, .slice none 0 0, .string (bl []), .slice none 0 0] [(0, (1, 23))]), ⟨5, some 6, none, .eff (.alloc [.string (bl []), .slice none 0 0, .bool false, .slice none 0 0, .slice none 0 0, .int .i64 0, .int .i64 0, .string (bl []), .slice none 0 0, .slice none 0 0, .string (bl []), .slice none 0 0]), []⟩, ⟨6, none, none, .eff (.store 12 6 24), []⟩]) (.seq (rg [mv 0 25 0, ca 1 26 F.s_l6Rd_pick [25, ci 3], pu 2 27 (.bin .add (ci 1) 26), mv 3 7 27]) (.seq (.seq (rg [mv 0 8 (ci 0)]) (.block 0 (.loop (.seq (.seq (rg [mv 0 28 8, mv 1 29 7, pu 2 30 (.bin .lss 28 29)]) (.cond 30 .skip (.exit 0))) (.seq (.block 1 (.region true [fa 0 33 1 6, ⟨1, some 34, none, .load (.load none 33), [7, 10]⟩, ⟨2, some 35, none, .lits 1 4 [.string (bl [])] [(0, (1, .const (.string (bl [112])))), (1, (1, .const (.string (bl [113])))), (2, (1, .const (.string (bl [114])))), (3, (1, .const (.string (bl [115]))))], []⟩, mv 3 36 8, ia 4 37 1 35 36, ⟨5, some 38, none, .load (.load none 37), [7, 10]⟩, mv 6 39 0, ⟨7, some 40, none, .eff (.call F.s_l6Rd_pick [39, ci 3]), [1, 5]⟩, pu 8 41 (.bin .gtr 40 (ci 0)), mv 9 42 0, ⟨10, some 43, none, .eff (.call F.s_l71Type [42, ci 3]), [1, 5]⟩, pu 11 44 (.build [.string (bl []), .bool false, .slice none 0 0] [(0, (1, 38)), (1, (1, 41)), (2, (1, 43))]), ⟨12, some 45, none, .lits 3 1 [.string (bl []), .bool false, .slice none 0 0] [(0, (3, 44))], []⟩, ⟨13, some 46, none, .eff (.appendM 3 48 34 45), []⟩, fa 14 47 1 6, ⟨15, none, none, .eff (.store 1 47 46), []⟩])) (rg [mv 0 31 8, pu 1 32 (.bin .add 31 (ci 1)), mv 2 8 32])))))) (.seq (.region true [⟨0, some 48, none, .eff (.buildSlice 12 0 [.string (bl []), .slice none 0 0, .bool false, .slice none 0 0, .slice none 0 0, .int .i64 0, .int .i64 0, .string (bl []), .slice none 0 0, .slice none 0 0, .string (bl []), .slice none 0 0] []), []⟩, fa 1 49 0 3, ld 2 50 none 49, ⟨3, some 51, none, .eff (.appendM 12 216 48 50), [4]⟩, ⟨4, some 52, none, .load (.load (some 12) 6), [3]⟩, ⟨5, some 53, none, .lits 12 1 [.string (bl []), .slice none 0 0, .bool false, .slice none 0 0, .slice none 0 0, .int .i64 0, .int .i64 0, .string (bl []), .slice none 0 0, .slice none 0 0, .string (bl []), .slice none 0 0] [(0, (12, 52))], []⟩, ⟨6, some 54, none, .eff (.appendM 12 216 51 53), []⟩, pu 7 55 (.build [.slice none 0 0] [(0, (1, 54))]), ⟨8, some 9, none, .eff (.alloc [.slice none 0 0]), []⟩, ⟨9, none, none, .eff (.store 1 9 55), []⟩]) (.seq (rg [mv 0 56 0, ld 1 57 (some 1) 9, mv 2 58 5, ca 3 59 F.s_l3Start [57, 58], pu 4 60 (.build [.pointer none, .pointer none, .int .i64 0] [(0, (1, 56)), (1, (1, 59))]), ⟨5, some 61, none, .eff (.box 60), []⟩, mv 6 10 61]) (.seq (rg [mv 0 62 10, mv 1 63 0, ca 2 64 F.s_l6Rd_pick [63, ci 6], pu 3 65 (.bin .add (ci 1) 64), ca 4 66 F.s_l71Mk_body [62, 65, ci 3], fa 5 67 4 6, ⟨6, none, none, .eff (.store 1 67 66), []⟩]) (kd28 F))))))))⟩
def x_s_l6Rd_of (F : Ids) : XFunc := ⟨12, [.slot 4], .seq (rg [mv 0 4 (.const (.string (bl [])))]) (.seq (rg [mv 0 5 1, mv 1 6 0, mv 2 7 1, pu 3 8 (.lenSl 7), ca 4 9 F.s_l6Rd_pick [6, 8], ia 5 10 1 5 9, ld 6 11 none 10, mv 7 4 11]) .ret)⟩
def x_s_l71Deep (F : Ids) : XFunc := ⟨31, [.cell 2 (some 1)], .seq (rg [⟨0, some 2, none, .eff (.alloc [.slice none 0 0]), []⟩]) (.seq (rg [mv 0 5 0, mv 1 6 0, ca 2 7 F.s_l6Rd_pick [6, ci 4], pu 3 8 (.bin .add (ci 1) 7), ca 4 9 F.s_l71Type [5, 8], ⟨5, some 3, none, .eff (.alloc [.slice none 0 0]), []⟩, ⟨6, none, none, .eff (.store 1 3 9), []⟩]) (.seq (.seq (rg [mv 0 10 0, ca 1 11 F.s_l6Rd_pick [10, ci 12]]) (.block 0 (.seq (rg [pu 0 13 (.bin .eql 11 (ci 0)), mv 1 12 13]) (.cond 12 (.seq (rg [mv 0 4 (ci 0)]) (.block 1 (.loop (.seq (.seq (rg [mv 0 14 4, pu 1 15 (.bin .lss 14 (ci 5))]) (.cond 15 .skip (.exit 1))) (.seq (.block 2 (rg [ld 0 18 (some 1) 3, pu 1 19 (.build [.slice none 0 0] []), ⟨2, some 20, none, .eff (.buildSlice 1 2 [.slice none 0 0] [(0, (1, 18)), (1, (1, 19))]), []⟩, pu 3 21 (.build [.slice none 0 0] [(0, (1, 20))]), ⟨4, none, none, .eff (.store 1 3 21), []⟩])) (rg [mv 0 16 4, pu 1 17 (.bin .add 16 (ci 1)), mv 2 4 17])))))) (.seq (rg [pu 0 23 (.bin .eql 11 (ci 1)), mv 1 22 23]) (.cond 22 (rg [fa 0 24 0 3, ld 1 25 none 24, pu 2 26 (.build [.slice none 0 0] []), ⟨3, some 27, none, .lits 1 1 [.slice none 0 0] [(0, (1, 26))], []⟩, ⟨4, some 28, none, .eff (.appendM 1 24 25 27), []⟩, fa 5 29 0 3, ⟨6, none, none, .eff (.store 1 29 28), []⟩]) .skip)))))) (.seq (rg [ld 0 30 (some 1) 3, ⟨1, none, none, .eff (.store 1 2 30), []⟩]) .ret)))⟩
def x_i_nameForm (F : Ids) : XFunc := ⟨28, [.slot 2], .seq (rg [mv 0 2 cf]) (.seq (.seq (rg [mv 0 4 0, pu 1 5 (.lenStr 4), pu 2 6 (.bin .lss 5 (ci 1)), mv 3 7 6, gp 4 8 7 false (.move 0), gp 5 9 7 false (.lenStr 8), gp 6 10 7 false (.bin .gtr 9 (ci 6)), pu 7 11 (.pick 7 ct 10)]) (.cond 11 (.seq (rg [mv 0 2 cf]) .ret) .skip)) (.seq (.seq (rg [mv 0 12 0, pu 1 13 (.lenStr 12), mv 2 14 (ci 0)]) (.block 0 (.loop (.seq (rg [pu 0 15 (.bin .lss 14 13)]) (.seq (.cond 15 .skip (.exit 0)) (.seq (.block 1 (.seq (rg [mv 0 16 14, mv 1 3 16]) (.seq (rg [mv 0 17 0, mv 1 18 3, pu 2 19 (.strIndex 17 18), pu 3 20 (.bin .lss 19 (.const (.int .u8 97))), mv 4 21 20, gp 5 22 21 false (.move 0), gp 6 23 21 false (.move 3), gp 7 24 21 false (.strIndex 22 23), gp 8 25 21 false (.bin .gtr 24 (.const (.int .u8 122))), pu 9 26 (.pick 21 ct 25)]) (.cond 26 (.seq (rg [mv 0 2 cf]) .ret) .skip)))) (rg [pu 0 27 (.bin .add 14 (ci 1)), mv 1 14 27]))))))) (.seq (rg [mv 0 2 ct]) .ret)))⟩
def x_i_TypeOk (F : Ids) : XFunc := ⟨5, [.slot 2], .seq (rg [⟨0, some 1, none, .eff (.box 0), []⟩, mv 1 2 cf]) (.seq (rg [ld 0 3 (some 1) 1, ca 1 4 F.i_typeFits [3, ci 4], mv 2 2 4]) .ret)⟩
def x_i_stmtsForm (F : Ids) : XFunc := ⟨132, [.slot 6], .seq (rg [mv 0 6 cf]) (.seq (.seq (rg [mv 0 16 0, pu 1 17 (.lenSl 16), mv 2 18 (ci 0)]) (.block 0 (.loop (.seq (rg [pu 0 19 (.bin .lss 18 17)]) (.seq (.cond 19 .skip (.exit 0)) (.seq (.block 1 (.seq (rg [ia 0 20 15 16 18, ld 1 21 (some 15) 20, ⟨2, some 8, none, .eff (.alloc [.int .i64 0, .string (bl []), .string (bl []), .slice none 0 0, .string (bl []), .slice none 0 0, .int .i64 0, .int .i64 0, .string (bl []), .slice none 0 0, .slice none 0 0, .string (bl []), .slice none 0 0, .slice none 0 0, .slice none 0 0]), []⟩, ⟨3, none, none, .eff (.store 15 8 21), []⟩]) (.seq (rg [mv 0 22 2, nc 1 23 22, ld 2 24 none 23, pu 3 25 (.bin .sub 24 (ci 1)), nc 4 26 22, ⟨5, none, none, .eff (.store 1 26 25), []⟩]) (.seq (.seq (rg [mv 0 27 1, pu 1 28 (.bin .lss 27 (ci 1)), mv 2 29 28, gp 3 30 29 false (.move 2), gp 4 31 29 false (.nilCheck 30), gl 5 32 29 false none 31, gp 6 33 29 false (.bin .lss 32 (ci 0)), pu 7 34 (.pick 29 ct 33)]) (.cond 34 (.seq (rg [mv 0 6 cf]) .ret) .skip)) (.seq (rg [mv 0 9 cf]) (.seq (.seq (rg [ld 0 35 (some 15) 8, ca 1 36 F.i_stmtOf [35]]) (.block 2 (.seq (rg [pu 0 37 (.assertT F.T_i_stmtLet (.aggc [.string (bl []), .int .i64 0, .int .i64 0, .string (bl []), .slice none 0 0, .slice none 0 0]) 36), pu 1 38 (.extract 37 1), pu 2 39 (.extract 37 0)]) (.cond 38 (.seq (rg [⟨0, some 10, none, .eff (.alloc [.string (bl []), .int .i64 0, .int .i64 0, .string (bl []), .slice none 0 0, .slice none 0 0]), []⟩, ⟨1, none, none, .eff (.store 6 10 39), []⟩]) (rg [fa 0 40 0 10, ld 1 41 none 40, ca 2 42 F.i_nameForm [41], mv 3 43 42, gp 4 44 43 true (.fieldAddr 1 10), gl 5 45 43 true (some 5) 44, ⟨6, some 46, some (43, true), .eff (.call F.i_exprForm [45, ci 4]), []⟩, pu 7 47 (.pick 43 46 cf), mv 8 9 47])) (.seq (rg [pu 0 48 (.assertT F.T_i_stmtLend (.aggc [.string (bl []), .string (bl []), .slice none 0 0]) 36), pu 1 49 (.extract 48 1), pu 2 50 (.extract 48 0)]) (.cond 49 (.seq (rg [⟨0, some 11, none, .eff (.alloc [.string (bl []), .string (bl []), .slice none 0 0]), []⟩, ⟨1, none, none, .eff (.store 3 11 50), []⟩]) (rg [fa 0 51 0 11, ld 1 52 none 51, ca 2 53 F.i_nameForm [52], mv 3 54 53, gp 4 55 54 true (.fieldAddr 1 11), gl 5 56 54 true (some 2) 55, ⟨6, some 57, some (54, true), .eff (.call F.i_placeForm [56]), []⟩, pu 7 58 (.pick 54 57 cf), mv 8 9 58])) (.seq (rg [pu 0 59 (.assertT F.T_i_stmtSet (.aggc [.string (bl []), .slice none 0 0, .int .i64 0, .int .i64 0, .string (bl []), .slice none 0 0, .slice none 0 0]) 36), pu 1 60 (.extract 59 1), pu 2 61 (.extract 59 0)]) (.cond 60 (.seq (rg [⟨0, some 12, none, .eff (.alloc [.string (bl []), .slice none 0 0, .int .i64 0, .int .i64 0, .string (bl []), .slice none 0 0, .slice none 0 0]), []⟩, ⟨1, none, none, .eff (.store 7 12 61), []⟩]) (rg [fa 0 62 0 12, ld 1 63 (some 2) 62, ca 2 64 F.i_placeForm [63], mv 3 65 64, gp 4 66 65 true (.fieldAddr 2 12), gl 5 67 65 true (some 5) 66, ⟨6, some 68, some (65, true), .eff (.call F.i_exprForm [67, ci 4]), []⟩, pu 7 69 (.pick 65 68 cf), mv 8 9 69])) (.seq (rg [pu 0 70 (.assertT F.T_i_stmtCall (.aggc [.string (bl []), .string (bl []), .slice none 0 0]) 36), pu 1 71 (.extract 70 1), pu 2 72 (.extract 70 0)]) (.cond 71 (.seq (rg [⟨0, some 13, none, .eff (.alloc [.string (bl []), .string (bl []), .slice none 0 0]), []⟩, ⟨1, none, none, .eff (.store 3 13 72), []⟩]) (rg [fa 0 73 0 13, ld 1 74 none 73, ca 2 75 F.i_nameForm [74], mv 3 76 75, gp 4 77 76 true (.fieldAddr 1 13), gl 5 78 76 true none 77, ⟨6, some 79, some (76, true), .eff (.call F.i_nameForm [78]), []⟩, pu 7 80 (.pick 76 79 cf), mv 8 81 80, gp 9 82 81 true (.fieldAddr 2 13), gl 10 83 81 true none 82, ⟨11, some 84, some (81, true), .eff (.call F.i_argsForm [83]), []⟩, pu 12 85 (.pick 81 84 cf), mv 13 9 85])) (.seq (rg [pu 0 86 (.assertT F.T_i_stmtIf (.aggc [.int .i64 0, .int .i64 0, .string (bl []), .slice none 0 0, .slice none 0 0, .slice none 0 0, .slice none 0 0]) 36), pu 1 87 (.extract 86 1), pu 2 88 (.extract 86 0)]) (.cond 87 (.seq (rg [⟨0, some 14, none, .eff (.alloc [.int .i64 0, .int .i64 0, .string (bl []), .slice none 0 0, .slice none 0 0, .slice none 0 0, .slice none 0 0]), []⟩, ⟨1, none, none, .eff (.store 7 14 88), []⟩]) (rg [fa 0 89 0 14, ld 1 90 (some 5) 89, ca 2 91 F.i_exprForm [90, ci 4], mv 3 92 91, gp 4 93 92 true (.fieldAddr 5 14), gl 5 94 92 true none 93, gp 6 95 92 true (.move 1), gp 7 96 92 true (.bin .sub 95 (ci 1)), gp 8 97 92 true (.move 2), ⟨9, some 98, some (92, true), .eff (.call F.i_stmtsForm [94, 96, 97]), []⟩, pu 10 99 (.pick 92 98 cf), mv 11 100 99, gp 12 101 100 true (.fieldAddr 6 14), gl 13 102 100 true none 101, gp 14 103 100 true (.move 1), gp 15 104 100 true (.bin .sub 103 (ci 1)), gp 16 105 100 true (.move 2), ⟨17, some 106, some (100, true), .eff (.call F.i_stmtsForm [102, 104, 105]), []⟩, pu 18 107 (.pick 100 106 cf), mv 19 9 107])) (.seq (rg [pu 0 108 (.assertT F.T_i_stmtPick (.aggc [.string (bl []), .string (bl []), .slice none 0 0, .string (bl []), .slice none 0 0, .int .i64 0, .int .i64 0, .string (bl []), .slice none 0 0, .slice none 0 0]) 36), pu 1 109 (.extract 108 1), pu 2 110 (.extract 108 0)]) (.cond 109 (.seq (rg [⟨0, some 15, none, .eff (.alloc [.string (bl []), .string (bl []), .slice none 0 0, .string (bl []), .slice none 0 0, .int .i64 0, .int .i64 0, .string (bl []), .slice none 0 0, .slice none 0 0]), []⟩, ⟨1, none, none, .eff (.store 10 15 110), []⟩]) (rg [fa 0 111 0 15, ld 1 112 none 111, ca 2 113 F.i_nameForm [112], mv 3 114 113, gp 4 115 114 true (.fieldAddr 1 15), gl 5 116 114 true (some 2) 115, ⟨6, some 117, some (114, true), .eff (.call F.i_placeForm [116]), []⟩, pu 7 118 (.pick 114 117 cf), mv 8 119 118, gp 9 120 119 true (.fieldAddr 3 15), gl 10 121 119 true (some 2) 120, ⟨11, some 122, some (119, true), .eff (.call F.i_placeForm [121]), []⟩, pu 12 123 (.pick 119 122 cf), mv 13 124 123, gp 14 125 124 true (.fieldAddr 5 15), gl 15 126 124 true (some 5) 125, ⟨16, some 127, some (124, true), .eff (.call F.i_exprForm [126, ci 4]), []⟩, pu 17 128 (.pick 124 127 cf), mv 18 9 128])) .skip)))))))))))))) (.seq (rg [mv 0 129 9, pu 1 130 (.not 129)]) (.cond 130 (.seq (rg [mv 0 6 cf]) .ret) .skip)))))))) (rg [pu 0 131 (.bin .add 18 (ci 1)), mv 1 18 131]))))))) (.seq (rg [mv 0 6 ct]) .ret))⟩
def x_i_placeForm (F : Ids) : XFunc := ⟨11, [.slot 2], .seq (rg [⟨0, some 1, none, .eff (.box 0), []⟩, mv 1 2 cf]) (.seq (rg [fa 0 3 0 1, ld 1 4 none 3, ca 2 5 F.i_nameForm [4], mv 3 6 5, gp 4 7 6 true (.fieldAddr 1 1), gl 5 8 6 true none 7, ⟨6, some 9, some (6, true), .eff (.call F.i_pathForm [8]), []⟩, pu 7 10 (.pick 6 9 cf), mv 8 2 10]) .ret)⟩
def x_i_exprNothing (F : Ids) : XFunc := ⟨22, [.slot 2], .seq (rg [⟨0, some 1, none, .eff (.box 0), []⟩, mv 1 2 cf]) (.seq (rg [fa 0 3 0 1, ld 1 4 none 3, pu 2 5 (.bin .eql 4 (ci 0)), mv 3 6 5, gp 4 7 6 true (.fieldAddr 1 1), gl 5 8 6 true none 7, gp 6 9 6 true (.bin .eql 8 (ci 0)), pu 7 10 (.pick 6 9 cf), mv 8 11 10, gp 9 12 11 true (.fieldAddr 2 1), gl 10 13 11 true (some 2) 12, ⟨11, some 14, some (11, true), .eff (.call F.i_placeNothing [13]), []⟩, pu 12 15 (.pick 11 14 cf), mv 13 16 15, gp 14 17 16 true (.fieldAddr 4 1), gl 15 18 16 true none 17, gp 16 19 16 true (.lenSl 18), gp 17 20 16 true (.bin .eql 19 (ci 0)), pu 18 21 (.pick 16 20 cf), mv 19 2 21]) .ret)⟩
def x_i_exprForm (F : Ids) : XFunc := ⟨44, [.slot 4], .seq (rg [⟨0, some 2, none, .eff (.box 0), []⟩, mv 1 4 cf]) (.seq (.seq (rg [mv 0 8 1, pu 1 9 (.bin .lss 8 (ci 1))]) (.cond 9 (.seq (rg [mv 0 4 cf]) .ret) .skip)) (.seq (.seq (rg [ld 0 10 (some 5) 2, ca 1 11 F.i_exprOf [10]]) (.block 0 (.seq (rg [pu 0 12 (.assertT F.T_i_exprNum (.aggc [.int .i64 0]) 11), pu 1 13 (.extract 12 1), pu 2 14 (.extract 12 0)]) (.cond 13 (.seq (rg [⟨0, some 5, none, .eff (.alloc [.int .i64 0]), []⟩, ⟨1, none, none, .eff (.store 1 5 14), []⟩]) (.seq (rg [fa 0 15 0 5, ld 1 16 none 15, pu 2 17 (.bin .geq 16 (ci 0)), mv 3 18 17, gp 4 19 18 true (.fieldAddr 0 5), gl 5 20 18 true none 19, gp 6 21 18 true (.bin .leq 20 (ci 9999)), pu 7 22 (.pick 18 21 cf), mv 8 4 22]) .ret)) (.seq (rg [pu 0 23 (.assertT F.T_i_exprRead (.aggc [.string (bl []), .slice none 0 0]) 11), pu 1 24 (.extract 23 1), pu 2 25 (.extract 23 0)]) (.cond 24 (.seq (rg [⟨0, some 6, none, .eff (.alloc [.string (bl []), .slice none 0 0]), []⟩, ⟨1, none, none, .eff (.store 2 6 25), []⟩]) (.seq (rg [fa 0 26 0 6, ld 1 27 (some 2) 26, ca 2 28 F.i_placeForm [27], mv 3 4 28]) .ret)) (.seq (rg [pu 0 29 (.assertT F.T_i_exprTwo (.aggc [.int .i64 0, .int .i64 0, .int .i64 0, .string (bl []), .slice none 0 0, .slice none 0 0, .int .i64 0, .int .i64 0, .string (bl []), .slice none 0 0, .slice none 0 0]) 11), pu 1 30 (.extract 29 1), pu 2 31 (.extract 29 0)]) (.cond 30 (.seq (rg [⟨0, some 7, none, .eff (.alloc [.int .i64 0, .int .i64 0, .int .i64 0, .string (bl []), .slice none 0 0, .slice none 0 0, .int .i64 0, .int .i64 0, .string (bl []), .slice none 0 0, .slice none 0 0]), []⟩, ⟨1, none, none, .eff (.store 11 7 31), []⟩]) (.seq (rg [fa 0 32 1 7, ld 1 33 (some 5) 32, mv 2 34 1, pu 3 35 (.bin .sub 34 (ci 1)), ca 4 36 F.i_exprForm [33, 35], mv 5 37 36, gp 6 38 37 true (.fieldAddr 6 7), gl 7 39 37 true (some 5) 38, gp 8 40 37 true (.move 1), gp 9 41 37 true (.bin .sub 40 (ci 1)), ⟨10, some 42, some (37, true), .eff (.call F.i_exprForm [39, 41]), []⟩, pu 11 43 (.pick 37 42 cf), mv 12 4 43]) .ret)) .skip)))))))) (.seq (rg [mv 0 4 cf]) .ret)))⟩
def x_i_placeNothing (F : Ids) : XFunc := ⟨12, [.slot 2], .seq (rg [⟨0, some 1, none, .eff (.box 0), []⟩, mv 1 2 cf]) (.seq (rg [fa 0 3 0 1, ld 1 4 none 3, pu 2 5 (.bin .eql 4 (.const (.string (bl [])))), mv 3 6 5, gp 4 7 6 true (.fieldAddr 1 1), gl 5 8 6 true none 7, gp 6 9 6 true (.lenSl 8), gp 7 10 6 true (.bin .eql 9 (ci 0)), pu 8 11 (.pick 6 10 cf), mv 9 2 11]) .ret)⟩
def x_i_typeIsNum (F : Ids) : XFunc := ⟨7, [.slot 2], .seq (rg [⟨0, some 1, none, .eff (.box 0), []⟩, mv 1 2 cf]) (.seq (rg [fa 0 3 0 1, ld 1 4 none 3, pu 2 5 (.lenSl 4), pu 3 6 (.bin .eql 5 (ci 0)), mv 4 2 6]) .ret)⟩
def x_i_stmtOf (F : Ids) : XFunc := ⟨97, [.slot 2], .seq (rg [⟨0, some 1, none, .eff (.box 0), []⟩, mv 1 2 (.const .nilIface)]) (.seq (rg [ld 0 5 (some 15) 1, ⟨1, some 3, none, .eff (.alloc [.int .i64 0, .string (bl []), .string (bl []), .slice none 0 0, .string (bl []), .slice none 0 0, .int .i64 0, .int .i64 0, .string (bl []), .slice none 0 0, .slice none 0 0, .string (bl []), .slice none 0 0, .slice none 0 0, .slice none 0 0]), []⟩, ⟨2, none, none, .eff (.store 15 3 5), []⟩]) (.seq (rg [fa 0 6 0 3, ⟨1, none, none, .eff (.store 1 6 (ci 0)), []⟩]) (.seq (rg [mv 0 4 (.const .nilIface)]) (.seq (.seq (rg [fa 0 7 0 1, ld 1 8 none 7]) (.block 0 (.seq (rg [pu 0 10 (.bin .eql 8 (ci 1)), mv 1 9 10]) (.cond 9 (.seq (rg [fa 0 11 1 1, ld 1 12 none 11, fa 2 13 6 1, ld 3 14 (some 5) 13, pu 4 15 (.build [.string (bl []), .int .i64 0, .int .i64 0, .string (bl []), .slice none 0 0, .slice none 0 0] [(0, (1, 12)), (1, (5, 14))]), pu 5 16 (.mkIface F.T_i_stmtLet 15), mv 6 4 16]) (rg [pu 0 17 (.build [.int .i64 0, .int .i64 0, .string (bl []), .slice none 0 0, .slice none 0 0] []), fa 1 18 1 3, ⟨2, none, none, .eff (.store 1 18 (.const (.string (bl [])))), []⟩, fa 3 19 6 3, ⟨4, none, none, .eff (.store 5 19 17), []⟩])) (.seq (rg [pu 0 21 (.bin .eql 8 (ci 2)), mv 1 20 21]) (.cond 20 (.seq (rg [fa 0 22 1 1, ld 1 23 none 22, fa 2 24 2 1, ld 3 25 (some 2) 24, pu 4 26 (.build [.string (bl []), .string (bl []), .slice none 0 0] [(0, (1, 23)), (1, (2, 25))]), pu 5 27 (.mkIface F.T_i_stmtLend 26), mv 6 4 27]) (rg [pu 0 28 (.build [.string (bl []), .slice none 0 0] []), fa 1 29 1 3, ⟨2, none, none, .eff (.store 1 29 (.const (.string (bl [])))), []⟩, fa 3 30 2 3, ⟨4, none, none, .eff (.store 2 30 28), []⟩])) (.seq (rg [pu 0 32 (.bin .eql 8 (ci 3)), mv 1 31 32]) (.cond 31 (.seq (rg [fa 0 33 2 1, ld 1 34 (some 2) 33, fa 2 35 6 1, ld 3 36 (some 5) 35, pu 4 37 (.build [.string (bl []), .slice none 0 0, .int .i64 0, .int .i64 0, .string (bl []), .slice none 0 0, .slice none 0 0] [(0, (2, 34)), (2, (5, 36))]), pu 5 38 (.mkIface F.T_i_stmtSet 37), mv 6 4 38]) (rg [pu 0 39 (.build [.string (bl []), .slice none 0 0] []), pu 1 40 (.build [.int .i64 0, .int .i64 0, .string (bl []), .slice none 0 0, .slice none 0 0] []), fa 2 41 2 3, ⟨3, none, none, .eff (.store 2 41 39), []⟩, fa 4 42 6 3, ⟨5, none, none, .eff (.store 5 42 40), []⟩])) (.seq (rg [pu 0 44 (.bin .eql 8 (ci 4)), mv 1 43 44]) (.cond 43 (.seq (rg [fa 0 45 1 1, ld 1 46 none 45, fa 2 47 11 1, ld 3 48 none 47, fa 4 49 12 1, ld 5 50 none 49, pu 6 51 (.build [.string (bl []), .string (bl []), .slice none 0 0] [(0, (1, 46)), (1, (1, 48)), (2, (1, 50))]), pu 7 52 (.mkIface F.T_i_stmtCall 51), mv 8 4 52]) (rg [fa 0 53 1 3, ⟨1, none, none, .eff (.store 1 53 (.const (.string (bl [])))), []⟩, fa 2 54 11 3, ⟨3, none, none, .eff (.store 1 54 (.const (.string (bl [])))), []⟩, fa 4 55 12 3, ⟨5, none, none, .eff (.store 1 55 (.const (.slice none 0 0))), []⟩])) (.seq (rg [pu 0 57 (.bin .eql 8 (ci 5)), mv 1 56 57]) (.cond 56 (.seq (rg [fa 0 58 6 1, ld 1 59 (some 5) 58, fa 2 60 13 1, ld 3 61 none 60, fa 4 62 14 1, ld 5 63 none 62, pu 6 64 (.build [.int .i64 0, .int .i64 0, .string (bl []), .slice none 0 0, .slice none 0 0, .slice none 0 0, .slice none 0 0] [(0, (5, 59)), (5, (1, 61)), (6, (1, 63))]), pu 7 65 (.mkIface F.T_i_stmtIf 64), mv 8 4 65]) (rg [pu 0 66 (.build [.int .i64 0, .int .i64 0, .string (bl []), .slice none 0 0, .slice none 0 0] []), fa 1 67 6 3, ⟨2, none, none, .eff (.store 5 67 66), []⟩, fa 3 68 13 3, ⟨4, none, none, .eff (.store 1 68 (.const (.slice none 0 0))), []⟩, fa 5 69 14 3, ⟨6, none, none, .eff (.store 1 69 (.const (.slice none 0 0))), []⟩])) (.seq (rg [pu 0 71 (.bin .eql 8 (ci 6)), mv 1 70 71]) (.cond 70 (.seq (rg [fa 0 72 1 1, ld 1 73 none 72, fa 2 74 2 1, ld 3 75 (some 2) 74, fa 4 76 4 1, ld 5 77 (some 2) 76, fa 6 78 6 1, ld 7 79 (some 5) 78, pu 8 80 (.build [.string (bl []), .string (bl []), .slice none 0 0, .string (bl []), .slice none 0 0, .int .i64 0, .int .i64 0, .string (bl []), .slice none 0 0, .slice none 0 0] [(0, (1, 73)), (1, (2, 75)), (3, (2, 77)), (5, (5, 79))]), pu 9 81 (.mkIface F.T_i_stmtPick 80), mv 10 4 81]) (rg [pu 0 82 (.build [.string (bl []), .slice none 0 0] []), pu 1 83 (.build [.string (bl []), .slice none 0 0] []), pu 2 84 (.build [.int .i64 0, .int .i64 0, .string (bl []), .slice none 0 0, .slice none 0 0] []), fa 3 85 1 3, ⟨4, none, none, .eff (.store 1 85 (.const (.string (bl [])))), []⟩, fa 5 86 2 3, ⟨6, none, none, .eff (.store 2 86 82), []⟩, fa 7 87 4 3, ⟨8, none, none, .eff (.store 2 87 83), []⟩, fa 9 88 6 3, ⟨10, none, none, .eff (.store 5 88 84), []⟩])) .skip)))))))))))))) (.seq (.seq (rg [mv 0 89 4, pu 1 90 (.isNil false 89), mv 2 91 90, gl 3 92 91 false (some 15) 3, ⟨4, some 93, some (91, false), .eff (.call F.i_stmtNothing [92]), []⟩, gp 5 94 91 false (.not 93), pu 6 95 (.pick 91 ct 94)]) (.cond 95 (.seq (rg [mv 0 2 (.const .nilIface)]) .ret) .skip)) (.seq (rg [mv 0 96 4, mv 1 2 96]) .ret))))))⟩
def x_i_pathText (F : Ids) : XFunc := ⟨19, [.slot 2], .seq (rg [mv 0 2 (.const (.string (bl [])))]) (.seq (rg [mv 0 3 (.const (.string (bl [])))]) (.seq (.seq (rg [mv 0 6 0, pu 1 7 (.lenSl 6), mv 2 8 (ci 0)]) (.block 0 (.loop (.seq (rg [pu 0 9 (.bin .lss 8 7)]) (.seq (.cond 9 .skip (.exit 0)) (.seq (.block 1 (.seq (rg [ia 0 10 1 6 8, ld 1 11 none 10, mv 2 5 11]) (rg [mv 0 12 3, mv 1 13 5, ca 2 14 F.strconv_Itoa [13], pu 3 15 (.bin .add (.const (.string (bl [46]))) 14), pu 4 16 (.bin .add 12 15), mv 5 3 16]))) (rg [pu 0 17 (.bin .add 8 (ci 1)), mv 1 8 17]))))))) (.seq (rg [mv 0 18 3, mv 1 2 18]) .ret)))⟩
def x_i_exprOf (F : Ids) : XFunc := ⟨54, [.slot 2], .seq (rg [⟨0, some 1, none, .eff (.box 0), []⟩, mv 1 2 (.const .nilIface)]) (.seq (rg [ld 0 5 (some 5) 1, ⟨1, some 3, none, .eff (.alloc [.int .i64 0, .int .i64 0, .string (bl []), .slice none 0 0, .slice none 0 0]), []⟩, ⟨2, none, none, .eff (.store 5 3 5), []⟩]) (.seq (rg [fa 0 6 0 3, ⟨1, none, none, .eff (.store 1 6 (ci 0)), []⟩]) (.seq (rg [mv 0 4 (.const .nilIface)]) (.seq (.seq (rg [fa 0 7 0 1, ld 1 8 none 7]) (.block 0 (.seq (rg [pu 0 10 (.bin .eql 8 (ci 1)), mv 1 9 10]) (.cond 9 (.seq (rg [fa 0 11 1 1, ld 1 12 none 11, pu 2 13 (.build [.int .i64 0] [(0, (1, 12))]), pu 3 14 (.mkIface F.T_i_exprNum 13), mv 4 4 14]) (rg [fa 0 15 1 3, ⟨1, none, none, .eff (.store 1 15 (ci 0)), []⟩])) (.seq (rg [pu 0 17 (.bin .eql 8 (ci 2)), mv 1 16 17]) (.cond 16 (.seq (rg [fa 0 18 2 1, ld 1 19 (some 2) 18, pu 2 20 (.build [.string (bl []), .slice none 0 0] [(0, (2, 19))]), pu 3 21 (.mkIface F.T_i_exprRead 20), mv 4 4 21]) (rg [pu 0 22 (.build [.string (bl []), .slice none 0 0] []), fa 1 23 2 3, ⟨2, none, none, .eff (.store 2 23 22), []⟩])) (.seq (.seq (rg [pu 0 25 (.bin .eql 8 (ci 3)), mv 1 24 25]) (.cond 24 .skip (.seq (rg [pu 0 26 (.bin .eql 8 (ci 4)), mv 1 24 26]) (.cond 24 .skip (.seq (rg [pu 0 27 (.bin .eql 8 (ci 5)), mv 1 24 27]) (.cond 24 .skip (rg [pu 0 28 (.bin .eql 8 (ci 6)), mv 1 24 28]))))))) (.cond 24 (.seq (.seq (rg [fa 0 29 4 1, ld 1 30 none 29, pu 2 31 (.lenSl 30), pu 3 32 (.bin .neq 31 (ci 2))]) (.cond 32 (.seq (rg [mv 0 2 (.const .nilIface)]) .ret) .skip)) (.seq (.region true [fa 0 33 0 1, ld 1 34 none 33, fa 2 35 4 1, ld 3 36 none 35, pu 4 37 (.indexAddr 5 36 (ci 0)), ld 5 38 (some 5) 37, fa 6 39 4 1, ld 7 40 none 39, pu 8 41 (.indexAddr 5 40 (ci 1)), ld 9 42 (some 5) 41, pu 10 43 (.build [.int .i64 0, .int .i64 0, .int .i64 0, .string (bl []), .slice none 0 0, .slice none 0 0, .int .i64 0, .int .i64 0, .string (bl []), .slice none 0 0, .slice none 0 0] [(0, (1, 34)), (1, (5, 38)), (6, (5, 42))]), pu 11 44 (.mkIface F.T_i_exprTwo 43), mv 12 4 44]) (rg [fa 0 45 4 3, ⟨1, none, none, .eff (.store 1 45 (.const (.slice none 0 0))), []⟩]))) .skip)))))))) (.seq (.seq (rg [mv 0 46 4, pu 1 47 (.isNil false 46), mv 2 48 47, gl 3 49 48 false (some 5) 3, ⟨4, some 50, some (48, false), .eff (.call F.i_exprNothing [49]), []⟩, gp 5 51 48 false (.not 50), pu 6 52 (.pick 48 ct 51)]) (.cond 52 (.seq (rg [mv 0 2 (.const .nilIface)]) .ret) .skip)) (.seq (rg [mv 0 53 4, mv 1 2 53]) .ret))))))⟩
def x_i_twoText (F : Ids) : XFunc := ⟨10, [.slot 2], .seq (rg [mv 0 2 (.const (.string (bl [])))]) (.seq (.seq (rg [mv 0 3 0]) (.block 0 (.seq (rg [pu 0 5 (.bin .eql 3 (ci 3)), mv 1 4 5]) (.cond 4 (.seq (rg [mv 0 2 (.const (.string (bl [43])))]) .ret) (.seq (rg [pu 0 7 (.bin .eql 3 (ci 4)), mv 1 6 7]) (.cond 6 (.seq (rg [mv 0 2 (.const (.string (bl [45])))]) .ret) (.seq (rg [pu 0 9 (.bin .eql 3 (ci 5)), mv 1 8 9]) (.cond 8 (.seq (rg [mv 0 2 (.const (.string (bl [60])))]) .ret) .skip)))))))) (.seq (rg [mv 0 2 (.const (.string (bl [44])))]) .ret))⟩
def x_s_l2Name (F : Ids) : XFunc := ⟨28, [.slot 2], .seq (rg [mv 0 2 cf]) (.seq (.seq (rg [mv 0 4 0, pu 1 5 (.lenStr 4), pu 2 6 (.bin .lss 5 (ci 1)), mv 3 7 6, gp 4 8 7 false (.move 0), gp 5 9 7 false (.lenStr 8), gp 6 10 7 false (.bin .gtr 9 (ci 6)), pu 7 11 (.pick 7 ct 10)]) (.cond 11 (.seq (rg [mv 0 2 cf]) .ret) .skip)) (.seq (.seq (rg [mv 0 3 (ci 0)]) (.block 0 (.loop (.seq (.seq (rg [mv 0 12 3, mv 1 13 0, pu 2 14 (.lenStr 13), pu 3 15 (.bin .lss 12 14)]) (.cond 15 .skip (.exit 0))) (.seq (.block 1 (.seq (rg [mv 0 18 0, mv 1 19 3, pu 2 20 (.strIndex 18 19), pu 3 21 (.bin .lss 20 (.const (.int .u8 97))), mv 4 22 21, gp 5 23 22 false (.move 0), gp 6 24 22 false (.move 3), gp 7 25 22 false (.strIndex 23 24), gp 8 26 22 false (.bin .gtr 25 (.const (.int .u8 122))), pu 9 27 (.pick 22 ct 26)]) (.cond 27 (.seq (rg [mv 0 2 cf]) .ret) .skip))) (rg [mv 0 16 3, pu 1 17 (.bin .add 16 (ci 1)), mv 2 3 17])))))) (.seq (rg [mv 0 2 ct]) .ret)))⟩
def x_s_TypeOk (F : Ids) : XFunc := ⟨5, [.slot 2], .seq (rg [⟨0, some 1, none, .eff (.box 0), []⟩, mv 1 2 cf]) (.seq (rg [ld 0 3 (some 1) 1, ca 1 4 F.s_l1Deep [3, ci 4], mv 2 2 4]) .ret)⟩
def x_s_l2Body (F : Ids) : XFunc := ⟨26, [.slot 4], .seq (rg [mv 0 4 cf]) (.seq (.seq (rg [mv 0 6 1, pu 1 7 (.bin .lss 6 (ci 1)), mv 2 8 7, gp 3 9 8 false (.move 0), gp 4 10 8 false (.lenSl 9), gp 5 11 8 false (.bin .gtr 10 (ci 40)), pu 6 12 (.pick 8 ct 11)]) (.cond 12 (.seq (rg [mv 0 4 cf]) .ret) .skip)) (.seq (.seq (rg [mv 0 5 (ci 0)]) (.block 0 (.loop (.seq (.seq (rg [mv 0 13 5, mv 1 14 0, pu 2 15 (.lenSl 14), pu 3 16 (.bin .lss 13 15)]) (.cond 16 .skip (.exit 0))) (.seq (.block 1 (.seq (rg [mv 0 19 0, mv 1 20 5, ia 2 21 15 19 20, ld 3 22 (some 15) 21, mv 4 23 1, ca 5 24 F.s_l2Stmt [22, 23], pu 6 25 (.not 24)]) (.cond 25 (.seq (rg [mv 0 4 cf]) .ret) .skip))) (rg [mv 0 17 5, pu 1 18 (.bin .add 17 (ci 1)), mv 2 5 18])))))) (.seq (rg [mv 0 4 ct]) .ret)))⟩
def x_s_l2Count (F : Ids) : XFunc := ⟨29, [.slot 2], .seq (rg [mv 0 2 (ci 0)]) (.seq (rg [mv 0 5 0, pu 1 6 (.lenSl 5), mv 2 3 6]) (.seq (.seq (rg [mv 0 4 (ci 0)]) (.block 0 (.loop (.seq (.seq (rg [mv 0 7 4, mv 1 8 0, pu 2 9 (.lenSl 8), pu 3 10 (.bin .lss 7 9)]) (.cond 10 .skip (.exit 0))) (.seq (.block 1 (.region true [mv 0 13 3, mv 1 14 0, mv 2 15 4, ia 3 16 15 14 15, fa 4 17 13 16, ld 5 18 none 17, ⟨6, some 19, none, .eff (.call F.s_l2Count [18]), [12]⟩, pu 7 20 (.bin .add 13 19), mv 8 21 0, mv 9 22 4, ia 10 23 15 21 22, fa 11 24 14 23, ⟨12, some 25, none, .load (.load none 24), [6]⟩, ca 13 26 F.s_l2Count [25], pu 14 27 (.bin .add 20 26), mv 15 3 27])) (rg [mv 0 11 4, pu 1 12 (.bin .add 11 (ci 1)), mv 2 4 12])))))) (.seq (rg [mv 0 28 3, mv 1 2 28]) .ret)))⟩
def x_s_l2Place (F : Ids) : XFunc := ⟨28, [.slot 2], .seq (rg [⟨0, some 1, none, .eff (.box 0), []⟩, mv 1 2 cf]) (.seq (.seq (rg [fa 0 4 0 1, ld 1 5 none 4, ca 2 6 F.s_l2Name [5], pu 3 7 (.not 6), mv 4 8 7, gp 5 9 8 false (.fieldAddr 1 1), gl 6 10 8 false none 9, gp 7 11 8 false (.lenSl 10), gp 8 12 8 false (.bin .gtr 11 (ci 4)), pu 9 13 (.pick 8 ct 12)]) (.cond 13 (.seq (rg [mv 0 2 cf]) .ret) .skip)) (.seq (.seq (rg [mv 0 3 (ci 0)]) (.block 0 (.loop (.seq (.seq (rg [mv 0 14 3, fa 1 15 1 1, ld 2 16 none 15, pu 3 17 (.lenSl 16), pu 4 18 (.bin .lss 14 17)]) (.cond 18 .skip (.exit 0))) (.seq (.block 1 (.seq (rg [fa 0 21 1 1, ld 1 22 none 21, mv 2 23 3, ia 3 24 1 22 23, ld 4 25 none 24, ca 5 26 F.s_l6In [25, ci 0, ci 1], pu 6 27 (.not 26)]) (.cond 27 (.seq (rg [mv 0 2 cf]) .ret) .skip))) (rg [mv 0 19 3, pu 1 20 (.bin .add 19 (ci 1)), mv 2 3 20])))))) (.seq (rg [mv 0 2 ct]) .ret)))⟩
def x_s_l2NoExpr (F : Ids) : XFunc := ⟨22, [.slot 2], .seq (rg [⟨0, some 1, none, .eff (.box 0), []⟩, mv 1 2 cf]) (.seq (rg [fa 0 3 0 1, ld 1 4 none 3, pu 2 5 (.bin .eql 4 (ci 0)), mv 3 6 5, gp 4 7 6 true (.fieldAddr 1 1), gl 5 8 6 true none 7, gp 6 9 6 true (.bin .eql 8 (ci 0)), pu 7 10 (.pick 6 9 cf), mv 8 11 10, gp 9 12 11 true (.fieldAddr 2 1), gl 10 13 11 true (some 2) 12, ⟨11, some 14, some (11, true), .eff (.call F.s_l2None [13]), []⟩, pu 12 15 (.pick 11 14 cf), mv 13 16 15, gp 14 17 16 true (.fieldAddr 4 1), gl 15 18 16 true none 17, gp 16 19 16 true (.lenSl 18), gp 17 20 16 true (.bin .eql 19 (ci 0)), pu 18 21 (.pick 16 20 cf), mv 19 2 21]) .ret)⟩
def x_s_l2None (F : Ids) : XFunc := ⟨12, [.slot 2], .seq (rg [⟨0, some 1, none, .eff (.box 0), []⟩, mv 1 2 cf]) (.seq (rg [fa 0 3 0 1, ld 1 4 none 3, pu 2 5 (.bin .eql 4 (.const (.string (bl [])))), mv 3 6 5, gp 4 7 6 true (.fieldAddr 1 1), gl 5 8 6 true none 7, gp 6 9 6 true (.lenSl 8), gp 7 10 6 true (.bin .eql 9 (ci 0)), pu 8 11 (.pick 6 10 cf), mv 9 2 11]) .ret)⟩
def x_s_l2Expr (F : Ids) : XFunc := ⟨84, [.slot 4], .seq (rg [⟨0, some 2, none, .eff (.box 0), []⟩, mv 1 4 cf]) (.seq (.seq (rg [mv 0 6 1, pu 1 7 (.bin .lss 6 (ci 1)), mv 2 8 7, gp 3 9 8 false (.fieldAddr 0 2), gl 4 10 8 false none 9, gp 5 11 8 false (.bin .neq 10 (ci 1)), gp 6 12 8 false (.move 11), gp 7 13 12 true (.fieldAddr 1 2), gl 8 14 12 true none 13, gp 9 15 12 true (.bin .neq 14 (ci 0)), gp 10 16 8 false (.pick 12 15 cf), pu 11 17 (.pick 8 ct 16), mv 12 18 17, gp 13 19 18 false (.fieldAddr 0 2), gl 14 20 18 false none 19, gp 15 21 18 false (.bin .neq 20 (ci 2)), gp 16 22 18 false (.move 21), gp 17 23 22 true (.fieldAddr 2 2), gl 18 24 22 true (some 2) 23, ⟨19, some 25, some (22, true), .eff (.call F.s_l2None [24]), []⟩, gp 20 26 22 true (.not 25), gp 21 27 18 false (.pick 22 26 cf), pu 22 28 (.pick 18 ct 27), mv 23 29 28, gp 24 30 29 false (.fieldAddr 4 2), gl 25 31 29 false none 30, gp 26 32 29 false (.lenSl 31), gp 27 33 29 false (.bin .gtr 32 (ci 2)), pu 28 34 (.pick 29 ct 33)]) (.cond 34 (.seq (rg [mv 0 4 cf]) .ret) .skip)) (kd5 F))⟩
def x_s_l71Type (F : Ids) : XFunc := ⟨23, [.cell 4 (some 1)], .seq (rg [⟨0, some 4, none, .eff (.alloc [.slice none 0 0]), []⟩]) (.seq (.seq (rg [mv 0 5 1, pu 1 6 (.bin .lss 5 (ci 2)), mv 2 7 6, gp 3 8 7 false (.move 0), ⟨4, some 9, some (7, false), .eff (.call F.s_l6Rd_pick [8, ci 3]), []⟩, gp 5 10 7 false (.bin .gtr 9 (ci 0)), pu 6 11 (.pick 7 ct 10)]) (.cond 11 (.seq (rg [pu 0 12 (.build [.slice none 0 0] []), ⟨1, none, none, .eff (.store 1 4 12), []⟩]) .ret) .skip)) (.seq (rg [mv 0 13 0, mv 1 14 1, pu 2 15 (.bin .sub 14 (ci 1)), ca 3 16 F.s_l71Type [13, 15], mv 4 17 0, mv 5 18 1, pu 6 19 (.bin .sub 18 (ci 1)), ca 7 20 F.s_l71Type [17, 19], ⟨8, some 21, none, .eff (.buildSlice 1 2 [.slice none 0 0] [(0, (1, 16)), (1, (1, 20))]), []⟩, pu 9 22 (.build [.slice none 0 0] [(0, (1, 21))]), ⟨10, none, none, .eff (.store 1 4 22), []⟩]) .ret))⟩
def x_s_l3Start (F : Ids) : XFunc := ⟨42, [.slot 4], .seq (rg [⟨0, some 2, none, .eff (.box 0), []⟩, mv 1 4 (.const (.pointer none))]) (.seq (rg [ld 0 8 (some 1) 2, mv 1 9 1, pu 2 10 (.build [.slice none 0 0, .int .i64 0, .slice none 0 0, .slice none 0 0, .int .i64 0] [(0, (1, 8)), (1, (1, 9))]), ⟨3, some 11, none, .eff (.box 10), []⟩, mv 4 5 11]) (.seq (.seq (rg [mv 0 6 (ci 0)]) (.block 0 (.loop (.seq (.seq (rg [mv 0 12 6, fa 1 13 0 2, ld 2 14 none 13, mv 3 15 1, ia 4 16 12 14 15, fa 5 17 1 16, ld 6 18 none 17, pu 7 19 (.lenSl 18), pu 8 20 (.bin .lss 12 19)]) (.cond 20 .skip (.exit 0))) (.seq (.block 1 (.seq (rg [fa 0 23 0 2, ld 1 24 none 23, mv 2 25 1, ia 3 26 12 24 25, fa 4 27 1 26, ld 5 28 none 27, mv 6 29 6, ia 7 30 3 28 29, ld 8 31 (some 3) 30, ⟨9, some 7, none, .eff (.alloc [.string (bl []), .bool false, .slice none 0 0]), []⟩, ⟨10, none, none, .eff (.store 3 7 31), []⟩]) (rg [mv 0 32 5, fa 1 33 0 7, ld 2 34 none 33, fa 3 35 1 7, ld 4 36 none 35, fa 5 37 2 7, ld 6 38 (some 1) 37, pu 7 39 (.build [.string (bl []), .bool false, .bool false, .slice none 0 0, .slice none 0 0, .bool false] [(0, (1, 34)), (1, (1, 36)), (2, (1, ct)), (3, (1, 38))]), ca 8 40 F.s_l3Env_add [32, 39]]))) (rg [mv 0 21 6, pu 1 22 (.bin .add 21 (ci 1)), mv 2 6 22])))))) (.seq (rg [mv 0 41 5, mv 1 4 41]) .ret)))⟩
def x_s_l71Mk_body (F : Ids) : XFunc := ⟨53, [.slot 6], .seq (rg [mv 0 6 (.const (.slice none 0 0))]) (.seq (rg [⟨0, some 11, none, .eff (.buildSlice 15 0 [.int .i64 0, .string (bl []), .string (bl []), .slice none 0 0, .string (bl []), .slice none 0 0, .int .i64 0, .int .i64 0, .string (bl []), .slice none 0 0, .slice none 0 0, .string (bl []), .slice none 0 0, .slice none 0 0, .slice none 0 0] []), []⟩, mv 1 7 11]) (.seq (.seq (rg [mv 0 8 (ci 0)]) (.block 0 (.loop (.seq (.seq (rg [mv 0 12 8, mv 1 13 1, pu 2 14 (.bin .mul (ci 3) 13), pu 3 15 (.bin .lss 12 14), mv 4 16 15, gp 5 17 16 true (.move 7), gp 6 18 16 true (.lenSl 17), gp 7 19 16 true (.move 1), gp 8 20 16 true (.bin .lss 18 19), pu 9 21 (.pick 16 20 cf)]) (.cond 21 .skip (.exit 0))) (.seq (.block 1 (.seq (rg [mv 0 24 0, mv 1 25 2, ca 2 26 F.s_l71Mk_stmt [24, 25], ⟨3, some 9, none, .eff (.alloc [.int .i64 0, .string (bl []), .string (bl []), .slice none 0 0, .string (bl []), .slice none 0 0, .int .i64 0, .int .i64 0, .string (bl []), .slice none 0 0, .slice none 0 0, .string (bl []), .slice none 0 0, .slice none 0 0, .slice none 0 0]), []⟩, ⟨4, none, none, .eff (.store 15 9 26), []⟩]) (.seq (.seq (rg [ld 0 27 (some 15) 9, mv 1 28 2, ca 2 29 F.s_l2Stmt [27, 28], pu 3 30 (.not 29)]) (.cond 30 (.exit 1) .skip)) (.seq (rg [mv 0 31 0, nc 1 32 31, fa 2 33 1 32, ld 3 34 none 33, ca 4 35 F.s_l3Env_copy [34], mv 5 10 35]) (.seq (rg [mv 0 36 10, ld 1 37 (some 15) 9, ca 2 38 F.s_l3Env_stmt [36, 37]]) (.seq (rg [mv 0 39 10, nc 1 40 39, fa 2 41 4 40, ld 3 42 none 41, pu 4 43 (.bin .eql 42 (ci 0))]) (.cond 43 (.seq (rg [mv 0 44 0, mv 1 45 10, nc 2 46 44, fa 3 47 1 46, ⟨4, none, none, .eff (.store 1 47 45), []⟩]) (rg [mv 0 48 7, ld 1 49 (some 15) 9, ⟨2, some 50, none, .lits 15 1 [.int .i64 0, .string (bl []), .string (bl []), .slice none 0 0, .string (bl []), .slice none 0 0, .int .i64 0, .int .i64 0, .string (bl []), .slice none 0 0, .slice none 0 0, .string (bl []), .slice none 0 0, .slice none 0 0, .slice none 0 0] [(0, (15, 49))], []⟩, ⟨3, some 51, none, .eff (.appendM 15 272 48 50), []⟩, mv 4 7 51])) .skip))))))) (rg [mv 0 22 8, pu 1 23 (.bin .add 22 (ci 1)), mv 2 8 23])))))) (.seq (rg [mv 0 52 7, mv 1 6 52]) .ret)))⟩
def x_s_l71Mk_place (F : Ids) : XFunc := ⟨98, [.cell 2 (some 2), .cell 3 (some 1)], .seq (rg [⟨0, some 2, none, .eff (.alloc [.string (bl []), .slice none 0 0]), []⟩, ⟨1, some 3, none, .eff (.alloc [.slice none 0 0]), []⟩]) (.seq (rg [⟨0, some 9, none, .eff (.buildSlice 1 0 [.int .i64 0] []), []⟩, mv 1 4 9]) (.seq (.seq (rg [mv 0 5 (ci 0)]) (.block 0 (.loop (.seq (.seq (rg [mv 0 10 5, mv 1 11 0, nc 2 12 11, fa 3 13 1 12, ld 4 14 none 13, nc 5 15 14, fa 6 16 2 15, ld 7 17 none 16, pu 8 18 (.lenSl 17), pu 9 19 (.bin .lss 10 18)]) (.cond 19 .skip (.exit 0))) (.seq (.block 1 (.seq (rg [mv 0 22 0, nc 1 23 22, fa 2 24 1 23, ld 3 25 none 24, nc 4 26 25, fa 5 27 2 26, ld 6 28 none 27, mv 7 29 5, ia 8 30 6 28 29, fa 9 31 5 30, ld 10 32 none 31, pu 11 33 (.not 32)]) (.cond 33 (rg [mv 0 34 4, mv 1 35 5, ⟨2, some 36, none, .lits 1 1 [.int .i64 0] [(0, (1, 35))], []⟩, ⟨3, some 37, none, .eff (.appendM 1 8 34 36), []⟩, mv 4 4 37]) .skip))) (rg [mv 0 20 5, pu 1 21 (.bin .add 20 (ci 1)), mv 2 5 21])))))) (kd12 F)))⟩
def x_s_l3Env_copy (F : Ids) : XFunc := ⟨29, [.slot 2], .seq (rg [mv 0 2 (.const (.pointer none))]) (.seq (.region true [mv 0 3 0, nc 1 4 3, fa 2 5 0 4, ⟨3, some 6, none, .load (.load (some 1) 5), [13, 19]⟩, mv 4 7 0, nc 5 8 7, fa 6 9 1 8, ⟨7, some 10, none, .load (.load none 9), [13, 19]⟩, ⟨8, some 11, none, .eff (.buildSlice 6 0 [.string (bl []), .bool false, .bool false, .slice none 0 0, .slice none 0 0, .bool false] []), []⟩, mv 9 12 0, nc 10 13 12, fa 11 14 2 13, ld 12 15 none 14, ⟨13, some 16, none, .eff (.appendM 6 80 11 15), [3, 7, 18, 23]⟩, ⟨14, some 17, none, .eff (.buildSlice 1 0 [.string (bl [])] []), []⟩, mv 15 18 0, nc 16 19 18, fa 17 20 3 19, ⟨18, some 21, none, .load (.load none 20), [13]⟩, ⟨19, some 22, none, .eff (.appendM 1 16 17 21), [3, 7, 23]⟩, mv 20 23 0, nc 21 24 23, fa 22 25 4 24, ⟨23, some 26, none, .load (.load none 25), [13, 19]⟩, pu 24 27 (.build [.slice none 0 0, .int .i64 0, .slice none 0 0, .slice none 0 0, .int .i64 0] [(0, (1, 6)), (1, (1, 10)), (2, (1, 16)), (3, (1, 22)), (4, (1, 26))]), ⟨25, some 28, none, .eff (.box 27), []⟩, mv 26 2 28]) .ret)⟩
def x_s_l3Env_use (F : Ids) : XFunc := ⟨67, [.cell 4 (some 1)], .seq (rg [⟨0, some 3, none, .eff (.box 1), []⟩, ⟨1, some 4, none, .eff (.alloc [.slice none 0 0]), []⟩]) (.seq (rg [mv 0 10 0, fa 1 11 0 3, ld 2 12 none 11, ca 3 13 F.s_l3Env_find [10, 12], mv 4 5 13]) (.seq (.seq (rg [mv 0 14 5, pu 1 15 (.bin .lss 14 (ci 0))]) (.cond 15 (.seq (rg [mv 0 16 0, ca 1 17 F.s_l3Env_fail [16, ci 2]]) (.seq (rg [pu 0 18 (.build [.slice none 0 0] []), ⟨1, none, none, .eff (.store 1 4 18), []⟩]) .ret)) .skip)) (.seq (.seq (rg [mv 0 19 0, nc 1 20 19, fa 2 21 2 20, ld 3 22 none 21, mv 4 23 5, ia 5 24 6 22 23, fa 6 25 5 24, ld 7 26 none 25]) (.cond 26 (rg [mv 0 27 0, ca 1 28 F.s_l3Env_fail [27, ci 4]]) .skip)) (.seq (.region true [mv 0 30 0, nc 1 31 30, fa 2 32 2 31, ld 3 33 none 32, mv 4 34 5, ia 5 35 6 33 34, fa 6 36 3 35, ld 7 37 (some 1) 36, fa 8 38 1 3, ld 9 39 none 38, ca 10 40 F.s_TypeAt [37, 39], mv 11 29 40, pu 12 41 (.extract 29 0), pu 13 42 (.extract 29 1), ⟨14, some 6, none, .eff (.alloc [.slice none 0 0]), []⟩, ⟨15, none, none, .eff (.store 1 6 41), []⟩, mv 16 7 42]) (.seq (.seq (rg [mv 0 43 7, pu 1 44 (.not 43)]) (.cond 44 (rg [mv 0 45 0, ca 1 46 F.s_l3Env_fail [45, ci 3]]) .skip)) (kd1 F))))))⟩
def wwa (F : Ids) : XFunc := ⟨59, [.slot 4], .seq (rg [⟨0, some 3, none, .eff (.box 1), []⟩, mv 1 4 cf]) (.seq (rg [mv 0 7 0, fa 1 8 0 3, ld 2 9 none 8, ca 3 10 F.s_l3Env_find [7, 9], mv 4 5 10]) (.seq (.seq (rg [mv 0 11 5, pu 1 12 (.bin .lss 11 (ci 0)), mv 2 13 12, gp 3 14 13 false (.move 0), gp 4 15 13 false (.nilCheck 14), gp 5 16 13 false (.fieldAddr 2 15), gl 6 17 13 false none 16, gp 7 18 13 false (.move 5), gp 8 19 13 false (.indexAddr 6 17 18), gp 9 20 13 false (.fieldAddr 1 19), gl 10 21 13 false none 20, gp 11 22 13 false (.not 21), pu 12 23 (.pick 13 ct 22)]) (.cond 23 (.seq (rg [mv 0 4 cf]) .ret) .skip)) (.seq (.seq (rg [mv 0 24 0, nc 1 25 24, fa 2 26 2 25, ld 3 27 none 26, mv 4 28 5, ia 5 29 6 27 28, fa 6 30 2 29, ld 7 31 none 30]) (.cond 31 (.seq (rg [mv 0 4 ct]) .ret) .skip)) (.seq (.seq (rg [mv 0 6 (ci 0)]) (.block 0 (.loop (.seq (.seq (rg [mv 0 32 6, mv 1 33 0, nc 2 34 33, fa 3 35 2 34, ld 4 36 none 35, mv 5 37 5, ia 6 38 6 36 37, fa 7 39 4 38, ld 8 40 none 39, pu 9 41 (.lenSl 40), pu 10 42 (.bin .lss 32 41)]) (.cond 42 .skip (.exit 0))) (.seq (.block 1 (.seq (rg [mv 0 45 0, mv 1 46 0, nc 2 47 46, fa 3 48 2 47, ld 4 49 none 48, mv 5 50 5, ia 6 51 6 49 50, fa 7 52 4 51, ld 8 53 none 52, mv 9 54 6, ia 10 55 2 53 54, ld 11 56 (some 2) 55, ca 12 57 F.s_l3Env_outside [45, 56], pu 13 58 (.not 57)]) (.cond 58 (.seq (rg [mv 0 4 cf]) .ret) .skip))) (rg [mv 0 43 6, pu 1 44 (.bin .add 43 (ci 1)), mv 2 6 44])))))) (.seq (rg [mv 0 4 ct]) .ret)))))⟩
def x_s_l71Mk_expr (F : Ids) : XFunc := ⟨123, [.cell 6 (some 5)], .seq (rg [⟨0, some 4, none, .eff (.box 1), []⟩, ⟨1, some 6, none, .eff (.alloc [.int .i64 0, .int .i64 0, .string (bl []), .slice none 0 0, .slice none 0 0]), []⟩]) (.seq (.seq (rg [fa 0 15 0 4, ld 1 16 none 15, pu 2 17 (.lenSl 16), pu 3 18 (.bin .eql 17 (ci 2))]) (.cond 18 (.seq (.seq (rg [mv 0 7 (ci 0)]) (.block 0 (.loop (.seq (.seq (rg [mv 0 19 7, pu 1 20 (.bin .lss 19 (ci 3))]) (.cond 20 .skip (.exit 0))) (.seq (.block 1 (.seq (rg [mv 0 24 0, ca 1 25 F.s_l71Mk_place [24], mv 2 23 25, pu 3 26 (.extract 23 0), pu 4 27 (.extract 23 1), ⟨5, some 8, none, .eff (.alloc [.string (bl []), .slice none 0 0]), []⟩, ⟨6, some 9, none, .eff (.alloc [.slice none 0 0]), []⟩, ⟨7, none, none, .eff (.store 2 8 26), []⟩, ⟨8, none, none, .eff (.store 1 9 27), []⟩]) (.seq (rg [ld 0 28 (some 1) 9, ld 1 29 (some 1) 4, ca 2 30 F.s_l1Same [28, 29]]) (.cond 30 (.seq (rg [ld 0 31 (some 2) 8, pu 1 32 (.build [.int .i64 0, .int .i64 0, .string (bl []), .slice none 0 0, .slice none 0 0] [(0, (1, ci 2)), (2, (2, 31))]), ⟨2, none, none, .eff (.store 5 6 32), []⟩]) .ret) .skip)))) (rg [mv 0 21 7, pu 1 22 (.bin .add 21 (ci 1)), mv 2 7 22])))))) (kd18 F)) .skip)) (kd17 F))⟩
def x_s_l3Env_same (F : Ids) : XFunc := ⟨12, [], .seq (rg [⟨0, some 4, none, .eff (.box 1), []⟩, ⟨1, some 5, none, .eff (.box 2), []⟩]) (.seq (rg [ld 0 6 (some 1) 4, ld 1 7 (some 1) 5, ca 2 8 F.s_l1Same [6, 7], pu 3 9 (.not 8)]) (.cond 9 (rg [mv 0 10 0, ca 1 11 F.s_l3Env_fail [10, ci 3]]) .skip))⟩
def x_s_l3Env_expr (F : Ids) : XFunc := ⟨52, [.cell 4 (some 1)], .seq (rg [⟨0, some 3, none, .eff (.box 1), []⟩, ⟨1, some 4, none, .eff (.alloc [.slice none 0 0]), []⟩]) (.seq (.seq (rg [fa 0 8 0 3, ld 1 9 none 8]) (.block 0 (.seq (rg [pu 0 11 (.bin .eql 9 (ci 1)), mv 1 10 11]) (.cond 10 (.seq (rg [pu 0 12 (.build [.slice none 0 0] []), ⟨1, none, none, .eff (.store 1 4 12), []⟩]) .ret) (.seq (rg [pu 0 14 (.bin .eql 9 (ci 2)), mv 1 13 14]) (.cond 13 (.seq (rg [mv 0 15 0, fa 1 16 2 3, ld 2 17 (some 2) 16, ca 3 18 F.s_l3Env_use [15, 17], ⟨4, none, none, .eff (.store 1 4 18), []⟩]) .ret) .skip)))))) (.seq (rg [mv 0 19 0, fa 1 20 4 3, ld 2 21 none 20, pu 3 22 (.indexAddr 5 21 (ci 0)), ld 4 23 (some 5) 22, ca 5 24 F.s_l3Env_expr [19, 23], ⟨6, some 5, none, .eff (.alloc [.slice none 0 0]), []⟩, ⟨7, none, none, .eff (.store 1 5 24), []⟩]) (.seq (rg [mv 0 25 0, fa 1 26 4 3, ld 2 27 none 26, pu 3 28 (.indexAddr 5 27 (ci 1)), ld 4 29 (some 5) 28, ca 5 30 F.s_l3Env_expr [25, 29], ⟨6, some 6, none, .eff (.alloc [.slice none 0 0]), []⟩, ⟨7, none, none, .eff (.store 1 6 30), []⟩]) (.seq (.seq (rg [fa 0 31 0 3, ld 1 32 none 31, pu 2 33 (.bin .eql 32 (ci 6))]) (.cond 33 (.seq (rg [ld 0 34 (some 1) 5, ld 1 35 (some 1) 6, ⟨2, some 36, none, .eff (.buildSlice 1 2 [.slice none 0 0] [(0, (1, 34)), (1, (1, 35))]), []⟩, pu 3 37 (.build [.slice none 0 0] [(0, (1, 36))]), ⟨4, some 7, none, .eff (.alloc [.slice none 0 0]), []⟩, ⟨5, none, none, .eff (.store 1 7 37), []⟩]) (.seq (.seq (rg [ld 0 38 (some 1) 7, ca 1 39 F.s_TypeOk [38], pu 2 40 (.not 39)]) (.cond 40 (.seq (rg [mv 0 41 0, ca 1 42 F.s_l3Env_fail [41, ci 3]]) (.seq (rg [pu 0 43 (.build [.slice none 0 0] []), ⟨1, none, none, .eff (.store 1 4 43), []⟩]) .ret)) .skip)) (.seq (rg [ld 0 44 (some 1) 7, ⟨1, none, none, .eff (.store 1 4 44), []⟩]) .ret))) .skip)) (.seq (rg [mv 0 45 0, ld 1 46 (some 1) 5, ca 2 47 F.s_l3Env_num [45, 46]]) (.seq (rg [mv 0 48 0, ld 1 49 (some 1) 6, ca 2 50 F.s_l3Env_num [48, 49]]) (.seq (rg [pu 0 51 (.build [.slice none 0 0] []), ⟨1, none, none, .eff (.store 1 4 51), []⟩]) .ret)))))))⟩
def x_i_typeFits (F : Ids) : XFunc := ⟨33, [.slot 4], .seq (rg [⟨0, some 2, none, .eff (.box 0), []⟩, mv 1 4 cf]) (.seq (.seq (rg [mv 0 5 1, pu 1 6 (.bin .lss 5 (ci 1))]) (.cond 6 (.seq (rg [mv 0 4 cf]) .ret) .skip)) (.seq (.seq (rg [fa 0 7 0 2, ld 1 8 none 7, pu 2 9 (.lenSl 8), pu 3 10 (.bin .eql 9 (ci 0))]) (.cond 10 (.seq (rg [mv 0 4 ct]) .ret) .skip)) (.seq (rg [fa 0 11 0 2, ld 1 12 none 11, pu 2 13 (.lenSl 12), pu 3 14 (.bin .eql 13 (ci 2)), mv 4 15 14, gp 5 16 15 true (.fieldAddr 0 2), gl 6 17 15 true none 16, gp 7 18 15 true (.indexAddr 1 17 (ci 0)), gl 8 19 15 true (some 1) 18, gp 9 20 15 true (.move 1), gp 10 21 15 true (.bin .sub 20 (ci 1)), ⟨11, some 22, some (15, true), .eff (.call F.i_typeFits [19, 21]), []⟩, pu 12 23 (.pick 15 22 cf), mv 13 24 23, gp 14 25 24 true (.fieldAddr 0 2), gl 15 26 24 true none 25, gp 16 27 24 true (.indexAddr 1 26 (ci 1)), gl 17 28 24 true (some 1) 27, gp 18 29 24 true (.move 1), gp 19 30 24 true (.bin .sub 29 (ci 1)), ⟨20, some 31, some (24, true), .eff (.call F.i_typeFits [28, 30]), []⟩, pu 21 32 (.pick 24 31 cf), mv 22 4 32]) .ret)))⟩
def x_i_argsForm (F : Ids) : XFunc := ⟨18, [.slot 2], .seq (rg [mv 0 2 cf]) (.seq (.seq (rg [mv 0 5 0, pu 1 6 (.lenSl 5), pu 2 7 (.bin .gtr 6 (ci 4))]) (.cond 7 (.seq (rg [mv 0 2 cf]) .ret) .skip)) (.seq (.seq (rg [mv 0 8 0, pu 1 9 (.lenSl 8), mv 2 10 (ci 0)]) (.block 0 (.loop (.seq (rg [pu 0 11 (.bin .lss 10 9)]) (.seq (.cond 11 .skip (.exit 0)) (.seq (.block 1 (.seq (rg [ia 0 12 8 8 10, ld 1 13 (some 8) 12, ⟨2, some 4, none, .eff (.alloc [.bool false, .string (bl []), .slice none 0 0, .int .i64 0, .int .i64 0, .string (bl []), .slice none 0 0, .slice none 0 0]), []⟩, ⟨3, none, none, .eff (.store 8 4 13), []⟩]) (.seq (rg [ld 0 14 (some 8) 4, ca 1 15 F.i_argForm [14], pu 2 16 (.not 15)]) (.cond 16 (.seq (rg [mv 0 2 cf]) .ret) .skip)))) (rg [pu 0 17 (.bin .add 10 (ci 1)), mv 1 10 17]))))))) (.seq (rg [mv 0 2 ct]) .ret)))⟩
def x_i_pathForm (F : Ids) : XFunc := ⟨21, [.slot 2], .seq (rg [mv 0 2 cf]) (.seq (.seq (rg [mv 0 5 0, pu 1 6 (.lenSl 5), pu 2 7 (.bin .gtr 6 (ci 4))]) (.cond 7 (.seq (rg [mv 0 2 cf]) .ret) .skip)) (.seq (.seq (rg [mv 0 8 0, pu 1 9 (.lenSl 8), mv 2 10 (ci 0)]) (.block 0 (.loop (.seq (rg [pu 0 11 (.bin .lss 10 9)]) (.seq (.cond 11 .skip (.exit 0)) (.seq (.block 1 (.seq (rg [ia 0 12 1 8 10, ld 1 13 none 12, mv 2 4 13]) (.seq (rg [mv 0 14 4, pu 1 15 (.bin .lss 14 (ci 0)), mv 2 16 15, gp 3 17 16 false (.move 4), gp 4 18 16 false (.bin .gtr 17 (ci 1)), pu 5 19 (.pick 16 ct 18)]) (.cond 19 (.seq (rg [mv 0 2 cf]) .ret) .skip)))) (rg [pu 0 20 (.bin .add 10 (ci 1)), mv 1 10 20]))))))) (.seq (rg [mv 0 2 ct]) .ret)))⟩
def x_i_stmtNothing (F : Ids) : XFunc := ⟨49, [.slot 2], .seq (rg [⟨0, some 1, none, .eff (.box 0), []⟩, mv 1 2 cf]) (.seq (rg [fa 0 3 0 1, ld 1 4 none 3, pu 2 5 (.bin .eql 4 (ci 0)), mv 3 6 5, gp 4 7 6 true (.fieldAddr 1 1), gl 5 8 6 true none 7, gp 6 9 6 true (.bin .eql 8 (.const (.string (bl [])))), pu 7 10 (.pick 6 9 cf), mv 8 11 10, gp 9 12 11 true (.fieldAddr 2 1), gl 10 13 11 true (some 2) 12, ⟨11, some 14, some (11, true), .eff (.call F.i_placeNothing [13]), []⟩, pu 12 15 (.pick 11 14 cf), mv 13 16 15, gp 14 17 16 true (.fieldAddr 4 1), gl 15 18 16 true (some 2) 17, ⟨16, some 19, some (16, true), .eff (.call F.i_placeNothing [18]), []⟩, pu 17 20 (.pick 16 19 cf), mv 18 21 20, gp 19 22 21 true (.fieldAddr 6 1), gl 20 23 21 true (some 5) 22, ⟨21, some 24, some (21, true), .eff (.call F.i_exprNothing [23]), []⟩, pu 22 25 (.pick 21 24 cf), mv 23 26 25, gp 24 27 26 true (.fieldAddr 11 1), gl 25 28 26 true none 27, gp 26 29 26 true (.bin .eql 28 (.const (.string (bl [])))), pu 27 30 (.pick 26 29 cf), mv 28 31 30, gp 29 32 31 true (.fieldAddr 12 1), gl 30 33 31 true none 32, gp 31 34 31 true (.lenSl 33), gp 32 35 31 true (.bin .eql 34 (ci 0)), pu 33 36 (.pick 31 35 cf), mv 34 37 36, gp 35 38 37 true (.fieldAddr 13 1), gl 36 39 37 true none 38, gp 37 40 37 true (.lenSl 39), gp 38 41 37 true (.bin .eql 40 (ci 0)), pu 39 42 (.pick 37 41 cf), mv 40 43 42, gp 41 44 43 true (.fieldAddr 14 1), gl 42 45 43 true none 44, gp 43 46 43 true (.lenSl 45), gp 44 47 43 true (.bin .eql 46 (ci 0)), pu 45 48 (.pick 43 47 cf), mv 46 2 48]) .ret)⟩
def x_s_l1Deep (F : Ids) : XFunc := ⟨36, [.slot 4], .seq (rg [⟨0, some 2, none, .eff (.box 0), []⟩, mv 1 4 cf]) (.seq (.seq (rg [mv 0 6 1, pu 1 7 (.bin .lss 6 (ci 1)), mv 2 8 7, gp 3 9 8 false (.fieldAddr 0 2), gl 4 10 8 false none 9, gp 5 11 8 false (.lenSl 10), gp 6 12 8 false (.bin .neq 11 (ci 0)), gp 7 13 8 false (.move 12), gp 8 14 13 true (.fieldAddr 0 2), gl 9 15 13 true none 14, gp 10 16 13 true (.lenSl 15), gp 11 17 13 true (.bin .neq 16 (ci 2)), gp 12 18 8 false (.pick 13 17 cf), pu 13 19 (.pick 8 ct 18)]) (.cond 19 (.seq (rg [mv 0 4 cf]) .ret) .skip)) (.seq (.seq (rg [mv 0 5 (ci 0)]) (.block 0 (.loop (.seq (.seq (rg [mv 0 20 5, fa 1 21 0 2, ld 2 22 none 21, pu 3 23 (.lenSl 22), pu 4 24 (.bin .lss 20 23)]) (.cond 24 .skip (.exit 0))) (.seq (.block 1 (.seq (rg [fa 0 27 0 2, ld 1 28 none 27, mv 2 29 5, ia 3 30 1 28 29, ld 4 31 (some 1) 30, mv 5 32 1, pu 6 33 (.bin .sub 32 (ci 1)), ca 7 34 F.s_l1Deep [31, 33], pu 8 35 (.not 34)]) (.cond 35 (.seq (rg [mv 0 4 cf]) .ret) .skip))) (rg [mv 0 25 5, pu 1 26 (.bin .add 25 (ci 1)), mv 2 5 26])))))) (.seq (rg [mv 0 4 ct]) .ret)))⟩
def x_s_l2Stmt (F : Ids) : XFunc := ⟨183, [.slot 4], .seq (rg [⟨0, some 2, none, .eff (.box 0), []⟩, mv 1 4 cf]) (.seq (rg [fa 0 9 0 2, ld 1 10 none 9, pu 2 11 (.bin .eql 10 (ci 6)), mv 3 5 11]) (.seq (rg [fa 0 12 0 2, ld 1 13 none 12, pu 2 14 (.bin .eql 13 (ci 1)), mv 3 15 14, gp 4 16 15 false (.fieldAddr 0 2), gl 5 17 15 false none 16, gp 6 18 15 false (.bin .eql 17 (ci 2)), pu 7 19 (.pick 15 ct 18), mv 8 20 19, gp 9 21 20 false (.fieldAddr 0 2), gl 10 22 20 false none 21, gp 11 23 20 false (.bin .eql 22 (ci 4)), pu 12 24 (.pick 20 ct 23), mv 13 25 24, gp 14 26 25 false (.move 5), pu 15 27 (.pick 25 ct 26), mv 16 6 27]) (.seq (rg [fa 0 28 0 2, ld 1 29 none 28, pu 2 30 (.bin .eql 29 (ci 2)), mv 3 31 30, gp 4 32 31 false (.fieldAddr 0 2), gl 5 33 31 false none 32, gp 6 34 31 false (.bin .eql 33 (ci 3)), pu 7 35 (.pick 31 ct 34), mv 8 36 35, gp 9 37 36 false (.move 5), pu 10 38 (.pick 36 ct 37), mv 11 7 38]) (.seq (rg [fa 0 39 0 2, ld 1 40 none 39, pu 2 41 (.bin .eql 40 (ci 1)), mv 3 42 41, gp 4 43 42 false (.fieldAddr 0 2), gl 5 44 42 false none 43, gp 6 45 42 false (.bin .eql 44 (ci 3)), pu 7 46 (.pick 42 ct 45), mv 8 47 46, gp 9 48 47 false (.fieldAddr 0 2), gl 10 49 47 false none 48, gp 11 50 47 false (.bin .eql 49 (ci 5)), pu 12 51 (.pick 47 ct 50), mv 13 52 51, gp 14 53 52 false (.move 5), pu 15 54 (.pick 52 ct 53), mv 16 8 54]) (kd9 F)))))⟩
def x_s_l6In (F : Ids) : XFunc := ⟨15, [.slot 6], .seq (rg [mv 0 6 cf]) (.seq (rg [mv 0 7 0, mv 1 8 1, pu 2 9 (.bin .geq 7 8), mv 3 10 9, gp 4 11 10 true (.move 0), gp 5 12 10 true (.move 2), gp 6 13 10 true (.bin .leq 11 12), pu 7 14 (.pick 10 13 cf), mv 8 6 14]) .ret)⟩
def x_s_l3Env_add (F : Ids) : XFunc := ⟨47, [], .seq (rg [⟨0, some 3, none, .eff (.box 1), []⟩]) (.seq (.seq (rg [mv 0 4 (ci 0)]) (.block 0 (.loop (.seq (.seq (rg [mv 0 5 4, mv 1 6 0, nc 2 7 6, fa 3 8 3 7, ld 4 9 none 8, pu 5 10 (.lenSl 9), pu 6 11 (.bin .lss 5 10)]) (.cond 11 .skip (.exit 0))) (.seq (.block 1 (.seq (.region true [mv 0 14 0, nc 1 15 14, fa 2 16 3 15, ld 3 17 none 16, mv 4 18 4, ia 5 19 1 17 18, ld 6 20 none 19, fa 7 21 0 3, ld 8 22 none 21, pu 9 23 (.bin .eql 20 22)]) (.cond 23 (rg [mv 0 24 0, ca 1 25 F.s_l3Env_fail [24, ci 2]]) .skip))) (rg [mv 0 12 4, pu 1 13 (.bin .add 12 (ci 1)), mv 2 4 13])))))) (.seq (.region true [mv 0 26 0, mv 1 27 0, nc 2 28 27, fa 3 29 3 28, ld 4 30 none 29, fa 5 31 0 3, ld 6 32 none 31, ⟨7, some 33, none, .lits 1 1 [.string (bl [])] [(0, (1, 32))], []⟩, ⟨8, some 34, none, .eff (.appendM 1 16 30 33), []⟩, nc 9 35 26, fa 10 36 3 35, ⟨11, none, none, .eff (.store 1 36 34), []⟩]) (.region true [mv 0 37 0, mv 1 38 0, nc 2 39 38, fa 3 40 2 39, ld 4 41 none 40, ld 5 42 (some 6) 3, ⟨6, some 43, none, .lits 6 1 [.string (bl []), .bool false, .bool false, .slice none 0 0, .slice none 0 0, .bool false] [(0, (6, 42))], []⟩, ⟨7, some 44, none, .eff (.appendM 6 80 41 43), []⟩, nc 8 45 37, fa 9 46 2 45, ⟨10, none, none, .eff (.store 1 46 44), []⟩])))⟩
def x_s_l71Mk_stmt (F : Ids) : XFunc := ⟨147, [.cell 4 (some 15)], .seq (rg [⟨0, some 4, none, .eff (.alloc [.int .i64 0, .string (bl []), .string (bl []), .slice none 0 0, .string (bl []), .slice none 0 0, .int .i64 0, .int .i64 0, .string (bl []), .slice none 0 0, .slice none 0 0, .string (bl []), .slice none 0 0, .slice none 0 0, .slice none 0 0]), []⟩]) (.seq (.seq (rg [mv 0 14 0, nc 1 15 14, fa 2 16 0 15, ld 3 17 none 16, ca 4 18 F.s_l6Rd_pick [17, ci 5], pu 5 19 (.bin .eql 18 (ci 0))]) (.cond 19 (.seq (rg [mv 0 20 0, ca 1 21 F.s_l71Mk_pick [20], ⟨2, none, none, .eff (.store 15 4 21), []⟩]) .ret) .skip)) (.seq (.seq (rg [mv 0 22 0, nc 1 23 22, fa 2 24 0 23, ld 3 25 none 24, ca 4 26 F.s_l6Rd_pick [25, ci 12]]) (.block 0 (.seq (rg [pu 0 28 (.bin .eql 26 (ci 0)), mv 1 27 28]) (.cond 27 (kd20 F) (.seq (.seq (rg [pu 0 40 (.bin .eql 26 (ci 1)), mv 1 39 40]) (.cond 39 .skip (.seq (rg [pu 0 41 (.bin .eql 26 (ci 2)), mv 1 39 41]) (.cond 39 .skip (rg [pu 0 42 (.bin .eql 26 (ci 3)), mv 1 39 42]))))) (.cond 39 (kd21 F) (.seq (.seq (rg [pu 0 53 (.bin .eql 26 (ci 4)), mv 1 52 53]) (.cond 52 .skip (.seq (rg [pu 0 54 (.bin .eql 26 (ci 5)), mv 1 52 54]) (.cond 52 .skip (rg [pu 0 55 (.bin .eql 26 (ci 6)), mv 1 52 55]))))) (.cond 52 (kd22 F) (.seq (.seq (rg [pu 0 67 (.bin .eql 26 (ci 7)), mv 1 66 67]) (.cond 66 .skip (.seq (rg [pu 0 68 (.bin .eql 26 (ci 8)), mv 1 66 68]) (.cond 66 .skip (rg [pu 0 69 (.bin .eql 26 (ci 9)), mv 1 66 69]))))) (.cond 66 (kd23 F) .skip)))))))))) (kd26 F)))⟩
def x_s_l3Env_stmt (F : Ids) : XFunc := ⟨68, [], .seq (rg [⟨0, some 3, none, .eff (.box 1), []⟩]) (.seq (rg [fa 0 7 0 3, ld 1 8 none 7]) (.block 0 (.seq (rg [pu 0 19 (.bin .eql 8 (ci 1)), mv 1 18 19]) (.cond 18 (.seq (rg [mv 0 20 0, fa 1 21 6 3, ld 2 22 (some 5) 21, ca 3 23 F.s_l3Env_expr [20, 22], ⟨4, some 4, none, .eff (.alloc [.slice none 0 0]), []⟩, ⟨5, none, none, .eff (.store 1 4 23), []⟩]) (rg [mv 0 24 0, fa 1 25 1 3, ld 2 26 none 25, ld 3 27 (some 1) 4, pu 4 28 (.build [.string (bl []), .bool false, .bool false, .slice none 0 0, .slice none 0 0, .bool false] [(0, (1, 26)), (3, (1, 27))]), ca 5 29 F.s_l3Env_add [24, 28]])) (.seq (rg [pu 0 31 (.bin .eql 8 (ci 2)), mv 1 30 31]) (.cond 30 (.seq (rg [mv 0 32 0, fa 1 33 2 3, ld 2 34 (some 2) 33, ca 3 35 F.s_l3Env_use [32, 34], ⟨4, some 5, none, .eff (.alloc [.slice none 0 0]), []⟩, ⟨5, none, none, .eff (.store 1 5 35), []⟩]) (rg [mv 0 36 0, fa 1 37 1 3, ld 2 38 none 37, ld 3 39 (some 1) 5, fa 4 40 2 3, ld 5 41 (some 2) 40, ⟨6, some 42, none, .eff (.buildSlice 2 1 [.string (bl []), .slice none 0 0] [(0, (2, 41))]), []⟩, pu 7 43 (.build [.string (bl []), .bool false, .bool false, .slice none 0 0, .slice none 0 0, .bool false] [(0, (1, 38)), (1, (1, ct)), (3, (1, 39)), (4, (1, 42))]), ca 8 44 F.s_l3Env_add [36, 43]])) (.seq (rg [pu 0 46 (.bin .eql 8 (ci 3)), mv 1 45 46]) (.cond 45 (.seq (rg [mv 0 47 0, fa 1 48 6 3, ld 2 49 (some 5) 48, ca 3 50 F.s_l3Env_expr [47, 49], ⟨4, some 6, none, .eff (.alloc [.slice none 0 0]), []⟩, ⟨5, none, none, .eff (.store 1 6 50), []⟩]) (.region true [mv 0 51 0, mv 1 52 0, fa 2 53 2 3, ld 3 54 (some 2) 53, ⟨4, some 55, none, .eff (.call F.s_l3Env_use [52, 54]), [5]⟩, ⟨5, some 56, none, .load (.load (some 1) 6), [4]⟩, ca 6 57 F.s_l3Env_same [51, 55, 56]])) (.seq (rg [pu 0 59 (.bin .eql 8 (ci 4)), mv 1 58 59]) (.cond 58 (rg [mv 0 60 0, ld 1 61 (some 15) 3, ca 2 62 F.s_l3Env_call [60, 61]]) (.seq (rg [pu 0 64 (.bin .eql 8 (ci 6)), mv 1 63 64]) (.cond 63 (rg [mv 0 65 0, ld 1 66 (some 15) 3, ca 2 67 F.s_l3Env_pick [65, 66]]) (.seq (rg [mv 0 9 0, mv 1 10 0, fa 2 11 6 3, ld 3 12 (some 5) 11, ca 4 13 F.s_l3Env_expr [10, 12], ca 5 14 F.s_l3Env_num [9, 13]]) (rg [mv 0 15 0, ld 1 16 (some 15) 3, ca 2 17 F.s_l3Env_fork [15, 16]]))))))))))))))⟩
def x_s_l71Path (F : Ids) : XFunc := ⟨34, [.slot 4, .cell 5 (some 1)], .seq (rg [⟨0, some 3, none, .eff (.box 1), []⟩, mv 1 4 (.const (.slice none 0 0)), ⟨2, some 5, none, .eff (.alloc [.slice none 0 0]), []⟩]) (.seq (rg [⟨0, some 8, none, .eff (.buildSlice 1 0 [.int .i64 0] []), []⟩, mv 1 6 8]) (.seq (.block 0 (.loop (.seq (.seq (rg [fa 0 9 0 3, ld 1 10 none 9, pu 2 11 (.lenSl 10), pu 3 12 (.bin .gtr 11 (ci 0)), mv 4 13 12, gp 5 14 13 true (.move 0), ⟨6, some 15, some (13, true), .eff (.call F.s_l6Rd_pick [14, ci 3]), []⟩, gp 7 16 13 true (.bin .gtr 15 (ci 0)), pu 8 17 (.pick 13 16 cf)]) (.cond 17 .skip (.exit 0))) (.block 1 (.seq (rg [mv 0 18 0, fa 1 19 0 3, ld 2 20 none 19, pu 3 21 (.lenSl 20), ca 4 22 F.s_l6Rd_pick [18, 21], mv 5 7 22]) (.seq (rg [mv 0 23 6, mv 1 24 7, ⟨2, some 25, none, .lits 1 1 [.int .i64 0] [(0, (1, 24))], []⟩, ⟨3, some 26, none, .eff (.appendM 1 8 23 25), []⟩, mv 4 6 26]) (rg [fa 0 27 0 3, ld 1 28 none 27, mv 2 29 7, ia 3 30 1 28 29, ld 4 31 (some 1) 30, ⟨5, none, none, .eff (.store 1 3 31), []⟩]))))))) (kd10 F)))⟩
def x_s_l3Env_find (F : Ids) : XFunc := ⟨26, [.slot 4], .seq (rg [mv 0 4 (ci 0)]) (.seq (.seq (rg [mv 0 5 (ci 0)]) (.block 0 (.loop (.seq (.seq (rg [mv 0 6 5, mv 1 7 0, nc 2 8 7, fa 3 9 2 8, ld 4 10 none 9, pu 5 11 (.lenSl 10), pu 6 12 (.bin .lss 6 11)]) (.cond 12 .skip (.exit 0))) (.seq (.block 1 (.seq (rg [mv 0 15 0, nc 1 16 15, fa 2 17 2 16, ld 3 18 none 17, mv 4 19 5, ia 5 20 6 18 19, fa 6 21 0 20, ld 7 22 none 21, mv 8 23 1, pu 9 24 (.bin .eql 22 23)]) (.cond 24 (.seq (rg [mv 0 25 5, mv 1 4 25]) .ret) .skip))) (rg [mv 0 13 5, pu 1 14 (.bin .add 13 (ci 1)), mv 2 5 14])))))) (.seq (rg [mv 0 4 (.const (.int .i64 (-1)))]) .ret))⟩
def x_s_l3Env_fail (F : Ids) : XFunc := ⟨13, [], .seq (rg [mv 0 4 0, nc 1 5 4, fa 2 6 4 5, ld 3 7 none 6, pu 4 8 (.bin .eql 7 (ci 0))]) (.cond 8 (rg [mv 0 9 0, mv 1 10 1, nc 2 11 9, fa 3 12 4 11, ⟨4, none, none, .eff (.store 1 12 10), []⟩]) .skip)⟩
def x_s_TypeAt (F : Ids) : XFunc := ⟨38, [.cell 4 (some 1), .slot 5], .seq (rg [⟨0, some 2, none, .eff (.box 0), []⟩, ⟨1, some 4, none, .eff (.alloc [.slice none 0 0]), []⟩, mv 2 5 cf]) (.seq (.seq (rg [ld 0 7 (some 1) 2, ca 1 8 F.s_TypeOk [7], pu 2 9 (.not 8)]) (.cond 9 (.seq (rg [pu 0 10 (.build [.slice none 0 0] []), ⟨1, none, none, .eff (.store 1 4 10), []⟩, mv 2 5 cf]) .ret) .skip)) (.seq (.seq (rg [mv 0 6 (ci 0)]) (.block 0 (.loop (.seq (.seq (rg [mv 0 11 6, mv 1 12 1, pu 2 13 (.lenSl 12), pu 3 14 (.bin .lss 11 13)]) (.cond 14 .skip (.exit 0))) (.seq (.block 1 (.seq (.seq (.region true [mv 0 17 1, mv 1 18 6, ia 2 19 1 17 18, ld 3 20 none 19, fa 4 21 0 2, ld 5 22 none 21, pu 6 23 (.lenSl 22), pu 7 24 (.bin .sub 23 (ci 1)), ca 8 25 F.s_l6In [20, ci 0, 24], pu 9 26 (.not 25)]) (.cond 26 (.seq (rg [pu 0 27 (.build [.slice none 0 0] []), ⟨1, none, none, .eff (.store 1 4 27), []⟩, mv 2 5 cf]) .ret) .skip)) (.region true [fa 0 28 0 2, ld 1 29 none 28, mv 2 30 1, mv 3 31 6, ia 4 32 1 30 31, ld 5 33 none 32, ia 6 34 1 29 33, ld 7 35 (some 1) 34, ⟨8, none, none, .eff (.store 1 2 35), []⟩]))) (rg [mv 0 15 6, pu 1 16 (.bin .add 15 (ci 1)), mv 2 6 16])))))) (.seq (rg [ld 0 36 (some 1) 2, ca 1 37 F.s_l1Copy [36], ⟨2, none, none, .eff (.store 1 4 37), []⟩, mv 3 5 ct]) .ret)))⟩
def x_s_l3Env_ends (F : Ids) : XFunc := ⟨105, [.slot 4], .seq (rg [⟨0, some 3, none, .eff (.box 1), []⟩, mv 1 4 (.const (.slice none 0 0))]) (.seq (rg [⟨0, some 11, none, .eff (.buildSlice 1 0 [.int .i64 0] []), []⟩, mv 1 5 11]) (.seq (.seq (rg [mv 0 12 0, nc 1 13 12, fa 2 14 2 13, ld 3 15 none 14, pu 4 16 (.lenSl 15), pu 5 17 (.bin .sub 16 (ci 1)), mv 6 6 17]) (.block 0 (.loop (.seq (.seq (rg [mv 0 18 6, pu 1 19 (.bin .geq 18 (ci 0))]) (.cond 19 .skip (.exit 0))) (.seq (.block 1 (.seq (.seq (rg [mv 0 22 0, nc 1 23 22, fa 2 24 2 23, ld 3 25 none 24, mv 4 26 6, ia 5 27 6 25 26, fa 6 28 5 27, ld 7 29 none 28, mv 8 30 29, gp 9 31 30 false (.move 0), gp 10 32 30 false (.nilCheck 31), gp 11 33 30 false (.fieldAddr 2 32), gl 12 34 30 false none 33, gp 13 35 30 false (.move 6), gp 14 36 30 false (.indexAddr 6 34 35), gp 15 37 30 false (.fieldAddr 1 36), gl 16 38 30 false none 37, gp 17 39 30 false (.not 38), pu 18 40 (.pick 30 ct 39)]) (.cond 40 (.exit 1) .skip)) (.seq (rg [mv 0 7 cf]) (.seq (.seq (rg [mv 0 8 (ci 0)]) (.block 2 (.loop (.seq (.seq (rg [mv 0 41 8, mv 1 42 0, nc 2 43 42, fa 3 44 2 43, ld 4 45 none 44, mv 5 46 6, ia 6 47 6 45 46, fa 7 48 4 47, ld 8 49 none 48, pu 9 50 (.lenSl 49), pu 10 51 (.bin .lss 41 50)]) (.cond 51 .skip (.exit 2))) (.seq (.block 3 (.seq (rg [mv 0 54 0, nc 1 55 54, fa 2 56 2 55, ld 3 57 none 56, mv 4 58 6, ia 5 59 6 57 58, fa 6 60 4 59, ld 7 61 none 60, mv 8 62 8, ia 9 63 2 61 62, ld 10 64 (some 2) 63, ⟨11, some 9, none, .eff (.alloc [.string (bl []), .slice none 0 0]), []⟩, ⟨12, none, none, .eff (.store 2 9 64), []⟩]) (.seq (rg [mv 0 65 7, mv 1 66 65, gl 2 67 66 false (some 2) 3, gl 3 68 66 false (some 2) 9, ⟨4, some 69, some (66, false), .eff (.call F.s_l3Meet [67, 68]), []⟩, pu 5 70 (.pick 66 ct 69), mv 6 7 70]) (.seq (rg [mv 0 10 (ci 0)]) (.block 4 (.loop (.seq (.seq (rg [mv 0 71 10, mv 1 72 5, pu 2 73 (.lenSl 72), pu 3 74 (.bin .lss 71 73)]) (.cond 74 .skip (.exit 4))) (.seq (.block 5 (.region true [mv 0 77 7, mv 1 78 77, gp 2 79 78 false (.move 0), gp 3 80 78 false (.nilCheck 79), gp 4 81 78 false (.fieldAddr 2 80), gl 5 82 78 false none 81, gp 6 83 78 false (.move 5), gp 7 84 78 false (.move 10), gp 8 85 78 false (.indexAddr 1 83 84), gl 9 86 78 false none 85, gp 10 87 78 false (.indexAddr 6 82 86), gp 11 88 78 false (.fieldAddr 0 87), gl 12 89 78 false none 88, gp 13 90 78 false (.fieldAddr 0 9), gl 14 91 78 false none 90, gp 15 92 78 false (.bin .eql 89 91), pu 16 93 (.pick 78 ct 92), mv 17 7 93])) (rg [mv 0 75 10, pu 1 76 (.bin .add 75 (ci 1)), mv 2 10 76]))))))))) (rg [mv 0 52 8, pu 1 53 (.bin .add 52 (ci 1)), mv 2 8 53])))))) (.seq (rg [mv 0 94 7]) (.cond 94 (rg [mv 0 95 5, mv 1 96 6, ⟨2, some 97, none, .lits 1 1 [.int .i64 0] [(0, (1, 96))], []⟩, ⟨3, some 98, none, .eff (.appendM 1 8 95 97), []⟩, mv 4 5 98]) .skip)))))) (rg [mv 0 20 6, pu 1 21 (.bin .sub 20 (ci 1)), mv 2 6 21])))))) (.seq (rg [mv 0 99 0, nc 1 100 99, fa 2 101 2 100, ld 3 102 none 101, mv 4 103 5, ca 5 104 F.s_l3Order [102, 103], mv 6 4 104]) .ret)))⟩
def x_s_l1Same (F : Ids) : XFunc := ⟨32, [.slot 4], .seq (rg [⟨0, some 2, none, .eff (.box 0), []⟩, ⟨1, some 3, none, .eff (.box 1), []⟩, mv 2 4 cf]) (.seq (.seq (rg [fa 0 6 0 2, ld 1 7 none 6, pu 2 8 (.lenSl 7), fa 3 9 0 3, ld 4 10 none 9, pu 5 11 (.lenSl 10), pu 6 12 (.bin .neq 8 11)]) (.cond 12 (.seq (rg [mv 0 4 cf]) .ret) .skip)) (.seq (.seq (rg [mv 0 5 (ci 0)]) (.block 0 (.loop (.seq (.seq (rg [mv 0 13 5, fa 1 14 0 2, ld 2 15 none 14, pu 3 16 (.lenSl 15), pu 4 17 (.bin .lss 13 16)]) (.cond 17 .skip (.exit 0))) (.seq (.block 1 (.seq (.region true [fa 0 20 0 2, ld 1 21 none 20, mv 2 22 5, ia 3 23 1 21 22, ld 4 24 (some 1) 23, fa 5 25 0 3, ld 6 26 none 25, mv 7 27 5, ia 8 28 1 26 27, ld 9 29 (some 1) 28, ca 10 30 F.s_l1Same [24, 29], pu 11 31 (.not 30)]) (.cond 31 (.seq (rg [mv 0 4 cf]) .ret) .skip))) (rg [mv 0 18 5, pu 1 19 (.bin .add 18 (ci 1)), mv 2 5 19])))))) (.seq (rg [mv 0 4 ct]) .ret)))⟩
def x_s_l3Env_num (F : Ids) : XFunc := ⟨10, [], .seq (rg [⟨0, some 3, none, .eff (.box 1), []⟩]) (.seq (rg [fa 0 4 0 3, ld 1 5 none 4, pu 2 6 (.lenSl 5), pu 3 7 (.bin .gtr 6 (ci 0))]) (.cond 7 (rg [mv 0 8 0, ca 1 9 F.s_l3Env_fail [8, ci 3]]) .skip))⟩
def x_i_argForm (F : Ids) : XFunc := ⟨21, [.slot 2], .seq (rg [⟨0, some 1, none, .eff (.box 0), []⟩, mv 1 2 cf]) (.seq (.seq (rg [fa 0 3 0 1, ld 1 4 none 3]) (.cond 4 (.seq (rg [fa 0 5 1 1, ld 1 6 (some 2) 5, ca 2 7 F.i_placeForm [6], mv 3 8 7, gp 4 9 8 true (.fieldAddr 3 1), gl 5 10 8 true (some 5) 9, ⟨6, some 11, some (8, true), .eff (.call F.i_exprNothing [10]), []⟩, pu 7 12 (.pick 8 11 cf), mv 8 2 12]) .ret) .skip)) (.seq (rg [fa 0 13 1 1, ld 1 14 (some 2) 13, ca 2 15 F.i_placeNothing [14], mv 3 16 15, gp 4 17 16 true (.fieldAddr 3 1), gl 5 18 16 true (some 5) 17, ⟨6, some 19, some (16, true), .eff (.call F.i_exprForm [18, ci 4]), []⟩, pu 7 20 (.pick 16 19 cf), mv 8 2 20]) .ret))⟩
def x_s_l2Args (F : Ids) : XFunc := ⟨49, [.slot 2], .seq (rg [mv 0 2 cf]) (.seq (.seq (rg [mv 0 5 0, pu 1 6 (.lenSl 5), pu 2 7 (.bin .gtr 6 (ci 4))]) (.cond 7 (.seq (rg [mv 0 2 cf]) .ret) .skip)) (.seq (.seq (rg [mv 0 3 (ci 0)]) (.block 0 (.loop (.seq (.seq (rg [mv 0 8 3, mv 1 9 0, pu 2 10 (.lenSl 9), pu 3 11 (.bin .lss 8 10)]) (.cond 11 .skip (.exit 0))) (.seq (.block 1 (.seq (rg [mv 0 14 0, mv 1 15 3, ia 2 16 8 14 15, ld 3 17 (some 8) 16, ⟨4, some 4, none, .eff (.alloc [.bool false, .string (bl []), .slice none 0 0, .int .i64 0, .int .i64 0, .string (bl []), .slice none 0 0, .slice none 0 0]), []⟩, ⟨5, none, none, .eff (.store 8 4 17), []⟩]) (.seq (rg [fa 0 18 0 4, ld 1 19 none 18, mv 2 20 19, gp 3 21 20 true (.fieldAddr 1 4), gl 4 22 20 true (some 2) 21, ⟨5, some 23, some (20, true), .eff (.call F.s_l2Place [22]), []⟩, gp 6 24 20 true (.not 23), gp 7 25 20 true (.move 24), gp 8 26 25 false (.fieldAddr 3 4), gl 9 27 25 false (some 5) 26, ⟨10, some 28, some (25, false), .eff (.call F.s_l2NoExpr [27]), []⟩, gp 11 29 25 false (.not 28), gp 12 30 20 true (.pick 25 ct 29), pu 13 31 (.pick 20 30 cf), mv 14 32 31, gp 15 33 32 false (.fieldAddr 0 4), gl 16 34 32 false none 33, gp 17 35 32 false (.not 34), gp 18 36 32 false (.move 35), gp 19 37 36 true (.fieldAddr 1 4), gl 20 38 36 true (some 2) 37, ⟨21, some 39, some (36, true), .eff (.call F.s_l2None [38]), []⟩, gp 22 40 36 true (.not 39), gp 23 41 36 true (.move 40), gp 24 42 41 false (.fieldAddr 3 4), gl 25 43 41 false (some 5) 42, ⟨26, some 44, some (41, false), .eff (.call F.s_l2Expr [43, ci 4]), []⟩, gp 27 45 41 false (.not 44), gp 28 46 36 true (.pick 41 ct 45), gp 29 47 32 false (.pick 36 46 cf), pu 30 48 (.pick 32 ct 47)]) (.cond 48 (.seq (rg [mv 0 2 cf]) .ret) .skip)))) (rg [mv 0 12 3, pu 1 13 (.bin .add 12 (ci 1)), mv 2 3 13])))))) (.seq (rg [mv 0 2 ct]) .ret)))⟩
def x_s_l71Mk_pick (F : Ids) : XFunc := ⟨45, [.cell 2 (some 15)], .seq (rg [⟨0, some 2, none, .eff (.alloc [.int .i64 0, .string (bl []), .string (bl []), .slice none 0 0, .string (bl []), .slice none 0 0, .int .i64 0, .int .i64 0, .string (bl []), .slice none 0 0, .slice none 0 0, .string (bl []), .slice none 0 0, .slice none 0 0, .slice none 0 0]), []⟩]) (.seq (rg [mv 0 9 0, ca 1 10 F.s_l71Mk_name [9], mv 2 11 0, pu 3 12 (.build [.slice none 0 0] []), ca 4 13 F.s_l71Mk_expr [11, 12, ci 2], pu 5 14 (.build [.int .i64 0, .string (bl []), .string (bl []), .slice none 0 0, .string (bl []), .slice none 0 0, .int .i64 0, .int .i64 0, .string (bl []), .slice none 0 0, .slice none 0 0, .string (bl []), .slice none 0 0, .slice none 0 0, .slice none 0 0] [(0, (1, ci 6)), (1, (1, 10)), (6, (5, 13))]), ⟨6, some 3, none, .eff (.alloc [.int .i64 0, .string (bl []), .string (bl []), .slice none 0 0, .string (bl []), .slice none 0 0, .int .i64 0, .int .i64 0, .string (bl []), .slice none 0 0, .slice none 0 0, .string (bl []), .slice none 0 0, .slice none 0 0, .slice none 0 0]), []⟩, ⟨7, none, none, .eff (.store 15 3 14), []⟩]) (.seq (rg [mv 0 16 0, ca 1 17 F.s_l71Mk_place [16], mv 2 15 17, pu 3 18 (.extract 15 0), pu 4 19 (.extract 15 1), ⟨5, some 4, none, .eff (.alloc [.string (bl []), .slice none 0 0]), []⟩, ⟨6, some 5, none, .eff (.alloc [.slice none 0 0]), []⟩, ⟨7, none, none, .eff (.store 2 4 18), []⟩, ⟨8, none, none, .eff (.store 1 5 19), []⟩]) (.seq (rg [ld 0 20 (some 2) 4, fa 1 21 2 3, ⟨2, none, none, .eff (.store 2 21 20), []⟩]) (.seq (rg [ld 0 22 (some 2) 4, fa 1 23 4 3, ⟨2, none, none, .eff (.store 2 23 22), []⟩]) (.seq (.seq (rg [mv 0 6 (ci 0)]) (.block 0 (.loop (.seq (.seq (rg [mv 0 24 6, pu 1 25 (.bin .lss 24 (ci 8))]) (.cond 25 .skip (.exit 0))) (.seq (.block 1 (.seq (rg [mv 0 29 0, ca 1 30 F.s_l71Mk_place [29], mv 2 28 30, pu 3 31 (.extract 28 0), pu 4 32 (.extract 28 1), ⟨5, some 7, none, .eff (.alloc [.string (bl []), .slice none 0 0]), []⟩, ⟨6, some 8, none, .eff (.alloc [.slice none 0 0]), []⟩, ⟨7, none, none, .eff (.store 2 7 31), []⟩, ⟨8, none, none, .eff (.store 1 8 32), []⟩]) (.seq (rg [ld 0 33 (some 1) 5, ld 1 34 (some 1) 8, ca 2 35 F.s_l1Same [33, 34], mv 3 36 35, gl 4 37 36 true (some 2) 4, gl 5 38 36 true (some 2) 7, ⟨6, some 39, some (36, true), .eff (.call F.s_l3Meet [37, 38]), []⟩, gp 7 40 36 true (.not 39), pu 8 41 (.pick 36 40 cf)]) (.cond 41 (rg [ld 0 42 (some 2) 7, fa 1 43 4 3, ⟨2, none, none, .eff (.store 2 43 42), []⟩]) .skip)))) (rg [mv 0 26 6, pu 1 27 (.bin .add 26 (ci 1)), mv 2 6 27])))))) (.seq (rg [ld 0 44 (some 15) 3, ⟨1, none, none, .eff (.store 15 2 44), []⟩]) .ret))))))⟩
def x_s_l71Mk_name (F : Ids) : XFunc := ⟨26, [.slot 2], .seq (rg [mv 0 2 (.const (.string (bl [])))]) (.seq (rg [mv 0 4 0, mv 1 5 0, nc 2 6 5, fa 3 7 2 6, ld 4 8 none 7, pu 5 9 (.bin .add 8 (ci 1)), nc 6 10 4, fa 7 11 2 10, ⟨8, none, none, .eff (.store 1 11 9), []⟩]) (.seq (rg [mv 0 12 0, nc 1 13 12, fa 2 14 2 13, ld 3 15 none 14, mv 4 3 15]) (.seq (rg [mv 0 16 3, pu 1 17 (.bin .quo 16 (ci 26)), pu 2 18 (.bin .add (ci 97) 17), pu 3 19 (.conv .u8 18), mv 4 20 3, pu 5 21 (.bin .rem 20 (ci 26)), pu 6 22 (.bin .add (ci 97) 21), pu 7 23 (.conv .u8 22), ⟨8, some 24, none, .lits 1 2 [.int .u8 0] [(0, (1, 19)), (1, (1, 23))], []⟩, ⟨9, some 25, none, .load (.bytesToStr 24), []⟩, mv 10 2 25]) .ret)))⟩
def x_s_l71Mk_call (F : Ids) : XFunc := ⟨102, [.cell 2 (some 15)], .seq (rg [⟨0, some 2, none, .eff (.alloc [.int .i64 0, .string (bl []), .string (bl []), .slice none 0 0, .string (bl []), .slice none 0 0, .int .i64 0, .int .i64 0, .string (bl []), .slice none 0 0, .slice none 0 0, .string (bl []), .slice none 0 0, .slice none 0 0, .slice none 0 0]), []⟩]) (.seq (rg [mv 0 10 0, ca 1 11 F.s_l71Mk_name [10], pu 2 12 (.build [.int .i64 0, .string (bl []), .string (bl []), .slice none 0 0, .string (bl []), .slice none 0 0, .int .i64 0, .int .i64 0, .string (bl []), .slice none 0 0, .slice none 0 0, .string (bl []), .slice none 0 0, .slice none 0 0, .slice none 0 0] [(0, (1, ci 4)), (1, (1, 11))]), ⟨3, some 3, none, .eff (.alloc [.int .i64 0, .string (bl []), .string (bl []), .slice none 0 0, .string (bl []), .slice none 0 0, .int .i64 0, .int .i64 0, .string (bl []), .slice none 0 0, .slice none 0 0, .string (bl []), .slice none 0 0, .slice none 0 0, .slice none 0 0]), []⟩, ⟨4, none, none, .eff (.store 15 3 12), []⟩]) (.seq (.seq (rg [mv 0 13 0, nc 1 14 13, fa 2 15 1 14, ld 3 16 none 15, nc 4 17 16, fa 5 18 1 17, ld 6 19 none 18, pu 7 20 (.bin .eql 19 (ci 0))]) (.cond 20 (.seq (rg [ld 0 21 (some 15) 3, ⟨1, none, none, .eff (.store 15 2 21), []⟩]) .ret) .skip)) (.seq (.region true [mv 0 22 0, nc 1 23 22, fa 2 24 1 23, ⟨3, some 25, none, .load (.load none 24), [19]⟩, nc 4 26 25, fa 5 27 0 26, fa 6 28 0 27, ⟨7, some 29, none, .load (.load none 28), [19]⟩, mv 8 30 0, nc 9 31 30, fa 10 32 0 31, ld 11 33 none 32, mv 12 34 0, nc 13 35 34, fa 14 36 1 35, ld 15 37 none 36, nc 16 38 37, fa 17 39 1 38, ld 18 40 none 39, ⟨19, some 41, none, .eff (.call F.s_l6Rd_pick [33, 40]), [3, 7]⟩, ia 20 42 12 29 41, ld 21 43 (some 12) 42, ⟨22, some 4, none, .eff (.alloc [.string (bl []), .slice none 0 0, .bool false, .slice none 0 0, .slice none 0 0, .int .i64 0, .int .i64 0, .string (bl []), .slice none 0 0, .slice none 0 0, .string (bl []), .slice none 0 0]), []⟩, ⟨23, none, none, .eff (.store 12 4 43), []⟩]) (.seq (rg [fa 0 44 0 4, ld 1 45 none 44, fa 2 46 11 3, ⟨3, none, none, .eff (.store 1 46 45), []⟩]) (.seq (.seq (rg [mv 0 5 (ci 0)]) (.block 0 (.loop (.seq (.seq (rg [mv 0 47 5, fa 1 48 1 4, ld 2 49 none 48, pu 3 50 (.lenSl 49), pu 4 51 (.bin .lss 47 50)]) (.cond 51 .skip (.exit 0))) (.seq (.block 1 (.seq (.seq (rg [fa 0 54 1 4, ld 1 55 none 54, mv 2 56 5, ia 3 57 3 55 56, fa 4 58 1 57, ld 5 59 none 58, pu 6 60 (.not 59)]) (.cond 60 (.seq (.region true [fa 0 61 12 3, ⟨1, some 62, none, .load (.load none 61), [9]⟩, mv 2 63 0, fa 3 64 1 4, ld 4 65 none 64, mv 5 66 5, ia 6 67 3 65 66, fa 7 68 2 67, ld 8 69 (some 1) 68, ⟨9, some 70, none, .eff (.call F.s_l71Mk_expr [63, 69, ci 2]), [1]⟩, pu 10 71 (.build [.bool false, .string (bl []), .slice none 0 0, .int .i64 0, .int .i64 0, .string (bl []), .slice none 0 0, .slice none 0 0] [(3, (5, 70))]), ⟨11, some 72, none, .lits 8 1 [.bool false, .string (bl []), .slice none 0 0, .int .i64 0, .int .i64 0, .string (bl []), .slice none 0 0, .slice none 0 0] [(0, (8, 71))], []⟩, ⟨12, some 73, none, .eff (.appendM 8 128 62 72), []⟩, fa 13 74 12 3, ⟨14, none, none, .eff (.store 1 74 73), []⟩]) (.exit 1)) .skip)) (.seq (rg [pu 0 75 (.build [.string (bl []), .slice none 0 0] [(0, (1, .const (.string (bl [110, 111, 110, 101]))))]), ⟨1, some 6, none, .eff (.alloc [.string (bl []), .slice none 0 0]), []⟩, ⟨2, none, none, .eff (.store 2 6 75), []⟩]) (.seq (.seq (rg [mv 0 7 (ci 0)]) (.block 2 (.loop (.seq (.seq (rg [mv 0 76 7, pu 1 77 (.bin .lss 76 (ci 6))]) (.cond 77 .skip (.exit 2))) (.seq (.block 3 (.seq (rg [mv 0 81 0, ca 1 82 F.s_l71Mk_place [81], mv 2 80 82, pu 3 83 (.extract 80 0), pu 4 84 (.extract 80 1), ⟨5, some 8, none, .eff (.alloc [.string (bl []), .slice none 0 0]), []⟩, ⟨6, some 9, none, .eff (.alloc [.slice none 0 0]), []⟩, ⟨7, none, none, .eff (.store 2 8 83), []⟩, ⟨8, none, none, .eff (.store 1 9 84), []⟩]) (.seq (.region true [ld 0 85 (some 1) 9, fa 1 86 1 4, ld 2 87 none 86, mv 3 88 5, ia 4 89 3 87 88, fa 5 90 2 89, ld 6 91 (some 1) 90, ca 7 92 F.s_l1Same [85, 91]]) (.cond 92 (rg [ld 0 93 (some 2) 8, ⟨1, none, none, .eff (.store 2 6 93), []⟩]) .skip)))) (rg [mv 0 78 7, pu 1 79 (.bin .add 78 (ci 1)), mv 2 7 79])))))) (rg [fa 0 94 12 3, ld 1 95 none 94, ld 2 96 (some 2) 6, pu 3 97 (.build [.bool false, .string (bl []), .slice none 0 0, .int .i64 0, .int .i64 0, .string (bl []), .slice none 0 0, .slice none 0 0] [(0, (1, ct)), (1, (2, 96))]), ⟨4, some 98, none, .lits 8 1 [.bool false, .string (bl []), .slice none 0 0, .int .i64 0, .int .i64 0, .string (bl []), .slice none 0 0, .slice none 0 0] [(0, (8, 97))], []⟩, ⟨5, some 99, none, .eff (.appendM 8 128 95 98), []⟩, fa 6 100 12 3, ⟨7, none, none, .eff (.store 1 100 99), []⟩]))))) (rg [mv 0 52 5, pu 1 53 (.bin .add 52 (ci 1)), mv 2 5 53])))))) (kd19 F))))))⟩
def x_s_l3Env_call (F : Ids) : XFunc := ⟨177, [], .seq (rg [⟨0, some 3, none, .eff (.box 1), []⟩]) (.seq (.region true [mv 0 10 0, nc 1 11 10, fa 2 12 0 11, ld 3 13 (some 1) 12, fa 4 14 11 3, ld 5 15 none 14, mv 6 16 0, nc 7 17 16, fa 8 18 1 17, ld 9 19 none 18, ca 10 20 F.s_l3Fn [13, 15, 19], mv 11 4 20]) (.seq (.seq (rg [mv 0 21 4, pu 1 22 (.bin .lss 21 (ci 0))]) (.cond 22 (.seq (rg [mv 0 23 0, ca 1 24 F.s_l3Env_fail [23, ci 2]]) .ret) .skip)) (.seq (rg [mv 0 25 0, nc 1 26 25, fa 2 27 0 26, fa 3 28 0 27, ld 4 29 none 28, mv 5 30 4, ia 6 31 12 29 30, ld 7 32 (some 12) 31, ⟨8, some 5, none, .eff (.alloc [.string (bl []), .slice none 0 0, .bool false, .slice none 0 0, .slice none 0 0, .int .i64 0, .int .i64 0, .string (bl []), .slice none 0 0, .slice none 0 0, .string (bl []), .slice none 0 0]), []⟩, ⟨9, none, none, .eff (.store 12 5 32), []⟩]) (.seq (.seq (rg [fa 0 33 1 5, ld 1 34 none 33, pu 2 35 (.lenSl 34), fa 3 36 12 3, ld 4 37 none 36, pu 5 38 (.lenSl 37), pu 6 39 (.bin .neq 35 38)]) (.cond 39 (.seq (rg [mv 0 40 0, ca 1 41 F.s_l3Env_fail [40, ci 3]]) .ret) .skip)) (.seq (rg [mv 0 42 0, nc 1 43 42, fa 2 44 2 43, ld 3 45 none 44, pu 4 46 (.lenSl 45), mv 5 6 46]) (.seq (rg [⟨0, some 47, none, .eff (.buildSlice 2 0 [.string (bl []), .slice none 0 0] []), []⟩, mv 1 7 47]) (.seq (.seq (rg [mv 0 8 (ci 0)]) (.block 0 (.loop (.seq (.seq (rg [mv 0 48 8, fa 1 49 12 3, ld 2 50 none 49, pu 3 51 (.lenSl 50), pu 4 52 (.bin .lss 48 51)]) (.cond 52 .skip (.exit 0))) (.seq (.block 1 (.seq (.seq (.region true [fa 0 55 12 3, ld 1 56 none 55, mv 2 57 8, ia 3 58 8 56 57, fa 4 59 0 58, ld 5 60 none 59, fa 6 61 1 5, ld 7 62 none 61, mv 8 63 8, ia 9 64 3 62 63, fa 10 65 1 64, ld 11 66 none 65, pu 12 67 (.eqBool true 60 66)]) (.cond 67 (.seq (rg [mv 0 68 0, ca 1 69 F.s_l3Env_fail [68, ci 3]]) .ret) .skip)) (.seq (.seq (rg [fa 0 70 12 3, ld 1 71 none 70, mv 2 72 8, ia 3 73 8 71 72, fa 4 74 0 73, ld 5 75 none 74, pu 6 76 (.not 75)]) (.cond 76 (.seq (.region true [mv 0 77 0, mv 1 78 0, fa 2 79 12 3, ld 3 80 none 79, mv 4 81 8, ia 5 82 8 80 81, fa 6 83 3 82, ld 7 84 (some 5) 83, ⟨8, some 85, none, .eff (.call F.s_l3Env_expr [78, 84]), [10, 14]⟩, fa 9 86 1 5, ⟨10, some 87, none, .load (.load none 86), [8]⟩, mv 11 88 8, ia 12 89 3 87 88, fa 13 90 2 89, ⟨14, some 91, none, .load (.load (some 1) 90), [8]⟩, ca 15 92 F.s_l3Env_same [77, 85, 91]]) (.exit 1)) .skip)) (.seq (.region true [mv 0 93 0, mv 1 94 0, fa 2 95 12 3, ld 3 96 none 95, mv 4 97 8, ia 5 98 8 96 97, fa 6 99 1 98, ld 7 100 (some 2) 99, ⟨8, some 101, none, .eff (.call F.s_l3Env_use [94, 100]), [10, 14]⟩, fa 9 102 1 5, ⟨10, some 103, none, .load (.load none 102), [8]⟩, mv 11 104 8, ia 12 105 3 103 104, fa 13 106 2 105, ⟨14, some 107, none, .load (.load (some 1) 106), [8]⟩, ca 15 108 F.s_l3Env_same [93, 101, 107]]) (.seq (.region true [mv 0 109 0, mv 1 110 0, nc 2 111 110, fa 3 112 2 111, ld 4 113 none 112, fa 5 114 12 3, ld 6 115 none 114, mv 7 116 8, ia 8 117 8 115 116, fa 9 118 1 117, ld 10 119 (some 2) 118, ⟨11, some 120, none, .eff (.buildSlice 2 1 [.string (bl []), .slice none 0 0] [(0, (2, 119))]), []⟩, pu 12 121 (.build [.string (bl []), .bool false, .bool false, .slice none 0 0, .slice none 0 0, .bool false] [(0, (1, .const (.string (bl [])))), (1, (1, ct)), (4, (1, 120))]), ⟨13, some 122, none, .lits 6 1 [.string (bl []), .bool false, .bool false, .slice none 0 0, .slice none 0 0, .bool false] [(0, (6, 121))], []⟩, ⟨14, some 123, none, .eff (.appendM 6 80 113 122), []⟩, nc 15 124 109, fa 16 125 2 124, ⟨17, none, none, .eff (.store 1 125 123), []⟩]) (rg [mv 0 126 7, fa 1 127 12 3, ld 2 128 none 127, mv 3 129 8, ia 4 130 8 128 129, fa 5 131 1 130, ld 6 132 (some 2) 131, ⟨7, some 133, none, .lits 2 1 [.string (bl []), .slice none 0 0] [(0, (2, 132))], []⟩, ⟨8, some 134, none, .eff (.appendM 2 40 126 133), []⟩, mv 9 7 134])))))) (rg [mv 0 53 8, pu 1 54 (.bin .add 53 (ci 1)), mv 2 8 54])))))) (kd4 F))))))))⟩
def x_s_l3Env_pick (F : Ids) : XFunc := ⟨71, [], .seq (rg [⟨0, some 3, none, .eff (.box 1), []⟩]) (.seq (rg [mv 0 6 0, mv 1 7 0, fa 2 8 6 3, ld 3 9 (some 5) 8, ca 4 10 F.s_l3Env_expr [7, 9], ca 5 11 F.s_l3Env_num [6, 10]]) (.seq (rg [mv 0 12 0, fa 1 13 2 3, ld 2 14 (some 2) 13, ca 3 15 F.s_l3Env_use [12, 14], ⟨4, some 4, none, .eff (.alloc [.slice none 0 0]), []⟩, ⟨5, none, none, .eff (.store 1 4 15), []⟩]) (.seq (rg [mv 0 16 0, nc 1 17 16, fa 2 18 2 17, ld 3 19 none 18, pu 4 20 (.lenSl 19), mv 5 5 20]) (.seq (.region true [mv 0 21 0, mv 1 22 0, nc 2 23 22, fa 3 24 2 23, ld 4 25 none 24, fa 5 26 2 3, ld 6 27 (some 2) 26, ⟨7, some 28, none, .eff (.buildSlice 2 1 [.string (bl []), .slice none 0 0] [(0, (2, 27))]), []⟩, pu 8 29 (.build [.string (bl []), .bool false, .bool false, .slice none 0 0, .slice none 0 0, .bool false] [(0, (1, .const (.string (bl [])))), (1, (1, ct)), (4, (1, 28))]), ⟨9, some 30, none, .lits 6 1 [.string (bl []), .bool false, .bool false, .slice none 0 0, .slice none 0 0, .bool false] [(0, (6, 29))], []⟩, ⟨10, some 31, none, .eff (.appendM 6 80 25 30), []⟩, nc 11 32 21, fa 12 33 2 32, ⟨13, none, none, .eff (.store 1 33 31), []⟩]) (.seq (.region true [mv 0 34 0, mv 1 35 0, fa 2 36 4 3, ld 3 37 (some 2) 36, ⟨4, some 38, none, .eff (.call F.s_l3Env_use [35, 37]), [5]⟩, ⟨5, some 39, none, .load (.load (some 1) 4), [4]⟩, ca 6 40 F.s_l3Env_same [34, 38, 39]]) (.seq (.seq (rg [mv 0 41 0, nc 1 42 41, fa 2 43 2 42, ld 3 44 none 43, mv 4 45 5, ia 5 46 6 44 45, fa 6 47 5 46, ld 7 48 none 47]) (.cond 48 (rg [mv 0 49 0, ca 1 50 F.s_l3Env_fail [49, ci 4]]) .skip)) (kd2 F)))))))⟩
def x_s_l3Env_fork (F : Ids) : XFunc := ⟨86, [], .seq (rg [⟨0, some 3, none, .eff (.box 1), []⟩]) (.seq (rg [mv 0 7 0, ca 1 8 F.s_l3Env_copy [7], mv 2 4 8]) (.seq (rg [mv 0 9 4, fa 1 10 13 3, ld 2 11 none 10, ca 3 12 F.s_l3Env_body [9, 11]]) (.seq (rg [mv 0 13 0, ca 1 14 F.s_l3Env_copy [13], mv 2 5 14]) (.seq (rg [mv 0 15 5, ⟨1, some 16, none, .eff (.buildSlice 1 0 [.string (bl [])] []), []⟩, mv 2 17 4, nc 3 18 17, fa 4 19 3 18, ld 5 20 none 19, ⟨6, some 21, none, .eff (.appendM 1 16 16 20), []⟩, nc 7 22 15, fa 8 23 3 22, ⟨9, none, none, .eff (.store 1 23 21), []⟩]) (.seq (rg [mv 0 24 5, fa 1 25 14 3, ld 2 26 none 25, ca 3 27 F.s_l3Env_body [24, 26]]) (.seq (.seq (rg [mv 0 6 (ci 0)]) (.block 0 (.loop (.seq (.seq (rg [mv 0 28 6, mv 1 29 0, nc 2 30 29, fa 3 31 2 30, ld 4 32 none 31, pu 5 33 (.lenSl 32), pu 6 34 (.bin .lss 28 33)]) (.cond 34 .skip (.exit 0))) (.seq (.block 1 (.region true [mv 0 37 0, nc 1 38 37, fa 2 39 2 38, ld 3 40 none 39, mv 4 41 6, mv 5 42 4, nc 6 43 42, fa 7 44 2 43, ld 8 45 none 44, mv 9 46 6, ia 10 47 6 45 46, fa 11 48 5 47, ld 12 49 none 48, mv 13 50 49, gp 14 51 50 false (.move 5), gp 15 52 50 false (.nilCheck 51), gp 16 53 50 false (.fieldAddr 2 52), gl 17 54 50 false none 53, gp 18 55 50 false (.move 6), gp 19 56 50 false (.indexAddr 6 54 55), gp 20 57 50 false (.fieldAddr 5 56), gl 21 58 50 false none 57, pu 22 59 (.pick 50 ct 58), ia 23 60 6 40 41, fa 24 61 5 60, ⟨25, none, none, .eff (.store 1 61 59), []⟩])) (rg [mv 0 35 6, pu 1 36 (.bin .add 35 (ci 1)), mv 2 6 36])))))) (.seq (rg [mv 0 62 0, mv 1 63 5, nc 2 64 63, fa 3 65 3 64, ld 4 66 none 65, nc 5 67 62, fa 6 68 3 67, ⟨7, none, none, .eff (.store 1 68 66), []⟩]) (.seq (.seq (rg [mv 0 69 4, nc 1 70 69, fa 2 71 4 70, ld 3 72 none 71, pu 4 73 (.bin .gtr 72 (ci 0))]) (.cond 73 (rg [mv 0 74 0, mv 1 75 4, nc 2 76 75, fa 3 77 4 76, ld 4 78 none 77, ca 5 79 F.s_l3Env_fail [74, 78]]) .skip)) (rg [mv 0 80 0, mv 1 81 5, nc 2 82 81, fa 3 83 4 82, ld 4 84 none 83, ca 5 85 F.s_l3Env_fail0 [80, 84]])))))))))⟩
def x_s_l1Copy (F : Ids) : XFunc := ⟨25, [.cell 2 (some 1)], .seq (rg [⟨0, some 1, none, .eff (.box 0), []⟩, ⟨1, some 2, none, .eff (.alloc [.slice none 0 0]), []⟩]) (.seq (rg [pu 0 5 (.build [.slice none 0 0] []), ⟨1, some 3, none, .eff (.alloc [.slice none 0 0]), []⟩, ⟨2, none, none, .eff (.store 1 3 5), []⟩]) (.seq (.seq (rg [mv 0 4 (ci 0)]) (.block 0 (.loop (.seq (.seq (rg [mv 0 6 4, fa 1 7 0 1, ld 2 8 none 7, pu 3 9 (.lenSl 8), pu 4 10 (.bin .lss 6 9)]) (.cond 10 .skip (.exit 0))) (.seq (.block 1 (.region true [fa 0 13 0 3, ⟨1, some 14, none, .load (.load none 13), [7]⟩, fa 2 15 0 1, ld 3 16 none 15, mv 4 17 4, ia 5 18 1 16 17, ld 6 19 (some 1) 18, ⟨7, some 20, none, .eff (.call F.s_l1Copy [19]), [1]⟩, ⟨8, some 21, none, .lits 1 1 [.slice none 0 0] [(0, (1, 20))], []⟩, ⟨9, some 22, none, .eff (.appendM 1 24 14 21), []⟩, fa 10 23 0 3, ⟨11, none, none, .eff (.store 1 23 22), []⟩])) (rg [mv 0 11 4, pu 1 12 (.bin .add 11 (ci 1)), mv 2 4 12])))))) (.seq (rg [ld 0 24 (some 1) 3, ⟨1, none, none, .eff (.store 1 2 24), []⟩]) .ret)))⟩
def x_s_l3Meet (F : Ids) : XFunc := ⟨36, [.slot 4], .seq (rg [⟨0, some 2, none, .eff (.box 0), []⟩, ⟨1, some 3, none, .eff (.box 1), []⟩, mv 2 4 cf]) (.seq (.seq (rg [fa 0 6 0 2, ld 1 7 none 6, fa 2 8 0 3, ld 3 9 none 8, pu 4 10 (.bin .neq 7 9)]) (.cond 10 (.seq (rg [mv 0 4 cf]) .ret) .skip)) (.seq (.seq (rg [mv 0 5 (ci 0)]) (.block 0 (.loop (.seq (.seq (rg [mv 0 11 5, fa 1 12 1 2, ld 2 13 none 12, pu 3 14 (.lenSl 13), pu 4 15 (.bin .lss 11 14), mv 5 16 15, gp 6 17 16 true (.move 5), gp 7 18 16 true (.fieldAddr 1 3), gl 8 19 16 true none 18, gp 9 20 16 true (.lenSl 19), gp 10 21 16 true (.bin .lss 17 20), pu 11 22 (.pick 16 21 cf)]) (.cond 22 .skip (.exit 0))) (.seq (.block 1 (.seq (.region true [fa 0 25 1 2, ld 1 26 none 25, mv 2 27 5, ia 3 28 1 26 27, ld 4 29 none 28, fa 5 30 1 3, ld 6 31 none 30, mv 7 32 5, ia 8 33 1 31 32, ld 9 34 none 33, pu 10 35 (.bin .neq 29 34)]) (.cond 35 (.seq (rg [mv 0 4 cf]) .ret) .skip))) (rg [mv 0 23 5, pu 1 24 (.bin .add 23 (ci 1)), mv 2 5 24])))))) (.seq (rg [mv 0 4 ct]) .ret)))⟩
def x_s_l3Order (F : Ids) : XFunc := ⟨96, [.slot 4], .seq (rg [mv 0 4 (.const (.slice none 0 0))]) (.seq (rg [mv 0 5 ct]) (.seq (.block 0 (.loop (.seq (.seq (rg [mv 0 11 5]) (.cond 11 .skip (.exit 0))) (.block 1 (.seq (rg [mv 0 5 cf]) (.seq (rg [mv 0 6 (ci 0)]) (.block 2 (.loop (.seq (.seq (rg [mv 0 12 6, mv 1 13 0, pu 2 14 (.lenSl 13), pu 3 15 (.bin .lss 12 14)]) (.cond 15 .skip (.exit 2))) (.seq (.block 3 (.seq (.seq (rg [mv 0 18 0, mv 1 19 6, ia 2 20 6 18 19, fa 3 21 5 20, ld 4 22 none 21, mv 5 23 22, gp 6 24 23 false (.move 0), gp 7 25 23 false (.move 6), gp 8 26 23 false (.indexAddr 6 24 25), gp 9 27 23 false (.fieldAddr 1 26), gl 10 28 23 false none 27, gp 11 29 23 false (.not 28), pu 12 30 (.pick 23 ct 29), mv 13 31 30, gp 14 32 31 false (.move 1), gp 15 33 31 false (.move 6), ⟨16, some 34, some (31, false), .eff (.call F.s_l3Among [32, 33]), []⟩, pu 17 35 (.pick 31 ct 34)]) (.cond 35 (.exit 3) .skip)) (.seq (rg [mv 0 7 (ci 0)]) (.block 4 (.loop (.seq (.seq (rg [mv 0 36 7, mv 1 37 0, mv 2 38 6, ia 3 39 6 37 38, fa 4 40 4 39, ld 5 41 none 40, pu 6 42 (.lenSl 41), pu 7 43 (.bin .lss 36 42)]) (.cond 43 .skip (.exit 4))) (.seq (.block 5 (.seq (rg [mv 0 8 (ci 0)]) (.block 6 (.loop (.seq (.seq (rg [mv 0 46 8, mv 1 47 1, pu 2 48 (.lenSl 47), pu 3 49 (.bin .lss 46 48)]) (.cond 49 .skip (.exit 6))) (.seq (.block 7 (.seq (.region true [mv 0 52 0, mv 1 53 1, mv 2 54 8, ia 3 55 1 53 54, ld 4 56 none 55, ia 5 57 6 52 56, fa 6 58 0 57, ld 7 59 none 58, mv 8 60 0, mv 9 61 6, ia 10 62 6 60 61, fa 11 63 4 62, ld 12 64 none 63, mv 13 65 7, ia 14 66 2 64 65, fa 15 67 0 66, ld 16 68 none 67, pu 17 69 (.bin .eql 59 68), mv 18 70 69, gp 19 71 70 true (.move 1), gp 20 72 70 true (.move 6), ⟨21, some 73, some (70, true), .eff (.call F.s_l3Among [71, 72]), []⟩, gp 22 74 70 true (.not 73), pu 23 75 (.pick 70 74 cf)]) (.cond 75 (.seq (rg [mv 0 76 1, mv 1 77 6, ⟨2, some 78, none, .lits 1 1 [.int .i64 0] [(0, (1, 77))], []⟩, ⟨3, some 79, none, .eff (.appendM 1 8 76 78), []⟩, mv 4 1 79]) (rg [mv 0 5 ct])) .skip))) (rg [mv 0 50 8, pu 1 51 (.bin .add 50 (ci 1)), mv 2 8 51]))))))) (rg [mv 0 44 7, pu 1 45 (.bin .add 44 (ci 1)), mv 2 7 45])))))))) (rg [mv 0 16 6, pu 1 17 (.bin .add 16 (ci 1)), mv 2 6 17]))))))))))) (.seq (rg [⟨0, some 80, none, .eff (.buildSlice 1 0 [.int .i64 0] []), []⟩, mv 1 9 80]) (.seq (.seq (rg [mv 0 81 0, pu 1 82 (.lenSl 81), pu 2 83 (.bin .sub 82 (ci 1)), mv 3 10 83]) (.block 8 (.loop (.seq (.seq (rg [mv 0 84 10, pu 1 85 (.bin .geq 84 (ci 0))]) (.cond 85 .skip (.exit 8))) (.seq (.block 9 (.seq (rg [mv 0 88 1, mv 1 89 10, ca 2 90 F.s_l3Among [88, 89]]) (.cond 90 (rg [mv 0 91 9, mv 1 92 10, ⟨2, some 93, none, .lits 1 1 [.int .i64 0] [(0, (1, 92))], []⟩, ⟨3, some 94, none, .eff (.appendM 1 8 91 93), []⟩, mv 4 9 94]) .skip))) (rg [mv 0 86 10, pu 1 87 (.bin .sub 86 (ci 1)), mv 2 10 87])))))) (.seq (rg [mv 0 95 9, mv 1 4 95]) .ret)))))⟩
def x_s_l3Fn (F : Ids) : XFunc := ⟨29, [.slot 6], .seq (rg [⟨0, some 3, none, .eff (.box 0), []⟩, mv 1 6 (ci 0)]) (.seq (.seq (rg [mv 0 7 (ci 0)]) (.block 0 (.loop (.seq (.seq (rg [mv 0 8 7, mv 1 9 2, pu 2 10 (.bin .lss 8 9), mv 3 11 10, gp 4 12 11 true (.move 7), gp 5 13 11 true (.fieldAddr 0 3), gl 6 14 11 true none 13, gp 7 15 11 true (.lenSl 14), gp 8 16 11 true (.bin .lss 12 15), pu 9 17 (.pick 11 16 cf)]) (.cond 17 .skip (.exit 0))) (.seq (.block 1 (.seq (rg [fa 0 20 0 3, ld 1 21 none 20, mv 2 22 7, ia 3 23 12 21 22, fa 4 24 0 23, ld 5 25 none 24, mv 6 26 1, pu 7 27 (.bin .eql 25 26)]) (.cond 27 (.seq (rg [mv 0 28 7, mv 1 6 28]) .ret) .skip))) (rg [mv 0 18 7, pu 1 19 (.bin .add 18 (ci 1)), mv 2 7 19])))))) (.seq (rg [mv 0 6 (.const (.int .i64 (-1)))]) .ret))⟩
def x_s_l3Loans (F : Ids) : XFunc := ⟨8, [.slot 4], .seq (rg [mv 0 4 (.const (.slice none 0 0))]) (.seq (.seq (rg [mv 0 5 0, pu 1 6 (.not 5)]) (.cond 6 (.seq (rg [mv 0 4 (.const (.slice none 0 0))]) .ret) .skip)) (.seq (rg [mv 0 7 1, mv 1 4 7]) .ret))⟩
def x_s_l3Env_body (F : Ids) : XFunc := ⟨24, [], .seq (rg [mv 0 4 (ci 0)]) (.block 0 (.loop (.seq (.seq (rg [mv 0 5 4, mv 1 6 1, pu 2 7 (.lenSl 6), pu 3 8 (.bin .lss 5 7), mv 4 9 8, gp 5 10 9 true (.move 0), gp 6 11 9 true (.nilCheck 10), gp 7 12 9 true (.fieldAddr 4 11), gl 8 13 9 true none 12, gp 9 14 9 true (.bin .eql 13 (ci 0)), pu 10 15 (.pick 9 14 cf)]) (.cond 15 .skip (.exit 0))) (.seq (.block 1 (rg [mv 0 18 0, mv 1 19 1, mv 2 20 4, ia 3 21 15 19 20, ld 4 22 (some 15) 21, ca 5 23 F.s_l3Env_stmt [18, 22]])) (rg [mv 0 16 4, pu 1 17 (.bin .add 16 (ci 1)), mv 2 4 17])))))⟩
def x_s_l3Env_fail0 (F : Ids) : XFunc := ⟨9, [], .seq (rg [mv 0 4 1, pu 1 5 (.bin .gtr 4 (ci 0))]) (.cond 5 (rg [mv 0 6 0, mv 1 7 1, ca 2 8 F.s_l3Env_fail [6, 7]]) .skip)⟩
def x_s_l3Among (F : Ids) : XFunc := ⟨18, [.slot 4], .seq (rg [mv 0 4 cf]) (.seq (.seq (rg [mv 0 5 (ci 0)]) (.block 0 (.loop (.seq (.seq (rg [mv 0 6 5, mv 1 7 0, pu 2 8 (.lenSl 7), pu 3 9 (.bin .lss 6 8)]) (.cond 9 .skip (.exit 0))) (.seq (.block 1 (.seq (rg [mv 0 12 0, mv 1 13 5, ia 2 14 1 12 13, ld 3 15 none 14, mv 4 16 1, pu 5 17 (.bin .eql 15 16)]) (.cond 17 (.seq (rg [mv 0 4 ct]) .ret) .skip))) (rg [mv 0 10 5, pu 1 11 (.bin .add 10 (ci 1)), mv 2 5 11])))))) (.seq (rg [mv 0 4 cf]) .ret))⟩
structure Lib (P : Program) (F : Ids) : Prop where
 s_DrawProgWrite : Fits P F.s_DrawProgWrite (x_s_DrawProgWrite F)
 i_ProgWrite : Fits P F.i_ProgWrite (x_i_ProgWrite F)
 s_ProgWrite : Fits P F.s_ProgWrite (x_s_ProgWrite F)
 l_lhProg : Fits P F.l_lhProg (x_l_lhProg F)
 s_l71Some : Fits P F.s_l71Some (x_s_l71Some F)
 s_l6Open : Fits P F.s_l6Open (x_s_l6Open F)
 i_progForm : Fits P F.i_progForm (x_i_progForm F)
 i_fnWrite : Fits P F.i_fnWrite (x_i_fnWrite F)
 s_l2Form : Fits P F.s_l2Form (x_s_l2Form F)
 s_l1Say : Fits P F.s_l1Say (x_s_l1Say F)
 s_l2Lines : Fits P F.s_l2Lines (x_s_l2Lines F)
 s_l2At : Fits P F.s_l2At (x_s_l2At F)
 s_l2Say : Fits P F.s_l2Say (x_s_l2Say F)
 l_lhType : Fits P F.l_lhType (x_l_lhType F)
 l_lhBody : Fits P F.l_lhBody (x_l_lhBody F)
 l_lhExpr : Fits P F.l_lhExpr (x_l_lhExpr F)
 l_lhPlace : Fits P F.l_lhPlace (x_l_lhPlace F)
 s_l71Prog : Fits P F.s_l71Prog (x_s_l71Prog F)
 s_l6Rd_pick : Fits P F.s_l6Rd_pick (x_s_l6Rd_pick F)
 s_l71Bend : Fits P F.s_l71Bend (x_s_l71Bend F)
 i_fnForm : Fits P F.i_fnForm (x_i_fnForm F)
 i_progLine : Fits P F.i_progLine (x_i_progLine F)
 i_typeWords : Fits P F.i_typeWords (x_i_typeWords F)
 i_stmtsWrite : Fits P F.i_stmtsWrite (x_i_stmtsWrite F)
 i_placeText : Fits P F.i_placeText (x_i_placeText F)
 i_exprText : Fits P F.i_exprText (x_i_exprText F)
 s_l2Fn : Fits P F.s_l2Fn (x_s_l2Fn F)
 s_l6Dec : Fits P F.s_l6Dec (x_s_l6Dec F)
 s_l2Signs : Fits P F.s_l2Signs (x_s_l2Signs F)
 l_lhInts : Fits P F.l_lhInts (x_l_lhInts F)
 s_l71Fn : Fits P F.s_l71Fn (x_s_l71Fn F)
 s_l6Rd_of : Fits P F.s_l6Rd_of (x_s_l6Rd_of F)
 s_l71Deep : Fits P F.s_l71Deep (x_s_l71Deep F)
 i_nameForm : Fits P F.i_nameForm (x_i_nameForm F)
 i_TypeOk : Fits P F.i_TypeOk (x_i_TypeOk F)
 i_stmtsForm : Fits P F.i_stmtsForm (x_i_stmtsForm F)
 i_placeForm : Fits P F.i_placeForm (x_i_placeForm F)
 i_exprNothing : Fits P F.i_exprNothing (x_i_exprNothing F)
 i_exprForm : Fits P F.i_exprForm (x_i_exprForm F)
 i_placeNothing : Fits P F.i_placeNothing (x_i_placeNothing F)
 i_typeIsNum : Fits P F.i_typeIsNum (x_i_typeIsNum F)
 i_stmtOf : Fits P F.i_stmtOf (x_i_stmtOf F)
 i_pathText : Fits P F.i_pathText (x_i_pathText F)
 i_exprOf : Fits P F.i_exprOf (x_i_exprOf F)
 i_twoText : Fits P F.i_twoText (x_i_twoText F)
 s_l2Name : Fits P F.s_l2Name (x_s_l2Name F)
 s_TypeOk : Fits P F.s_TypeOk (x_s_TypeOk F)
 s_l2Body : Fits P F.s_l2Body (x_s_l2Body F)
 s_l2Count : Fits P F.s_l2Count (x_s_l2Count F)
 s_l2Place : Fits P F.s_l2Place (x_s_l2Place F)
 s_l2NoExpr : Fits P F.s_l2NoExpr (x_s_l2NoExpr F)
 s_l2None : Fits P F.s_l2None (x_s_l2None F)
 s_l2Expr : Fits P F.s_l2Expr (x_s_l2Expr F)
 s_l71Type : Fits P F.s_l71Type (x_s_l71Type F)
 s_l3Start : Fits P F.s_l3Start (x_s_l3Start F)
 s_l71Mk_body : Fits P F.s_l71Mk_body (x_s_l71Mk_body F)
 s_l71Mk_place : Fits P F.s_l71Mk_place (x_s_l71Mk_place F)
 s_l3Env_copy : Fits P F.s_l3Env_copy (x_s_l3Env_copy F)
 s_l3Env_use : Fits P F.s_l3Env_use (x_s_l3Env_use F)
 s_l3Env_outside : Fits P F.s_l3Env_outside (wwa F)
 s_l71Mk_expr : Fits P F.s_l71Mk_expr (x_s_l71Mk_expr F)
 s_l3Env_same : Fits P F.s_l3Env_same (x_s_l3Env_same F)
 s_l3Env_expr : Fits P F.s_l3Env_expr (x_s_l3Env_expr F)
 i_typeFits : Fits P F.i_typeFits (x_i_typeFits F)
 i_argsForm : Fits P F.i_argsForm (x_i_argsForm F)
 i_pathForm : Fits P F.i_pathForm (x_i_pathForm F)
 i_stmtNothing : Fits P F.i_stmtNothing (x_i_stmtNothing F)
 s_l1Deep : Fits P F.s_l1Deep (x_s_l1Deep F)
 s_l2Stmt : Fits P F.s_l2Stmt (x_s_l2Stmt F)
 s_l6In : Fits P F.s_l6In (x_s_l6In F)
 s_l3Env_add : Fits P F.s_l3Env_add (x_s_l3Env_add F)
 s_l71Mk_stmt : Fits P F.s_l71Mk_stmt (x_s_l71Mk_stmt F)
 s_l3Env_stmt : Fits P F.s_l3Env_stmt (x_s_l3Env_stmt F)
 s_l71Path : Fits P F.s_l71Path (x_s_l71Path F)
 s_l3Env_find : Fits P F.s_l3Env_find (x_s_l3Env_find F)
 s_l3Env_fail : Fits P F.s_l3Env_fail (x_s_l3Env_fail F)
 s_TypeAt : Fits P F.s_TypeAt (x_s_TypeAt F)
 s_l3Env_ends : Fits P F.s_l3Env_ends (x_s_l3Env_ends F)
 s_l1Same : Fits P F.s_l1Same (x_s_l1Same F)
 s_l3Env_num : Fits P F.s_l3Env_num (x_s_l3Env_num F)
 i_argForm : Fits P F.i_argForm (x_i_argForm F)
 s_l2Args : Fits P F.s_l2Args (x_s_l2Args F)
 s_l71Mk_pick : Fits P F.s_l71Mk_pick (x_s_l71Mk_pick F)
 s_l71Mk_name : Fits P F.s_l71Mk_name (x_s_l71Mk_name F)
 s_l71Mk_call : Fits P F.s_l71Mk_call (x_s_l71Mk_call F)
 s_l3Env_call : Fits P F.s_l3Env_call (x_s_l3Env_call F)
 s_l3Env_pick : Fits P F.s_l3Env_pick (x_s_l3Env_pick F)
 s_l3Env_fork : Fits P F.s_l3Env_fork (x_s_l3Env_fork F)
 s_l1Copy : Fits P F.s_l1Copy (x_s_l1Copy F)
 s_l3Meet : Fits P F.s_l3Meet (x_s_l3Meet F)
 s_l3Order : Fits P F.s_l3Order (x_s_l3Order F)
 s_l3Fn : Fits P F.s_l3Fn (x_s_l3Fn F)
 s_l3Loans : Fits P F.s_l3Loans (x_s_l3Loans F)
 s_l3Env_body : Fits P F.s_l3Env_body (x_s_l3Env_body F)
 s_l3Env_fail0 : Fits P F.s_l3Env_fail0 (x_s_l3Env_fail0 F)
 s_l3Among : Fits P F.s_l3Among (x_s_l3Among F)
end Go.Xl
namespace Go.Xl
open Nat renaming reduceEqDiff → rE, reduceAdd → rA, reduceLeDiff → rL
def one (b : Nat) (o : HObj) : Heap := Heap.empty.set b o
theorem yyh (b : Nat) (o : HObj) : (one b o).get b = some o := by simp [one]
theorem get_one_ne {b c : Nat} (o : HObj) (h : c ≠ b) : (one b o).get c = none := by simp [one, Heap.get_set, h]
theorem set_one (b : Nat) (o o' : HObj) : (one b o).set b o' = one b o' := by
 apply Heap.ext; intro c; simp only [one, Heap.get_set]; split <;> rfl
theorem one_sub {H : Heap} {b : Nat} {o : HObj} (h : H.get b = some o) : (one b o).sub H := by
 intro c q hc
 by_cases e : c = b
 ·subst e; rw [yyh] at hc; rw [h, hc]
 ·rw [get_one_ne _ e] at hc; simp at hc
theorem swap_one {H : Heap} {b : Nat} {o o' : HObj} : H.swap (one b o) (one b o') = H.set b o' := by
 apply Heap.ext; intro c
 rw [Heap.get_swap, Heap.get_set]
 by_cases e : c = b
 ·subst e; simp [yyh]
 ·simp [get_one_ne _ e, e]
def RdO (bs : List UInt8) (p : Int) : HObj := .cells [.sl 1 none (bs.map fun b => [.lit (.int .u8 b.toNat)]), I p]
theorem tmod_in {x n : Int} (hx : 0 ≤ x) (hn : 0 < n) : 0 ≤ x.tmod n ∧ x.tmod n < n ∧ x.tmod n ≤ x := by
 rw [Int.tmod_eq_emod_of_nonneg hx]
 refine ⟨Int.emod_nonneg _ (by omega), Int.emod_lt_of_pos _ hn, ?_⟩
 have h1 := Int.mul_ediv_add_emod x n
 have h2 : 0 ≤ n * (x / n) := Int.mul_nonneg (by omega) (Int.ediv_nonneg hx (by omega))
 omega
theorem tdiv_in {x n : Int} (hx : 0 ≤ x) (hn : 0 < n) : 0 ≤ x.tdiv n ∧ x.tdiv n ≤ x := by
 rw [Int.tdiv_eq_ediv_of_nonneg hx]
 exact ⟨Int.ediv_nonneg hx (by omega), Int.ediv_le_self _ hx⟩
theorem xor_in {a b : Int} (ha : 0 ≤ a) (ha' : a < 9223372036854775808) (hb : 0 ≤ b) (hb' : b < 9223372036854775808) :
 0 ≤ (((BitVec.ofInt 64 a ^^^ BitVec.ofInt 64 b).toNat : Nat) : Int) ∧ (((BitVec.ofInt 64 a ^^^ BitVec.ofInt 64 b).toNat : Nat) : Int) < 9223372036854775808 := by
 obtain ⟨n, rfl⟩ := Int.eq_ofNat_of_zero_le ha
 obtain ⟨m, rfl⟩ := Int.eq_ofNat_of_zero_le hb
 refine ⟨Int.natCast_nonneg _, ?_⟩
 rw [BitVec.toNat_xor]
 have h1 : (BitVec.ofInt 64 (n : Int)).toNat = n := by rw [BitVec.toNat_ofInt]; omega
 have h2 : (BitVec.ofInt 64 (m : Int)).toNat = m := by rw [BitVec.toNat_ofInt]; omega
 rw [h1, h2]
 have : n ^^^ m < 2 ^ 63 := Nat.xor_lt_two_pow (by omega) (by omega)
 omega
section
variable {P : Program} {F : Ids}
theorem c_pick (L : Lib P F) (r : Nat) (bs : List UInt8) (p n : Int) (hb : bs.length ≤ 2000) (hp : 0 ≤ p) (hp' : p ≤ 2 ^ 50) :
 ACalls P F.s_l6Rd_pick [.ptr r 0, I n] (one r (RdO bs p)) (fun q H' => ∃ k, q = I k ∧ 0 ≤ k ∧ (k < n ∨ k = 0) ∧ H' = one r (RdO bs (p + 1))) := by
 refine L.s_l6Rd_pick (by simp [x_s_l6Rd_pick]) ?_
 have w1 := yya (n := p + 1) (by omega) (by omega)
 have w2 := yya (n := p + 1 - 1) (by omega) (by omega)
 have hget : ∀ {k : Nat} (h : k < bs.length), (bs.map fun b => [AC.lit (.int .u8 (b.toNat : Int))])[k]? = some [.lit (.int .u8 (bs[k].toNat : Int))] := by
  intro k h; simp [h]
 by_cases hn : n < 1
 ·simp only [x_s_l6Rd_pick, go_sem, rE, yyh, set_one, RdO, w1, rA, rL, Nat.le_refl, ge_iff_le, hn]
  exact post_slot ⟨0, rfl, Int.le_refl _, .inr rfl, rfl⟩
 ·by_cases hb0 : bs.length = 0
  ·simp only [x_s_l6Rd_pick, go_sem, rE, yyh, set_one, RdO, w1, rA, rL, Nat.le_refl, ge_iff_le, hn, List.length_map, hb0, Int.natCast_zero, beq_self_eq_true]
   exact post_slot ⟨0, rfl, Int.le_refl _, .inr rfl, rfl⟩
  ·have hb0' : ((bs.length : Int) == 0) = false := by simpa using hb0
   by_cases hk : p + 1 - 1 < bs.length
   ·have hk' : (p + 1 - 1).toNat < bs.length := by omega
    have hge : 0 ≤ p + 1 - 1 := by omega
    have hlt : bs[(p + 1 - 1).toNat].toNat < 256 := UInt8.toNat_lt _
    have w3 := yya (n := (bs[(p + 1 - 1).toNat].toNat : Int)) (by omega) (by omega)
    have ht := tmod_in (x := (bs[(p + 1 - 1).toNat].toNat : Int)) (n := n) (by omega) (by omega)
    have w4 := yya (n := (bs[(p + 1 - 1).toNat].toNat : Int).tmod n) (by omega) (by omega)
    have hn0 : ¬ n = 0 := by omega
    simp only [x_s_l6Rd_pick, go_sem, rE, yyh, set_one, RdO, w1, w2, rA, rL, Nat.le_refl, ge_iff_le, hn, List.length_map, hb0', hk, hge, hget hk', w3, w4, hn0]
    exact post_slot ⟨_, rfl, ht.1, .inl ht.2.1, rfl⟩
   ·have hl0 : (0 : Int) < bs.length := by omega
    have t1 := tmod_in (x := p + 1 - 1) (n := bs.length) (by omega) hl0
    have w3 := yya (n := (p + 1 - 1).tmod bs.length) (by omega) (by omega)
    have w4 := yya (n := (p + 1 - 1) * 7) (by omega) (by omega)
    have w5 := yya (n := (p + 1 - 1) * 7 + 3) (by omega) (by omega)
    have t2 := tmod_in (x := (p + 1 - 1) * 7 + 3) (n := bs.length) (by omega) hl0
    have w6 := yya (n := ((p + 1 - 1) * 7 + 3).tmod bs.length) (by omega) (by omega)
    have w7 := yya (n := (p + 1 - 1) * 29) (by omega) (by omega)
    have t3 := tdiv_in (x := p + 1 - 1) (n := bs.length) (by omega) hl0
    have w8 := yya (n := (p + 1 - 1).tdiv bs.length) (by omega) (by omega)
    have w9 := yya (n := (p + 1 - 1).tdiv bs.length * 53) (by omega) (by omega)
    generalize e1 : (p + 1 - 1).tmod bs.length = m1 at *
    generalize e2 : ((p + 1 - 1) * 7 + 3).tmod bs.length = m2 at *
    generalize e3 : (p + 1 - 1).tdiv bs.length = m3 at *
    have hm1 : m1.toNat < bs.length := by omega
    have hm2 : m2.toNat < bs.length := by omega
    have hb1 : bs[m1.toNat].toNat < 256 := UInt8.toNat_lt _
    have hb2 : bs[m2.toNat].toNat < 256 := UInt8.toNat_lt _
    have g1 := hget hm1
    have g2 := hget hm2
    generalize bs[m1.toNat].toNat = c1 at *
    generalize bs[m2.toNat].toNat = c2 at *
    have v1 := yya (n := (c1 : Int)) (by omega) (by omega)
    have v2 := yya (n := (c2 : Int)) (by omega) (by omega)
    have v3 := yya (n := (c1 : Int) * 131) (by omega) (by omega)
    have v4 := yya (n := (c2 : Int) * 1117) (by omega) (by omega)
    have v5 := yya (n := (c1 : Int) * 131 + c2 * 1117) (by omega) (by omega)
    have v6 := yya (n := (c1 : Int) * 131 + c2 * 1117 + (p + 1 - 1) * 29) (by omega) (by omega)
    have v7 := yya (n := (c1 : Int) * 131 + c2 * 1117 + (p + 1 - 1) * 29 + m3 * 53) (by omega) (by omega)
    have hx : 0 ≤ (c1 : Int) * 131 + c2 * 1117 + (p + 1 - 1) * 29 + m3 * 53 := by omega
    have hx' : (c1 : Int) * 131 + c2 * 1117 + (p + 1 - 1) * 29 + m3 * 53 < 2 ^ 62 := by omega
    have hlz : ¬ (bs.length : Int) = 0 := by omega
    have hn0 : ¬ n = 0 := by omega
    have h64 : ¬ (64 : Int) = 0 := by decide
    generalize ex : (c1 : Int) * 131 + c2 * 1117 + (p + 1 - 1) * 29 + m3 * 53 = x at *
    have t4 := tdiv_in (x := x) (n := 64) hx (by omega)
    have u1 := yya (n := x.tdiv 64) (by omega) (by omega)
    have t5 := xor_in (a := x) (b := x.tdiv 64) (by omega) (by omega) (by omega) (by omega)
    have u2 := yya (n := (((BitVec.ofInt 64 x ^^^ BitVec.ofInt 64 (x.tdiv 64)).toNat : Nat) : Int)) (by omega) (by omega)
    have u2' : IntKind.i64.wrap (((BitVec.ofInt IntKind.i64.bits x ^^^ BitVec.ofInt IntKind.i64.bits (x.tdiv 64)).toNat : Nat) : Int) = (((BitVec.ofInt 64 x ^^^ BitVec.ofInt 64 (x.tdiv 64)).toNat : Nat) : Int) := u2
    have t6 := tmod_in (x := (((BitVec.ofInt 64 x ^^^ BitVec.ofInt 64 (x.tdiv 64)).toNat : Nat) : Int)) (n := n) (by omega) (by omega)
    have u3 := yya (n := (((BitVec.ofInt 64 x ^^^ BitVec.ofInt 64 (x.tdiv 64)).toNat : Int)).tmod n) (by omega) (by omega)
    simp only [x_s_l6Rd_pick, go_sem, rE, yyh, set_one, RdO, w1, w2, w3, w4, w5, w6, w7, w8, w9, rA, rL, Nat.le_refl, ge_iff_le, hn, List.length_map, hb0', hk, g1, g2, e1, e2, e3, t1, t2, v1, v2, v3, v4, v5, v6, v7, hlz, ex, h64, u1, u2', hn0, u3]
    rw [← u3, ← u2] at t6
    exact post_slot ⟨_, rfl, t6.1, .inl t6.2.1, rfl⟩
theorem run_call1 {dr : Bool} {K : Env → Heap → Prop} {xs : List XOper} {E : Env} {H : Heap} {l : Lds} {f : Fps} {i : Nat} {g : FuncId} {args : List XArg} {d : Option Nat} {inc : List Nat} {as : List AC} {r : Nat} {o : HObj}
 {R : AC → Heap → Prop} (hc : ACalls P g as (one r o) fun q H' => ∃ o', R q (one r o') ∧ H' = one r o') (ha : args.map (XArg.ev E) = as) (hr : H.get r = some o) (hlive : dr = true → ∃ q o', R q (one r o')) (hchk : chkE inc l (· = r))
 (h : ∀ q o', R q (one r o') → rrun P dr K xs (E.put d q) (H.set r o') l ((i, fun b => b = r ∨ H.get b = none) :: f)) :
 rrun P dr K (⟨i, d, none, .eff (.call g args), inc⟩ :: xs) E H l f := by
 have hfp : (fun b => (one r o).get b ≠ none) = fun b => b = r := by
  funext b; apply propext
  by_cases e : b = r
  ·subst e; simp [yyh]
  ·simp [get_one_ne _ e, e]
 refine run_call hc ha (one_sub hr) (fun hd N => ?_) (by rw [hfp]; exact hchk) ?_
 ·obtain ⟨q, o', hq⟩ := hlive hd
  refine ⟨q, one r o', ⟨o', hq, rfl⟩, fun b hb hn => ?_⟩
  by_cases e : b = r
  ·subst e; rw [yyh] at hn; simp at hn
  ·rw [get_one_ne _ e] at hb; simp at hb
 ·rintro q H' ⟨o', hq, rfl⟩ hd
  rw [swap_one]
  have := h q o' hq
  have hfp' : (fun b => (one r o).get b ≠ none ∨ H.get b = none) = fun b => b = r ∨ H.get b = none := by
   funext b; rw [congrFun hfp b]
  rw [hfp']; exact this
def RdR (r : Nat) (bs : List UInt8) (p : Int) (c : Int) (Q : AC → Prop) (q : AC) (H' : Heap) : Prop := ∃ p', p ≤ p' ∧ p' ≤ p + c ∧ H' = one r (RdO bs p') ∧ Q q
theorem yyg {dr : Bool} {K : Env → Heap → Prop} {xs : List XOper} {E : Env} {H : Heap} {l : Lds} {f : Fps} {i : Nat} {g : FuncId} {args : List XArg} {d : Option Nat} {inc : List Nat} {as : List AC} {r : Nat} {bs : List UInt8} {p c : Int}
 {Q : AC → Prop} (hc : ACalls P g as (one r (RdO bs p)) (RdR r bs p c Q)) (ha : args.map (XArg.ev E) = as) (hr : H.get r = some (RdO bs p)) (hlive : dr = true → 0 ≤ c ∧ ∃ q, Q q) (hchk : chkE inc l (· = r))
 (h : ∀ q p', p ≤ p' → p' ≤ p + c → Q q → rrun P dr K xs (E.put d q) (H.set r (RdO bs p')) l ((i, fun b => b = r ∨ H.get b = none) :: f)) :
 rrun P dr K (⟨i, d, none, .eff (.call g args), inc⟩ :: xs) E H l f := by
 refine run_call1 (r := r) (o := RdO bs p) (R := fun q H' => ∃ p', p ≤ p' ∧ p' ≤ p + c ∧ H' = one r (RdO bs p') ∧ Q q) (hc.mono ?_) ha hr (fun hd => ?_) hchk ?_
 ·rintro q H' ⟨p', h1, h2, rfl, h4⟩
  exact ⟨_, ⟨p', h1, h2, rfl, h4⟩, rfl⟩
 ·obtain ⟨h0, q, hq⟩ := hlive hd
  exact ⟨q, RdO bs p, p, Int.le_refl _, by omega, rfl, hq⟩
 ·rintro q o' ⟨p', h1, h2, h3, h4⟩
  have : o' = RdO bs p' := by
   have := congrArg (fun H => Heap.get H r) h3
   simpa [yyh] using this
  subst this
  exact h q p' h1 h2 h4
theorem c_pick' (L : Lib P F) (r : Nat) (bs : List UInt8) (p n : Int) (hb : bs.length ≤ 2000) (hp : 0 ≤ p) (hp' : p ≤ 2 ^ 50) :
 ACalls P F.s_l6Rd_pick [.ptr r 0, I n] (one r (RdO bs p)) (RdR r bs p 1 fun q => ∃ k, q = I k ∧ 0 ≤ k ∧ (k < n ∨ k = 0)) :=
 (c_pick L r bs p n hb hp hp').mono fun q H' ⟨k, h1, h2, h3, h4⟩ => ⟨p + 1, by omega, Int.le_refl _, h4, k, h1, h2, h3⟩
def Ty.le : Nat → Ty → Prop
 | 0, .mk ks => ks = []
 | d + 1, .mk ks => ks.length ≤ 3 ∧ ∀ k ∈ ks, Ty.le d k
theorem Ty.le_nil : ∀ d, Ty.le d (.mk [])
 | 0 => rfl
 | d + 1 => by simp [Ty.le]
def tcost : Nat → Int
 | 0 => 0
 | d + 1 => 1 + 2 * tcost d
theorem tcost_nonneg : ∀ d, 0 ≤ tcost d
 | 0 => Int.le_refl _
 | d + 1 => by have := tcost_nonneg d; simp only [tcost]; omega
theorem sub_set {H : Heap} {b : Nat} {o : HObj} (h : H.get b = none) : H.sub (H.set b o) := by
 intro c q hc
 rw [Heap.zza _ _ (by rintro rfl; rw [h] at hc; simp at hc)]; exact hc
theorem le_ty0 : Le (.agg [NIL]) (.agg (Ty.mk []).enc) := Le.agg (show LeC [NIL] [.sl 1 none []] from ⟨⟨.nil 1, rfl⟩, trivial⟩)
theorem le_ty (tok : Option (Nat × Nat × Nat)) (ks : List Ty) : Le (.agg [.sl 1 tok (Ty.encs ks)]) (.agg (Ty.mk ks).enc) :=
 Le.agg (show LeC [.sl 1 tok (Ty.encs ks)] [.sl 1 none (Ty.encs ks)] from ⟨⟨.tok _ _ _, rfl⟩, trivial⟩)
theorem c_l71Type (L : Lib P F) (r : Nat) (bs : List UInt8) (hb : bs.length ≤ 2000) : ∀ (d : Nat) (dp : Int), dp ≤ d → d ≤ 100 → ∀ p : Int, 0 ≤ p → p + tcost d ≤ 2 ^ 50 →
 ACalls P F.s_l71Type [.ptr r 0, I dp] (one r (RdO bs p)) (RdR r bs p (tcost d) fun q => ∃ t : Ty, q = .agg t.enc ∧ t.le d) := by
 intro d
 induction d with
 | zero =>
   intro dp hd hd' p hp hp'
   have h2 : dp < 2 := by omega
   refine L.s_l71Type (by simp [x_s_l71Type]) ?_
   simp only [x_s_l71Type, go_sem, rE]
   intro b hb'
   have hrb : r ≠ b := by rintro rfl; rw [yyh] at hb'; simp at hb'
   simp only [go_sem, rE, h2, Nat.le_refl, rA]
   exact yym (off := 0) (rfl) (Heap.zzb _ _ _) rfl le_ty0 (sub_set hb')
    ⟨p, Int.le_refl _, by simp [tcost], rfl, .mk [], rfl, rfl⟩
 | succ d ih =>
   intro dp hd hd' p hp hp'
   have tn := tcost_nonneg d
   simp only [tcost] at hp'
   refine L.s_l71Type (by simp [x_s_l71Type]) ?_
   simp only [x_s_l71Type, go_sem, rE]
   intro b hb'
   have hrb : r ≠ b := by rintro rfl; rw [yyh] at hb'; simp at hb'
   have hbr : b ≠ r := Ne.symm hrb
   have leaf : ∀ (E : Env) p', p ≤ p' → p' ≤ p + tcost (d + 1) → E 4 = .ptr b 0 →
    XFunc.post [XRes.cell 4 (some 1)] (RdR r bs p (tcost (d + 1)) fun q => ∃ t : Ty, q = .agg t.enc ∧ t.le (d + 1)) .ret E ((one r (RdO bs p')).set b (.cells [AC.lit (.slice none 0 0)])) := by
    intro E p' h1 h2 hE
    exact yym hE (Heap.zzb _ _ _) rfl le_ty0 (sub_set (get_one_ne _ hbr)) ⟨p', h1, h2, rfl, .mk [], rfl, Ty.le_nil _⟩
   by_cases h2 : dp < 2
   ·simp only [go_sem, rE, h2, Nat.le_refl, rA]
    exact leaf _ p (Int.le_refl _) (by simp only [tcost]; omega) (rfl)
   ·simp only [go_sem, rE, h2]
    refine yyg (c_pick' L r bs p 3 hb hp (by omega)) (rfl) (by simp only [go_sem, hrb, yyh]) (by simp) trivial ?_
    rintro q p1 hp1 hp1' ⟨k, rfl, hk0, hk3⟩
    simp only [go_sem, rE]
    rw [Heap.set_comm hbr, set_one]
    refine zzn (fun hgt => ?_) (fun hle => ?_)
    ·simp only [go_sem, rE, Nat.le_refl, rA]
     exact leaf _ p1 hp1 (by simp only [tcost]; omega) (rfl)
    ·have w1 := yya (n := dp - 1) (by omega) (by omega)
     simp only [go_sem, rE, w1]
     refine yyg (ih (dp - 1) (by omega) (by omega) p1 (by omega) (by omega)) (rfl) (by simp only [go_sem, hrb, yyh]) (by simp) trivial ?_
     rintro q p2 hp2 hp2' ⟨t1, rfl, ht1⟩
     rw [Heap.set_comm hbr, set_one]
     simp only [go_sem, rE, w1]
     refine yyg (ih (dp - 1) (by omega) (by omega) p2 (by omega) (by omega)) (rfl) (by simp only [go_sem, hrb, yyh]) (by simp) trivial ?_
     rintro q p3 hp3 hp3' ⟨t2, rfl, ht2⟩
     rw [Heap.set_comm hbr, set_one]
     obtain ⟨k1⟩ := t1
     obtain ⟨k2⟩ := t2
     simp only [go_sem, rE, Ty.enc, List.replicate, List.flatten_cons, List.flatten_nil, rA, rL, Nat.le_refl, Nat.reduceMul]
     intro b2 hb2
     have h2b : b ≠ b2 := by rintro rfl; simp at hb2
     have h2r : r ≠ b2 := by rintro rfl; rw [Heap.zza _ _ hrb, yyh] at hb2; simp at hb2
     simp only [go_sem, h2b, chunk, Nat.le_refl, rA]
     refine yym (off := 0) (rfl) (Heap.zzb _ _ _) rfl (le_ty (some (b2, 2, 2)) [.mk k1, .mk k2])
      (one_sub (o := RdO bs p3) (by rw [Heap.zza _ _ hrb, Heap.zza _ _ h2r, Heap.zza _ _ hrb, yyh]))
      ⟨p3, by omega, by simp only [tcost]; omega, rfl, _, rfl, ?_⟩
     simp only [Ty.le, List.length_cons, List.length_nil, List.mem_cons, List.not_mem_nil, or_false, forall_eq_or_imp, forall_eq]
     exact ⟨by omega, ht1, ht2⟩
end
end Go.Xl
