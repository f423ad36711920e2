/- FnLendParam: a part of the proof. -/
import Derived.ControlIn
import Derived.RangeFuncSeq
import Derived.RangeFuncIn
import Derived.RangeFuncLeaves
import Derived.RangeFuncRecord
import Derived.Test.YtnmpniphpccgjaaGreatDoorProg
import Derived.WalkKit
import Derived.LaidEql
import Derived.Stop.Asserts
import Derived.RowKitTokens
import Derived.Below
import Derived.Test.YtnmpniphpccgjaaGreatDoorRows
import Derived.LaidLaws
import Derived.LaidHandle
import Derived.LaidMore
import Derived.Stop.LaidErr
import Derived.Test.YtnmpniphpccgjaaGreatDoorX4
set_option linter.unusedVariables false
set_option linter.unusedSimpArgs false
namespace Go.Xl
open _root_.Array renaming getD_eq_getD_getElem? -> it, getElem?_append_left -> lh, getElem?_eq_getElem -> dD, getElem?_eq_some_iff -> dv, replicate -> fU, toList_inj -> fA
open _root_.Bool renaming and_eq_true -> a6, eq_iff_iff -> bg, false_eq_true -> av, false_or -> dj, not_eq_true' -> dH, true_and -> bY, true_or -> ew
open _root_.Int renaming eq_ofNat_of_zero_le -> cy, le_refl -> cZ, natCast_zero -> cW, reduceBEq -> aG, reduceEq -> bw, reduceLE -> eo, toNat_natCast -> dt
open _root_.List renaming all_eq_true -> aW, any_append -> ft, any_eq_true -> fz, append_nil -> cD, cons_append -> cJ, drop_eq_getElem_cons -> cj, drop_length -> lm, drop_zero -> iM, eq_nil_of_length_eq_zero -> bu, ext_getElem? -> gO, flatten_cons -> aq, flatten_nil -> ay, getElem?_append_left -> aO, getElem?_cons_succ -> aB, getElem?_cons_zero -> a9, getElem?_drop -> bV, getElem?_eq_getElem -> aw, getElem?_eq_none -> fY, getElem?_take -> fx, getElem_map -> iC, getElem_mem -> ax, length_append -> bB, length_cons -> aV, length_drop -> fy, length_filter_le -> fX, length_map -> am, length_nil -> bP, length_take -> bD, map_append -> bj, map_congr_left -> eK, map_cons -> aQ, map_nil -> bA, map_take -> iy, mem_append -> aE, mem_cons -> bf, mem_cons_of_mem -> ee, mem_cons_self -> eV, mem_filter -> bW, mem_iff_getElem -> be, mem_map -> aU, mem_map_of_mem -> cu, mem_of_mem_drop -> gH, mem_of_mem_take -> bp, mem_or_eq_of_mem_set -> l6, mem_range -> eF, mem_singleton -> cn, nil_append -> cY, nodup_append -> eM, not_mem_nil -> ce, range -> df, replicate -> az, take_length -> aR, take_of_length_le -> cO, take_succ_eq_append_getElem -> aA
open _root_.Nat renaming reduceEqDiff -> rE, reduceAdd -> rA, reduceLeDiff -> rL, le_refl -> aC, le_trans -> bT, mul_le_mul_right -> bG, strongRecOn -> lU, zero_add -> cz, zero_le -> fT
open _root_.Option renaming map_eq_some_iff -> a7, map_some -> bO, ne_none_iff_exists' -> aH
open Go.Proofs
structure BAt(H:aj)(r:Nat)(bs:List UInt8)(p:Int)(b3 b4 b6:Nat)(c3 c6:List AC):Prop where
 gr:H.get r=some (RdO bs p)
 g3:H.get b3=some (.cells c3)
 g4:H.get b4=some (.cells [NIL])
 g6:H.get b6=some (.cells c6)
 hr3:r≠b3
 hr4:r≠b4
 hr6:r≠b6
 d34:b3≠b4
 d36:b3≠b6
 d46:b4≠b6
section
variable {H H':aj}{r:Nat}{bs:List UInt8}{p:Int}{b3 b4 b6:Nat}{c3 c6:List AC}
theorem BAt.draw(h:BAt H r bs p b3 b4 b6 c3 c6)(p':Int):BAt (H.set r (RdO bs p')) r bs p' b3 b4 b6 c3 c6:=
 ⟨ai _ _ _,(ae _ _ (Ne.symm h.hr3)).trans h.g3,(ae _ _ (Ne.symm h.hr4)).trans h.g4,(ae _ _ (Ne.symm h.hr6)).trans h.g6,h.hr3,h.hr4,h.hr6,h.d34,h.d36,h.d46⟩
theorem BAt.put(h:BAt H r bs p b3 b4 b6 c3 c6)(c:List AC):BAt (H.set b6 (.cells c)) r bs p b3 b4 b6 c3 c:=
 ⟨(ae _ _ h.hr6).trans h.gr,(ae _ _ h.d36).trans h.g3,(ae _ _ h.d46).trans h.g4,ai _ _ _,h.hr3,h.hr4,h.hr6,h.d34,h.d36,h.d46⟩
theorem BAt.put3(h:BAt H r bs p b3 b4 b6 c3 c6)(c:List AC):BAt (H.set b3 (.cells c)) r bs p b3 b4 b6 c c6:=
 ⟨(ae _ _ h.hr3).trans h.gr,ai _ _ _,(ae _ _ (Ne.symm h.d34)).trans h.g4,(ae _ _ (Ne.symm h.d36)).trans h.g6,h.hr3,h.hr4,h.hr6,h.d34,h.d36,h.d46⟩
theorem BAt.keep(h:BAt H r bs p b3 b4 b6 c3 c6)(hk:∀d cs,H.get d=some (.cells cs)->H'.get d=some (.cells cs)):BAt H' r bs p b3 b4 b6 c3 c6:=
 ⟨hk _ _ h.gr,hk _ _ h.g3,hk _ _ h.g4,hk _ _ h.g6,h.hr3,h.hr4,h.hr6,h.d34,h.d36,h.d46⟩
theorem BAt.new(h:BAt H r bs p b3 b4 b6 c3 c6){b:Nat}(hb:H.get b=none)(o:cM):BAt (H.set b o) r bs p b3 b4 b6 c3 c6:=
 h.keep fun d cs hd=>by rw[ae _ _ (al hd hb)];exact hd
end
theorem jv{H H':aj}{b n m:Nat}(g:H.get b=some (.tail n m))(keep:∀c,H.get c≠none->c≠b->H'.get c=H.get c):∀d cs,H.get d=some (.cells cs)->H'.get d=some (.cells cs):=
 fun d cs hd=>by rw[keep d (by rw[hd];simp) (by rintro rfl;rw[g]at hd;simp at hd)];exact hd
theorem ku(l:List St):∀e∈l.map St.enc,e.length=15:=fun e he=>by obtain⟨s,-,rfl⟩:=aU.1 he;exact B8 s
theorem st_one(s:St):∀x∈s.enc,x.one=true:=by
 rw[St.enc_eq];simp[AC.one,au]
theorem zC:∀p:List St,LeR (p.map St.enc) (p.map St.enc)
 |[]=>trivial
 |f::p=>⟨.refl (st_one f),zC p⟩
theorem pa_len(s:Pa):s.enc.length=3:=by
 rw[Pa.enc,Ty.enc_eq];rfl
theorem row_at{sz:Nat}{rows:List (List AC)}{cs:List AC}(hs:∀e∈rows,e.length=sz)(h:cs.take (rows.length*sz)=rows.flatten){k:Nat}(hk:k<rows.length):(cs.drop (k*sz)).take sz=rows[k]:=by
 have hl:=hs _ (ax hk)
 apply gO
 intro j
 rw[fx]
 split
 ·rename_i hj
  rw[bV]
  exact fj.cell hs h hk hj
 ·rename_i hj
  rw[fY (by omega)]
theorem lJ(f':Fu){X T Bd s1 s2 s3 s4 s5 g1 g2:AC}(hX:Le X (.sl 3 none (f'.params.map Pa.enc)))(hT:Le T (.sl 1 none (Ty.encs f'.type.kids)))(hB:Le Bd (.sl 15 none (f'.body.map St.enc)))(hs:LeC [s1,s2,s3,s4,s5] f'.says.enc)(hg:LeC [g1,g2] f'.gives.enc):
 LeC [S f'.name,X,B f'.lent,T,Bd,s1,s2,s3,s4,s5,g1,g2] f'.enc:=Cd f' hX hT (by rw[St.encs_map];exact hB) hs hg
section
variable {P:Program}{F:Ids}
theorem Bb(L:Lib P F)(r:Nat)(bs:List UInt8)(hbs:bs.length<=2000)(p2:Int)(hp:0<=p2)(hp2:p2+1<=2^50)(f:Fu){m:Nat}(hm:m<=9)(hlo:f.lo m)(hbl:f.body.length<=6+m)(b3 b4 b6:Nat)(c3:List AC)(H3:aj)
(hB:BAt H3 r bs p2 b3 b4 b6 c3 [S f.name,.sl 3 none (f.params.map Pa.enc),B f.lent,.sl 1 none (Ty.encs f.type.kids),.sl 15 none (f.body.map St.enc),I f.says.kind,I f.says.num,S f.says.place.name,au f.says.place.path,.sl 5 none (Ex.encs f.says.kids),S f.gives.name,au f.gives.path])
(K:cS->Env->aj->Prop)(E:Env)(e0:E 0=.ptr r 0)(e6:E 6=.ptr b6 0)
(jn8:∀(E':Env) (H:aj) (p':Int) (c6:List AC) (f':Fu),f'.lo m->BAt H r bs p' b3 b4 b6 c3 c6->FuAt H (fun d=>d=r\/d=b3\/d=b4\/d=b6) c6 f'->(∀i,(i=0\/i=3\/i=4\/i=5\/i=6)->E' i=E i)->p2<=p'->p'<=p2+1->K .normal E' H):
 aY.wp P (kd30) K E H3:=by
 rw[kd30,fd30]
 have g6:=hB.g6
 have lesays:LeC [I f.says.kind,I f.says.num,S f.says.place.name,au f.says.place.path,.sl 5 none (Ex.encs f.says.kids)] f.says.enc:=by rw[Ex.enc_eq];exact⟨⟨.refl _,rfl⟩,⟨.refl _,rfl⟩,⟨.refl _,rfl⟩,⟨.refl _,rfl⟩,⟨.refl _,rfl⟩,trivial⟩
 have legives:LeC [S f.gives.name,au f.gives.path] f.gives.enc:=⟨⟨.refl _,rfl⟩,⟨.refl _,rfl⟩,trivial⟩
 simp only[go_sem,rE,rA,aG,az,aq,ay,rL,bh,e0,e6,g6,am]
 by_cases hb:(1:Int)<f.body.length
 ·have w0:=aL (n:=(f.body.length:Int) - 1) (by omega) (by omega)
  simp only[hb,decide_true,go_sem,rE,rA,aG,az,aq,ay,rL,bh,e0,e6,g6,am,w0]
  refine aZ (cv L r bs p2 (f.body.length - 1) hbs (by omega) (by omega)) (rfl) hB.gr (by simp) trivial ?_
  rintro q p3 hp3 hp3' ⟨n0,rfl,hn0,hn1⟩
  have hB1:=hB.draw p3
  generalize H3.set r (RdO bs p3)=H4 at*
  obtain⟨n,rfl⟩:∃n:Nat,n0=(n:Int):=⟨n0.toNat,by omega⟩
  have hnl:n+1<f.body.length:=by omega
  simp only[go_sem,rE,rA,aG,az,aq,ay,rL,bh,e0,e6]
  intro b58 hb58
  have hB2:=hB1.new hb58 (.tail 0 0)
  have g58:(H4.set b58 (.tail 0 0)).get b58=_:=ai _ _ _
  have g6:=hB2.g6
  generalize H4.set b58 (.tail 0 0)=H5 at*
  simp only[go_sem,rE,rA,aG,az,aq,ay,rL,bh,e0,e6,g6]
  refine rH (b:=b58) (ys:=f.body.map St.enc) (rfl) g58 (rfl) (ku _) (by simp;omega) trivial ?_
  intro x' H6 fp6 hR _ keep new
  rcases hR with⟨h0,-⟩|⟨bb,bc,cs,rfl,gb,hcl,hcc,hct⟩
  ·have:f.body=[]:=by simpa using h0
   rw[this]at hnl;simp at hnl
  have hB3:=hB2.keep (jv g58 keep)
  have hex:∀d o,H5.get d=some (.cells o)->d≠bb:=by
   intro d o hd e
   subst e
   rcases new _ ⟨_,_,rfl⟩with h|h
   ·subst h;rw[g58]at hd;simp at hd
   ·rw[hd]at h;simp at h
  have hb6:=hex _ _ hB2.g6
  have hb3:=hex _ _ hB2.g3
  have hb4:=hex _ _ hB2.g4
  have hbr:=hex _ _ hB2.gr
  have g6:=hB3.g6
  simp only[am]at hcc hct
  have hlim:f.body.length<=LIM:=by simp only[LIM];omega
  have hni:(n:Int)<f.body.length:=by omega
  have hni1:(n:Int)+1<f.body.length:=by omega
  have w1:=aL (n:=(n:Int)+1) (by omega) (by omega)
  have hn1':(0:Int)<=n+1:=by omega
  have hnt:((n:Int)+1).toNat=n+1:=by omega
  have hmul:(n+2)*15<=bc*15:=bG _ (by omega)
  have hof0:n*15+15<=cs.length:=by omega
  have hof1:(n+1)*15+15<=cs.length:=by omega
  have row:∀j (hj:j<f.body.length),(cs.drop (j*15)).take 15=f.body[j].enc:=fun j hj=>by
   have:=row_at (ku f.body) (by simpa using hct) (k:=j) (by simpa using hj)
   simpa using this
  have r0:=row n (by omega)
  have r1:=row (n+1) hnl
  obtain⟨c0,hc0,C0'⟩:=stC f.body[n]
  obtain⟨c1,hc1,C1'⟩:=stC f.body[n+1]
  rw[hc0]at r0
  rw[hc1]at r1
  simp only[go_sem,rE,rA,aG,az,aq,ay,rL,bh,e0,e6,g6,am,hb6,Ne.symm hb6,gb,hlim,hni,hof0,r0,C0'.len,C0'.all]
  have hB4:=hB3.put [S f.name,.sl 3 none (f.params.map Pa.enc),B f.lent,.sl 1 none (Ty.encs f.type.kids),.lit (.slice (some ⟨bb,0,none⟩) f.body.length bc),I f.says.kind,I f.says.num,S f.says.place.name,au f.says.place.path,.sl 5 none (Ex.encs f.says.kids),S f.gives.name,au f.gives.path]
  have gb:(H6.set b6 (.cells [S f.name,.sl 3 none (f.params.map Pa.enc),B f.lent,.sl 1 none (Ty.encs f.type.kids),.lit (.slice (some ⟨bb,0,none⟩) f.body.length bc),I f.says.kind,I f.says.num,S f.says.place.name,au f.says.place.path,.sl 5 none (Ex.encs f.says.kids),S f.gives.name,au f.gives.path])).get bb=_:=(ae _ _ (Ne.symm hb6)).trans gb
  generalize(H6.set b6 (.cells [S f.name,.sl 3 none (f.params.map Pa.enc),B f.lent,.sl 1 none (Ty.encs f.type.kids),.lit (.slice (some ⟨bb,0,none⟩) f.body.length bc),I f.says.kind,I f.says.num,S f.says.place.name,au f.says.place.path,.sl 5 none (Ex.encs f.says.kids),S f.gives.name,au f.gives.path]))=H7 at*
  intro b9 hb9
  have hB5:=hB4.new hb9 (.cells c0)
  have db9:=al gb hb9
  have gb:(H7.set b9 (.cells c0)).get bb=_:=(ae _ _ db9).trans gb
  have g9:(H7.set b9 (.cells c0)).get b9=_:=ai _ _ _
  have g6:=hB5.g6
  generalize H7.set b9 (.cells c0)=H8 at*
  simp only[go_sem,rE,rA,aG,az,aq,ay,rL,bh,e0,e6,g6,gb,w1,hn1',hnt,hlim,hni,hni1,hof0,hof1,r1,C1'.len,C1'.all]
  have hs0:cs.take (n*15)++c1++cs.drop (n*15+15)=bI cs (n*15) c1:=by rw[bI,C1'.len]
  rw[hs0]
  have hl1:(bI cs (n*15) c1).length=cs.length:=fH _ _ _ (by rw[C1'.len];exact hof0)
  have hrow1:=mZ (ku f.body) (us:=c1) C1'.len (k:=n) (by simp;omega) (by simpa using hct)
  generalize bI cs (n*15) c1=cs1 at*
  have hB6:BAt (H8.set bb (.cells (cs1))) r bs p3 b3 b4 b6 _ _:=⟨(ae _ _ hbr).trans hB5.gr,(ae _ _ hb3).trans hB5.g3,(ae _ _ hb4).trans hB5.g4,(ae _ _ hb6).trans hB5.g6,hB.hr3,hB.hr4,hB.hr6,hB.d34,hB.d36,hB.d46⟩
  have gb1:(H8.set bb (.cells (cs1))).get bb=_:=ai _ _ _
  have g9:(H8.set bb (.cells (cs1))).get b9=_:=(ae _ _ (Ne.symm db9)).trans g9
  have g6:=hB6.g6
  generalize H8.set bb (.cells (cs1))=H9 at*
  rw[<-hl1]at hof1
  simp only[go_sem,rE,rA,aG,az,aq,ay,rL,bh,e0,e6,g6,gb1,g9,w1,hn1',hnt,hlim,hni,hni1,hof1,C0'.len,C0'.all]
  have hs1:cs1.take ((n+1)*15)++c0++cs1.drop ((n+1)*15+15)=bI cs1 ((n+1)*15) c0:=by rw[bI,C0'.len]
  rw[hs1]
  have hsz1:∀e∈(f.body.map St.enc).set n c1,e.length=15:=fun e he=>by
   rcases l6 he with h|h
   ·exact ku _ e h
   ·rw[h];exact C1'.len
  have hrow2:=mZ hsz1 (us:=c0) C0'.len (k:=n+1) (by simp;omega) hrow1
  have hmap:((f.body.map St.enc).set n c1).set (n+1) c0=((f.body.set n f.body[n+1]).set (n+1) f.body[n]).map St.enc:=by rw[List.map_set,List.map_set,hc0,hc1]
  rw[hmap]at hrow2
  have hmem:∀s∈(f.body.set n f.body[n+1]).set (n+1) f.body[n],s∈f.body:=fun s hs=>by
   rcases l6 hs with h|h
   ·rcases l6 h with h|h
    ·exact h
    ·rw[h];exact ax _
   ·rw[h];exact ax _
  have hB7:BAt (H9.set bb (.cells (bI cs1 ((n+1)*15) c0))) r bs p3 b3 b4 b6 _ _:=⟨(ae _ _ hbr).trans hB6.gr,(ae _ _ hb3).trans hB6.g3,(ae _ _ hb4).trans hB6.g4,(ae _ _ hb6).trans hB6.g6,hB.hr3,hB.hr4,hB.hr6,hB.d34,hB.d36,hB.d46⟩
  refine jn8 _ _ p3 _ {f with body:=(f.body.set n f.body[n+1]).set (n+1) f.body[n]} ⟨hlo.pars,hlo.ptys,hlo.ty,by simp;omega,fun s hs=>hlo.bcnt s (hmem s hs),fun s hs=>hlo.bsm s (hmem s hs),hlo.says⟩ hB7 ⟨rfl,.inr ⟨bb,bc,_,((f.body.set n f.body[n+1]).set (n+1) f.body[n]).map St.enc,[S f.name,.sl 3 none (f.params.map Pa.enc),B f.lent,.sl 1 none (Ty.encs f.type.kids),.sl 15 none (((f.body.set n f.body[n+1]).set (n+1) f.body[n]).map St.enc),I f.says.kind,I f.says.num,S f.says.place.name,au f.says.place.path,.sl 5 none (Ex.encs f.says.kids),S f.gives.name,au f.gives.path],
   ai _ _ _,hrow2,ku _,by simp;omega,by simp;exact hlim,⟨.inl rfl,.inl rfl,.inl rfl,.inl rfl,.inr ⟨by simp,rfl⟩,.inl rfl,.inl rfl,.inl rfl,.inl rfl,.inl rfl,.inl rfl,.inl rfl,trivial⟩,
   lJ {f with body:=(f.body.set n f.body[n+1]).set (n+1) f.body[n]} (.refl _) (.refl _) (.refl _) lesays legives,?_⟩⟩ (fun i hi=>by rcases hi with rfl|rfl|rfl|rfl|rfl<;>simp only[go_sem,rE]) (by omega) (by omega)
  rintro(h|h|h|h)
  ·exact hbr h.symm
  ·exact hb3 h.symm
  ·exact hb4 h.symm
  ·exact hb6 h.symm
 ·simp only[hb,decide_false,go_sem,rE,rA,aG,az,aq,ay,rL,bh,e0,e6]
  exact jn8 _ _ p2 _ f hlo hB ⟨rfl,.inl (lJ f (.refl _) (.refl _) (.refl _) lesays legives)⟩ (fun i hi=>by rcases hi with rfl|rfl|rfl|rfl|rfl<;>simp only[go_sem,rE]) (by omega) (by omega)
theorem AR(L:Lib P F)(r:Nat)(bs:List UInt8)(hbs:bs.length<=2000)(pr:Pg){m:Nat}(hm:m<=8)(hpr:∀f∈pr,f.lo m)(hl1:1<=pr.length)(hl2:pr.length<=4+m)(p:Int)(hp:0<=p)(hp2:p+200<=2^50):
 ACalls P 67 [.ptr r 0,.agg (Pg.enc pr)] (one r (RdO bs p)) (ul (m+1) r bs p 200):=by
 refine(L.a Tryz.func67 y67) (by simp[y67,f67]) ?_
 simp only[y67,f67,go_sem,rE,rA,Pg.enc]
 intro b3 hb3 b4 hb4
 have hr3:r≠b3:=by rintro rfl;rw[bH]at hb3;simp at hb3
 have d34:b3≠b4:=oN hb4
 have hr4:r≠b4:=by rintro rfl;rw[ae _ _ hr3,bH]at hb4;simp at hb4
 have gr:(((one r (RdO bs p)).set b3 (.cells [.sl 12 none (pr.map Fu.enc)])).set b4 (.cells [NIL])).get r=some (RdO bs p):=by rw[ae _ _ hr4,ae _ _ hr3,bH]
 have g3:(((one r (RdO bs p)).set b3 (.cells [.sl 12 none (pr.map Fu.enc)])).set b4 (.cells [NIL])).get b3=some (.cells [.sl 12 none (pr.map Fu.enc)]):=by rw[ae _ _ d34,ai]
 have g4:(((one r (RdO bs p)).set b3 (.cells [.sl 12 none (pr.map Fu.enc)])).set b4 (.cells [NIL])).get b4=some (.cells [NIL]):=ai _ _ _
 generalize(((one r (RdO bs p)).set b3 (.cells [.sl 12 none (pr.map Fu.enc)])).set b4 (.cells [NIL]))=H0 at*
 clear hb3 hb4
 simp only[go_sem,rE,rA,g3,am]
 refine aZ (cv L r bs p pr.length hbs hp (by omega)) (rfl) gr (by simp) trivial ?_
 rintro q p1 hp1 hp1' ⟨k,rfl,hk0,hk1⟩
 have g3:(H0.set r (RdO bs p1)).get b3=_:=(ae _ _ (Ne.symm hr3)).trans g3
 have g4:(H0.set r (RdO bs p1)).get b4=_:=(ae _ _ (Ne.symm hr4)).trans g4
 have gr:(H0.set r (RdO bs p1)).get r=_:=ai _ _ _
 generalize H0.set r (RdO bs p1)=H1 at*
 have hkl:k.toNat<pr.length:=by omega
 obtain⟨f,hf⟩:∃f,f=pr[k.toNat]:=⟨_,rfl⟩
 have hgood:f.lo m:=hf▸hpr _ (ax hkl)
 have hget:(pr.map Fu.enc)[k.toNat]?=some [S f.name,.sl 3 none (f.params.map Pa.enc),B f.lent,.sl 1 none (Ty.encs f.type.kids),.sl 15 none (f.body.map St.enc),I f.says.kind,I f.says.num,S f.says.place.name,au f.says.place.path,.sl 5 none (Ex.encs f.says.kids),S f.gives.name,au f.gives.path]:=by
  rw[<-jw,hf];simp[hkl]
 simp only[go_sem,rE,rA,g3,hk0,hget,rL]
 intro b6 hb6
 have hr6:=al gr hb6
 have d36:=al g3 hb6
 have d46:=al g4 hb6
 let C:ByteArray->AC->Bool->AC->AC->AC->AC->AC->AC->AC->AC->AC->List AC:=fun nm X ln T Bd s1 s2 s3 s4 s5 g1 g2=>[S nm,X,B ln,T,Bd,s1,s2,s3,s4,s5,g1,g2]
 let C0:List AC:=[S f.name,.sl 3 none (f.params.map Pa.enc),B f.lent,.sl 1 none (Ty.encs f.type.kids),.sl 15 none (f.body.map St.enc),I f.says.kind,I f.says.num,S f.says.place.name,au f.says.place.path,.sl 5 none (Ex.encs f.says.kids),S f.gives.name,au f.gives.path]
 have gr:(H1.set b6 (.cells C0)).get r=_:=(ae _ _ hr6).trans gr
 have g3:(H1.set b6 (.cells C0)).get b3=_:=(ae _ _ d36).trans g3
 have g4:(H1.set b6 (.cells C0)).get b4=_:=(ae _ _ d46).trans g4
 have g6:(H1.set b6 (.cells C0)).get b6=some (.cells C0):=ai _ _ _
 simp only[C0]at gr g3 g4 g6
 generalize(H1.set b6 (.cells [S f.name,.sl 3 none (f.params.map Pa.enc),B f.lent,.sl 1 none (Ty.encs f.type.kids),.sl 15 none (f.body.map St.enc),I f.says.kind,I f.says.num,S f.says.place.name,au f.says.place.path,.sl 5 none (Ex.encs f.says.kids),S f.gives.name,au f.gives.path]))=H2 at*
 clear hb6
 refine aZ (cv L r bs p1 12 hbs (by omega) (by omega)) (rfl) gr (by simp) trivial ?_
 rintro q p2 hp2' hp2'' ⟨k2,rfl,hk20,hk21⟩
 have hB:BAt (H2.set r (RdO bs p2)) r bs p2 b3 b4 b6 _ _:=(BAt.mk gr g3 g4 g6 hr3 hr4 hr6 d34 d36 d46).draw p2
 generalize H2.set r (RdO bs p2)=H3 at*
 clear gr g3 g4 g6
 have hlo:=hgood.up
 have hbl:=hgood.blen
 have hplo:∀g∈pr,g.lo (m+1):=fun g hg=>(hpr g hg).up
 have jn:∀(E:Env) (H:aj) (p':Int) (c6:List AC) (f':Fu),f'.lo (m+1)->BAt H r bs p' b3 b4 b6 [.sl 12 none (pr.map Fu.enc)] c6->LeC c6 f'.enc->
  E 3=.ptr b3 0->E 4=.ptr b4 0->E 5=I k->E 6=.ptr b6 0->p<=p'->p'<=p+200->aY.wp P (.seq (rg [ef 0 185 (.buildSlice 12 0 [.string (bl []),.slice none 0 0,.bool false,.slice none 0 0,.slice none 0 0,.int .i64 0,.int .i64 0,.string (bl []),.slice none 0 0,.slice none 0 0,.string (bl []),.slice none 0 0] []),fa 1 186 0 3,ld 2 187 none 186,ef 3 188 (.appendM 12 216 185 187),fa 4 189 0 3,en 5 (.store 1 189 188)]) (.seq (rg [fa 0 190 0 3,ld 1 191 none 190,mv 2 192 5,ld 3 193 (some 12) 6,ia 4 194 12 191 192,en 5 (.store 12 194 193)]) (.seq (rg [ld 0 195 (some 1) 3,en 1 (.store 1 4 195)]) .ret))) (bk.post [.cell 4 (some 1)] (ul (m+1) r bs p 200)) E H:=by
  intro E H p' c6 f' hf' h hle e3 e4 e5 e6 h1 h2
  exact sL L (m:=m+1) (by omega) r bs p 200 E H p' pr k.toNat hkl (by omega) hplo _ c6 f' hf' b3 b4 b6 h.gr h.g3 h.g4 h.g6 (fun H'=>rfl) ⟨by rw[hle.length,oT],.inl hle⟩ h.hr3 h.hr4 h.d34 h.d36 h.d46 h.hr6 e3 e4 (by rw[e5];congr 2;omega) e6 h1 h2
 have jn8:∀(E:Env) (H:aj) (p':Int) (c6:List AC) (f':Fu),f'.lo (m+1)->BAt H r bs p' b3 b4 b6 [.sl 12 none (pr.map Fu.enc)] c6->FuAt H (fun d=>d=r\/d=b3\/d=b4\/d=b6) c6 f'->
  E 3=.ptr b3 0->E 4=.ptr b4 0->E 5=I k->E 6=.ptr b6 0->p<=p'->p'<=p+200->aY.wp P (.seq (rg [ef 0 185 (.buildSlice 12 0 [.string (bl []),.slice none 0 0,.bool false,.slice none 0 0,.slice none 0 0,.int .i64 0,.int .i64 0,.string (bl []),.slice none 0 0,.slice none 0 0,.string (bl []),.slice none 0 0] []),fa 1 186 0 3,ld 2 187 none 186,ef 3 188 (.appendM 12 216 185 187),fa 4 189 0 3,en 5 (.store 1 189 188)]) (.seq (rg [fa 0 190 0 3,ld 1 191 none 190,mv 2 192 5,ld 3 193 (some 12) 6,ia 4 194 12 191 192,en 5 (.store 12 194 193)]) (.seq (rg [ld 0 195 (some 1) 3,en 1 (.store 1 4 195)]) .ret))) (bk.post [.cell 4 (some 1)] (ul (m+1) r bs p 200)) E H:=by
  intro E H p' c6 f' hf' h hle e3 e4 e5 e6 h1 h2
  exact sL L (m:=m+1) (by omega) r bs p 200 E H p' pr k.toNat hkl (by omega) hplo _ c6 f' hf' b3 b4 b6 h.gr h.g3 h.g4 h.g6 (fun H'=>rfl) hle h.hr3 h.hr4 h.d34 h.d36 h.d46 h.hr6 e3 e4 (by rw[e5];congr 2;omega) e6 h1 h2
 have jn11:∀(E:Env) (H:aj) (tok:Option (Nat×Nat×Nat)) (pr':Pg),k.toNat<pr'.length->pr'.length<=4+(m+1)->(∀g∈pr',g.lo (m+1))->BAt H r bs p2 b3 b4 b6 [.sl 12 tok (pr'.map Fu.enc)] f.enc->
  E 3=.ptr b3 0->E 4=.ptr b4 0->E 5=I k->E 6=.ptr b6 0->aY.wp P (kd29) (bk.post [.cell 4 (some 1)] (ul (m+1) r bs p 200)) E H:=by
  intro E H tok pr' h1 h2 h3 h e3 e4 e5 e6
  rw[kd29,fd29]
  exact sL L (m:=m+1) (by omega) r bs p 200 E H p2 pr' k.toNat h1 h2 h3 _ f.enc f hlo b3 b4 b6 h.gr h.g3 h.g4 h.g6 (fun H'=>rfl) ⟨oT f,.inl (.refl (Co f))⟩ h.hr3 h.hr4 h.d34 h.d36 h.d46 h.hr6 e3 e4 (by rw[e5];congr 2;omega) e6 (by omega) (by omega)
 have lesays:LeC [I f.says.kind,I f.says.num,S f.says.place.name,au f.says.place.path,.sl 5 none (Ex.encs f.says.kids)] f.says.enc:=by rw[Ex.enc_eq];exact⟨⟨.refl _,rfl⟩,⟨.refl _,rfl⟩,⟨.refl _,rfl⟩,⟨.refl _,rfl⟩,⟨.refl _,rfl⟩,trivial⟩
 have legives:LeC [S f.gives.name,au f.gives.path] f.gives.enc:=⟨⟨.refl _,rfl⟩,⟨.refl _,rfl⟩,trivial⟩
 have g3:=hB.g3
 have g6:=hB.g6
 have sw:=fun K E e0 e6=>Bb (F:=F) L r bs hbs p2 (by omega) (by omega) f (m:=m+1) (by omega) hlo (by omega) b3 b4 b6 _ H3 hB K E e0 e6
 have hk:k2=0\/k2=1\/k2=2\/k2=3\/k2=4\/k2=5\/k2=6\/k2=7\/k2=8\/k2=9\/k2=10\/k2=11:=by omega
 rcases hk with rfl|rfl|rfl|rfl|rfl|rfl|rfl|rfl|rfl|rfl|rfl|rfl
 all_goals simp only[go_sem,rE,rA,aG,az,aq,ay,rL,bh,g3,g6,am]
 ·
  intro b0 hb0
  have hB1:=hB.new hb0 (.tail 5 5)
  generalize H3.set b0 (.tail 5 5)=H4 at*
  refine aZ (zas:=[.ptr r 0,.sl 1 (some (b0,5,5)) (js [bl [],bl [102,97],bl [70],bl [116,111,111,108,111,110,103],bl [122,122]])]) ((AL L r bs hbs [bl [],bl [102,97],bl [70],bl [116,111,111,108,111,110,103],bl [122,122]] (by simp) (by simp) p2 (by omega) (by omega)).args ⟨.refl _,.tok _ _ _,trivial⟩) (rfl) hB1.gr (by simp) trivial ?_
  rintro q p3 hp3 hp3' ⟨s,rfl⟩
  have hB2:=hB1.draw p3
  have g6:=hB2.g6
  generalize H4.set r (RdO bs p3)=H5 at*
  simp only[go_sem,rE,rA,aG,az,aq,ay,rL,bh,g6]
  exact jn _ _ p3 _ {f with name:=s} ⟨hlo.pars,hlo.ptys,hlo.ty,hlo.blen,hlo.bcnt,hlo.bsm,hlo.says⟩ (hB2.put _) (lJ {f with name:=s} (.refl _) (.refl _) (.refl _) lesays legives) (by first|rfl|simp only[go_sem,rE]) (by first|rfl|simp only[go_sem,rE]) (by first|rfl|simp only[go_sem,rE]) (by first|rfl|simp only[go_sem,rE]) (by omega) (by omega)
 ·
  refine aZ (ub L r bs hbs p2 (by omega) (by omega)) (rfl) hB.gr (by simp) trivial ?_
  rintro q p3 hp3 hp3' ⟨t,rfl,ht⟩
  have hB1:=hB.draw p3
  have g6:=hB1.g6
  generalize H3.set r (RdO bs p3)=H4 at*
  simp only[go_sem,rE,rA,aG,az,aq,ay,rL,bh,Ty.enc_eq t,g6]
  exact jn _ _ p3 _ {f with type:=t} ⟨hlo.pars,hlo.ptys,ht,hlo.blen,hlo.bcnt,hlo.bsm,hlo.says⟩ (hB1.put _) (lJ {f with type:=t} (.refl _) (.refl _) (.refl _) lesays legives) (by first|rfl|simp only[go_sem,rE]) (by first|rfl|simp only[go_sem,rE]) (by first|rfl|simp only[go_sem,rE]) (by first|rfl|simp only[go_sem,rE]) (by omega) (by omega)
 ·
  exact jn _ _ p2 _ {f with lent:=!f.lent} ⟨hlo.pars,hlo.ptys,hlo.ty,hlo.blen,hlo.bcnt,hlo.bsm,hlo.says⟩ (hB.put _) (lJ {f with lent:=!f.lent} (.refl _) (.refl _) (.refl _) lesays legives) (by first|rfl|simp only[go_sem,rE]) (by first|rfl|simp only[go_sem,rE]) (by first|rfl|simp only[go_sem,rE]) (by first|rfl|simp only[go_sem,rE]) (by omega) (by omega)
 ·
  by_cases hb:(0:Int)<f.body.length
  ·simp only[hb,decide_true,go_sem,rE,rA,aG,az,aq,ay,rL,bh,g6,am]
   refine aZ (cv L r bs p2 f.body.length hbs (by omega) (by omega)) (rfl) hB.gr (by simp) trivial ?_
   rintro q p3 hp3 hp3' ⟨n,rfl,hn0,hn1⟩
   have hB1:=hB.draw p3
   have g6:=hB1.g6
   generalize H3.set r (RdO bs p3)=H4 at*
   simp only[go_sem,rE,rA,aG,az,aq,ay,rL,bh,g6]
   intro b58 hb58
   have hB2:=hB1.new hb58 (.tail 0 0)
   have g58:(H4.set b58 (.tail 0 0)).get b58=_:=ai _ _ _
   have g6:=hB2.g6
   generalize H4.set b58 (.tail 0 0)=H5 at*
   have hnl:n.toNat<f.body.length:=by omega
   have w1:=aL (n:=n+1) (by omega) (by omega)
   have hn2:n<=f.body.length:=by omega
   have hnl':n.toNat<=f.body.length:=by omega
   have hn1':(0:Int)<=n+1:=by omega
   have hnt:(n+1).toNat<=f.body.length:=by omega
   simp only[go_sem,rE,rA,aG,az,aq,ay,rL,bh,g6,am,hn0,hn2,hnl',fT]
   refine eL (es:=[]) (ys:=(f.body.map St.enc).take n.toNat) (rfl) g58 (rfl) (fun e he=>ku _ e (bp he)) (by simp;omega) ?_
   intro bt nt mt H6 fp6 gt keep hbt hfb
   have hB3:=hB2.keep (jv g58 keep)
   have nf6:¬fp6 b6:=fun h=>by have:=hfb _ h;rw[g6]at this;simp at this
   have g6:=hB3.g6
   simp only[go_sem,rE,rA,aG,az,aq,ay,rL,bh,g6,am,w1,hn1',hnt,aC]
   refine⟨by simp;exact nf6,?_⟩
   refine eL (es:=(f.body.map St.enc).take n.toNat) (ys:=((f.body.map St.enc).take f.body.length).drop (n+1).toNat) (rfl) gt (rfl) (fun e he=>ku _ e (bp (gH he))) (by simp;omega) ?_
   intro bt2 nt2 mt2 H7 fp7 gt2 keep2 hbt2 hfb2
   have hB4:=hB3.keep (jv gt keep2)
   have g6:=hB4.g6
   simp only[go_sem,rE,rA,aG,az,aq,ay,rL,bh,g6]
   have hmem:∀s∈f.body.take n.toNat++f.body.drop (n+1).toNat,s∈f.body:=fun s hs=>by
    rcases aE.1 hs with h|h
    ·exact bp h
    ·exact gH h
   refine jn _ _ p3 _ {f with body:=f.body.take n.toNat++f.body.drop (n+1).toNat} ⟨hlo.pars,hlo.ptys,hlo.ty,by simp;omega,fun s hs=>hlo.bcnt s (hmem s hs),fun s hs=>hlo.bsm s (hmem s hs),hlo.says⟩ (hB4.put _) (lJ {f with body:=f.body.take n.toNat++f.body.drop (n+1).toNat} (.refl _) (.refl _) ?_ lesays legives) (by first|rfl|simp only[go_sem,rE]) (by first|rfl|simp only[go_sem,rE]) (by first|rfl|simp only[go_sem,rE]) (by first|rfl|simp only[go_sem,rE]) (by omega) (by omega)
   rw[bj,iy,List.map_drop]
   have:(f.body.map St.enc).take f.body.length=f.body.map St.enc:=by rw[cO (by simp)]
   rw[this]
   exact .tok _ _ _
  ·simp only[hb,decide_false,go_sem,rE,rA,aG,az,aq,ay,rL,bh]
   exact jn _ _ p2 _ f hlo hB (lJ f (.refl _) (.refl _) (.refl _) lesays legives) (by first|rfl|simp only[go_sem,rE]) (by first|rfl|simp only[go_sem,rE]) (by first|rfl|simp only[go_sem,rE]) (by first|rfl|simp only[go_sem,rE]) (by omega) (by omega)
 ·
  by_cases hb:(0:Int)<f.body.length
  ·simp only[hb,decide_true,go_sem,rE,rA,aG,az,aq,ay,rL,bh,g6,am]
   intro b58 hb58
   have hB2:=hB.new hb58 (.tail 0 0)
   have g58:(H3.set b58 (.tail 0 0)).get b58=_:=ai _ _ _
   have g6:=hB2.g6
   generalize H3.set b58 (.tail 0 0)=H5 at*
   simp only[go_sem,rE,rA,aG,az,aq,ay,rL,bh,g6]
   refine eL (es:=[]) (ys:=f.body.map St.enc) (rfl) g58 (rfl) (ku _) (by simp;omega) ?_
   intro bt nt mt H6 fp6 gt keep hbt hfb
   have hB3:=hB2.keep (jv g58 keep)
   have nf6:¬fp6 b6:=fun h=>by have:=hfb _ h;rw[g6]at this;simp at this
   have g6:=hB3.g6
   simp only[go_sem,rE,rA,aG,az,aq,ay,rL,bh,g6,am]
   refine⟨by simp;exact nf6,by simp;exact nf6,?_⟩
   refine aZ (cv L r bs p2 f.body.length hbs (by omega) (by omega)) (rfl) hB3.gr (fun _=>⟨by omega,I 0,0,rfl,by omega,.inr rfl⟩) (by simp[dU];exact Ne.symm hr6) ?_
   rintro q p3 hp3 hp3' ⟨m,rfl,hm0,hm1⟩
   have hB4:=hB3.draw p3
   have hnt:bt≠r:=by rintro rfl;rw[hB3.gr]at gt;simp[RdO]at gt
   have gt:(H6.set r (RdO bs p3)).get bt=_:=(ae _ _ hnt).trans gt
   generalize H6.set r (RdO bs p3)=H7 at*
   have hml:m.toNat<f.body.length:=by omega
   obtain⟨cs,hcs,Cs⟩:=stC f.body[m.toNat]
   have hgm:(f.body.map St.enc)[m.toNat]?=some cs:=by rw[<-hcs];simp[hml]
   simp only[go_sem,rE,rA,aG,az,aq,ay,rL,bh,hm0,hgm,Cs.len,Cs.all]
   refine eL (es:=f.body.map St.enc) (ys:=[cs]) (rfl) gt (rfl) (by simp[Cs.len]) (by simp;omega) ?_
   intro bt2 nt2 mt2 H8 fp8 gt2 keep2 hbt2 hfb2
   have hB5:=hB4.keep (jv gt keep2)
   have g6:=hB5.g6
   simp only[go_sem,rE,rA,aG,az,aq,ay,rL,bh,g6]
   have hmem:∀s∈f.body++[f.body[m.toNat]],s∈f.body:=fun s hs=>by
    rcases aE.1 hs with h|h
    ·exact h
    ·simp at h;rw[h];exact ax hml
   refine jn _ _ p3 _ {f with body:=f.body++[f.body[m.toNat]]} ⟨hlo.pars,hlo.ptys,hlo.ty,by simp;omega,fun s hs=>hlo.bcnt s (hmem s hs),fun s hs=>hlo.bsm s (hmem s hs),hlo.says⟩ (hB5.put _) (lJ {f with body:=f.body++[f.body[m.toNat]]} (.refl _) (.refl _) ?_ lesays legives) (by first|rfl|simp only[go_sem,rE]) (by first|rfl|simp only[go_sem,rE]) (by first|rfl|simp only[go_sem,rE]) (by first|rfl|simp only[go_sem,rE]) (by omega) (by omega)
   rw[bj,aQ,bA,hcs]
   exact .tok _ _ _
  ·simp only[hb,decide_false,go_sem,rE,rA,aG,az,aq,ay,rL,bh]
   exact jn _ _ p2 _ f hlo hB (lJ f (.refl _) (.refl _) (.refl _) lesays legives) (by first|rfl|simp only[go_sem,rE]) (by first|rfl|simp only[go_sem,rE]) (by first|rfl|simp only[go_sem,rE]) (by first|rfl|simp only[go_sem,rE]) (by omega) (by omega)
 ·
  intro b58 hb58
  have hB2:=hB.new hb58 (.tail 0 0)
  have g58:(H3.set b58 (.tail 0 0)).get b58=_:=ai _ _ _
  have g6:=hB2.g6
  generalize H3.set b58 (.tail 0 0)=H5 at*
  simp only[go_sem,rE,rA,aG,az,aq,ay,rL,bh,g6]
  refine eL (es:=[]) (ys:=f.params.map Pa.enc) (rfl) g58 (rfl) (by simp;intro s _;exact pa_len s) (by have:=hgood.pars;simp;omega) ?_
  intro bt nt mt H6 fp6 gt keep hbt hfb
  have hB3:=hB2.keep (jv g58 keep)
  simp only[go_sem,rE,rA,aG,az,aq,ay,rL,bh]
  intro b0 hb0
  have d0t:=al gt hb0
  have hB4:=hB3.new hb0 (.tail 3 3)
  have gt:(H6.set b0 (.tail 3 3)).get bt=_:=(ae _ _ d0t).trans gt
  generalize H6.set b0 (.tail 3 3)=H7 at*
  refine aZ (zas:=[.ptr r 0,.sl 1 (some (b0,3,3)) (js [bl [112],bl [122],bl [90]])]) ((AL L r bs hbs [bl [112],bl [122],bl [90]] (by simp) (by simp) p2 (by omega) (by omega)).args ⟨.refl _,.tok _ _ _,trivial⟩) (rfl) hB4.gr (by simp) trivial ?_
  rintro q p3 hp3 hp3' ⟨s,rfl⟩
  have hB5:=hB4.draw p3
  have hnt:bt≠r:=by rintro rfl;rw[hB4.gr]at gt;simp[RdO]at gt
  have gt:(H7.set r (RdO bs p3)).get bt=_:=(ae _ _ hnt).trans gt
  generalize H7.set r (RdO bs p3)=H8 at*
  simp only[go_sem,rE,rA,aG,az,aq,ay,rL,bh]
  refine aZ (ub L r bs hbs p3 (by omega) (by omega)) (rfl) hB5.gr (by simp) trivial ?_
  rintro q p4 hp4 hp4' ⟨t,rfl,ht⟩
  have hB6:=hB5.draw p4
  have gt:(H8.set r (RdO bs p4)).get bt=_:=(ae _ _ hnt).trans gt
  generalize H8.set r (RdO bs p4)=H9 at*
  simp only[go_sem,rE,rA,aG,az,aq,ay,rL,bh,Ty.enc_eq t]
  refine eL (es:=f.params.map Pa.enc) (ys:=[[S s,B false,.sl 1 none (Ty.encs t.kids)]]) (rfl) gt (rfl) (by simp) (by have:=hgood.pars;simp;omega) ?_
  intro bt2 nt2 mt2 H10 fp10 gt2 keep2 hbt2 hfb2
  have hB7:=hB6.keep (jv gt keep2)
  have g6:=hB7.g6
  simp only[go_sem,rE,rA,aG,az,aq,ay,rL,bh,g6]
  refine jn _ _ p4 _ {f with params:=f.params++[⟨s,false,t⟩]} ⟨by have:=hgood.pars;simp;omega,fun x hx=>?_,hlo.ty,hlo.blen,hlo.bcnt,hlo.bsm,hlo.says⟩ (hB7.put _) (lJ {f with params:=f.params++[⟨s,false,t⟩]} ?_ (.refl _) (.refl _) lesays legives) (by first|rfl|simp only[go_sem,rE]) (by first|rfl|simp only[go_sem,rE]) (by first|rfl|simp only[go_sem,rE]) (by first|rfl|simp only[go_sem,rE]) (by omega) (by omega)
  ·rcases aE.1 hx with h|h
   ·exact hlo.ptys x h
   ·simp at h;subst h;exact ht
  ·rw[bj,aQ,bA,Pa.enc,Ty.enc_eq t]
   exact .tok _ _ _
 ·
  intro b0 hb0
  have hB4:=hB.new hb0 (.tail 3 3)
  generalize H3.set b0 (.tail 3 3)=H7 at*
  refine aZ (zas:=[.ptr r 0,.sl 1 (some (b0,3,3)) (js [bl [112],bl [113],bl [122,122]])]) ((AL L r bs hbs [bl [112],bl [113],bl [122,122]] (by simp) (by simp) p2 (by omega) (by omega)).args ⟨.refl _,.tok _ _ _,trivial⟩) (rfl) hB4.gr (by simp) trivial ?_
  rintro q p3 hp3 hp3' ⟨s,rfl⟩
  have hB5:=hB4.draw p3
  generalize H7.set r (RdO bs p3)=H8 at*
  simp only[go_sem,rE,rA,aG,az,aq,ay,rL,bh]
  refine aZ (cv L r bs p3 3 hbs (by omega) (by omega)) (rfl) hB5.gr (by simp) trivial ?_
  rintro q p4 hp4 hp4' ⟨m,rfl,hm0,hm1⟩
  have hB6:=hB5.draw p4
  generalize H8.set r (RdO bs p4)=H9 at*
  have w1:=aL (n:=m - 1) (by omega) (by omega)
  simp only[go_sem,rE,rA,aG,az,aq,ay,rL,bh,w1]
  intro b1 hb1
  have hB7:=hB6.new hb1 (.tail 1 1)
  generalize H9.set b1 (.tail 1 1)=H10 at*
  refine aZ (cv L r bs p4 2 hbs (by omega) (by omega)) (rfl) hB7.gr (by simp) trivial ?_
  rintro q p5 hp5 hp5' ⟨n,rfl,hn0,hn1⟩
  have hB8:=hB7.draw p5
  have g6:=hB8.g6
  generalize H10.set r (RdO bs p5)=H11 at*
  have hn01:n=0\/n=1:=by omega
  have hn1':n.toNat<=1:=by omega
  simp only[go_sem,rE,rA,aG,az,aq,ay,rL,bh,g6,hn0,hn1',fT]
  refine jn _ _ p5 _ {f with gives:=⟨s,[m - 1].take n.toNat⟩} ⟨hlo.pars,hlo.ptys,hlo.ty,hlo.blen,hlo.bcnt,hlo.bsm,hlo.says⟩ (hB8.put _) (lJ {f with gives:=⟨s,[m - 1].take n.toNat⟩} (.refl _) (.refl _) (.refl _) lesays ⟨⟨.refl _,rfl⟩,⟨?_,rfl⟩,trivial⟩) (by first|rfl|simp only[go_sem,rE]) (by first|rfl|simp only[go_sem,rE]) (by first|rfl|simp only[go_sem,rE]) (by first|rfl|simp only[go_sem,rE]) (by omega) (by omega)
  rcases hn01 with rfl|rfl
  ·exact .refl _
  ·exact .refl _
 ·
  refine aZ (cv L r bs p2 8 hbs (by omega) (by omega)) (rfl) hB.gr (by simp) trivial ?_
  rintro q p3 hp3 hp3' ⟨n,rfl,hn0,hn1⟩
  have hB1:=hB.draw p3
  generalize H3.set r (RdO bs p3)=H4 at*
  simp only[go_sem,rE,rA,aG,az,aq,ay,rL,bh]
  refine aZ (cv L r bs p3 3 hbs (by omega) (by omega)) (rfl) hB1.gr (by simp) trivial ?_
  rintro q p4 hp4 hp4' ⟨m,rfl,hm0,hm1⟩
  have hB2:=hB1.draw p4
  have g6:=hB2.g6
  generalize H4.set r (RdO bs p4)=H5 at*
  simp only[go_sem,rE,rA,aG,az,aq,ay,rL,bh,g6]
  refine jn _ _ p4 _ {f with says:=.mk n m ⟨bl [112],[]⟩ []} ⟨hlo.pars,hlo.ptys,hlo.ty,hlo.blen,hlo.bcnt,hlo.bsm,.mk (by omega) (by simp)⟩ (hB2.put _) (lJ {f with says:=.mk n m ⟨bl [112],[]⟩ []} (.refl _) (.refl _) (.refl _) ?_ legives) (by first|rfl|simp only[go_sem,rE]) (by first|rfl|simp only[go_sem,rE]) (by first|rfl|simp only[go_sem,rE]) (by first|rfl|simp only[go_sem,rE]) (by omega) (by omega)
  rw[Ex.enc]
  exact⟨⟨.refl _,rfl⟩,⟨.refl _,rfl⟩,⟨.refl _,rfl⟩,⟨.nil 1,rfl⟩,⟨.nil 5,rfl⟩,trivial⟩
 ·
  exact sw _ _ (by first|rfl|simp only[go_sem,rE]) (by first|rfl|simp only[go_sem,rE]) fun E' H' p' c6 f' hf' hB' hA he h1 h2=>jn8 E' H' p' c6 f' hf' hB' hA ((he 3 (by decide)).trans (by first|rfl|simp only[go_sem,rE])) ((he 4 (by decide)).trans (by first|rfl|simp only[go_sem,rE])) ((he 5 (by decide)).trans (by first|rfl|simp only[go_sem,rE])) ((he 6 (by decide)).trans (by first|rfl|simp only[go_sem,rE])) (by omega) (by omega)
 ·
  exact sw _ _ (by first|rfl|simp only[go_sem,rE]) (by first|rfl|simp only[go_sem,rE]) fun E' H' p' c6 f' hf' hB' hA he h1 h2=>jn8 E' H' p' c6 f' hf' hB' hA ((he 3 (by decide)).trans (by first|rfl|simp only[go_sem,rE])) ((he 4 (by decide)).trans (by first|rfl|simp only[go_sem,rE])) ((he 5 (by decide)).trans (by first|rfl|simp only[go_sem,rE])) ((he 6 (by decide)).trans (by first|rfl|simp only[go_sem,rE])) (by omega) (by omega)
 ·
  intro b58 hb58
  have hB2:=hB.new hb58 (.tail 0 0)
  have g58:(H3.set b58 (.tail 0 0)).get b58=_:=ai _ _ _
  have g6:=hB2.g6
  generalize H3.set b58 (.tail 0 0)=H5 at*
  simp only[go_sem,rE,rA,aG,az,aq,ay,rL,bh,g6]
  refine eL (es:=[]) (ys:=f.body.map St.enc) (rfl) g58 (rfl) (ku _) (by simp;omega) ?_
  intro bt nt mt H6 fp6 gt keep hbt hfb
  have hB3:=hB2.keep (jv g58 keep)
  simp only[go_sem,rE,rA,aG,az,aq,ay,rL,bh]
  intro b0 hb0
  have d0t:=al gt hb0
  have hB4:=hB3.new hb0 (.tail 6 6)
  have gt:(H6.set b0 (.tail 6 6)).get bt=_:=(ae _ _ d0t).trans gt
  generalize H6.set b0 (.tail 6 6)=H7 at*
  refine aZ (zas:=[.ptr r 0,.sl 1 (some (b0,6,6)) (js [bl [112],bl [113],bl [97,98],bl [97,99],bl [97,100],bl [97,101]])]) ((AL L r bs hbs [bl [112],bl [113],bl [97,98],bl [97,99],bl [97,100],bl [97,101]] (by simp) (by simp) p2 (by omega) (by omega)).args ⟨.refl _,.tok _ _ _,trivial⟩) (rfl) hB4.gr (by simp) trivial ?_
  rintro q p3 hp3 hp3' ⟨s,rfl⟩
  have hB5:=hB4.draw p3
  have hnt:bt≠r:=by rintro rfl;rw[hB4.gr]at gt;simp[RdO]at gt
  have gt:(H7.set r (RdO bs p3)).get bt=_:=(ae _ _ hnt).trans gt
  generalize H7.set r (RdO bs p3)=H8 at*
  simp only[go_sem,rE,rA,aG,az,aq,ay,rL,bh]
  refine eL (es:=f.body.map St.enc) (ys:=[[I 1,S (bl [122,122]),S (bl []),NIL,S (bl []),NIL,I 2,I 0,S s,NIL,NIL,S (bl []),NIL,NIL,NIL]]) (rfl) gt (rfl) (by simp) (by simp;omega) ?_
  intro bt2 nt2 mt2 H10 fp10 gt2 keep2 hbt2 hfb2
  have hB7:=hB5.keep (jv gt keep2)
  have g6:=hB7.g6
  simp only[go_sem,rE,rA,aG,az,aq,ay,rL,bh,g6]
  have hxs:(Ex.mk 2 0 ⟨s,[]⟩ []).sm:=.mk (by decide) (by simp)
  obtain⟨c1,c2⟩:=mc 1 (bl [122,122]) P0 P0 (.mk 2 0 ⟨s,[]⟩ []) hxs
  refine jn _ _ p3 _ {f with body:=f.body++[.mk 1 (bl [122,122]) P0 P0 (.mk 2 0 ⟨s,[]⟩ []) (bl []) [] [] []]} ⟨hlo.pars,hlo.ptys,hlo.ty,by simp;omega,fun x hx=>?_,fun x hx=>?_,hlo.says⟩ (hB7.put _) (lJ {f with body:=f.body++[.mk 1 (bl [122,122]) P0 P0 (.mk 2 0 ⟨s,[]⟩ []) (bl []) [] [] []]} (.refl _) (.refl _) ?_ lesays legives) (by first|rfl|simp only[go_sem,rE]) (by first|rfl|simp only[go_sem,rE]) (by first|rfl|simp only[go_sem,rE]) (by first|rfl|simp only[go_sem,rE]) (by omega) (by omega)
  ·rcases aE.1 hx with h|h
   ·exact hlo.bcnt x h
   ·simp at h;subst h;omega
  ·rcases aE.1 hx with h|h
   ·exact hlo.bsm x h
   ·simp at h;subst h;exact c2.up (by omega)
  ·rw[bj,aQ,bA]
   refine .slR ((zC f.body).snoc ?_)
   rw[St.enc_eq]
   exact⟨⟨.refl _,rfl⟩,⟨.refl _,rfl⟩,⟨.refl _,rfl⟩,⟨.nil 1,rfl⟩,⟨.refl _,rfl⟩,⟨.nil 1,rfl⟩,⟨.refl _,rfl⟩,⟨.refl _,rfl⟩,⟨.refl _,rfl⟩,⟨.nil 1,rfl⟩,⟨.nil 5,rfl⟩,⟨.refl _,rfl⟩,⟨.nil 8,rfl⟩,⟨.nil 15,rfl⟩,⟨.nil 15,rfl⟩,trivial⟩
 ·
  intro b58 hb58
  have hB2:=hB.new hb58 (.tail 0 0)
  have g58:(H3.set b58 (.tail 0 0)).get b58=_:=ai _ _ _
  have g3:=hB2.g3
  generalize H3.set b58 (.tail 0 0)=H5 at*
  simp only[go_sem,rE,rA,aG,az,aq,ay,rL,bh,g3]
  refine eL (es:=[]) (ys:=pr.map Fu.enc) (rfl) g58 (rfl) (by simp;intro g _;exact oT g) (by simp;omega) ?_
  intro bt nt mt H6 fp6 gt keep hbt hfb
  have nf6:¬fp6 b6:=fun h=>by have:=hfb _ h;rw[hB2.g6]at this;simp at this
  have hB3:=hB2.keep (jv g58 keep)
  have g6:=hB3.g6
  simp only[go_sem,rE,rA,aG,az,aq,ay,rL,bh,g6]
  refine⟨by simp;exact nf6,?_⟩
  refine eL (es:=pr.map Fu.enc) (ys:=[f.enc]) (rfl) gt (by simp only[go_sem,rE];rw[jw]) (by simp[oT]) (by simp;omega) ?_
  intro bt2 nt2 mt2 H8 fp8 gt2 keep2 hbt2 hfb2
  have hB5:=hB3.keep (jv gt keep2)
  have g3:=hB5.g3
  simp only[go_sem,rE,rA,aG,az,aq,ay,rL,bh,g3]
  have hB6:=hB5.put3 [.sl 12 (some (bt2,nt2,mt2)) (pr.map Fu.enc++[f.enc])]
  rw[<-jw]at hB6
  have e1:pr.map Fu.enc++[f.enc]=(pr++[f]).map Fu.enc:=by simp
  rw[e1]at hB6⊢
  exact jn11 _ _ _ (pr++[f]) (by simp;omega) (by simp;omega) (fun g hg=>by rcases aE.1 hg with h|h;exact hplo g h;simp at h;rw[h];exact hlo) hB6 (by first|rfl|simp only[go_sem,rE]) (by first|rfl|simp only[go_sem,rE]) (by first|rfl|simp only[go_sem,rE]) (by first|rfl|simp only[go_sem,rE])
end
section
variable {P:Program}{F:Ids}
def drawn(m:Nat)(pr:Pg):Prop:=(∀f∈pr,f.lo m)/\1<=pr.length/\pr.length<=4+m
theorem AO(L:Lib P F)(r:Nat)(bs:List UInt8)(hbs:bs.length<=2000)(p:Int)(hp:0<=p)(hp2:p+6*FC<=2^50):
 ACalls P 42 [.ptr r 0] (one r (RdO bs p)) (RdR r bs p (6*FC) fun q=>∃pr:Pg,q=.agg (Pg.enc pr)/\drawn 1 pr):=by
 simp only[FC]at hp2
 refine(L.a Tryz.func42 y42) (by simp[y42]) ?_
 simp only[y42,go_sem,rE,rA]
 intro b2 hb2
 have hr2:r≠b2:=by rintro rfl;rw[bH]at hb2;simp at hb2
 have gr:((one r (RdO bs p)).set b2 (.cells [NIL])).get r=some (RdO bs p):=by rw[ae _ _ hr2,bH]
 have g2:((one r (RdO bs p)).set b2 (.cells [NIL])).get b2=some (.cells [NIL]):=ai _ _ _
 generalize((one r (RdO bs p)).set b2 (.cells [NIL]))=H0 at*
 clear hb2
 refine aZ (AP L r bs hbs p hp (by simp only[FC];omega)) (rfl) gr (by simp) trivial ?_
 rintro q p1 hp1 hp1' ⟨pr,rfl,hgood,hl1,hl2⟩
 simp only[FC]at hp1'
 have g2:(H0.set r (RdO bs p1)).get b2=_:=(ae _ _ (Ne.symm hr2)).trans g2
 have gr:(H0.set r (RdO bs p1)).get r=_:=ai _ _ _
 generalize H0.set r (RdO bs p1)=H1 at*
 simp only[go_sem,rE,rA,Pg.enc]
 intro b3 hb3
 have hr3:=al gr hb3
 have d23:=al g2 hb3
 have gr:(H1.set b3 (.cells [.sl 12 none (pr.map Fu.enc)])).get r=_:=(ae _ _ hr3).trans gr
 have g2:(H1.set b3 (.cells [.sl 12 none (pr.map Fu.enc)])).get b2=_:=(ae _ _ d23).trans g2
 have g3:(H1.set b3 (.cells [.sl 12 none (pr.map Fu.enc)])).get b3=_:=ai _ _ _
 generalize H1.set b3 (.cells [.sl 12 none (pr.map Fu.enc)])=H2 at*
 clear hb3
 refine aZ (cv L r bs p1 5 hbs (by omega) (by omega)) (rfl) gr (by simp) trivial ?_
 rintro q p2 hp2 hp2' ⟨k,rfl,hk0,hk1⟩
 have g2:(H2.set r (RdO bs p2)).get b2=_:=(ae _ _ (Ne.symm hr2)).trans g2
 have g3:(H2.set r (RdO bs p2)).get b3=_:=(ae _ _ (Ne.symm hr3)).trans g3
 have gr:(H2.set r (RdO bs p2)).get r=_:=ai _ _ _
 generalize H2.set r (RdO bs p2)=H3 at*
 by_cases hk:k=0
 ·simp only[hk,go_sem,rE,rA,aG,g3,rL]
  refine aZ (AR L r bs hbs pr (m:=0) (by omega) (fun f hf=>(hgood f hf).lo) hl1 hl2 p2 (by omega) (by omega)) (by simp only[go_sem,rE,Pg.enc]) gr (by simp) trivial ?_
  rintro q p3 hp3 hp3' ⟨pr',rfl,hlo,hl1',hl2'⟩
  have g2:(H3.set r (RdO bs p3)).get b2=_:=(ae _ _ (Ne.symm hr2)).trans g2
  have gr:(H3.set r (RdO bs p3)).get r=_:=ai _ _ _
  generalize H3.set r (RdO bs p3)=H4 at*
  simp only[go_sem,rE,rA,g2,Pg.enc,rL]
  exact bZ (q':=.agg (Pg.enc pr')) (off:=0) (rfl) (ai _ _ _) rfl (.refl _) (fh (by rw[ae _ _ hr2];exact gr)) ⟨p3,by omega,by simp only[FC];omega,rfl,pr',rfl,hlo,hl1',hl2'⟩
 ·have hk':(k==0)=false:=by simpa using hk
  simp only[hk',go_sem,rE,rA,g2,g3,rL]
  exact bZ (q':=.agg (Pg.enc pr)) (off:=0) (rfl) (ai _ _ _) rfl (.refl _) (fh (by rw[ae _ _ hr2];exact gr)) ⟨p2,by omega,by simp only[FC];omega,rfl,pr,rfl,fun f hf=>(hgood f hf).lo.up,hl1,by omega⟩
def fO(bs:List UInt8):List (List AC):=bs.map fun b=>[AC.lit (.int .u8 (b.toNat:Int))]
theorem CI(L:Lib P F)(bs:List UInt8)(hl:bs.length<=2^30):ACalls P 27 [.sl 1 none (fO bs)] .empty fun q H'=>∃r bs',q=.ptr r 0/\H'=one r (RdO bs' 0)/\bs'.length<=2000:=by
 refine(L.a Tryz.func27 y27) (by simp[y27]) ?_
 have hlen:(fO bs).length=bs.length:=by simp[fO]
 by_cases h:(2000:Int)<bs.length
 ·have h2:2000<=bs.length:=by omega
  have h3:(0:Int)<=2000:=by decide
  have h4:(2000:Int).toNat=2000:=rfl
  simp only[y27,go_sem,rE,rA,hlen,h,h2,h3,h4,decide_true,fT,eo,Int.reduceToNat]
  intro r hr
  refine ak (q':=.ptr r 0) (by simp only[go_sem,rE];exact .refl _) (aj.sub_refl _) ⟨r,bs.take 2000,rfl,?_,by simp;omega⟩
  simp only[RdO,fO,iy]
  rfl
 ·simp only[y27,go_sem,rE,rA,hlen,h,decide_false]
  intro r hr
  exact ak (q':=.ptr r 0) (by simp only[go_sem,rE];exact .refl _) (aj.sub_refl _) ⟨r,bs,rfl,rfl,by omega⟩
end
theorem kO{E:Env}{H:aj}{n m k r off:Nat}{g:Option Nat}{cs:List AC}{q q1:AC}{R:AC->aj->Prop}(hE:E n=.ptr r off)(hg:H.get r=some (.cells cs))(hq:fS g cs off=some q)
(hl:Le q q1){H':aj}(hs:H'.sub H)(h:R (.tup [q1,E m,E k]) H'):bk.post [.cell n g,.slot m,.slot k] R .ret E H:=
 ⟨.tup [q,E m,E k],by simp only[kM,iQ,j8.val,hE,hg,hq],_,H',.of (Le.tup (show LeA [q,E m,E k] [q1,E m,E k]from⟨hl,.refl _,.refl _,trivial⟩)) hs,h⟩
section
variable {P:Program}{F:Ids}
theorem AN(L:Lib P F)(r:Nat)(bs:List UInt8)(hbs:bs.length<=2000)(p:Int)(hp:0<=p)(hp2:p+7*FC<=2^50):
 ACalls P 26 [.ptr r 0] (one r (RdO bs p)) (RdR r bs p (7*FC) fun q=>∃(pr:Pg) (fn n:Int),q=.tup [.agg (Pg.enc pr),I fn,I n]/\drawn 1 pr):=by
 simp only[FC]at hp2
 refine(L.a Tryz.func26 y26) (by simp[y26]) ?_
 simp only[y26,go_sem,rE,rA]
 intro b2 hb2
 have hr2:r≠b2:=by rintro rfl;rw[bH]at hb2;simp at hb2
 have gr:((one r (RdO bs p)).set b2 (.cells [NIL])).get r=some (RdO bs p):=by rw[ae _ _ hr2,bH]
 have g2:((one r (RdO bs p)).set b2 (.cells [NIL])).get b2=some (.cells [NIL]):=ai _ _ _
 generalize((one r (RdO bs p)).set b2 (.cells [NIL]))=H0 at*
 clear hb2
 refine aZ (AO L r bs hbs p hp (by simp only[FC];omega)) (rfl) gr (by simp) trivial ?_
 rintro q p1 hp1 hp1' ⟨pr,rfl,hd⟩
 simp only[FC]at hp1'
 have g2:(H0.set r (RdO bs p1)).get b2=_:=(ae _ _ (Ne.symm hr2)).trans g2
 have gr:(H0.set r (RdO bs p1)).get r=_:=ai _ _ _
 generalize H0.set r (RdO bs p1)=H1 at*
 simp only[go_sem,rE,rA,Pg.enc]
 intro b5 hb5
 have hr5:=al gr hb5
 have d25:=al g2 hb5
 have hdl:=hd.2.2
 have hd1:=hd.2.1
 have gr:(H1.set b5 (.cells [.sl 12 none (pr.map Fu.enc)])).get r=_:=(ae _ _ hr5).trans gr
 have g2:(H1.set b5 (.cells [.sl 12 none (pr.map Fu.enc)])).get b2=_:=(ae _ _ d25).trans g2
 have g5:(H1.set b5 (.cells [.sl 12 none (pr.map Fu.enc)])).get b5=_:=ai _ _ _
 generalize H1.set b5 (.cells [.sl 12 none (pr.map Fu.enc)])=H2 at*
 clear hb5
 refine aZ (cv L r bs p1 pr.length hbs (by omega) (by omega)) (by simp only[go_sem,rE,am]) gr (by simp) trivial ?_
 rintro q p2 hp2 hp2' ⟨k,rfl,hk0,hk1⟩
 have g2:(H2.set r (RdO bs p2)).get b2=_:=(ae _ _ (Ne.symm hr2)).trans g2
 have g5:(H2.set r (RdO bs p2)).get b5=_:=(ae _ _ (Ne.symm hr5)).trans g5
 have gr:(H2.set r (RdO bs p2)).get r=_:=ai _ _ _
 generalize H2.set r (RdO bs p2)=H3 at*
 obtain⟨k,rfl⟩:=cy hk0
 have hkl:k<pr.length:=by omega
 obtain⟨cf,hcf,CF⟩:=fuC pr[k]
 have hgf:(pr.map Fu.enc)[k]?=some cf:=by rw[<-hcf];simp[hkl]
 have cfb:(cf.drop 4)[0]?=some (.sl 15 none (St.encs pr[k].body)):=by rw[bV];exact CF.body
 have hel:(St.encs pr[k].body).length=pr[k].body.length:=by rw[St.encs_map,am]
 have hbl:=(hd.1 pr[k] (ax hkl)).blen
 have w1:=aL (n:=(pr[k].body.length:Int)+1) (by omega) (by omega)
 simp only[go_sem,rE,rA,rL,g5,hgf,CF.len,CF.body,cfb,hel,w1]
 refine aZ (cv L r bs p2 (pr[k].body.length+1) hbs (by omega) (by omega)) (by simp only[go_sem,rE]) gr (by simp) trivial ?_
 rintro q p3 hp3 hp3' ⟨m,rfl,hm0,hm1⟩
 have g2:(H3.set r (RdO bs p3)).get b2=_:=(ae _ _ (Ne.symm hr2)).trans g2
 have g5:(H3.set r (RdO bs p3)).get b5=_:=(ae _ _ (Ne.symm hr5)).trans g5
 have gr:(H3.set r (RdO bs p3)).get r=_:=ai _ _ _
 generalize H3.set r (RdO bs p3)=H4 at*
 simp only[go_sem,rE,rA,rL]
 refine aZ (cv L r bs p3 20 hbs (by omega) (by omega)) (by simp only[go_sem,rE]) gr (by simp) trivial ?_
 rintro q p4 hp4 hp4' ⟨j,rfl,hj0,hj1⟩
 have g2:(H4.set r (RdO bs p4)).get b2=_:=(ae _ _ (Ne.symm hr2)).trans g2
 have g5:(H4.set r (RdO bs p4)).get b5=_:=(ae _ _ (Ne.symm hr5)).trans g5
 have gr:(H4.set r (RdO bs p4)).get r=_:=ai _ _ _
 generalize H4.set r (RdO bs p4)=H5 at*
 simp only[go_sem,rE,rA,rL]
 have hch:∀a b:AC,bh 1 2 [a,b]=[[a],[b]]:=fun _ _=>rfl
 have hg0:∀a b:List AC,[a,b][Int.toNat 0]?=some a:=fun _ _=>rfl
 have hg1:∀a b:List AC,[a,b][Int.toNat 1]?=some b:=fun _ _=>rfl
 have h00:(0:Int)<=0:=cZ _
 have h01:(0:Int)<=1:=by decide
 by_cases h0:j=0
 ·have h0':(j==0)=true:=by simpa using h0
  simp only[go_sem,rE,rA,rL,h0',g5,am,az,aq,ay,hch,jI,bf,ce,or_false,forall_eq]
  refine aZ (cv L r bs p4 2 hbs (by omega) (by omega)) (rfl) gr (fun _=>⟨by omega,I 0,0,rfl,cZ _,.inr rfl⟩) (by simp[dU];exact fun h=>hr5 h.symm) ?_
  rintro q p5 hp5 hp5' ⟨x,rfl,hx0,hx1⟩
  have g2:(H5.set r (RdO bs p5)).get b2=_:=(ae _ _ (Ne.symm hr2)).trans g2
  have g5:(H5.set r (RdO bs p5)).get b5=_:=(ae _ _ (Ne.symm hr5)).trans g5
  have gr:(H5.set r (RdO bs p5)).get r=_:=ai _ _ _
  generalize H5.set r (RdO bs p5)=H6 at*
  have hx:x=0\/x=1:=by omega
  rcases hx with rfl|rfl
  ·simp only[go_sem,rE,rA,rL,hg0,h00,g5,g2]
   exact kO (q1:=.agg (Pg.enc pr)) (off:=0) rfl (ai _ _ _) rfl (.refl _) (fh (by rw[ae _ _ hr2];exact gr)) ⟨p5,by omega,by simp only[FC];omega,rfl,pr,_,_,rfl,hd⟩
  ·simp only[go_sem,rE,rA,rL,hg1,h01,g5,g2]
   exact kO (q1:=.agg (Pg.enc pr)) (off:=0) rfl (ai _ _ _) rfl (.refl _) (fh (by rw[ae _ _ hr2];exact gr)) ⟨p5,by omega,by simp only[FC];omega,rfl,pr,_,_,rfl,hd⟩
 have h0':(j==0)=false:=by simpa using h0
 by_cases h1:j=1
 ·have h1':(j==1)=true:=by simpa using h1
  simp only[go_sem,rE,rA,rL,h0',h1',g5,hgf,CF.len,CF.body,cfb,hel,w1,am,az,aq,ay,hch,jI,bf,ce,or_false,forall_eq]
  refine aZ (cv L r bs p4 2 hbs (by omega) (by omega)) (rfl) gr (fun _=>⟨by omega,I 0,0,rfl,cZ _,.inr rfl⟩) (by simp[dU];exact fun h=>hr5 h.symm) ?_
  rintro q p5 hp5 hp5' ⟨x,rfl,hx0,hx1⟩
  have g2:(H5.set r (RdO bs p5)).get b2=_:=(ae _ _ (Ne.symm hr2)).trans g2
  have g5:(H5.set r (RdO bs p5)).get b5=_:=(ae _ _ (Ne.symm hr5)).trans g5
  have gr:(H5.set r (RdO bs p5)).get r=_:=ai _ _ _
  generalize H5.set r (RdO bs p5)=H6 at*
  have hx:x=0\/x=1:=by omega
  rcases hx with rfl|rfl
  ·simp only[go_sem,rE,rA,rL,hg0,h00,g5,g2]
   exact kO (q1:=.agg (Pg.enc pr)) (off:=0) rfl (ai _ _ _) rfl (.refl _) (fh (by rw[ae _ _ hr2];exact gr)) ⟨p5,by omega,by simp only[FC];omega,rfl,pr,_,_,rfl,hd⟩
  ·simp only[go_sem,rE,rA,rL,hg1,h01,g5,g2]
   exact kO (q1:=.agg (Pg.enc pr)) (off:=0) rfl (ai _ _ _) rfl (.refl _) (fh (by rw[ae _ _ hr2];exact gr)) ⟨p5,by omega,by simp only[FC];omega,rfl,pr,_,_,rfl,hd⟩
 have h1':(j==1)=false:=by simpa using h1
 simp only[go_sem,rE,rA,rL,h0',h1',g5,g2]
 exact kO (q1:=.agg (Pg.enc pr)) (off:=0) rfl (ai _ _ _) rfl (.refl _) (fh (by rw[ae _ _ hr2];exact gr)) ⟨p4,by omega,by simp only[FC];omega,rfl,pr,_,_,rfl,hd⟩
end

def kn(ro:Option Nat):Fence:={Fence.wide with round:=ro}
theorem Bq(ro:Option Nat)(l:Nat):(kn ro).inRound l=kn (some l):=rfl
theorem mQ(ro:Option Nat)(n:Nat):(kn ro).depth.isSome=true->1<=n:=fun h=>by simp[kn,Fence.wide]at h
theorem callsR{ro:Option Nat}{n:Nat}{P:Program}{f:FuncId}{args:Array Value}{w:World}{R:Ending->World->Prop}(h:Calls P f args w R):CallsIn (kn ro) n P f args w R:=
 (callsIn_wide.2 h:CallsIn Fence.wide n P f args w R)
section
variable {P:Program}{ro:Option Nat}{n:Nat}
theorem Bt{o:Oper}{a:Act}{next next':Act->World->Prop}{Q:Exit->Act->World->Prop}(hn:∀a w,next a w->next' a w){r:Result Next}(h:o.upon P a next Q r):
 o.uponIn (kn ro) n P a next' Q r:=by
 cases r with
 |halt x w'=>
  cases x<;>first|exact h|exact h.elim
 |ok x w'=>
  cases x<;>first
   |exact hn _ _ h
   |exact h.elim
   |exact⟨mQ _ _,callsR (Calls.mono h fun e w'' he=>by cases e<;>first|exact hn _ _ he|exact he)⟩
   |exact⟨mQ _ _,fun c cs _=>let⟨v,w'',hr,hs⟩:=h c cs;⟨v,w'',hn _ _ hr,stepsIn_wide.2 hs⟩⟩
def pX(F:Fence)(n:Nat)(P:Program)(ops:Array Oper)(Q:Exit->Act->World->Prop)(i:Nat)(next:Act->World->Prop)(a:Act)(w:World):Prop:=
 match ops[i]? with
 |none=>next a w
 |some o=>if Region.wanted o (yielded ops a.tmps)then o.wpIn F n P a w next Q else(∀f,o.about P w a.eval=some f->F.fn f)/\next (a.put o.dst undef) w
theorem pt{F:Fence}{ops:Array Oper}{Q:Exit->Act->World->Prop}(i:Nat)(rest:List Nat)(a:Act)(w:World):wpOpsIn F n P ops Q (i::rest) a w=pX F n P ops Q i (wpOpsIn F n P ops Q rest) a w:=by
 cases h:ops[i]?<;>simp[wpOpsIn,pX,h]
theorem Bp{ops:Array Oper}{Q:Exit->Act->World->Prop}(hQ:¬LetsOut Q){i:Nat}(hd:∀o,ops[i]?=some o->∀c,o.op≠.defer c){next next':Act->World->Prop}(hn:∀a w,next a w->next' a w){a:Act}{w:World}
(h:wpOp P ops Q i next a w):pX (kn ro) n P ops Q i next' a w:=by
 unfold wpOp at h
 unfold pX
 split at h
 ·rename_i ho
  simp only[ho]
  exact hn _ _ h
 ·rename_i o ho
  simp only[ho]
  split at h
  ·rename_i hw
   rw[if_pos hw]
   rcases h with h|⟨-,h⟩
   ·refine⟨fun _ _=>trivial,?_⟩
    rw[Oper.semAt_eq _ _ _ (hd o ho)]
    exact Bt hn h
   ·exact absurd h hQ
  ·rename_i hw
   rw[if_neg hw]
   exact⟨fun _ _=>trivial,hn _ _ h⟩
theorem to{N:Nat}{ops:Array Oper}{i:Nat}{inc:List Nat}{x:aK}(h:eQ P N ops i inc=some x):∀o,ops[i]?=some o->∀c,o.op≠.defer c:=by
 intro o ho c hc
 simp only[eQ,ho]at h
 have:qB P o.op=none:=by
  rw[hc]
  simp[qB,zo,rJ,tm,resL,iz]
 rw[this]at h
 simp at h
theorem rq{N:Nat}{ops:Array Oper}{Q:Exit->Act->World->Prop}(hQ:¬LetsOut Q){dr:Bool}{K:Env->aj->Prop}{rest:List Nat}:∀(xs:List aK),(∀x∈xs,eQ P N ops x.id x.inc=some x)->∀{M:bQ} {E:Env} {H:aj} {a:Act} {w:World} {l:Lds} {f:Fps},
 cF N M E a->Sim M H w->bC P dr K (xs.map aK.toM) E H l f->(∀a' w',lD P N K M H w a a' w'->wpOpsIn (kn ro) n P ops Q rest a' w')->wpOpsIn (kn ro) n P ops Q (xs.map (·.id)++rest) a w:=by
 intro xs
 induction xs with
 |nil=>intro _ M E H a w l f hE s h hq;exact hq a w ⟨E,H,M,h,hE,s,bJ.refl _ _ _,rfl⟩
 |cons x xs ih=>
  intro hres M E H a w l f hE s h hq
  rw[aQ,cJ,pt]
  simp only[aQ,bC]at h
  refine Bp hQ (to (hres x (by simp))) (fun _ _ h=>h) (mW (hres x (by simp)) hE s h fun r H' l' f' M' a' w' hk hE' s' t' hd'=>?_)
  refine ih (fun y hy=>hres y (by simp[hy])) hE' s' hk fun a'' w'' hp=>hq a'' w'' ?_
  obtain⟨E'',H'',M'',p1,p2,p3,p4,p5⟩:=hp
  exact⟨E'',H'',M'',p1,p2,p3,t'.trans p4,p5.trans hd'⟩
end
section
variable {P:Program}{ro:Option Nat}{n:Nat}
theorem toLit_X{ops:Array Oper}{d:Option Nat}{x:XOp}{c:xq}{zas:List aI}(h:mV ops d x=.eff (.callX c zas)):x=.eff (.callX c zas):=by
 unfold mV at h
 repeat' (split at h)
 all_goals first|exact h|simp at h
theorem resOp_X{op:Op}{c:xq}{zas:List aI}(h:qB P op=some (.eff (.callX c zas))):iz P op=some (.callX c zas):=by
 simp only[qB]at h
 split at h
 ·simp at h
 ·split at h
  ·simp at h
  ·simp only[a7,XOp.eff.injEq]at h
   obtain⟨e,he,rfl⟩:=h
   exact he
theorem Ak{o:Oper}{zas:List aI}(hres:iz P o.op=some (.callX .clos zas)):∃t args ts,o.op=.call ⟨.value (.tmp t),args,ts⟩/\km (.tmp t::args.toList)=some zas:=by
 obtain⟨dst,op,ty,pos,after,guard⟩:=o
 cases op<;>simp only[iz]at hres<;>try(simp at hres;done)
 case lookup=>repeat' split at hres
              all_goals simp at hres
 case mapUpdate=>repeat' split at hres
                 all_goals simp at hres
 case buildSlice=>repeat' split at hres
                  all_goals simp at hres
 case store=>repeat' split at hres
             all_goals simp at hres
 case makeMap t r=>
  cases r with
  |some r=>simp at hres
  |none=>
   simp only[]at hres
   split at hres<;>simp at hres
 case call c=>
  obtain⟨callee,args,argTypes⟩:=c
  cases callee with
  |invoke r m=>simp[iz]at hres
  |builtin b=>
   cases b<;>simp only[iz]at hres<;>try(simp at hres;done)
   repeat' split at hres
   all_goals simp at hres
  |value f=>
   cases f with
   |tmp t=>
    simp only[iz,a7,EOp.callX.injEq,true_and]at hres
    obtain⟨as',has,rfl⟩:=hres
    exact⟨t,args,argTypes,rfl,has⟩
   |func f=>
    simp only[iz]at hres
    repeat' split at hres
    all_goals simp at hres
   |_=>simp[iz]at hres
theorem Bm{N:Nat}{ops:Array Oper}{Q:Exit->Act->World->Prop}{i:Nat}{d:Option Nat}{inc:List Nat}{zas:List aI}(hx:eQ P N ops i inc=some ⟨i,d,none,.eff (.callX .clos zas),inc⟩){M:bQ}{E:Env}{a:Act}{w:World}(hE:cF N M E a)
{l:Nat}{xs:List AC}(ha:zas.map (aI.ev E)=.lit (.func (.yield l) #[] #[])::xs){R:Value->World->Prop}(hy:∀vs:List Value,i9 M xs vs->YieldAt (kn ro) (n - 1) P l vs.toArray w fun e w'=>∃v,e=.returned v/\R v w')
{next:Act->World->Prop}(hn:∀v w',R v w'->next (a.put d v) w'):pX (kn ro) n P ops Q i next a w:=by
 simp only[eQ]at hx
 split at hx
 ·rename_i o ho
  split at hx
  ·rename_i xo g hxo hg
   split at hx
   ·rename_i hc
    simp only[a6]at hc
    simp only[Option.some.injEq,aK.mk.injEq,true_and,and_true]at hx
    obtain⟨rfl,rfl,hop⟩:=hx
    have hlit:=toLit_X hop
    subst hlit
    obtain⟨t,args,ts,hcall,has⟩:=Ak (resOp_X hxo)
    have hargs:=je (fun x xa hx=>hE.arg x xa hx) _ _ has
    rw[ha]at hargs
    unfold pX
    simp only[ho]
    rw[jS hg hc.2 hE (b:=true) rfl]
    simp only[if_true]
    have h0:=lx (hargs.2 0 _ _ rfl rfl)
    have hrest:i9 M xs (args.toList.map a.eval):=⟨by simpa using hargs.1,fun j x v hx hv=>hargs.2 (j+1) x v (by simpa using hx) (by simpa using hv)⟩
    obtain⟨fn,tmps,assign,body,hrun,hround⟩:=hy _ hrest
    have hex:(execOp a.eval o).run P w=.ok (.round l fn tmps assign body) w:=by
     obtain⟨dst,op,ty,pos,after,guard⟩:=o
     simp only at hcall
     subst hcall
     have hmap:args.map a.eval=(args.toList.map a.eval).toArray:=by apply fA.1;simp only[Array.toList_map]
     simp[execOp,resolve,h0,Deferred.ofValue,invoke,callFunc,Sem.run_bind,Sem.run_pure,Result.andThen,hmap,hrun]
    refine⟨fun _ _=>trivial,?_⟩
    rw[Oper.semAt_eq _ _ _ (by rw[hcall];intro c hc;cases hc),hex,Oper.uponIn_round]
    refine⟨mQ _ _,hround.mono fun e w' he=>?_⟩
    obtain⟨v,rfl,hv⟩:=he
    exact hn _ _ hv
   ·simp at hx
  ·simp at hx
 ·simp at hx
end
def YC(P:Program)(ro:Option Nat)(n l:Nat)(xs:List AC)(M:bQ)(Sd:World->Prop)(H:aj)(R:aj->Prop):Prop:=
 ∀(M':bQ) (w':World) (vs:List Value),M.le M'->Sim M' H w'->Sd w'->i9 M' xs vs->
  YieldAt (kn ro) n P l vs.toArray w' fun e w''=>e=.returned (.bool true)/\∃M'' H'',Sim M'' H'' w''/\bJ M' H w' M'' H'' w''/\R H''
section
variable {P:Program}{ro:Option Nat}{n:Nat}
theorem lC{N:Nat}{K:cS->Env->aj->Prop}{M:bQ}{H:aj}{w:World}{a:Act}:¬LetsOut (sY N K M H w a):=by
 rintro⟨a',w',xe,-,-,-,he,-⟩
 simp[dZ]at he
theorem nj{N id:Nat}{ops:Array Oper}{xc:aY}(h:dh P N ops false=some xc){K:cS->Env->aj->Prop}{M:bQ}{E:Env}{H:aj}{a:Act}{w:World}
(hE:cF N M E a)(s:Sim M H w)(hw:xc.wp P K E H):(Code.region id ops false).wpIn (kn ro) n P (sY N K M H w a) a w:=by
 simp only[dh,a7]at h
 obtain⟨xs,hxs,rfl⟩:=h
 obtain⟨h1,h2⟩:=kw hxs
 refine wpIn_region ?_
 rw[<-h1,<-cD (xs.map (·.id))]
 refine rq lC xs h2 hE s hw fun a' w' hp=>?_
 obtain⟨E',H',M',p1,p2,p3,p4,p5⟩:=hp
 exact⟨.normal,E',H',M',rfl,p1,p2,p3,p4,p5⟩
theorem vQ{N id:Nat}{ops:Array Oper}{zs1 zs2:List aK}{i:Nat}{d:Option Nat}{zas:List aI}(h:dh P N ops false=some (.region false (zs1++⟨i,d,none,.eff (.callX .clos zas),[]⟩::zs2)))
{K:cS->Env->aj->Prop}{M:bQ}{E:Env}{H:aj}{a:Act}{w:World}(hE:cF N M E a)(s:Sim M H w)(hd:∀k,d=some k->k<N){Sd:World->Prop}(hSd:∀M' H' w',bJ M H w M' H' w'->Sd w')
(hw:bC P false (fun E' H'=>∃l xs R,zas.map (aI.ev E')=.lit (.func (.yield l) #[] #[])::xs/\YC P ro (n - 1) l xs M Sd H' R/\∀H'',R H''->bC P false (K .normal) zs2 (E'.put d (B true)) H'' [] []) zs1 E H [] []):
 (Code.region id ops false).wpIn (kn ro) n P (sY N K M H w a) a w:=by
 simp only[dh,a7]at h
 obtain⟨xs,hxs,hz⟩:=h
 simp only[aY.region.injEq,true_and]at hz
 obtain⟨h1,h2⟩:=kw hxs
 obtain⟨ys,q,hys,e1,e2⟩:=List.map_eq_append_iff.1 hz
 subst hys
 obtain⟨y,ys2,hq,e3,e4⟩:=List.map_eq_cons_iff.1 e2
 subst hq
 refine wpIn_region ?_
 rw[<-h1,bj]
 rw[<-e1]at hw
 refine rq lC ys (fun x hx=>h2 x (by simp[hx])) hE s hw fun a' w' hp=>?_
 obtain⟨E',H',M',⟨l,xs,R,ha,hy,hR⟩,hE',s',t',hd'⟩:=hp
 rw[aQ,pt]
 have hyM:y=⟨i,d,none,.eff (.callX .clos zas),[]⟩:=by
  by_cases hap:∀q b c d,y.op≠.eff (.append q b c d)
  ·rw[Bz hap]at e3;exact e3
  ·simp only[ne_eq,Classical.not_forall,Classical.not_not]at hap
   obtain⟨sz,bb,sa,ya,hop⟩:=hap
   simp[aK.toM,hop,yZ]at e3
 have hy2:=h2 y (by simp)
 subst hyM
 refine Bm hy2 hE' ha (R:=fun v w''=>v=.bool true/\∃M'' H'',Sim M'' H'' w''/\bJ M' H' w' M'' H'' w''/\R H'') (fun vs hvs=>?_) ?_
 ·obtain⟨fn,tmps,assign,body,hrun,hround⟩:=hy M' w' vs t'.le s' (hSd _ _ _ t') hvs
  refine⟨fn,tmps,assign,body,hrun,hround.mono fun e w'' he=>?_⟩
  obtain⟨rfl,he⟩:=he
  exact⟨_,rfl,rfl,he⟩
 ·rintro v w'' ⟨rfl,M'',H'',s'',t'',hR''⟩
  have hE'':cF N M'' (E'.put d (B true)) (a'.put d (.bool true)):=(hE'.mono t''.le).put hd (.lit trivial)
  have hr:=hR _ hR''
  rw[<-e4]at hr
  rw[<-cD (ys2.map (·.id))]
  refine rq lC ys2 (fun x hx=>h2 x (by simp[hx])) hE'' s'' hr fun a3 w3 hp=>?_
  obtain⟨E3,H3,M3,p1,p2,p3,p4,p5⟩:=hp
  have hdef:(a'.put d (.bool true)).defers=a'.defers:=by cases d<;>rfl
  exact⟨.normal,E3,H3,M3,rfl,p1,p2,p3,(t'.trans t'').trans p4,p5.trans (hdef.trans hd')⟩
end
theorem Sim.noCells{M:bQ}{H:aj}{w:World}(s:Sim M H w){l:Nat}{r:Obj}(h:w.heap[l]?=some r)(hr:∀a b c,r≠.cells a b c)(k:Nat):M l k=none:=by
 cases hm:M l k with
 |none=>rfl
 |some v=>
  have:=s.mem l k v hm
  rw[eU,h]at this
  cases r<;>first|exact absurd rfl (hr _ _ _)|simp at this
theorem Sim.putRec{M:bQ}{H:aj}{w:World}(s:Sim M H w){l:Nat}{r:Obj}(h:w.heap[l]?=some r)(hr:∀a b c,r≠.cells a b c)(hn:H.get l=none)(o:Obj):Sim M H (w.putObj l o):=by
 have other:∀b,b≠l->(w.putObj l o).heap[b]?=w.heap[b]?:=fun b hb=>World.putObj_heap_other hb
 refine⟨fun b k v hm=>?_,fun b ho hb=>?_⟩
 ·have hbl:b≠l:=by rintro rfl;rw[s.noCells h hr]at hm;simp at hm
  have:=s.mem b k v hm
  rw[eU]at this⊢
  rw[other b hbl];exact this
 ·have hbl:b≠l:=by rintro rfl;rw[hn]at hb;simp at hb
  have:=s.obj b ho hb
  cases ho<;>simp only[iL,other b hbl]at this⊢<;>exact this
theorem wu(w:World)(l:Nat)(o:Obj):re w (w.putObj l o):=⟨rfl,rfl⟩
def Env.puts(E:Env):List Nat->List AC->Env
 |p::ps,x::xs=>(E.put (some p) x).puts ps xs
 |_,_=>E
theorem cF.puts{N:Nat}{M:bQ}:∀{ps:List Nat} {xs:List AC} {vs:List Value} {E:Env} {tmps:Array Value},cF N M E {tmps:=tmps,defers:=[]}->(∀p∈ps,p<N)->i9 M xs vs->
 cF N M (E.puts ps xs) {tmps:=(ps.zip vs).foldl (fun t pv=>t.setIfInBounds pv.1 pv.2) tmps,defers:=[]}
 |[],xs,vs,E,tmps,h,_,_=>by simpa[Env.puts]using h
 |p::ps,[],vs,E,tmps,h,_,hr=>by
  have:vs=[]:=bu hr.1.symm
  subst this
  simpa[Env.puts]using h
 |p::ps,x::xs,[],E,tmps,h,_,hr=>by have:=hr.1;simp at this
 |p::ps,x::xs,v::vs,E,tmps,h,hp,hr=>by
  have hx:Rep M x v:=hr.2 0 _ _ rfl rfl
  have hrest:i9 M xs vs:=⟨by simpa using hr.1,fun j a b ha hb=>hr.2 (j+1) a b (by simpa using ha) (by simpa using hb)⟩
  have h1:cF N M (E.put (some p) x) {tmps:=tmps.setIfInBounds p v,defers:=[]}:=h.put (d:=some p) (fun n hn=>by simp at hn;subst hn;exact hp _ (by simp)) hx
  exact(cF.puts (E:=E.put (some p) x) (tmps:=tmps.setIfInBounds p v) h1 (fun q hq=>hp q (ee _ hq)) hrest:)
section
variable {P:Program}
theorem rk{N l:Nat}{fn:FuncId}{tmps:Array Value}{ps:List Nat}{assign body:Code}{D:Nat}{M:bQ}{E:Env}(hE:cF N M E {tmps:=tmps,defers:=[]})(hps:∀p∈ps,p<N){Sx:World->Prop}{Pre:List AC->aj->Prop}{lD:List AC->aj->aj->Prop}{EA:List AC->Env}
(hSx:∀w r,Sx w->Sx (w.putObj l r))(hSt:∀M H w M' H' w',H.get l=none->Sx w->bJ M H w M' H' w'->(∃xs,Pre xs H)->Sx w')
(hP:∀xs H,Pre xs H->xs.length=ps.length/\H.get l=none)
(hA:∀n xs H M1 w1 a1,M.le M1->cF N M1 (E.puts ps xs) a1->Sim M1 H w1->Pre xs H->assign.wpIn (kn (some l)) n P (sY N (fun e E' H'=>e=.normal/\E'=EA xs/\H'=H) M1 H w1 a1) a1 w1)
(hB:∀n xs H M1 w1 a1,M.le M1->cF N M1 (EA xs) a1->Sim M1 H w1->Pre xs H->Sx w1->l<w1.heap.size->body.wpIn (kn (some l)) n P (sY N (fun e E' H'=>e=.normal/\lD xs H H') M1 H w1 a1) a1 w1):
 ∀ro n xs H,Pre xs H->YC P ro n l xs M (fun w=>w.heap[l]?=some (.loop {state:=.ready,pending:=none,fn,tmps,params:=ps.toArray,assign,body,defers:=D})/\Sx w) H (lD xs H):=by
 intro ro n xs H hpre M' w' vs hle s hSd hr
 obtain⟨hl,hx⟩:=hSd
 obtain⟨hlen,hnl⟩:=hP xs H hpre
 obtain⟨rec,hrec⟩:∃rec:LoopState->Loop,rec=fun st=>{state:=st,pending:=none,fn,tmps,params:=ps.toArray,assign,body,defers:=D}:=⟨_,rfl⟩
 have hl0:w'.heap[l]?=some (.loop (rec .ready)):=by rw[hrec];exact hl
 have hnc:∀st a b c,Obj.loop (rec st)≠.cells a b c:=fun st a b c h=>by cases h
 have hlt:l<w'.heap.size:=(dv.1 hl).1
 have hy:=run_yield (P:=P) (args:=vs.toArray) hl (by simp;rw[<-hr.1];exact hlen)
 refine⟨fn,_,assign,body,hy,roundIn_of_wpIn trivial ?_⟩
 rw[Bq]
 have hE1:cF N M' (E.puts ps xs) {tmps:=(ps.toArray.zip vs.toArray).foldl (fun t pv=>t.setIfInBounds pv.1 pv.2) tmps,defers:=[]}:=by
  have:=cF.puts (hE.mono hle) hps hr
  have e:(ps.toArray.zip vs.toArray).foldl (fun t pv=>t.setIfInBounds pv.1 pv.2) tmps=(ps.zip vs).foldl (fun t pv=>t.setIfInBounds pv.1 pv.2) tmps:=by
   rw[<-Array.foldl_toList];simp
  rw[e];exact this
 refine wpIn_mono (hA n xs H M' w' _ hle hE1 s hpre) ?_
 rintro e a1 w1 ⟨xe,E',H',M1,he,⟨rfl,rfl,rfl⟩,hE',s1,t1,hd1⟩
 have hen:e=.normal:=by cases e<;>simp[dZ]at he⊢
 subst hen
 have hl1:w1.heap[l]?=some (.loop (rec .ready)):=by rw[(t1.same l hlt hnl).1];exact hl0
 have hbr:=run_beginRound (P:=P) hl1 (by rw[hrec])
 have s2:=s1.putRec hl1 (hnc _) hnl (.loop {rec .ready with state:=.busy})
 have hlt1:l<w1.heap.size:=(dv.1 hl1).1
 refine⟨_,hbr,?_⟩
 have hx1:Sx w1:=hSt _ _ _ _ _ _ hnl hx t1 ⟨xs,hpre⟩
 refine wpIn_mono (hB n xs H' M1 _ a1 (bQ.le_trans hle t1.le) hE' s2 hpre (hSx _ _ hx1) (by rw[World.putObj_size];exact hlt1)) ?_
 rintro e a3 w3 ⟨xe,E3,H3,M3,he,⟨rfl,hpost⟩,hE3,s3,t3,hd3⟩
 have hen:e=.normal:=by cases e<;>simp[dZ]at he⊢
 subst hen
 have hsz2:(w1.putObj l (.loop {rec .ready with state:=.busy})).heap.size=w1.heap.size:=World.putObj_size
 have hl3:w3.heap[l]?=some (.loop {rec .ready with state:=.busy}):=by
  rw[(t3.same l (by rw[hsz2];exact hlt1) hnl).1];exact World.putObj_heap_same hlt1
 have hend:=run_endRound (P:=P) none hl3
 have hn3:H3.get l=none:=by
  cases h:H3.get l with
  |none=>rfl
  |some o=>
   rcases t3.fresh l (by rw[h];simp)with h'|h'
   ·exact absurd hnl h'
   ·rw[hsz2]at h';omega
 refine⟨_,_,hend,rfl,M3,H3,s3.putRec hl3 (fun a b c h=>by cases h) hn3 _,⟨bQ.le_trans t1.le t3.le,?_,fun b hb hn=>?_,fun b hb=>?_,?_⟩,hpost⟩
 ·have:=t1.size;have:=t3.size;rw[hsz2]at this;rw[World.putObj_size];omega
 ·have hb1:b<w1.heap.size:=Nat.lt_of_lt_of_le hb t1.size
  obtain⟨e1,m1⟩:=t1.same b hb hn
  obtain⟨e3,m3⟩:=t3.same b (by rw[hsz2];exact hb1) hn
  refine⟨?_,fun o=>(m3 o).trans (m1 o)⟩
  by_cases hbl:b=l
  ·subst hbl
   rw[World.putObj_heap_same (dv.1 hl3).1,hl0,hrec]
   rfl
  ·rw[World.putObj_heap_other hbl,e3,World.putObj_heap_other hbl,e1]
 ·rcases t3.fresh b hb with h|h
  ·exact .inl h
  ·rw[hsz2]at h;exact .inr (bT t1.size h)
 ·exact((t1.io.trans (wu _ _ _)).trans t3.io).trans (wu _ _ _)
end
section
variable {P:Program}
theorem wG{f:FuncId}(h:jf P f=true)(args:Array Value)(w:World):(callFunc f args).run P w=.ok (.enter f args) w:=by
 simp only[jf]at h
 split at h
 ·rename_i fn hfn
  simp only[a6,bne_iff_ne,ne_eq]at h
  obtain⟨hb,hnm⟩:=h
  have hbn':fn.body≠none:=by intro h;simp[h]at hb
  simp[callFunc,program,hfn,hnm,hbn',Sem.run,Result.andThen]
 ·simp at h
def ItC(P:Program)(gf:FuncId)(cap:List AC)(H:aj)(Sx:World->Prop)(Pre:Nat->List AC->aj->Prop)(lD:Nat->List AC->aj->aj->Prop)(K:aj->Prop):Prop:=
 ∀(l:Nat) (o:Obj) (M:bQ) (w:World) (us:List Value),(∀a b c,o≠.cells a b c)->Sim M H w->w.heap[l]?=some o->H.get l=none->i9 M cap us->(∀M' H' w',bJ M H w M' H' w'->Sx w')->
  (∀ro n xs H',Pre l xs H'->YC P ro n l xs M (fun w=>w.heap[l]?=some o/\Sx w) H' (lD l xs H'))->
  CallsIn Fence.wide 0 P gf (#[.func (.yield l) #[] #[]]++us.toArray) w fun e w'=>(∃v,e=.returned v)/\∃M' H',Sim M' H' w'/\bJ M H w M' H' w'/\K H'
theorem AJ{n m:Nat}{f:FuncId}{args:Array Value}{w:World}{R:Ending->World->Prop}(h:CallsIn Fence.wide n P f args w R):CallsIn Fence.wide m P f args w R:=
 callsIn_wide.2 (callsIn_wide.1 h)
theorem zp{N n:Nat}{g:Operand}{ps:List Nat}{assign body:Code}{a:Act}{w:World}{M:bQ}{E:Env}{H:aj}{Q:Exit->Act->World->Prop}{gf:FuncId}{us:List Value}{cap:List AC}
(hE:cF N M E a)(s:Sim M H w)(hg:a.eval g=.func (.func gf) #[] us.toArray)(hgood:jf P gf=true)(hcap:i9 M cap us)
{Pre:Nat->List AC->aj->Prop}{lD:Nat->List AC->aj->aj->Prop}{K:aj->Prop}{Sx:World->Prop}(hit:ItC P gf cap H Sx Pre lD K)(hSx:∀M' H' w',bJ M H w M' H' w'->Sx w')
(hround:∀l D fn,w.heap.size<=l->∀ro n xs H',Pre l xs H'->YC P ro n l xs M (fun w'=>w'.heap[l]?=some (.loop {state:=.ready,pending:=none,fn,tmps:=a.tmps,params:=ps.toArray,assign,body,defers:=D})/\Sx w') H' (lD l xs H'))
(hQ:∀D M' H' w4,w.heap.size<=D->K H'->Sim M' H' w4->bJ M H w M' H' w4->H'.get D=none->w4.heap[D]?=some (.deferred (some []))->Q .normal {a with defers:={target:=.collected D,args:=#[]}::a.defers} w4):
 (Code.rangeFunc g ps.toArray assign body).wpIn Fence.wide n P Q a w:=by
 refine wpIn_rangeFunc ?_
 intro fn hfn
 show ∃l mark w₁ d w₁' f args w₂,(Instr.enterLoop fn a.tmps ps.toArray assign body none).run P w=.ok (l,mark) w₁/\_
 obtain⟨rec,hrec⟩:∃rec:LoopState->Loop,rec=fun st=>{state:=st,pending:=none,fn,tmps:=a.tmps,params:=ps.toArray,assign,body,defers:=w.heap.size}:=⟨_,rfl⟩
 obtain⟨W1,hW1⟩:∃W1,(w.alloc (.deferred (some []))).alloc (.loop (rec .ready))=W1:=⟨_,rfl⟩
 have hL1:W1.heap[w.heap.size+1]?=some (.loop (rec .ready)):=by
  rw[<-hW1];have:=World.alloc_heap_new (w.alloc (.deferred (some []))) (.loop (rec .ready));rwa[World.size_alloc]at this
 have hold:∀b,b<w.heap.size->W1.heap[b]?=w.heap[b]?:=fun b hb=>by
  rw[<-hW1]
  show((w.heap.push _).push _)[b]?=_
  rw[Array.getElem?_push_lt (by simp;omega),Array.getElem_push_lt hb,dD hb]
 have hK1:W1.heap[w.heap.size]?=some (.deferred (some [])):=by
  rw[<-hW1]
  show((w.heap.push _).push _)[w.heap.size]?=_
  rw[Array.getElem?_push_lt (by simp),Array.getElem_push_eq]
 have hsz:W1.heap.size=w.heap.size+2:=by rw[<-hW1];simp
 have hn0:H.get w.heap.size=none:=s.free (aC _)
 have hn1:H.get (w.heap.size+1)=none:=s.free (by omega)
 have s1:Sim M H W1:=by
  refine⟨fun b o v hm=>?_,fun b o hb=>?_⟩
  ·have hb:=s.mem_lt hm
   have:=s.mem b o v hm
   rw[eU]at this⊢
   rw[hold b hb];exact this
  ·have hlt:=s.lt hb
   have:=s.obj b o hb
   cases o<;>simp only[iL,hold b hlt]at this⊢<;>exact this
 have t1:bJ M H w M H W1:=⟨bQ.le_refl _,by omega,fun b hb _=>⟨hold b hb,fun _=>rfl⟩,fun b hb=>.inl hb,by rw[<-hW1];exact⟨rfl,rfl⟩⟩
 have eg:=wG hgood
 refine⟨w.heap.size+1,[{target:=.collected w.heap.size,args:=#[]}],W1,{target:=.fn (.func gf) us.toArray,args:=#[.func (.yield (w.heap.size+1)) #[] #[]]},W1,gf,
  #[.func (.yield (w.heap.size+1)) #[] #[]]++us.toArray,W1,?_,?_,?_,?_,fun h=>by simp[Fence.wide]at h,?_⟩
 ·rw[<-hW1,hrec];exact run_enterLoop_outer _ _ _ _ _
 ·simp only[resolve,hg]
  simp[go_sem]
 ·intro f' hf';trivial
 ·simp[invoke,go_sem,eg]
 ·have hc:=hit (w.heap.size+1) (.loop (rec .ready)) M W1 us (fun a b c h=>by cases h) s1 hL1 hn1 hcap (fun M' H' w' t=>hSx _ _ _ (t1.trans t)) (by rw[hrec];exact hround (w.heap.size+1) w.heap.size fn (by omega))
  refine(AJ (m:=n - 1) hc).mono ?_
  rintro e W2 ⟨⟨v,rfl⟩,M2,H2,s2,t2,hK⟩
  have hl2:W2.heap[w.heap.size+1]?=some (.loop (rec .ready)):=by rw[(t2.same _ (by omega) hn1).1];exact hL1
  have hd2:W2.heap[w.heap.size]?=some (.deferred (some [])):=by rw[(t2.same _ (by omega) hn0).1];exact hK1
  have hend:=run_endLoop (P:=P) hl2 (by rw[hrec];simp)
  have hnew:∀b,b<W1.heap.size->H.get b=none->H2.get b=none:=fun b hb hn=>by
   cases h:H2.get b with
   |none=>rfl
   |some o=>
    rcases t2.fresh b (by rw[h];simp)with h'|h'
    ·exact absurd hn h'
    ·omega
  refine⟨none,_,by rw[hend,hrec],?_⟩
  refine hQ w.heap.size M2 H2 _ (aC _) hK (s2.putRec hl2 (fun a b c h=>by cases h) (hnew _ (by omega) hn1) _) ?_ (hnew _ (by omega) hn0) ?_
  ·have t:=t1.trans t2
   refine⟨t.le,by rw[World.putObj_size];exact t.size,fun b hb hn=>?_,t.fresh,t.io.trans (wu _ _ _)⟩
   rw[World.putObj_heap_other (by omega)]
   exact t.same b hb hn
  ·rw[World.putObj_heap_other (by omega)];exact hd2
end
section
variable {P:Program}
theorem pB{N n:Nat}{c y:Code}{xc:aY}(h:eR P N c=some xc)(hok:il P c xc=true){K:Env->aj->Prop}{M:bQ}{E:Env}{H:aj}{a:Act}{w:World}{Q:Exit->Act->World->Prop}
(hE:cF N M E a)(s:Sim M H w)(hw:xc.wp P (fun ex E' H'=>ex=.normal/\K E' H') E H)
(hy:∀E' H' M' a' w',K E' H'->cF N M' E' a'->Sim M' H' w'->bJ M H w M' H' w'->a'.defers=a.defers->y.wpIn Fence.wide n P Q a' w'):(Code.seq c y).wpIn Fence.wide n P Q a w:=by
 refine wpIn_seq (wpIn_mono (wpIn_wide.2 (aY.sound c h hok hE s hw)) ?_)
 rintro e a' w' ⟨xe,E',H',M',he,⟨rfl,hK⟩,hE',s',t',hd⟩
 cases e<;>simp[dZ]at he
 exact hy E' H' M' a' w' hK hE' s' t' hd
theorem sd{n:Nat}{fn:Func}{R:Ending->World->Prop}{a:Act}{w:World}{D:Nat}(hd:a.defers=[{target:=.collected D,args:=#[]}])(hD:w.heap[D]?=some (.deferred (some [])))
{v:Value}(hv:(results fn a.tmps).run P (w.putObj D (.deferred none))=.ok v (w.putObj D (.deferred none)))(hR:R (.returned v) (w.putObj D (.deferred none))):LeavesInM Fence.wide n P fn a.tmps R a.defers .returning w:=by
 rw[hd]
 refine⟨by simp,.inl ⟨_,_,rfl,run_takeDeferred hD,?_⟩⟩
 exact⟨_,hv,hR⟩
theorem cG{N i:Nat}{o:Array Oper}{xc:aY}(h:dh P N o false=some xc):eR P N (.region i o false)=some xc/\il P (.region i o false) xc=true:=⟨h,rfl⟩
def x_as0:aY:=rg [ef 0 2 (.box 0),mv 1 4 (.const (.slice none 0 0))]
def x_as1:aY:=rg [mv 0 6 1]
def x_as2:aY:=rg [mv 0 5 7]
def Bo:aY:=rg [ld 0 8 none 2,mv 1 9 5,⟨2,some 10,none,.lits 1 1 [.string (bl [])] [(0,(1,9))],[]⟩,ef 3 11 (.appendM 1 16 8 10),en 4 (.store 1 2 11)]
def x_as4:aY:=rg [ld 0 12 none 2,mv 1 4 12]
def nP(P:Program)(f:FuncId):Prop:=∃fn i0 i1 i2 i3 i4 b0 b1 o0 o1 o2 o3 o4,P.funcs[f]?=some fn/\fn.ntmps=13/\fn.results=#[.tmp 4]/\
 fn.body=some (.seq (.region i0 o0 false) (.seq (.seq (.region i1 o1 false) (.block b0 (.rangeFunc (.tmp 6) #[7] (.region i2 o2 false) (.block b1 (.region i3 o3 false))))) (.seq (.region i4 o4 false) .ret)))/\
 dh P 13 o0 false=some x_as0/\dh P 13 o1 false=some x_as1/\dh P 13 o2 false=some x_as2/\dh P 13 o3 false=some Bo/\dh P 13 o4 false=some x_as4
def Dt(B:Nat)(l:Nat)(xs:List AC)(H:aj):Prop:=H.get l=none/\l≠B/\∃n ss x,xs=[S n]/\H.get B=some (.cells [x])/\bM H 1 (aD ss) x/\ss.length<=2^30
def po(B:Nat)(l:Nat)(xs:List AC)(H H':aj):Prop:=∀n ss x,xs=[S n]->H.get B=some (.cells [x])->bM H 1 (aD ss) x->
 ∃x',H'.get B=some (.cells [x'])/\bM H' 1 (aD (ss++[n])) x'/\(∀d o,H.get d=some o->d≠B->¬cA x d->H'.get d=some o)/\∀d,cA x' d->cA x d\/H.get d=none
def AsEnd(B:Nat)(L:List ByteArray)(H H':aj):Prop:=∃x',H'.get B=some (.cells [x'])/\bM H' 1 (aD L) x'/\∀d o,H.get d=some o->d≠B->H'.get d=some o
theorem uG{a b:List ByteArray}(h:aD a=aD b):a=b:=by
 induction a generalizing b with
 |nil=>cases b with
  |nil=>rfl
  |cons y b=>simp[aD]at h
 |cons x a ih=>
  cases b with
  |nil=>simp[aD]at h
  |cons y b=>
   simp only[aD,aQ,List.cons.injEq,AC.lit.injEq,Value.string.injEq,and_true]at h
   rw[h.1,ih h.2]
theorem bM.rows_eq{H:aj}{sz:Nat}{es es':List (List AC)}{x:AC}(h:bM H sz es x)(h':bM H sz es' x):es=es':=by
 rcases h with⟨rfl,hx⟩|⟨b,n,m,hx,-⟩
 ·rcases h' with⟨rfl,-⟩|⟨b,n,m,hx',-⟩
  ·rfl
  ·rw[hx]at hx';simp at hx'
 ·rcases h' with⟨rfl,hx'⟩|⟨b,n,m,hx',-⟩
  ·rw[hx]at hx';simp at hx'
  ·rw[hx]at hx';simp at hx';exact hx'.2
theorem ny{N:Nat}{M:bQ}{xs:List AC}{vs:List Value}(hr:i9 M xs vs)(hlen:xs.length<=N):cF N M (mh xs) {tmps:=vs.toArray++fU (N - vs.toArray.size) undef,defers:=[]}:=by
 have hlv:=hr.1
 refine⟨by simp;omega,fun n=>?_⟩
 simp only[mh]
 by_cases c:n<xs.length
 ·have c':n<vs.length:=hr.1▸c
  rw[aw c]
  have:(vs.toArray++fU (N - vs.toArray.size) undef).getD n undef=vs[n]:=by
   rw[it,lh (by simpa using c')];simp[c']
  rw[this]
  exact hr.2 n _ _ (aw c) (aw c')
 ·rw[fY (by omega)]
  have:(vs.toArray++fU (N - vs.toArray.size) undef).getD n undef=undef:=by
   rw[it,Array.getElem?_append_right (by simp;omega),Array.getElem?_replicate]
   split<;>rfl
  rw[this]
  exact .tup rfl (by simp)
theorem YC.side{ro:Option Nat}{n l:Nat}{xs:List AC}{M:bQ}{Sd Sd':World->Prop}{H:aj}{R:aj->Prop}(h:YC P ro n l xs M Sd H R)(hs:∀w,Sd' w->Sd w):YC P ro n l xs M Sd' H R:=
 fun M' w' vs h1 h2 h3 h4=>h M' w' vs h1 h2 (hs _ h3) h4
theorem BH{M:bQ}{f:FuncId}{cap:List AC}{v:Value}(h:Rep M (.fn (.func f) [] cap) v):∃us:List Value,v=.func (.func f) #[] us.toArray/\i9 M cap us:=by
 cases h with
 |@fn _ _ _ vs us h1 h2 h3 h4=>
  have:vs=#[]:=by apply Array.eq_empty_of_size_eq_zero;simpa using h1.symm
  subst this
  exact⟨us.toList,by simp,by simpa using h3,fun j x v hx hv=>h4 j x v hx (by simpa using hv)⟩
theorem as_body{E:Env}{H:aj}{B:Nat}{n:ByteArray}{ss:List ByteArray}{x:AC}(e2:E 2=.ptr B 0)(e5:E 5=S n)(hB:H.get B=some (.cells [x]))(hx:bM H 1 (aD ss) x)(hl:ss.length<=2^30){K:Env->aj->Prop}
(h:∀E' H' x',H'.get B=some (.cells [x'])->bM H' 1 (aD (ss++[n])) x'->(∀d o,H.get d=some o->d≠B->¬cA x d->H'.get d=some o)->(∀d,cA x' d->cA x d\/H.get d=none)->K E' H'):
 Bo.wp P (fun e E' H'=>e=.normal/\K E' H') E H:=by
 simp only[Bo,go_sem,rE,rA,e2,e5,hB,az,aq,ay,a9]
 refine eB (es:=aD ss) (ys:=[[S n]]) (by simp only[go_sem,rE,rA];exact hx) (by simp[go_sem,bh]) (by simp) (by simp[aD];omega) ?_
 intro x' H2 fp hx' hfp hkeep hnew
 simp only[go_sem,rE,rA]at hkeep hnew
 have hBt:¬cA x B:=fun ht=>by obtain⟨n,m,e⟩:=hx.tok ht;rw[hB]at e;simp at e
 have hB2:H2.get B=some (.cells [x]):=by rw[hkeep B (by rw[hB];simp) hBt];exact hB
 simp only[go_sem,rE,rA,e2,hB2,hx'.one]
 have hrow:aD (ss++[n])=aD ss++[[S n]]:=by simp[aD]
 refine h _ _ x' (ai _ _ _) ?_ (fun d o hd hdB hdt=>?_) hnew
 ·rw[hrow]
  refine hx'.mono fun b hb=>ae _ _ ?_
  rintro rfl
  obtain⟨n,m,e⟩:=hx'.tok hb
  rw[hB2]at e;simp at e
 ·rw[ae _ _ hdB,hkeep d (by rw[hd];simp) hdt];exact hd
theorem uV{f:FuncId}(hA:nP P f){gf:FuncId}{cap:List AC}(hgood:jf P gf=true)(L:List ByteArray)(H:aj)
(hit:∀B,H.get B=none->ItC P gf cap (H.set B (.cells [NIL])) (fun _=>True) (Dt B) (po B) (AsEnd B L (H.set B (.cells [NIL])))):
 ACalls P f [NIL,.fn (.func gf) [] cap] H fun q H'=>q=.sl 1 none (aD L)/\H'=H:=by
 obtain⟨fn,i0,i1,i2,i3,i4,b0,b1,o0,o1,o2,o3,o4,hf,hN,hres,hb,r0,r1,r2,r3,r4⟩:=hA
 intro M w vs s hr
 refine(callsIn_wide (n:=0)).1 (callsIn_of_wp_marks hf hb trivial ?_ rfl)
 rw[hN]
 have hE:=ny (N:=13) hr (by simp)
 refine pB (cG r0).1 (cG r0).2 hE s (K:=fun E' H'=>∃B,H.get B=none/\E' 2=.ptr B 0/\E' 1=.fn (.func gf) [] cap/\H'=H.set B (.cells [NIL])) ?_ ?_
 ·simp only[x_as0,go_sem,rE,rA]
  intro B hB
  exact⟨B,hB,rfl,rfl⟩
 rintro E1 H1 M1 a1 w1 ⟨B,hB,e2,e1,rfl⟩ hE1 s1 t1 hd1
 refine wpIn_seq (pB (cG r1).1 (cG r1).2 hE1 s1 (K:=fun E' H'=>E' 2=.ptr B 0/\E' 6=.fn (.func gf) [] cap/\H'=H.set B (.cells [NIL])) ?_ ?_)
 ·simp only[x_as1,go_sem,rE,rA,e2,e1,and_self]
 rintro E2 H2 M2 a2 w2 ⟨f2,f6,rfl⟩ hE2 s2 t2 hd2
 refine wpIn_block ?_
 have hrep:=hE2.rep 6
 rw[f6]at hrep
 obtain⟨us,hus,hcap⟩:=BH hrep
 have hE2':cF 13 M2 E2 {tmps:=a2.tmps,defers:=[]}:=⟨hE2.size,hE2.rep⟩
 refine zp (ps:=[7]) (us:=us) (cap:=cap) hE2 s2 (by simpa[Act.eval]using hus) hgood hcap (hit B hB) (Sx:=fun _=>True) (fun _ _ _ _=>trivial) ?_ ?_
 ·intro l D fid hl ro n xs H' hpre
  refine(rk (Sx:=fun _=>True) (Pre:=Dt B l) (lD:=po B l) (EA:=fun xs=>(E2.puts [7] xs).put (some 5) ((E2.puts [7] xs) 7)) hE2' (by simp) (fun _ _ _=>trivial) (fun _ _ _ _ _ _ _ _ _ _=>trivial) ?_ ?_ ?_ ro n xs H' hpre)
  ·rintro xs H ⟨h1,-,n,ss,x,rfl,-⟩
   exact⟨rfl,h1⟩
  ·intro n xs H M1 w1 a1 hle hE s hp
   refine nj r2 hE s ?_
   simp only[x_as2,go_sem,rE,rA,and_self]
  ·rintro n xs H M1 w1 a1 hle hE s ⟨h1,hlB,nm,ss,x,rfl,hBx,hx,hss⟩ - -
   refine wpIn_block (wpIn_mono (nj r3 hE s (K:=fun e E' H'=>e=.normal/\po B l [S nm] H H') ?_) ?_)
   ·refine as_body (n:=nm) (ss:=ss) (x:=x) ?_ ?_ hBx hx hss ?_
    ·simp only[Env.puts,go_sem,rE];exact f2
    ·simp only[Env.puts,go_sem,rE]
    ·intro E' H' x' g1 g2 g3 g4 n2 ss2 x2 hn2 hB2 hx2
     simp only[List.cons.injEq,AC.lit.injEq,Value.string.injEq,and_true]at hn2
     subst hn2
     rw[hBx]at hB2
     simp at hB2
     subst hB2
     have:=uG (hx.rows_eq hx2)
     subst this
     exact⟨x',g1,g2,g3,g4⟩
   ·rintro e a' w' ⟨xe,E',H',M',he,⟨rfl,hP⟩,h1,h2,h3,h4⟩
    cases e<;>simp[dZ]at he
    exact⟨.normal,E',H',M',rfl,⟨rfl,hP⟩,h1,h2,h3,h4⟩
 ·intro D M3 H3 w3 hD ⟨x',hBx,hx',hkeep⟩ s3 t3 hDn hDr
  have hE3:cF 13 M3 E2 {a2 with defers:={target:=.collected D,args:=#[]}::a2.defers}:=⟨hE2.size,fun n=>(hE2.rep n).mono t3.le⟩
  refine pB (cG r4).1 (cG r4).2 hE3 s3 (K:=fun E' H'=>E' 4=x'/\H'=H3) ?_ ?_
  ·simp only[x_as4,go_sem,rE,rA,f2,hBx,a9,and_self]
  rintro E4 H4 M4 a4 w4 ⟨e4,rfl⟩ hE4 s4 t4 hd4
  refine wpIn_ret ?_
  have hDw4:w4.heap[D]?=some (.deferred (some [])):=by rw[(t4.same D (dv.1 hDr).1 hDn).1];exact hDr
  have s5:=s4.putRec hDw4 (fun a b c h=>by cases h) hDn (.deferred none)
  obtain⟨v,hv,hrv⟩:=jO (P:=P) (fn:=fn) (rs:=[.slot 4]) (by rw[hres];rfl) hE4 s5 (q:=E4 4) rfl
  have hdef:a4.defers=[{target:=.collected D,args:=#[]}]:=by rw[hd4];simp only[hd2,hd1]
  refine sd (a:=a4) hdef hDw4 hv ?_
  have t13:bJ M H w M4 H4 w4:=(((t1.trans t2).trans t3).trans t4)
  have hsub:H.sub H4:=fun b o hb'=>by
   have hbB:b≠B:=by rintro rfl;rw[hB]at hb';simp at hb'
   exact hkeep b o (by rw[ae _ _ hbB];exact hb') hbB
  refine⟨.sl 1 none (aD L),v,M4,H,rfl,?_,s5.sub hsub,?_,rfl,rfl⟩
  ·rw[e4]at hrv
   exact hx'.le _ _ hrv
  ·have t:=t13.weaken hsub
   refine⟨t.le,by rw[World.putObj_size];exact t.size,fun b hb' hn=>?_,t.fresh,t.io.trans (wu _ _ _)⟩
   have:w.heap.size<=w2.heap.size:=(t1.trans t2).size
   rw[World.putObj_heap_other (by omega)]
   exact t.same b hb' hn
end
section
variable {P:Program}
def Bn:aY:=rg [ld 0 4 none 1,pu 1 5 (.lenSl 4),pu 2 6 (.bin .sub 5 (ci 1)),mv 3 3 6]
def x_bk1:aY:=rg [mv 0 7 3,pu 1 8 (.bin .geq 7 (ci 0))]
def x_bk2:aY:=rg [mv 0 9 3,pu 1 10 (.bin .sub 9 (ci 1)),mv 2 3 10]
def x_bk3:aY:=rg ([mv 0 11 0,mv 1 12 3,ld 2 13 none 1,mv 3 14 3,ia 4 15 1 13 14,ld 5 16 none 15]++ef 6 17 (.callX .clos [11,12,16])::[pu 7 18 (.not 17)])
def mD(P:Program)(f:FuncId):Prop:=∃fn i0 i1 i2 i3 b0 b1 o0 o1 o2 o3,P.funcs[f]?=some fn/\fn.ntmps=19/\fn.results=#[]/\
 fn.body=some (.seq (.region i0 o0 false) (.block b0 (.loop (.seq (.seq (.region i1 o1 false) (.cond (.tmp 8) .skip (.exit b0))) (.seq (.block b1 (.seq (.region i3 o3 false) (.cond (.tmp 18) .ret .skip))) (.region i2 o2 false))))))/\
 dh P 19 o0 false=some Bn/\dh P 19 o1 false=some x_bk1/\dh P 19 o2 false=some x_bk2/\dh P 19 o3 false=some x_bk3
theorem YC.later{ro:Option Nat}{n l:Nat}{xs:List AC}{M M':bQ}{Sd:World->Prop}{H:aj}{R:aj->Prop}(h:YC P ro n l xs M Sd H R)(hm:M.le M'):YC P ro n l xs M' Sd H R:=
 fun M2 w' vs h1 h2 h3 h4=>h M2 w' vs (bQ.le_trans hm h1) h2 h3 h4
def iv:Value->Int|.int _ i=>i|_=>0
theorem wX{f:FuncId}(hB:mD P f){bs:Nat}{x:AC}{L:List ByteArray}{H:aj}{Sx:World->Prop}(hx:bM H 1 (aD L) x)(hL:L.length<=2^30){Pre:Nat->List AC->aj->Prop}{lD:Nat->List AC->aj->aj->Prop}
{J:Nat->List ByteArray->aj->Prop}(h0:∀l,H.get l=none->J l [] H)(hJx:∀l pre H',J l pre H'->H'.get bs=some (.cells [x]))(hPre:∀l pre n i H',J l pre H'->pre.length<L.length->Pre l [I i,S n] H')(hPost:∀l pre n i H' H'',J l pre H'->pre.length<L.length->lD l [I i,S n] H' H''->J l (pre++[n]) H'')
(hl:∀l pre H',J l pre H'->H'.get l=none):ItC P f [.ptr bs 0] H Sx Pre lD (fun H'=>∃l,J l L.reverse H'):=by
 obtain⟨fn,i0,i1,i2,i3,b0,b1,o0,o1,o2,o3,hf,hN,hres,hb,r0,r1,r2,r3⟩:=hB
 intro l o M w us hnc s hlo hln hcap hSx hY
 refine callsIn_of_wp_marks hf hb trivial ?_ rfl
 rw[hN]
 have hr:i9 M [.lit (.func (.yield l) #[] #[]),.ptr bs 0] ((#[.func (.yield l) #[] #[]]++us.toArray:Array Value).toList):=by
  refine⟨by simp[<-hcap.1],fun j y v hy hv=>?_⟩
  match j,hy,hv with
  |0,hy,hv=>simp at hy hv;subst hy hv;exact .lit trivial
  |1,hy,hv=>simp at hy;subst hy;exact hcap.2 0 _ _ rfl (by simpa using hv)
  |j+2,hy,hv=>simp at hy
 have hE:=ny (N:=19) hr (by simp)
 simp only[Array.toArray_toList]at hE
 have hrows:x=NIL/\L=[]\/∃tok,x=.sl 1 tok (aD L):=by
  rcases hx with⟨e1,e2⟩|⟨b,n,m,e,-⟩
  ·refine .inl ⟨e2,?_⟩
   cases L with
   |nil=>rfl
   |cons a l=>simp[aD]at e1
  ·exact .inr ⟨_,e⟩
 have hlen:(aD L).length=L.length:=by simp[aD]
 have hJ0:=h0 l hln
 refine pB (cG r0).1 (cG r0).2 hE s (K:=fun E' H'=>E' 0=.lit (.func (.yield l) #[] #[])/\E' 1=.ptr bs 0/\E' 3=I ((L.length:Int) - 1)/\H'=H) ?_ ?_
 ·have g:=hJx l [] H hJ0
  have w1:=aL (n:=(L.length:Int) - 1) (by omega) (by omega)
  rcases hrows with⟨rfl,rfl⟩|⟨tok,rfl⟩
  ·simp only[Bn,go_sem,rE,rA,g,a9]
   rfl
  ·simp only[Bn,go_sem,rE,rA,g,a9,hlen,w1]
 rintro E1 H1 M1 a1 w1 ⟨e0,e1,e3,rfl⟩ hE1 s1 t1 hd1
 have hSd:∀{M' H' w'},bJ M H1 w M' H' w'->w'.heap[l]?=some o/\Sx w':=fun t=>⟨by rw[(t.same l (dv.1 hlo).1 hln).1];exact hlo,hSx _ _ _ t⟩
 refine wpIn_block (wpIn_loop (fun a' w'=>∃k E' H' M',k<=L.length/\E' 0=.lit (.func (.yield l) #[] #[])/\E' 1=.ptr bs 0/\E' 3=I ((k:Int) - 1)/\J l (L.drop k).reverse H'/\cF 19 M' E' a'/\Sim M' H' w'/\bJ M H1 w M' H' w'/\a'.defers=[])
  (fun a' _=>(iv (a'.tmps.getD 3 undef)+1).toNat) ⟨L.length,E1,H1,M1,aC _,e0,e1,e3,by rw[lm];exact hJ0,hE1,s1,t1,hd1⟩ ?_)
 have hle:=t1.le
 have t1':=t1
 clear hE1 s1 t1 hd1 e0 e1 e3
 rintro a2 w2 ⟨k,E2,H2,M2,hk,e0,e1,e3,hJ,hE2,s2,t2,hd2⟩
 have hmu:(iv (a2.tmps.getD 3 undef)+1).toNat=k:=by
  have:=hE2.rep 3
  rw[e3]at this
  rw[lx this]
  simp[iv]
 rw[hmu]
 have g:=hJx l _ H2 hJ
 refine wpIn_seq (wpIn_seq (wpIn_mono (nj (ro:=none) r1 hE2 s2 (K:=fun e E' H'=>e=.normal/\E' 0=.lit (.func (.yield l) #[] #[])/\E' 1=.ptr bs 0/\E' 3=I ((k:Int) - 1)/\E' 8=B (decide (0<k))/\H'=H2) ?_) ?_))
 ·simp only[x_bk1,go_sem,rE,rA,e0,e1,e3]
  have:decide ((k:Int) - 1>=0)=decide (0<k):=by
   rw[bg,decide_eq_true_eq,decide_eq_true_eq];omega
  simp[this]
  omega
 rintro e a3 w3 ⟨xe,E3,H3,M3,he,⟨rfl,f0,f1,f3,f8,rfl⟩,hE3,s3,t3,hd3⟩
 cases e<;>simp[dZ]at he
 have hr8:=hE3.rep 8
 rw[f8]at hr8
 have hev:a3.eval (.tmp 8)=.bool (decide (0<k)):=by rw[<-lx hr8];rfl
 by_cases hk0:0<k
 ·refine wpIn_cond_true (by rw[hev];simp[hk0]) (wpIn_skip ?_)
  obtain⟨k,rfl⟩:∃j,k=j+1:=⟨k - 1,by omega⟩
  have hkl:k<L.length:=by omega
  rcases hrows with⟨-,rfl⟩|⟨tok,rfl⟩
  ·simp at hkl
  have hget:(aD L)[k]?=some [S L[k]]:=by simp[aD,hkl]
  have hkk:(((k+1:Nat):Int) - 1)=(k:Int):=by omega
  rw[hkk]at f3
  have hplen:(L.drop (k+1)).reverse.length<L.length:=by rw[List.length_reverse,fy];omega
  have hYC:=hY none 0 [I k,S L[k]] H3 (hPre l _ L[k] k H3 hJ hplen)
  refine wpIn_seq (wpIn_block (wpIn_seq (wpIn_mono (vQ (ro:=none) (Sd:=fun w=>w.heap[l]?=some o/\Sx w) (K:=fun e E' H'=>e=.normal/\E' 0=.lit (.func (.yield l) #[] #[])/\E' 1=.ptr bs 0/\E' 3=I k/\E' 18=B false/\lD l [I k,S L[k]] H3 H') r3 hE3 s3 (by simp) (fun M' H' w' t=>hSd ((t2.trans t3).trans t)) ?_) ?_)))
  ·simp only[go_sem,rE,rA,f0,f1,f3,g,hget,a9]
   exact⟨l,[I k,S L[k]],_,rfl,hYC.later (t2.trans t3).le,fun _ h=>h⟩
  rintro e a4 w4 ⟨xe,E4,H4,M4,he,⟨rfl,q0,q1,q3,q18,hpost⟩,hE4,s4,t4,hd4⟩
  cases e<;>simp[dZ]at he
  have hr18:=hE4.rep 18
  rw[q18]at hr18
  refine wpIn_cond_false (by rw[<-lx hr18];rfl) (wpIn_skip ?_)
  refine wpIn_mono (nj (ro:=none) r2 hE4 s4 (K:=fun e E' H'=>e=.normal/\E' 0=.lit (.func (.yield l) #[] #[])/\E' 1=.ptr bs 0/\E' 3=I ((k:Int) - 1)/\H'=H4) ?_) ?_
  ·have w1:=aL (n:=(k:Int) - 1) (by omega) (by omega)
   simp only[x_bk2,go_sem,rE,rA,q0,q1,q3,w1,and_self]
  rintro e a5 w5 ⟨xe,E5,H5,M5,he,⟨rfl,p0,p1,p3,rfl⟩,hE5,s5,t5,hd5⟩
  cases e<;>simp[dZ]at he
  have hdrop:(L.drop (k+1)).reverse++[L[k]]=(L.drop k).reverse:=by rw[cj hkl,List.reverse_cons]
  refine⟨⟨k,E5,H5,M5,by omega,p0,p1,p3,?_,hE5,s5,(((t2.trans t3).trans t4).trans t5),?_⟩,?_⟩
  ·rw[<-hdrop];exact hPost l _ _ _ _ _ hJ hplen hpost
  ·rw[hd5,hd4,hd3,hd2]
  ·have:=hE5.rep 3
   rw[p3]at this
   rw[lx this]
   simp[iv]
 ·refine wpIn_cond_false (by rw[hev];simp[hk0]) (wpIn_exit ?_)
  have:k=0:=by omega
  subst this
  simp only[Exit.then,Exit.inBlock,if_true]
  obtain⟨v,hv,hrv⟩:=jO (P:=P) (fn:=fn) (rs:=[]) (by rw[hres];rfl) hE3 s3 (q:=.tup []) rfl
  have hdef:a3.defers=[]:=by rw[hd3,hd2]
  show LeavesInM _ _ _ _ _ _ a3.defers .returning w3
  rw[hdef]
  refine⟨v,hv,⟨v,rfl⟩,M3,H3,s3,t2.trans t3,l,?_⟩
  rw[iM]at hJ
  exact hJ
end
theorem qL(ns:List ByteArray)(n:ByteArray):mT (cR ns) n (I 1)=cR (n::ns):=by
 funext k
 by_cases hk:k=n
 ·subst hk;rw[ji];simp[cR,dN]
 ·rw[lr _ _ hk]
  have:eqB n k=false:=cN.2 (Ne.symm hk)
  simp[cR,this]
theorem yo(ns:List ByteArray)(n:ByteArray):cR (n::n::ns)=cR (n::ns):=by
 funext k
 simp only[cR,List.any_cons]
 by_cases h:eqB n k=true<;>simp[h]
theorem sc(ns:List ByteArray)(n:ByteArray):iZ (.lit (.int .i64 0)) false (cR ns n)=I (if ns.any (fun m=>eqB m n)then 1 else 0):=by
 unfold cR
 cases ns.any fun m=>eqB m n<;>simp[iZ]
def ken1(F:Ids):aY:=.loop (.seq (rg [pu 0 41 (.bin .lss 40 39)]) (.seq (.cond 41 .skip (.exit 2)) (.seq (.block 3 (.seq (rg [ia 0 42 2 38 40,ld 1 43 (some 2) 42,ef 2 10 (.alloc [.string (bl []),.slice none 0 0]),en 3 (.store 2 10 43)]) (.seq (rg [ld 0 44 (some 2) 10,ld 1 45 (some 2) 2,ca 2 46 33 [44,45],mv 3 47 46,gp 4 48 47 false (.move 4),gp 5 49 47 false (.fieldAddr 0 10),gl 6 50 47 false none 49,⟨7,some 51,some (47,false),.eff (.callX (.lookup (.lit (.int .i64 0)) false) [48,50]),[]⟩,gp 8 52 47 false (.bin .gtr 51 (ci 0)),pu 9 53 (.pick 47 ct 52)]) (.cond 53 (rg [mv 0 54 4,mv 1 55 7,en 2 (.callX .mapSet [54,55,ci 1])]) .skip)))) (rg [pu 0 56 (.bin .add 40 (ci 1)),mv 1 40 56]))))
def vv(F:Ids):aY:=.seq (rg [ld 0 14 none 1,nc 1 15 14,fa 2 16 1 15,ld 3 17 none 16,pu 4 18 (.lenSl 17),mv 5 19 (ci 0)]) (.block 0 (.loop (.seq (rg [pu 0 20 (.bin .lss 19 18)]) (.seq (.cond 20 .skip (.exit 0)) (.seq (.block 1 (.seq (rg [ia 0 21 1 17 19,ld 1 22 none 21,mv 2 7 22]) (.seq (rg [ld 0 23 none 1,nc 1 24 23,fa 2 25 2 24,ld 3 26 none 25,mv 4 27 7,ef 5 28 (.callX (.lookup (.agg [.lit (.slice none 0 0),.lit (.bool false),.lit (.bool false),.lit (.bool false),.lit (.bool false),.lit (.slice none 0 0)]) false) [26,27]),ef 6 8 (.alloc [.slice none 0 0,.bool false,.bool false,.bool false,.bool false,.slice none 0 0]),en 7 (.store 6 8 28)]) (.seq (.seq (rg [fa 0 29 3 8,ld 1 30 none 29,pu 2 31 (.not 30),mv 3 32 31,gp 4 33 32 false (.fieldAddr 2 8),gl 5 34 32 false none 33,gp 6 35 32 false (.not 34),pu 7 36 (.pick 32 ct 35)]) (.cond 36 (.exit 1) .skip)) (.seq (.seq (rg [fa 0 37 5 8,ld 1 38 none 37,pu 2 39 (.lenSl 38),mv 3 40 (ci 0)]) (.block 2 (ken1 F))) (.seq (rg [mv 0 57 4,mv 1 58 7,ef 2 59 (.callX (.lookup (.lit (.int .i64 0)) false) [57,58]),pu 3 60 (.bin .gtr 59 (ci 0))]) (.cond 60 (rg [mv 0 61 5,mv 1 62 7,⟨2,some 63,none,.lits 1 1 [.string (bl [])] [(0,(1,62))],[]⟩,ef 3 64 (.appendM 1 16 61 63),mv 4 5 64]) .skip))))))) (rg [pu 0 65 (.bin .add 19 (ci 1)),mv 1 19 65]))))))
section
variable {P:Program}{F:Ids}{er:bU}
noncomputable def kT(p:Pl)(Es:List ByteArray)(qs:List Pl):Bool:=qs.any fun q=>q.meet p||Es.any fun m=>eqB m q.name
theorem ken1_wp(L:Lib P F){K:cS->Env->aj->Prop}{E:Env}{H:aj}{p:Pl}{qs:List Pl}{nm:ByteArray}{Es:List ByteArray}{mo c:Nat}(hp:p.path.length<=2^30)(hq:∀q∈qs,q.path.length<=2^30)(hql:qs.length<=2^30)
(e2:E 2=.ptr c 0)(e4:E 4=.mp mo)(e7:E 7=S nm)(e38:E 38=.sl 2 none (qs.map Pl.enc))(e39:E 39=I qs.length)(e40:E 40=I 0)(gc:H.get c=some (.cells [S p.name,au p.path]))(gm:H.get mo=some (.map (cR Es)))
(hK:∀E' H',E' 0=E 0->E' 1=E 1->E' 2=E 2->E' 3=E 3->E' 4=E 4->E' 5=E 5->E' 7=E 7->E' 17=E 17->E' 18=E 18->E' 19=E 19->H'.get mo=some (.map (cR (if kT p Es qs then nm::Es else Es)))->
  (∀d o,H.get d=some o->d≠mo->H'.get d=some o)->K (.exit 2) E' H'):(ken1 F).wp P K E H:=by
 unfold ken1
 have dcm:c≠mo:=by rintro rfl;rw[gc]at gm;simp at gm
 refine aT qs.length (fun j E' H'=>(E' 0=E 0/\E' 1=E 1/\E' 2=.ptr c 0/\E' 3=E 3/\E' 4=.mp mo/\E' 5=E 5/\E' 7=S nm/\E' 17=E 17/\E' 18=E 18/\E' 19=E 19)/\E' 38=.sl 2 none (qs.map Pl.enc)/\E' 39=I qs.length/\E' 40=I j/\
  H'.get mo=some (.map (cR (if kT p Es (qs.take j)then nm::Es else Es)))/\∀d o,H.get d=some o->d≠mo->H'.get d=some o)
  ⟨⟨rfl,rfl,e2,rfl,e4,rfl,e7,rfl,rfl,rfl⟩,e38,e39,e40,by simp only[List.take_zero,kT,List.any_nil,av,if_false];exact gm,fun _ _ h _=>h⟩ ?_
 rintro j E' H' hj ⟨⟨q0,q1,q2,q3,q4,q5,q7,q17,q18,q19⟩,q38,q39,q40,gmo,kk⟩
 simp only[go_sem,rE,rA,rL,q39,q40]
 refine aF (fun hlt=>?_) (fun hge=>?_)
 ·have hj1:j<qs.length:=by omega
  have w1:=aL (n:=(j:Int)+1) (by omega) (by omega)
  have hg:=pG (ps:=qs) (k:=j) hj1
  have gc':=kk c _ gc dcm
  have hmt:=zA L qs[j] p (bT (hq _ (ax hj1)) (by decide)) (bT hp (by decide))
  rw[Pl.enc,Pl.enc]at hmt
  have hsnoc:kT p Es (qs.take (j+1))=(kT p Es (qs.take j)||(qs[j].meet p||Es.any fun m=>eqB m qs[j].name)):=by
   unfold kT
   rw[aA hj1,ft]
   simp
  simp only[go_sem,rE,rA,rL,q38,q40,hg]
  intro b10 hb10
  have d10:=al gc' hb10
  have d10m:=al gmo hb10
  have kk10:∀(o':cM) d o,H.get d=some o->d≠mo->(H'.set b10 o').get d=some o:=fun o' d o hd hdm=>by
   have:=kk d o hd hdm
   rw[ae _ _ (al this hb10)];exact this
  simp only[go_sem,rE,rA,rL,q2,gc',d10]
  refine ao hmt rfl ?_
  have gmb:∀o',(H'.set b10 o').get mo=some (.map (cR (if kT p Es (qs.take j)then nm::Es else Es))):=fun o'=>(ae _ _ d10m).trans gmo
  have hset:cR (nm::if kT p Es (qs.take j)then nm::Es else Es)=cR (nm::Es):=by
   cases kT p Es (qs.take j)
   ·rfl
   ·exact yo Es nm
  have h10:decide ((1:Int)>0)=true:=by decide
  have h00:decide ((0:Int)>0)=false:=by decide
  cases hm:qs[j].meet p
  ·simp only[go_sem,rE,rA,rL,q4]
   refine gh (k:=qs[j].name) (g:=cR (if kT p Es (qs.take j)then nm::Es else Es)) (by simp only[go_sem,rE,aQ,bA,q4]) (gmb _) trivial ?_
   rw[sc]
   by_cases hx:((if kT p Es (qs.take j)then nm::Es else Es).any fun m=>eqB m qs[j].name)=true
   ·have hh:kT p Es (qs.take (j+1))=true:=by
     rw[hsnoc,hm]
     cases hc:kT p Es (qs.take j)
     ·rw[hc]at hx
      simpa using hx
     ·rfl
    rw[hh,if_pos rfl]
    simp only[hx,if_true]
    simp only[go_sem,rE,rA,rL,q4,q7,h10]
    refine kK (k:=nm) (v:=I 1) (v':=I 1) (g:=cR (if kT p Es (qs.take j)then nm::Es else Es)) (by simp only[go_sem,rE,aQ,bA,q4,q7]) (.refl _) (gmb _) trivial ?_
    rw[qL,hset]
    simp only[go_sem,rE,rA,rL,q40,w1]
    exact⟨hj1,_,aj.sub_refl _,⟨q0,q1,q2,q3,q4,q5,q7,q17,q18,q19⟩,q38,q39,rfl,ai _ _ _,fun d o hd hdm=>by rw[ae _ _ hdm];exact kk10 _ d o hd hdm⟩
   ·have hh:kT p Es (qs.take (j+1))=kT p Es (qs.take j):=by
     rw[hsnoc,hm]
     cases hc:kT p Es (qs.take j)
     ·rw[hc]at hx
      simpa using hx
     ·rfl
    rw[hh]
    have hx':((if kT p Es (qs.take j)then nm::Es else Es).any fun m=>eqB m qs[j].name)=false:=by simpa using hx
    simp only[hx',av,if_false]
    simp only[go_sem,rE,rA,rL,q4,q7,q40,w1,h00]
    exact⟨hj1,_,aj.sub_refl _,⟨q0,q1,q2,q3,q5,q17,q18,q19⟩,q38,q39,rfl,gmb _,kk10 _⟩
  ·have hh:kT p Es (qs.take (j+1))=true:=by rw[hsnoc,hm];simp
   rw[hh,if_pos rfl]
   simp only[go_sem,rE,rA,rL,q4,q7]
   refine kK (k:=nm) (v:=I 1) (v':=I 1) (g:=cR (if kT p Es (qs.take j)then nm::Es else Es)) (by simp only[go_sem,rE,aQ,bA,q4,q7]) (.refl _) (gmb _) trivial ?_
   rw[qL,hset]
   simp only[go_sem,rE,rA,rL,q40,w1]
   exact⟨hj1,_,aj.sub_refl _,⟨q0,q1,q2,q3,q4,q5,q7,q17,q18,q19⟩,q38,q39,rfl,ai _ _ _,fun d o hd hdm=>by rw[ae _ _ hdm];exact kk10 _ d o hd hdm⟩
 ·have hjj:j=qs.length:=by omega
  subst hjj
  rw[aR]at gmo
  simp only[go_sem,rE,rA,rL]
  exact hK _ _ (by simp only[go_sem,rE,q0]) (by simp only[go_sem,rE,q1]) (by simp only[go_sem,rE,q2,e2]) (by simp only[go_sem,rE,q3]) (by simp only[go_sem,rE,q4,e4]) (by simp only[go_sem,rE,q5]) (by simp only[go_sem,rE,q7,e7]) (by simp only[go_sem,rE,q17]) (by simp only[go_sem,rE,q18]) (by simp only[go_sem,rE,q19]) gmo kk
end
section
variable {P:Program}{F:Ids}{er:bU}
theorem ea3_wp(L:Lib P F){K:Env->aj->Prop}{E:Env}{H:aj}{s:Nat}{v:Sc}{ORD HELD:AC}{m1 m2 b c mo:Nat}{p:Pl}(hE:cH F er H s v ORD HELD m1 m2)(hnd:(v.vars.map (·.name)).Nodup)(hvl:v.vars.length<=2^30)(hp:p.path.length<=2^30)
(hqp:∀x∈v.vars,∀q∈x.loans,q.path.length<=2^30)(hql:∀x∈v.vars,x.loans.length<=2^30)(gb:H.get b=some (.cells [.ptr s 0]))(gc:H.get c=some (.cells [S p.name,au p.path]))(gm:H.get mo=some (.map fun _=>none))(hms:mo≠m1)
(e1:E 1=.ptr b 0)(e2:E 2=.ptr c 0)(e4:E 4=.mp mo)(e5:E 5=NIL)
(hK:∀E' H',E' 0=E 0->E' 3=E 3->bM H' 1 (aD (bL v.vars p).reverse) (E' 5)->(∀d o,H.get d=some o->d≠mo->H'.get d=some o)->(∀d,cA (E' 5) d->H.get d=none)->K E' H'):
 (vv F).wp P (fun ex E' H'=>ex=.normal/\K E' H') E H:=by
 have ho:=hE.obj
 simp only[ScO]at ho
 have hlen:(aD (v.vars.map (·.name))).length=v.vars.length:=by simp[aD]
 rcases hE.ord with⟨hnil,hO⟩|⟨ob,on,om,hO,hob⟩
 ·have hv:v.vars=[]:=by rw[hnil]at hlen;exact bu hlen.symm
  subst hO
  simp only[vv,go_sem,rE,rA,rL,e1,gb,ho,a9]
  refine aT 0 (fun k E' H'=>E' 0=E 0/\E' 3=E 3/\E' 5=NIL/\E' 18=I 0/\E' 19=I k/\H'=H) ⟨rfl,rfl,e5,rfl,rfl,rfl⟩ ?_
  rintro k E' H' hk ⟨q0,q3,q5,q18,q19,rfl⟩
  have:k=0:=by omega
  subst this
  simp only[go_sem,rE,rA,rL,q18,q19,cW,Int.lt_irrefl]
  refine hK _ _ (by simp only[go_sem,rE,q0]) (by simp only[go_sem,rE,q3]) ?_ (fun d o hd _=>hd) ?_
  ·simp only[go_sem,rE,q5,hv];exact .inl ⟨rfl,rfl⟩
  ·simp only[go_sem,rE,q5];rintro d ⟨_,_,_,_,e⟩;simp at e
 ·subst hO
  have hms':∀d o,H.get d=some o->(∀f,o≠.map f)->d≠mo:=fun d o hd hn=>by rintro rfl;rw[gm]at hd;simp at hd;exact hn _ hd.symm
  have dbm:=hms' b _ gb (by simp)
  have dcm:=hms' c _ gc (by simp)
  have dsm:=hms' s _ ho (by simp)
  simp only[vv,go_sem,rE,rA,rL,e1,gb,ho,a9,hlen]
  refine aT v.vars.length (fun k E' H'=>(E' 0=E 0/\E' 3=E 3)/\E' 1=.ptr b 0/\E' 2=.ptr c 0/\E' 4=.mp mo/\E' 17=.sl 1 (some (ob,on,om)) (aD (v.vars.map (·.name)))/\E' 18=I v.vars.length/\E' 19=I k/\
   bM H' 1 (aD (bL (v.vars.take k) p).reverse) (E' 5)/\H'.get mo=some (.map (cR (bL (v.vars.take k) p)))/\(∀d o,H.get d=some o->d≠mo->H'.get d=some o)/\∀d,cA (E' 5) d->H.get d=none)
   ⟨⟨rfl,rfl⟩,e1,e2,e4,rfl,rfl,rfl,by simp only[go_sem,rE,e5];exact .inl ⟨rfl,rfl⟩,by rw[gm];simp only[List.take_zero,bL,List.foldl_nil,sn],fun d o hd _=>hd,by simp only[go_sem,rE,e5];rintro d ⟨_,_,_,_,e⟩;simp at e⟩ ?_
  rintro k E' H' hk ⟨⟨q0,q3⟩,q1,q2,q4,q17,q18,q19,qa,qm,kk,kt⟩
  simp only[go_sem,rE,rA,rL,q18,q19]
  refine aF (fun hlt=>?_) (fun hge=>?_)
  ·have hk1:k<v.vars.length:=by omega
   have w1:=aL (n:=(k:Int)+1) (by omega) (by omega)
   have hg:=lI (ns:=v.vars.map (·.name)) (k:=k) (by simpa using hk1)
   rw[iC]at hg
   have hnm:dk v.vars v.vars[k].name=some (v.vars[k].ent (fM v.vars v.vars[k].name)):=by simp only[dk,rj hnd hk1,bO]
   have hsn:=jG (v.vars.take k) v.vars[k] p
   rw[<-aA hk1]at hsn
   have hbg:=kk b _ gb dbm
   have hsg:=kk s _ ho dsm
   have hcg:=kk c _ gc dcm
   have hmg:=kk m1 _ hE.names (Ne.symm hms)
   simp only[go_sem,rE,rA,rL,q1,q17,q19,hg,hbg,hsg,a9]
   refine gh (k:=v.vars[k].name) (g:=dk v.vars) rfl hmg trivial ?_
   simp only[hnm,iZ,av,if_false,Vr.ent]
   simp only[go_sem,rE,rA,rL]
   intro b8 hb8
   have kk8:∀(o':cM) d o,H.get d=some o->d≠mo->(H'.set b8 o').get d=some o:=fun o' d o hd hdm=>by
    have:=kk d o hd hdm
    rw[ae _ _ (al this hb8)];exact this
   have d8m:=al qm hb8
   have qm8:∀o',(H'.set b8 o').get mo=some (.map (cR (bL (v.vars.take k) p))):=fun o'=>(ae _ _ d8m).trans qm
   have qa8:∀o',bM (H'.set b8 o') 1 (aD (bL (v.vars.take k) p).reverse) (E' 5):=fun o'=>qa.new hb8 o'
   have hnin:v.vars[k].name∉bL (v.vars.take k) p:=fun hm=>by
    obtain⟨i,hi,e⟩:=jm _ p hm
    have hik:i<k:=by rw[bD]at hi;omega
    have hi2:i<v.vars.length:=by omega
    rw[List.getElem_take]at e
    have:=rY hnd hi2 hk1 e
    omega
   cases hdd:v.vars[k].dead
   ·cases hll:v.vars[k].lent
    ·have hsame:bL (v.vars.take (k+1)) p=bL (v.vars.take k) p:=by rw[hsn,hdd,hll];rfl
     simp only[go_sem,rE,rA,rL,q19,w1]
     exact⟨hk1,_,aj.sub_refl _,⟨q0,q3⟩,q1,q2,q4,q17,q18,rfl,by rw[hsame];exact qa8 _,by rw[hsame];exact qm8 _,kk8 _,kt⟩
    ·have hcg8:=kk8 (.cells [.sl 1 none (Ty.encs v.vars[k].type.kids),B v.vars[k].param,B true,B (!false),B (fM v.vars v.vars[k].name),.sl 2 none (v.vars[k].loans.map Pl.enc)]) c _ gc dcm
     have hxm:v.vars[k]∈v.vars:=ax hk1
     simp only[go_sem,rE,rA,rL,am]
     refine ken1_wp L (p:=p) (qs:=v.vars[k].loans) (nm:=v.vars[k].name) (Es:=bL (v.vars.take k) p) (mo:=mo) (c:=c) hp (hqp _ hxm) (hql _ hxm) (by simp only[go_sem,rE,q2]) (by simp only[go_sem,rE,q4]) (by simp only[go_sem,rE]) (by simp only[go_sem,rE]) (by simp only[go_sem,rE,am]) (by simp only[go_sem,rE]) hcg8 (qm8 _) ?_
     intro E2 H2 f0 f1 f2 f3 f4 f5 f7 f17 f18 f19 gm2 kk2
     simp only[go_sem,rE,rA]at f0 f1 f2 f3 f4 f5 f7 f17 f18 f19
     have hh:kT p (bL (v.vars.take k) p) v.vars[k].loans=(v.vars[k].loans.any fun q=>q.meet p||(bL (v.vars.take k) p).any fun m=>eqB m q.name):=rfl
     rw[<-hh]at hsn
     have kkH:∀d o,H.get d=some o->d≠mo->H2.get d=some o:=fun d o hd hdm=>kk2 d o (kk8 _ d o hd hdm) hdm
     have qa2:bM H2 1 (aD (bL (v.vars.take k) p).reverse) (E' 5):=(qa8 (.cells [.sl 1 none (Ty.encs v.vars[k].type.kids),B v.vars[k].param,B true,B (!false),B (fM v.vars v.vars[k].name),.sl 2 none (v.vars[k].loans.map Pl.enc)])).mono fun d hd=>by
      obtain⟨n,m,e⟩:=(qa8 (.cells [.sl 1 none (Ty.encs v.vars[k].type.kids),B v.vars[k].param,B true,B (!false),B (fM v.vars v.vars[k].name),.sl 2 none (v.vars[k].loans.map Pl.enc)])).tok hd
      have hdm:d≠mo:=by rintro rfl;rw[qm8]at e;simp at e
      rw[e];exact kk2 d _ e hdm
     simp only[go_sem,rE,rA,rL,f4,f7,q4]
     refine gh (k:=v.vars[k].name) (g:=cR (if kT p (bL (v.vars.take k) p) v.vars[k].loans then v.vars[k].name::bL (v.vars.take k) p else bL (v.vars.take k) p)) (by simp only[go_sem,rE,aQ,bA,f4,f7,q4]) gm2 trivial ?_
     rw[sc]
     cases hhit:kT p (bL (v.vars.take k) p) v.vars[k].loans
     ·have hsame:bL (v.vars.take (k+1)) p=bL (v.vars.take k) p:=by rw[hsn,hdd,hll,hhit];rfl
      rw[hhit]at gm2
      have hany:((bL (v.vars.take k) p).any fun m=>eqB m v.vars[k].name)=false:=by
       cases h:(bL (v.vars.take k) p).any fun m=>eqB m v.vars[k].name with
       |false=>rfl
       |true=>
        obtain⟨m,hm,he⟩:=fz.1 h
        exact absurd (cP.1 he▸hm) hnin
      have h00:decide ((0:Int)>0)=false:=by decide
      simp only[av,if_false,hany]
      simp only[go_sem,rE,rA,rL,h00,f19,q19,w1]
      refine⟨hk1,H2,aj.sub_refl _,⟨f0.trans q0,f3.trans q3⟩,f1.trans q1,f2.trans q2,f4.trans q4,f17.trans q17,f18.trans q18,rfl,?_,?_,kkH,?_⟩
      ·rw[hsame,f5];exact qa2
      ·rw[hsame];exact gm2
      ·rw[f5];exact kt
     ·have hsame:bL (v.vars.take (k+1)) p=v.vars[k].name::bL (v.vars.take k) p:=by rw[hsn,hdd,hll,hhit];rfl
      rw[hhit,if_pos rfl]at gm2
      have h10:decide ((1:Int)>0)=true:=by decide
      simp only[if_true,List.any_cons,dN,ew]
      simp only[go_sem,rE,rA,rL,h10,f5,f7,az,aq,ay]
      have hel:(bL (v.vars.take k) p).length<=v.vars.length:=by
       have:=(jl p (v.vars.take k) [] (v.vars.map (·.name)) (by simp) fun x hx=>aU.2 ⟨x,bp hx,rfl⟩).2
       rw[bD]at this
       simp only[bP,cz]at this
       exact bT this (Nat.min_le_right _ _)
      refine eB (es:=aD (bL (v.vars.take k) p).reverse) (ys:=[[S v.vars[k].name]]) (by simp only[go_sem,rE,rA,rL];exact qa2) (by simp[go_sem,bh]) (by simp) (by simp[aD];omega) ?_
      intro x' H3 fp hx' hfp hkeep hnew
      simp only[go_sem,rE,rA,rL]at hkeep hnew
      have hmt:¬cA (E' 5) mo:=fun ht=>by obtain⟨n,m,e⟩:=qa2.tok ht;rw[gm2]at e;simp at e
      have hrow:aD (v.vars[k].name::bL (v.vars.take k) p).reverse=aD (bL (v.vars.take k) p).reverse++[[S v.vars[k].name]]:=by simp[aD]
      simp only[go_sem,rE,rA,rL,f19,q19,w1]
      refine⟨hk1,H3,aj.sub_refl _,⟨f0.trans q0,f3.trans q3⟩,f1.trans q1,f2.trans q2,f4.trans q4,f17.trans q17,f18.trans q18,rfl,?_,?_,?_,?_⟩
      ·rw[hsame,hrow];exact hx'
      ·rw[hsame,hkeep mo (by rw[gm2];simp) hmt];exact gm2
      ·intro d o hd hdm
       rw[hkeep d (by rw[kkH d o hd hdm];simp) (fun ht=>by rw[kt d ht]at hd;simp at hd)]
       exact kkH d o hd hdm
      ·intro d hd
       rcases hnew d hd with h|h
       ·exact kt d h
       ·cases hq:H.get d with
        |none=>rfl
        |some o=>
         by_cases hdm:d=mo
         ·subst hdm;rw[gm2]at h;simp at h
         ·rw[kkH d o hq hdm]at h;simp at h
   ·have hsame:bL (v.vars.take (k+1)) p=bL (v.vars.take k) p:=by rw[hsn,hdd];rfl
    simp only[go_sem,rE,rA,rL,q19,w1]
    exact⟨hk1,_,aj.sub_refl _,⟨q0,q3⟩,q1,q2,q4,q17,q18,rfl,by rw[hsame];exact qa8 _,by rw[hsame];exact qm8 _,kk8 _,kt⟩
  ·have hkk:k=v.vars.length:=by omega
   subst hkk
   rw[aR]at qa qm
   simp only[go_sem,rE,rA,rL]
   exact hK _ _ (by simp only[go_sem,rE,q0]) (by simp only[go_sem,rE,q3]) (by simp only[go_sem,rE];exact qa) kk (by simp only[go_sem,rE];exact kt)
end
def x_ea0:aY:=rg [ef 0 3 (.box 0)]
def x_ea1:aY:=rg [ef 0 13 (.callX .mkMap []),mv 1 4 13]
def x_ea2:aY:=rg [mv 0 5 (.const (.slice none 0 0))]
def x_ea4(F:Ids):aY:=rg [mv 0 66 5,ca 1 67 61 [66]]
def x_ea5:aY:=rg [mv 0 12 69]
def x_ea6:aY:=rg ([ld 0 70 none 3,mv 1 71 12]++ef 2 72 (.callX .clos [70,71])::[pu 3 73 (.not 72)])
def yS(P:Program)(F:Ids):Prop:=∃fn i0 i1 i2 i4 i5 i6 b4 b5 o0 o1 o2 c3 o4 o5 o6,P.funcs[60]?=some fn/\fn.ntmps=74/\fn.results=#[]/\
 fn.body=some (.seq (.region i0 o0 false) (.seq (.region i1 o1 false) (.seq (.region i2 o2 false) (.seq c3 (.seq (.region i4 o4 false) (.block b4 (.rangeFunc (.tmp 67) #[68,69] (.region i5 o5 false) (.block b5 (.seq (.region i6 o6 false) (.cond (.tmp 73) .ret .skip))))))))))/\
 dh P 74 o0 false=some x_ea0/\dh P 74 o1 false=some x_ea1/\dh P 74 o2 false=some x_ea2/\eR P 74 c3=some (vv F)/\il P c3 (vv F)=true/\dh P 74 o4 false=some (x_ea4 F)/\dh P 74 o5 false=some x_ea5/\dh P 74 o6 false=some x_ea6
section
variable {P:Program}{F:Ids}{er:bU}
theorem uU(L:Lib P F){x:AC}(hx:x.cells?=some [x]):ACalls P 61 [x] .empty fun q H'=>∃b,q=.fn (.func 75) [] [.ptr b 0]/\H'=aj.empty.set b (.cells [x]):=by
 refine(L.a Tryz.func61 y61) (by simp[y61]) ?_
 simp only[y61,go_sem,rE,rA,hx]
 intro b hb
 exact ak (.refl _) (aj.sub_refl _) ⟨b,rfl,rfl⟩
theorem zT(H:aj){b:Nat}{o:cM}:H.swap .empty (aj.empty.set b o)=H.set b o:=by
 ext d:1
 rw[bx,aM,aM]
 by_cases h1:d=b
 ·simp[h1]
 ·simp[h1]
structure EndJ(Hr:aj)(B l l2:Nat)(pre:List ByteArray)(H':aj):Prop where
 l2n:H'.get l2=none
 l2B:l2≠B
 ln:H'.get l=none
 box:∃x',H'.get B=some (.cells [x'])/\bM H' 1 (aD pre) x'/\∀d,cA x' d->Hr.get d=none
 rest:∀d o,Hr.get d=some o->d≠B->H'.get d=some o
theorem CR(L:Lib P F)(hC:yS P F)(hB1:mD P 75)(hgB:jf P 75=true){H:aj}{s:Nat}{v:Sc}{ORD HELD:AC}{m1 m2 b c B:Nat}{p:Pl}(hS:cH F er H s v ORD HELD m1 m2)(hnd:(v.vars.map (·.name)).Nodup)(hvl:v.vars.length<=2^30)(hp:p.path.length<=2^30)
(hqp:∀x∈v.vars,∀q∈x.loans,q.path.length<=2^30)(hql:∀x∈v.vars,x.loans.length<=2^30)(gb:H.get b=some (.cells [.ptr s 0]))(gc:H.get c=some (.cells p.enc))(hB:H.get B=none):
 ItC P 60 [.ptr b 0,.ptr c 0] (H.set B (.cells [NIL])) (fun _=>True) (Dt B) (po B) (AsEnd B (bL v.vars p) (H.set B (.cells [NIL]))):=by
 obtain⟨fn,i0,i1,i2,i4,i5,i6,b4,b5,o0,o1,o2,c3,o4,o5,o6,hf,hN,hres,hb,r0,r1,r2,r3,r3ok,r4,r5,r6⟩:=hC
 intro l o M w us hnc s0 hlo hln hcap _ hY
 refine callsIn_of_wp_marks hf hb trivial ?_ rfl
 rw[hN]
 have hr:i9 M [.lit (.func (.yield l) #[] #[]),.ptr b 0,.ptr c 0] ((#[.func (.yield l) #[] #[]]++us.toArray:Array Value).toList):=by
  refine⟨by simp[<-hcap.1],fun j y v hy hv=>?_⟩
  match j,hy,hv with
  |0,hy,hv=>simp at hy hv;subst hy hv;exact .lit trivial
  |j+1,hy,hv=>exact hcap.2 j _ _ (by simpa using hy) (by simpa using hv)
 have hE:=ny (N:=74) hr (by simp)
 simp only[Array.toArray_toList]at hE
 have hS0:cH F er (H.set B (.cells [NIL])) s v ORD HELD m1 m2:=hS.new hB _
 have gb0:(H.set B (.cells [NIL])).get b=some (.cells [.ptr s 0]):=by rw[ae _ _ (al gb hB)];exact gb
 have gc0:(H.set B (.cells [NIL])).get c=some (.cells p.enc):=by rw[ae _ _ (al gc hB)];exact gc
 have gB0:(H.set B (.cells [NIL])).get B=some (.cells [NIL]):=ai _ _ _
 generalize H.set B (.cells [NIL])=H0 at*
 refine pB (cG r0).1 (cG r0).2 hE s0 (K:=fun E' H'=>∃b3,H0.get b3=none/\E' 1=.ptr b 0/\E' 2=.ptr c 0/\E' 3=.ptr b3 0/\H'=H0.set b3 (.cells [.lit (.func (.yield l) #[] #[])])) ?_ ?_
 ·simp only[x_ea0,go_sem,rE,rA,show(AC.lit (Value.func (Fn.yield l) #[] #[])).cells?=some [.lit (.func (.yield l) #[] #[])]from rfl]
  intro b3 hb3
  exact⟨b3,hb3,rfl,rfl⟩
 rintro E1 H1 M1 a1 w1 ⟨b3,hb3,e1,e2,e3,rfl⟩ hE1 s1 t1 hd1
 refine pB (cG r1).1 (cG r1).2 hE1 s1 (K:=fun E' H'=>∃mo,(H0.set b3 (.cells [.lit (.func (.yield l) #[] #[])])).get mo=none/\E' 1=.ptr b 0/\E' 2=.ptr c 0/\E' 3=.ptr b3 0/\E' 4=.mp mo/\H'=(H0.set b3 (.cells [.lit (.func (.yield l) #[] #[])])).set mo (.map fun _=>none)) ?_ ?_
 ·simp only[x_ea1,go_sem,rE,rA]
  refine qe fun mo hmo=>?_
  simp only[go_sem,rE,rA,e1,e2,e3]
  exact⟨mo,hmo,rfl,rfl⟩
 rintro E2 H2 M2 a2 w2 ⟨mo,hmo,f1,f2,f3,f4,rfl⟩ hE2 s2 t2 hd2
 refine pB (cG r2).1 (cG r2).2 hE2 s2 (K:=fun E' H'=>E' 1=.ptr b 0/\E' 2=.ptr c 0/\E' 3=.ptr b3 0/\E' 4=.mp mo/\E' 5=NIL/\H'=(H0.set b3 (.cells [.lit (.func (.yield l) #[] #[])])).set mo (.map fun _=>none)) ?_ ?_
 ·simp only[x_ea2,go_sem,rE,rA,f1,f2,f3,f4,and_self]
 rintro E3 H3 M3 a3 w3 ⟨g1,g2,g3,g4,g5,rfl⟩ hE3 s3 t3 hd3
 have hb3m:b3≠mo:=al (ai _ _ _) hmo
 have hmo0:H0.get mo=none:=by rw[ae _ _ (Ne.symm hb3m)]at hmo;exact hmo
 have up:∀d o,H0.get d=some o->((H0.set b3 (.cells [.lit (.func (.yield l) #[] #[])])).set mo (.map fun _=>none)).get d=some o:=fun d o hd=>by
  rw[ae _ _ (al hd hmo0),ae _ _ (al hd hb3)];exact hd
 have gy:((H0.set b3 (.cells [.lit (.func (.yield l) #[] #[])])).set mo (.map fun _=>none)).get b3=some (.cells [.lit (.func (.yield l) #[] #[])]):=by rw[ae _ _ hb3m,ai]
 have gmo:((H0.set b3 (.cells [.lit (.func (.yield l) #[] #[])])).set mo (.map fun _=>none)).get mo=some (.map fun _=>none):=ai _ _ _
 have hm1:mo≠m1:=by rintro rfl;rw[hS0.names]at hmo0;simp at hmo0
 have hsz:=(dv.1 hlo).1
 have hfr:∀{M':bQ} {H':aj} {w':World},bJ M H0 w M' H' w'->H'.get l=none:=fun t=>by
  rename_i M' H' w'
  cases h:H'.get l with
  |none=>rfl
  |some o'=>
   rcases t.fresh l (by rw[h];simp)with h'|h'
   ·exact absurd hln h'
   ·omega
 have hS3:=hS0.sub up
 have gb3:=up _ _ gb0
 have gc3:=up _ _ gc0
 have gB3:=up _ _ gB0
 generalize hH3:((H0.set b3 (.cells [.lit (.func (.yield l) #[] #[])])).set mo (.map fun _=>none))=H3 at*
 have hBmo:B≠mo:=al gB0 hmo0
 refine pB r3 r3ok hE3 s3 (K:=fun E' H'=>E' 3=.ptr b3 0/\bM H' 1 (aD (bL v.vars p).reverse) (E' 5)/\(∀d o,H3.get d=some o->d≠mo->H'.get d=some o)/\∀d,cA (E' 5) d->H3.get d=none) ?_ ?_
 ·exact ea3_wp L hS3 hnd hvl hp hqp hql gb3 (by rw[gc3,Pl.enc]) gmo hm1 g1 g2 g4 g5 fun E' H' h0 h3 h5 hk ht=>⟨h3.trans g3,h5,hk,ht⟩
 rintro E4 H4 M4 a4 w4 ⟨k3,k5,kk,kt⟩ hE4 s4 t4 hd4
 refine pB (cG r4).1 (cG r4).2 hE4 s4 (K:=fun E' H'=>∃bs,H4.get bs=none/\E' 3=.ptr b3 0/\E' 67=.fn (.func 75) [] [.ptr bs 0]/\H'=H4.set bs (.cells [E4 5])) ?_ ?_
 ·simp only[x_ea4,go_sem,rE,rA,k3]
  refine co (uU L (x:=E4 5) k5.one) (by simp only[go_sem,rE,aQ,bA]) (aj.sub_empty _) (fun h=>by simp at h) trivial ?_
  rintro q H5 ⟨bs,rfl,rfl⟩ hnew
  rw[zT]
  have hbs:=hnew bs (by rw[ai];simp) rfl
  simp only[go_sem,rE,rA,k3]
  exact⟨bs,hbs,rfl,rfl⟩
 rintro E5 H5 M5 a5 w5 ⟨bs,hbs,n3,n67,rfl⟩ hE5 s5 t5 hd5
 have t05:bJ M H0 w M5 (H4.set bs (.cells [E4 5])) w5:=(((t1.trans t2).trans t3).trans t4).trans t5
 have hd5':a5.defers=[]:=by rw[hd5,hd4,hd3,hd2,hd1]
 have hx5:bM (H4.set bs (.cells [E4 5])) 1 (aD (bL v.vars p).reverse) (E4 5):=k5.new hbs _
 have keep4:∀d o,H4.get d=some o->(H4.set bs (.cells [E4 5])).get d=some o:=fun d o hd=>by rw[ae _ _ (al hd hbs)];exact hd
 have gyr:(H4.set bs (.cells [E4 5])).get b3=some (.cells [.lit (.func (.yield l) #[] #[])]):=keep4 _ _ (kk _ _ gy hb3m)
 have gBr:(H4.set bs (.cells [E4 5])).get B=some (.cells [NIL]):=keep4 _ _ (kk _ _ gB3 hBmo)
 have gbs:(H4.set bs (.cells [E4 5])).get bs=some (.cells [E4 5]):=ai _ _ _
 have hbsB:bs≠B:=by rintro rfl;have:=keep4 bs _ (kk _ _ gB3 hBmo);have h4:=kk _ _ gB3 hBmo;rw[h4]at hbs;simp at hbs
 have hb3B:b3≠B:=by rintro rfl;rw[gB0]at hb3;simp at hb3
 have restR:∀d o,H0.get d=some o->d≠B->(H4.set bs (.cells [E4 5])).get d=some o:=fun d o hd _=>keep4 _ _ (kk _ _ (up _ _ hd) (al hd hmo0))
 have hlB:l≠B:=by rintro rfl;rw[hln]at gB0;simp at gB0
 have hlr:(H4.set bs (.cells [E4 5])).get l=none:=hfr t05
 have hsz5:l<w5.heap.size:=Nat.lt_of_lt_of_le hsz t05.size
 have hlo5:w5.heap[l]?=some o:=by rw[(t05.same l hsz hln).1];exact hlo
 generalize hHr:H4.set bs (.cells [E4 5])=Hr at*
 refine wpIn_block ?_
 have hrep:=hE5.rep 67
 rw[n67]at hrep
 obtain⟨us2,hus,hcap2⟩:=BH hrep
 have hE5':cF 74 M5 E5 {tmps:=a5.tmps,defers:=[]}:=⟨hE5.size,hE5.rep⟩
 have hLl:(bL v.vars p).reverse.length<=2^30:=by
  have:=(jl p v.vars [] (v.vars.map (·.name)) (by simp) fun x hx=>aU.2 ⟨x,hx,rfl⟩).2
  rw[List.length_reverse]
  simp only[bP,cz]at this
  exact bT this hvl
 refine zp (ps:=[68,69]) (us:=us2) (cap:=[.ptr bs 0]) (Pre:=fun l2 xs H'=>∃pre i n,xs=[I i,S n]/\EndJ Hr B l l2 pre H'/\pre.length<=2^30)
  (lD:=fun l2 xs H' H''=>(∀i n,xs=[I i,S n]->po B l [S n] H' H'')/\H''.get l2=none/\H''.get l=none) hE5 s5 (by simpa[Act.eval]using hus) hgB hcap2
  (wX hB1 (bs:=bs) (x:=E4 5) (L:=(bL v.vars p).reverse) hx5 hLl (J:=EndJ Hr B l) ?_ ?_ ?_ ?_ ?_) (Sx:=fun w'=>w'.heap[l]?=some o) ?_ ?_ ?_
 ·intro l2 h
  exact⟨h,by rintro rfl;rw[gBr]at h;simp at h,hlr,⟨NIL,gBr,.inl ⟨rfl,rfl⟩,fun d ⟨_,_,_,_,e⟩=>by simp at e⟩,fun d o hd _=>hd⟩
 ·intro l2 pre H' hj
  exact hj.rest _ _ gbs hbsB
 ·intro l2 pre n i H' hj hl
  exact⟨pre,i,n,rfl,hj,by omega⟩
 ·rintro l2 pre n i H' H'' hj hl ⟨hP,h1,h2⟩
  obtain⟨x',hx1,hx2,hx3⟩:=hj.box
  obtain⟨x2,y1,y2,y3,y4⟩:=hP i n rfl n pre x' rfl hx1 hx2
  have nt:∀d o,Hr.get d=some o->¬cA x' d:=fun d o hd ht=>by rw[hx3 d ht]at hd;simp at hd
  refine⟨h1,hj.l2B,h2,⟨x2,y1,y2,fun d hd=>?_⟩,fun d o hd hdB=>y3 d o (hj.rest d o hd hdB) hdB (nt d o hd)⟩
  rcases y4 d hd with h|h
  ·exact hx3 d h
  ·cases hq:Hr.get d with
   |none=>rfl
   |some o'=>
    by_cases hdB:d=B
    ·subst hdB;rw[hx1]at h;simp at h
    ·rw[hj.rest d o' hq hdB]at h;simp at h
 ·intro l2 pre H' hj;exact hj.l2n
 ·intro M' H' w' t
  show w'.heap[l]?=some o
  rw[(t.same l hsz5 hlr).1];exact hlo5
 ·
  intro l2 D fid hl2 ro n xs H' hpre
  have hl2l:l≠l2:=by omega
  refine(rk (N:=74) (Sx:=fun w'=>w'.heap[l]?=some o) (Pre:=fun xs H'=>∃pre i n,xs=[I i,S n]/\EndJ Hr B l l2 pre H'/\pre.length<=2^30)
   (lD:=fun xs H' H''=>(∀i n,xs=[I i,S n]->po B l [S n] H' H'')/\H''.get l2=none/\H''.get l=none)
   (EA:=fun xs=>(E5.puts [68,69] xs).put (some 12) ((E5.puts [68,69] xs) 69)) hE5' (by simp) ?_ ?_ ?_ ?_ ?_ ro n xs H' hpre)
  ·intro w' r h
   rw[World.putObj_heap_other hl2l];exact h
  ·rintro M' H' w' M'' H'' w'' - h t ⟨xs',pre',i',n',-,hj,-⟩
   rw[(t.same l (dv.1 h).1 hj.ln).1];exact h
  ·rintro xs' H' ⟨pre',i',n',rfl,hj,-⟩
   exact⟨rfl,hj.l2n⟩
  ·rintro n xs' H' M1 w1 a1 hle hE1 s1 -
   refine nj r5 hE1 s1 ?_
   simp only[x_ea5,go_sem,rE,rA,and_self]
  ·rintro n xs' H' M1 w1 a1 hle hE1 s1 ⟨pre',i',n',rfl,hj,hpl⟩ hx hlw
   have hyl:=hj.rest _ _ gyr hb3B
   have hlw1:l<w1.heap.size:=(dv.1 hx).1
   obtain⟨x',hbx1,hbx2,hbx3⟩:=hj.box
   refine wpIn_block (wpIn_seq (wpIn_mono (vQ (ro:=some l2) (Sd:=fun w=>w.heap[l]?=some o) (K:=fun e E' H''=>e=.normal/\E' 73=.lit (.bool false)/\po B l [S n'] H' H'') r6 hE1 s1 (by simp) (fun M' H'' w' t=>?_) ?_) ?_))
   ·rw[(t.same l hlw1 hj.ln).1];exact hx
   ·have hYC:=hY (some l2) (n - 1) [S n'] H' ⟨hj.ln,hlB,n',pre',x',rfl,hbx1,hbx2,hpl⟩
    simp only[Env.puts,go_sem,rE,rA,n3,hyl,a9]
    exact⟨l,[S n'],_,rfl,(hYC.later (bQ.le_trans t05.le hle)).side fun _ h=>⟨h,trivial⟩,fun _ h=>h⟩
   ·rintro e a2 w2 ⟨xe,E2,H2,M2,he,⟨rfl,q73,hpost⟩,hE2,s2,t2,hd2⟩
    cases e<;>simp[dZ]at he
    have hr73:=hE2.rep 73
    rw[q73]at hr73
    have hfr2:∀d,d<w1.heap.size->H'.get d=none->H2.get d=none:=fun d hd hn=>by
     cases h:H2.get d with
     |none=>rfl
     |some o'=>
      rcases t2.fresh d (by rw[h];simp)with h'|h'
      ·exact absurd hn h'
      ·omega
    refine wpIn_cond_false (by rw[<-lx hr73];rfl) (wpIn_skip ?_)
    refine⟨.normal,E2,H2,M2,rfl,⟨rfl,fun i n e=>?_,hfr2 l2 hlw hj.l2n,hfr2 l hlw1 hj.ln⟩,hE2,s2,t2,hd2⟩
    simp only[List.cons.injEq,AC.lit.injEq,Value.string.injEq,and_true]at e
    rw[<-e.2];exact hpost
 ·rintro D M6 H6 w6 hD ⟨l2,hj⟩ s6 t6 hDn hDr
  rw[List.reverse_reverse]at hj
  have s7:=s6.putRec hDr (fun a b c h=>by cases h) hDn (.deferred none)
  have hE6:cF 74 M6 E5 {a5 with defers:={target:=.collected D,args:=#[]}::a5.defers}:=⟨hE5.size,fun n=>(hE5.rep n).mono t6.le⟩
  obtain⟨v,hv,hrv⟩:=jO (P:=P) (fn:=fn) (rs:=[]) (by rw[hres];rfl) hE6 s7 (q:=.tup []) rfl
  show LeavesInM _ _ _ _ _ _ _ .returning w6
  refine sd (a:={a5 with defers:={target:=.collected D,args:=#[]}::a5.defers}) (by rw[hd5']) hDr hv ?_
  obtain⟨x',y1,y2,y3⟩:=hj.box
  have t:=t05.trans t6
  refine⟨⟨v,rfl⟩,M6,H6,s7,⟨t.le,by rw[World.putObj_size];exact t.size,fun b hb' hn=>?_,t.fresh,t.io.trans (wu _ _ _)⟩,x',y1,y2,fun d o hd hdB=>hj.rest d o (restR d o hd hdB) hdB⟩
  have:w.heap.size<=w5.heap.size:=t05.size
  rw[World.putObj_heap_other (by omega)]
  exact t.same b hb' hn
end
section
variable {P:Program}{F:Ids}{er:bU}
theorem yE(L:Lib P F)(hA:nP P 59)(hE:yS P F)(hB:mD P 75)(g1:jf P 75=true)(g2:jf P 60=true):ej P F er:=by
 intro H s v ORD HELD m1 m2 b c p hS hnd hvl hp hqp hql gb gc
 refine(L.a Tryz.func38 y38) (by simp[y38]) ?_
 simp only[y38,go_sem,rE,rA]
 refine co (uV hA (gf:=60) (cap:=[.ptr b 0,.ptr c 0]) g2 (bL v.vars p) H fun B hB0=>CR L hE hB g1 hS hnd hvl hp hqp hql gb gc hB0) ?_ (aj.sub_refl _) (fun h=>by simp at h) trivial ?_
 ·simp only[go_sem,rE,aQ,bA]
 rintro q H' ⟨rfl,rfl⟩ -
 simp only[go_sem,rE,rA,fq]
 exact ak (.refl _) (aj.sub_refl _) ⟨rfl,rfl⟩
end
structure AsIs(P:Program)(F:Ids)(er:bU)(H0:aj):Prop where
 nil:∀(x:AC) (H:aj),ACalls P 64 [ip,x] H fun q H'=>q=B false/\H'=H
 hit:∀(b t:Nat) (H:aj),H0.sub H->H.get t=some (.cells [.lit (.pointer none)])->ACalls P 64 [.iface 120 (.ptr b 0),.iface 122 (.ptr t 0)] H fun q H'=>q=B true/\H'=H.set t (.cells [.ptr b 0])
 is:∀(b:Nat) (i c k:Int) (H:aj),H0.sub H->(c=2\/c=3\/c=4\/c=5)->(k=2\/k=3\/k=4\/k=5)->H.get b=some (.cells [I i,.iface (er.t c) (er.x c)])->
  ACalls P 65 [.iface 120 (.ptr b 0),.iface (er.t k) (er.x k)] H fun q H'=>q=B (decide (c=k))/\H'=H
section
variable {P:Program}{F:Ids}{er:bU}
theorem yF(L:Lib P F)(T:Tys F)(hC:ej P F er){H0:aj}(hA:AsIs P F er H0)(p:Pg)(hc:p.small)(H:aj)(h0:H0.sub H)(he:fP F er H):
 ACalls P 40 [.agg (Pg.enc p)] H fun q H'=>q=.tup [I (fB p).1,I (fB p).2]/\H'=H:=by
 refine(L.a Tryz.func40 y40) (by simp[y40]) ?_
 have hpf:=sH L T p hc
 simp only[Pg.enc]at hpf
 simp only[y40,go_sem,rE,rA,rL,Pg.enc]
 intro b1 hb1
 have g1:=ai H b1 (.cells [.sl 12 none (p.map Fu.enc)])
 have k1:∀c o,H.get c=some o->(H.set b1 (.cells [.sl 12 none (p.map Fu.enc)])).get c=some o:=fun c o hc=>by rw[ae _ _ (al hc hb1)];exact hc
 have he1:fP F er (H.set b1 (.cells [.sl 12 none (p.map Fu.enc)])):=fun c hc=>k1 _ _ (he c hc)
 have fin:∀(E':Env) (H':aj) (a b:Int),E' 2=I a->E' 3=I b->H.sub H'->fB p=(a,b)->bk.post [.slot 2,.slot 3] (fun q H'=>q=.tup [I (fB p).1,I (fB p).2]/\H'=H) .ret E' H':=fun E' H' a b h2 h3 hs hsp=>gk hs ⟨by rw[h2,h3,hsp],rfl⟩
 generalize H.set b1 _=H1 at*
 refine ao hpf rfl ?_
 cases hf:fi p with
 |false=>
  simp only[go_sem,rE,rA,rL]
  exact fin _ _ 1 0 rfl rfl k1 (by simp[fB,hf])
 |true=>
 have hfn:=CU (er:=er) L T hC p hf H1 he1
 simp only[Pg.enc]at hfn
 simp only[go_sem,rE,rA,rL,g1]
 refine co hfn rfl (aj.sub_refl _) (fun h=>by simp at h) trivial ?_
 rintro q H3 h -
 rw[dg]
 rcases h with⟨h1,rfl,rfl⟩|⟨i,b,h1,h2,rfl,rfl⟩
 ·simp only[go_sem,rE,rA,rL]
  intro b5 hb5
  refine co (hA.nil _ _) rfl (aj.sub_refl _) (fun h=>by simp at h) trivial ?_
  rintro q H4 ⟨rfl,rfl⟩ -
  rw[dg]
  simp only[go_sem,rE,rA,rL]
  exact fin _ _ 0 0 rfl rfl (fun c o hc=>by rw[ae _ _ (al (k1 c o hc) hb5)];exact k1 c o hc) (by simp[fB,hf,h1])
 ·have hcode:dO p i=2\/dO p i=3\/dO p i=4\/dO p i=5:=by
   unfold lM at h1
   have h2:=List.find?_some h1
   simp only[decide_eq_true_eq]at h2
   have h3:dO p i=0\/dO p i=2\/dO p i=3\/dO p i=4\/dO p i=5:=by
    unfold dO at h2⊢
    split
    ·exact sv _ _
    ·exact .inl rfl
   omega
  have hsp:fB p=(dO p i,(i:Int)):=by simp[fB,hf,h1]
  generalize dO p i=c at*
  have hac:er.ac c=.iface (er.t c) (er.x c):=er.acn (by omega)
  rw[hac]
  have gb:=ai H1 b (.cells [I i,.iface (er.t c) (er.x c)])
  have k2:∀d o,H.get d=some o->(H1.set b (.cells [I i,.iface (er.t c) (er.x c)])).get d=some o:=fun d o hd=>by rw[ae _ _ (al (k1 d o hd) h2)];exact k1 d o hd
  generalize H1.set b _=H2 at*
  simp only[go_sem,rE,rA,rL]
  intro b5 hb5
  have gb5:=ai H2 b5 (.cells [.lit (.pointer none)])
  have d5:=al gb hb5
  have hset:(H2.set b5 (.cells [.lit (.pointer none)])).set b5 (.cells [.ptr b 0])=H2.set b5 (.cells [.ptr b 0]):=m8 _ _ _ _
  have k3:∀o d o',H.get d=some o'->(H2.set b5 o).get d=some o':=fun o d o' hd=>by rw[ae _ _ (al (k2 d o' hd) hb5)];exact k2 d o' hd
  refine co (hA.hit b b5 _ (fun d o hd=>k3 _ d o (h0 d o hd)) gb5) rfl (aj.sub_refl _) (fun h=>by simp at h) trivial ?_
  rintro q H4 ⟨rfl,rfl⟩ -
  rw[dg,hset]
  have gb:(H2.set b5 (.cells [.ptr b 0])).get b=_:=(ae _ _ d5).trans gb
  have gb5:=ai H2 b5 (.cells [.ptr b 0])
  have k3:=k3 (.cells [.ptr b 0])
  generalize H2.set b5 (.cells [.ptr b 0])=H4 at*
  have e2:=k3 _ _ (he 2 (.inl rfl))
  have e3:=k3 _ _ (he 3 (.inr (.inl rfl)))
  have e4:=k3 _ _ (he 4 (.inr (.inr (.inl rfl))))
  have f2:F.err 2=0:=rfl
  have f3:F.err 3=1:=rfl
  have f4:F.err 4=2:=rfl
  rw[f2]at e2
  rw[f3]at e3
  rw[f4]at e4
  have is:=fun k hk=>hA.is b i c k H4 (fun d o hd=>k3 d o (h0 d o hd)) hcode hk gb
  simp only[go_sem,rE,rA,rL,e2]
  refine co (is 2 (.inl rfl)) rfl (aj.sub_refl _) (fun h=>by simp at h) trivial ?_
  rintro q H5 ⟨rfl,rfl⟩ -
  rw[dg]
  by_cases c2:c=2
  ·simp only[go_sem,rE,rA,rL,c2,gb,gb5]
   exact fin _ _ 2 i rfl rfl k3 (by rw[hsp,c2])
  simp only[go_sem,rE,rA,rL,c2,e3]
  refine co (is 3 (.inr (.inl rfl))) rfl (aj.sub_refl _) (fun h=>by simp at h) trivial ?_
  rintro q H6 ⟨rfl,rfl⟩ -
  rw[dg]
  by_cases c3:c=3
  ·simp only[go_sem,rE,rA,rL,c3,gb,gb5]
   exact fin _ _ 3 i rfl rfl k3 (by rw[hsp,c3])
  simp only[go_sem,rE,rA,rL,c3,e4]
  refine co (is 4 (.inr (.inr (.inl rfl)))) rfl (aj.sub_refl _) (fun h=>by simp at h) trivial ?_
  rintro q H7 ⟨rfl,rfl⟩ -
  rw[dg]
  by_cases c4:c=4
  ·simp only[go_sem,rE,rA,rL,c4,gb,gb5]
   exact fin _ _ 4 i rfl rfl k3 (by rw[hsp,c4])
  simp only[go_sem,rE,rA,rL,c4,gb,gb5]
  exact fin _ _ 5 i rfl rfl k3 (by rw[hsp];congr 1;omega)
theorem CH(L:Lib P F)(T:Tys F)(hC:ej P F er){H0:aj}(hA:AsIs P F er H0)(p:Pg)(hc:p.small)(H:aj)(h0:H0.sub H)(he:fP F er H):
 ACalls P 22 [.agg (Pg.enc p)] H fun q H'=>q=I (fB p).1/\H'=H:=by
 refine(L.a Tryz.func22 y22) (by simp[y22]) ?_
 have hco:=fun H1 h1 he1=>yF (er:=er) L T hC hA p hc H1 h1 he1
 simp only[Pg.enc]at hco
 simp only[y22,go_sem,rE,rA,rL,Pg.enc]
 intro b1 hb1
 have g1:=ai H b1 (.cells [.sl 12 none (p.map Fu.enc)])
 have k1:∀c o,H.get c=some o->(H.set b1 (.cells [.sl 12 none (p.map Fu.enc)])).get c=some o:=fun c o hc=>by rw[ae _ _ (al hc hb1)];exact hc
 generalize H.set b1 _=H1 at*
 refine co (hco H1 (fun c o hc=>k1 c o (h0 c o hc)) fun c hc=>k1 _ _ (he c hc)) rfl (aj.sub_refl _) (fun h=>by simp at h) trivial ?_
 rintro q H3 ⟨rfl,rfl⟩ -
 rw[dg]
 simp only[go_sem,rE,rA,rL]
 exact ak (.refl _) k1 ⟨rfl,rfl⟩
end
noncomputable def iW(p:Pg)(fn n:Int):Option En:=
 if fu p=true/\0<=fn/\fn<=(p.length:Int) - 1 then match p[fn.toNat]? with
  |some f=>if 0<=n/\n<=f.body.length then some ((cB p fn.toNat).body (f.body.take n.toNat))else none
  |none=>none
 else none
section
variable {P:Program}{F:Ids}
end
theorem oI:∀(l:List St) (m:Nat) (v:Sc),(v.stmts l).2=0->(v.stmts (l.take m)).2=0
 |[],m,v,h=>by rw[List.take_nil];exact h
 |s::l,0,v,h=>by rw[List.take_zero,eG]
 |s::l,m+1,v,h=>by
  rw[List.take_succ_cons,dI]
  rw[dI]at h
  split at h
  ·rename_i h0;rw[if_pos h0];exact oI l m _ h
  ·rename_i h0;exact absurd h h0
theorem yI(p:Pg)(fn n:Int):(atS p fn n=none/\iW p fn n=none)\/∃v e,atS p fn n=some v/\iW p fn n=some e/\Rel e v []:=by
 by_cases hc:fu p=true/\0<=fn/\fn<p.length
 ·obtain⟨hfine,h0,h1⟩:=hc
  obtain⟨i,rfl⟩:=cy h0
  have hi:i<p.length:=by omega
  unfold iW
  rw[if_pos ⟨hfine,by omega,by omega⟩,dt,aw hi]
  simp only
  by_cases hn:0<=n/\n<=p[i].body.length
  ·obtain⟨m,rfl⟩:=cy hn.1
   have hm:m<=p[i].body.length:=by omega
   rw[sM hfine hi hm,if_pos hn,dt]
   have hfo:=kD hfine
   obtain⟨hpl,hpf⟩:=eS hfo
   have W:=hpf p[i] (ax hi)
   have hti:∀f∈p.take i,f.type.okB=true:=fun f hf=>(hpf f (bp hf)).type
   have hcode:gn (p.take i) p[i]=0:=by
    simp only[fu,a6]at hfine
    have h2:=hfine.2
    rw[Option.isNone_iff_eq_none]at h2
    unfold lM at h2
    rw[List.find?_eq_none]at h2
    have:=h2 i (eF.2 hi)
    simp only[dO,aw hi]at this
    simpa using this
   have hr0:Rel (⟨p,i,[],[],0⟩:En) (ba (p.take i)) []:=⟨rfl,rfl,rfl,rfl,⟨by simp[ba],by simp[ba],fun j hj=>by simp[ba]at hj⟩,⟨rfl,fun j hj=>by simp at hj,fun q hq=>by simp[ba]at hq⟩,rfl,fun y hy=>by simp[ba]at hy⟩
   unfold gn at hcode
   split at hcode
   ·simp at hcode
   split at hcode
   ·rename_i a1
    split at hcode
    ·rename_i b0
     have hst:cB p i=(⟨p,i,[],[],0⟩:En).givens p[i].params:=by simp only[cB,aw hi]
     rcases mi p[i].params hr0 rfl W.params with⟨-,a2⟩|⟨a2,-⟩
     ·have st:=gL p[i].params (fF (p.take i)) rfl W.params (by have:=W.plen;simp[ba];omega) a1
      have hhi:=st.hi
      have hpl4:=W.plen
      have h00:(ba (p.take i)).vars.length=0:=rfl
      have b1:=oI p[i].body m _ b0
      have hb:iV (p.take i) p[i] (p[i].body.take m)=(cC (ba (p.take i)) p[i].params).1.stmts (p[i].body.take m):=by unfold iV;rw[if_pos a1]
      rw[hb,if_pos b1,hst]
      rcases jA 4 (p[i].body.take m) (kc W.body m) a2 st.good st.held (by rw[st.p];exact hti) (by omega)with⟨-,b2⟩|⟨b2,-⟩
      ·exact .inr ⟨_,_,rfl,rfl,b2⟩
      ·exact absurd b1 b2
     ·exact absurd a1 a2
    ·rename_i b0;exact absurd hcode b0
   ·rename_i a1;exact absurd hcode a1
  ·rw[if_neg hn]
   refine .inl ⟨?_,rfl⟩
   unfold atS
   rw[if_pos ⟨hfine,h0,h1⟩,dt,aw hi]
   simp only
   rw[if_neg hn]
 ·refine .inl ⟨?_,?_⟩
  ·unfold atS;rw[if_neg hc]
  ·unfold iW;rw[if_neg (fun h=>hc ⟨h.1,h.2.1,by omega⟩)]
def oc(x:Vr):List AC:=[S x.name,.sl 2 none (x.loans.map Pl.enc)]
def lB(x:Vr):Bool:=x.lent&&(!x.dead&&!x.param)
def wj(vs:List Vr):List Vr:=vs.filter lB
section
variable {P:Program}{F:Ids}
theorem CJ(L:Lib P F){p:Pg}(hf:p.fit)(hpl:p.length<=2^20)(fn n:Int):ACalls P 28 [.agg (Pg.enc p),I fn,I n] .empty fun q H'=>match iW p fn n with
 |none=>∃a,q=.tup [.ptr a 0,B false]/\H'.get a=some (.cells [NIL,I 0,NIL,NIL,I 0])
 |some e=>∃a VS NS,q=.tup [.ptr a 0,B true]/\bE H' a e VS NS/\e.ok/\0<e.vars.length:=by
 refine(L.a Tryz.func28 y28) (by simp[y28]) ?_
 simp only[y28,go_sem,rE,rA,rL,Pg.enc]
 intro b3 hb3
 have g3:=ai .empty b3 (.cells [.sl 12 none (p.map Fu.enc)])
 generalize aj.empty.set b3 (.cells [.sl 12 none (p.map Fu.enc)])=H0 at*
 clear hb3
 refine ao (yA L hf) (by simp only[go_sem,rE,Pg.enc]) ?_
 have e0:∀(E':Env) (a:Nat) (H':aj),H'.get a=none->E' 6=.ptr a 0->E' 7=B false->iW p fn n=none->bk.post [.slot 6,.slot 7] (fun q H'=>match iW p fn n with
  |none=>∃a,q=.tup [.ptr a 0,B false]/\H'.get a=some (.cells [NIL,I 0,NIL,NIL,I 0])
  |some e=>∃a VS NS,q=.tup [.ptr a 0,B true]/\bE H' a e VS NS/\e.ok/\0<e.vars.length) .ret E' (H'.set a (.cells [NIL,I 0,NIL,NIL,I 0])):=by
  intro E' a H' ha h6 h7 hn
  refine gk (aj.sub_refl _) ?_
  rw[hn,h6,h7]
  exact⟨a,rfl,ai _ _ _⟩
 have hsf:=qA p
 cases hfine:fu p with
 |false=>
  rw[hfine,Bool.not_false]at hsf
  simp only[go_sem,rE,rA,rL,hsf]
  intro a ha
  exact e0 _ a _ ha rfl rfl (by simp[iW,hfine])
 |true=>
 rw[hfine,Bool.not_true]at hsf
 have w0:=aL (n:=(p.length:Int) - 1) (by omega) (by omega)
 simp only[go_sem,rE,rA,rL,hsf,g3,am,w0]
 refine ao (pd L fn 0 ((p.length:Int) - 1)) (by simp only[go_sem,rE]) ?_
 by_cases hin:¬(0<=fn/\fn<=(p.length:Int) - 1)
 ·simp only[go_sem,rE,rA,rL,hin,decide_false]
  intro a ha
  exact e0 _ a _ ha rfl rfl (by simp only[iW,hfine,true_and,if_neg hin])
 have hin:=Decidable.not_not.1 hin
 obtain⟨i,rfl⟩:=cy hin.1
 have hi:i<p.length:=by omega
 obtain⟨cf,hcf,CF⟩:=fuC p[i]
 have hgf:(p.map Fu.enc)[i]?=some cf:=by rw[<-hcf];simp[hi]
 have cfb:(cf.drop 4)[0]?=some (.sl 15 none (St.encs p[i].body)):=by rw[bV];exact CF.body
 simp only[go_sem,rE,rA,rL,hin,decide_true,g3,hgf,CF.len,CF.body,cfb,am]
 refine ao (pd L n 0 p[i].body.length) (by simp only[go_sem,rE,St.encs_map,am]) ?_
 have hat:iW p i n=if 0<=n/\n<=p[i].body.length then some ((cB p i).body (p[i].body.take n.toNat))else none:=by
  unfold iW
  rw[if_pos ⟨hfine,by omega,by omega⟩,dt,aw hi]
 by_cases hn:¬(0<=n/\n<=p[i].body.length)
 ·simp only[go_sem,rE,rA,rL,hn,decide_false]
  intro a ha
  exact e0 _ a _ ha rfl rfl (by rw[hat,if_neg hn])
 have hn:=Decidable.not_not.1 hn
 obtain⟨m,rfl⟩:=cy hn.1
 have hm:m<=p[i].body.length:=by omega
 rw[if_pos ⟨by omega,by omega⟩,dt]at hat
 clear e0
 rw[hat]
 simp only[fu,a6]at hfine
 obtain⟨hfo,-⟩:=hfine
 obtain⟨-,hw⟩:=eS hfo
 have W:=hw p[i] (ax hi)
 obtain⟨hp1,hcnt⟩:=hf.2 p[i] (ax hi)
 obtain⟨s1,s2,s3,s4,s5⟩:=pY hfo hi
 have hwp:=W.plen
 have hokS:∀f∈p,f.okS:=fun f hf=>(hw f hf).okS
 have hst:=lP 4 _ W.body
 have htk:=jH p[i].body m
 have hbs:=(En.stmt_step _).2 (p[i].body.take m) (aC _) (fun s hs=>(hst s (bp hs)).1) (cB p i) s1 (by omega) (by rw[s2];exact hokS)
 simp only[go_sem,rE,rA,rL,hn,decide_true,g3,and_self,Int.natCast_nonneg]
 refine qd L p i hi (by omega) (by omega) (by simp only[go_sem,rE,Pg.enc]) (.refl _) ?_
 intro a VS NS H1 fp hE1 hs1 hn1
 have g3:=hs1 _ _ g3
 have n3:¬aN a VS NS b3:=fun hb=>by have:=hn1 _ hb;simp_all
 generalize cB p i=v0 at*
 simp only[go_sem,rE,rA,rL,g3,hgf,CF.len,cfb,CF.body]
 have hel:(St.encs p[i].body).length=p[i].body.length:=by rw[St.encs_map,am]
 have hle:0<=m/\m<=(St.encs p[i].body).length:=⟨by omega,by omega⟩
 have htke:(St.encs p[i].body).take m=St.encs (p[i].body.take m):=by rw[St.encs_map,St.encs_map,iy]
 simp only[go_sem,rE,rA,rL,hle,and_self,htke]
 refine bN (zx L _ a (p[i].body.take m) (aC _) (fun s hs=>(hst s (bp hs)).1) v0 s1 (by omega) (by omega) (by omega) (by rw[s2];exact hokS) (by rw[s2];omega) (by omega)) hE1 (rfl) (.refl _) (by simp) trivial ?_
 rintro q v1 VS1 NS1 H2' fp1 ⟨rfl,hv1⟩ hE2 hk2 -
 rw[<-hv1]at hbs⊢
 have hlo:=hbs.lo
 simp only[go_sem,rE,rA,rL]
 exact gk (aj.sub_refl _) ⟨a,VS1,NS1,rfl,hE2,hbs.ok,by omega⟩
end
section
variable {P:Program}{F:Ids}{er:bU}
end
theorem LeR.append:∀{a b c d:List (List AC)},LeR a b->LeR c d->LeR (a++c) (b++d)
 |[],[],_,_,_,h=>h
 |x::a,y::b,_,_,h,h'=>⟨h.1,LeR.append h.2 h'⟩
def iF(vs:List Vr):List (List AC):=(wj vs).map oc
noncomputable def wn(p:Pg)(fn n:Int):List Vr:=match atS p fn n with|none=>[]|some v=>wj v.vars
section
variable {P:Program}{F:Ids}{er:bU}
end
theorem tr(l:List Vr)(x:Vr):iF (l++[x])=if lB x then iF l++[oc x]else iF l:=by
 unfold iF wj
 rw[List.filter_append,bj]
 cases h:lB x<;>simp[h]
section
variable {P:Program}{F:Ids}
theorem AK(L:Lib P F){p:Pg}(hf:p.fit)(hpl:p.length<=2^20)(fn n:Int):ACalls P 12 [.agg (Pg.enc p),I fn,I n] .empty fun q H'=>q=.sl 2 none (match iW p fn n with|none=>[]|some e=>iF e.vars)/\H'=.empty:=by
 refine(L.a Tryz.func12 y12) (by simp[y12]) ?_
 have h4:=CJ L hf hpl fn n
 simp only[Pg.enc]at h4
 simp only[y12,go_sem,rE,rA,rL,Pg.enc,az,ay,bh]
 intro b3 hb3 b14 hb14
 have d3:=al (ai _ _ _) hb14
 have g3:((aj.empty.set b3 (.cells [.sl 12 none (p.map Fu.enc)])).set b14 (.tail 0 0)).get b3=some (.cells [.sl 12 none (p.map Fu.enc)]):=by rw[ae _ _ d3,ai]
 have gt:=ai (aj.empty.set b3 (.cells [.sl 12 none (p.map Fu.enc)])) b14 (.tail 0 0)
 generalize(aj.empty.set b3 (.cells [.sl 12 none (p.map Fu.enc)])).set b14 (.tail 0 0)=H0 at*
 clear hb3 hb14
 simp only[go_sem,rE,rA,rL,g3]
 refine co h4 rfl (aj.sub_empty _) (by simp) trivial ?_
 intro q H1 hq hnew
 have hn1:∀c,H1.get c≠none->H0.get c=none:=fun c hc=>hnew c hc rfl
 have gt1:(H0.swap .empty H1).get b14=some (.tail 0 0):=by
  rw[bx]
  cases h:H1.get b14 with
  |none=>exact gt
  |some o=>have:=hn1 b14 (by rw[h];simp);rw[gt]at this;simp at this
 have up:∀c,H1.get c≠none->(H0.swap .empty H1).get c=H1.get c:=fun c hc=>by
  rw[bx]
  cases h:H1.get c with
  |none=>exact absurd h hc
  |some o=>rfl
 have n14:H1.get b14=none:=by
  cases h:H1.get b14 with
  |none=>rfl
  |some o=>have:=hn1 b14 (by rw[h];simp);rw[gt]at this;simp at this
 cases hs:iW p fn n with
 |none=>
  rw[hs]at hq
  obtain⟨a,rfl,ga⟩:=hq
  have ga1:=(up a (by rw[ga];simp)).trans ga
  generalize H0.swap .empty H1=H2 at*
  simp only[go_sem,rE,rA,rL,ga1]
  refine aT 0 (fun k E' H'=>E' 7=.sl 2 (some (b14,0,0)) []/\E' 8=.ptr a 0/\E' 10=I k/\H'.get a=some (.cells [NIL,I 0,NIL,NIL,I 0])) ⟨rfl,rfl,rfl,ga1⟩ ?_
  rintro k E' H' hk ⟨q7,q8,q10,ga⟩
  obtain rfl:k=0:=by omega
  simp only[go_sem,rE,rA,rL,q7,q8,q10,ga,cW,Int.lt_irrefl]
  exact ak (.tok 2 _ _) (aj.sub_empty _) ⟨rfl,rfl⟩
 |some v=>
  rw[hs]at hq
  obtain⟨a,VS,NS,rfl,hE1,hok,hlo⟩:=hq
  have hE0:bE (H0.swap .empty H1) a v VS NS:=hE1.mono fun d hd=>up d (hE1.mem hd)
  have nt0:¬aN a VS NS b14:=fun h=>hE1.mem h n14
  generalize H0.swap .empty H1=H2 at*
  clear hE1 hn1 up n14 hnew h4
  simp only[go_sem,rE,rA,rL]
  refine aT v.vars.length (fun k E' H'=>bE H' a v VS NS/\E' 8=.ptr a 0/\E' 9=B true/\E' 10=I k/\(∃rs,bM H' 2 rs (E' 7)/\LeR rs (iF (v.vars.take k)))/\∀c,cA (E' 7) c->¬aN a VS NS c)
   ⟨hE0,rfl,rfl,rfl,⟨[],.inr ⟨b14,0,0,rfl,gt1⟩,trivial⟩,fun c ⟨_,_,_,_,e⟩=>by simp[gD,lG]at e;obtain⟨-,⟨rfl,-⟩,-⟩:=e;exact nt0⟩ ?_
  rintro k E' H' hk ⟨hE,q8,q9,q10,⟨rs,qa,ql⟩,qt⟩
  have ho:=hE.obj
  simp only[dm]at ho
  obtain⟨vb,vc,cs,rfl,hr0⟩:=hE.vars.row (i:=0) (by omega)
  have hlim:v.vars.length<=LIM:=by have:=hok.len;simp[LIM];omega
  simp only[go_sem,rE,rA,rL,q8,q9,q10,ho,hlim]
  by_cases hlt:(k:Int)<v.vars.length
  ·have hk1:k<v.vars.length:=by omega
   have w1:=aL (n:=(k:Int)+1) (by omega) (by have:=hok.len;omega)
   obtain⟨vb',vc',cs',e',hr⟩:=hE.vars.row hk1
   simp at e'
   obtain⟨rfl,rfl⟩:=e'
   have h6:=hr.row6
   have hg:=hr.get
   have hsn:=tr (v.vars.take k) v.vars[k]
   rw[<-aA hk1]at hsn
   have hvo:=(hok.all _ (ax hk1)).1
   have hll:=hvo.loans
   have hlp:=hvo.paths
   clear hr
   generalize v.vars[k]=x at*
   have h61:=h6.1
   have h62:=h6.2
   simp only[Vr.enc]at h61
   simp only[go_sem,rE,rA,rL,hlt,q8,q9,q10,ho,hg,h61,h62]
   intro b11 hb11
   have e11:¬aN a (.lit (.slice (some ⟨vb,0,none⟩) v.vars.length vc)) NS b11:=fun h=>hE.mem h hb11
   have hE6:bE (H'.set b11 (.cells [S x.name,B x.lent,B x.param,.sl 1 none (Ty.encs x.type.kids),.sl 2 none (x.loans.map Pl.enc),B x.dead])) a v (.lit (.slice (some ⟨vb,0,none⟩) v.vars.length vc)) NS:=
    hE.mono fun d hd=>ae _ _ (by rintro rfl;exact e11 hd)
   have qa6:=qa.new hb11 (.cells [S x.name,B x.lent,B x.param,.sl 1 none (Ty.encs x.type.kids),.sl 2 none (x.loans.map Pl.enc),B x.dead])
   have g11:=ai H' b11 (.cells [S x.name,B x.lent,B x.param,.sl 1 none (Ty.encs x.type.kids),.sl 2 none (x.loans.map Pl.enc),B x.dead])
   generalize(H'.set b11 (.cells [S x.name,B x.lent,B x.param,.sl 1 none (Ty.encs x.type.kids),.sl 2 none (x.loans.map Pl.enc),B x.dead]))=H6 at*
   have skip:lB x=false->iF (v.vars.take (k+1))=iF (v.vars.take k):=fun h=>by rw[hsn,h];rfl
   cases hle:x.lent with
   |false=>
    rw[hle]at g11
    simp only[go_sem,rE,rA,rL,q8,q9,q10,g11,w1]
    exact⟨hk1,H6,aj.sub_refl _,hE6,rfl,⟨rs,qa6,by rw[skip (by simp[lB,hle])];exact ql⟩,qt⟩
   |true=>
   rw[hle]at g11
   cases hde:x.dead with
   |true=>
    rw[hde]at g11
    simp only[go_sem,rE,rA,rL,q8,q9,q10,g11,w1]
    exact⟨hk1,H6,aj.sub_refl _,hE6,rfl,⟨rs,qa6,by rw[skip (by simp[lB,hde])];exact ql⟩,qt⟩
   |false=>
   rw[hde]at g11
   cases hpa:x.param with
   |true=>
    rw[hpa]at g11
    simp only[go_sem,rE,rA,rL,q8,q9,q10,g11,w1]
    exact⟨hk1,H6,aj.sub_refl _,hE6,rfl,⟨rs,qa6,by rw[skip (by simp[lB,hpa])];exact ql⟩,qt⟩
   |false=>
   rw[hpa]at g11
   have hil:lB x=true:=by simp[lB,hle,hde,hpa]
   clear hE hg ho hb11 skip qa e11
   simp only[go_sem,rE,rA,rL,q8,q9,q10,g11]
   intro b12 hb12
   have d1112:=al g11 hb12
   have e12:¬aN a (.lit (.slice (some ⟨vb,0,none⟩) v.vars.length vc)) NS b12:=fun h=>hE6.mem h hb12
   have hE7:bE (H6.set b12 (.cells [S x.name,NIL])) a v (.lit (.slice (some ⟨vb,0,none⟩) v.vars.length vc)) NS:=
    hE6.mono fun d hd=>ae _ _ (by rintro rfl;exact e12 hd)
   have qa7:=qa6.new hb12 (.cells [S x.name,NIL])
   have t12:¬cA (E' 7) b12:=fun ht=>by obtain⟨n,m,e⟩:=qa7.tok ht;rw[ai]at e;simp at e
   have g11:(H6.set b12 (.cells [S x.name,NIL])).get b11=_:=(ae _ _ d1112).trans g11
   have g12:(H6.set b12 (.cells [S x.name,NIL])).get b12=_:=ai _ _ _
   generalize(H6.set b12 (.cells [S x.name,NIL]))=H7 at*
   clear hE6 qa6 hb12
   refine aT x.loans.length (fun j E2 H2=>E2 7=E' 7/\E2 8=.ptr a 0/\E2 9=B true/\E2 10=I k/\E2 11=.ptr b11 0/\E2 12=.ptr b12 0/\E2 13=I j/\
    (∃X,H2.get b12=some (.cells [S x.name,X])/\(∃ys,bM H2 2 ys X/\LeR ys ((x.loans.take j).map Pl.enc))/\∀c,cA X c->H7.get c=none)/\∀c,H7.get c≠none->c≠b12->H2.get c=H7.get c)
    ⟨rfl,q8,q9,q10,rfl,rfl,rfl,⟨NIL,g12,⟨[],.inl ⟨rfl,rfl⟩,trivial⟩,fun c ⟨_,_,_,_,e⟩=>by simp at e⟩,fun _ _ _=>rfl⟩ ?_
   rintro j E2 H2 hj ⟨r7,r8,r9,r10,r11,r12,r13,⟨X,gX,⟨ys,aX,lX⟩,tX⟩,kX⟩
   have g11':=(kX b11 (by rw[g11];simp) d1112).trans g11
   simp only[go_sem,rE,rA,rL,r11,r13,g11',am]
   have qa2:bM H2 2 rs (E' 7):=qa7.mono fun c hc=>kX c (by obtain⟨n,m,e⟩:=qa7.tok hc;rw[e];simp) (by rintro rfl;exact t12 hc)
   refine aF (fun hlt2=>?_) (fun hge2=>?_)
   ·have hj1:j<x.loans.length:=by omega
    have w2:=aL (n:=(j:Int)+1) (by omega) (by omega)
    have hgp:(x.loans.map Pl.enc)[j]?=some [S x.loans[j].name,au x.loans[j].path]:=by simp[hj1,Pl.enc]
    have htk:(x.loans.take (j+1)).map Pl.enc=(x.loans.take j).map Pl.enc++[x.loans[j].enc]:=by rw[aA hj1,bj];rfl
    simp only[Pl.enc]at htk
    have hpl:=hlp _ (ax hj1)
    generalize x.loans[j]=y at*
    simp only[go_sem,rE,rA,rL,r11,r12,r13,g11',gX,hgp,au,az,ay,bh]
    intro bq hbq
    have d12q:=al gX hbq
    have d11q:=al g11' hbq
    have gXq:(H2.set bq (.tail 0 0)).get b12=_:=(ae _ _ d12q).trans gX
    have g11q:(H2.set bq (.tail 0 0)).get b11=_:=(ae _ _ d11q).trans g11'
    have aXq:bM (H2.set bq (.tail 0 0)) 2 ys X:=aX.new hbq _
    have tXq:¬cA X bq:=fun h=>by obtain⟨n,m,e⟩:=aX.tok h;rw[hbq]at e;simp at e
    simp only[go_sem,rE,rA,rL,r11,r13,g11q,hgp,au]
    refine eB (es:=[]) (ys:=y.path.map fun i=>[I i]) (.inr ⟨bq,0,0,rfl,ai _ _ _⟩) (by simp only[go_sem,rE]) (by simp) (by simp;omega) ?_
    intro x1 H8 fp1 hx1 hfp1 hkeep1 hnew1
    simp only[go_sem,rE,rA,rL,az,aq,ay,hx1.one]at hkeep1 hnew1⊢
    have k1:∀c,H2.get c≠none->H8.get c=H2.get c:=fun c hc=>by
     have hcq:c≠bq:=by rintro rfl;exact hc hbq
     rw[hkeep1 c (by rw[ae _ _ hcq];exact hc) (fun⟨_,_,_,_,e⟩=>by simp at e;exact hcq e.2.1.1.symm),ae _ _ hcq]
    have aX8:bM H8 2 ys X:=aX.mono fun c hc=>k1 c (by obtain⟨n,m,e⟩:=aX.tok hc;rw[e];simp)
    have gX8:H8.get b12=_:=(k1 b12 (by rw[gX];simp)).trans gX
    refine eB (es:=ys) (ys:=[[S y.name,x1]]) (by simp only[go_sem,rE,rA,rL];exact aX8) (by simp[go_sem,bh]) (by simp) (by have:=lX.length;simp at this⊢;omega) ?_
    intro x' H9 fp2 hx' hfp2 hkeep2 hnew2
    simp only[go_sem,rE,rA,rL]at hkeep2 hnew2
    have nX:∀c,H7.get c≠none->¬cA X c:=fun c hc h=>hc (tX c h)
    have g9:H9.get b12=some (.cells [S x.name,X]):=by rw[hkeep2 b12 (by rw[gX8];simp) (nX b12 (by rw[g12];simp))];exact gX8
    have k27:∀c,H7.get c≠none->H8.get c≠none:=fun c hc=>by
     by_cases hcb:c=b12
     ·subst hcb;rw[gX8];simp
     ·rw[k1 c (by rw[kX c hc hcb];exact hc),kX c hc hcb];exact hc
    have hx9:∀c,cA x' c->H7.get c=none/\c≠b12:=fun c hc=>by
     have e0:H7.get c=none:=by
      rcases hnew2 c hc with h|h
      ·exact tX c h
      ·cases hq:H7.get c with
       |none=>rfl
       |some o=>exact absurd h (k27 c (by rw[hq];simp))
     exact⟨e0,by rintro rfl;rw[g12]at e0;simp at e0⟩
    simp only[go_sem,rE,rA,rL,r12,g9,hx'.one,r13,w2]
    refine⟨hj1,_,aj.sub_refl _,r7,r8,r9,r10,r11,rfl,⟨x',ai _ _ _,⟨_,hx'.mono fun c hc=>ae _ _ (hx9 c hc).2,by rw[htk];exact lX.append ⟨⟨⟨.refl _,rfl⟩,⟨hx1.le,rfl⟩,trivial⟩,trivial⟩⟩,fun c hc=>(hx9 c hc).1⟩,fun c hc hne=>?_⟩
    rw[ae _ _ hne,hkeep2 c (k27 c hc) (nX c hc),k1 c (by rw[kX c hc hne];exact hc)]
    exact kX c hc hne
   ·have hjj:j=x.loans.length:=by omega
    subst hjj
    rw[aR]at lX
    simp only[go_sem,rE,rA,rL,r7,r8,r9,r10,r12,gX,az,aq,ay]
    refine eB (es:=rs) (ys:=[[S x.name,X]]) (by simp only[go_sem,rE,rA,rL];exact qa2) (by simp[go_sem,bh]) (by simp) (by
     have h1:=ql.length
     have h2:(iF (v.vars.take k)).length<=v.vars.length:=by
      unfold iF wj
      rw[am]
      exact bT (fX _ _) (by rw[bD];omega)
     have:=hok.len
     simp;omega) ?_
    intro x' H8 fp hx' hfp hkeep hnew
    simp only[go_sem,rE,rA,rL]at hkeep hnew
    simp only[go_sem,rE,rA,rL,r8,r9,r10,w1]
    have k2:∀c,aN a (.lit (.slice (some ⟨vb,0,none⟩) v.vars.length vc)) NS c->H2.get c=H7.get c:=fun c hc=>kX c (hE7.mem hc) (by rintro rfl;exact e12 hc)
    refine⟨hk1,H8,aj.sub_refl _,hE7.mono fun d hd=>?_,rfl,⟨_,hx',by rw[hsn,hil,if_pos rfl];exact ql.append ⟨⟨⟨.refl _,rfl⟩,⟨Le.trans aX.le (.slR lX),rfl⟩,trivial⟩,trivial⟩⟩,fun c hc hb=>?_⟩
    ·rw[hkeep d (by rw[k2 d hd];exact hE7.mem hd) (fun h=>qt d h hd)];exact k2 d hd
    ·rcases hnew c hc with h|h
     ·exact qt c h hb
     ·rw[k2 c hb]at h;exact hE7.mem hb h
  ·have hkk:k=v.vars.length:=by omega
   subst hkk
   rw[aR]at ql
   simp only[go_sem,rE,rA,rL,hlt]
   exact ak (Le.trans qa.le (.slR ql)) (aj.sub_empty _) ⟨rfl,rfl⟩
end
section
variable {P:Program}{F:Ids}
theorem pF{a:List ByteArray}{k:Nat}(h:k<a.length):(aD a)[k]?=some [S a[k]]:=by simp[aD,h]
theorem kE(L:Lib P F)(a:List ByteArray)(hl:a.length<=2^30):cU P 21 [.sl 1 none (aD a),.sl 1 none (aD a)] (B true):=by
 refine(L.a Tryz.func21 y21) (by simp[y21]) ?_
 have hlen:(aD a).length=a.length:=by simp[aD]
 simp only[y21,go_sem,rE,rA,rL,hlen,fE,fC,dN]
 refine aT a.length (fun k E' H'=>E' 0=.sl 1 none (aD a)/\E' 1=.sl 1 none (aD a)/\E' 5=I k) ⟨rfl,rfl,rfl⟩ ?_
 rintro k E H hk ⟨q0,q1,q5⟩
 simp only[go_sem,rE,rA,rL,q0,q5,hlen]
 refine aF (fun hlt=>?_) (fun hge=>?_)
 ·have hk1:k<a.length:=by omega
  have w1:=aL (n:=(k:Int)+1) (by omega) (by omega)
  simp only[go_sem,rE,rA,rL,q0,q1,q5,pF hk1,dN,w1]
  exact⟨hk1,H,aj.sub_refl _,by simp⟩
 ·have hkk:k=a.length:=by omega
  subst hkk
  simp only[go_sem,rE,rA,rL]
  exact ak (.refl _) (aj.sub_empty _) ⟨rfl,rfl⟩
theorem z8(L:Lib P F)(a:List ByteArray)(s:ByteArray)(hl:a.length<=2^30):cU P 17 [.sl 1 none (aD a),S s] (B (a.any fun m=>eqB m s)):=by
 refine(L.a Tryz.func17 y17) (by simp[y17]) ?_
 have hlen:(aD a).length=a.length:=by simp[aD]
 simp only[y17,go_sem,rE,rA,rL]
 refine aT a.length (fun k E' H'=>E' 0=.sl 1 none (aD a)/\E' 1=S s/\E' 5=I k/\(a.take k).any (fun m=>eqB m s)=false) ⟨rfl,rfl,rfl,by simp⟩ ?_
 rintro k E H hk ⟨q0,q1,q5,hall⟩
 simp only[go_sem,rE,rA,rL,q0,q5,hlen]
 refine aF (fun hlt=>?_) (fun hge=>?_)
 ·have hk1:k<a.length:=by omega
  have w1:=aL (n:=(k:Int)+1) (by omega) (by omega)
  simp only[go_sem,rE,rA,rL,q0,q1,q5,pF hk1,dA]
  cases h:eqB a[k] s with
  |true=>
   simp only[go_sem,rE,rA,rL]
   refine ak (.refl _) (aj.sub_empty _) ⟨?_,rfl⟩
   have:a.any (fun m=>eqB m s)=true:=fz.2 ⟨a[k],ax hk1,h⟩
   rw[this];rfl
  |false=>
   simp only[go_sem,rE,rA,rL,q0,q1,q5,w1]
   refine⟨hk1,H,aj.sub_refl _,by simp,?_⟩
   rw[aA hk1,ft,hall]
   simp[h]
 ·have hkk:k=a.length:=by omega
  subst hkk
  rw[aR]at hall
  simp only[go_sem,rE,rA,rL]
  exact ak (.refl _) (aj.sub_empty _) ⟨by rw[hall];rfl,rfl⟩
end
theorem Ca{f:Fu}{m:Nat}(h:f.lo m):bF f.body<=1000*(6+m):=by
 have key:∀l:List St,(∀s∈l,s.cnt<=1000)->bF l<=1000*l.length:=by
  intro l
  induction l with
  |nil=>intro _;rw[fo];omega
  |cons s l ih=>
   intro h
   have h1:=h s (by simp)
   have h2:=ih fun x hx=>h x (by simp[hx])
   rw[du,aV];omega
 have:=key f.body h.bcnt
 have:=h.blen
 omega
theorem drawn.fit{m:Nat}{p:Pg}(h:drawn m p)(hm:m<=4):p.fit:=by
 refine⟨fun f hf=>⟨?_,(h.1 f hf).bsm⟩,fun f hf=>⟨(h.1 f hf).pars.1,?_⟩⟩
 ·have:=Ca (h.1 f hf);omega
 ·have:=Ca (h.1 f hf);omega
section
variable {P:Program}{F:Ids}{er:bU}
theorem Au(p:Pg)(fn n:Int):(qI p fn n).length<=2^30:=by
 unfold qI
 cases ha:atS p fn n with
 |none=>simp
 |some v=>
  obtain⟨pi,st⟩:=nK ha
  have:=st.good.len
  unfold j9
  simp only[am]
  exact bT (fX _ _) this
end
noncomputable def wsS(p:Pg)(fn n:Int):List Vr:=match atS p fn n with|none=>[]|some v=>v.vars.filter fun x=>!x.dead
def o8(x:Vr):Bool:=x.lent&&!x.param
theorem Cb(p:Pg)(fn n:Int):wn p fn n=(wsS p fn n).filter o8:=by
 unfold wn wsS
 cases atS p fn n with
 |none=>rfl
 |some v=>
  simp only[wj,List.filter_filter]
  apply List.filter_congr
  intro x _
  cases h:x.lent<;>cases h':x.param<;>cases h2:x.dead<;>simp[lB,o8,h,h',h2]
theorem zX(p:Pg)(fn n:Int):(match iW p fn n with|none=>[]|some e=>iF e.vars)=(wn p fn n).map oc:=by
 unfold wn
 rcases yI p fn n with⟨h1,h2⟩|⟨v,e,h1,h2,hr⟩
 ·rw[h1,h2];rfl
 ·rw[h1,h2]
  simp only
  rw[hr.vars,cD];rfl
theorem wsS_ok(p:Pg)(fn n:Int):(wsS p fn n).length<=2^30/\((wsS p fn n).map (·.name)).Nodup/\(∀x∈wsS p fn n,x.loans.length<=2^30)/\∀x∈wsS p fn n,∀q∈x.loans,q.path.length<=2^30:=by
 unfold wsS
 cases ha:atS p fn n with
 |none=>simp
 |some v=>
  obtain⟨pi,st⟩:=nK ha
  have hg:=st.good
  exact⟨bT (fX _ _) hg.len,(List.filter_sublist.map _).nodup hg.nd,fun x hx=>hg.ll x (bW.1 hx).1,fun x hx=>hg.lp x (bW.1 hx).1⟩
theorem uJ{a:List Vr}{k:Nat}(h:k<a.length):(a.map oc)[k]?=some [S a[k].name,.sl 2 none (a[k].loans.map Pl.enc)]:=by simp[h,oc]
section
variable {P:Program}{F:Ids}
theorem CB(L:Lib P F){p:Pg}(hf:p.fit)(hpl:p.length<=2^20)(fn n:Int):ACalls P 12 [.agg (Pg.enc p),I fn,I n] .empty fun q H'=>q=.sl 2 none ((wn p fn n).map oc)/\H'=.empty:=
 (AK L hf hpl fn n).mono fun q H' h=>by rw[<-zX];exact h
end
structure lS(Q:Prop)(vs:List Vr):Prop where
 cl:∀x∈vs,x.dead=false->x.lent=true->∀q∈x.loans,dW vs q.name=false
 ap:∀x∈vs,∀y∈vs,x.name≠y.name->x.dead=false->x.lent=true->y.dead=false->y.lent=true->∀q∈x.loans,∀r∈y.loans,q.meet r=false
 pl:∀x∈vs,x.param=true->x.loans=[]/\x.dead=false/\(x.lent=true->Q)
 ne:∀x∈vs,x.lent=true->x.param=false->x.loans≠[]
def HInv(vs:List Vr)(held:List Pl):Prop:=∀h∈held,dW vs h.name=false/\∀x∈vs,x.dead=false->x.lent=true->∀q∈x.loans,q.meet h=false
structure Sc.G(Q:Prop)(v:Sc):Prop where
 ok:ke v.vars
 inv:lS Q v.vars
 held:v.lost=false->HInv v.vars v.held
theorem Ar{a b:Pl}(h:a.meet b=true):a.name=b.name:=by
 unfold Pl.meet at h
 simp only[a6]at h
 exact of_decide_eq_true h.1
theorem zz(K:List ByteArray)(vs:List Vr)(n:ByteArray):dW (K.foldl im vs) n=(dW vs n||K.any fun m=>eqB m n):=by
 rw[jk]
 unfold dW
 rw[List.find?_map]
 have:((fun x:Vr=>eqB x.name n)∘fun x:Vr=>if K.any (fun m=>eqB m x.name)then {x with dead:=true}else x)=fun x=>eqB x.name n:=by
  funext x
  simp only[Function.comp]
  split<;>rfl
 rw[this]
 cases h:vs.find? (fun x=>eqB x.name n)with
 |none=>simp
 |some x=>
  have hx:x.name=n:=by have:=List.find?_some h;exact cP.1 this
  subst hx
  simp only[bO]
  cases hk:K.any (fun m=>eqB m x.name)<;>simp
theorem C2{vs:List Vr}{n:ByteArray}(h:dW vs n=false):∃x∈vs,x.name=n/\x.dead=false:=by
 unfold dW at h
 split at h
 ·rename_i x hf
  exact⟨x,List.mem_of_find?_eq_some hf,by have:=List.find?_some hf;exact cP.1 this,h⟩
 ·simp at h
theorem C1{vs:List Vr}(hnd:(vs.map (·.name)).Nodup){x:Vr}(hx:x∈vs):dW vs x.name=x.dead:=by
 obtain⟨k,hk,rfl⟩:=be.1 hx
 unfold dW
 rw[rj hnd hk]
theorem yu{vs:List Vr}(hok:ke vs){p:Pl}:∀(i:Nat) (h:i<vs.length),vs[i].name∈bL vs p->∀k (hk:k<vs.length),vs[k].name=p.name->k<i:=by
 intro i
 induction i using lU with
 |_ i ih=>
  intro h hm k hk hn
  obtain⟨-,-,q,hq,hq2⟩:=(iR p vs hok i h).1 hm
  obtain⟨j,hj,e⟩:=hok.up i h q hq
  have hjl:j<vs.length:=by omega
  rw[aw hjl]at e
  simp at e
  rcases hq2 with h1|h1
  ·have h2:=Ar h1
   have:j=k:=rY hok.nd hjl hk (by rw[e,h2,hn])
   omega
  ·rw[<-e]at h1
   have:=ih j hj hjl h1 k hk hn
   omega
theorem Cw{vs:List Vr}(hok:ke vs)(p:Pl):p.name∉bL vs p:=by
 intro h
 obtain⟨i,hi,e⟩:=jm vs p h
 have:=yu hok i hi (by rw[e];exact h) i hi e
 omega
theorem xV{vs:List Vr}{p:Pl}(h:(eY vs p).2=0):dW vs p.name=false:=by
 unfold eY at h
 unfold dW
 cases hx:vs.find? (fun x=>eqB x.name p.name)with
 |none=>rw[hx]at h;simp at h
 |some x=>
  rw[hx]at h
  cases hd:x.dead with
  |false=>exact hd
  |true=>simp[hd]at h
theorem jV{K:List ByteArray}{vs:List Vr}{y:Vr}(h:y∈K.foldl im vs)(hd:y.dead=false):y∈vs/\y.name∉K:=by
 rw[jk]at h
 obtain⟨x,hx,e⟩:=aU.1 h
 split at e
 ·subst e;simp at hd
 ·rename_i hk
  subst e
  exact⟨hx,fun hm=>hk ((j3 K x.name).2 hm)⟩
theorem qx{Q:Prop}{v:Sc}(h:v.G Q)(p:Pl):(v.use p).1.G Q/\((v.use p).2.2=0->HInv (v.use p).1.vars [p])/\((v.use p).1.lost=false->v.lost=false):=by
 unfold Sc.use
 by_cases hz:(eY v.vars p).2=0
 ·rw[if_pos hz]
  simp only
  have hp:=xV hz
  have hok':ke ((bL v.vars p).foldl im v.vars):=h.ok.core (lL _ _)
  have hdW:∀n,dW ((bL v.vars p).foldl im v.vars) n=(dW v.vars n||(bL v.vars p).any fun m=>eqB m n):=zz _ _
  have keep:∀n,dW v.vars n=false->n∉bL v.vars p->dW ((bL v.vars p).foldl im v.vars) n=false:=fun n h1 h2=>by
   rw[hdW,h1,dj]
   cases hh:(bL v.vars p).any fun m=>eqB m n with
   |false=>rfl
   |true=>exact absurd ((j3 _ _).1 hh) h2
  have idx:∀x∈v.vars,x.dead=false->x.lent=true->x.name∉bL v.vars p->∀q∈x.loans,q.meet p=false/\q.name∉bL v.vars p:=by
   intro x hx hd hl hn q hq
   obtain⟨i,hi,rfl⟩:=be.1 hx
   have hno:¬_:=fun hc=>hn ((iR p v.vars h.ok i hi).2 hc)
   refine⟨?_,fun hm=>hno ⟨hd,hl,q,hq,.inr hm⟩⟩
   cases hm:q.meet p with
   |false=>rfl
   |true=>exact absurd ⟨hd,hl,q,hq,.inl hm⟩ hno
  refine⟨⟨hok',⟨?_,?_,?_,?_⟩,?_⟩,fun _=>?_,fun hl=>?_⟩
  ·intro x hx hd hl q hq
   obtain⟨hx0,hn⟩:=jV hx hd
   exact keep _ (h.inv.cl x hx0 hd hl q hq) (idx x hx0 hd hl hn q hq).2
  ·intro x hx y hy hne hd hl hd2 hl2
   exact h.inv.ap x (jV hx hd).1 y (jV hy hd2).1 hne hd hl hd2 hl2
  ·intro x hx hpa
   have hx2:=hx
   rw[jk]at hx
   obtain⟨y,hy,e⟩:=aU.1 hx
   split at e
   ·rename_i hk
    have hm:=(j3 _ _).1 hk
    obtain⟨i,hi,rfl⟩:=be.1 hy
    obtain⟨-,-,q,hq,-⟩:=(iR p v.vars h.ok i hi).1 hm
    subst e
    have:=(h.inv.pl _ hy hpa).1
    rw[this]at hq;simp at hq
   ·subst e;exact h.inv.pl _ hy hpa
  ·intro x hx hl hpa
   obtain⟨y,hy,-,e2,-,e4,e5⟩:=jy (lL _ _) hx
   rw[<-e2];exact h.inv.ne y hy (e4.trans hl) (e5.trans hpa)
  ·intro hlo q hq
   simp only[Bool.or_eq_false_iff]at hlo
   have hh:=h.held hlo.1 q hq
   have h2:=List.any_eq_false.1 hlo.2 q hq
   simp only[Bool.not_eq_true,Bool.or_eq_false_iff]at h2
   refine⟨keep _ hh.1 fun hm=>?_,fun x hx hd hl=>hh.2 x (jV hx hd).1 hd hl⟩
   have:=List.any_eq_false.1 h2.2 _ hm
   rw[dN]at this;simp at this
  ·intro q hq
   simp at hq;subst hq
   refine⟨keep _ hp (Cw h.ok _),fun x hx hd hl r hr=>?_⟩
   obtain⟨hx0,hn⟩:=jV hx hd
   exact(idx x hx0 hd hl hn r hr).1
  ·simp only[Bool.or_eq_false_iff]at hl
   exact hl.1
 ·rw[if_neg hz]
  exact⟨h,fun h0=>absurd h0 hz,id⟩
theorem sA{Q:Prop}:∀(e:Ex) {v:Sc},v.G Q->(v.expr e).1.G Q/\((v.expr e).1.lost=false->v.lost=false)
 |.mk k n p ks,v,h=>by
  rw[Sc.expr_eq]
  split
  ·exact⟨h,id⟩
  split
  ·exact⟨(qx h p).1,(qx h p).2.2⟩
  split
  ·rename_i a b r
   have h1:=sA a h
   have h2:=sA b h1.1
   split
   ·split
    ·split<;>exact⟨h2.1,fun hl=>h1.2 (h2.2 hl)⟩
    ·exact⟨h2.1,fun hl=>h1.2 (h2.2 hl)⟩
   ·exact h1
  ·exact⟨h,id⟩
termination_by x=>SizeOf.sizeOf x
theorem vV{Q:Prop}{v:Sc}(h:v.G Q)(e:Ex):(v.number e).1.G Q:=by rw[eE];exact(sA e h).1
theorem Cm{Q:Prop}{vs:List Vr}{x:Vr}(h:lS Q vs)(hok:ke (vs++[x]))(hh:HInv vs x.loans)(hd:x.dead=false)(hp:x.param=false)(hne:x.lent=true->x.loans≠[]):lS Q (vs++[x]):=by
 have hnew:x.name∉vs.map (·.name):=by
  have:=hok.nd
  rw[bj,eM]at this
  intro hm
  exact this.2.2 _ hm x.name (by simp) rfl
 have hdW:∀n,dW vs n=false->dW (vs++[x]) n=false:=fun n hn=>by
  obtain⟨y,hy,rfl,hyd⟩:=C2 hn
  rw[C1 hok.nd (List.mem_append_left _ hy)];exact hyd
 have split:∀y∈vs++[x],y∈vs\/y=x:=fun y hy=>by simpa using hy
 refine⟨fun y hy hyd hyl q hq=>?_,fun y hy z hz hn h1 h2 h3 h4 q hq r hr=>?_,fun y hy hyp=>?_,fun y hy hyl hyp=>?_⟩
 ·rcases split y hy with hy1|rfl
  ·exact hdW _ (h.cl y hy1 hyd hyl q hq)
  ·exact hdW _ (hh q hq).1
 ·rcases split y hy with hy1|rfl
  ·rcases split z hz with hz1|rfl
   ·exact h.ap y hy1 z hz1 hn h1 h2 h3 h4 q hq r hr
   ·exact(hh r hr).2 y hy1 h1 h2 q hq
  ·rcases split z hz with hz1|rfl
   ·rw[m7];exact(hh q hq).2 z hz1 h3 h4 r hr
   ·exact absurd rfl hn
 ·rcases split y hy with hy1|rfl
  ·exact h.pl y hy1 hyp
  ·rw[hp]at hyp;simp at hyp
 ·rcases split y hy with hy1|rfl
  ·exact h.ne y hy1 hyl hyp
  ·exact hne hyl
theorem oe{Q:Prop}{v:Sc}{x:Vr}(h:lS Q v.vars)(hz:(eD v x).2=0)(hok:ke (eD v x).1.vars)(hh:HInv v.vars x.loans)(hd:x.dead=false)(hp:x.param=false)(hne:x.lent=true->x.loans≠[]):lS Q (eD v x).1.vars:=by
 unfold eD at hz hok⊢
 split at hz
 ·simp at hz
 ·rename_i hc
  rw[if_neg hc]at hok⊢
  exact Cm h hok hh hd hp hne
theorem Dg{Q:Prop}:∀(zas:List Ag) (ps:List Pa) {v:Sc},v.G Q->zas.length=ps.length->(dF v zas ps).2=0->(dF v zas ps).1.G Q/\((v.held≠[]\/∃p∈ps,p.lent=true)->(dF v zas ps).1.held≠[])
 |[],[],v,h,_,_=>⟨h,fun hc=>by simpa[dF]using hc⟩
 |a::zas,p::ps,v,h,hl,hz=>by
  rw[dF]at hz⊢
  split at hz
  ·rename_i h0
   rw[if_pos h0]
   have key:(i7 v a p).1.G Q/\((v.held≠[]\/p.lent=true)->(i7 v a p).1.held≠[]):=by
    unfold i7 at h0⊢
    split at h0
    ·simp at h0
    rename_i hc
    rw[if_neg hc]
    have hap:a.lent=p.lent:=by simpa using hc
    split at h0
    ·rename_i hal
     rw[if_pos hal]
     simp only at h0⊢
     have hu:=qx h a.place
     have hu0:(v.use a.place).2.2=0:=by
      split at h0
      ·assumption
      ·exact h0
     refine⟨⟨hu.1.ok,hu.1.inv,fun hlo q hq=>?_⟩,fun _=>by simp⟩
     rcases aE.1 hq with hq|hq
     ·exact hu.1.held hlo q hq
     ·exact hu.2.1 hu0 q hq
    ·rename_i hal
     rw[if_neg hal]
     refine⟨(sA a.expr h).1,fun hc=>?_⟩
     rcases hc with hc|hc
     ·rw[(Sc.expr_core a.expr v).2.2.1];exact hc
     ·rw[<-hap]at hc;exact absurd hc hal
   have ih:=Dg zas ps key.1 (by simpa using hl) hz
   refine⟨ih.1,fun hc=>ih.2 ?_⟩
   rcases hc with hc|⟨q,hq,hql⟩
   ·exact .inl (key.2 (.inl hc))
   ·rcases bf.1 hq with rfl|hq
    ·exact .inl (key.2 (.inr hql))
    ·exact .inr ⟨q,hq,hql⟩
  ·rename_i h0;exact absurd hz h0
 |[],p::ps,v,h,hl,_=>by simp at hl
 |a::zas,[],v,h,hl,_=>by simp at hl
def m9(p:List Fu):Prop:=∀f∈p,f.lent=true->∃x∈f.params,x.lent=true
theorem C9{Q:Prop}{v:Sc}(h:v.G Q){n fn:ByteArray}{zas:List Ag}(hp:m9 v.p)(hz:(gv v n fn zas).2=0)(hok:ke (gv v n fn zas).1.vars):lS Q (gv v n fn zas).1.vars:=by
 unfold gv at hz hok⊢
 split at hz
 ·simp at hz
 ·rename_i f hf
  rw[hf]at hok
  simp only at hok⊢
  split at hz
  ·rename_i hl
   rw[if_pos hl]at hok⊢
   split at hz
   ·rename_i h0
    rw[if_pos h0]at hok⊢
    have ha:=Dg zas f.params h hl h0
    unfold gC at hz hok⊢
    split at hz
    ·simp at hz
    ·rename_i hlo
     rw[if_neg hlo]at hok⊢
     have hlo':(dF v zas f.params).1.lost=false:=by simpa using hlo
     refine oe ha.1.inv hz hok ?_ rfl rfl ?_
     ·intro q hq
      simp only at hq
      split at hq
      ·exact ha.1.held hlo' q hq
      ·simp at hq
     ·intro hfl
      simp only at hfl⊢
      rw[if_pos hfl]
      exact ha.2 (.inr (hp f (List.mem_of_find?_eq_some hf) hfl))
   ·rename_i h0;exact absurd hz h0
  ·simp at hz
theorem BP{Q:Prop}{v:Sc}(h:v.G Q){n:ByteArray}{p o:Pl}{e:Ex}(hz:(gJ v n p o e).2=0)(hok:ke (gJ v n p o e).1.vars):lS Q (gJ v n p o e).1.vars:=by
 unfold gJ at hz hok⊢
 split at hz
 ·rename_i h0
  rw[if_pos h0]at hok⊢
  have h1:=vV h e
  generalize(v.number e).1=v1 at*
  unfold jc at hz hok⊢
  split at hz
  ·rename_i h2
   rw[if_pos h2]at hok⊢
   have h3:=qx h1 p
   have h4:((v1.use p).1.hold1 p).G Q:=⟨h3.1.ok,h3.1.inv,fun _=>h3.2.1 h2⟩
   have h5:=qx h4 o
   unfold o7 at hz hok⊢
   split at hz
   ·rename_i h6
    rw[if_pos h6]at hok⊢
    split at hz
    ·rename_i h7
     rw[if_pos h7]at hok⊢
     split at hz
     ·simp at hz
     ·rename_i h8
      rw[if_neg h8]at hok⊢
      have h8':(((v1.use p).1.hold1 p).use o).1.lost=false:=by simpa using h8
      refine oe (v:=(((v1.use p).1.hold1 p).use o).1.clear) h5.1.inv hz hok ?_ rfl rfl (fun _=>by simp)
      have hH:=h5.1.held h8'
      rw[(((v1.use p).1.hold1 p).use_core o).2.2.1]at hH
      intro q hq
      simp only[bf,ce,or_false]at hq
      rcases hq with rfl|rfl
      ·exact hH q (by simp[Sc.hold1])
      ·exact h5.2.1 h6 q (by simp)
    ·simp at hz
   ·rename_i h6;exact absurd hz h6
  ·rename_i h2;exact absurd hz h2
 ·rename_i h0;exact absurd hz h0
theorem u5{vs ws:List Vr}(h:(ws.take vs.length).map Vr.core=vs.map Vr.core){x:Vr}(hx:x∈vs):∃y∈ws,y.core=x.core:=by
 have:x.core∈(ws.take vs.length).map Vr.core:=by rw[h];exact cu hx
 obtain⟨y,hy,e⟩:=aU.1 this
 exact⟨y,bp hy,e⟩
theorem Cj{Q:Prop}{vs zas bs:List Vr}(hv:lS Q vs)(hnd:(vs.map (·.name)).Nodup)(ha:lS Q zas)(na:(zas.map (·.name)).Nodup)(hb:lS Q bs)(nb:(bs.map (·.name)).Nodup)
(pa:(zas.take vs.length).map Vr.core=vs.map Vr.core)(pb:(bs.take vs.length).map Vr.core=vs.map Vr.core):lS Q (gK vs (vs.map (·.name)) [zas,bs]):=by
 have hcore:=oQ vs (vs.map (·.name)) [zas,bs]
 obtain⟨L,e,hL⟩:=si [zas,bs] (vs.map (·.name)) vs
 rw[e]at hcore⊢
 have one:∀ws,lS Q ws->(ws.map (·.name)).Nodup->(ws.take vs.length).map Vr.core=vs.map Vr.core->∀x∈vs,x.lent=true->dW ws x.name=false->∀q∈x.loans,dW ws q.name=false:=by
  intro ws hw nw pw x hx hl hd q hq
  obtain⟨y,hy,ey⟩:=u5 pw hx
  have e1:y.name=x.name:=(congrArg Vr.name ey:y.core.name=x.core.name)
  have e2:y.lent=x.lent:=(congrArg Vr.lent ey:y.core.lent=x.core.lent)
  have e3:y.loans=x.loans:=(congrArg Vr.loans ey:y.core.loans=x.core.loans)
  rw[<-e1,C1 nw hy]at hd
  exact hw.cl y hy hd (e2.trans hl) q (by rw[e3];exact hq)
 refine⟨fun x hx hd hl q hq=>?_,fun x hx y hy hne h1 h2 h3 h4=>hv.ap x (jV hx h1).1 y (jV hy h3).1 hne h1 h2 h3 h4,fun x hx hp=>?_,fun x hx hl hp=>?_⟩
 ·obtain⟨hx0,hn⟩:=jV hx hd
  have hno:∀w∈[zas,bs],dW w x.name=false:=fun w hw=>by
   cases h:dW w x.name with
   |false=>rfl
   |true=>exact absurd ((hL _).2 ⟨aU.2 ⟨x,hx0,rfl⟩,w,hw,h⟩) hn
  rw[zz,hv.cl x hx0 hd hl q hq,dj]
  cases h:L.any fun m=>eqB m q.name with
  |false=>rfl
  |true=>
   exfalso
   obtain⟨-,w,hw,hd2⟩:=(hL _).1 ((j3 _ _).1 h)
   have hxw:=hno w hw
   simp only[bf,ce,or_false]at hw
   rcases hw with rfl|rfl
   ·rw[one _ ha na pa x hx0 hl hxw q hq]at hd2;simp at hd2
   ·rw[one _ hb nb pb x hx0 hl hxw q hq]at hd2;simp at hd2
 ·have hx2:=hx
  rw[jk]at hx
  obtain⟨y,hy,e⟩:=aU.1 hx
  have hyp:y.param=true:=by split at e<;>subst e<;>exact hp
  have hvp:=hv.pl y hy hyp
  split at e
  ·rename_i hk
   exfalso
   obtain⟨-,w,hw,hd2⟩:=(hL _).1 ((j3 _ _).1 hk)
   have two:∀ws,lS Q ws->(ws.map (·.name)).Nodup->(ws.take vs.length).map Vr.core=vs.map Vr.core->dW ws y.name=false:=by
    intro ws hw nw pw
    obtain⟨z,hz,ez⟩:=u5 pw hy
    have e1:z.name=y.name:=(congrArg Vr.name ez:z.core.name=y.core.name)
    have e2:z.param=y.param:=(congrArg Vr.param ez:z.core.param=y.core.param)
    rw[<-e1,C1 nw hz]
    exact(hw.pl z hz (e2.trans hyp)).2.1
   simp only[bf,ce,or_false]at hw
   rcases hw with rfl|rfl
   ·rw[two _ ha na pa]at hd2;simp at hd2
   ·rw[two _ hb nb pb]at hd2;simp at hd2
  ·subst e;exact hvp
 ·obtain⟨y,hy,-,e2,-,e4,e5⟩:=jy hcore hx
  rw[<-e2];exact hv.ne y hy (e4.trans hl) (e5.trans hp)
def xv(Q:Prop)(d:Nat):Prop:=∀(l:List St),cd d l=true->∀{e:En} {u:Sc},Rel e u []->u.good->u.held=[]->(∀f∈u.p,f.type.okB=true)->m9 u.p->u.vars.length+200*d<=2^30->lS Q u.vars->
 (u.stmts l).2=0->lS Q (u.stmts l).1.vars
theorem B6{Q:Prop}{d:Nat}(ih:xv Q d){s:St}(hs:dq (cd d) s=true){e:En}{u:Sc}(h:Rel e u [])(hu:u.good)(hh:u.held=[])(hp:∀f∈u.p,f.type.okB=true)(hg:m9 u.p)(hn:u.vars.length+200*d<=2^30)
(hi:lS Q u.vars)(hz:(u.stmt s).2=0):lS Q (u.stmt s).1.vars:=by
 have hr:ke (u.stmt s).1.vars:=by
  rcases rt (jA d) hs h hu hh hp hn with⟨-,r⟩|⟨r,-⟩
  ·exact r.ok
  ·exact absurd hz r
 have hG:u.G Q:=⟨h.ok,hi,fun _ q hq=>by rw[hh]at hq;simp at hq⟩
 have hE:=sA s.expr hG
 rw[Sc.stmt_eq]at hz hr⊢
 rcases stW hs with⟨k,r,n,x⟩|⟨k,r,n,p⟩|⟨k,r,p,x⟩|⟨k,r,n,f,a⟩|⟨k,r,x,t,l⟩|⟨k,r,n,p,o,x⟩<;>simp only[k,bw,if_true,if_false]at hz hr⊢
 ·split at hz
  ·rename_i h0
   rw[if_pos h0]at hr⊢
   exact oe hE.1.inv hz hr (fun q hq=>by simp at hq) rfl rfl (fun h=>by simp at h)
  ·rename_i h0;exact absurd hz h0
 ·have hU:=qx hG s.place
  split at hz
  ·rename_i h0
   rw[if_pos h0]at hr⊢
   exact oe hU.1.inv hz hr (hU.2.1 h0) rfl rfl (fun _=>by simp)
  ·rename_i h0;exact absurd hz h0
 ·have hU:=qx hE.1 s.place
  split at hz
  ·rename_i h0
   rw[if_pos h0]
   exact hU.1.inv
  ·rename_i h0;exact absurd hz h0
 ·exact C9 hG hg hz hr
 ·rcases oM x h with⟨a1,T1,a2⟩|⟨a1,a2⟩
  ·rw[if_pos a1]at hz hr⊢
   have se:=j4 hu hh s.expr
   have hN:=(vV hG s.expr).inv
   rw[<-eE]at se
   obtain rfl:=a2.nil se.held
   have hhi:=se.hi
   generalize(u.number s.expr).1=v at*
   generalize(e.expr s.expr).1.num (e.expr s.expr).2=w at*
   have hvp:∀f∈v.p,f.type.okB=true:=by rw[se.p];exact hp
   have hvg:m9 v.p:=by rw[se.p];exact hg
   unfold Sc.ways mG at hz hr⊢
   have hA:=jA d s.thn t a2 se.good se.held hvp (by omega)
   split at hz
   ·rename_i b1
    rw[if_pos b1]at hr⊢
    rcases hA with⟨-,b2⟩|⟨b2,-⟩
    ·have iA:=ih s.thn t a2 se.good se.held hvp hvg (by omega) hN b1
     have st:=fw d s.thn t v se.good se.held a2.lost0 hvp (by omega) b1
     obtain⟨g,hg'⟩:=st.giv
     have gg:Sc.good {v with given:=(v.stmts s.thn).1.given}:=by
      rw[hg']
      exact⟨fun y hy=>by simp only[ft,se.good.ok y hy,ew],se.good.nd,se.good.len,se.good.hl,se.good.hp,se.good.lp,se.good.ll,se.good.ty⟩
     have rB:Rel {w with names:=(w.body s.thn).names} {v with given:=(v.stmts s.thn).1.given} []:=⟨a2.vars,b2.names,a2.code,a2.p,a2.ok,a2.tmp,a2.lost,gg.ok⟩
     have hB:=jA d s.els l rB gg se.held hvp (by show v.vars.length+_<=_;omega)
     split at hz
     ·rename_i c1
      rw[if_pos c1]at hr⊢
      rcases hB with⟨-,c2⟩|⟨c2,-⟩
      ·have iB:=ih s.els l rB gg se.held hvp hvg (by show v.vars.length+_<=_;omega) hN c1
       have st2:=fw d s.els l {v with given:=(v.stmts s.thn).1.given} gg se.held a2.lost0 hvp (by show v.vars.length+_<=_;omega) c1
       exact Cj hN a2.ok.nd iA b2.ok.nd iB c2.ok.nd st.pre st2.pre
      ·exact absurd c1 c2
     ·rename_i c1;exact absurd hz c1
    ·exact absurd b1 b2
   ·rename_i b1;exact absurd hz b1
  ·rw[if_neg a1]at hz;exact absurd hz a1
 ·exact BP hG hz hr
theorem zV(Q:Prop):∀d,xv Q d:=by
 intro d
 induction d with
 |zero=>intro l h;simp[cd]at h
 |succ d ih=>
  have many:∀l:List St,(∀s∈l,dq (cd d) s=true)->∀{e:En} {u:Sc},Rel e u []->u.good->u.held=[]->(∀f∈u.p,f.type.okB=true)->m9 u.p->u.vars.length+l.length+200*d+150<=2^30->lS Q u.vars->
   (u.stmts l).2=0->lS Q (u.stmts l).1.vars:=by
   intro l
   induction l with
   |nil=>intro _ e u h _ _ _ _ _ hi _;rw[eG];exact hi
   |cons s l ihl=>
    intro hs e u h hu hh hp hg hn hi hz
    simp only[aV]at hn
    rw[dI]at hz⊢
    split at hz
    ·rename_i h0
     rw[if_pos h0]
     have hss:=hs s eV
     rcases rt (jA d) hss h hu hh hp (by omega)with⟨-,r⟩|⟨r,-⟩
     ·have s1:=tJ (d:=d) hss hu hh h.lost0 hp (by omega) h0
      have hhi:=s1.hi
      exact ihl (fun x hx=>hs x (ee _ hx)) r s1.good s1.held (by rw[s1.p];exact hp) (by rw[s1.p];exact hg) (by omega) (B6 ih hss h hu hh hp hg (by omega) hi h0) hz
     ·exact absurd h0 r
    ·rename_i h0;exact absurd hz h0
  intro l hl e u h hu hh hp hg hn hi hz
  simp only[cd,a6,decide_eq_true_eq,aW]at hl
  exact many l hl.2 h hu hh hp hg (by omega) hi hz
theorem oR:∀(ps:List Pa) (v:Sc),(cC v ps).2=0->(cC v ps).1.vars=v.vars++ps.map Pa.vr
 |[],v,_=>by simp[cC]
 |p::ps,v,hz=>by
  rw[cC]at hz⊢
  split at hz
  ·rename_i h0
   rw[if_pos h0,oR ps _ hz]
   have:(eD v p.vr).1.vars=v.vars++[p.vr]:=by
    unfold eD at h0⊢
    split at h0
    ·simp at h0
    ·rename_i hc;rw[if_neg hc]
   rw[this];simp
  ·rename_i h0;exact absurd hz h0
theorem xW(p:List Fu)(ps:List Pa)(hz:(cC (ba p) ps).2=0):lS (∃x∈ps,x.lent=true) (cC (ba p) ps).1.vars:=by
 have h:=oR ps _ hz
 simp only[ba,cY]at h
 have key:∀x∈(cC (ba p) ps).1.vars,x.loans=[]/\x.dead=false/\x.param=true/\(x.lent=true->∃x∈ps,x.lent=true):=by
  intro x hx
  simp only[ba]at hx
  rw[h]at hx
  obtain⟨y,hy,rfl⟩:=aU.1 hx
  exact⟨rfl,rfl,rfl,fun hl=>⟨y,hy,hl⟩⟩
 exact⟨fun x hx _ _ q hq=>by rw[(key x hx).1]at hq;simp at hq,fun x hx y hy _ _ _ _ _ q hq=>by rw[(key x hx).1]at hq;simp at hq,fun x hx _=>⟨(key x hx).1,(key x hx).2.1,(key x hx).2.2.2⟩,fun x hx _ hp=>by rw[(key x hx).2.2.1]at hp;simp at hp⟩
theorem BS:∀(vs:List Vr),(∀x∈vs,x.lent=true->x.param=false->x.loans≠[])->∀n,fM vs n=true->∃x∈vs,x.param=true/\x.lent=true:=by
 intro vs
 induction vs using nf with
 |nil=>intro _ n h;simp[BT]at h
 |snoc vs x ih=>
  intro hne n h
  have ih':=ih fun y hy=>hne y (List.mem_append_left _ hy)
  rw[jC]at h
  split at h
  ·split at h
   ·rename_i hp
    exact⟨x,by simp,hp,h⟩
   ·rename_i hp
    have hp':x.param=false:=by simpa using hp
    simp only[a6,aW]at h
    obtain⟨q,hq⟩:=List.exists_mem_of_ne_nil _ (hne x (by simp) h.1 hp')
    obtain⟨y,hy,h2⟩:=ih' _ (h.2 q hq)
    exact⟨y,List.mem_append_left _ hy,h2⟩
  ·obtain⟨y,hy,h2⟩:=ih' _ h
   exact⟨y,List.mem_append_left _ hy,h2⟩
theorem qN{p:Pg}(hfine:fu p=true){i:Nat}(hi:i<p.length):gn (p.take i) p[i]=0:=by
 simp only[fu,a6]at hfine
 have h2:=hfine.2
 rw[Option.isNone_iff_eq_none]at h2
 unfold lM at h2
 rw[List.find?_eq_none]at h2
 have:=h2 i (eF.2 hi)
 simp only[dO,aw hi]at this
 simpa using this
theorem Dc{p:Pg}(hfine:fu p=true){i:Nat}(hi:i<p.length)(hg:m9 (p.take i))(m:Nat)(hz:(iV (p.take i) p[i] (p[i].body.take m)).2=0):(iV (p.take i) p[i] (p[i].body.take m)).1.G (∃x∈p[i].params,x.lent=true):=by
 have hfo:=kD hfine
 obtain⟨hpl,hpf⟩:=eS hfo
 have W:=hpf p[i] (ax hi)
 have hti:∀f∈p.take i,f.type.okB=true:=fun f hf=>(hpf f (bp hf)).type
 have hr0:Rel (⟨p,i,[],[],0⟩:En) (ba (p.take i)) []:=⟨rfl,rfl,rfl,rfl,⟨by simp[ba],by simp[ba],fun j hj=>by simp[ba]at hj⟩,⟨rfl,fun j hj=>by simp at hj,fun q hq=>by simp[ba]at hq⟩,rfl,fun y hy=>by simp[ba]at hy⟩
 unfold iV at hz⊢
 split at hz
 ·rename_i a1
  rw[if_pos a1]
  rcases mi p[i].params hr0 rfl W.params with⟨-,a2⟩|⟨a2,-⟩
  ·have st:=gL p[i].params (fF (p.take i)) rfl W.params (by have:=W.plen;simp[ba];omega) a1
   have hhi:=st.hi
   have hpl4:=W.plen
   have h00:(ba (p.take i)).vars.length=0:=rfl
   have hb:=kc W.body m
   have hiv:=zV _ 4 (p[i].body.take m) hb a2 st.good st.held (by rw[st.p];exact hti) (by rw[st.p];exact hg) (by omega) (xW _ _ a1) hz
   have s2:=fw 4 (p[i].body.take m) hb _ st.good st.held a2.lost0 (by rw[st.p];exact hti) (by omega) hz
   rcases jA 4 (p[i].body.take m) hb a2 st.good st.held (by rw[st.p];exact hti) (by omega)with⟨-,b2⟩|⟨b2,-⟩
   ·exact⟨b2.ok,hiv,fun _ q hq=>by rw[s2.held]at hq;simp at hq⟩
   ·exact absurd hz b2
  ·exact absurd a1 a2
 ·rename_i a1;exact absurd hz a1
theorem Cq{p:Pg}(hfine:fu p=true):∀i,i<=p.length->m9 (p.take i):=by
 intro i
 induction i with
 |zero=>intro _ f hf;simp at hf
 |succ i ih=>
  intro hi
  have hi':i<p.length:=by omega
  have ih:=ih (by omega)
  rw[aA hi']
  intro f hf hl
  rcases aE.1 hf with hf|hf
  ·exact ih f hf hl
  ·simp at hf;subst hf
   have hc:=qN hfine hi'
   unfold gn at hc
   split at hc
   ·simp at hc
   split at hc
   ·rename_i a1
    split at hc
    ·rename_i b0
     have hb:iV (p.take i) p[i] (p[i].body.take p[i].body.length)=(cC (ba (p.take i)) p[i].params).1.stmts p[i].body:=by
      rw[aR];unfold iV;rw[if_pos a1]
     have hG:=Dc hfine hi' ih p[i].body.length (by rw[hb];exact b0)
     rw[hb]at hG
     generalize((cC (ba (p.take i)) p[i].params).1.stmts p[i].body).1=v at*
     unfold rQ pC at hc
     rw[if_pos hl]at hc
     have hU:=(qx hG p[i].gives).1
     split at hc
     ·split at hc
      ·split at hc
       ·simp at hc
       ·rename_i ho
        rw[hl,bY]at ho
        have ho':fM (v.use p[i].gives).1.vars p[i].gives.name=true:=by simpa using ho
        obtain⟨x,hx,hp,hxl⟩:=BS _ hU.inv.ne _ ho'
        exact(hU.inv.pl x hx hp).2.2 hxl
      ·simp at hc
     ·rename_i hc2;exact absurd hc hc2
    ·rename_i b0;exact absurd hc b0
   ·rename_i a1;exact absurd hc a1
theorem at_G{p:Pg}{fn n:Int}{v:Sc}(h:atS p fn n=some v):∃Q,v.G Q:=by
 obtain⟨i,m,hi,rfl,rfl,hm,hf,hz,rfl⟩:=uY h
 exact⟨_,Dc hf hi (Cq hf i (by omega)) m hz⟩
noncomputable def dz(p:Pg)(fn n:Int)(pl:Pl):List ByteArray:=match atS p fn n with|none=>[]|some v=>if pl.okB then bL v.vars pl else []
theorem wH(p:Pl)(vs:List Vr)(hok:ke vs):(eI vs p).map (fun i=>((vs[i]?).map (·.name)).getD (bl []))=bL vs p:=by
 have hT:qS vs [] []:=⟨rfl,fun i hi=>by simp at hi,fun q hq=>by simp at hq⟩
 have hmem:∀i,i<vs.length->(i∈eI vs p↔((vs[i]?).map (·.name)).getD (bl [])∈bL vs p):=by
  intro i hi
  have h1:=qj (p:=p) hok hT i
  rw[cD]at h1
  rw[h1,aw hi]
  simp only[bO,Option.getD_some]
  rw[iR p vs hok i hi]
  unfold InS
  simp only[cD]
  exact⟨fun⟨_,h⟩=>h,fun h=>⟨hi,h⟩⟩
 have e1:eI vs p=(df vs.length).reverse.filter fun i=>(bL vs p).any fun m=>eqB m (((vs[i]?).map (·.name)).getD (bl [])):=by
  classical
  unfold eI tq
  apply List.filter_congr
  intro i hi
  have hi':i<vs.length:=by simpa using hi
  have h2:=hmem i hi'
  unfold eI tq at h2
  rw[bW]at h2
  simp only[hi,true_and,decide_eq_true_eq]at h2
  refine bg.2 ⟨fun h=>(j3 _ _).2 (h2.1 (of_decide_eq_true h)),fun h=>decide_eq_true (h2.2 ((j3 _ _).1 h))⟩
 rw[e1]
 clear e1 hmem hT
 induction vs using nf with
 |nil=>rfl
 |snoc vs x ih=>
  have ih:=ih hok.front
  have hnew:x.name∉vs.map (·.name):=by
   have:=hok.nd
   rw[bj,eM]at this
   intro hm
   exact this.2.2 _ hm x.name (by simp) rfl
  have hlast:(((vs++[x])[vs.length]?).map (·.name)).getD (bl [])=x.name:=by simp
  have hpre:∀i,i<vs.length->(vs++[x])[i]?=vs[i]?:=fun i hi=>by rw[aO hi]
  have hns:x.name∉bL vs p:=fun h=>by
   obtain⟨i,hi,e⟩:=jm vs p h
   exact hnew (aU.2 ⟨vs[i],ax hi,e⟩)
  rw[bB,List.length_singleton,List.range_succ,List.reverse_append,List.reverse_singleton,List.singleton_append,List.filter_cons,hlast]
  have hrest:∀E:List ByteArray,(∀i,i<vs.length->(E.any fun m=>eqB m (((vs[i]?).map (·.name)).getD (bl [])))=((bL vs p).any fun m=>eqB m (((vs[i]?).map (·.name)).getD (bl []))))->
   (((df vs.length).reverse.filter fun i=>E.any fun m=>eqB m ((((vs++[x])[i]?).map (·.name)).getD (bl []))).map fun i=>(((vs++[x])[i]?).map (·.name)).getD (bl []))=bL vs p:=by
   intro E hE
   have h1:((df vs.length).reverse.filter fun i=>E.any fun m=>eqB m ((((vs++[x])[i]?).map (·.name)).getD (bl [])))=((df vs.length).reverse.filter fun i=>(bL vs p).any fun m=>eqB m (((vs[i]?).map (·.name)).getD (bl []))):=by
    apply List.filter_congr
    intro i hi
    have hi':i<vs.length:=by simpa using hi
    rw[hpre i hi',hE i hi']
   rw[h1]
   refine Eq.trans (eK fun i hi=>?_) ih
   have hi':i<vs.length:=by simpa using(bW.1 hi).1
   rw[hpre i hi']
  by_cases hx:x.name∈bL (vs++[x]) p
  ·rw[if_pos ((j3 _ _).2 hx),aQ,hlast]
   have he:bL (vs++[x]) p=x.name::bL vs p:=by
    have h2:=hx
    rw[jG]at h2⊢
    split at h2
    ·exact absurd h2 hns
    ·rename_i h0
     rw[if_neg h0]
     split at h2
     ·rename_i h1;rw[if_pos h1]
     ·exact absurd h2 hns
   rw[he]
   congr 1
   refine hrest _ fun i hi=>?_
   rw[List.any_cons,aw hi]
   simp only[bO,Option.getD_some]
   rw[cN.2 (fun e=>hnew (aU.2 ⟨vs[i],ax hi,e.symm⟩)),dj]
  ·have hna:((bL (vs++[x]) p).any fun m=>eqB m x.name)=false:=by
    cases ha:(bL (vs++[x]) p).any fun m=>eqB m x.name with
    |false=>rfl
    |true=>exact absurd ((j3 _ _).1 ha) hx
   rw[hna]
   simp only[av,if_false]
   have he:bL (vs++[x]) p=bL vs p:=by
    rw[jG]at hx⊢
    split
    ·rfl
    ·rename_i h0
     rw[if_neg h0]at hx
     split
     ·rename_i h1
      rw[if_pos h1]at hx
      exact absurd (eV) hx
     ·rfl
   rw[he]
   exact hrest _ fun i hi=>rfl
section
variable {P:Program}{F:Ids}{er:bU}
theorem wY(L:Lib P F)(T:Tys F)(hC:ej P F er)(p:Pg)(hc:p.small)(fn n:Int)(pl:Pl)(hp:pl.path.length<=2^30)(H:aj)(he:fP F er H):
 ACalls P 20 [.agg (Pg.enc p),I fn,I n,.agg pl.enc] H fun q H'=>q=.sl 1 none (aD (dz p fn n pl))/\H'=H:=by
 refine(L.a Tryz.func20 y20) (by simp[y20]) ?_
 have hat:=fun H1 he1=>c_kAt (er:=er) L T hC p hc fn n H1 he1
 have hpf:=gM L pl
 simp only[Pg.enc]at hat
 simp only[Pl.enc]at hpf
 simp only[y20,go_sem,rE,rA,rL,Pg.enc,Pl.enc]
 intro b4 hb4 b7 hb7
 have d47:=al (ai _ _ _) hb7
 have hb7':H.get b7=none:=by rw[ae _ _ (Ne.symm d47)]at hb7;exact hb7
 have k3:∀c o,H.get c=some o->((H.set b4 (.cells [.sl 12 none (p.map Fu.enc)])).set b7 (.cells [S pl.name,au pl.path])).get c=some o:=fun c o hc=>by rw[ae _ _ (al hc hb7'),ae _ _ (al hc hb4)];exact hc
 have he3:fP F er ((H.set b4 (.cells [.sl 12 none (p.map Fu.enc)])).set b7 (.cells [S pl.name,au pl.path])):=fun c hc=>k3 _ _ (he c hc)
 have g4:((H.set b4 (.cells [.sl 12 none (p.map Fu.enc)])).set b7 (.cells [S pl.name,au pl.path])).get b4=_:=(ae _ _ d47).trans (ai _ _ _)
 have g7:=ai (H.set b4 (.cells [.sl 12 none (p.map Fu.enc)])) b7 (.cells [S pl.name,au pl.path])
 have e7:∀c,(c=2\/c=3\/c=4\/c=5)->b7≠F.err c:=fun c hc=>Ne.symm (al (he c hc) hb7')
 generalize(H.set b4 (.cells [.sl 12 none (p.map Fu.enc)])).set b7 (.cells [S pl.name,au pl.path])=H3 at*
 simp only[go_sem,rE,rA,rL,g4]
 refine co (hat H3 he3) rfl (aj.sub_refl _) (fun h=>by simp at h) trivial ?_
 intro q H4 hr _
 rw[dg]
 cases ha:atS p fn n with
 |none=>
  rw[ha]at hr
  obtain⟨rfl,rfl⟩:=hr
  simp only[go_sem,rE,rA,rL,a9,aB]
  exact ak (.nil 1) (fun b o hb=>k3 b o hb) ⟨by simp only[dz,ha];rfl,rfl⟩
 |some v=>
  rw[ha]at hr
  obtain⟨s,ORD,HELD,m1,m2,rfl,hS,hR⟩:=hr
  obtain⟨pi,st⟩:=nK ha
  have hg:=st.good
  have g74:=(hR b7 _ g7 e7).1
  have hsub:H.sub H4:=fun b o hb=>hR.sub he3 hS b o (k3 b o hb)
  simp only[go_sem,rE,rA,rL,a9,aB,g74]
  refine ao hpf rfl ?_
  cases hok:pl.okB with
  |false=>
   simp only[go_sem,rE,rA,rL]
   exact ak (.nil 1) hsub ⟨by simp only[dz,ha,hok];rfl,rfl⟩
  |true=>
   simp only[go_sem,rE,rA,rL,g74]
   have hke:=z9 (F:=F) L s pl
   simp only[Pl.enc]at hke
   refine co hke rfl (aj.sub_empty _) (fun h=>by simp at h) trivial ?_
   rintro q H7 ⟨b,c,hbc,rfl,rfl⟩ hnew
   rw[tI]
   have fb:=hnew b (by rw[ae _ _ hbc,ai];simp) rfl
   have fc:=hnew c (by rw[ai];simp) rfl
   have keep:∀(o o':cM) d x,H4.get d=some x->((H4.set b o).set c o').get d=some x:=fun o o' d x hx=>by
    rw[ae _ _ (al hx fc),ae _ _ (al hx fb)];exact hx
   have hS7:∀o o',cH F er ((H4.set b o).set c o') s v ORD HELD m1 m2:=fun o o'=>hS.mono fun d hd=>by
    obtain⟨x,hx⟩:=aH.1 (hS.mem hd)
    rw[keep _ _ _ _ hx,hx]
   simp only[go_sem,rE,rA,rL]
   refine co (hC ((H4.set b (.cells [.ptr s 0])).set c (.cells [S pl.name,au pl.path])) s v ORD HELD m1 m2 b c pl (hS7 _ _) hg.nd hg.len hp hg.lp hg.ll (by rw[ae _ _ hbc,ai]) (ai _ _ _)) rfl (aj.sub_refl _) (fun h=>by simp at h) trivial ?_
   rintro q H8 ⟨rfl,rfl⟩ -
   rw[fq]
   simp only[go_sem,rE,rA,rL]
   exact ak (.refl _) (fun d o hd=>keep _ _ _ _ (hsub d o hd)) ⟨by simp only[dz,ha,hok];rfl,rfl⟩
theorem wP(L:Lib P F){p:Pg}(hf:p.fit)(hpl:p.length<=2^20)(fn n:Int)(pl:Pl)(hp:pl.path.length<=2^20):ACalls P 19 [.agg (Pg.enc p),I fn,I n,.agg pl.enc] .empty fun q H'=>q=.sl 1 none (aD (dz p fn n pl))/\H'=.empty:=by
 refine(L.a Tryz.func19 y19) (by simp[y19]) ?_
 have h4:=CJ L hf hpl fn n
 have hpf:=jJ L pl
 simp only[Pg.enc]at h4
 simp only[Pl.enc]at hpf
 simp only[y19,go_sem,rE,rA,rL,Pg.enc,Pl.enc,az,ay,bh]
 intro b4 hb4 b7 hb7 b14 hb14
 have d47:=al (ai _ _ _) hb7
 have g4:((aj.empty.set b4 (.cells [.sl 12 none (p.map Fu.enc)])).set b7 (.cells [S pl.name,au pl.path])).get b4=_:=(ae _ _ d47).trans (ai _ _ _)
 have g7:=ai (aj.empty.set b4 (.cells [.sl 12 none (p.map Fu.enc)])) b7 (.cells [S pl.name,au pl.path])
 generalize(aj.empty.set b4 (.cells [.sl 12 none (p.map Fu.enc)])).set b7 (.cells [S pl.name,au pl.path])=H00 at*
 have g4:(H00.set b14 (.tail 0 0)).get b4=_:=(ae _ _ (al g4 hb14)).trans g4
 have g7:(H00.set b14 (.tail 0 0)).get b7=_:=(ae _ _ (al g7 hb14)).trans g7
 have gt:=ai H00 b14 (.tail 0 0)
 generalize H00.set b14 (.tail 0 0)=H0 at*
 clear hb4 hb7 hb14
 simp only[go_sem,rE,rA,rL,g4]
 refine co h4 rfl (aj.sub_empty _) (by simp) trivial ?_
 intro q H1 hq hnew
 have hn1:∀c,H1.get c≠none->H0.get c=none:=fun c hc=>hnew c hc rfl
 have down:∀c o,H0.get c=some o->(H0.swap .empty H1).get c=some o/\H1.get c=none:=fun c o hc=>by
  have h1:H1.get c=none:=by
   cases h:H1.get c with
   |none=>rfl
   |some o=>have:=hn1 c (by rw[h];simp);rw[hc]at this;simp at this
  refine⟨?_,h1⟩
  rw[bx,h1];exact hc
 have up:∀c,H1.get c≠none->(H0.swap .empty H1).get c=H1.get c:=fun c hc=>by
  rw[bx]
  cases h:H1.get c with
  |none=>exact absurd h hc
  |some o=>rfl
 obtain⟨gt1,nt1⟩:=down _ _ gt
 obtain⟨g71,n71⟩:=down _ _ g7
 rcases yI p fn n with⟨ha,hs⟩|⟨u,v,ha,hs,hrel⟩
 ·rw[hs]at hq
  obtain⟨a,rfl,ga⟩:=hq
  generalize H0.swap .empty H1=H2 at*
  simp only[go_sem,rE,rA,rL]
  exact ak (.tok 1 _ _) (aj.sub_empty _) ⟨by simp only[dz,ha];rfl,rfl⟩
 ·rw[hs]at hq
  obtain⟨a,VS,NS,rfl,hE1,hok,hlo⟩:=hq
  have hE0:bE (H0.swap .empty H1) a v VS NS:=hE1.mono fun d hd=>up d (hE1.mem hd)
  have nt0:¬aN a VS NS b14:=fun h=>hE1.mem h nt1
  have n70:¬aN a VS NS b7:=fun h=>hE1.mem h n71
  have hvu:v.vars=u.vars:=by rw[hrel.vars,cD]
  have hnm:=wH pl v.vars (by rw[hvu];exact hrel.ok)
  generalize H0.swap .empty H1=H2 at*
  clear hE1 hn1 up down nt1 n71 hnew h4 hs
  simp only[go_sem,rE,rA,rL,g71]
  refine ao hpf rfl ?_
  cases hplo:pl.okB with
  |false=>
   simp only[go_sem,rE,rA,rL]
   exact ak (.tok 1 _ _) (aj.sub_empty _) ⟨by simp only[dz,ha,hplo];rfl,rfl⟩
  |true=>
  have hres:dz p fn n pl=(eI v.vars pl).map (fun i=>((v.vars[i]?).map (·.name)).getD (bl [])):=by simp only[dz,ha,hplo,if_true];rw[hnm,hvu]
  rw[hres]
  simp only[go_sem,rE,rA,rL,g71]
  refine bN (Cx L a v hok.len (fun x hx=>(hok.all x hx).1) pl hp) hE0 (by simp only[go_sem,rE,Pl.enc]) (.refl _) (fun h=>by simp at h) trivial ?_
  rintro q v1 VS1 NS1 H3 fp ⟨rfl,hv1⟩ hE3 hk3 -
  subst hv1
  obtain⟨gt3,nt3⟩:=hk3 _ _ gt1 nt0
  have hlt:=wI v1.vars pl
  have hle:(eI v1.vars pl).length<=v1.vars.length:=by
   unfold eI tq
   exact bT (fX _ _) (by simp)
  generalize eI v1.vars pl=LS at*
  have hlim:v1.vars.length<=LIM:=by have:=hok.len;simp[LIM];omega
  have hl20:=hok.len
  clear hE0 hk3 hres hnm
  simp only[go_sem,rE,rA,rL,fI]
  refine aT LS.length (fun k E' H'=>bE H' a v1 VS1 NS1/\E' 10=.ptr a 0/\E' 12=.sl 1 none (bK LS)/\E' 13=I k/\bM H' 1 (aD ((LS.take k).map fun i=>((v1.vars[i]?).map (·.name)).getD (bl []))) (E' 9)/\∀c,cA (E' 9) c->¬aN a VS1 NS1 c)
   ⟨hE3,rfl,rfl,rfl,.inr ⟨b14,0,0,rfl,gt3⟩,fun c ⟨_,_,_,_,e⟩=>by simp[gD,lG]at e;obtain⟨-,⟨rfl,-⟩,-⟩:=e;exact nt3⟩ ?_
  rintro k E' H' hk ⟨hE,q10,q12,q13,qa,qt⟩
  have ho:=hE.obj
  simp only[dm]at ho
  simp only[go_sem,rE,rA,rL,q12,q13,fI]
  refine aF (fun hlt2=>?_) (fun hge=>?_)
  ·have hk1:k<LS.length:=by omega
   have w1:=aL (n:=(k:Int)+1) (by omega) (by omega)
   have hi:=hlt _ (ax hk1)
   obtain⟨vb,vc,cs,rfl,hr⟩:=hE.vars.row hi
   have hsn:(LS.take (k+1)).map (fun i=>((v1.vars[i]?).map (·.name)).getD (bl []))=(LS.take k).map (fun i=>((v1.vars[i]?).map (·.name)).getD (bl []))++[v1.vars[LS[k]].name]:=by
    rw[aA hk1,bj,List.map_singleton,aw hi];rfl
   have hgk:=jj hk1
   have hin:(0:Int)<=(LS[k]:Int):=by omega
   have hg:=hr.get
   have hn:=hr.name
   clear hr
   generalize LS[k]=i at*
   have hii:(i:Int)<v1.vars.length:=by omega
   simp only[go_sem,rE,rA,rL,q10,q12,q13,ho,hgk,hlim,hii,hg,hn,az,aq,ay]
   refine eB (es:=aD ((LS.take k).map fun i=>((v1.vars[i]?).map (·.name)).getD (bl []))) (ys:=[[S v1.vars[i].name]]) (by simp only[go_sem,rE,rA,rL];exact qa) (by simp[go_sem,bh]) (by simp) (by simp[aD];omega) ?_
   intro x' H4 fp hx' hfp hkeep hnew
   simp only[go_sem,rE,rA,rL,q10,q12,q13,w1]at hkeep hnew⊢
   refine⟨hk1,H4,aj.sub_refl _,hE.mono fun d hd=>hkeep d (hE.mem hd) fun h=>qt d h hd,rfl,?_,fun c hc hb=>?_⟩
   ·rw[hsn,aD,bj];exact hx'
   ·rcases hnew c hc with h|h
    ·exact qt c h hb
    ·exact hE.mem hb h
  ·have hkk:k=LS.length:=by omega
   subst hkk
   rw[aR]at qa
   simp only[go_sem,rE,rA,rL]
   exact ak qa.le (aj.sub_empty _) ⟨rfl,rfl⟩
end
section
variable {P:Program}{F:Ids}
theorem yD(L:Lib P F)(r:Nat)(bs:List UInt8)(hbs:bs.length<=2000)(p:Int)(hp:0<=p)(hp2:p+20<=2^50):
 ACalls P 35 [.ptr r 0] (one r (RdO bs p)) (RdR r bs p 20 fun q=>∃pl:Pl,q=.agg pl.enc/\pl.path.length<=10):=by
 refine(L.a Tryz.func35 y35) (by simp[y35]) ?_
 simp only[y35,go_sem,rE,rA,rL,az,aq,ay,bh]
 intro b2 hb2 b6 hb6
 have hr2:r≠b2:=al (bH r (RdO bs p)) hb2
 have gr:((one r (RdO bs p)).set b2 (.cells [S (bl []),NIL])).get r=some (RdO bs p):=by rw[ae _ _ hr2,bH]
 have g2:((one r (RdO bs p)).set b2 (.cells [S (bl []),NIL])).get b2=some (.cells [S (bl []),NIL]):=ai _ _ _
 generalize(one r (RdO bs p)).set b2 (.cells [S (bl []),NIL])=H0 at*
 have gr:(H0.set b6 (.tail 6 6)).get r=_:=(ae _ _ (al gr hb6)).trans gr
 have g2:(H0.set b6 (.tail 6 6)).get b2=_:=(ae _ _ (al g2 hb6)).trans g2
 generalize H0.set b6 (.tail 6 6)=H1 at*
 clear hb2 hb6
 refine aZ (zas:=[.ptr r 0,.sl 1 (some (b6,6,6)) (js [bl [112],bl [113],bl [114],bl [97,98],bl [97,99],bl [97,100]])]) ((AL L r bs hbs [bl [112],bl [113],bl [114],bl [97,98],bl [97,99],bl [97,100]] (by simp) (by simp) p hp (by omega)).args ⟨.refl _,.tok _ _ _,trivial⟩) (rfl) gr (by simp) trivial ?_
 rintro q p1 hp1 hp1' ⟨s0,rfl⟩
 have g2:(H1.set r (RdO bs p1)).get b2=_:=(ae _ _ (Ne.symm hr2)).trans g2
 have gr:(H1.set r (RdO bs p1)).get r=_:=ai _ _ _
 generalize H1.set r (RdO bs p1)=H2 at*
 simp only[go_sem,rE,rA,rL]
 intro b3 hb3
 have hr3:=al gr hb3
 have d23:=al g2 hb3
 have gr:(H2.set b3 (.cells [S s0,NIL])).get r=_:=(ae _ _ hr3).trans gr
 have g2:(H2.set b3 (.cells [S s0,NIL])).get b2=_:=(ae _ _ d23).trans g2
 have g3:(H2.set b3 (.cells [S s0,NIL])).get b3=_:=ai _ _ _
 generalize H2.set b3 (.cells [S s0,NIL])=H3 at*
 clear hb3
 refine aZ (cv L r bs p1 4 hbs (by omega) (by omega)) (rfl) gr (by simp) trivial ?_
 rintro q p2 hp12 hp12' ⟨m,rfl,hm0,hm4⟩
 have g2:(H3.set r (RdO bs p2)).get b2=_:=(ae _ _ (Ne.symm hr2)).trans g2
 have g3:(H3.set r (RdO bs p2)).get b3=_:=(ae _ _ (Ne.symm hr3)).trans g3
 have gr:(H3.set r (RdO bs p2)).get r=_:=ai _ _ _
 generalize H3.set r (RdO bs p2)=H4 at*
 have hch:∀a b:AC,bh 1 2 [a,b]=[[a],[b]]:=fun _ _=>rfl
 have hg0:∀a b:List AC,[a,b][Int.toNat 0]?=some a:=fun _ _=>rfl
 have hg1:∀a b:List AC,[a,b][Int.toNat 1]?=some b:=fun _ _=>rfl
 have h00:(0:Int)<=0:=cZ _
 have h01:(0:Int)<=1:=by decide
 have fin:∀(E':Env) (H':aj) (s:ByteArray) (X:AC) (path:List Int) (p':Int),E' 2=.ptr b2 0->H'.get r=some (RdO bs p')->Le X (.sl 1 none (fQ path))->path.length<=4->p<=p'->p'<=p+20->
  bk.post [.cell 2 (some 2)] (RdR r bs p 20 fun q=>∃pl:Pl,q=.agg pl.enc/\pl.path.length<=10) .ret E' (H'.set b2 (.cells [S s,X])):=by
  intro E' H' s X path p' e2 gr hX hpl h1 h2
  exact bZ (off:=0) (q':=.agg (Pl.enc ⟨s,path⟩)) e2 (ai _ _ _) rfl (.agg ⟨⟨.refl _,rfl⟩,⟨hX,rfl⟩,trivial⟩) (fh (o:=RdO bs p') (by rw[ae _ _ hr2];exact gr)) ⟨p',h1,h2,rfl,⟨s,path⟩,rfl,by simp;omega⟩
 have d2r:=Ne.symm hr2
 simp only[go_sem,rE,rA,rL]
 refine wp_loop (fun n E H=>∃(k:Nat) (X:AC) (path:List Int) (p':Int),n=k/\path.length+k<=3/\E 0=.ptr r 0/\E 2=.ptr b2 0/\E 3=.ptr b3 0/\E 4=I k/\H.get r=some (RdO bs p')/\H.get b2=some (.cells [S (bl []),NIL])/\H.get b3=some (.cells [S s0,X])/\bM H 1 (fQ path) X/\p<=p'/\p'+k<=p+10)
  m.toNat ⟨m.toNat,NIL,[],p2,rfl,by simp;omega,rfl,rfl,rfl,by simp only[go_sem,rE];rw[Int.toNat_of_nonneg hm0],gr,g2,g3,.inl ⟨rfl,rfl⟩,by omega,by omega⟩ ?_
 rintro k E H ⟨k',X,path,p',rfl,hpk,e0,e2,e3,e4,gr,g2,g3,hX,h1,h2⟩
 have bX:∀c cs,H.get c=some (.cells cs)->¬cA X c:=fun c cs hc ht=>by obtain⟨n,m,e⟩:=hX.tok ht;rw[hc]at e;simp at e
 simp only[go_sem,rE,rA,rL,e4]
 refine aF (fun hgt=>?_) (fun hle=>?_)
 ·have hk0:0<k:=by omega
  have w1:=aL (n:=(k:Int) - 1) (by omega) (by omega)
  simp only[go_sem,rE,rA,rL,e0,e3,g3]
  refine aZ (cv L r bs p' 2 hbs (by omega) (by omega)) (rfl) gr (fun _=>⟨by omega,I 0,0,rfl,cZ _,.inr rfl⟩) (by simp[dU];exact fun h=>hr3 h.symm) ?_
  rintro q p3 hp3 hp3' ⟨j,rfl,hj0,hj1⟩
  have hXr:bM (H.set r (RdO bs p3)) 1 (fQ path) X:=hX.mono fun c hc=>ae _ _ (by rintro rfl;exact bX _ _ gr hc)
  have g2r:(H.set r (RdO bs p3)).get b2=_:=(ae _ _ (Ne.symm hr2)).trans g2
  have g3r:(H.set r (RdO bs p3)).get b3=_:=(ae _ _ (Ne.symm hr3)).trans g3
  have grr:(H.set r (RdO bs p3)).get r=_:=ai _ _ _
  simp only[go_sem,rE,rA,rL,az,aq,ay]
  refine eB (es:=fQ path) (ys:=[[I j]]) (by simp only[go_sem,rE,rA,rL];exact hXr) (by simp[go_sem,bh]) (by simp) (by simp[fQ];omega) ?_
  intro x' H5 fp hx' hfp hkeep hnew
  simp only[go_sem,rE,rA,rL]at hkeep hnew
  have k2:=(hkeep b2 (by rw[g2r];simp) (bX _ _ g2)).trans g2r
  have k3:=(hkeep b3 (by rw[g3r];simp) (bX _ _ g3)).trans g3r
  have kr:=(hkeep r (by rw[grr];simp) (bX _ _ gr)).trans grr
  have nx:¬cA x' b3:=fun h=>by
   rcases hnew b3 h with h|h
   ·exact bX _ _ g3 h
   ·rw[g3r]at h;simp at h
  simp only[go_sem,rE,rA,rL,e3,k3,hx'.one,e4,w1]
  refine⟨k - 1,by omega,_,aj.sub_refl _,k - 1,x',path++[j],p3,rfl,by simp;omega,e0,e2,by rw[show((k - 1:Nat):Int)=(k:Int) - 1 by omega],(ae _ _ hr3).trans kr,(ae _ _ d23).trans k2,ai _ _ _,?_,by omega,by omega⟩
  rw[<-mg]
  exact hx'.mono fun c hc=>ae _ _ (by rintro rfl;exact nx hc)
 ·have hk0:k=0:=by omega
  subst hk0
  simp only[go_sem,rE,rA,rL,e0]
  refine aZ (cv L r bs p' 20 hbs (by omega) (by omega)) (rfl) gr (by simp) trivial ?_
  rintro q p3 hp3 hp3' ⟨j,rfl,hj0,hj1⟩
  have hXr:bM (H.set r (RdO bs p3)) 1 (fQ path) X:=hX.mono fun c hc=>ae _ _ (by rintro rfl;exact bX _ _ gr hc)
  have g2:(H.set r (RdO bs p3)).get b2=_:=(ae _ _ (Ne.symm hr2)).trans g2
  have g3:(H.set r (RdO bs p3)).get b3=_:=(ae _ _ (Ne.symm hr3)).trans g3
  have gr:(H.set r (RdO bs p3)).get r=_:=ai _ _ _
  generalize H.set r (RdO bs p3)=H5 at*
  have bX:∀c cs,H5.get c=some (.cells cs)->¬cA X c:=fun c cs hc ht=>by obtain⟨n,m,e⟩:=hXr.tok ht;rw[hc]at e;simp at e
  simp only[go_sem,rE,rA,rL]
  by_cases hj:j=0
  ·have hj':(j==0)=true:=by simpa using hj
   simp only[go_sem,rE,rA,rL,hj',e0,az,aq,ay,hch]
   intro b0 hb0
   have gr0:(H5.set b0 (.tail 2 2)).get r=_:=(ae _ _ (al gr hb0)).trans gr
   have g20:(H5.set b0 (.tail 2 2)).get b2=_:=(ae _ _ (al g2 hb0)).trans g2
   have g30:(H5.set b0 (.tail 2 2)).get b3=_:=(ae _ _ (al g3 hb0)).trans g3
   have hX0:=hXr.new hb0 (.tail 2 2)
   generalize H5.set b0 (.tail 2 2)=H6 at*
   have bX:∀c cs,H6.get c=some (.cells cs)->¬cA X c:=fun c cs hc ht=>by obtain⟨n,m,e⟩:=hX0.tok ht;rw[hc]at e;simp at e
   refine aZ (zas:=[.ptr r 0,.sl 1 (some (b0,2,2)) (js [bl [],bl [80]])]) ((AL L r bs hbs [bl [],bl [80]] (by simp) (by simp) p3 (by omega) (by omega)).args ⟨.refl _,.tok _ _ _,trivial⟩) (rfl) gr0 (by simp) trivial ?_
   rintro q p4 hp4 hp4' ⟨s1,rfl⟩
   have g34:(H6.set r (RdO bs p4)).get b3=_:=(ae _ _ (Ne.symm hr3)).trans g30
   simp only[go_sem,rE,rA,rL,e2,e3,g34,g20,d23,d2r]
   exact fin _ _ s1 X path p4 e2 (by rw[ae _ _ hr3,ai]) hX0.le (by omega) (by omega) (by omega)
  have hj':(j==0)=false:=by simpa using hj
  by_cases hj2:j=1
  ·have hj2':(j==1)=true:=by simpa using hj2
   simp only[go_sem,rE,rA,rL,hj',hj2',e0,e3,g3,az,aq,ay,hch]
   refine aZ (cv L r bs p3 2 hbs (by omega) (by omega)) (rfl) gr (fun _=>⟨by omega,I 0,0,rfl,cZ _,.inr rfl⟩) (by simp[dU];exact fun h=>hr3 h.symm) ?_
   rintro q p4 hp4 hp4' ⟨i,rfl,hi0,hi1⟩
   have hX4:bM (H5.set r (RdO bs p4)) 1 (fQ path) X:=hXr.mono fun c hc=>ae _ _ (by rintro rfl;exact bX _ _ gr hc)
   have g24:(H5.set r (RdO bs p4)).get b2=_:=(ae _ _ (Ne.symm hr2)).trans g2
   have g34:(H5.set r (RdO bs p4)).get b3=_:=(ae _ _ (Ne.symm hr3)).trans g3
   have gr4:(H5.set r (RdO bs p4)).get r=_:=ai _ _ _
   obtain⟨z,hz⟩:∃z:Int,([[I (-1)],[I 2]]:List (List AC))[i.toNat]?=some [I z]:=by
    have:i=0\/i=1:=by omega
    rcases this with rfl|rfl
    ·exact⟨-1,rfl⟩
    ·exact⟨2,rfl⟩
   generalize H5.set r (RdO bs p4)=H6 at*
   have bX:∀c cs,H6.get c=some (.cells cs)->¬cA X c:=fun c cs hc ht=>by obtain⟨n,m,e⟩:=hX4.tok ht;rw[hc]at e;simp at e
   simp only[go_sem,rE,rA,rL,hz,hi0,az,aq,ay]
   refine eB (es:=fQ path) (ys:=[[I z]]) (by simp only[go_sem,rE,rA,rL];exact hX4) (by simp[go_sem,bh]) (by simp) (by simp[fQ];omega) ?_
   intro x' H7 fp hx' hfp hkeep hnew
   simp only[go_sem,rE,rA,rL]at hkeep hnew
   have k2:=(hkeep b2 (by rw[g24];simp) (bX _ _ g24)).trans g24
   have k3:=(hkeep b3 (by rw[g34];simp) (bX _ _ g34)).trans g34
   have kr:=(hkeep r (by rw[gr4];simp) (bX _ _ gr4)).trans gr4
   have nx:¬cA x' b3:=fun h=>by
    rcases hnew b3 h with h|h
    ·exact bX _ _ g34 h
    ·rw[g34]at h;simp at h
   simp only[go_sem,rE,rA,rL,e2,e3,k2,k3,d23,hx'.one]
   exact fin _ _ s0 x' (path++[z]) p4 e2 ((ae _ _ hr3).trans kr) (by rw[<-mg];exact hx'.le) (by simp;omega) (by omega) (by omega)
  have hj2':(j==1)=false:=by simpa using hj2
  simp only[go_sem,rE,rA,rL,hj',hj2',e2,e3,g2,g3]
  exact fin _ _ s0 X path p3 e2 gr hXr.le (by omega) (by omega) (by omega)
end
theorem Av(p:Pg)(fn n:Int):∀x∈(wsS p fn n).filter o8,x.loans≠[]/\∀q∈x.loans,q.name∈(wsS p fn n).map (·.name):=by
 intro x hx
 obtain⟨hx,hq⟩:=bW.1 hx
 simp only[o8,a6,dH]at hq
 unfold wsS at hx⊢
 cases ha:atS p fn n with
 |none=>rw[ha]at hx;simp at hx
 |some v=>
  rw[ha]at hx
  simp only at hx⊢
  obtain⟨Q,hG⟩:=at_G ha
  obtain⟨hx,hd⟩:=bW.1 hx
  have hd:x.dead=false:=by simpa using hd
  refine⟨hG.inv.ne x hx hq.1 hq.2,fun q hq2=>?_⟩
  obtain⟨y,hy,e,hyd⟩:=C2 (hG.inv.cl x hx hd hq.1 q hq2)
  exact aU.2 ⟨y,bW.2 ⟨hy,by simp[hyd]⟩,e⟩
section
variable {P:Program}{F:Ids}{er:bU}
end
theorem xR{E:Env}{H:aj}{n m k j r off r' off':Nat}{g g':Option Nat}{cs cs':List AC}{q q1 q' q1':AC}{R:AC->aj->Prop}(hE:E n=.ptr r off)(hg:H.get r=some (.cells cs))(hq:fS g cs off=some q)
(hl:Le q q1)(hE':E j=.ptr r' off')(hg':H.get r'=some (.cells cs'))(hq':fS g' cs' off'=some q')(hl':Le q' q1'){H':aj}(hs:H'.sub H)(h:R (.tup [q1,E m,E k,q1']) H'):bk.post [.cell n g,.slot m,.slot k,.cell j g'] R .ret E H:=
 ⟨.tup [q,E m,E k,q'],by simp only[kM,iQ,j8.val,hE,hg,hq,hE',hg',hq'],_,H',.of (Le.tup (show LeA [q,E m,E k,q'] [q1,E m,E k,q1']from⟨hl,.refl _,.refl _,hl',trivial⟩)) hs,h⟩
theorem zY{p:Pg}(hf:p.fit){fn n:Int}{e:En}(h:iW p fn n=some e):e.ok:=by
 unfold iW at h
 split at h
 ·rename_i hc
  obtain⟨hfine,h0,h1⟩:=hc
  obtain⟨i,rfl⟩:=cy h0
  have hi:i<p.length:=by omega
  rw[dt,aw hi]at h
  simp only at h
  split at h
  ·rename_i hn
   obtain⟨m,rfl⟩:=cy hn.1
   rw[dt]at h
   simp only[Option.some.injEq]at h
   subst h
   have hfo:=kD hfine
   obtain⟨-,hw⟩:=eS hfo
   have W:=hw p[i] (ax hi)
   obtain⟨hp1,hcnt⟩:=hf.2 p[i] (ax hi)
   obtain⟨s1,s2,s3,s4,s5⟩:=pY hfo hi
   have hwp:=W.plen
   have hokS:∀f∈p,f.okS:=fun f hf=>(hw f hf).okS
   have hst:=lP 4 _ W.body
   have htk:=jH p[i].body m
   exact((En.stmt_step _).2 (p[i].body.take m) (aC _) (fun s hs=>(hst s (bp hs)).1) (cB p i) s1 (by omega) (by rw[s2];exact hokS)).ok
  ·simp at h
 ·simp at h
theorem ws_ok{p:Pg}(hf:p.fit)(fn n:Int):∀x∈wsS p fn n,x.loans.length<=2^20/\∀q∈x.loans,q.path.length<=2^20:=by
 intro x hx
 unfold wsS at hx
 rcases yI p fn n with⟨h1,h2⟩|⟨v,e,h1,h2,hr⟩
 ·rw[h1]at hx;simp at hx
 ·rw[h1]at hx
  have hm:=(bW.1 hx).1
  have hok:=((zY hf h2).all x (by rw[hr.vars,cD];exact hm)).1
  exact⟨hok.loans,hok.paths⟩
theorem sK{P:Program}{F:Ids}(L:Lib P F)(bs:List UInt8)(hl:bs.length<=2^30):ACalls P 18 [.sl 1 none (fO bs)] .empty fun q H'=>H'=.empty/\∃(pr:Pg) (fn n:Int) (pl:Pl),q=.tup [.agg (Pg.enc pr),I fn,I n,.agg pl.enc]/\drawn 1 pr/\pl.path.length<=2^20:=by
 refine(L.a Tryz.func18 y18) (by simp[y18]) ?_
 simp only[y18,go_sem,rE,rA,rL]
 intro b2 hb2 b5 hb5
 have d25:=al (ai _ _ _) hb5
 have g2:((aj.empty.set b2 (.cells [NIL])).set b5 (.cells [S (bl []),NIL])).get b2=_:=(ae _ _ d25).trans (ai _ _ _)
 have g5:=ai (aj.empty.set b2 (.cells [NIL])) b5 (.cells [S (bl []),NIL])
 generalize(aj.empty.set b2 (.cells [NIL])).set b5 (.cells [S (bl []),NIL])=H0 at*
 clear hb2 hb5
 have h0:H0.only (fun _=>False)=.empty:=aj.ext fun b=>by rw[cq (by simp)];rfl
 have hc:=CI L bs hl
 rw[<-h0]at hc
 refine ic (fun _=>False) hc (rfl) (.refl _) (by simp) trivial ?_
 rintro q H' H1 ⟨r,bs',rfl,rfl,hbs'⟩ hsub hafter hnew -
 have gr:H1.get r=some (RdO bs' 0):=hsub _ _ (bH _ _)
 have g2:H1.get b2=some (.cells [NIL]):=by rw[hafter.out b2 (by simp) (by rw[g2];simp),g2]
 have g5:H1.get b5=some (.cells [S (bl []),NIL]):=by rw[hafter.out b5 (by simp) (by rw[g5];simp),g5]
 have hr2:r≠b2:=by rintro rfl;rw[gr]at g2;simp[RdO]at g2
 have hr5:r≠b5:=by rintro rfl;rw[gr]at g5;simp[RdO]at g5
 simp only[go_sem,rE,rA,rL]
 refine aZ (AN L r bs' hbs' 0 (by omega) (by simp[FC])) (rfl) gr (by simp) trivial ?_
 rintro q p1 hp1 hp1' ⟨pr,fn,n,rfl,hd⟩
 simp only[FC]at hp1'
 have hfi:=hd.fit (by omega)
 have hpl:pr.length<=2^20:=by have:=hd.2.2;omega
 have g2:(H1.set r (RdO bs' p1)).get b2=_:=(ae _ _ (Ne.symm hr2)).trans g2
 have g5:(H1.set r (RdO bs' p1)).get b5=_:=(ae _ _ (Ne.symm hr5)).trans g5
 have gr:(H1.set r (RdO bs' p1)).get r=_:=ai _ _ _
 generalize H1.set r (RdO bs' p1)=H2 at*
 simp only[go_sem,rE,rA,rL,Pg.enc]
 intro b7 hb7
 have hr7:=al gr hb7
 have d27:=al g2 hb7
 have d57:=al g5 hb7
 have gr:(H2.set b7 (.cells [.sl 12 none (pr.map Fu.enc)])).get r=_:=(ae _ _ hr7).trans gr
 have g2:(H2.set b7 (.cells [.sl 12 none (pr.map Fu.enc)])).get b2=_:=(ae _ _ d27).trans g2
 have g5:(H2.set b7 (.cells [.sl 12 none (pr.map Fu.enc)])).get b5=_:=(ae _ _ d57).trans g5
 have g7:(H2.set b7 (.cells [.sl 12 none (pr.map Fu.enc)])).get b7=_:=ai _ _ _
 generalize H2.set b7 (.cells [.sl 12 none (pr.map Fu.enc)])=H3 at*
 clear hb7
 have hs:=CB L hfi hpl fn n
 have hlv:=Av pr fn n
 have o1:=(wsS_ok pr fn n).1
 have ok:=ws_ok hfi fn n
 rw[Cb]at hs
 simp only[Pg.enc]at hs
 have hll:=fX o8 (wsS pr fn n)
 have hLl:((wsS pr fn n).filter o8).length<=2^30:=by omega
 have hL3:∀x∈(wsS pr fn n).filter o8,x.loans≠[]/\x.loans.length<=2^20/\∀q∈x.loans,q.path.length<=2^20:=fun x hx=>by
  have h1:=ok x (bW.1 hx).1
  exact⟨(hlv x hx).1,h1.1,h1.2⟩
 generalize(wsS pr fn n).filter o8=LS at*
 clear hlv o1 ok hll
 refine co hs (rfl) (aj.sub_empty _) (by simp) trivial ?_
 rintro q H' ⟨rfl,rfl⟩ -
 rw[dV]
 simp only[go_sem,rE,rA,rL,g7,am]
 have d72:=Ne.symm d27
 have d75:=Ne.symm d57
 have d52:=Ne.symm d25
 have fin:∀(E':Env) (H':aj) (pl:Pl) (X:AC),E' 2=.ptr b2 0->E' 3=I fn->E' 4=I n->E' 5=.ptr b5 0->Le X (au pl.path)->pl.path.length<=2^20->
  bk.post [.cell 2 (some 1),.slot 3,.slot 4,.cell 5 (some 2)] (fun q H'=>H'=.empty/\∃(pr:Pg) (fn n:Int) (pl:Pl),q=.tup [.agg [.sl 12 none (pr.map Fu.enc)],I fn,I n,.agg pl.enc]/\drawn 1 pr/\pl.path.length<=2^20) .ret E' ((H'.set b2 (.cells [.sl 12 none (pr.map Fu.enc)])).set b5 (.cells [S pl.name,X])):=by
  intro E' H' pl X e2 e3 e4 e5 hX hp
  exact xR (q1:=.agg [.sl 12 none (pr.map Fu.enc)]) (off:=0) (q1':=.agg pl.enc) (off':=0) e2 ((ae _ _ d25).trans (ai _ _ _)) rfl (.refl _) e5 (ai _ _ _) rfl (.agg ⟨⟨.refl _,rfl⟩,⟨hX,rfl⟩,trivial⟩) (aj.sub_empty _) ⟨rfl,pr,fn,n,pl,by rw[e3,e4],hd,hp⟩
 have d2r:=Ne.symm hr2
 have d5r:=Ne.symm hr5
 have d7r:=Ne.symm hr7
 have hlp:∀p':Int,0<=p'->p'+20<=2^50->ACalls P 35 [.ptr r 0] (one r (RdO bs' p')) (RdR r bs' p' 20 fun q=>∃pl:Pl,q=.agg pl.enc/\pl.path.length<=10):=fun p' h1 h2=>yD L r bs' hbs' p' h1 h2
 by_cases hL0:¬(LS.length:Int)>0
 ·simp only[go_sem,rE,rA,rL,hL0,decide_false]
  simp only[go_sem,rE,rA,rL,g7]
  refine aZ (hlp p1 (by omega) (by omega)) (rfl) gr (fun _=>⟨by omega,_,⟨bl [],[]⟩,rfl,by simp⟩) (by simp[dU];exact fun h=>hr7 h.symm) ?_
  rintro q p2 hp2 hp2' ⟨pl,rfl,hpp⟩
  simp only[go_sem,rE,rA,rL,g2,g5,d25,d52,d2r,d5r,Pl.enc]
  exact fin _ _ pl _ rfl rfl rfl rfl (.refl _) (by omega)
 have hL0:=Decidable.not_not.1 hL0
 have w0:=hL0
 simp only[go_sem,rE,rA,rL,hL0,decide_true]
 refine aZ (cv L r bs' p1 5 hbs' (by omega) (by omega)) (rfl) gr (by simp) trivial ?_
 rintro q p2 hp2 hp2' ⟨k,rfl,hk0,hk1⟩
 have g2:(H3.set r (RdO bs' p2)).get b2=_:=(ae _ _ d2r).trans g2
 have g5:(H3.set r (RdO bs' p2)).get b5=_:=(ae _ _ d5r).trans g5
 have g7:(H3.set r (RdO bs' p2)).get b7=_:=(ae _ _ d7r).trans g7
 have gr:(H3.set r (RdO bs' p2)).get r=_:=ai _ _ _
 generalize H3.set r (RdO bs' p2)=H4 at*
 by_cases hk:¬k>0
 ·simp only[go_sem,rE,rA,rL,hk,decide_false,g7]
  refine aZ (hlp p2 (by omega) (by omega)) (rfl) gr (fun _=>⟨by omega,_,⟨bl [],[]⟩,rfl,by simp⟩) (by simp[dU];exact fun h=>hr7 h.symm) ?_
  rintro q p3 hp3 hp3' ⟨pl,rfl,hpp⟩
  simp only[go_sem,rE,rA,rL,g2,g5,d25,d52,d2r,d5r,Pl.enc]
  exact fin _ _ pl _ rfl rfl rfl rfl (.refl _) (by omega)
 have hk:=Decidable.not_not.1 hk
 simp only[go_sem,rE,rA,rL,hk,decide_true,am]
 refine aZ (cv L r bs' p2 LS.length hbs' (by omega) (by omega)) (rfl) gr (by simp) trivial ?_
 rintro q p3 hp3 hp3' ⟨i,rfl,hi0,hi1⟩
 obtain⟨i,rfl⟩:=cy hi0
 have hi:i<LS.length:=by omega
 have hgx:=uJ hi
 obtain⟨hne,hln,hlpath⟩:=hL3 _ (ax hi)
 generalize LS[i]=x at*
 have g2:(H4.set r (RdO bs' p3)).get b2=_:=(ae _ _ d2r).trans g2
 have g5:(H4.set r (RdO bs' p3)).get b5=_:=(ae _ _ d5r).trans g5
 have g7:(H4.set r (RdO bs' p3)).get b7=_:=(ae _ _ d7r).trans g7
 have gr:(H4.set r (RdO bs' p3)).get r=_:=ai _ _ _
 generalize H4.set r (RdO bs' p3)=H5 at*
 simp only[go_sem,rE,rA,rL,hgx]
 intro b11 hb11
 have d11r:=Ne.symm (al gr hb11)
 have g2:=fun o=>(ae H5 o (al g2 hb11)).trans g2
 have g5:=fun o=>(ae H5 o (al g5 hb11)).trans g5
 have g7:=fun o=>(ae H5 o (al g7 hb11)).trans g7
 have gr:=fun o=>(ae H5 o (al gr hb11)).trans gr
 simp only[go_sem,rE,rA,rL,am]
 have g2:=g2 (.cells [S x.name,.sl 2 none (x.loans.map Pl.enc)])
 have g5:=g5 (.cells [S x.name,.sl 2 none (x.loans.map Pl.enc)])
 have g7:=g7 (.cells [S x.name,.sl 2 none (x.loans.map Pl.enc)])
 have gr:=gr (.cells [S x.name,.sl 2 none (x.loans.map Pl.enc)])
 have g11:=ai H5 b11 (.cells [S x.name,.sl 2 none (x.loans.map Pl.enc)])
 generalize H5.set b11 (.cells [S x.name,.sl 2 none (x.loans.map Pl.enc)])=H6 at*
 refine aZ (cv L r bs' p3 x.loans.length hbs' (by omega) (by omega)) (rfl) gr (fun _=>⟨by omega,I 0,0,rfl,cZ _,.inr rfl⟩) (by simp[dU];exact d11r) ?_
 rintro q p4 hp4 hp4' ⟨j,rfl,hj0,hj1⟩
 obtain⟨j,rfl⟩:=cy hj0
 have hxl:0<x.loans.length:=List.length_pos_iff.2 hne
 have hj:j<x.loans.length:=by omega
 have hgy:(x.loans.map Pl.enc)[j]?=some [S x.loans[j].name,au x.loans[j].path]:=by simp[hj,Pl.enc]
 have hyp:=hlpath _ (ax hj)
 generalize x.loans[j]=y at*
 have g2:(H6.set r (RdO bs' p4)).get b2=_:=(ae _ _ d2r).trans g2
 have g5:(H6.set r (RdO bs' p4)).get b5=_:=(ae _ _ d5r).trans g5
 have g7:(H6.set r (RdO bs' p4)).get b7=_:=(ae _ _ d7r).trans g7
 have gr:(H6.set r (RdO bs' p4)).get r=_:=ai _ _ _
 generalize H6.set r (RdO bs' p4)=H7 at*
 clear g11 hb11 d11r
 simp only[go_sem,rE,rA,rL,hgy]
 intro b12 hb12
 have d2:=al g2 hb12
 have d5:=al g5 hb12
 have d7:=al g7 hb12
 have dr:=al gr hb12
 have g2:=fun o=>(ae H7 o d2).trans g2
 have g5:=fun o=>(ae H7 o d5).trans g5
 have g7:=fun o=>(ae H7 o d7).trans g7
 have gr:=fun o=>(ae H7 o dr).trans gr
 have g2:=g2 (.cells [S y.name,au y.path])
 have g5:=g5 (.cells [S y.name,au y.path])
 have g7:=g7 (.cells [S y.name,au y.path])
 have gr:=gr (.cells [S y.name,au y.path])
 have g12:=ai H7 b12 (.cells [S y.name,au y.path])
 generalize H7.set b12 (.cells [S y.name,au y.path])=H8 at*
 refine aZ (cv L r bs' p4 3 hbs' (by omega) (by omega)) (rfl) gr (by simp) trivial ?_
 rintro q p5 hp5 hp5' ⟨z,rfl,hz0,hz1⟩
 have g2:(H8.set r (RdO bs' p5)).get b2=_:=(ae _ _ d2r).trans g2
 have g5:(H8.set r (RdO bs' p5)).get b5=_:=(ae _ _ d5r).trans g5
 have g7:(H8.set r (RdO bs' p5)).get b7=_:=(ae _ _ d7r).trans g7
 have g12:(H8.set r (RdO bs' p5)).get b12=_:=(ae _ _ (Ne.symm dr)).trans g12
 generalize H8.set r (RdO bs' p5)=H9 at*
 simp only[go_sem,rE,rA,rL]
 have d12:=Ne.symm d2
 by_cases hz:z=0
 ·have hz':(z==0)=true:=by simpa using hz
  simp only[go_sem,rE,rA,rL,hz',g12,g2,g5,g7,d2,d5,d7,d25,d52,d12]
  exact⟨by simp[d12],fin _ _ ⟨y.name,[]⟩ NIL rfl rfl rfl rfl (.nil 1) (by simp)⟩
 ·have hz':(z==0)=false:=by simpa using hz
  simp only[go_sem,rE,rA,rL,hz',g12,g2,g5,g7,d25,d52,d12]
  exact⟨by simp[d12],fin _ _ y _ rfl rfl rfl rfl (.refl _) hyp⟩
theorem yr(p:Pl):∀vs:List Vr,ke vs->(bL vs p).Nodup:=by
 intro vs
 induction vs using nf with
 |nil=>intro _;simp[bL]
 |snoc vs x ih=>
  intro hok
  have ih:=ih hok.front
  have hnew:x.name∉bL vs p:=fun h=>by
   obtain⟨i,hi,e⟩:=jm vs p h
   have:=hok.nd
   rw[bj,eM]at this
   exact this.2.2 _ (aU.2 ⟨vs[i],ax hi,e⟩) x.name (by simp) rfl
  rw[jG]
  split
  ·exact ih
  ·split
   ·exact List.nodup_cons.2 ⟨hnew,ih⟩
   ·exact ih
theorem Az(p:Pg)(fn n:Int)(pl:Pl):(dz p fn n pl).Nodup/\(dz p fn n pl).length<=2^30/\∀e∈dz p fn n pl,∃x∈(wsS p fn n).filter o8,x.name=e:=by
 unfold dz wsS
 cases ha:atS p fn n with
 |none=>simp
 |some v=>
  simp only
  obtain⟨Q,hG⟩:=at_G ha
  obtain⟨pi,st⟩:=nK ha
  split
  ·refine⟨yr pl _ hG.ok,?_,fun e he=>?_⟩
   ·have:=(jl pl v.vars [] (v.vars.map (·.name)) (by simp) fun x hx=>aU.2 ⟨x,hx,rfl⟩).2
    simp only[bP,cz]at this
    exact bT this st.good.len
   ·obtain⟨i,hi,rfl⟩:=jm v.vars pl he
    obtain⟨h1,h2,q,hq,-⟩:=(iR pl v.vars hG.ok i hi).1 he
    have hm:=ax hi
    refine⟨v.vars[i],bW.2 ⟨bW.2 ⟨hm,by simp[h1]⟩,?_⟩,rfl⟩
    cases hp:v.vars[i].param with
    |false=>simp[o8,h2,hp]
    |true=>rw[(hG.inv.pl _ hm hp).1]at hq;simp at hq
  ·simp
section
variable {P:Program}{F:Ids}{er:bU}
end
theorem zW(p:Pg):(((fB p).1 !=0)=!fu p)/\0<=(fB p).1:=by
 have h:=qA p
 have h0:0<=(fB p).1:=by
  unfold fB
  split
  ·split
   ·simp
   ·rename_i i _
    have:dO p i=0\/dO p i=2\/dO p i=3\/dO p i=4\/dO p i=5:=by
     unfold dO
     split
     ·exact sv _ _
     ·exact .inl rfl
    simp only;omega
  ·simp
 refine⟨?_,h0⟩
 rw[<-h]
 by_cases hz:(fB p).1=0
 ·simp[hz]
 ·have:(fB p).1>0:=by omega
  simp[hz,this]
theorem uh{p:Pg}(hf:fu p=true){i:Nat}(hi:i<p.length):(cC (ba (p.take i)) p[i].params).2=0/\((cC (ba (p.take i)) p[i].params).1.stmts p[i].body).2=0:=by
 have hc:=qN hf hi
 unfold gn at hc
 split at hc
 ·simp at hc
 split at hc
 ·rename_i a1
  split at hc
  ·rename_i b0;exact⟨a1,b0⟩
  ·rename_i b0;exact absurd hc b0
 ·rename_i a1;exact absurd hc a1
theorem at_some{p:Pg}(hf:fu p=true){i m:Nat}(hi:i<p.length)(hm:m<=p[i].body.length):∃v,atS p i m=some v:=by
 obtain⟨a1,b0⟩:=uh hf hi
 rw[sM hf hi hm,if_pos]
 ·exact⟨_,rfl⟩
 ·unfold iV
  rw[if_pos a1]
  exact oI _ m _ b0
theorem at_par{p:Pg}{i m:Nat}{v:Sc}(hi:i<p.length)(h:atS p i m=some v):∀x∈p[i].params,∃y∈v.vars,y.name=x.name/\y.param=true:=by
 intro x hx
 obtain⟨i',m',hi',e1,e2,hm,hf,hz,rfl⟩:=uY h
 obtain rfl:i=i':=Int.ofNat.inj e1
 obtain rfl:m=m':=Int.ofNat.inj e2
 obtain⟨a1,-⟩:=uh hf hi
 obtain⟨hpl,hpfm⟩:=eS (kD hf)
 have W:=hpfm p[i] (ax hi)
 have hti:∀f∈p.take i,f.type.okB=true:=fun f hf=>(hpfm f (bp hf)).type
 unfold iV at hz⊢
 rw[if_pos a1]at hz⊢
 have hpl4:=W.plen
 have st:=gL p[i].params (fF (p.take i)) rfl W.params (by simp[ba];omega) a1
 have hhi:=st.hi
 have h00:(ba (p.take i)).vars.length=0:=rfl
 have s2:=fw 4 (p[i].body.take m) (kc W.body m) _ st.good st.held (by rw[st.lost];rfl) (by rw[st.p];exact hti) (by omega) hz
 have hv0:=oR p[i].params _ a1
 simp only[ba,cY]at hv0
 obtain⟨y,hy,ey⟩:=u5 s2.pre (x:=x.vr) (by simp only[ba];rw[hv0];exact aU.2 ⟨x,hx,rfl⟩)
 exact⟨y,hy,(congrArg Vr.name ey:y.core.name=x.vr.core.name),(congrArg Vr.param ey:y.core.param=x.vr.core.param)⟩
theorem BR{p:Pg}(hf:fu p=true){i m:Nat}(hi:i<p.length)(hm:m<=p[i].body.length)(pl:Pl):∀x∈p[i].params,x.name∉dz p i m pl/\x.name∈qI p i m:=by
 intro x hx
 obtain⟨v,ha⟩:=at_some hf hi hm
 obtain⟨Q,hG⟩:=at_G ha
 obtain⟨y,hy,e1,e2⟩:=at_par hi ha x hx
 obtain⟨h1,h2,-⟩:=hG.inv.pl y hy e2
 unfold dz qI
 rw[ha]
 simp only
 refine⟨fun h=>?_,?_⟩
 ·split at h
  ·obtain⟨k,hk,rfl⟩:=be.1 hy
   rw[<-e1]at h
   obtain⟨-,-,q,hq,-⟩:=(iR pl v.vars hG.ok k hk).1 h
   rw[h1]at hq;simp at hq
  ·simp at h
 ·unfold j9
  exact aU.2 ⟨y,bW.2 ⟨hy,by simp[h2]⟩,e1⟩
section
variable {P:Program}{F:Ids}{er:bU}
theorem tv(L:Lib P F)(T:Tys F)(hC:ej P F er){n:FuncId}(hfit:Fits P n (y8.1))(a:List UInt8)(H:aj)(hA:AsIs P F er H)(he:fP F er H):ACalls P n [.sl 1 none (fO a)] H fun q H'=>q=B true/\H.sub H':=by
 refine hfit (by simp[y8]) ?_
 have fin:∀(E':Env) (H':aj),E' 2=B true->H.sub H'->bk.post [.slot 2] (fun q H'=>q=B true/\H.sub H') .ret E' H':=fun E' H' h1 h2=>ak (by rw[h1];exact .refl _) (aj.sub_refl _) ⟨rfl,h2⟩
 have la:(fO a).length=a.length:=by simp[fO]
 simp only[y8,go_sem,rE,rA,rL,la]
 by_cases h1:(a.length:Int)>1048576
 ·simp only[go_sem,rE,rA,rL,h1,decide_true]
  exact fin _ _ (rfl) H.sub_refl
 simp only[go_sem,rE,rA,rL,h1,decide_false]
 refine co (sK L a (by omega)) (rfl) (aj.sub_empty _) (by simp) trivial ?_
 rintro q H' ⟨rfl,p,fn,m,pl,rfl,hd,hplp⟩ -
 rw[dV]
 have hfi:=hd.fit (by omega)
 have hpl:p.length<=2^20:=by have:=hd.2.2;omega
 simp only[go_sem,rE,rA,rL,Pg.enc,Pl.enc]
 intro b3 hb3 b6 hb6
 have d36:=al (ai _ _ _) hb6
 have hb6':H.get b6=none:=by rw[ae _ _ (Ne.symm d36)]at hb6;exact hb6
 have g3:((((H.set b3 (.cells [NIL])).set b6 (.cells [S (bl []),NIL])).set b3 (.cells [.sl 12 none (p.map Fu.enc)])).set b6 (.cells [S pl.name,au pl.path])).get b3=_:=(ae _ _ d36).trans (ai _ _ _)
 have g6:((((H.set b3 (.cells [NIL])).set b6 (.cells [S (bl []),NIL])).set b3 (.cells [.sl 12 none (p.map Fu.enc)])).set b6 (.cells [S pl.name,au pl.path])).get b6=_:=ai _ _ _
 have hk:H.sub ((((H.set b3 (.cells [NIL])).set b6 (.cells [S (bl []),NIL])).set b3 (.cells [.sl 12 none (p.map Fu.enc)])).set b6 (.cells [S pl.name,au pl.path])):=fun c o hc=>by
  have h3:=al hc hb3
  have h6:=al hc hb6'
  rw[ae _ _ h6,ae _ _ h3,ae _ _ h6,ae _ _ h3];exact hc
 simp only[go_sem,rE,rA,rL,d36,Ne.symm d36]
 generalize((((H.set b3 (.cells [NIL])).set b6 (.cells [S (bl []),NIL])).set b3 (.cells [.sl 12 none (p.map Fu.enc)])).set b6 (.cells [S pl.name,au pl.path]))=H1 at*
 have he3:fP F er H1:=fun c hc=>hk _ _ (he c hc)
 have hs:=wP L hfi hpl fn m pl hplp
 have hi:=wY L T hC p hfi.1 fn m pl (by omega) H1 he3
 have hv:=uX L T hC p hfi.1 fn m H1 he3
 have hfc:=CH L T hC hA p hfi.1 H1 hk he3
 simp only[Pg.enc,Pl.enc]at hs hi hv hfc
 obtain⟨f1,f2,-⟩:=Az p fn m pl
 have hll:=Au p fn m
 obtain⟨z1,z2⟩:=zW p
 have hw:((fB p).1 !=0)=!fu p:=z1
 refine co hi (rfl) (aj.sub_refl _) (by simp) trivial ?_
 rintro q H' ⟨rfl,rfl⟩ -
 rw[fq]
 simp only[go_sem,rE,rA,rL,g3,g6]
 refine co hs (rfl) (aj.sub_empty _) (by simp) trivial ?_
 rintro q H' ⟨rfl,rfl⟩ -
 rw[dV]
 simp only[go_sem,rE,rA,rL]
 refine ao (kE L (dz p fn m pl) f2) (rfl) ?_
 simp only[go_sem,rE,rA,rL,g3]
 refine co hfc (rfl) (aj.sub_refl _) (by simp) trivial ?_
 rintro q H' ⟨rfl,rfl⟩ -
 rw[fq]
 have hcs:fu p=false\/(fu p=true/\fn<0)\/(fu p=true/\¬fn<0/\fn>=p.length)\/(fu p=true/\¬fn<0/\¬fn>=p.length/\m<0)\/(∃(i:Nat) (hi:i<p.length),fn=i/\fu p=true/\¬m<0/\m>p[i].body.length)\/(∃(i k:Nat) (hi:i<p.length),fn=i/\m=k/\fu p=true/\k<=p[i].body.length):=by
  cases hf:fu p with
  |false=>exact .inl rfl
  |true=>
   by_cases a1:fn<0
   ·exact .inr (.inl ⟨rfl,a1⟩)
   by_cases a2:fn>=p.length
   ·exact .inr (.inr (.inl ⟨rfl,a1,a2⟩))
   by_cases a3:m<0
   ·exact .inr (.inr (.inr (.inl ⟨rfl,a1,a2,a3⟩)))
   have hi:fn.toNat<p.length:=by omega
   by_cases a4:m>p[fn.toNat].body.length
   ·exact .inr (.inr (.inr (.inr (.inl ⟨fn.toNat,hi,by omega,rfl,a3,a4⟩))))
   ·exact .inr (.inr (.inr (.inr (.inr ⟨fn.toNat,m.toNat,hi,by omega,by omega,rfl,by omega⟩))))
 rcases hcs with hf|⟨hf,a1⟩|⟨hf,a1,a2⟩|⟨hf,a1,a2,a3⟩|⟨i,hil,rfl,hf,a3,a4⟩|⟨i,k,hil,rfl,rfl,hf,hk2⟩
 case' inr.inr.inr.inr.inr=>
  rw[hf]at hw
  have q1:((i:Int)<0)=False:=by simp
  have q2:((i:Int)>=p.length)=False:=by simp;omega
  have q3:((k:Int)<0)=False:=by simp
  have q4:((k:Int)>p[i].body.length)=False:=by simp;omega
  have gi:(p.map Fu.enc)[i]?=some p[i].enc:=by simp[hil]
  have hp8:=((eS (kD hf)).2 p[i] (ax hil)).plen
  obtain hall:=fun(j:Nat) (hj:j<p[i].params.length)=>BR hf hil hk2 pl _ (ax hj)
  have gq:∀(j:Nat) (hj:j<p[i].params.length),(p[i].params.map Pa.enc)[j]?=some p[i].params[j].enc:=fun j hj=>by simp[hj]
  generalize p[i]=f at*
  simp only[go_sem,rE,rA,rL,g3,g6,jw,am,hw,q1,q2,q3,q4,gi]
  refine co hv (rfl) (aj.sub_refl _) (by simp) trivial ?_
  rintro q H' ⟨rfl,rfl⟩ -
  rw[fq]
  simp only[go_sem,rE,rA,rL]
  generalize dz p i k pl=es at*
  generalize qI p i k=ls at*
  refine aT f.params.length (fun j E' H'=>E' 3=.ptr b3 0/\E' 4=I i/\E' 7=.sl 1 none (aD es)/\E' 8=.sl 1 none (aD ls)/\E' 9=I j/\H'.get b3=some (.cells [.sl 12 none (p.map Fu.enc)])/\H.sub H') ⟨rfl,rfl,rfl,rfl,rfl,g3,hk⟩ ?_
  rintro j E' H2 hj ⟨q3',q4',q7,q8,q9,g3',hk'⟩
  simp only[go_sem,rE,rA,rL,q3',q4',q9,g3',gi,jw,am]
  refine aF (fun hlt=>?_) (fun hge=>?_)
  ·have hj1:j<f.params.length:=by omega
   have w1:=aL (n:=(j:Int)+1) (by omega) (by omega)
   obtain⟨hall1,hall2⟩:=hall j hj1
   have gj:=gq j hj1
   generalize f.params[j]=x at*
   have h1:es.any (fun y=>eqB y x.name)=false:=Bool.eq_false_iff.2 fun h=>by
    obtain⟨y,hy,hy2⟩:=fz.1 h
    exact hall1 ((cP.1 hy2)▸hy)
   have h2:ls.any (fun y=>eqB y x.name)=true:=fz.2 ⟨_,hall2,dN _⟩
   simp only[go_sem,rE,rA,rL,q3',q4',q7,q8,q9,g3',gi,gj,jw,Pa.enc,Ty.enc_eq]
   refine ao (z8 L es x.name f2) (rfl) ?_
   simp only[go_sem,rE,rA,rL,q3',q4',q7,q8,q9,g3',gi,gj,jw,Pa.enc,Ty.enc_eq,h1]
   refine ao (z8 L ls x.name hll) (rfl) ?_
   simp only[go_sem,rE,rA,rL,q3',q4',q7,q8,q9,g3',gi,gj,jw,Pa.enc,Ty.enc_eq,h2,w1]
   exact⟨hj1,H2,aj.sub_refl _,rfl,g3',hk'⟩
  ·simp only[go_sem,rE,rA,rL]
   exact fin _ _ (rfl) hk'
 ·rw[hf]at hw
  simp only[go_sem,rE,rA,rL,g3,g6,am,hw]
  refine co hs (rfl) (aj.sub_empty _) (by simp) trivial ?_
  rintro q H' ⟨rfl,rfl⟩ -
  rw[dV]
  simp only[go_sem,rE,rA,rL]
  refine ao (kE L (dz p _ m pl) f2) (rfl) ?_
  simp only[go_sem,rE,rA,rL]
  exact fin _ _ rfl hk
 ·rw[hf]at hw
  simp only[go_sem,rE,rA,rL,g3,g6,am,hw,a1]
  refine co hs (rfl) (aj.sub_empty _) (by simp) trivial ?_
  rintro q H' ⟨rfl,rfl⟩ -
  rw[dV]
  simp only[go_sem,rE,rA,rL]
  refine ao (kE L (dz p _ m pl) f2) (rfl) ?_
  simp only[go_sem,rE,rA,rL]
  exact fin _ _ rfl hk
 ·rw[hf]at hw
  simp only[go_sem,rE,rA,rL,g3,g6,am,hw,a1,a2]
  refine co hs (rfl) (aj.sub_empty _) (by simp) trivial ?_
  rintro q H' ⟨rfl,rfl⟩ -
  rw[dV]
  simp only[go_sem,rE,rA,rL]
  refine ao (kE L (dz p _ m pl) f2) (rfl) ?_
  simp only[go_sem,rE,rA,rL]
  exact fin _ _ rfl hk
 ·rw[hf]at hw
  simp only[go_sem,rE,rA,rL,g3,g6,am,hw,a1,a2,a3]
  refine co hs (rfl) (aj.sub_empty _) (by simp) trivial ?_
  rintro q H' ⟨rfl,rfl⟩ -
  rw[dV]
  simp only[go_sem,rE,rA,rL]
  refine ao (kE L (dz p _ m pl) f2) (rfl) ?_
  simp only[go_sem,rE,rA,rL]
  exact fin _ _ rfl hk
 ·rw[hf]at hw
  have q1:((i:Int)<0)=False:=by simp
  have q2:((i:Int)>=p.length)=False:=by simp;omega
  have gi:(p.map Fu.enc)[i]?=some p[i].enc:=by simp[hil]
  simp only[go_sem,rE,rA,rL,g3,g6,am,jw,hw,q1,q2,a3,a4,gi]
  refine co hs (rfl) (aj.sub_empty _) (by simp) trivial ?_
  rintro q H' ⟨rfl,rfl⟩ -
  rw[dV]
  simp only[go_sem,rE,rA,rL]
  refine ao (kE L (dz p _ m pl) f2) (rfl) ?_
  simp only[go_sem,rE,rA,rL]
  exact fin _ _ rfl hk
end
open Go.Proofs
section
open Go.RowKit Go.Extern.Stop Go.Stop Go.Extern
theorem as_nil(t:Value)(w:World):
 Calls Tryz.prog 64 #[.nilIface,t] w fun e w'=>e=.returned (.bool false)/\w'=w:=by
 go_enter Tryz.func64,Tryz.ntmps64
 go_wp2
 go_ret
 exact⟨rfl,rfl⟩
theorem ur(t:Addr)(w:World):(ReflectliteValue.unpack (.iface 122 (.pointer (some t)))).run Tryz.prog w
 =.ok (.agg #[.pointer (some ⟨5,122,none⟩),.pointer (some ⟨w.heap.size,0,none⟩),.int .u64 150]) (w.alloc (.cells #[.pointer (some t)] 122)):=by kernel_rfl
theorem zM(a:Addr)(w:World):(ReflectliteValue.methodAny (ReflectliteValue.valueError "reflectlite.Value.Type" 0) (fun t _ _ _=>ReflectliteType.toType t) #[.agg #[.pointer (some ⟨5,122,none⟩),.pointer (some a),.int .u64 150]]).run Tryz.prog w
 =.ok (.iface 189 (.agg #[.pointer (some ⟨5,122,none⟩)])) w:=by kernel_rfl
theorem td(h:Value)(w:World):(Go.method 388 189 (.agg #[h]) "Kind").run Tryz.prog w=.ok (176,h) w:=by kernel_rfl
theorem zO(w:World):((ReflectliteType.abiMethod fun t=>(fun a:Nat=>Value.int IntKind.u8 (a:Int))<$>Rtype.kind t) #[.pointer (some ⟨5,122,none⟩)]).run Tryz.prog w=.ok (.int .u8 22) w:=by kernel_rfl
theorem zP(w:World):((ReflectliteType.abiMethod fun t=>(fun a:Nat=>Value.int IntKind.u8 (a:Int))<$>Rtype.kind t) #[.pointer (some ⟨5,120,none⟩)]).run Tryz.prog w=.ok (.int .u8 22) w:=by kernel_rfl
theorem rlm(z:Sem Value)(f:TypeId->Addr->Nat->Nat->Sem Value)(v:Value):
 ReflectliteValue.method z f #[v]=(do match <-ReflectliteValue.parts v with|none=>z|some (t,a,fl)=>f t a fl (fl % 32)):=rfl
theorem rp(a:Addr)(w:World):(ReflectliteValue.parts (.agg #[.pointer (some ⟨5,122,none⟩),.pointer (some a),.int .u64 150])).run Tryz.prog w=.ok (some (122,a,150)) w:=by kernel_rfl
theorem xD(a p:Addr)(W:World)(ha:W.cell? a=some (.pointer (some p))):
 (ReflectliteValue.method (ReflectliteValue.valueError "reflectlite.Value.IsNil" 0) ReflectliteValue.isNil #[.agg #[.pointer (some ⟨5,122,none⟩),.pointer (some a),.int .u64 150]]).run Tryz.prog W=.ok (.bool false) W:=by
 rw[rlm]
 simp only[Sem.run_bind,rp,Result.andThen]
 simp[ReflectliteValue.isNil,loadVar,isAgg,underlying,Tryz.underlying122,ha,Result.andThen]
theorem tf(h:Value)(w:World):(Go.method 388 189 (.agg #[h]) "Elem").run Tryz.prog w=.ok (194,.agg #[h]) w:=by kernel_rfl
theorem ov(h:Value)(w:World):(Go.method 388 189 (.agg #[h]) "Implements").run Tryz.prog w=.ok (195,.agg #[h]) w:=by kernel_rfl
theorem mM(h:Value)(w:World):(Go.method 388 189 (.agg #[h]) "AssignableTo").run Tryz.prog w=.ok (192,.agg #[h]) w:=by kernel_rfl
theorem zS(w:World):(ReflectliteType.method ReflectliteType.elem #[.agg #[.pointer (some ⟨5,122,none⟩)]]).run Tryz.prog w=.ok (.iface 189 (.agg #[.pointer (some ⟨5,120,none⟩)])) w:=by kernel_rfl
theorem qX(w:World):(ReflectliteType.relation "Implements" ReflectliteType.implements_ #[.agg #[.pointer (some ⟨5,120,none⟩)],.iface 189 (.agg #[.pointer (some ⟨5,107,none⟩)])]).run Tryz.prog w=.ok (.bool true) w:=by kernel_rfl
theorem vz(v:Value)(w:World):(ReflectliteType.typeOf #[.iface 120 v]).run Tryz.prog w=.ok (.iface 189 (.agg #[.pointer (some ⟨5,120,none⟩)])) w:=by kernel_rfl
theorem qY(w:World):(ReflectliteType.relation "AssignableTo" ReflectliteType.assignableTo #[.agg #[.pointer (some ⟨5,120,none⟩)],.iface 189 (.agg #[.pointer (some ⟨5,120,none⟩)])]).run Tryz.prog w=.ok (.bool true) w:=by kernel_rfl
theorem ut(e:Addr)(w:World):(ReflectliteValue.unpack (.iface 120 (.pointer (some e)))).run Tryz.prog w
 =.ok (.agg #[.pointer (some ⟨5,120,none⟩),.pointer (some ⟨w.heap.size,0,none⟩),.int .u64 150]) (w.alloc (.cells #[.pointer (some e)] 120)):=by kernel_rfl
theorem vC(w:World):(Rtype.elem? 122).run Tryz.prog w=.ok (some 120) w:=by kernel_rfl
theorem tz_mk25(p:Addr)(w:World):(ReflectliteValue.mk 120 p ReflectliteValue.flagAddr).run Tryz.prog w=.ok (.agg #[.pointer (some ⟨5,120,none⟩),.pointer (some p),.int .u64 406]) w:=by kernel_rfl
theorem xE(a p:Addr)(W:World)(ha:W.cell? a=some (.pointer (some p))):
 (ReflectliteValue.method (ReflectliteValue.valueError "reflectlite.Value.Elem" 0) ReflectliteValue.elem #[.agg #[.pointer (some ⟨5,122,none⟩),.pointer (some a),.int .u64 150]]).run Tryz.prog W
  =.ok (.agg #[.pointer (some ⟨5,120,none⟩),.pointer (some p),.int .u64 406]) W:=by
 rw[rlm]
 simp only[Sem.run_bind,rp,Result.andThen]
 simp[ReflectliteValue.elem,loadVar,isAgg,underlying,Tryz.underlying122,ha,Result.andThen,vC,tz_mk25]
theorem rls(v x:Value):ReflectliteValue.set #[v,x]=(do
 let(some (dst,a,fl),some (src,b,_)):=(<-ReflectliteValue.parts v,<-ReflectliteValue.parts x)
  |unsupported (.noEntry "extern/(internal/reflectlite.Value).Set.zeroValue")
 if fl / ReflectliteValue.flagAddr % 2==0 then unsupported (.noEntry "extern/(internal/reflectlite.Value).Set.unaddressable")
 let val <-loadVar src b
 if <-Rtype.directlyAssignable dst src then storeVar dst a val
 else if <-Rtype.implements dst src then
  if(<-Rtype.kind src)==20 then
   match val with
   |.nilIface=>unsupported (.noEntry "extern/reflectlite: a nil value of one interface type handed on as a value of another")
   |_=>storeVar dst a val
  else storeVar dst a (.iface src val)
 else panicString ("reflectlite.Set: value of type " ++(<-Rtype.spelt src)++ " is not assignable to type " ++(<-Rtype.spelt dst))
 pure (.tuple #[])):=rfl
theorem vA(a:Addr)(w:World):(ReflectliteValue.parts (.agg #[.pointer (some ⟨5,120,none⟩),.pointer (some a),.int .u64 406])).run Tryz.prog w=.ok (some (120,a,406)) w:=by kernel_rfl
theorem xC(a:Addr)(w:World):(ReflectliteValue.parts (.agg #[.pointer (some ⟨5,120,none⟩),.pointer (some a),.int .u64 150])).run Tryz.prog w=.ok (some (120,a,150)) w:=by kernel_rfl
theorem vD(w:World):(Rtype.directlyAssignable 120 120).run Tryz.prog w=.ok true w:=by kernel_rfl
theorem tz_size25(w:World):(sizeOf 120).run Tryz.prog w=.ok 1 w:=by kernel_rfl
theorem Bw(ta b e:Addr)(old:Value)(W:World)(hb:W.cell? b=some (.pointer (some e)))(ht:W.cell? ta=some old)(hf:W.frozen? ta=false):
 (ReflectliteValue.set #[.agg #[.pointer (some ⟨5,120,none⟩),.pointer (some ta),.int .u64 406],.agg #[.pointer (some ⟨5,120,none⟩),.pointer (some b),.int .u64 150]]).run Tryz.prog W
  =.ok (.tuple #[]) (W.setCell ta (.pointer (some e))):=by
 rw[rls]
 simp only[Sem.run_bind,vA,xC,Result.andThen]
 simp[ReflectliteValue.flagAddr,loadVar,isAgg,underlying,Tryz.underlying120,hb,Result.andThen,vD,storeVar,Value.cells,storeCells,Addr.add]
 rw[Go.run_store Tryz.prog W ta _ _ (by rfl)]
 simp[ht,hf]
set_option maxHeartbeats 4000000 in
set_option maxRecDepth 100000 in
theorem as_hit (e t:Addr) (old:Value) (w:World) (hg:w.cell? ⟨3,0,none⟩=some (.iface 189 (.agg #[.pointer (some ⟨5,107,none⟩)]))) (ht0:w.cell? t=some old) (hf0:w.frozen? t=false):
 Calls Tryz.prog 64 #[.iface 120 (.pointer (some e)),.iface 122 (.pointer (some t))] w fun ev w'=>ev=.returned (.bool true)/\w'=((((w.alloc (.cells #[.pointer (some t)] 122)).alloc (.cells #[.pointer (some ⟨5,122,none⟩),.pointer (some ⟨w.heap.size,0,none⟩),.int .u64 150] 139)).alloc (.cells #[.pointer (some ⟨5,122,none⟩),.pointer (some ⟨w.heap.size,0,none⟩),.int .u64 150] 139)).alloc (.cells #[.pointer (some e)] 120)).setCell t (.pointer (some e)):=by
 have h6:=@run_callFunc_extern Tryz.prog 78 _ (fun args=>ReflectliteValue.unpack (args.getD 0 (.tuple #[]))) Tryz.func78 (by kernel_rfl) (by kernel_rfl) (by kernel_rfl) (by kernel_rfl)
 have h7:=@run_callFunc_extern Tryz.prog 79 _ (ReflectliteValue.methodAny (ReflectliteValue.valueError "reflectlite.Value.Type" 0) (fun t _ _ _=>ReflectliteType.toType t)) Tryz.func79 (by kernel_rfl) (by kernel_rfl) (by kernel_rfl) (by kernel_rfl)
 have h8:=@run_callFunc_extern Tryz.prog 80 _ (ReflectliteValue.method (ReflectliteValue.valueError "reflectlite.Value.IsNil" 0) ReflectliteValue.isNil) Tryz.func80 (by kernel_rfl) (by kernel_rfl) (by kernel_rfl) (by kernel_rfl)
 have h27:=@run_callFunc_extern Tryz.prog 176 _ (ReflectliteType.abiMethod fun t=>do pure (.int .u8 (<-Rtype.kind t))) Tryz.func176 (by kernel_rfl) (by kernel_rfl) (by kernel_rfl) (by kernel_rfl)
 have h37:=@run_callFunc_extern Tryz.prog 194 _ (ReflectliteType.method ReflectliteType.elem) Tryz.func194 (by kernel_rfl) (by kernel_rfl) (by kernel_rfl) (by kernel_rfl)
 have h38:=@run_callFunc_extern Tryz.prog 195 _ (ReflectliteType.relation "Implements" ReflectliteType.implements_) Tryz.func195 (by kernel_rfl) (by kernel_rfl) (by kernel_rfl) (by kernel_rfl)
 have h10:=@run_callFunc_extern Tryz.prog 82 _ ReflectliteType.typeOf Tryz.func82 (by kernel_rfl) (by kernel_rfl) (by kernel_rfl) (by kernel_rfl)
 have h35:=@run_callFunc_extern Tryz.prog 192 _ (ReflectliteType.relation "AssignableTo" ReflectliteType.assignableTo) Tryz.func192 (by kernel_rfl) (by kernel_rfl) (by kernel_rfl) (by kernel_rfl)
 have h11:=@run_callFunc_extern Tryz.prog 111 _ (ReflectliteValue.method (ReflectliteValue.valueError "reflectlite.Value.Elem" 0) ReflectliteValue.elem) Tryz.func111 (by kernel_rfl) (by kernel_rfl) (by kernel_rfl) (by kernel_rfl)
 have h12:=@run_callFunc_extern Tryz.prog 112 _ ReflectliteValue.set Tryz.func112 (by kernel_rfl) (by kernel_rfl) (by kernel_rfl) (by kernel_rfl)
 have tO:=vz
 have mA:=mM
 have a25:=qY
 have v25:=ut
 have f6:=ur
 have f7:=zM
 have mK:=td
 have mE:=tf
 have mI:=ov
 have k27:=zO
 have k25:=zP
 have e27:=zS
 have i25:=qX
 have n8:=xD ⟨w.heap.size,0,none⟩ t ((w.alloc (.cells #[.pointer (some t)] 122)).alloc (.cells #[.pointer (some ⟨5,122,none⟩),.pointer (some ⟨w.heap.size,0,none⟩),.int .u64 150] 139)) (by simp)
 have hlt:3<w.heap.size:=by
  rcases Nat.lt_or_ge 3 w.heap.size with h|h0
  ·exact h
  ·simp[World.cell?,Array.getElem?_eq_none h0]at hg
 have hg2:((w.alloc (.cells #[.pointer (some t)] 122)).alloc (.cells #[.pointer (some ⟨5,122,none⟩),.pointer (some ⟨w.heap.size,0,none⟩),.int .u64 150] 139)).cell? ⟨3,0,none⟩=some (.iface 189 (.agg #[.pointer (some ⟨5,107,none⟩)])):=by
  rw[World.cell?_alloc_lt _ _ ⟨3,0,none⟩ (by simp;omega),World.cell?_alloc_lt _ _ ⟨3,0,none⟩ hlt];exact hg
 have htl:t.block<w.heap.size:=by
  rcases Nat.lt_or_ge t.block w.heap.size with h|h
  ·exact h
  ·simp[World.cell?,Array.getElem?_eq_none h]at ht0
 have el:=xE ⟨w.heap.size,0,none⟩ t (((w.alloc (.cells #[.pointer (some t)] 122)).alloc (.cells #[.pointer (some ⟨5,122,none⟩),.pointer (some ⟨w.heap.size,0,none⟩),.int .u64 150] 139)).alloc (.cells #[.pointer (some ⟨5,122,none⟩),.pointer (some ⟨w.heap.size,0,none⟩),.int .u64 150] 139)) (by rw[World.cell?_alloc_lt _ _ ⟨w.heap.size,0,none⟩ (by simp;omega)];simp)
 have st:=Bw t ⟨w.heap.size+1+1+1,0,none⟩ e old ((((w.alloc (.cells #[.pointer (some t)] 122)).alloc (.cells #[.pointer (some ⟨5,122,none⟩),.pointer (some ⟨w.heap.size,0,none⟩),.int .u64 150] 139)).alloc (.cells #[.pointer (some ⟨5,122,none⟩),.pointer (some ⟨w.heap.size,0,none⟩),.int .u64 150] 139)).alloc (.cells #[.pointer (some e)] 120))
  (by rw[World.cell?_alloc_at _ _ _ _ (by simp)];rfl)
  (by rw[World.cell?_alloc_lt _ _ t (by simp;omega),World.cell?_alloc_lt _ _ t (by simp;omega),World.cell?_alloc_lt _ _ t (by simp;omega),World.cell?_alloc_lt _ _ t htl];exact ht0)
  (by rw[World.frozen?_alloc_old _ _ t (by simp;omega),World.frozen?_alloc_old _ _ t (by simp;omega),World.frozen?_alloc_old _ _ t (by simp;omega),World.frozen?_alloc_old _ _ t (Nat.ne_of_lt htl)];exact hf0)
 go_enter Tryz.func64,Tryz.ntmps64
 go_wp2
 refine wp_loop_rounds 1 ?_
 rw[rounds_succ]
 go_wp2
 go_ret
 exact⟨rfl,rfl⟩
end
open Go.Proofs
section
open Go.RowKit Go.Extern.Stop Go.Stop Go.Extern
theorem vB(v:Value)(w:World):(Extern.ReflectliteType.typeOf #[.iface 255 v]).run Tryz.prog w=.ok (.iface 189 (.agg #[.pointer (some ⟨5,255,none⟩)])) w:=by kernel_rfl
theorem qW(w:World):((Extern.ReflectliteType.method fun t=>do Go.Extern.Rtype.noPackHeld "Comparable" t;pure (.bool (<-typeInfo t).comparable)) #[.agg #[.pointer (some ⟨5,255,none⟩)]]).run Tryz.prog w=.ok (.bool true) w:=by kernel_rfl
theorem mN(v:Value)(w:World):(Go.method 388 189 v "Comparable").run Tryz.prog w=.ok (193,v) w:=by kernel_rfl
theorem zR:(Tryz.prog.info? 255).map (·.comparable)=some true:=by kernel_rfl
theorem zQ:(Tryz.prog.info? 276).map (·.size)=some 1:=by kernel_rfl
theorem By(v:Value)(xT:TypeId)(w:World):(Instr.typeAssert (.iface 255 v) xT 201 true).run Tryz.prog w=.ok (.tuple #[.nilIface,.bool false]) w:=run_typeAssert_lacksB Tryz.underlying201 (by kernel_rfl) (by kernel_rfl) v xT w
theorem uu(v:Value)(xT:TypeId)(w:World):(Instr.typeAssert (.iface 255 v) xT 196 true).run Tryz.prog w=.ok (.tuple #[.nilIface,.bool false]) w:=run_typeAssert_lacksB Tryz.underlying196 (by kernel_rfl) (by kernel_rfl) v xT w
theorem tc(v:Value)(xT:TypeId)(w:World):(Instr.typeAssert (.iface 255 v) xT 198 true).run Tryz.prog w=.ok (.tuple #[.nilIface,.bool false]) w:=run_typeAssert_lacksB Tryz.underlying198 (by kernel_rfl) (by kernel_rfl) v xT w
theorem Bx(v:Value)(xT:TypeId)(w:World):(Instr.typeAssert (.iface 120 v) xT 201 true).run Tryz.prog w=.ok (.tuple #[.nilIface,.bool false]) w:=run_typeAssert_lacksB Tryz.underlying201 (by kernel_rfl) (by kernel_rfl) v xT w
theorem tg(v:Value)(xT:TypeId)(w:World):(Instr.typeAssert (.iface 120 v) xT 196 true).run Tryz.prog w=.ok (.tuple #[.iface 120 v,.bool true]) w:=run_typeAssert_hasB Tryz.underlying196 (by kernel_rfl) v xT w
theorem qV(v:Value)(w:World):(Go.method 388 120 v "Unwrap").run Tryz.prog w=.ok (181,v) w:=by kernel_rfl
set_option maxHeartbeats 4000000 in
set_option maxRecDepth 1000000 in
theorem tz_is {W:World} (b:Nat) (x k:Addr) (cb ca:Array Value) (tb ta:TypeId) (hx:W.heap[x.block]?=some (.cells ca ta (0,0))) (hk:W.heap[k.block]?=some (.cells cb tb (0,0)))
 (hc:W.cell? ⟨b,1,none⟩=some (.iface 255 (.pointer (some x)))):
 Calls Tryz.prog 83 #[.iface 120 (.pointer (some ⟨b,0,none⟩)),.iface 255 (.pointer (some k)),.bool true] W fun e w'=>e=.returned (.bool (decide (x=k)))/\w'=W:=by
 obtain⟨i,hi,hcmp⟩:=a7.1 zR
 obtain⟨j,hj,hjs⟩:=a7.1 zQ
 have nE:=By
 have uE:=uu
 have vE:=tc
 have nW:=Bx
 have uW:=tg
 have mU:=qV
 have hty:=fun wr=>run_eql_iface_types (P:=Tryz.prog) 120 255 (.pointer (some ⟨b,0,none⟩)) (.pointer (some k)) Tryz.underlying107 (by decide) wr
 have heq:∀wr:World,wr.heap=W.heap->(binOp .eql 107 (.iface 255 (.pointer (some x))) (.iface 255 (.pointer (some k)))).run Tryz.prog wr=.ok (.bool (decide (x=k))) wr:=fun wr hw=>by
  by_cases h:x=k
  ·subst h
   rw[decide_eq_true rfl]
   exact run_eql_iface_ptr_same (P:=Tryz.prog) _ x Tryz.underlying107 Tryz.underlying255 hi hcmp hj
  ·rw[decide_eq_false h]
   exact run_eql_iface_ptr_other (P:=Tryz.prog) _ Tryz.underlying107 Tryz.underlying255 hi hcmp hj (by rw[hjs];decide) h (by rw[hw];exact hx) (by rw[hw];exact hk)
 have heq:=heq W rfl
 have hty:=hty W
 go_enter Tryz.func83,Tryz.ntmps83
 go_wp2
 refine wp_loop_rounds 2 ?_
 rw[rounds_succ]
 go_wp2
 rw[rounds_succ]
 go_wp2
 ·rename_i h
  go_ret
  exact⟨by rw[show decide (x=k)=true by simpa using h];rfl,rfl⟩
 ·rename_i h
  go_ret
  exact⟨by rw[show decide (x=k)=false by simpa using h];rfl,rfl⟩
set_option maxHeartbeats 4000000 in
set_option maxRecDepth 1000000 in
theorem tz_Is {W:World} (b:Nat) (x k:Addr) (cb ca:Array Value) (tb ta:TypeId) (hx:W.heap[x.block]?=some (.cells ca ta (0,0))) (hk:W.heap[k.block]?=some (.cells cb tb (0,0)))
 (hc:W.cell? ⟨b,1,none⟩=some (.iface 255 (.pointer (some x)))):
 Calls Tryz.prog 65 #[.iface 120 (.pointer (some ⟨b,0,none⟩)),.iface 255 (.pointer (some k))] W fun e w'=>e=.returned (.bool (decide (x=k)))/\w'=W:=by
 have h10:=@run_callFunc_extern Tryz.prog 82 _ Extern.ReflectliteType.typeOf Tryz.func82 (by kernel_rfl) (by kernel_rfl) (by kernel_rfl) (by kernel_rfl)
 have h30:=@run_callFunc_extern Tryz.prog 193 _ (Extern.ReflectliteType.method fun t=>do Go.Extern.Rtype.noPackHeld "Comparable" t;pure (.bool (<-typeInfo t).comparable)) Tryz.func193 (by kernel_rfl) (by kernel_rfl) (by kernel_rfl) (by kernel_rfl)
 have tT:=vB
 have cT:=fun w=>(h30 #[.agg #[.pointer (some ⟨5,255,none⟩)]] w).trans (by rw[qW w];rfl:_=Result.ok (Next.value (.bool true)) w)
 clear h30
 have mR:=mN
 have hcon:=tz_is b x k cb ca tb ta hx hk hc
 go_enter Tryz.func65,Tryz.ntmps65
 go_wp2_with (first|(go_at_call 83;refine hcon.mono ?_;rintro e w' ⟨rfl,rfl⟩)|go_in)
 go_ret
 exact⟨rfl,rfl⟩
end
open Go.Proofs
theorem B9{M:bQ}{H:aj}{w w':World}(s:Sim M H w){t:Nat}{o:List AC}(ht:H.get t=some (.cells o)){x:AC}{v:Value}{el:TypeId}(hx:x.one=true)(hr:Rep M x v)
(hc:w'.heap[t]?=some (.cells #[v] el (0,0)))(ho:∀k,k<w.heap.size->k≠t->w'.heap[k]?=w.heap[k]?)(hs:w.heap.size<=w'.heap.size)(hio:re w w'):
 Sim M (H.set t (.cells [x])) w'/\bJ M H w M (H.set t (.cells [x])) w':=by
 obtain⟨vs0,el0,q1,q2,q3,q4,q5⟩:=s.obj t _ ht
 refine⟨⟨fun b o v hm=>?_,fun b h hb=>?_⟩,⟨bQ.le_refl M,hs,fun b hb hn=>⟨ho b hb fun e=>by subst e;rw[ht]at hn;simp at hn,fun _=>rfl⟩,fun b hb=>?_,hio⟩⟩
 ·have hbt:b≠t:=fun e=>by subst e;rw[q5]at hm;simp at hm
  have h1:=s.mem b o v hm
  rw[eU]at h1⊢
  rw[ho b (s.mem_lt hm) hbt];exact h1
 ·rw[aM]at hb
  split at hb
  ·rename_i e;subst e;simp at hb;subst hb
   refine⟨#[v],el,hc,by simpa using hx,by simp,fun j y u hy hu=>?_,q5⟩
   cases j with
   |zero=>simp at hy hu;subst hy hu;exact hr
   |succ j=>simp at hy
  ·rename_i hbt
   have h1:=s.obj b h hb
   have e:=ho b (s.lt hb) hbt
   cases h with
   |cells cs=>obtain⟨vs,el,h1,h2⟩:=h1;exact⟨vs,el,e.trans h1,h2⟩
   |tail n m'=>obtain⟨vs,el,h1,h2⟩:=h1;exact⟨vs,el,e.trans h1,h2⟩
   |typed ty cs=>obtain⟨vs,h1,h2⟩:=h1;exact⟨vs,e.trans h1,h2⟩
   |map f=>obtain⟨es,cl,h1,h2⟩:=h1;exact⟨es,cl,e.trans h1,h2⟩
   |const ob cs=>obtain⟨h1,h2⟩:=h1;exact⟨e.trans h1,h2⟩
 ·rw[aM]at hb
  split at hb
  ·rename_i e;subst e;exact .inl (by rw[ht];simp)
  ·exact .inl hb
theorem rep2{M:bQ}{x y:AC}{vs:List Value}(r:i9 M [x,y] vs):∃v u,vs=[v,u]/\Rep M x v/\Rep M y u:=by
 obtain⟨hl,h⟩:=r
 match vs,hl with
 |[v,u],_=>exact⟨v,u,rfl,h 0 x v rfl rfl,h 1 y u rfl rfl⟩
theorem Rep.iface_inv{M:bQ}{t:TypeId}{x:AC}{u:Value}(h:Rep M (.iface t x) u):∃v,u=.iface t v/\Rep M x v:=by cases h;exact⟨_,rfl,by assumption⟩
theorem z_nil(x:AC)(H:aj):ACalls Tryz.prog 64 [.lit .nilIface,x] H fun q H'=>q=B false/\H'=H:=by
 intro M w vs s r
 obtain⟨v,u,rfl,h1,h2⟩:=rep2 r
 obtain⟨rfl,-⟩:=h1.lit_inv
 refine(as_nil u w).mono ?_
 rintro e w' ⟨rfl,rfl⟩
 exact⟨B false,_,M,H,rfl,.lit trivial,s,bJ.refl _ _ _,rfl,rfl⟩
theorem z_hit{H0:aj}{el:TypeId}{fr:Nat×Nat}{X:List AC}(h3:H0.get 3=some (.const (.cells #[.iface 189 (.agg #[.pointer (some ⟨5,107,none⟩)])] el fr) X))(b t:Nat)(H:aj)(h0:H0.sub H)(ht:H.get t=some (.cells [.lit (.pointer none)])):
 ACalls Tryz.prog 64 [.iface 120 (.ptr b 0),.iface 122 (.ptr t 0)] H fun q H'=>q=B true/\H'=H.set t (.cells [.ptr b 0]):=by
 intro M w vs s r
 obtain⟨v,u,rfl,h1,h2⟩:=rep2 r
 obtain⟨v',rfl,a1⟩:=h1.iface_inv
 obtain⟨u',rfl,a2⟩:=h2.iface_inv
 obtain rfl:=a1.ptr_inv
 obtain rfl:=a2.ptr_inv
 obtain⟨vs0,el0,q1,q2,q3,q4,q5⟩:=s.obj t _ ht
 obtain⟨c0,rfl⟩:∃c,vs0=#[c]:=Array.size_eq_one_iff.1 (by simpa using q3.symm)
 have g3:=(s.obj 3 _ (h0 _ _ h3)).1
 have hg:w.cell? ⟨3,0,none⟩=some (.iface 189 (.agg #[.pointer (some ⟨5,107,none⟩)])):=by rw[eU,g3];rfl
 have ht0:w.cell? ⟨t,0,none⟩=some c0:=by rw[eU,q1];rfl
 have hf0:w.frozen? ⟨t,0,none⟩=false:=by simp[World.frozen?,q1]
 have htl:=s.lt ht
 refine(as_hit ⟨b,0,none⟩ ⟨t,0,none⟩ c0 w hg ht0 hf0).mono ?_
 rintro e w' ⟨rfl,rfl⟩
 have key:=B9 (w':=((((w.alloc (.cells #[.pointer (some ⟨t,0,none⟩)] 122)).alloc (.cells #[.pointer (some ⟨5,122,none⟩),.pointer (some ⟨w.heap.size,0,none⟩),.int .u64 150] 139)).alloc (.cells #[.pointer (some ⟨5,122,none⟩),.pointer (some ⟨w.heap.size,0,none⟩),.int .u64 150] 139)).alloc (.cells #[.pointer (some ⟨b,0,none⟩)] 120)).setCell ⟨t,0,none⟩ (.pointer (some ⟨b,0,none⟩))) s ht (x:=.ptr b 0) (v:=.pointer (some ⟨b,0,none⟩)) (el:=el0) rfl .ptr ?_ ?_ ?_ ?_
 ·exact⟨B true,_,M,_,rfl,.lit trivial,key.1,key.2,rfl,rfl⟩
 ·have e1:(((((w.alloc (.cells #[.pointer (some ⟨t,0,none⟩)] 122)).alloc (.cells #[.pointer (some ⟨5,122,none⟩),.pointer (some ⟨w.heap.size,0,none⟩),.int .u64 150] 139)).alloc (.cells #[.pointer (some ⟨5,122,none⟩),.pointer (some ⟨w.heap.size,0,none⟩),.int .u64 150] 139)).alloc (.cells #[.pointer (some ⟨b,0,none⟩)] 120)).heap)[t]?=some (.cells #[c0] el0 (0,0)):=by
   simp only[World.alloc,Array.getElem?_push,Array.size_push]
   rw[if_neg (by omega),if_neg (by omega),if_neg (by omega),if_neg (by omega)];exact q1
  simp only[World.setCell]
  rw[Array.getElem?_modify,if_pos rfl,e1]
  rfl
 ·intro k hk hkt
  rw[Go.RowKit.Below.heap_setCell _ _ _ _ hkt]
  simp only[World.alloc,Array.getElem?_push,Array.size_push]
  rw[if_neg (by omega),if_neg (by omega),if_neg (by omega),if_neg (by omega)]
 ·simp only[World.setCell,World.alloc,Array.size_modify,Array.size_push];omega
 ·exact⟨rfl,rfl⟩
theorem z_is{H:aj}{x k:Addr}{cx ck:Array Value}{tx tk:TypeId}{X K:List AC}(hx:H.get x.block=some (.const (.cells cx tx (0,0)) X))(hk:H.get k.block=some (.const (.cells ck tk (0,0)) K))(b:Nat)(i:Int)
(hb:H.get b=some (.cells [I i,.iface 255 (.lit (.pointer (some x)))])):
 ACalls Tryz.prog 65 [.iface 120 (.ptr b 0),.iface 255 (.lit (.pointer (some k)))] H fun q H'=>q=B (decide (x=k))/\H'=H:=by
 intro M w vs s r
 obtain⟨v,u,rfl,h1,h2⟩:=rep2 r
 obtain⟨v',rfl,a1⟩:=h1.iface_inv
 obtain⟨u',rfl,a2⟩:=h2.iface_inv
 obtain rfl:=a1.ptr_inv
 obtain⟨rfl,-⟩:=a2.lit_inv
 obtain⟨vs0,el0,q1,q2,q3,q4,q5⟩:=s.obj b _ hb
 have hl:1<vs0.size:=by simp at q3;omega
 have r1:=q4 1 _ _ rfl (dD hl)
 obtain⟨v1,e1,r2⟩:=r1.iface_inv
 obtain⟨rfl,-⟩:=r2.lit_inv
 have hc:w.cell? ⟨b,1,none⟩=some (.iface 255 (.pointer (some x))):=by rw[eU,q1];simp only;rw[dD hl,e1]
 refine(tz_Is b x k ck cx tk tx (s.obj _ _ hx).1 (s.obj _ _ hk).1 hc).mono ?_
 rintro e w' ⟨rfl,rfl⟩
 exact⟨B (decide (x=k)),_,M,H,rfl,.lit trivial,s,bJ.refl _ _ _,rfl,rfl⟩
open Go.Proofs
section
open Go.RowKit Go.ChangeShapes
def Dm(W:World)(g:Nat)(a:Addr)(text:List UInt8):Prop:=
 (∃el fr,W.heap[g]?=some (.cells #[.iface 255 (.pointer (some a))] el fr))/\(∃c t,W.heap[a.block]?=some (.cells c t (0,0)))/\∃s:ByteArray,W.cell? a=some (.string s)/\s.data.toList=text
theorem yY: "*" ++ "errors.errorString" = "*errors.errorString" :=by decide
theorem tz_row(u:TypeId)(h:Tryz.prog.typeName? 3 u=some "*errors.errorString"):u=255:=
 typeName_ptr_named (nm:= "errors.errorString") (by rw[yY];kernel_rfl) (by kernel_rfl) (by decide) u (by rw[yY];exact h)
theorem wB{P:Program}{W:World}{n:String}{g:Nat}(hg:P.globalNamed n=some g){cs:Array Value}(hv:W.var? P n=some cs):∃el fr,W.heap[g]?=some (.cells cs el fr):=by
 simp only[World.var?,hg,Option.bind_some]at hv
 split at hv
 ·rename_i c el fr h;simp at hv;subst hv;exact⟨el,fr,h⟩
 ·simp at hv
theorem sen_of{P:Program}{n nm:String}{text:List UInt8}{r:List (String×DataW Unit)}{W:World}{g:Nat}{ti te ts:TypeId}{ms:Array (String×TypeId)}{f:Field}
(h:laidMet P ((n,.iface nm (.ptr (.agg [.lit (.string text)])))::r) W)
(hg:P.globalNamed n=some g)(ht:(P.globals[g]?).map (·.type)=some ti)(hi:P.underlying ti=some (.interface ms))(hrow:∀u,P.typeName? 3 u=some nm->u=255)
(hp:P.underlying 255=some (.pointer te))(he:P.underlying te=some (.struct #[f]))(hft:f.type=ts)(hfo:f.offset=0)(hs:P.underlying ts=some .string)(hc:P.cellsOf te=1)(hcs:P.cellsOf ts=1):
 (∃a,Dm W g a text)/\laidMet P r W:=by
 refine⟨?_,h.tail⟩
 obtain⟨ps,⟨g0,t0,cs0,f0,p0,q0,hg0,ht0,hv0,hd0,_,e0⟩,_,hrows⟩:=h
 obtain rfl:=Option.some.inj (hg.symm.trans hg0)
 obtain rfl:=Option.some.inj (ht.symm.trans ht0)
 subst e0
 obtain⟨l0⟩:=cs0
 have ok0:∀u v,l0=[.iface u v]->Value.okWide P W .any 0 u v:=fun u v e=>by
  subst e
  exact(hrows g 0 (by simp[MemPlace.row])).2 u v (by simpa using World.var?_cell hg0 hv0 0)
 obtain⟨a0,s0,rfl,hc0,hs0,hz0,rfl⟩:=errorString_of_trod hi hrow hp he hft hfo hs hc hcs hd0 ok0
 obtain⟨c0,t0,hb0⟩:=(hrows a0.block a0.off (by simp[MemPlace.row])).1
 exact⟨a0,wB hg hv0,⟨c0,t0,hb0⟩,s0,hc0,hs0⟩
theorem p9{n:String}{text:List UInt8}{r:List (String×DataW Unit)}{W:World}(g:Nat)(h:laidMet Tryz.prog ((n,.iface "*errors.errorString" (.ptr (.agg [.lit (.string text)])))::r) W)
(hg:Tryz.prog.globalNamed n=some g)(ht:(Tryz.prog.globals[g]?).map (·.type)=some 107):(∃a,Dm W g a text)/\laidMet Tryz.prog r W:=
 sen_of h hg ht Tryz.underlying107 tz_row Tryz.underlying255 Tryz.underlying276 rfl rfl Tryz.underlying9 (by kernel_rfl) (by kernel_rfl)
theorem Dm.ne{W:World}{g h:Nat}{a b:Addr}{t u:List UInt8}(x:Dm W g a t)(y:Dm W h b u)(hn:t≠u):a≠b:=by
 rintro rfl
 obtain⟨-,-,s,e1,e2⟩:=x
 obtain⟨-,-,s',e3,e4⟩:=y
 rw[e1]at e3
 simp only[Option.some.injEq,Value.string.injEq]at e3
 subst e3
 exact hn (e2.symm.trans e4)
theorem tz_rt:(Tryz.prog.cutTypes.find? (·.1== "internal/reflectlite.rtype")).map (·.2)=some 189:=by kernel_rfl
theorem zN:((df 288).filter fun t=>Tryz.prog.rowNamed t [101,114,114,111,114])=[107]:=by kernel_rfl
theorem tz_size:Tryz.prog.types.size=288:=by kernel_rfl
theorem tz_et:Tryz.prog.globalNamed "errors.errorType" =some 3:=by kernel_rfl
structure x6(W:World)(a:Int->Addr):Prop where
 sen:∀c,(c=2\/c=3\/c=4\/c=5)->(∃el fr,W.heap[if c=2 then 0 else if c=3 then 1 else if c=4 then 2 else 4]?=some (.cells #[.iface 255 (.pointer (some (a c)))] el fr))/\∃k t,W.heap[(a c).block]?=some (.cells k t (0,0))
 inj:∀c d,(c=2\/c=3\/c=4\/c=5)->(d=2\/d=3\/d=4\/d=5)->a c=a d->c=d
 et:∃el fr,W.heap[3]?=some (.cells #[.iface 189 (.agg #[.pointer (some ⟨5,107,none⟩)])] el fr)
def qJ:List (String×DataW Unit):=[("errors.errorType",YtnmpniphpccgjaaGreatDoor.Rows.laid_errors_errorType),("loop.example/handfast/impl.errCheckName",YtnmpniphpccgjaaGreatDoor.Rows.laid_loop_example_handfast_impl_errCheckName),("loop.example/handfast/impl.errCheckType",YtnmpniphpccgjaaGreatDoor.Rows.laid_loop_example_handfast_impl_errCheckType),("loop.example/handfast/impl.errCheckLoan",YtnmpniphpccgjaaGreatDoor.Rows.laid_loop_example_handfast_impl_errCheckLoan),("loop.example/handfast/impl.errCheckOut",YtnmpniphpccgjaaGreatDoor.Rows.laid_loop_example_handfast_impl_errCheckOut)]
theorem errs_of{W:World}(h:laidMetH Tryz.prog qJ W):∃a,x6 W a:=by
 have h0:(qJ.filter fun x=>x.2.handleName?.isSome)=[("errors.errorType",YtnmpniphpccgjaaGreatDoor.Rows.laid_errors_errorType)]:=by kernel_rfl
 have h1:(qJ.filter fun x=>x.2.handleName?.isNone)=qJ.drop 1:=by kernel_rfl
 unfold laidMetH at h
 rw[h0,h1]at h
 obtain⟨hl,hh⟩:=h
 obtain⟨⟨a2,s2⟩,hl⟩:=p9 0 hl (by kernel_rfl) (by kernel_rfl)
 obtain⟨⟨a3,s3⟩,hl⟩:=p9 1 hl (by kernel_rfl) (by kernel_rfl)
 obtain⟨⟨a4,s4⟩,hl⟩:=p9 2 hl (by kernel_rfl) (by kernel_rfl)
 obtain⟨⟨a5,s5⟩,hl⟩:=p9 4 hl (by kernel_rfl) (by kernel_rfl)
 have n23:=s2.ne s3 (by decide)
 have n24:=s2.ne s4 (by decide)
 have n25:=s2.ne s5 (by decide)
 have n34:=s3.ne s4 (by decide)
 have n35:=s3.ne s5 (by decide)
 have n45:=s4.ne s5 (by decide)
 refine⟨fun c=>if c=2 then a2 else if c=3 then a3 else if c=4 then a4 else a5,⟨?_,?_,?_⟩⟩
 ·rintro c (rfl|rfl|rfl|rfl)
  ·exact⟨s2.1,s2.2.1⟩
  ·exact⟨s3.1,s3.2.1⟩
  ·exact⟨s4.1,s4.2.1⟩
  ·exact⟨s5.1,s5.2.1⟩
 ·rintro c d (rfl|rfl|rfl|rfl) (rfl|rfl|rfl|rfl) e<;>simp at e<;>first|rfl|(exfalso;first|exact n23 e|exact n24 e|exact n25 e|exact n34 e|exact n35 e|exact n45 e|exact n23 e.symm|exact n24 e.symm|exact n25 e.symm|exact n34 e.symm|exact n35 e.symm|exact n45 e.symm)
 ·obtain⟨name,u,ty,e1,e2,e3,e4,e5⟩:=hh _ (cn.2 rfl)
  have en:name=[101,114,114,111,114]:=(Option.some.inj e1).symm
  subst en
  obtain rfl:=Option.some.inj (tz_rt.symm.trans e2)
  have hm:ty∈(df 288).filter fun t=>Tryz.prog.rowNamed t [101,114,114,111,114]:=bW.2 ⟨eF.2 (by rw[<-tz_size];exact e3),e4⟩
  rw[zN]at hm
  obtain rfl:=cn.1 hm
  have hh:typeHandle Tryz.prog 107=.pointer (some ⟨5,107,none⟩):=by kernel_rfl
  rw[hh]at e5
  exact wB tz_et e5
def qG(w:World):bQ:=fun b o=>w.cell? ⟨b,o,none⟩
def ki(W:World)(a:Int->Addr):aj:=⟨fun b=>(W.heap[b]?).map fun o=>.const o (if b=0 then [.iface 255 (.lit (.pointer (some (a 2))))]else if b=1 then [.iface 255 (.lit (.pointer (some (a 3))))]else if b=2 then [.iface 255 (.lit (.pointer (some (a 4))))]else if b=4 then [.iface 255 (.lit (.pointer (some (a 5))))]else []),
 ⟨W.heap.size,fun b hb=>by rw[Array.getElem?_eq_none hb];rfl⟩⟩
theorem rh{W:World}{g:Nat}{v:Value}{u:TypeId}{el:TypeId}{fr:Nat×Nat}(h:W.heap[g]?=some (.cells #[.iface u v] el fr)){X:AC}(hX:∀M,Rep M X v):iL (qG W) W g (.const (.cells #[.iface u v] el fr) [.iface u X]):=by
 refine⟨h,fun _=>.iface u v,by simp[AC.one],fun j hj=>?_,fun j x hx=>?_⟩
 ·have:j=0:=by simpa using hj
  subst this
  simp[qG,eU,h]
 ·cases j with
  |zero=>simp at hx;subst hx;exact .iface (hX _)
  |succ j=>simp at hx
theorem xJ{W:World}{a:Int->Addr}(h:x6 W a):Sim (qG W) (ki W a) W:=by
 obtain⟨el2,fr2,s2⟩:=(h.sen 2 (.inl rfl)).1
 obtain⟨el3,fr3,s3⟩:=(h.sen 3 (.inr (.inl rfl))).1
 obtain⟨el4,fr4,s4⟩:=(h.sen 4 (.inr (.inr (.inl rfl)))).1
 obtain⟨el5,fr5,s5⟩:=(h.sen 5 (.inr (.inr (.inr rfl)))).1
 refine⟨fun _ _ _ hm=>hm,fun b o hb=>?_⟩
 simp only[ki,a7]at hb
 obtain⟨o',ho,rfl⟩:=hb
 split
 ·rename_i e;subst e
  obtain rfl:=Option.some.inj (ho.symm.trans s2)
  exact rh s2 fun M=>.lit trivial
 split
 ·rename_i e;subst e
  obtain rfl:=Option.some.inj (ho.symm.trans s3)
  exact rh s3 fun M=>.lit trivial
 split
 ·rename_i e;subst e
  obtain rfl:=Option.some.inj (ho.symm.trans s4)
  exact rh s4 fun M=>.lit trivial
 split
 ·rename_i e;subst e
  obtain rfl:=Option.some.inj (ho.symm.trans s5)
  exact rh s5 fun M=>.lit trivial
 ·exact⟨ho,fun _=>.nilIface,by simp,fun j hj=>by simp at hj,fun j x hx=>by simp at hx⟩
def uM(W:World)(a:Int->Addr):bU:=⟨fun c=>(W.heap[if c=2 then 0 else if c=3 then 1 else if c=4 then 2 else 4]?).getD (.cells #[] 0 (0,0)),fun _=>255,fun c=>.lit (.pointer (some (a c)))⟩
theorem yn{W:World}{a:Int->Addr}(h:x6 W a)(c:Int)(hc:c=2\/c=3\/c=4\/c=5):(ki W a).get (if c=2 then 0 else if c=3 then 1 else if c=4 then 2 else 4)=some (.const ((uM W a).o c) [.iface ((uM W a).t c) ((uM W a).x c)]):=by
 obtain⟨⟨el,fr,s⟩,-⟩:=h.sen c hc
 rcases hc with rfl|rfl|rfl|rfl
 ·have s:W.heap[0]?=_:=s
  show Option.map _ (W.heap[0]?)=some (cM.const ((W.heap[0]?).getD _) _)
  rw[s];rfl
 ·have s:W.heap[1]?=_:=s
  show Option.map _ (W.heap[1]?)=some (cM.const ((W.heap[1]?).getD _) _)
  rw[s];rfl
 ·have s:W.heap[2]?=_:=s
  show Option.map _ (W.heap[2]?)=some (cM.const ((W.heap[2]?).getD _) _)
  rw[s];rfl
 ·have s:W.heap[4]?=_:=s
  show Option.map _ (W.heap[4]?)=some (cM.const ((W.heap[4]?).getD _) _)
  rw[s];rfl
theorem od{W:World}{a:Int->Addr}{b:Nat}{o:Obj}(h:W.heap[b]?=some o):∃X,(ki W a).get b=some (.const o X):=by
 simp only[ki,h];exact⟨_,rfl⟩
theorem De(x:AC)(H:aj):ACalls Tryz.prog 64 [.lit .nilIface,x] H fun q H'=>q=B false/\H'=H:=z_nil x H
theorem Df{W:World}{a:Int->Addr}(h:x6 W a)(b t:Nat)(H:aj)(h0:(ki W a).sub H)(ht:H.get t=some (.cells [.lit (.pointer none)])):
 ACalls Tryz.prog 64 [.iface 120 (.ptr b 0),.iface 122 (.ptr t 0)] H fun q H'=>q=B true/\H'=H.set t (.cells [.ptr b 0]):=by
 obtain⟨el,fr,s⟩:=h.et
 obtain⟨X,hX⟩:=od (a:=a) s
 exact z_hit hX b t H h0 ht
theorem asis_is{W:World}{a:Int->Addr}(h:x6 W a)(b:Nat)(i c k:Int)(H:aj)(h0:(ki W a).sub H)(hc:c=2\/c=3\/c=4\/c=5)(hk:k=2\/k=3\/k=4\/k=5)(hb:H.get b=some (.cells [I i,.iface ((uM W a).t c) ((uM W a).x c)])):
 ACalls Tryz.prog 65 [.iface 120 (.ptr b 0),.iface ((uM W a).t k) ((uM W a).x k)] H fun q H'=>q=B (decide (c=k))/\H'=H:=by
 obtain⟨-,c1,t1,s1⟩:=h.sen c hc
 obtain⟨-,c2,t2,s2⟩:=h.sen k hk
 obtain⟨X,hX⟩:=od (a:=a) s1
 obtain⟨K,hK⟩:=od (a:=a) s2
 have key:=z_is (h0 _ _ hX) (h0 _ _ hK) b i hb
 have e:decide (c=k)=decide (a c=a k):=by
  by_cases e:c=k
  ·subst e;simp
  ·rw[decide_eq_false e,decide_eq_false fun e2=>e (h.inj c k hc hk e2)]
 rw[e]
 exact key
end
end Go.Xl
