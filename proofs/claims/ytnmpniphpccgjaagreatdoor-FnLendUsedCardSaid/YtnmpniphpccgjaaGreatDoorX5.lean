/- FnLendUsed: a part of the proof. -/
import Derived.ControlIn
import Derived.RangeFuncSeq
import Derived.RangeFuncIn
import Derived.RangeFuncLeaves
import Derived.RangeFuncRecord
import Derived.Test.YtnmpniphpccgjaaGreatDoorProg
import Derived.WalkKit
import Derived.LaidEql
import Derived.Stop.Asserts
import Derived.RowKitTokens
import Derived.Below
import Derived.Test.YtnmpniphpccgjaaGreatDoorRows
import Derived.LaidLaws
import Derived.LaidHandle
import Derived.LaidMore
import Derived.Stop.LaidErr
import Derived.Test.YtnmpniphpccgjaaGreatDoorX4
set_option linter.unusedVariables false
set_option linter.unusedSimpArgs false
namespace Go.Xl
open _root_.Array renaming getD_eq_getD_getElem? -> iC, getElem?_append_left -> lv, getElem?_eq_getElem -> dI, getElem?_eq_some_iff -> dy, replicate -> fX, toList_inj -> fG
open _root_.Bool renaming and_eq_true -> a6, eq_iff_iff -> bj, false_eq_true -> av, false_or -> dt, not_eq_true' -> dM, not_false -> gO, true_and -> ce, true_or -> eD
open _root_.Int renaming eq_ofNat_of_zero_le -> cD, le_refl -> cW, natCast_zero -> de, reduceBEq -> aE, reduceEq -> bw, reduceLE -> eC, toNat_natCast -> dw
open _root_.List renaming all_eq_true -> aV, any_append -> fA, any_eq_true -> iH, append_nil -> cv, cons_append -> cC, drop_eq_getElem_cons -> bT, drop_length -> ly, drop_succ_cons -> fu, drop_zero -> fT, eq_nil_of_length_eq_zero -> bx, ext_getElem? -> gV, filter_append -> gD, filter_cons -> fF, flatten_cons -> aq, flatten_nil -> aw, getElem?_append_left -> aL, getElem?_append_right -> bf, getElem?_cons_succ -> aB, getElem?_cons_zero -> a7, getElem?_drop -> cd, getElem?_eq_getElem -> ay, getElem?_eq_none -> gv, getElem?_eq_some_iff -> aQ, getElem?_take -> fC, getElem_map -> gC, getElem_mem -> az, length_append -> bv, length_cons -> aU, length_drop -> fE, length_filter_le -> dz, length_map -> am, length_nil -> bN, length_take -> bk, map_append -> bh, map_congr_left -> eO, map_cons -> aR, map_nil -> bF, map_take -> fO, mem_append -> aG, mem_cons -> bg, mem_cons_of_mem -> eA, mem_cons_self -> ff, mem_filter -> bS, mem_iff_getElem -> be, mem_map -> aW, mem_map_of_mem -> cz, mem_of_mem_drop -> gN, mem_of_mem_take -> bn, mem_or_eq_of_mem_set -> fY, mem_range -> eK, mem_singleton -> cn, nil_append -> cU, nodup_append -> eR, not_mem_nil -> cg, range -> dj, replicate -> ax, take_append_drop -> gu, take_length -> aM, take_of_length_le -> cH, take_succ_eq_append_getElem -> aA
open _root_.Nat renaming reduceEqDiff -> rE, reduceAdd -> rA, reduceLeDiff -> rL, le_refl -> aC, le_trans -> bQ, min_eq_left -> eJ, mul_le_mul_right -> bE, strongRecOn -> mc, zero_add -> cE, zero_le -> fD
open _root_.Option renaming map_eq_some_iff -> a9, map_some -> bJ, ne_none_iff_exists' -> aH
open Go.Proofs
structure BAt(H:aj)(r:Nat)(bs:List UInt8)(p:Int)(b3 b4 b6:Nat)(c3 c6:List AC):Prop where
 gr:H.get r=some (RdO bs p)
 g3:H.get b3=some (.cells c3)
 g4:H.get b4=some (.cells [NIL])
 g6:H.get b6=some (.cells c6)
 hr3:r≠b3
 hr4:r≠b4
 hr6:r≠b6
 d34:b3≠b4
 d36:b3≠b6
 d46:b4≠b6
section
variable {H H':aj}{r:Nat}{bs:List UInt8}{p:Int}{b3 b4 b6:Nat}{c3 c6:List AC}
theorem BAt.draw(h:BAt H r bs p b3 b4 b6 c3 c6)(p':Int):BAt (H.set r (RdO bs p')) r bs p' b3 b4 b6 c3 c6:=
 ⟨ai _ _ _,(ae _ _ (Ne.symm h.hr3)).trans h.g3,(ae _ _ (Ne.symm h.hr4)).trans h.g4,(ae _ _ (Ne.symm h.hr6)).trans h.g6,h.hr3,h.hr4,h.hr6,h.d34,h.d36,h.d46⟩
theorem BAt.put(h:BAt H r bs p b3 b4 b6 c3 c6)(c:List AC):BAt (H.set b6 (.cells c)) r bs p b3 b4 b6 c3 c:=
 ⟨(ae _ _ h.hr6).trans h.gr,(ae _ _ h.d36).trans h.g3,(ae _ _ h.d46).trans h.g4,ai _ _ _,h.hr3,h.hr4,h.hr6,h.d34,h.d36,h.d46⟩
theorem BAt.put3(h:BAt H r bs p b3 b4 b6 c3 c6)(c:List AC):BAt (H.set b3 (.cells c)) r bs p b3 b4 b6 c c6:=
 ⟨(ae _ _ h.hr3).trans h.gr,ai _ _ _,(ae _ _ (Ne.symm h.d34)).trans h.g4,(ae _ _ (Ne.symm h.d36)).trans h.g6,h.hr3,h.hr4,h.hr6,h.d34,h.d36,h.d46⟩
theorem BAt.keep(h:BAt H r bs p b3 b4 b6 c3 c6)(hk:∀d cs,H.get d=some (.cells cs)->H'.get d=some (.cells cs)):BAt H' r bs p b3 b4 b6 c3 c6:=
 ⟨hk _ _ h.gr,hk _ _ h.g3,hk _ _ h.g4,hk _ _ h.g6,h.hr3,h.hr4,h.hr6,h.d34,h.d36,h.d46⟩
theorem BAt.new(h:BAt H r bs p b3 b4 b6 c3 c6){b:Nat}(hb:H.get b=none)(o:cQ):BAt (H.set b o) r bs p b3 b4 b6 c3 c6:=
 h.keep fun d cs hd=>by rw[ae _ _ (ak hd hb)];exact hd
end
theorem iV{H H':aj}{b n m:Nat}(g:H.get b=some (.tail n m))(keep:∀c,H.get c≠none->c≠b->H'.get c=H.get c):∀d cs,H.get d=some (.cells cs)->H'.get d=some (.cells cs):=
 fun d cs hd=>by rw[keep d (by rw[hd];simp) (by rintro rfl;rw[g]at hd;simp at hd)];exact hd
theorem jg(l:List St):∀e∈l.map St.enc,e.length=15:=fun e he=>by obtain⟨s,-,rfl⟩:=aW.1 he;exact BU s
theorem st_one(s:St):∀x∈s.enc,x.one=true:=by
 rw[St.enc_eq];simp[AC.one,au]
theorem zV:∀p:List St,LeR (p.map St.enc) (p.map St.enc)
 |[]=>trivial
 |f::p=>⟨.refl (st_one f),zV p⟩
theorem pa_len(s:Pa):s.enc.length=3:=by
 rw[Pa.enc,Ty.enc_eq];rfl
theorem Cd{sz:Nat}{rows:List (List AC)}{cs:List AC}(hs:∀e∈rows,e.length=sz)(h:cs.take (rows.length*sz)=rows.flatten){k:Nat}(hk:k<rows.length):(cs.drop (k*sz)).take sz=rows[k]:=by
 have hl:=hs _ (az hk)
 apply gV
 intro j
 rw[fC]
 split
 ·rename_i hj
  rw[cd]
  exact fq.cell hs h hk hj
 ·rename_i hj
  rw[gv (by omega)]
theorem lC(f':Fu){X T Bd s1 s2 s3 s4 s5 g1 g2:AC}(hX:Le X (.sl 3 none (f'.params.map Pa.enc)))(hT:Le T (.sl 1 none (Ty.encs f'.type.kids)))(hB:Le Bd (.sl 15 none (f'.body.map St.enc)))(hs:LeC [s1,s2,s3,s4,s5] f'.says.enc)(hg:LeC [g1,g2] f'.gives.enc):
 LeC [S f'.name,X,B f'.lent,T,Bd,s1,s2,s3,s4,s5,g1,g2] f'.enc:=Cz f' hX hT (by rw[St.encs_map];exact hB) hs hg
section
variable {P:Program}{F:Ids}
theorem Bx(L:Lib P F)(r:Nat)(bs:List UInt8)(hbs:bs.length<=2000)(p2:Int)(hp:0<=p2)(hp2:p2+1<=2^50)(f:Fu){m:Nat}(hm:m<=9)(hlo:f.lo m)(hbl:f.body.length<=6+m)(b3 b4 b6:Nat)(c3:List AC)(H3:aj)
(hB:BAt H3 r bs p2 b3 b4 b6 c3 [S f.name,.sl 3 none (f.params.map Pa.enc),B f.lent,.sl 1 none (Ty.encs f.type.kids),.sl 15 none (f.body.map St.enc),I f.says.kind,I f.says.num,S f.says.place.name,au f.says.place.path,.sl 5 none (Ex.encs f.says.kids),S f.gives.name,au f.gives.path])
(K:cZ->Env->aj->Prop)(E:Env)(e0:E 0=.ptr r 0)(e6:E 6=.ptr b6 0)
(jn8:∀(E':Env) (H:aj) (p':Int) (c6:List AC) (f':Fu),f'.lo m->BAt H r bs p' b3 b4 b6 c3 c6->FuAt H (fun d=>d=r\/d=b3\/d=b4\/d=b6) c6 f'->(∀i,(i=0\/i=3\/i=4\/i=5\/i=6)->E' i=E i)->p2<=p'->p'<=p2+1->K .normal E' H):
 aY.wp P (kd30) K E H3:=by
 rw[kd30,fd30]
 have g6:=hB.g6
 have lesays:LeC [I f.says.kind,I f.says.num,S f.says.place.name,au f.says.place.path,.sl 5 none (Ex.encs f.says.kids)] f.says.enc:=by rw[Ex.enc_eq];exact⟨⟨.refl _,rfl⟩,⟨.refl _,rfl⟩,⟨.refl _,rfl⟩,⟨.refl _,rfl⟩,⟨.refl _,rfl⟩,trivial⟩
 have legives:LeC [S f.gives.name,au f.gives.path] f.gives.enc:=⟨⟨.refl _,rfl⟩,⟨.refl _,rfl⟩,trivial⟩
 simp only[go_sem,rE,rA,aE,ax,aq,aw,rL,aZ,e0,e6,g6,am]
 by_cases hb:(1:Int)<f.body.length
 ·have w0:=aI (n:=(f.body.length:Int) - 1) (by omega) (by omega)
  simp only[hb,decide_true,go_sem,rE,rA,aE,ax,aq,aw,rL,aZ,e0,e6,g6,am,w0]
  refine ba (cA L r bs p2 (f.body.length - 1) hbs (by omega) (by omega)) (rfl) hB.gr (by simp) trivial ?_
  rintro q p3 hp3 hp3' ⟨n0,rfl,hn0,hn1⟩
  have hB1:=hB.draw p3
  generalize H3.set r (RdO bs p3)=H4 at*
  obtain⟨n,rfl⟩:∃n:Nat,n0=(n:Int):=⟨n0.toNat,by omega⟩
  have hnl:n+1<f.body.length:=by omega
  simp only[go_sem,rE,rA,aE,ax,aq,aw,rL,aZ,e0,e6]
  intro b58 hb58
  have hB2:=hB1.new hb58 (.tail 0 0)
  have g58:(H4.set b58 (.tail 0 0)).get b58=_:=ai _ _ _
  have g6:=hB2.g6
  generalize H4.set b58 (.tail 0 0)=H5 at*
  simp only[go_sem,rE,rA,aE,ax,aq,aw,rL,aZ,e0,e6,g6]
  refine nz (b:=b58) (ys:=f.body.map St.enc) (rfl) g58 (rfl) (jg _) (by simp;omega) trivial ?_
  intro x' H6 fp6 hR _ keep new
  rcases hR with⟨h0,-⟩|⟨bb,bc,cs,rfl,gb,hcl,hcc,hct⟩
  ·have:f.body=[]:=by simpa using h0
   rw[this]at hnl;simp at hnl
  have hB3:=hB2.keep (iV g58 keep)
  have hex:∀d o,H5.get d=some (.cells o)->d≠bb:=by
   intro d o hd e
   subst e
   rcases new _ ⟨_,_,rfl⟩with h|h
   ·subst h;rw[g58]at hd;simp at hd
   ·rw[hd]at h;simp at h
  have hb6:=hex _ _ hB2.g6
  have hb3:=hex _ _ hB2.g3
  have hb4:=hex _ _ hB2.g4
  have hbr:=hex _ _ hB2.gr
  have g6:=hB3.g6
  simp only[am]at hcc hct
  have hlim:f.body.length<=LIM:=by simp only[LIM];omega
  have hni:(n:Int)<f.body.length:=by omega
  have hni1:(n:Int)+1<f.body.length:=by omega
  have w1:=aI (n:=(n:Int)+1) (by omega) (by omega)
  have hn1':(0:Int)<=n+1:=by omega
  have hnt:((n:Int)+1).toNat=n+1:=by omega
  have hmul:(n+2)*15<=bc*15:=bE _ (by omega)
  have hof0:n*15+15<=cs.length:=by omega
  have hof1:(n+1)*15+15<=cs.length:=by omega
  have row:∀j (hj:j<f.body.length),(cs.drop (j*15)).take 15=f.body[j].enc:=fun j hj=>by
   have:=Cd (jg f.body) (by simpa using hct) (k:=j) (by simpa using hj)
   simpa using this
  have r0:=row n (by omega)
  have r1:=row (n+1) hnl
  obtain⟨c0,hc0,C0'⟩:=stC f.body[n]
  obtain⟨c1,hc1,C1'⟩:=stC f.body[n+1]
  rw[hc0]at r0
  rw[hc1]at r1
  simp only[go_sem,rE,rA,aE,ax,aq,aw,rL,aZ,e0,e6,g6,am,hb6,Ne.symm hb6,gb,hlim,hni,hof0,r0,C0'.len,C0'.all]
  have hB4:=hB3.put [S f.name,.sl 3 none (f.params.map Pa.enc),B f.lent,.sl 1 none (Ty.encs f.type.kids),.lit (.slice (some ⟨bb,0,none⟩) f.body.length bc),I f.says.kind,I f.says.num,S f.says.place.name,au f.says.place.path,.sl 5 none (Ex.encs f.says.kids),S f.gives.name,au f.gives.path]
  have gb:(H6.set b6 (.cells [S f.name,.sl 3 none (f.params.map Pa.enc),B f.lent,.sl 1 none (Ty.encs f.type.kids),.lit (.slice (some ⟨bb,0,none⟩) f.body.length bc),I f.says.kind,I f.says.num,S f.says.place.name,au f.says.place.path,.sl 5 none (Ex.encs f.says.kids),S f.gives.name,au f.gives.path])).get bb=_:=(ae _ _ (Ne.symm hb6)).trans gb
  generalize(H6.set b6 (.cells [S f.name,.sl 3 none (f.params.map Pa.enc),B f.lent,.sl 1 none (Ty.encs f.type.kids),.lit (.slice (some ⟨bb,0,none⟩) f.body.length bc),I f.says.kind,I f.says.num,S f.says.place.name,au f.says.place.path,.sl 5 none (Ex.encs f.says.kids),S f.gives.name,au f.gives.path]))=H7 at*
  intro b9 hb9
  have hB5:=hB4.new hb9 (.cells c0)
  have db9:=ak gb hb9
  have gb:(H7.set b9 (.cells c0)).get bb=_:=(ae _ _ db9).trans gb
  have g9:(H7.set b9 (.cells c0)).get b9=_:=ai _ _ _
  have g6:=hB5.g6
  generalize H7.set b9 (.cells c0)=H8 at*
  simp only[go_sem,rE,rA,aE,ax,aq,aw,rL,aZ,e0,e6,g6,gb,w1,hn1',hnt,hlim,hni,hni1,hof0,hof1,r1,C1'.len,C1'.all]
  have hs0:cs.take (n*15)++c1++cs.drop (n*15+15)=bA cs (n*15) c1:=by rw[bA,C1'.len]
  rw[hs0]
  have hl1:(bA cs (n*15) c1).length=cs.length:=fJ _ _ _ (by rw[C1'.len];exact hof0)
  have hrow1:=l7 (jg f.body) (us:=c1) C1'.len (k:=n) (by simp;omega) (by simpa using hct)
  generalize bA cs (n*15) c1=cs1 at*
  have hB6:BAt (H8.set bb (.cells (cs1))) r bs p3 b3 b4 b6 _ _:=⟨(ae _ _ hbr).trans hB5.gr,(ae _ _ hb3).trans hB5.g3,(ae _ _ hb4).trans hB5.g4,(ae _ _ hb6).trans hB5.g6,hB.hr3,hB.hr4,hB.hr6,hB.d34,hB.d36,hB.d46⟩
  have gb1:(H8.set bb (.cells (cs1))).get bb=_:=ai _ _ _
  have g9:(H8.set bb (.cells (cs1))).get b9=_:=(ae _ _ (Ne.symm db9)).trans g9
  have g6:=hB6.g6
  generalize H8.set bb (.cells (cs1))=H9 at*
  rw[<-hl1]at hof1
  simp only[go_sem,rE,rA,aE,ax,aq,aw,rL,aZ,e0,e6,g6,gb1,g9,w1,hn1',hnt,hlim,hni,hni1,hof1,C0'.len,C0'.all]
  have hs1:cs1.take ((n+1)*15)++c0++cs1.drop ((n+1)*15+15)=bA cs1 ((n+1)*15) c0:=by rw[bA,C0'.len]
  rw[hs1]
  have hsz1:∀e∈(f.body.map St.enc).set n c1,e.length=15:=fun e he=>by
   rcases fY he with h|h
   ·exact jg _ e h
   ·rw[h];exact C1'.len
  have hrow2:=l7 hsz1 (us:=c0) C0'.len (k:=n+1) (by simp;omega) hrow1
  have hmap:((f.body.map St.enc).set n c1).set (n+1) c0=((f.body.set n f.body[n+1]).set (n+1) f.body[n]).map St.enc:=by rw[List.map_set,List.map_set,hc0,hc1]
  rw[hmap]at hrow2
  have hmem:∀s∈(f.body.set n f.body[n+1]).set (n+1) f.body[n],s∈f.body:=fun s hs=>by
   rcases fY hs with h|h
   ·rcases fY h with h|h
    ·exact h
    ·rw[h];exact az _
   ·rw[h];exact az _
  have hB7:BAt (H9.set bb (.cells (bA cs1 ((n+1)*15) c0))) r bs p3 b3 b4 b6 _ _:=⟨(ae _ _ hbr).trans hB6.gr,(ae _ _ hb3).trans hB6.g3,(ae _ _ hb4).trans hB6.g4,(ae _ _ hb6).trans hB6.g6,hB.hr3,hB.hr4,hB.hr6,hB.d34,hB.d36,hB.d46⟩
  refine jn8 _ _ p3 _ {f with body:=(f.body.set n f.body[n+1]).set (n+1) f.body[n]} ⟨hlo.pars,hlo.ptys,hlo.ty,by simp;omega,fun s hs=>hlo.bcnt s (hmem s hs),fun s hs=>hlo.bsm s (hmem s hs),hlo.says⟩ hB7 ⟨rfl,.inr ⟨bb,bc,_,((f.body.set n f.body[n+1]).set (n+1) f.body[n]).map St.enc,[S f.name,.sl 3 none (f.params.map Pa.enc),B f.lent,.sl 1 none (Ty.encs f.type.kids),.sl 15 none (((f.body.set n f.body[n+1]).set (n+1) f.body[n]).map St.enc),I f.says.kind,I f.says.num,S f.says.place.name,au f.says.place.path,.sl 5 none (Ex.encs f.says.kids),S f.gives.name,au f.gives.path],
   ai _ _ _,hrow2,jg _,by simp;omega,by simp;exact hlim,⟨.inl rfl,.inl rfl,.inl rfl,.inl rfl,.inr ⟨by simp,rfl⟩,.inl rfl,.inl rfl,.inl rfl,.inl rfl,.inl rfl,.inl rfl,.inl rfl,trivial⟩,
   lC {f with body:=(f.body.set n f.body[n+1]).set (n+1) f.body[n]} (.refl _) (.refl _) (.refl _) lesays legives,?_⟩⟩ (fun i hi=>by rcases hi with rfl|rfl|rfl|rfl|rfl<;>simp only[go_sem,rE]) (by omega) (by omega)
  rintro(h|h|h|h)
  ·exact hbr h.symm
  ·exact hb3 h.symm
  ·exact hb4 h.symm
  ·exact hb6 h.symm
 ·simp only[hb,decide_false,go_sem,rE,rA,aE,ax,aq,aw,rL,aZ,e0,e6]
  exact jn8 _ _ p2 _ f hlo hB ⟨rfl,.inl (lC f (.refl _) (.refl _) (.refl _) lesays legives)⟩ (fun i hi=>by rcases hi with rfl|rfl|rfl|rfl|rfl<;>simp only[go_sem,rE]) (by omega) (by omega)
theorem Bn(L:Lib P F)(r:Nat)(bs:List UInt8)(hbs:bs.length<=2000)(pr:Pg){m:Nat}(hm:m<=8)(hpr:∀f∈pr,f.lo m)(hl1:1<=pr.length)(hl2:pr.length<=4+m)(p:Int)(hp:0<=p)(hp2:p+200<=2^50):
 ACalls P 67 [.ptr r 0,.agg (Pg.enc pr)] (one r (RdO bs p)) (uB (m+1) r bs p 200):=by
 refine(L.a Tryz.func67 y67) (by simp[y67,f67]) ?_
 simp only[y67,f67,go_sem,rE,rA,Pg.enc]
 intro b3 hb3 b4 hb4
 have hr3:r≠b3:=by rintro rfl;rw[bI]at hb3;simp at hb3
 have d34:b3≠b4:=nH hb4
 have hr4:r≠b4:=by rintro rfl;rw[ae _ _ hr3,bI]at hb4;simp at hb4
 have gr:(((one r (RdO bs p)).set b3 (.cells [.sl 12 none (pr.map Fu.enc)])).set b4 (.cells [NIL])).get r=some (RdO bs p):=by rw[ae _ _ hr4,ae _ _ hr3,bI]
 have g3:(((one r (RdO bs p)).set b3 (.cells [.sl 12 none (pr.map Fu.enc)])).set b4 (.cells [NIL])).get b3=some (.cells [.sl 12 none (pr.map Fu.enc)]):=by rw[ae _ _ d34,ai]
 have g4:(((one r (RdO bs p)).set b3 (.cells [.sl 12 none (pr.map Fu.enc)])).set b4 (.cells [NIL])).get b4=some (.cells [NIL]):=ai _ _ _
 generalize(((one r (RdO bs p)).set b3 (.cells [.sl 12 none (pr.map Fu.enc)])).set b4 (.cells [NIL]))=H0 at*
 clear hb3 hb4
 simp only[go_sem,rE,rA,g3,am]
 refine ba (cA L r bs p pr.length hbs hp (by omega)) (rfl) gr (by simp) trivial ?_
 rintro q p1 hp1 hp1' ⟨k,rfl,hk0,hk1⟩
 have g3:(H0.set r (RdO bs p1)).get b3=_:=(ae _ _ (Ne.symm hr3)).trans g3
 have g4:(H0.set r (RdO bs p1)).get b4=_:=(ae _ _ (Ne.symm hr4)).trans g4
 have gr:(H0.set r (RdO bs p1)).get r=_:=ai _ _ _
 generalize H0.set r (RdO bs p1)=H1 at*
 have hkl:k.toNat<pr.length:=by omega
 obtain⟨f,hf⟩:∃f,f=pr[k.toNat]:=⟨_,rfl⟩
 have hgood:f.lo m:=hf▸hpr _ (az hkl)
 have hget:(pr.map Fu.enc)[k.toNat]?=some [S f.name,.sl 3 none (f.params.map Pa.enc),B f.lent,.sl 1 none (Ty.encs f.type.kids),.sl 15 none (f.body.map St.enc),I f.says.kind,I f.says.num,S f.says.place.name,au f.says.place.path,.sl 5 none (Ex.encs f.says.kids),S f.gives.name,au f.gives.path]:=by
  rw[<-lR,hf];simp[hkl]
 simp only[go_sem,rE,rA,g3,hk0,hget,rL]
 intro b6 hb6
 have hr6:=ak gr hb6
 have d36:=ak g3 hb6
 have d46:=ak g4 hb6
 let C:ByteArray->AC->Bool->AC->AC->AC->AC->AC->AC->AC->AC->AC->List AC:=fun nm X ln T Bd s1 s2 s3 s4 s5 g1 g2=>[S nm,X,B ln,T,Bd,s1,s2,s3,s4,s5,g1,g2]
 let C0:List AC:=[S f.name,.sl 3 none (f.params.map Pa.enc),B f.lent,.sl 1 none (Ty.encs f.type.kids),.sl 15 none (f.body.map St.enc),I f.says.kind,I f.says.num,S f.says.place.name,au f.says.place.path,.sl 5 none (Ex.encs f.says.kids),S f.gives.name,au f.gives.path]
 have gr:(H1.set b6 (.cells C0)).get r=_:=(ae _ _ hr6).trans gr
 have g3:(H1.set b6 (.cells C0)).get b3=_:=(ae _ _ d36).trans g3
 have g4:(H1.set b6 (.cells C0)).get b4=_:=(ae _ _ d46).trans g4
 have g6:(H1.set b6 (.cells C0)).get b6=some (.cells C0):=ai _ _ _
 simp only[C0]at gr g3 g4 g6
 generalize(H1.set b6 (.cells [S f.name,.sl 3 none (f.params.map Pa.enc),B f.lent,.sl 1 none (Ty.encs f.type.kids),.sl 15 none (f.body.map St.enc),I f.says.kind,I f.says.num,S f.says.place.name,au f.says.place.path,.sl 5 none (Ex.encs f.says.kids),S f.gives.name,au f.gives.path]))=H2 at*
 clear hb6
 refine ba (cA L r bs p1 12 hbs (by omega) (by omega)) (rfl) gr (by simp) trivial ?_
 rintro q p2 hp2' hp2'' ⟨k2,rfl,hk20,hk21⟩
 have hB:BAt (H2.set r (RdO bs p2)) r bs p2 b3 b4 b6 _ _:=(BAt.mk gr g3 g4 g6 hr3 hr4 hr6 d34 d36 d46).draw p2
 generalize H2.set r (RdO bs p2)=H3 at*
 clear gr g3 g4 g6
 have hlo:=hgood.up
 have hbl:=hgood.blen
 have hplo:∀g∈pr,g.lo (m+1):=fun g hg=>(hpr g hg).up
 have jn:∀(E:Env) (H:aj) (p':Int) (c6:List AC) (f':Fu),f'.lo (m+1)->BAt H r bs p' b3 b4 b6 [.sl 12 none (pr.map Fu.enc)] c6->LeC c6 f'.enc->
  E 3=.ptr b3 0->E 4=.ptr b4 0->E 5=I k->E 6=.ptr b6 0->p<=p'->p'<=p+200->aY.wp P (.seq (rg [ef 0 185 (.buildSlice 12 0 [.string (bl []),.slice none 0 0,.bool false,.slice none 0 0,.slice none 0 0,.int .i64 0,.int .i64 0,.string (bl []),.slice none 0 0,.slice none 0 0,.string (bl []),.slice none 0 0] []),fa 1 186 0 3,ld 2 187 none 186,ef 3 188 (.appendM 12 216 185 187),fa 4 189 0 3,en 5 (.store 1 189 188)]) (.seq (rg [fa 0 190 0 3,ld 1 191 none 190,mv 2 192 5,ld 3 193 (some 12) 6,ia 4 194 12 191 192,en 5 (.store 12 194 193)]) (.seq (rg [ld 0 195 (some 1) 3,en 1 (.store 1 4 195)]) .ret))) (bm.post [.cell 4 (some 1)] (uB (m+1) r bs p 200)) E H:=by
  intro E H p' c6 f' hf' h hle e3 e4 e5 e6 h1 h2
  exact sZ L (m:=m+1) (by omega) r bs p 200 E H p' pr k.toNat hkl (by omega) hplo _ c6 f' hf' b3 b4 b6 h.gr h.g3 h.g4 h.g6 (fun H'=>rfl) ⟨by rw[hle.length,mz],.inl hle⟩ h.hr3 h.hr4 h.d34 h.d36 h.d46 h.hr6 e3 e4 (by rw[e5];congr 2;omega) e6 h1 h2
 have jn8:∀(E:Env) (H:aj) (p':Int) (c6:List AC) (f':Fu),f'.lo (m+1)->BAt H r bs p' b3 b4 b6 [.sl 12 none (pr.map Fu.enc)] c6->FuAt H (fun d=>d=r\/d=b3\/d=b4\/d=b6) c6 f'->
  E 3=.ptr b3 0->E 4=.ptr b4 0->E 5=I k->E 6=.ptr b6 0->p<=p'->p'<=p+200->aY.wp P (.seq (rg [ef 0 185 (.buildSlice 12 0 [.string (bl []),.slice none 0 0,.bool false,.slice none 0 0,.slice none 0 0,.int .i64 0,.int .i64 0,.string (bl []),.slice none 0 0,.slice none 0 0,.string (bl []),.slice none 0 0] []),fa 1 186 0 3,ld 2 187 none 186,ef 3 188 (.appendM 12 216 185 187),fa 4 189 0 3,en 5 (.store 1 189 188)]) (.seq (rg [fa 0 190 0 3,ld 1 191 none 190,mv 2 192 5,ld 3 193 (some 12) 6,ia 4 194 12 191 192,en 5 (.store 12 194 193)]) (.seq (rg [ld 0 195 (some 1) 3,en 1 (.store 1 4 195)]) .ret))) (bm.post [.cell 4 (some 1)] (uB (m+1) r bs p 200)) E H:=by
  intro E H p' c6 f' hf' h hle e3 e4 e5 e6 h1 h2
  exact sZ L (m:=m+1) (by omega) r bs p 200 E H p' pr k.toNat hkl (by omega) hplo _ c6 f' hf' b3 b4 b6 h.gr h.g3 h.g4 h.g6 (fun H'=>rfl) hle h.hr3 h.hr4 h.d34 h.d36 h.d46 h.hr6 e3 e4 (by rw[e5];congr 2;omega) e6 h1 h2
 have jn11:∀(E:Env) (H:aj) (tok:Option (Nat×Nat×Nat)) (pr':Pg),k.toNat<pr'.length->pr'.length<=4+(m+1)->(∀g∈pr',g.lo (m+1))->BAt H r bs p2 b3 b4 b6 [.sl 12 tok (pr'.map Fu.enc)] f.enc->
  E 3=.ptr b3 0->E 4=.ptr b4 0->E 5=I k->E 6=.ptr b6 0->aY.wp P (kd29) (bm.post [.cell 4 (some 1)] (uB (m+1) r bs p 200)) E H:=by
  intro E H tok pr' h1 h2 h3 h e3 e4 e5 e6
  rw[kd29,fd29]
  exact sZ L (m:=m+1) (by omega) r bs p 200 E H p2 pr' k.toNat h1 h2 h3 _ f.enc f hlo b3 b4 b6 h.gr h.g3 h.g4 h.g6 (fun H'=>rfl) ⟨mz f,.inl (.refl (CC f))⟩ h.hr3 h.hr4 h.d34 h.d36 h.d46 h.hr6 e3 e4 (by rw[e5];congr 2;omega) e6 (by omega) (by omega)
 have lesays:LeC [I f.says.kind,I f.says.num,S f.says.place.name,au f.says.place.path,.sl 5 none (Ex.encs f.says.kids)] f.says.enc:=by rw[Ex.enc_eq];exact⟨⟨.refl _,rfl⟩,⟨.refl _,rfl⟩,⟨.refl _,rfl⟩,⟨.refl _,rfl⟩,⟨.refl _,rfl⟩,trivial⟩
 have legives:LeC [S f.gives.name,au f.gives.path] f.gives.enc:=⟨⟨.refl _,rfl⟩,⟨.refl _,rfl⟩,trivial⟩
 have g3:=hB.g3
 have g6:=hB.g6
 have sw:=fun K E e0 e6=>Bx (F:=F) L r bs hbs p2 (by omega) (by omega) f (m:=m+1) (by omega) hlo (by omega) b3 b4 b6 _ H3 hB K E e0 e6
 have hk:k2=0\/k2=1\/k2=2\/k2=3\/k2=4\/k2=5\/k2=6\/k2=7\/k2=8\/k2=9\/k2=10\/k2=11:=by omega
 rcases hk with rfl|rfl|rfl|rfl|rfl|rfl|rfl|rfl|rfl|rfl|rfl|rfl
 all_goals simp only[go_sem,rE,rA,aE,ax,aq,aw,rL,aZ,g3,g6,am]
 ·
  intro b0 hb0
  have hB1:=hB.new hb0 (.tail 5 5)
  generalize H3.set b0 (.tail 5 5)=H4 at*
  refine ba (zas:=[.ptr r 0,.sl 1 (some (b0,5,5)) (jz [bl [],bl [102,97],bl [70],bl [116,111,111,108,111,110,103],bl [122,122]])]) ((Bg L r bs hbs [bl [],bl [102,97],bl [70],bl [116,111,111,108,111,110,103],bl [122,122]] (by simp) (by simp) p2 (by omega) (by omega)).args ⟨.refl _,.tok _ _ _,trivial⟩) (rfl) hB1.gr (by simp) trivial ?_
  rintro q p3 hp3 hp3' ⟨s,rfl⟩
  have hB2:=hB1.draw p3
  have g6:=hB2.g6
  generalize H4.set r (RdO bs p3)=H5 at*
  simp only[go_sem,rE,rA,aE,ax,aq,aw,rL,aZ,g6]
  exact jn _ _ p3 _ {f with name:=s} ⟨hlo.pars,hlo.ptys,hlo.ty,hlo.blen,hlo.bcnt,hlo.bsm,hlo.says⟩ (hB2.put _) (lC {f with name:=s} (.refl _) (.refl _) (.refl _) lesays legives) (by first|rfl|simp only[go_sem,rE]) (by first|rfl|simp only[go_sem,rE]) (by first|rfl|simp only[go_sem,rE]) (by first|rfl|simp only[go_sem,rE]) (by omega) (by omega)
 ·
  refine ba (uv L r bs hbs p2 (by omega) (by omega)) (rfl) hB.gr (by simp) trivial ?_
  rintro q p3 hp3 hp3' ⟨t,rfl,ht⟩
  have hB1:=hB.draw p3
  have g6:=hB1.g6
  generalize H3.set r (RdO bs p3)=H4 at*
  simp only[go_sem,rE,rA,aE,ax,aq,aw,rL,aZ,Ty.enc_eq t,g6]
  exact jn _ _ p3 _ {f with type:=t} ⟨hlo.pars,hlo.ptys,ht,hlo.blen,hlo.bcnt,hlo.bsm,hlo.says⟩ (hB1.put _) (lC {f with type:=t} (.refl _) (.refl _) (.refl _) lesays legives) (by first|rfl|simp only[go_sem,rE]) (by first|rfl|simp only[go_sem,rE]) (by first|rfl|simp only[go_sem,rE]) (by first|rfl|simp only[go_sem,rE]) (by omega) (by omega)
 ·
  exact jn _ _ p2 _ {f with lent:=!f.lent} ⟨hlo.pars,hlo.ptys,hlo.ty,hlo.blen,hlo.bcnt,hlo.bsm,hlo.says⟩ (hB.put _) (lC {f with lent:=!f.lent} (.refl _) (.refl _) (.refl _) lesays legives) (by first|rfl|simp only[go_sem,rE]) (by first|rfl|simp only[go_sem,rE]) (by first|rfl|simp only[go_sem,rE]) (by first|rfl|simp only[go_sem,rE]) (by omega) (by omega)
 ·
  by_cases hb:(0:Int)<f.body.length
  ·simp only[hb,decide_true,go_sem,rE,rA,aE,ax,aq,aw,rL,aZ,g6,am]
   refine ba (cA L r bs p2 f.body.length hbs (by omega) (by omega)) (rfl) hB.gr (by simp) trivial ?_
   rintro q p3 hp3 hp3' ⟨n,rfl,hn0,hn1⟩
   have hB1:=hB.draw p3
   have g6:=hB1.g6
   generalize H3.set r (RdO bs p3)=H4 at*
   simp only[go_sem,rE,rA,aE,ax,aq,aw,rL,aZ,g6]
   intro b58 hb58
   have hB2:=hB1.new hb58 (.tail 0 0)
   have g58:(H4.set b58 (.tail 0 0)).get b58=_:=ai _ _ _
   have g6:=hB2.g6
   generalize H4.set b58 (.tail 0 0)=H5 at*
   have hnl:n.toNat<f.body.length:=by omega
   have w1:=aI (n:=n+1) (by omega) (by omega)
   have hn2:n<=f.body.length:=by omega
   have hnl':n.toNat<=f.body.length:=by omega
   have hn1':(0:Int)<=n+1:=by omega
   have hnt:(n+1).toNat<=f.body.length:=by omega
   simp only[go_sem,rE,rA,aE,ax,aq,aw,rL,aZ,g6,am,hn0,hn2,hnl',fD]
   refine eP (es:=[]) (ys:=(f.body.map St.enc).take n.toNat) (rfl) g58 (rfl) (fun e he=>jg _ e (bn he)) (by simp;omega) ?_
   intro bt nt mt H6 fp6 gt keep hbt hfb
   have hB3:=hB2.keep (iV g58 keep)
   have nf6:¬fp6 b6:=fun h=>by have:=hfb _ h;rw[g6]at this;simp at this
   have g6:=hB3.g6
   simp only[go_sem,rE,rA,aE,ax,aq,aw,rL,aZ,g6,am,w1,hn1',hnt,aC]
   refine⟨by simp;exact nf6,?_⟩
   refine eP (es:=(f.body.map St.enc).take n.toNat) (ys:=((f.body.map St.enc).take f.body.length).drop (n+1).toNat) (rfl) gt (rfl) (fun e he=>jg _ e (bn (gN he))) (by simp;omega) ?_
   intro bt2 nt2 mt2 H7 fp7 gt2 keep2 hbt2 hfb2
   have hB4:=hB3.keep (iV gt keep2)
   have g6:=hB4.g6
   simp only[go_sem,rE,rA,aE,ax,aq,aw,rL,aZ,g6]
   have hmem:∀s∈f.body.take n.toNat++f.body.drop (n+1).toNat,s∈f.body:=fun s hs=>by
    rcases aG.1 hs with h|h
    ·exact bn h
    ·exact gN h
   refine jn _ _ p3 _ {f with body:=f.body.take n.toNat++f.body.drop (n+1).toNat} ⟨hlo.pars,hlo.ptys,hlo.ty,by simp;omega,fun s hs=>hlo.bcnt s (hmem s hs),fun s hs=>hlo.bsm s (hmem s hs),hlo.says⟩ (hB4.put _) (lC {f with body:=f.body.take n.toNat++f.body.drop (n+1).toNat} (.refl _) (.refl _) ?_ lesays legives) (by first|rfl|simp only[go_sem,rE]) (by first|rfl|simp only[go_sem,rE]) (by first|rfl|simp only[go_sem,rE]) (by first|rfl|simp only[go_sem,rE]) (by omega) (by omega)
   rw[bh,fO,List.map_drop]
   have:(f.body.map St.enc).take f.body.length=f.body.map St.enc:=by rw[cH (by simp)]
   rw[this]
   exact .tok _ _ _
  ·simp only[hb,decide_false,go_sem,rE,rA,aE,ax,aq,aw,rL,aZ]
   exact jn _ _ p2 _ f hlo hB (lC f (.refl _) (.refl _) (.refl _) lesays legives) (by first|rfl|simp only[go_sem,rE]) (by first|rfl|simp only[go_sem,rE]) (by first|rfl|simp only[go_sem,rE]) (by first|rfl|simp only[go_sem,rE]) (by omega) (by omega)
 ·
  by_cases hb:(0:Int)<f.body.length
  ·simp only[hb,decide_true,go_sem,rE,rA,aE,ax,aq,aw,rL,aZ,g6,am]
   intro b58 hb58
   have hB2:=hB.new hb58 (.tail 0 0)
   have g58:(H3.set b58 (.tail 0 0)).get b58=_:=ai _ _ _
   have g6:=hB2.g6
   generalize H3.set b58 (.tail 0 0)=H5 at*
   simp only[go_sem,rE,rA,aE,ax,aq,aw,rL,aZ,g6]
   refine eP (es:=[]) (ys:=f.body.map St.enc) (rfl) g58 (rfl) (jg _) (by simp;omega) ?_
   intro bt nt mt H6 fp6 gt keep hbt hfb
   have hB3:=hB2.keep (iV g58 keep)
   have nf6:¬fp6 b6:=fun h=>by have:=hfb _ h;rw[g6]at this;simp at this
   have g6:=hB3.g6
   simp only[go_sem,rE,rA,aE,ax,aq,aw,rL,aZ,g6,am]
   refine⟨by simp;exact nf6,by simp;exact nf6,?_⟩
   refine ba (cA L r bs p2 f.body.length hbs (by omega) (by omega)) (rfl) hB3.gr (fun _=>⟨by omega,I 0,0,rfl,by omega,.inr rfl⟩) (by simp[ed];exact Ne.symm hr6) ?_
   rintro q p3 hp3 hp3' ⟨m,rfl,hm0,hm1⟩
   have hB4:=hB3.draw p3
   have hnt:bt≠r:=by rintro rfl;rw[hB3.gr]at gt;simp[RdO]at gt
   have gt:(H6.set r (RdO bs p3)).get bt=_:=(ae _ _ hnt).trans gt
   generalize H6.set r (RdO bs p3)=H7 at*
   have hml:m.toNat<f.body.length:=by omega
   obtain⟨cs,hcs,Cs⟩:=stC f.body[m.toNat]
   have hgm:(f.body.map St.enc)[m.toNat]?=some cs:=by rw[<-hcs];simp[hml]
   simp only[go_sem,rE,rA,aE,ax,aq,aw,rL,aZ,hm0,hgm,Cs.len,Cs.all]
   refine eP (es:=f.body.map St.enc) (ys:=[cs]) (rfl) gt (rfl) (by simp[Cs.len]) (by simp;omega) ?_
   intro bt2 nt2 mt2 H8 fp8 gt2 keep2 hbt2 hfb2
   have hB5:=hB4.keep (iV gt keep2)
   have g6:=hB5.g6
   simp only[go_sem,rE,rA,aE,ax,aq,aw,rL,aZ,g6]
   have hmem:∀s∈f.body++[f.body[m.toNat]],s∈f.body:=fun s hs=>by
    rcases aG.1 hs with h|h
    ·exact h
    ·simp at h;rw[h];exact az hml
   refine jn _ _ p3 _ {f with body:=f.body++[f.body[m.toNat]]} ⟨hlo.pars,hlo.ptys,hlo.ty,by simp;omega,fun s hs=>hlo.bcnt s (hmem s hs),fun s hs=>hlo.bsm s (hmem s hs),hlo.says⟩ (hB5.put _) (lC {f with body:=f.body++[f.body[m.toNat]]} (.refl _) (.refl _) ?_ lesays legives) (by first|rfl|simp only[go_sem,rE]) (by first|rfl|simp only[go_sem,rE]) (by first|rfl|simp only[go_sem,rE]) (by first|rfl|simp only[go_sem,rE]) (by omega) (by omega)
   rw[bh,aR,bF,hcs]
   exact .tok _ _ _
  ·simp only[hb,decide_false,go_sem,rE,rA,aE,ax,aq,aw,rL,aZ]
   exact jn _ _ p2 _ f hlo hB (lC f (.refl _) (.refl _) (.refl _) lesays legives) (by first|rfl|simp only[go_sem,rE]) (by first|rfl|simp only[go_sem,rE]) (by first|rfl|simp only[go_sem,rE]) (by first|rfl|simp only[go_sem,rE]) (by omega) (by omega)
 ·
  intro b58 hb58
  have hB2:=hB.new hb58 (.tail 0 0)
  have g58:(H3.set b58 (.tail 0 0)).get b58=_:=ai _ _ _
  have g6:=hB2.g6
  generalize H3.set b58 (.tail 0 0)=H5 at*
  simp only[go_sem,rE,rA,aE,ax,aq,aw,rL,aZ,g6]
  refine eP (es:=[]) (ys:=f.params.map Pa.enc) (rfl) g58 (rfl) (by simp;intro s _;exact pa_len s) (by have:=hgood.pars;simp;omega) ?_
  intro bt nt mt H6 fp6 gt keep hbt hfb
  have hB3:=hB2.keep (iV g58 keep)
  simp only[go_sem,rE,rA,aE,ax,aq,aw,rL,aZ]
  intro b0 hb0
  have d0t:=ak gt hb0
  have hB4:=hB3.new hb0 (.tail 3 3)
  have gt:(H6.set b0 (.tail 3 3)).get bt=_:=(ae _ _ d0t).trans gt
  generalize H6.set b0 (.tail 3 3)=H7 at*
  refine ba (zas:=[.ptr r 0,.sl 1 (some (b0,3,3)) (jz [bl [112],bl [122],bl [90]])]) ((Bg L r bs hbs [bl [112],bl [122],bl [90]] (by simp) (by simp) p2 (by omega) (by omega)).args ⟨.refl _,.tok _ _ _,trivial⟩) (rfl) hB4.gr (by simp) trivial ?_
  rintro q p3 hp3 hp3' ⟨s,rfl⟩
  have hB5:=hB4.draw p3
  have hnt:bt≠r:=by rintro rfl;rw[hB4.gr]at gt;simp[RdO]at gt
  have gt:(H7.set r (RdO bs p3)).get bt=_:=(ae _ _ hnt).trans gt
  generalize H7.set r (RdO bs p3)=H8 at*
  simp only[go_sem,rE,rA,aE,ax,aq,aw,rL,aZ]
  refine ba (uv L r bs hbs p3 (by omega) (by omega)) (rfl) hB5.gr (by simp) trivial ?_
  rintro q p4 hp4 hp4' ⟨t,rfl,ht⟩
  have hB6:=hB5.draw p4
  have gt:(H8.set r (RdO bs p4)).get bt=_:=(ae _ _ hnt).trans gt
  generalize H8.set r (RdO bs p4)=H9 at*
  simp only[go_sem,rE,rA,aE,ax,aq,aw,rL,aZ,Ty.enc_eq t]
  refine eP (es:=f.params.map Pa.enc) (ys:=[[S s,B false,.sl 1 none (Ty.encs t.kids)]]) (rfl) gt (rfl) (by simp) (by have:=hgood.pars;simp;omega) ?_
  intro bt2 nt2 mt2 H10 fp10 gt2 keep2 hbt2 hfb2
  have hB7:=hB6.keep (iV gt keep2)
  have g6:=hB7.g6
  simp only[go_sem,rE,rA,aE,ax,aq,aw,rL,aZ,g6]
  refine jn _ _ p4 _ {f with params:=f.params++[⟨s,false,t⟩]} ⟨by have:=hgood.pars;simp;omega,fun x hx=>?_,hlo.ty,hlo.blen,hlo.bcnt,hlo.bsm,hlo.says⟩ (hB7.put _) (lC {f with params:=f.params++[⟨s,false,t⟩]} ?_ (.refl _) (.refl _) lesays legives) (by first|rfl|simp only[go_sem,rE]) (by first|rfl|simp only[go_sem,rE]) (by first|rfl|simp only[go_sem,rE]) (by first|rfl|simp only[go_sem,rE]) (by omega) (by omega)
  ·rcases aG.1 hx with h|h
   ·exact hlo.ptys x h
   ·simp at h;subst h;exact ht
  ·rw[bh,aR,bF,Pa.enc,Ty.enc_eq t]
   exact .tok _ _ _
 ·
  intro b0 hb0
  have hB4:=hB.new hb0 (.tail 3 3)
  generalize H3.set b0 (.tail 3 3)=H7 at*
  refine ba (zas:=[.ptr r 0,.sl 1 (some (b0,3,3)) (jz [bl [112],bl [113],bl [122,122]])]) ((Bg L r bs hbs [bl [112],bl [113],bl [122,122]] (by simp) (by simp) p2 (by omega) (by omega)).args ⟨.refl _,.tok _ _ _,trivial⟩) (rfl) hB4.gr (by simp) trivial ?_
  rintro q p3 hp3 hp3' ⟨s,rfl⟩
  have hB5:=hB4.draw p3
  generalize H7.set r (RdO bs p3)=H8 at*
  simp only[go_sem,rE,rA,aE,ax,aq,aw,rL,aZ]
  refine ba (cA L r bs p3 3 hbs (by omega) (by omega)) (rfl) hB5.gr (by simp) trivial ?_
  rintro q p4 hp4 hp4' ⟨m,rfl,hm0,hm1⟩
  have hB6:=hB5.draw p4
  generalize H8.set r (RdO bs p4)=H9 at*
  have w1:=aI (n:=m - 1) (by omega) (by omega)
  simp only[go_sem,rE,rA,aE,ax,aq,aw,rL,aZ,w1]
  intro b1 hb1
  have hB7:=hB6.new hb1 (.tail 1 1)
  generalize H9.set b1 (.tail 1 1)=H10 at*
  refine ba (cA L r bs p4 2 hbs (by omega) (by omega)) (rfl) hB7.gr (by simp) trivial ?_
  rintro q p5 hp5 hp5' ⟨n,rfl,hn0,hn1⟩
  have hB8:=hB7.draw p5
  have g6:=hB8.g6
  generalize H10.set r (RdO bs p5)=H11 at*
  have hn01:n=0\/n=1:=by omega
  have hn1':n.toNat<=1:=by omega
  simp only[go_sem,rE,rA,aE,ax,aq,aw,rL,aZ,g6,hn0,hn1',fD]
  refine jn _ _ p5 _ {f with gives:=⟨s,[m - 1].take n.toNat⟩} ⟨hlo.pars,hlo.ptys,hlo.ty,hlo.blen,hlo.bcnt,hlo.bsm,hlo.says⟩ (hB8.put _) (lC {f with gives:=⟨s,[m - 1].take n.toNat⟩} (.refl _) (.refl _) (.refl _) lesays ⟨⟨.refl _,rfl⟩,⟨?_,rfl⟩,trivial⟩) (by first|rfl|simp only[go_sem,rE]) (by first|rfl|simp only[go_sem,rE]) (by first|rfl|simp only[go_sem,rE]) (by first|rfl|simp only[go_sem,rE]) (by omega) (by omega)
  rcases hn01 with rfl|rfl
  ·exact .refl _
  ·exact .refl _
 ·
  refine ba (cA L r bs p2 8 hbs (by omega) (by omega)) (rfl) hB.gr (by simp) trivial ?_
  rintro q p3 hp3 hp3' ⟨n,rfl,hn0,hn1⟩
  have hB1:=hB.draw p3
  generalize H3.set r (RdO bs p3)=H4 at*
  simp only[go_sem,rE,rA,aE,ax,aq,aw,rL,aZ]
  refine ba (cA L r bs p3 3 hbs (by omega) (by omega)) (rfl) hB1.gr (by simp) trivial ?_
  rintro q p4 hp4 hp4' ⟨m,rfl,hm0,hm1⟩
  have hB2:=hB1.draw p4
  have g6:=hB2.g6
  generalize H4.set r (RdO bs p4)=H5 at*
  simp only[go_sem,rE,rA,aE,ax,aq,aw,rL,aZ,g6]
  refine jn _ _ p4 _ {f with says:=.mk n m ⟨bl [112],[]⟩ []} ⟨hlo.pars,hlo.ptys,hlo.ty,hlo.blen,hlo.bcnt,hlo.bsm,.mk (by omega) (by simp)⟩ (hB2.put _) (lC {f with says:=.mk n m ⟨bl [112],[]⟩ []} (.refl _) (.refl _) (.refl _) ?_ legives) (by first|rfl|simp only[go_sem,rE]) (by first|rfl|simp only[go_sem,rE]) (by first|rfl|simp only[go_sem,rE]) (by first|rfl|simp only[go_sem,rE]) (by omega) (by omega)
  rw[Ex.enc]
  exact⟨⟨.refl _,rfl⟩,⟨.refl _,rfl⟩,⟨.refl _,rfl⟩,⟨.nil 1,rfl⟩,⟨.nil 5,rfl⟩,trivial⟩
 ·
  exact sw _ _ (by first|rfl|simp only[go_sem,rE]) (by first|rfl|simp only[go_sem,rE]) fun E' H' p' c6 f' hf' hB' hA he h1 h2=>jn8 E' H' p' c6 f' hf' hB' hA ((he 3 (by decide)).trans (by first|rfl|simp only[go_sem,rE])) ((he 4 (by decide)).trans (by first|rfl|simp only[go_sem,rE])) ((he 5 (by decide)).trans (by first|rfl|simp only[go_sem,rE])) ((he 6 (by decide)).trans (by first|rfl|simp only[go_sem,rE])) (by omega) (by omega)
 ·
  exact sw _ _ (by first|rfl|simp only[go_sem,rE]) (by first|rfl|simp only[go_sem,rE]) fun E' H' p' c6 f' hf' hB' hA he h1 h2=>jn8 E' H' p' c6 f' hf' hB' hA ((he 3 (by decide)).trans (by first|rfl|simp only[go_sem,rE])) ((he 4 (by decide)).trans (by first|rfl|simp only[go_sem,rE])) ((he 5 (by decide)).trans (by first|rfl|simp only[go_sem,rE])) ((he 6 (by decide)).trans (by first|rfl|simp only[go_sem,rE])) (by omega) (by omega)
 ·
  intro b58 hb58
  have hB2:=hB.new hb58 (.tail 0 0)
  have g58:(H3.set b58 (.tail 0 0)).get b58=_:=ai _ _ _
  have g6:=hB2.g6
  generalize H3.set b58 (.tail 0 0)=H5 at*
  simp only[go_sem,rE,rA,aE,ax,aq,aw,rL,aZ,g6]
  refine eP (es:=[]) (ys:=f.body.map St.enc) (rfl) g58 (rfl) (jg _) (by simp;omega) ?_
  intro bt nt mt H6 fp6 gt keep hbt hfb
  have hB3:=hB2.keep (iV g58 keep)
  simp only[go_sem,rE,rA,aE,ax,aq,aw,rL,aZ]
  intro b0 hb0
  have d0t:=ak gt hb0
  have hB4:=hB3.new hb0 (.tail 6 6)
  have gt:(H6.set b0 (.tail 6 6)).get bt=_:=(ae _ _ d0t).trans gt
  generalize H6.set b0 (.tail 6 6)=H7 at*
  refine ba (zas:=[.ptr r 0,.sl 1 (some (b0,6,6)) (jz [bl [112],bl [113],bl [97,98],bl [97,99],bl [97,100],bl [97,101]])]) ((Bg L r bs hbs [bl [112],bl [113],bl [97,98],bl [97,99],bl [97,100],bl [97,101]] (by simp) (by simp) p2 (by omega) (by omega)).args ⟨.refl _,.tok _ _ _,trivial⟩) (rfl) hB4.gr (by simp) trivial ?_
  rintro q p3 hp3 hp3' ⟨s,rfl⟩
  have hB5:=hB4.draw p3
  have hnt:bt≠r:=by rintro rfl;rw[hB4.gr]at gt;simp[RdO]at gt
  have gt:(H7.set r (RdO bs p3)).get bt=_:=(ae _ _ hnt).trans gt
  generalize H7.set r (RdO bs p3)=H8 at*
  simp only[go_sem,rE,rA,aE,ax,aq,aw,rL,aZ]
  refine eP (es:=f.body.map St.enc) (ys:=[[I 1,S (bl [122,122]),S (bl []),NIL,S (bl []),NIL,I 2,I 0,S s,NIL,NIL,S (bl []),NIL,NIL,NIL]]) (rfl) gt (rfl) (by simp) (by simp;omega) ?_
  intro bt2 nt2 mt2 H10 fp10 gt2 keep2 hbt2 hfb2
  have hB7:=hB5.keep (iV gt keep2)
  have g6:=hB7.g6
  simp only[go_sem,rE,rA,aE,ax,aq,aw,rL,aZ,g6]
  have hxs:(Ex.mk 2 0 ⟨s,[]⟩ []).sm:=.mk (by decide) (by simp)
  obtain⟨c1,c2⟩:=mj 1 (bl [122,122]) P0 P0 (.mk 2 0 ⟨s,[]⟩ []) hxs
  refine jn _ _ p3 _ {f with body:=f.body++[.mk 1 (bl [122,122]) P0 P0 (.mk 2 0 ⟨s,[]⟩ []) (bl []) [] [] []]} ⟨hlo.pars,hlo.ptys,hlo.ty,by simp;omega,fun x hx=>?_,fun x hx=>?_,hlo.says⟩ (hB7.put _) (lC {f with body:=f.body++[.mk 1 (bl [122,122]) P0 P0 (.mk 2 0 ⟨s,[]⟩ []) (bl []) [] [] []]} (.refl _) (.refl _) ?_ lesays legives) (by first|rfl|simp only[go_sem,rE]) (by first|rfl|simp only[go_sem,rE]) (by first|rfl|simp only[go_sem,rE]) (by first|rfl|simp only[go_sem,rE]) (by omega) (by omega)
  ·rcases aG.1 hx with h|h
   ·exact hlo.bcnt x h
   ·simp at h;subst h;omega
  ·rcases aG.1 hx with h|h
   ·exact hlo.bsm x h
   ·simp at h;subst h;exact c2.up (by omega)
  ·rw[bh,aR,bF]
   refine .slR ((zV f.body).snoc ?_)
   rw[St.enc_eq]
   exact⟨⟨.refl _,rfl⟩,⟨.refl _,rfl⟩,⟨.refl _,rfl⟩,⟨.nil 1,rfl⟩,⟨.refl _,rfl⟩,⟨.nil 1,rfl⟩,⟨.refl _,rfl⟩,⟨.refl _,rfl⟩,⟨.refl _,rfl⟩,⟨.nil 1,rfl⟩,⟨.nil 5,rfl⟩,⟨.refl _,rfl⟩,⟨.nil 8,rfl⟩,⟨.nil 15,rfl⟩,⟨.nil 15,rfl⟩,trivial⟩
 ·
  intro b58 hb58
  have hB2:=hB.new hb58 (.tail 0 0)
  have g58:(H3.set b58 (.tail 0 0)).get b58=_:=ai _ _ _
  have g3:=hB2.g3
  generalize H3.set b58 (.tail 0 0)=H5 at*
  simp only[go_sem,rE,rA,aE,ax,aq,aw,rL,aZ,g3]
  refine eP (es:=[]) (ys:=pr.map Fu.enc) (rfl) g58 (rfl) (by simp;intro g _;exact mz g) (by simp;omega) ?_
  intro bt nt mt H6 fp6 gt keep hbt hfb
  have nf6:¬fp6 b6:=fun h=>by have:=hfb _ h;rw[hB2.g6]at this;simp at this
  have hB3:=hB2.keep (iV g58 keep)
  have g6:=hB3.g6
  simp only[go_sem,rE,rA,aE,ax,aq,aw,rL,aZ,g6]
  refine⟨by simp;exact nf6,?_⟩
  refine eP (es:=pr.map Fu.enc) (ys:=[f.enc]) (rfl) gt (by simp only[go_sem,rE];rw[lR]) (by simp[mz]) (by simp;omega) ?_
  intro bt2 nt2 mt2 H8 fp8 gt2 keep2 hbt2 hfb2
  have hB5:=hB3.keep (iV gt keep2)
  have g3:=hB5.g3
  simp only[go_sem,rE,rA,aE,ax,aq,aw,rL,aZ,g3]
  have hB6:=hB5.put3 [.sl 12 (some (bt2,nt2,mt2)) (pr.map Fu.enc++[f.enc])]
  rw[<-lR]at hB6
  have e1:pr.map Fu.enc++[f.enc]=(pr++[f]).map Fu.enc:=by simp
  rw[e1]at hB6⊢
  exact jn11 _ _ _ (pr++[f]) (by simp;omega) (by simp;omega) (fun g hg=>by rcases aG.1 hg with h|h;exact hplo g h;simp at h;rw[h];exact hlo) hB6 (by first|rfl|simp only[go_sem,rE]) (by first|rfl|simp only[go_sem,rE]) (by first|rfl|simp only[go_sem,rE]) (by first|rfl|simp only[go_sem,rE])
end
section
variable {P:Program}{F:Ids}
def drawn(m:Nat)(pr:Pg):Prop:=(∀f∈pr,f.lo m)/\1<=pr.length/\pr.length<=4+m
theorem Bk(L:Lib P F)(r:Nat)(bs:List UInt8)(hbs:bs.length<=2000)(p:Int)(hp:0<=p)(hp2:p+6*FC<=2^50):
 ACalls P 42 [.ptr r 0] (one r (RdO bs p)) (RdR r bs p (6*FC) fun q=>∃pr:Pg,q=.agg (Pg.enc pr)/\drawn 1 pr):=by
 simp only[FC]at hp2
 refine(L.a Tryz.func42 y42) (by simp[y42]) ?_
 simp only[y42,go_sem,rE,rA]
 intro b2 hb2
 have hr2:r≠b2:=by rintro rfl;rw[bI]at hb2;simp at hb2
 have gr:((one r (RdO bs p)).set b2 (.cells [NIL])).get r=some (RdO bs p):=by rw[ae _ _ hr2,bI]
 have g2:((one r (RdO bs p)).set b2 (.cells [NIL])).get b2=some (.cells [NIL]):=ai _ _ _
 generalize((one r (RdO bs p)).set b2 (.cells [NIL]))=H0 at*
 clear hb2
 refine ba (Bl L r bs hbs p hp (by simp only[FC];omega)) (rfl) gr (by simp) trivial ?_
 rintro q p1 hp1 hp1' ⟨pr,rfl,hgood,hl1,hl2⟩
 simp only[FC]at hp1'
 have g2:(H0.set r (RdO bs p1)).get b2=_:=(ae _ _ (Ne.symm hr2)).trans g2
 have gr:(H0.set r (RdO bs p1)).get r=_:=ai _ _ _
 generalize H0.set r (RdO bs p1)=H1 at*
 simp only[go_sem,rE,rA,Pg.enc]
 intro b3 hb3
 have hr3:=ak gr hb3
 have d23:=ak g2 hb3
 have gr:(H1.set b3 (.cells [.sl 12 none (pr.map Fu.enc)])).get r=_:=(ae _ _ hr3).trans gr
 have g2:(H1.set b3 (.cells [.sl 12 none (pr.map Fu.enc)])).get b2=_:=(ae _ _ d23).trans g2
 have g3:(H1.set b3 (.cells [.sl 12 none (pr.map Fu.enc)])).get b3=_:=ai _ _ _
 generalize H1.set b3 (.cells [.sl 12 none (pr.map Fu.enc)])=H2 at*
 clear hb3
 refine ba (cA L r bs p1 5 hbs (by omega) (by omega)) (rfl) gr (by simp) trivial ?_
 rintro q p2 hp2 hp2' ⟨k,rfl,hk0,hk1⟩
 have g2:(H2.set r (RdO bs p2)).get b2=_:=(ae _ _ (Ne.symm hr2)).trans g2
 have g3:(H2.set r (RdO bs p2)).get b3=_:=(ae _ _ (Ne.symm hr3)).trans g3
 have gr:(H2.set r (RdO bs p2)).get r=_:=ai _ _ _
 generalize H2.set r (RdO bs p2)=H3 at*
 by_cases hk:k=0
 ·simp only[hk,go_sem,rE,rA,aE,g3,rL]
  refine ba (Bn L r bs hbs pr (m:=0) (by omega) (fun f hf=>(hgood f hf).lo) hl1 hl2 p2 (by omega) (by omega)) (by simp only[go_sem,rE,Pg.enc]) gr (by simp) trivial ?_
  rintro q p3 hp3 hp3' ⟨pr',rfl,hlo,hl1',hl2'⟩
  have g2:(H3.set r (RdO bs p3)).get b2=_:=(ae _ _ (Ne.symm hr2)).trans g2
  have gr:(H3.set r (RdO bs p3)).get r=_:=ai _ _ _
  generalize H3.set r (RdO bs p3)=H4 at*
  simp only[go_sem,rE,rA,g2,Pg.enc,rL]
  exact bY (q':=.agg (Pg.enc pr')) (off:=0) (rfl) (ai _ _ _) rfl (.refl _) (fo (by rw[ae _ _ hr2];exact gr)) ⟨p3,by omega,by simp only[FC];omega,rfl,pr',rfl,hlo,hl1',hl2'⟩
 ·have hk':(k==0)=false:=by simpa using hk
  simp only[hk',go_sem,rE,rA,g2,g3,rL]
  exact bY (q':=.agg (Pg.enc pr)) (off:=0) (rfl) (ai _ _ _) rfl (.refl _) (fo (by rw[ae _ _ hr2];exact gr)) ⟨p2,by omega,by simp only[FC];omega,rfl,pr,rfl,fun f hf=>(hgood f hf).lo.up,hl1,by omega⟩
def fS(bs:List UInt8):List (List AC):=bs.map fun b=>[AC.lit (.int .u8 (b.toNat:Int))]
theorem Df(L:Lib P F)(bs:List UInt8)(hl:bs.length<=2^30):ACalls P 27 [.sl 1 none (fS bs)] .empty fun q H'=>∃r bs',q=.ptr r 0/\H'=one r (RdO bs' 0)/\bs'.length<=2000:=by
 refine(L.a Tryz.func27 y27) (by simp[y27]) ?_
 have hlen:(fS bs).length=bs.length:=by simp[fS]
 by_cases h:(2000:Int)<bs.length
 ·have h2:2000<=bs.length:=by omega
  have h3:(0:Int)<=2000:=by decide
  have h4:(2000:Int).toNat=2000:=rfl
  simp only[y27,go_sem,rE,rA,hlen,h,h2,h3,h4,decide_true,fD,eC,Int.reduceToNat]
  intro r hr
  refine al (q':=.ptr r 0) (by simp only[go_sem,rE];exact .refl _) (aj.sub_refl _) ⟨r,bs.take 2000,rfl,?_,by simp;omega⟩
  simp only[RdO,fS,fO]
  rfl
 ·simp only[y27,go_sem,rE,rA,hlen,h,decide_false]
  intro r hr
  exact al (q':=.ptr r 0) (by simp only[go_sem,rE];exact .refl _) (aj.sub_refl _) ⟨r,bs,rfl,rfl,by omega⟩
end
theorem kW{E:Env}{H:aj}{n m k r off:Nat}{g:Option Nat}{cs:List AC}{q q1:AC}{R:AC->aj->Prop}(hE:E n=.ptr r off)(hg:H.get r=some (.cells cs))(hq:fW g cs off=some q)
(hl:Le q q1){H':aj}(hs:H'.sub H)(h:R (.tup [q1,E m,E k]) H'):bm.post [.cell n g,.slot m,.slot k] R .ret E H:=
 ⟨.tup [q,E m,E k],by simp only[kU,iT,jC.val,hE,hg,hq],_,H',.of (Le.tup (show LeA [q,E m,E k] [q1,E m,E k]from⟨hl,.refl _,.refl _,trivial⟩)) hs,h⟩
section
variable {P:Program}{F:Ids}
theorem Bj(L:Lib P F)(r:Nat)(bs:List UInt8)(hbs:bs.length<=2000)(p:Int)(hp:0<=p)(hp2:p+7*FC<=2^50):
 ACalls P 26 [.ptr r 0] (one r (RdO bs p)) (RdR r bs p (7*FC) fun q=>∃(pr:Pg) (fn n:Int),q=.tup [.agg (Pg.enc pr),I fn,I n]/\drawn 1 pr):=by
 simp only[FC]at hp2
 refine(L.a Tryz.func26 y26) (by simp[y26]) ?_
 simp only[y26,go_sem,rE,rA]
 intro b2 hb2
 have hr2:r≠b2:=by rintro rfl;rw[bI]at hb2;simp at hb2
 have gr:((one r (RdO bs p)).set b2 (.cells [NIL])).get r=some (RdO bs p):=by rw[ae _ _ hr2,bI]
 have g2:((one r (RdO bs p)).set b2 (.cells [NIL])).get b2=some (.cells [NIL]):=ai _ _ _
 generalize((one r (RdO bs p)).set b2 (.cells [NIL]))=H0 at*
 clear hb2
 refine ba (Bk L r bs hbs p hp (by simp only[FC];omega)) (rfl) gr (by simp) trivial ?_
 rintro q p1 hp1 hp1' ⟨pr,rfl,hd⟩
 simp only[FC]at hp1'
 have g2:(H0.set r (RdO bs p1)).get b2=_:=(ae _ _ (Ne.symm hr2)).trans g2
 have gr:(H0.set r (RdO bs p1)).get r=_:=ai _ _ _
 generalize H0.set r (RdO bs p1)=H1 at*
 simp only[go_sem,rE,rA,Pg.enc]
 intro b5 hb5
 have hr5:=ak gr hb5
 have d25:=ak g2 hb5
 have hdl:=hd.2.2
 have hd1:=hd.2.1
 have gr:(H1.set b5 (.cells [.sl 12 none (pr.map Fu.enc)])).get r=_:=(ae _ _ hr5).trans gr
 have g2:(H1.set b5 (.cells [.sl 12 none (pr.map Fu.enc)])).get b2=_:=(ae _ _ d25).trans g2
 have g5:(H1.set b5 (.cells [.sl 12 none (pr.map Fu.enc)])).get b5=_:=ai _ _ _
 generalize H1.set b5 (.cells [.sl 12 none (pr.map Fu.enc)])=H2 at*
 clear hb5
 refine ba (cA L r bs p1 pr.length hbs (by omega) (by omega)) (by simp only[go_sem,rE,am]) gr (by simp) trivial ?_
 rintro q p2 hp2 hp2' ⟨k,rfl,hk0,hk1⟩
 have g2:(H2.set r (RdO bs p2)).get b2=_:=(ae _ _ (Ne.symm hr2)).trans g2
 have g5:(H2.set r (RdO bs p2)).get b5=_:=(ae _ _ (Ne.symm hr5)).trans g5
 have gr:(H2.set r (RdO bs p2)).get r=_:=ai _ _ _
 generalize H2.set r (RdO bs p2)=H3 at*
 obtain⟨k,rfl⟩:=cD hk0
 have hkl:k<pr.length:=by omega
 obtain⟨cf,hcf,CF⟩:=fuC pr[k]
 have hgf:(pr.map Fu.enc)[k]?=some cf:=by rw[<-hcf];simp[hkl]
 have cfb:(cf.drop 4)[0]?=some (.sl 15 none (St.encs pr[k].body)):=by rw[cd];exact CF.body
 have hel:(St.encs pr[k].body).length=pr[k].body.length:=by rw[St.encs_map,am]
 have hbl:=(hd.1 pr[k] (az hkl)).blen
 have w1:=aI (n:=(pr[k].body.length:Int)+1) (by omega) (by omega)
 simp only[go_sem,rE,rA,rL,g5,hgf,CF.len,CF.body,cfb,hel,w1]
 refine ba (cA L r bs p2 (pr[k].body.length+1) hbs (by omega) (by omega)) (by simp only[go_sem,rE]) gr (by simp) trivial ?_
 rintro q p3 hp3 hp3' ⟨m,rfl,hm0,hm1⟩
 have g2:(H3.set r (RdO bs p3)).get b2=_:=(ae _ _ (Ne.symm hr2)).trans g2
 have g5:(H3.set r (RdO bs p3)).get b5=_:=(ae _ _ (Ne.symm hr5)).trans g5
 have gr:(H3.set r (RdO bs p3)).get r=_:=ai _ _ _
 generalize H3.set r (RdO bs p3)=H4 at*
 simp only[go_sem,rE,rA,rL]
 refine ba (cA L r bs p3 20 hbs (by omega) (by omega)) (by simp only[go_sem,rE]) gr (by simp) trivial ?_
 rintro q p4 hp4 hp4' ⟨j,rfl,hj0,hj1⟩
 have g2:(H4.set r (RdO bs p4)).get b2=_:=(ae _ _ (Ne.symm hr2)).trans g2
 have g5:(H4.set r (RdO bs p4)).get b5=_:=(ae _ _ (Ne.symm hr5)).trans g5
 have gr:(H4.set r (RdO bs p4)).get r=_:=ai _ _ _
 generalize H4.set r (RdO bs p4)=H5 at*
 simp only[go_sem,rE,rA,rL]
 have hch:∀a b:AC,aZ 1 2 [a,b]=[[a],[b]]:=fun _ _=>rfl
 have hg0:∀a b:List AC,[a,b][Int.toNat 0]?=some a:=fun _ _=>rfl
 have hg1:∀a b:List AC,[a,b][Int.toNat 1]?=some b:=fun _ _=>rfl
 have h00:(0:Int)<=0:=cW _
 have h01:(0:Int)<=1:=by decide
 by_cases h0:j=0
 ·have h0':(j==0)=true:=by simpa using h0
  simp only[go_sem,rE,rA,rL,h0',g5,am,ax,aq,aw,hch,jL,bg,cg,or_false,forall_eq]
  refine ba (cA L r bs p4 2 hbs (by omega) (by omega)) (rfl) gr (fun _=>⟨by omega,I 0,0,rfl,cW _,.inr rfl⟩) (by simp[ed];exact fun h=>hr5 h.symm) ?_
  rintro q p5 hp5 hp5' ⟨x,rfl,hx0,hx1⟩
  have g2:(H5.set r (RdO bs p5)).get b2=_:=(ae _ _ (Ne.symm hr2)).trans g2
  have g5:(H5.set r (RdO bs p5)).get b5=_:=(ae _ _ (Ne.symm hr5)).trans g5
  have gr:(H5.set r (RdO bs p5)).get r=_:=ai _ _ _
  generalize H5.set r (RdO bs p5)=H6 at*
  have hx:x=0\/x=1:=by omega
  rcases hx with rfl|rfl
  ·simp only[go_sem,rE,rA,rL,hg0,h00,g5,g2]
   exact kW (q1:=.agg (Pg.enc pr)) (off:=0) rfl (ai _ _ _) rfl (.refl _) (fo (by rw[ae _ _ hr2];exact gr)) ⟨p5,by omega,by simp only[FC];omega,rfl,pr,_,_,rfl,hd⟩
  ·simp only[go_sem,rE,rA,rL,hg1,h01,g5,g2]
   exact kW (q1:=.agg (Pg.enc pr)) (off:=0) rfl (ai _ _ _) rfl (.refl _) (fo (by rw[ae _ _ hr2];exact gr)) ⟨p5,by omega,by simp only[FC];omega,rfl,pr,_,_,rfl,hd⟩
 have h0':(j==0)=false:=by simpa using h0
 by_cases h1:j=1
 ·have h1':(j==1)=true:=by simpa using h1
  simp only[go_sem,rE,rA,rL,h0',h1',g5,hgf,CF.len,CF.body,cfb,hel,w1,am,ax,aq,aw,hch,jL,bg,cg,or_false,forall_eq]
  refine ba (cA L r bs p4 2 hbs (by omega) (by omega)) (rfl) gr (fun _=>⟨by omega,I 0,0,rfl,cW _,.inr rfl⟩) (by simp[ed];exact fun h=>hr5 h.symm) ?_
  rintro q p5 hp5 hp5' ⟨x,rfl,hx0,hx1⟩
  have g2:(H5.set r (RdO bs p5)).get b2=_:=(ae _ _ (Ne.symm hr2)).trans g2
  have g5:(H5.set r (RdO bs p5)).get b5=_:=(ae _ _ (Ne.symm hr5)).trans g5
  have gr:(H5.set r (RdO bs p5)).get r=_:=ai _ _ _
  generalize H5.set r (RdO bs p5)=H6 at*
  have hx:x=0\/x=1:=by omega
  rcases hx with rfl|rfl
  ·simp only[go_sem,rE,rA,rL,hg0,h00,g5,g2]
   exact kW (q1:=.agg (Pg.enc pr)) (off:=0) rfl (ai _ _ _) rfl (.refl _) (fo (by rw[ae _ _ hr2];exact gr)) ⟨p5,by omega,by simp only[FC];omega,rfl,pr,_,_,rfl,hd⟩
  ·simp only[go_sem,rE,rA,rL,hg1,h01,g5,g2]
   exact kW (q1:=.agg (Pg.enc pr)) (off:=0) rfl (ai _ _ _) rfl (.refl _) (fo (by rw[ae _ _ hr2];exact gr)) ⟨p5,by omega,by simp only[FC];omega,rfl,pr,_,_,rfl,hd⟩
 have h1':(j==1)=false:=by simpa using h1
 simp only[go_sem,rE,rA,rL,h0',h1',g5,g2]
 exact kW (q1:=.agg (Pg.enc pr)) (off:=0) rfl (ai _ _ _) rfl (.refl _) (fo (by rw[ae _ _ hr2];exact gr)) ⟨p4,by omega,by simp only[FC];omega,rfl,pr,_,_,rfl,hd⟩
end

def kv(ro:Option Nat):Fence:={Fence.wide with round:=ro}
theorem BD(ro:Option Nat)(l:Nat):(kv ro).inRound l=kv (some l):=rfl
theorem nh(ro:Option Nat)(n:Nat):(kv ro).depth.isSome=true->1<=n:=fun h=>by simp[kv,Fence.wide]at h
theorem callsR{ro:Option Nat}{n:Nat}{P:Program}{f:FuncId}{args:Array Value}{w:World}{R:Ending->World->Prop}(h:Calls P f args w R):CallsIn (kv ro) n P f args w R:=
 (callsIn_wide.2 h:CallsIn Fence.wide n P f args w R)
section
variable {P:Program}{ro:Option Nat}{n:Nat}
theorem BG{o:Oper}{a:Act}{next next':Act->World->Prop}{Q:Exit->Act->World->Prop}(hn:∀a w,next a w->next' a w){r:Result Next}(h:o.upon P a next Q r):
 o.uponIn (kv ro) n P a next' Q r:=by
 cases r with
 |halt x w'=>
  cases x<;>first|exact h|exact h.elim
 |ok x w'=>
  cases x<;>first
   |exact hn _ _ h
   |exact h.elim
   |exact⟨nh _ _,callsR (Calls.mono h fun e w'' he=>by cases e<;>first|exact hn _ _ he|exact he)⟩
   |exact⟨nh _ _,fun c cs _=>let⟨v,w'',hr,hs⟩:=h c cs;⟨v,w'',hn _ _ hr,stepsIn_wide.2 hs⟩⟩
def qj(F:Fence)(n:Nat)(P:Program)(ops:Array Oper)(Q:Exit->Act->World->Prop)(i:Nat)(next:Act->World->Prop)(a:Act)(w:World):Prop:=
 match ops[i]? with
 |none=>next a w
 |some o=>if Region.wanted o (yielded ops a.tmps)then o.wpIn F n P a w next Q else(∀f,o.about P w a.eval=some f->F.fn f)/\next (a.put o.dst undef) w
theorem pA{F:Fence}{ops:Array Oper}{Q:Exit->Act->World->Prop}(i:Nat)(rest:List Nat)(a:Act)(w:World):wpOpsIn F n P ops Q (i::rest) a w=qj F n P ops Q i (wpOpsIn F n P ops Q rest) a w:=by
 cases h:ops[i]?<;>simp[wpOpsIn,qj,h]
theorem BC{ops:Array Oper}{Q:Exit->Act->World->Prop}(hQ:¬LetsOut Q){i:Nat}(hd:∀o,ops[i]?=some o->∀c,o.op≠.defer c){next next':Act->World->Prop}(hn:∀a w,next a w->next' a w){a:Act}{w:World}
(h:wpOp P ops Q i next a w):qj (kv ro) n P ops Q i next' a w:=by
 unfold wpOp at h
 unfold qj
 split at h
 ·rename_i ho
  simp only[ho]
  exact hn _ _ h
 ·rename_i o ho
  simp only[ho]
  split at h
  ·rename_i hw
   rw[if_pos hw]
   rcases h with h|⟨-,h⟩
   ·refine⟨fun _ _=>trivial,?_⟩
    rw[Oper.semAt_eq _ _ _ (hd o ho)]
    exact BG hn h
   ·exact absurd h hQ
  ·rename_i hw
   rw[if_neg hw]
   exact⟨fun _ _=>trivial,hn _ _ h⟩
theorem tC{N:Nat}{ops:Array Oper}{i:Nat}{inc:List Nat}{x:aN}(h:eV P N ops i inc=some x):∀o,ops[i]?=some o->∀c,o.op≠.defer c:=by
 intro o ho c hc
 simp only[eV,ho]at h
 have:qO P o.op=none:=by
  rw[hc]
  simp[qO,zD,rY,tB,resL,iF]
 rw[this]at h
 simp at h
theorem rM{N:Nat}{ops:Array Oper}{Q:Exit->Act->World->Prop}(hQ:¬LetsOut Q){dr:Bool}{K:Env->aj->Prop}{rest:List Nat}:∀(xs:List aN),(∀x∈xs,eV P N ops x.id x.inc=some x)->∀{M:bU} {E:Env} {H:aj} {a:Act} {w:World} {l:Lds} {f:Fps},
 cK N M E a->Sim M H w->bG P dr K (xs.map aN.toM) E H l f->(∀a' w',lM P N K M H w a a' w'->wpOpsIn (kv ro) n P ops Q rest a' w')->wpOpsIn (kv ro) n P ops Q (xs.map (·.id)++rest) a w:=by
 intro xs
 induction xs with
 |nil=>intro _ M E H a w l f hE s h hq;exact hq a w ⟨E,H,M,h,hE,s,bK.refl _ _ _,rfl⟩
 |cons x xs ih=>
  intro hres M E H a w l f hE s h hq
  rw[aR,cC,pA]
  simp only[aR,bG]at h
  refine BC hQ (tC (hres x (by simp))) (fun _ _ h=>h) (nq (hres x (by simp)) hE s h fun r H' l' f' M' a' w' hk hE' s' t' hd'=>?_)
  refine ih (fun y hy=>hres y (by simp[hy])) hE' s' hk fun a'' w'' hp=>hq a'' w'' ?_
  obtain⟨E'',H'',M'',p1,p2,p3,p4,p5⟩:=hp
  exact⟨E'',H'',M'',p1,p2,p3,t'.trans p4,p5.trans hd'⟩
end
section
variable {P:Program}{ro:Option Nat}{n:Nat}
theorem toLit_X{ops:Array Oper}{d:Option Nat}{x:XOp}{c:xH}{zas:List aJ}(h:nk ops d x=.eff (.callX c zas)):x=.eff (.callX c zas):=by
 unfold nk at h
 repeat' (split at h)
 all_goals first|exact h|simp at h
theorem resOp_X{op:Op}{c:xH}{zas:List aJ}(h:qO P op=some (.eff (.callX c zas))):iF P op=some (.callX c zas):=by
 simp only[qO]at h
 split at h
 ·simp at h
 ·split at h
  ·simp at h
  ·simp only[a9,XOp.eff.injEq]at h
   obtain⟨e,he,rfl⟩:=h
   exact he
theorem AA{o:Oper}{zas:List aJ}(hres:iF P o.op=some (.callX .clos zas)):∃t args ts,o.op=.call ⟨.value (.tmp t),args,ts⟩/\ku (.tmp t::args.toList)=some zas:=by
 obtain⟨dst,op,ty,pos,after,guard⟩:=o
 cases op<;>simp only[iF]at hres<;>try(simp at hres;done)
 case lookup=>repeat' split at hres
              all_goals simp at hres
 case mapUpdate=>repeat' split at hres
                 all_goals simp at hres
 case buildSlice=>repeat' split at hres
                  all_goals simp at hres
 case store=>repeat' split at hres
             all_goals simp at hres
 case makeMap t r=>
  cases r with
  |some r=>simp at hres
  |none=>
   simp only[]at hres
   split at hres<;>simp at hres
 case call c=>
  obtain⟨callee,args,argTypes⟩:=c
  cases callee with
  |invoke r m=>simp[iF]at hres
  |builtin b=>
   cases b<;>simp only[iF]at hres<;>try(simp at hres;done)
   repeat' split at hres
   all_goals simp at hres
  |value f=>
   cases f with
   |tmp t=>
    simp only[iF,a9,EOp.callX.injEq,true_and]at hres
    obtain⟨as',has,rfl⟩:=hres
    exact⟨t,args,argTypes,rfl,has⟩
   |func f=>
    simp only[iF]at hres
    repeat' split at hres
    all_goals simp at hres
   |_=>simp[iF]at hres
theorem B8{N:Nat}{ops:Array Oper}{Q:Exit->Act->World->Prop}{i:Nat}{d:Option Nat}{inc:List Nat}{zas:List aJ}(hx:eV P N ops i inc=some ⟨i,d,none,.eff (.callX .clos zas),inc⟩){M:bU}{E:Env}{a:Act}{w:World}(hE:cK N M E a)
{l:Nat}{xs:List AC}(ha:zas.map (aJ.ev E)=.lit (.func (.yield l) #[] #[])::xs){R:Value->World->Prop}(hy:∀vs:List Value,il M xs vs->YieldAt (kv ro) (n - 1) P l vs.toArray w fun e w'=>∃v,e=.returned v/\R v w')
{next:Act->World->Prop}(hn:∀v w',R v w'->next (a.put d v) w'):qj (kv ro) n P ops Q i next a w:=by
 simp only[eV]at hx
 split at hx
 ·rename_i o ho
  split at hx
  ·rename_i xo g hxo hg
   split at hx
   ·rename_i hc
    simp only[a6]at hc
    simp only[Option.some.injEq,aN.mk.injEq,true_and,and_true]at hx
    obtain⟨rfl,rfl,hop⟩:=hx
    have hlit:=toLit_X hop
    subst hlit
    obtain⟨t,args,ts,hcall,has⟩:=AA (resOp_X hxo)
    have hargs:=jk (fun x xa hx=>hE.arg x xa hx) _ _ has
    rw[ha]at hargs
    unfold qj
    simp only[ho]
    rw[jV hg hc.2 hE (b:=true) rfl]
    simp only[if_true]
    have h0:=lA (hargs.2 0 _ _ rfl rfl)
    have hrest:il M xs (args.toList.map a.eval):=⟨by simpa using hargs.1,fun j x v hx hv=>hargs.2 (j+1) x v (by simpa using hx) (by simpa using hv)⟩
    obtain⟨fn,tmps,assign,body,hrun,hround⟩:=hy _ hrest
    have hex:(execOp a.eval o).run P w=.ok (.round l fn tmps assign body) w:=by
     obtain⟨dst,op,ty,pos,after,guard⟩:=o
     simp only at hcall
     subst hcall
     have hmap:args.map a.eval=(args.toList.map a.eval).toArray:=by apply fG.1;simp only[Array.toList_map]
     simp[execOp,resolve,h0,Deferred.ofValue,invoke,callFunc,Sem.run_bind,Sem.run_pure,Result.andThen,hmap,hrun]
    refine⟨fun _ _=>trivial,?_⟩
    rw[Oper.semAt_eq _ _ _ (by rw[hcall];intro c hc;cases hc),hex,Oper.uponIn_round]
    refine⟨nh _ _,hround.mono fun e w' he=>?_⟩
    obtain⟨v,rfl,hv⟩:=he
    exact hn _ _ hv
   ·simp at hx
  ·simp at hx
 ·simp at hx
end
def YC(P:Program)(ro:Option Nat)(n l:Nat)(xs:List AC)(M:bU)(Sd:World->Prop)(H:aj)(R:aj->Prop):Prop:=
 ∀(M':bU) (w':World) (vs:List Value),M.le M'->Sim M' H w'->Sd w'->il M' xs vs->
  YieldAt (kv ro) n P l vs.toArray w' fun e w''=>e=.returned (.bool true)/\∃M'' H'',Sim M'' H'' w''/\bK M' H w' M'' H'' w''/\R H''
section
variable {P:Program}{ro:Option Nat}{n:Nat}
theorem lL{N:Nat}{K:cZ->Env->aj->Prop}{M:bU}{H:aj}{w:World}{a:Act}:¬LetsOut (tu N K M H w a):=by
 rintro⟨a',w',xe,-,-,-,he,-⟩
 simp[eo]at he
theorem nB{N id:Nat}{ops:Array Oper}{xc:aY}(h:dm P N ops false=some xc){K:cZ->Env->aj->Prop}{M:bU}{E:Env}{H:aj}{a:Act}{w:World}
(hE:cK N M E a)(s:Sim M H w)(hw:xc.wp P K E H):(Code.region id ops false).wpIn (kv ro) n P (tu N K M H w a) a w:=by
 simp only[dm,a9]at h
 obtain⟨xs,hxs,rfl⟩:=h
 obtain⟨h1,h2⟩:=kz hxs
 refine wpIn_region ?_
 rw[<-h1,<-cv (xs.map (·.id))]
 refine rM lL xs h2 hE s hw fun a' w' hp=>?_
 obtain⟨E',H',M',p1,p2,p3,p4,p5⟩:=hp
 exact⟨.normal,E',H',M',rfl,p1,p2,p3,p4,p5⟩
theorem we{N id:Nat}{ops:Array Oper}{zs1 zs2:List aN}{i:Nat}{d:Option Nat}{zas:List aJ}(h:dm P N ops false=some (.region false (zs1++⟨i,d,none,.eff (.callX .clos zas),[]⟩::zs2)))
{K:cZ->Env->aj->Prop}{M:bU}{E:Env}{H:aj}{a:Act}{w:World}(hE:cK N M E a)(s:Sim M H w)(hd:∀k,d=some k->k<N){Sd:World->Prop}(hSd:∀M' H' w',bK M H w M' H' w'->Sd w')
(hw:bG P false (fun E' H'=>∃l xs R,zas.map (aJ.ev E')=.lit (.func (.yield l) #[] #[])::xs/\YC P ro (n - 1) l xs M Sd H' R/\∀H'',R H''->bG P false (K .normal) zs2 (E'.put d (B true)) H'' [] []) zs1 E H [] []):
 (Code.region id ops false).wpIn (kv ro) n P (tu N K M H w a) a w:=by
 simp only[dm,a9]at h
 obtain⟨xs,hxs,hz⟩:=h
 simp only[aY.region.injEq,true_and]at hz
 obtain⟨h1,h2⟩:=kz hxs
 obtain⟨ys,q,hys,e1,e2⟩:=List.map_eq_append_iff.1 hz
 subst hys
 obtain⟨y,ys2,hq,e3,e4⟩:=List.map_eq_cons_iff.1 e2
 subst hq
 refine wpIn_region ?_
 rw[<-h1,bh]
 rw[<-e1]at hw
 refine rM lL ys (fun x hx=>h2 x (by simp[hx])) hE s hw fun a' w' hp=>?_
 obtain⟨E',H',M',⟨l,xs,R,ha,hy,hR⟩,hE',s',t',hd'⟩:=hp
 rw[aR,pA]
 have hyM:y=⟨i,d,none,.eff (.callX .clos zas),[]⟩:=by
  by_cases hap:∀q b c d,y.op≠.eff (.append q b c d)
  ·rw[BM hap]at e3;exact e3
  ·simp only[ne_eq,Classical.not_forall,Classical.not_not]at hap
   obtain⟨sz,bb,sa,ya,hop⟩:=hap
   simp[aN.toM,hop,zt]at e3
 have hy2:=h2 y (by simp)
 subst hyM
 refine B8 hy2 hE' ha (R:=fun v w''=>v=.bool true/\∃M'' H'',Sim M'' H'' w''/\bK M' H' w' M'' H'' w''/\R H'') (fun vs hvs=>?_) ?_
 ·obtain⟨fn,tmps,assign,body,hrun,hround⟩:=hy M' w' vs t'.le s' (hSd _ _ _ t') hvs
  refine⟨fn,tmps,assign,body,hrun,hround.mono fun e w'' he=>?_⟩
  obtain⟨rfl,he⟩:=he
  exact⟨_,rfl,rfl,he⟩
 ·rintro v w'' ⟨rfl,M'',H'',s'',t'',hR''⟩
  have hE'':cK N M'' (E'.put d (B true)) (a'.put d (.bool true)):=(hE'.mono t''.le).put hd (.lit trivial)
  have hr:=hR _ hR''
  rw[<-e4]at hr
  rw[<-cv (ys2.map (·.id))]
  refine rM lL ys2 (fun x hx=>h2 x (by simp[hx])) hE'' s'' hr fun a3 w3 hp=>?_
  obtain⟨E3,H3,M3,p1,p2,p3,p4,p5⟩:=hp
  have hdef:(a'.put d (.bool true)).defers=a'.defers:=by cases d<;>rfl
  exact⟨.normal,E3,H3,M3,rfl,p1,p2,p3,(t'.trans t'').trans p4,p5.trans (hdef.trans hd')⟩
end
theorem Sim.noCells{M:bU}{H:aj}{w:World}(s:Sim M H w){l:Nat}{r:Obj}(h:w.heap[l]?=some r)(hr:∀a b c,r≠.cells a b c)(k:Nat):M l k=none:=by
 cases hm:M l k with
 |none=>rfl
 |some v=>
  have:=s.mem l k v hm
  rw[eZ,h]at this
  cases r<;>first|exact absurd rfl (hr _ _ _)|simp at this
theorem Sim.putRec{M:bU}{H:aj}{w:World}(s:Sim M H w){l:Nat}{r:Obj}(h:w.heap[l]?=some r)(hr:∀a b c,r≠.cells a b c)(hn:H.get l=none)(o:Obj):Sim M H (w.putObj l o):=by
 have other:∀b,b≠l->(w.putObj l o).heap[b]?=w.heap[b]?:=fun b hb=>World.putObj_heap_other hb
 refine⟨fun b k v hm=>?_,fun b ho hb=>?_⟩
 ·have hbl:b≠l:=by rintro rfl;rw[s.noCells h hr]at hm;simp at hm
  have:=s.mem b k v hm
  rw[eZ]at this⊢
  rw[other b hbl];exact this
 ·have hbl:b≠l:=by rintro rfl;rw[hn]at hb;simp at hb
  have:=s.obj b ho hb
  cases ho<;>simp only[iQ,other b hbl]at this⊢<;>exact this
theorem wG(w:World)(l:Nat)(o:Obj):ry w (w.putObj l o):=⟨rfl,rfl⟩
def Env.puts(E:Env):List Nat->List AC->Env
 |p::ps,x::xs=>(E.put (some p) x).puts ps xs
 |_,_=>E
theorem cK.puts{N:Nat}{M:bU}:∀{ps:List Nat} {xs:List AC} {vs:List Value} {E:Env} {tmps:Array Value},cK N M E {tmps:=tmps,defers:=[]}->(∀p∈ps,p<N)->il M xs vs->
 cK N M (E.puts ps xs) {tmps:=(ps.zip vs).foldl (fun t pv=>t.setIfInBounds pv.1 pv.2) tmps,defers:=[]}
 |[],xs,vs,E,tmps,h,_,_=>by simpa[Env.puts]using h
 |p::ps,[],vs,E,tmps,h,_,hr=>by
  have:vs=[]:=bx hr.1.symm
  subst this
  simpa[Env.puts]using h
 |p::ps,x::xs,[],E,tmps,h,_,hr=>by have:=hr.1;simp at this
 |p::ps,x::xs,v::vs,E,tmps,h,hp,hr=>by
  have hx:Rep M x v:=hr.2 0 _ _ rfl rfl
  have hrest:il M xs vs:=⟨by simpa using hr.1,fun j a b ha hb=>hr.2 (j+1) a b (by simpa using ha) (by simpa using hb)⟩
  have h1:cK N M (E.put (some p) x) {tmps:=tmps.setIfInBounds p v,defers:=[]}:=h.put (d:=some p) (fun n hn=>by simp at hn;subst hn;exact hp _ (by simp)) hx
  exact(cK.puts (E:=E.put (some p) x) (tmps:=tmps.setIfInBounds p v) h1 (fun q hq=>hp q (eA _ hq)) hrest:)
section
variable {P:Program}
theorem rH{N l:Nat}{fn:FuncId}{tmps:Array Value}{ps:List Nat}{assign body:Code}{D:Nat}{M:bU}{E:Env}(hE:cK N M E {tmps:=tmps,defers:=[]})(hps:∀p∈ps,p<N){Sx:World->Prop}{Pre:List AC->aj->Prop}{lM:List AC->aj->aj->Prop}{EA:List AC->Env}
(hSx:∀w r,Sx w->Sx (w.putObj l r))(hSt:∀M H w M' H' w',H.get l=none->Sx w->bK M H w M' H' w'->(∃xs,Pre xs H)->Sx w')
(hP:∀xs H,Pre xs H->xs.length=ps.length/\H.get l=none)
(hA:∀n xs H M1 w1 a1,M.le M1->cK N M1 (E.puts ps xs) a1->Sim M1 H w1->Pre xs H->assign.wpIn (kv (some l)) n P (tu N (fun e E' H'=>e=.normal/\E'=EA xs/\H'=H) M1 H w1 a1) a1 w1)
(hB:∀n xs H M1 w1 a1,M.le M1->cK N M1 (EA xs) a1->Sim M1 H w1->Pre xs H->Sx w1->l<w1.heap.size->body.wpIn (kv (some l)) n P (tu N (fun e E' H'=>e=.normal/\lM xs H H') M1 H w1 a1) a1 w1):
 ∀ro n xs H,Pre xs H->YC P ro n l xs M (fun w=>w.heap[l]?=some (.loop {state:=.ready,pending:=none,fn,tmps,params:=ps.toArray,assign,body,defers:=D})/\Sx w) H (lM xs H):=by
 intro ro n xs H hpre M' w' vs hle s hSd hr
 obtain⟨hl,hx⟩:=hSd
 obtain⟨hlen,hnl⟩:=hP xs H hpre
 obtain⟨rec,hrec⟩:∃rec:LoopState->Loop,rec=fun st=>{state:=st,pending:=none,fn,tmps,params:=ps.toArray,assign,body,defers:=D}:=⟨_,rfl⟩
 have hl0:w'.heap[l]?=some (.loop (rec .ready)):=by rw[hrec];exact hl
 have hnc:∀st a b c,Obj.loop (rec st)≠.cells a b c:=fun st a b c h=>by cases h
 have hlt:l<w'.heap.size:=(dy.1 hl).1
 have hy:=run_yield (P:=P) (args:=vs.toArray) hl (by simp;rw[<-hr.1];exact hlen)
 refine⟨fn,_,assign,body,hy,roundIn_of_wpIn trivial ?_⟩
 rw[BD]
 have hE1:cK N M' (E.puts ps xs) {tmps:=(ps.toArray.zip vs.toArray).foldl (fun t pv=>t.setIfInBounds pv.1 pv.2) tmps,defers:=[]}:=by
  have:=cK.puts (hE.mono hle) hps hr
  have e:(ps.toArray.zip vs.toArray).foldl (fun t pv=>t.setIfInBounds pv.1 pv.2) tmps=(ps.zip vs).foldl (fun t pv=>t.setIfInBounds pv.1 pv.2) tmps:=by
   rw[<-Array.foldl_toList];simp
  rw[e];exact this
 refine wpIn_mono (hA n xs H M' w' _ hle hE1 s hpre) ?_
 rintro e a1 w1 ⟨xe,E',H',M1,he,⟨rfl,rfl,rfl⟩,hE',s1,t1,hd1⟩
 have hen:e=.normal:=by cases e<;>simp[eo]at he⊢
 subst hen
 have hl1:w1.heap[l]?=some (.loop (rec .ready)):=by rw[(t1.same l hlt hnl).1];exact hl0
 have hbr:=run_beginRound (P:=P) hl1 (by rw[hrec])
 have s2:=s1.putRec hl1 (hnc _) hnl (.loop {rec .ready with state:=.busy})
 have hlt1:l<w1.heap.size:=(dy.1 hl1).1
 refine⟨_,hbr,?_⟩
 have hx1:Sx w1:=hSt _ _ _ _ _ _ hnl hx t1 ⟨xs,hpre⟩
 refine wpIn_mono (hB n xs H' M1 _ a1 (bU.le_trans hle t1.le) hE' s2 hpre (hSx _ _ hx1) (by rw[World.putObj_size];exact hlt1)) ?_
 rintro e a3 w3 ⟨xe,E3,H3,M3,he,⟨rfl,hpost⟩,hE3,s3,t3,hd3⟩
 have hen:e=.normal:=by cases e<;>simp[eo]at he⊢
 subst hen
 have hsz2:(w1.putObj l (.loop {rec .ready with state:=.busy})).heap.size=w1.heap.size:=World.putObj_size
 have hl3:w3.heap[l]?=some (.loop {rec .ready with state:=.busy}):=by
  rw[(t3.same l (by rw[hsz2];exact hlt1) hnl).1];exact World.putObj_heap_same hlt1
 have hend:=run_endRound (P:=P) none hl3
 have hn3:H3.get l=none:=by
  cases h:H3.get l with
  |none=>rfl
  |some o=>
   rcases t3.fresh l (by rw[h];simp)with h'|h'
   ·exact absurd hnl h'
   ·rw[hsz2]at h';omega
 refine⟨_,_,hend,rfl,M3,H3,s3.putRec hl3 (fun a b c h=>by cases h) hn3 _,⟨bU.le_trans t1.le t3.le,?_,fun b hb hn=>?_,fun b hb=>?_,?_⟩,hpost⟩
 ·have:=t1.size;have:=t3.size;rw[hsz2]at this;rw[World.putObj_size];omega
 ·have hb1:b<w1.heap.size:=Nat.lt_of_lt_of_le hb t1.size
  obtain⟨e1,m1⟩:=t1.same b hb hn
  obtain⟨e3,m3⟩:=t3.same b (by rw[hsz2];exact hb1) hn
  refine⟨?_,fun o=>(m3 o).trans (m1 o)⟩
  by_cases hbl:b=l
  ·subst hbl
   rw[World.putObj_heap_same (dy.1 hl3).1,hl0,hrec]
   rfl
  ·rw[World.putObj_heap_other hbl,e3,World.putObj_heap_other hbl,e1]
 ·rcases t3.fresh b hb with h|h
  ·exact .inl h
  ·rw[hsz2]at h;exact .inr (bQ t1.size h)
 ·exact((t1.io.trans (wG _ _ _)).trans t3.io).trans (wG _ _ _)
end
section
variable {P:Program}
theorem wS{f:FuncId}(h:jl P f=true)(args:Array Value)(w:World):(callFunc f args).run P w=.ok (.enter f args) w:=by
 simp only[jl]at h
 split at h
 ·rename_i fn hfn
  simp only[a6,bne_iff_ne,ne_eq]at h
  obtain⟨hb,hnm⟩:=h
  have hbn':fn.body≠none:=by intro h;simp[h]at hb
  simp[callFunc,program,hfn,hnm,hbn',Sem.run,Result.andThen]
 ·simp at h
def ItC(P:Program)(gf:FuncId)(cap:List AC)(H:aj)(Sx:World->Prop)(Pre:Nat->List AC->aj->Prop)(lM:Nat->List AC->aj->aj->Prop)(K:aj->Prop):Prop:=
 ∀(l:Nat) (o:Obj) (M:bU) (w:World) (us:List Value),(∀a b c,o≠.cells a b c)->Sim M H w->w.heap[l]?=some o->H.get l=none->il M cap us->(∀M' H' w',bK M H w M' H' w'->Sx w')->
  (∀ro n xs H',Pre l xs H'->YC P ro n l xs M (fun w=>w.heap[l]?=some o/\Sx w) H' (lM l xs H'))->
  CallsIn Fence.wide 0 P gf (#[.func (.yield l) #[] #[]]++us.toArray) w fun e w'=>(∃v,e=.returned v)/\∃M' H',Sim M' H' w'/\bK M H w M' H' w'/\K H'
theorem Be{n m:Nat}{f:FuncId}{args:Array Value}{w:World}{R:Ending->World->Prop}(h:CallsIn Fence.wide n P f args w R):CallsIn Fence.wide m P f args w R:=
 callsIn_wide.2 (callsIn_wide.1 h)
theorem zE{N n:Nat}{g:Operand}{ps:List Nat}{assign body:Code}{a:Act}{w:World}{M:bU}{E:Env}{H:aj}{Q:Exit->Act->World->Prop}{gf:FuncId}{us:List Value}{cap:List AC}
(hE:cK N M E a)(s:Sim M H w)(hg:a.eval g=.func (.func gf) #[] us.toArray)(hgood:jl P gf=true)(hcap:il M cap us)
{Pre:Nat->List AC->aj->Prop}{lM:Nat->List AC->aj->aj->Prop}{K:aj->Prop}{Sx:World->Prop}(hit:ItC P gf cap H Sx Pre lM K)(hSx:∀M' H' w',bK M H w M' H' w'->Sx w')
(hround:∀l D fn,w.heap.size<=l->∀ro n xs H',Pre l xs H'->YC P ro n l xs M (fun w'=>w'.heap[l]?=some (.loop {state:=.ready,pending:=none,fn,tmps:=a.tmps,params:=ps.toArray,assign,body,defers:=D})/\Sx w') H' (lM l xs H'))
(hQ:∀D M' H' w4,w.heap.size<=D->K H'->Sim M' H' w4->bK M H w M' H' w4->H'.get D=none->w4.heap[D]?=some (.deferred (some []))->Q .normal {a with defers:={target:=.collected D,args:=#[]}::a.defers} w4):
 (Code.rangeFunc g ps.toArray assign body).wpIn Fence.wide n P Q a w:=by
 refine wpIn_rangeFunc ?_
 intro fn hfn
 show ∃l mark w₁ d w₁' f args w₂,(Instr.enterLoop fn a.tmps ps.toArray assign body none).run P w=.ok (l,mark) w₁/\_
 obtain⟨rec,hrec⟩:∃rec:LoopState->Loop,rec=fun st=>{state:=st,pending:=none,fn,tmps:=a.tmps,params:=ps.toArray,assign,body,defers:=w.heap.size}:=⟨_,rfl⟩
 obtain⟨W1,hW1⟩:∃W1,(w.alloc (.deferred (some []))).alloc (.loop (rec .ready))=W1:=⟨_,rfl⟩
 have hL1:W1.heap[w.heap.size+1]?=some (.loop (rec .ready)):=by
  rw[<-hW1];have:=World.alloc_heap_new (w.alloc (.deferred (some []))) (.loop (rec .ready));rwa[World.size_alloc]at this
 have hold:∀b,b<w.heap.size->W1.heap[b]?=w.heap[b]?:=fun b hb=>by
  rw[<-hW1]
  show((w.heap.push _).push _)[b]?=_
  rw[Array.getElem?_push_lt (by simp;omega),Array.getElem_push_lt hb,dI hb]
 have hK1:W1.heap[w.heap.size]?=some (.deferred (some [])):=by
  rw[<-hW1]
  show((w.heap.push _).push _)[w.heap.size]?=_
  rw[Array.getElem?_push_lt (by simp),Array.getElem_push_eq]
 have hsz:W1.heap.size=w.heap.size+2:=by rw[<-hW1];simp
 have hn0:H.get w.heap.size=none:=s.free (aC _)
 have hn1:H.get (w.heap.size+1)=none:=s.free (by omega)
 have s1:Sim M H W1:=by
  refine⟨fun b o v hm=>?_,fun b o hb=>?_⟩
  ·have hb:=s.mem_lt hm
   have:=s.mem b o v hm
   rw[eZ]at this⊢
   rw[hold b hb];exact this
  ·have hlt:=s.lt hb
   have:=s.obj b o hb
   cases o<;>simp only[iQ,hold b hlt]at this⊢<;>exact this
 have t1:bK M H w M H W1:=⟨bU.le_refl _,by omega,fun b hb _=>⟨hold b hb,fun _=>rfl⟩,fun b hb=>.inl hb,by rw[<-hW1];exact⟨rfl,rfl⟩⟩
 have eg:=wS hgood
 refine⟨w.heap.size+1,[{target:=.collected w.heap.size,args:=#[]}],W1,{target:=.fn (.func gf) us.toArray,args:=#[.func (.yield (w.heap.size+1)) #[] #[]]},W1,gf,
  #[.func (.yield (w.heap.size+1)) #[] #[]]++us.toArray,W1,?_,?_,?_,?_,fun h=>by simp[Fence.wide]at h,?_⟩
 ·rw[<-hW1,hrec];exact run_enterLoop_outer _ _ _ _ _
 ·simp only[resolve,hg]
  simp[go_sem]
 ·intro f' hf';trivial
 ·simp[invoke,go_sem,eg]
 ·have hc:=hit (w.heap.size+1) (.loop (rec .ready)) M W1 us (fun a b c h=>by cases h) s1 hL1 hn1 hcap (fun M' H' w' t=>hSx _ _ _ (t1.trans t)) (by rw[hrec];exact hround (w.heap.size+1) w.heap.size fn (by omega))
  refine(Be (m:=n - 1) hc).mono ?_
  rintro e W2 ⟨⟨v,rfl⟩,M2,H2,s2,t2,hK⟩
  have hl2:W2.heap[w.heap.size+1]?=some (.loop (rec .ready)):=by rw[(t2.same _ (by omega) hn1).1];exact hL1
  have hd2:W2.heap[w.heap.size]?=some (.deferred (some [])):=by rw[(t2.same _ (by omega) hn0).1];exact hK1
  have hend:=run_endLoop (P:=P) hl2 (by rw[hrec];simp)
  have hnew:∀b,b<W1.heap.size->H.get b=none->H2.get b=none:=fun b hb hn=>by
   cases h:H2.get b with
   |none=>rfl
   |some o=>
    rcases t2.fresh b (by rw[h];simp)with h'|h'
    ·exact absurd hn h'
    ·omega
  refine⟨none,_,by rw[hend,hrec],?_⟩
  refine hQ w.heap.size M2 H2 _ (aC _) hK (s2.putRec hl2 (fun a b c h=>by cases h) (hnew _ (by omega) hn1) _) ?_ (hnew _ (by omega) hn0) ?_
  ·have t:=t1.trans t2
   refine⟨t.le,by rw[World.putObj_size];exact t.size,fun b hb hn=>?_,t.fresh,t.io.trans (wG _ _ _)⟩
   rw[World.putObj_heap_other (by omega)]
   exact t.same b hb hn
  ·rw[World.putObj_heap_other (by omega)];exact hd2
end
section
variable {P:Program}
theorem pH{N n:Nat}{c y:Code}{xc:aY}(h:eW P N c=some xc)(hok:iw P c xc=true){K:Env->aj->Prop}{M:bU}{E:Env}{H:aj}{a:Act}{w:World}{Q:Exit->Act->World->Prop}
(hE:cK N M E a)(s:Sim M H w)(hw:xc.wp P (fun ex E' H'=>ex=.normal/\K E' H') E H)
(hy:∀E' H' M' a' w',K E' H'->cK N M' E' a'->Sim M' H' w'->bK M H w M' H' w'->a'.defers=a.defers->y.wpIn Fence.wide n P Q a' w'):(Code.seq c y).wpIn Fence.wide n P Q a w:=by
 refine wpIn_seq (wpIn_mono (wpIn_wide.2 (aY.sound c h hok hE s hw)) ?_)
 rintro e a' w' ⟨xe,E',H',M',he,⟨rfl,hK⟩,hE',s',t',hd⟩
 cases e<;>simp[eo]at he
 exact hy E' H' M' a' w' hK hE' s' t' hd
theorem s9{n:Nat}{fn:Func}{R:Ending->World->Prop}{a:Act}{w:World}{D:Nat}(hd:a.defers=[{target:=.collected D,args:=#[]}])(hD:w.heap[D]?=some (.deferred (some [])))
{v:Value}(hv:(results fn a.tmps).run P (w.putObj D (.deferred none))=.ok v (w.putObj D (.deferred none)))(hR:R (.returned v) (w.putObj D (.deferred none))):LeavesInM Fence.wide n P fn a.tmps R a.defers .returning w:=by
 rw[hd]
 refine⟨by simp,.inl ⟨_,_,rfl,run_takeDeferred hD,?_⟩⟩
 exact⟨_,hv,hR⟩
theorem cL{N i:Nat}{o:Array Oper}{xc:aY}(h:dm P N o false=some xc):eW P N (.region i o false)=some xc/\iw P (.region i o false) xc=true:=⟨h,rfl⟩
def x_as0:aY:=rg [ef 0 2 (.box 0),mv 1 4 (.const (.slice none 0 0))]
def x_as1:aY:=rg [mv 0 6 1]
def x_as2:aY:=rg [mv 0 5 7]
def BA:aY:=rg [ld 0 8 none 2,mv 1 9 5,⟨2,some 10,none,.lits 1 1 [.string (bl [])] [(0,(1,9))],[]⟩,ef 3 11 (.appendM 1 16 8 10),en 4 (.store 1 2 11)]
def x_as4:aY:=rg [ld 0 12 none 2,mv 1 4 12]
def oe(P:Program)(f:FuncId):Prop:=∃fn i0 i1 i2 i3 i4 b0 b1 o0 o1 o2 o3 o4,P.funcs[f]?=some fn/\fn.ntmps=13/\fn.results=#[.tmp 4]/\
 fn.body=some (.seq (.region i0 o0 false) (.seq (.seq (.region i1 o1 false) (.block b0 (.rangeFunc (.tmp 6) #[7] (.region i2 o2 false) (.block b1 (.region i3 o3 false))))) (.seq (.region i4 o4 false) .ret)))/\
 dm P 13 o0 false=some x_as0/\dm P 13 o1 false=some x_as1/\dm P 13 o2 false=some x_as2/\dm P 13 o3 false=some BA/\dm P 13 o4 false=some x_as4
def DF(B:Nat)(l:Nat)(xs:List AC)(H:aj):Prop:=H.get l=none/\l≠B/\∃n ss x,xs=[S n]/\H.get B=some (.cells [x])/\bL H 1 (aD ss) x/\ss.length<=2^30
def pz(B:Nat)(l:Nat)(xs:List AC)(H H':aj):Prop:=∀n ss x,xs=[S n]->H.get B=some (.cells [x])->bL H 1 (aD ss) x->
 ∃x',H'.get B=some (.cells [x'])/\bL H' 1 (aD (ss++[n])) x'/\(∀d o,H.get d=some o->d≠B->¬co x d->H'.get d=some o)/\∀d,co x' d->co x d\/H.get d=none
def AsEnd(B:Nat)(L:List ByteArray)(H H':aj):Prop:=∃x',H'.get B=some (.cells [x'])/\bL H' 1 (aD L) x'/\∀d o,H.get d=some o->d≠B->H'.get d=some o
theorem uX{a b:List ByteArray}(h:aD a=aD b):a=b:=by
 induction a generalizing b with
 |nil=>cases b with
  |nil=>rfl
  |cons y b=>simp[aD]at h
 |cons x a ih=>
  cases b with
  |nil=>simp[aD]at h
  |cons y b=>
   simp only[aD,aR,List.cons.injEq,AC.lit.injEq,Value.string.injEq,and_true]at h
   rw[h.1,ih h.2]
theorem bL.rows_eq{H:aj}{sz:Nat}{es es':List (List AC)}{x:AC}(h:bL H sz es x)(h':bL H sz es' x):es=es':=by
 rcases h with⟨rfl,hx⟩|⟨b,n,m,hx,-⟩
 ·rcases h' with⟨rfl,-⟩|⟨b,n,m,hx',-⟩
  ·rfl
  ·rw[hx]at hx';simp at hx'
 ·rcases h' with⟨rfl,hx'⟩|⟨b,n,m,hx',-⟩
  ·rw[hx]at hx';simp at hx'
  ·rw[hx]at hx';simp at hx';exact hx'.2
theorem nJ{N:Nat}{M:bU}{xs:List AC}{vs:List Value}(hr:il M xs vs)(hlen:xs.length<=N):cK N M (mw xs) {tmps:=vs.toArray++fX (N - vs.toArray.size) undef,defers:=[]}:=by
 have hlv:=hr.1
 refine⟨by simp;omega,fun n=>?_⟩
 simp only[mw]
 by_cases c:n<xs.length
 ·have c':n<vs.length:=hr.1▸c
  rw[ay c]
  have:(vs.toArray++fX (N - vs.toArray.size) undef).getD n undef=vs[n]:=by
   rw[iC,lv (by simpa using c')];simp[c']
  rw[this]
  exact hr.2 n _ _ (ay c) (ay c')
 ·rw[gv (by omega)]
  have:(vs.toArray++fX (N - vs.toArray.size) undef).getD n undef=undef:=by
   rw[iC,Array.getElem?_append_right (by simp;omega),Array.getElem?_replicate]
   split<;>rfl
  rw[this]
  exact .tup rfl (by simp)
theorem YC.side{ro:Option Nat}{n l:Nat}{xs:List AC}{M:bU}{Sd Sd':World->Prop}{H:aj}{R:aj->Prop}(h:YC P ro n l xs M Sd H R)(hs:∀w,Sd' w->Sd w):YC P ro n l xs M Sd' H R:=
 fun M' w' vs h1 h2 h3 h4=>h M' w' vs h1 h2 (hs _ h3) h4
theorem Ce{M:bU}{f:FuncId}{cap:List AC}{v:Value}(h:Rep M (.fn (.func f) [] cap) v):∃us:List Value,v=.func (.func f) #[] us.toArray/\il M cap us:=by
 cases h with
 |@fn _ _ _ vs us h1 h2 h3 h4=>
  have:vs=#[]:=by apply Array.eq_empty_of_size_eq_zero;simpa using h1.symm
  subst this
  exact⟨us.toList,by simp,by simpa using h3,fun j x v hx hv=>h4 j x v hx (by simpa using hv)⟩
theorem as_body{E:Env}{H:aj}{B:Nat}{n:ByteArray}{ss:List ByteArray}{x:AC}(e2:E 2=.ptr B 0)(e5:E 5=S n)(hB:H.get B=some (.cells [x]))(hx:bL H 1 (aD ss) x)(hl:ss.length<=2^30){K:Env->aj->Prop}
(h:∀E' H' x',H'.get B=some (.cells [x'])->bL H' 1 (aD (ss++[n])) x'->(∀d o,H.get d=some o->d≠B->¬co x d->H'.get d=some o)->(∀d,co x' d->co x d\/H.get d=none)->K E' H'):
 BA.wp P (fun e E' H'=>e=.normal/\K E' H') E H:=by
 simp only[BA,go_sem,rE,rA,e2,e5,hB,ax,aq,aw,a7]
 refine dN (es:=aD ss) (ys:=[[S n]]) (by simp only[go_sem,rE,rA];exact hx) (by simp[go_sem,aZ]) (by simp) (by simp[aD];omega) ?_
 intro x' H2 fp hx' hfp hkeep hnew
 simp only[go_sem,rE,rA]at hkeep hnew
 have hBt:¬co x B:=fun ht=>by obtain⟨n,m,e⟩:=hx.tok ht;rw[hB]at e;simp at e
 have hB2:H2.get B=some (.cells [x]):=by rw[hkeep B (by rw[hB];simp) hBt];exact hB
 simp only[go_sem,rE,rA,e2,hB2,hx'.one]
 have hrow:aD (ss++[n])=aD ss++[[S n]]:=by simp[aD]
 refine h _ _ x' (ai _ _ _) ?_ (fun d o hd hdB hdt=>?_) hnew
 ·rw[hrow]
  refine hx'.mono fun b hb=>ae _ _ ?_
  rintro rfl
  obtain⟨n,m,e⟩:=hx'.tok hb
  rw[hB2]at e;simp at e
 ·rw[ae _ _ hdB,hkeep d (by rw[hd];simp) hdt];exact hd
theorem vq{f:FuncId}(hA:oe P f){gf:FuncId}{cap:List AC}(hgood:jl P gf=true)(L:List ByteArray)(H:aj)
(hit:∀B,H.get B=none->ItC P gf cap (H.set B (.cells [NIL])) (fun _=>True) (DF B) (pz B) (AsEnd B L (H.set B (.cells [NIL])))):
 ACalls P f [NIL,.fn (.func gf) [] cap] H fun q H'=>q=.sl 1 none (aD L)/\H'=H:=by
 obtain⟨fn,i0,i1,i2,i3,i4,b0,b1,o0,o1,o2,o3,o4,hf,hN,hres,hb,r0,r1,r2,r3,r4⟩:=hA
 intro M w vs s hr
 refine(callsIn_wide (n:=0)).1 (callsIn_of_wp_marks hf hb trivial ?_ rfl)
 rw[hN]
 have hE:=nJ (N:=13) hr (by simp)
 refine pH (cL r0).1 (cL r0).2 hE s (K:=fun E' H'=>∃B,H.get B=none/\E' 2=.ptr B 0/\E' 1=.fn (.func gf) [] cap/\H'=H.set B (.cells [NIL])) ?_ ?_
 ·simp only[x_as0,go_sem,rE,rA]
  intro B hB
  exact⟨B,hB,rfl,rfl⟩
 rintro E1 H1 M1 a1 w1 ⟨B,hB,e2,e1,rfl⟩ hE1 s1 t1 hd1
 refine wpIn_seq (pH (cL r1).1 (cL r1).2 hE1 s1 (K:=fun E' H'=>E' 2=.ptr B 0/\E' 6=.fn (.func gf) [] cap/\H'=H.set B (.cells [NIL])) ?_ ?_)
 ·simp only[x_as1,go_sem,rE,rA,e2,e1,and_self]
 rintro E2 H2 M2 a2 w2 ⟨f2,f6,rfl⟩ hE2 s2 t2 hd2
 refine wpIn_block ?_
 have hrep:=hE2.rep 6
 rw[f6]at hrep
 obtain⟨us,hus,hcap⟩:=Ce hrep
 have hE2':cK 13 M2 E2 {tmps:=a2.tmps,defers:=[]}:=⟨hE2.size,hE2.rep⟩
 refine zE (ps:=[7]) (us:=us) (cap:=cap) hE2 s2 (by simpa[Act.eval]using hus) hgood hcap (hit B hB) (Sx:=fun _=>True) (fun _ _ _ _=>trivial) ?_ ?_
 ·intro l D fid hl ro n xs H' hpre
  refine(rH (Sx:=fun _=>True) (Pre:=DF B l) (lM:=pz B l) (EA:=fun xs=>(E2.puts [7] xs).put (some 5) ((E2.puts [7] xs) 7)) hE2' (by simp) (fun _ _ _=>trivial) (fun _ _ _ _ _ _ _ _ _ _=>trivial) ?_ ?_ ?_ ro n xs H' hpre)
  ·rintro xs H ⟨h1,-,n,ss,x,rfl,-⟩
   exact⟨rfl,h1⟩
  ·intro n xs H M1 w1 a1 hle hE s hp
   refine nB r2 hE s ?_
   simp only[x_as2,go_sem,rE,rA,and_self]
  ·rintro n xs H M1 w1 a1 hle hE s ⟨h1,hlB,nm,ss,x,rfl,hBx,hx,hss⟩ - -
   refine wpIn_block (wpIn_mono (nB r3 hE s (K:=fun e E' H'=>e=.normal/\pz B l [S nm] H H') ?_) ?_)
   ·refine as_body (n:=nm) (ss:=ss) (x:=x) ?_ ?_ hBx hx hss ?_
    ·simp only[Env.puts,go_sem,rE];exact f2
    ·simp only[Env.puts,go_sem,rE]
    ·intro E' H' x' g1 g2 g3 g4 n2 ss2 x2 hn2 hB2 hx2
     simp only[List.cons.injEq,AC.lit.injEq,Value.string.injEq,and_true]at hn2
     subst hn2
     rw[hBx]at hB2
     simp at hB2
     subst hB2
     have:=uX (hx.rows_eq hx2)
     subst this
     exact⟨x',g1,g2,g3,g4⟩
   ·rintro e a' w' ⟨xe,E',H',M',he,⟨rfl,hP⟩,h1,h2,h3,h4⟩
    cases e<;>simp[eo]at he
    exact⟨.normal,E',H',M',rfl,⟨rfl,hP⟩,h1,h2,h3,h4⟩
 ·intro D M3 H3 w3 hD ⟨x',hBx,hx',hkeep⟩ s3 t3 hDn hDr
  have hE3:cK 13 M3 E2 {a2 with defers:={target:=.collected D,args:=#[]}::a2.defers}:=⟨hE2.size,fun n=>(hE2.rep n).mono t3.le⟩
  refine pH (cL r4).1 (cL r4).2 hE3 s3 (K:=fun E' H'=>E' 4=x'/\H'=H3) ?_ ?_
  ·simp only[x_as4,go_sem,rE,rA,f2,hBx,a7,and_self]
  rintro E4 H4 M4 a4 w4 ⟨e4,rfl⟩ hE4 s4 t4 hd4
  refine wpIn_ret ?_
  have hDw4:w4.heap[D]?=some (.deferred (some [])):=by rw[(t4.same D (dy.1 hDr).1 hDn).1];exact hDr
  have s5:=s4.putRec hDw4 (fun a b c h=>by cases h) hDn (.deferred none)
  obtain⟨v,hv,hrv⟩:=jR (P:=P) (fn:=fn) (rs:=[.slot 4]) (by rw[hres];rfl) hE4 s5 (q:=E4 4) rfl
  have hdef:a4.defers=[{target:=.collected D,args:=#[]}]:=by rw[hd4];simp only[hd2,hd1]
  refine s9 (a:=a4) hdef hDw4 hv ?_
  have t13:bK M H w M4 H4 w4:=(((t1.trans t2).trans t3).trans t4)
  have hsub:H.sub H4:=fun b o hb'=>by
   have hbB:b≠B:=by rintro rfl;rw[hB]at hb';simp at hb'
   exact hkeep b o (by rw[ae _ _ hbB];exact hb') hbB
  refine⟨.sl 1 none (aD L),v,M4,H,rfl,?_,s5.sub hsub,?_,rfl,rfl⟩
  ·rw[e4]at hrv
   exact hx'.le _ _ hrv
  ·have t:=t13.weaken hsub
   refine⟨t.le,by rw[World.putObj_size];exact t.size,fun b hb' hn=>?_,t.fresh,t.io.trans (wG _ _ _)⟩
   have:w.heap.size<=w2.heap.size:=(t1.trans t2).size
   rw[World.putObj_heap_other (by omega)]
   exact t.same b hb' hn
end
section
variable {P:Program}
def B9:aY:=rg [ld 0 4 none 1,pu 1 5 (.lenSl 4),pu 2 6 (.bin .sub 5 (ci 1)),mv 3 3 6]
def x_bk1:aY:=rg [mv 0 7 3,pu 1 8 (.bin .geq 7 (ci 0))]
def x_bk2:aY:=rg [mv 0 9 3,pu 1 10 (.bin .sub 9 (ci 1)),mv 2 3 10]
def x_bk3:aY:=rg ([mv 0 11 0,mv 1 12 3,ld 2 13 none 1,mv 3 14 3,ia 4 15 1 13 14,ld 5 16 none 15]++ef 6 17 (.callX .clos [11,12,16])::[pu 7 18 (.not 17)])
def mO(P:Program)(f:FuncId):Prop:=∃fn i0 i1 i2 i3 b0 b1 o0 o1 o2 o3,P.funcs[f]?=some fn/\fn.ntmps=19/\fn.results=#[]/\
 fn.body=some (.seq (.region i0 o0 false) (.block b0 (.loop (.seq (.seq (.region i1 o1 false) (.cond (.tmp 8) .skip (.exit b0))) (.seq (.block b1 (.seq (.region i3 o3 false) (.cond (.tmp 18) .ret .skip))) (.region i2 o2 false))))))/\
 dm P 19 o0 false=some B9/\dm P 19 o1 false=some x_bk1/\dm P 19 o2 false=some x_bk2/\dm P 19 o3 false=some x_bk3
theorem YC.later{ro:Option Nat}{n l:Nat}{xs:List AC}{M M':bU}{Sd:World->Prop}{H:aj}{R:aj->Prop}(h:YC P ro n l xs M Sd H R)(hm:M.le M'):YC P ro n l xs M' Sd H R:=
 fun M2 w' vs h1 h2 h3 h4=>h M2 w' vs (bU.le_trans hm h1) h2 h3 h4
def iv:Value->Int|.int _ i=>i|_=>0
theorem xw{f:FuncId}(hB:mO P f){bs:Nat}{x:AC}{L:List ByteArray}{H:aj}{Sx:World->Prop}(hx:bL H 1 (aD L) x)(hL:L.length<=2^30){Pre:Nat->List AC->aj->Prop}{lM:Nat->List AC->aj->aj->Prop}
{J:Nat->List ByteArray->aj->Prop}(h0:∀l,H.get l=none->J l [] H)(hJx:∀l pre H',J l pre H'->H'.get bs=some (.cells [x]))(hPre:∀l pre n i H',J l pre H'->pre.length<L.length->Pre l [I i,S n] H')(hPost:∀l pre n i H' H'',J l pre H'->pre.length<L.length->lM l [I i,S n] H' H''->J l (pre++[n]) H'')
(hl:∀l pre H',J l pre H'->H'.get l=none):ItC P f [.ptr bs 0] H Sx Pre lM (fun H'=>∃l,J l L.reverse H'):=by
 obtain⟨fn,i0,i1,i2,i3,b0,b1,o0,o1,o2,o3,hf,hN,hres,hb,r0,r1,r2,r3⟩:=hB
 intro l o M w us hnc s hlo hln hcap hSx hY
 refine callsIn_of_wp_marks hf hb trivial ?_ rfl
 rw[hN]
 have hr:il M [.lit (.func (.yield l) #[] #[]),.ptr bs 0] ((#[.func (.yield l) #[] #[]]++us.toArray:Array Value).toList):=by
  refine⟨by simp[<-hcap.1],fun j y v hy hv=>?_⟩
  match j,hy,hv with
  |0,hy,hv=>simp at hy hv;subst hy hv;exact .lit trivial
  |1,hy,hv=>simp at hy;subst hy;exact hcap.2 0 _ _ rfl (by simpa using hv)
  |j+2,hy,hv=>simp at hy
 have hE:=nJ (N:=19) hr (by simp)
 simp only[Array.toArray_toList]at hE
 have hrows:x=NIL/\L=[]\/∃tok,x=.sl 1 tok (aD L):=by
  rcases hx with⟨e1,e2⟩|⟨b,n,m,e,-⟩
  ·refine .inl ⟨e2,?_⟩
   cases L with
   |nil=>rfl
   |cons a l=>simp[aD]at e1
  ·exact .inr ⟨_,e⟩
 have hlen:(aD L).length=L.length:=by simp[aD]
 have hJ0:=h0 l hln
 refine pH (cL r0).1 (cL r0).2 hE s (K:=fun E' H'=>E' 0=.lit (.func (.yield l) #[] #[])/\E' 1=.ptr bs 0/\E' 3=I ((L.length:Int) - 1)/\H'=H) ?_ ?_
 ·have g:=hJx l [] H hJ0
  have w1:=aI (n:=(L.length:Int) - 1) (by omega) (by omega)
  rcases hrows with⟨rfl,rfl⟩|⟨tok,rfl⟩
  ·simp only[B9,go_sem,rE,rA,g,a7]
   rfl
  ·simp only[B9,go_sem,rE,rA,g,a7,hlen,w1]
 rintro E1 H1 M1 a1 w1 ⟨e0,e1,e3,rfl⟩ hE1 s1 t1 hd1
 have hSd:∀{M' H' w'},bK M H1 w M' H' w'->w'.heap[l]?=some o/\Sx w':=fun t=>⟨by rw[(t.same l (dy.1 hlo).1 hln).1];exact hlo,hSx _ _ _ t⟩
 refine wpIn_block (wpIn_loop (fun a' w'=>∃k E' H' M',k<=L.length/\E' 0=.lit (.func (.yield l) #[] #[])/\E' 1=.ptr bs 0/\E' 3=I ((k:Int) - 1)/\J l (L.drop k).reverse H'/\cK 19 M' E' a'/\Sim M' H' w'/\bK M H1 w M' H' w'/\a'.defers=[])
  (fun a' _=>(iv (a'.tmps.getD 3 undef)+1).toNat) ⟨L.length,E1,H1,M1,aC _,e0,e1,e3,by rw[ly];exact hJ0,hE1,s1,t1,hd1⟩ ?_)
 have hle:=t1.le
 have t1':=t1
 clear hE1 s1 t1 hd1 e0 e1 e3
 rintro a2 w2 ⟨k,E2,H2,M2,hk,e0,e1,e3,hJ,hE2,s2,t2,hd2⟩
 have hmu:(iv (a2.tmps.getD 3 undef)+1).toNat=k:=by
  have:=hE2.rep 3
  rw[e3]at this
  rw[lA this]
  simp[iv]
 rw[hmu]
 have g:=hJx l _ H2 hJ
 refine wpIn_seq (wpIn_seq (wpIn_mono (nB (ro:=none) r1 hE2 s2 (K:=fun e E' H'=>e=.normal/\E' 0=.lit (.func (.yield l) #[] #[])/\E' 1=.ptr bs 0/\E' 3=I ((k:Int) - 1)/\E' 8=B (decide (0<k))/\H'=H2) ?_) ?_))
 ·simp only[x_bk1,go_sem,rE,rA,e0,e1,e3]
  have:decide ((k:Int) - 1>=0)=decide (0<k):=by
   rw[bj,decide_eq_true_eq,decide_eq_true_eq];omega
  simp[this]
  omega
 rintro e a3 w3 ⟨xe,E3,H3,M3,he,⟨rfl,f0,f1,f3,f8,rfl⟩,hE3,s3,t3,hd3⟩
 cases e<;>simp[eo]at he
 have hr8:=hE3.rep 8
 rw[f8]at hr8
 have hev:a3.eval (.tmp 8)=.bool (decide (0<k)):=by rw[<-lA hr8];rfl
 by_cases hk0:0<k
 ·refine wpIn_cond_true (by rw[hev];simp[hk0]) (wpIn_skip ?_)
  obtain⟨k,rfl⟩:∃j,k=j+1:=⟨k - 1,by omega⟩
  have hkl:k<L.length:=by omega
  rcases hrows with⟨-,rfl⟩|⟨tok,rfl⟩
  ·simp at hkl
  have hget:(aD L)[k]?=some [S L[k]]:=by simp[aD,hkl]
  have hkk:(((k+1:Nat):Int) - 1)=(k:Int):=by omega
  rw[hkk]at f3
  have hplen:(L.drop (k+1)).reverse.length<L.length:=by rw[List.length_reverse,fE];omega
  have hYC:=hY none 0 [I k,S L[k]] H3 (hPre l _ L[k] k H3 hJ hplen)
  refine wpIn_seq (wpIn_block (wpIn_seq (wpIn_mono (we (ro:=none) (Sd:=fun w=>w.heap[l]?=some o/\Sx w) (K:=fun e E' H'=>e=.normal/\E' 0=.lit (.func (.yield l) #[] #[])/\E' 1=.ptr bs 0/\E' 3=I k/\E' 18=B false/\lM l [I k,S L[k]] H3 H') r3 hE3 s3 (by simp) (fun M' H' w' t=>hSd ((t2.trans t3).trans t)) ?_) ?_)))
  ·simp only[go_sem,rE,rA,f0,f1,f3,g,hget,a7]
   exact⟨l,[I k,S L[k]],_,rfl,hYC.later (t2.trans t3).le,fun _ h=>h⟩
  rintro e a4 w4 ⟨xe,E4,H4,M4,he,⟨rfl,q0,q1,q3,q18,hpost⟩,hE4,s4,t4,hd4⟩
  cases e<;>simp[eo]at he
  have hr18:=hE4.rep 18
  rw[q18]at hr18
  refine wpIn_cond_false (by rw[<-lA hr18];rfl) (wpIn_skip ?_)
  refine wpIn_mono (nB (ro:=none) r2 hE4 s4 (K:=fun e E' H'=>e=.normal/\E' 0=.lit (.func (.yield l) #[] #[])/\E' 1=.ptr bs 0/\E' 3=I ((k:Int) - 1)/\H'=H4) ?_) ?_
  ·have w1:=aI (n:=(k:Int) - 1) (by omega) (by omega)
   simp only[x_bk2,go_sem,rE,rA,q0,q1,q3,w1,and_self]
  rintro e a5 w5 ⟨xe,E5,H5,M5,he,⟨rfl,p0,p1,p3,rfl⟩,hE5,s5,t5,hd5⟩
  cases e<;>simp[eo]at he
  have hdrop:(L.drop (k+1)).reverse++[L[k]]=(L.drop k).reverse:=by rw[bT hkl,List.reverse_cons]
  refine⟨⟨k,E5,H5,M5,by omega,p0,p1,p3,?_,hE5,s5,(((t2.trans t3).trans t4).trans t5),?_⟩,?_⟩
  ·rw[<-hdrop];exact hPost l _ _ _ _ _ hJ hplen hpost
  ·rw[hd5,hd4,hd3,hd2]
  ·have:=hE5.rep 3
   rw[p3]at this
   rw[lA this]
   simp[iv]
 ·refine wpIn_cond_false (by rw[hev];simp[hk0]) (wpIn_exit ?_)
  have:k=0:=by omega
  subst this
  simp only[Exit.then,Exit.inBlock,if_true]
  obtain⟨v,hv,hrv⟩:=jR (P:=P) (fn:=fn) (rs:=[]) (by rw[hres];rfl) hE3 s3 (q:=.tup []) rfl
  have hdef:a3.defers=[]:=by rw[hd3,hd2]
  show LeavesInM _ _ _ _ _ _ a3.defers .returning w3
  rw[hdef]
  refine⟨v,hv,⟨v,rfl⟩,M3,H3,s3,t2.trans t3,l,?_⟩
  rw[fT]at hJ
  exact hJ
end
theorem qX(ns:List ByteArray)(n:ByteArray):nj (cX ns) n (I 1)=cX (n::ns):=by
 funext k
 by_cases hk:k=n
 ·subst hk;rw[jp];simp[cX,dx]
 ·rw[l4 _ _ hk]
  have:eqB n k=false:=cq.2 (Ne.symm hk)
  simp[cX,this]
theorem yC(ns:List ByteArray)(n:ByteArray):cX (n::n::ns)=cX (n::ns):=by
 funext k
 simp only[cX,List.any_cons]
 by_cases h:eqB n k=true<;>simp[h]
theorem s8(ns:List ByteArray)(n:ByteArray):ja (.lit (.int .i64 0)) false (cX ns n)=I (if ns.any (fun m=>eqB m n)then 1 else 0):=by
 unfold cX
 cases ns.any fun m=>eqB m n<;>simp[ja]
def ken1(F:Ids):aY:=.loop (.seq (rg [pu 0 41 (.bin .lss 40 39)]) (.seq (.cond 41 .skip (.exit 2)) (.seq (.block 3 (.seq (rg [ia 0 42 2 38 40,ld 1 43 (some 2) 42,ef 2 10 (.alloc [.string (bl []),.slice none 0 0]),en 3 (.store 2 10 43)]) (.seq (rg [ld 0 44 (some 2) 10,ld 1 45 (some 2) 2,ca 2 46 33 [44,45],mv 3 47 46,gp 4 48 47 false (.move 4),gp 5 49 47 false (.fieldAddr 0 10),gl 6 50 47 false none 49,⟨7,some 51,some (47,false),.eff (.callX (.lookup (.lit (.int .i64 0)) false) [48,50]),[]⟩,gp 8 52 47 false (.bin .gtr 51 (ci 0)),pu 9 53 (.pick 47 ct 52)]) (.cond 53 (rg [mv 0 54 4,mv 1 55 7,en 2 (.callX .mapSet [54,55,ci 1])]) .skip)))) (rg [pu 0 56 (.bin .add 40 (ci 1)),mv 1 40 56]))))
def vM(F:Ids):aY:=.seq (rg [ld 0 14 none 1,nc 1 15 14,fa 2 16 1 15,ld 3 17 none 16,pu 4 18 (.lenSl 17),mv 5 19 (ci 0)]) (.block 0 (.loop (.seq (rg [pu 0 20 (.bin .lss 19 18)]) (.seq (.cond 20 .skip (.exit 0)) (.seq (.block 1 (.seq (rg [ia 0 21 1 17 19,ld 1 22 none 21,mv 2 7 22]) (.seq (rg [ld 0 23 none 1,nc 1 24 23,fa 2 25 2 24,ld 3 26 none 25,mv 4 27 7,ef 5 28 (.callX (.lookup (.agg [.lit (.slice none 0 0),.lit (.bool false),.lit (.bool false),.lit (.bool false),.lit (.bool false),.lit (.slice none 0 0)]) false) [26,27]),ef 6 8 (.alloc [.slice none 0 0,.bool false,.bool false,.bool false,.bool false,.slice none 0 0]),en 7 (.store 6 8 28)]) (.seq (.seq (rg [fa 0 29 3 8,ld 1 30 none 29,pu 2 31 (.not 30),mv 3 32 31,gp 4 33 32 false (.fieldAddr 2 8),gl 5 34 32 false none 33,gp 6 35 32 false (.not 34),pu 7 36 (.pick 32 ct 35)]) (.cond 36 (.exit 1) .skip)) (.seq (.seq (rg [fa 0 37 5 8,ld 1 38 none 37,pu 2 39 (.lenSl 38),mv 3 40 (ci 0)]) (.block 2 (ken1 F))) (.seq (rg [mv 0 57 4,mv 1 58 7,ef 2 59 (.callX (.lookup (.lit (.int .i64 0)) false) [57,58]),pu 3 60 (.bin .gtr 59 (ci 0))]) (.cond 60 (rg [mv 0 61 5,mv 1 62 7,⟨2,some 63,none,.lits 1 1 [.string (bl [])] [(0,(1,62))],[]⟩,ef 3 64 (.appendM 1 16 61 63),mv 4 5 64]) .skip))))))) (rg [pu 0 65 (.bin .add 19 (ci 1)),mv 1 19 65]))))))
section
variable {P:Program}{F:Ids}{er:bV}
noncomputable def lh(p:Pl)(Es:List ByteArray)(qs:List Pl):Bool:=qs.any fun q=>q.meet p||Es.any fun m=>eqB m q.name
theorem ken1_wp(L:Lib P F){K:cZ->Env->aj->Prop}{E:Env}{H:aj}{p:Pl}{qs:List Pl}{nm:ByteArray}{Es:List ByteArray}{mo c:Nat}(hp:p.path.length<=2^30)(hq:∀q∈qs,q.path.length<=2^30)(hql:qs.length<=2^30)
(e2:E 2=.ptr c 0)(e4:E 4=.mp mo)(e7:E 7=S nm)(e38:E 38=.sl 2 none (qs.map Pl.enc))(e39:E 39=I qs.length)(e40:E 40=I 0)(gc:H.get c=some (.cells [S p.name,au p.path]))(gm:H.get mo=some (.map (cX Es)))
(hK:∀E' H',E' 0=E 0->E' 1=E 1->E' 2=E 2->E' 3=E 3->E' 4=E 4->E' 5=E 5->E' 7=E 7->E' 17=E 17->E' 18=E 18->E' 19=E 19->H'.get mo=some (.map (cX (if lh p Es qs then nm::Es else Es)))->
  (∀d o,H.get d=some o->d≠mo->H'.get d=some o)->K (.exit 2) E' H'):(ken1 F).wp P K E H:=by
 unfold ken1
 have dcm:c≠mo:=by rintro rfl;rw[gc]at gm;simp at gm
 refine aS qs.length (fun j E' H'=>(E' 0=E 0/\E' 1=E 1/\E' 2=.ptr c 0/\E' 3=E 3/\E' 4=.mp mo/\E' 5=E 5/\E' 7=S nm/\E' 17=E 17/\E' 18=E 18/\E' 19=E 19)/\E' 38=.sl 2 none (qs.map Pl.enc)/\E' 39=I qs.length/\E' 40=I j/\
  H'.get mo=some (.map (cX (if lh p Es (qs.take j)then nm::Es else Es)))/\∀d o,H.get d=some o->d≠mo->H'.get d=some o)
  ⟨⟨rfl,rfl,e2,rfl,e4,rfl,e7,rfl,rfl,rfl⟩,e38,e39,e40,by simp only[List.take_zero,lh,List.any_nil,av,if_false];exact gm,fun _ _ h _=>h⟩ ?_
 rintro j E' H' hj ⟨⟨q0,q1,q2,q3,q4,q5,q7,q17,q18,q19⟩,q38,q39,q40,gmo,kk⟩
 simp only[go_sem,rE,rA,rL,q39,q40]
 refine aF (fun hlt=>?_) (fun hge=>?_)
 ·have hj1:j<qs.length:=by omega
  have w1:=aI (n:=(j:Int)+1) (by omega) (by omega)
  have hg:=pM (ps:=qs) (k:=j) hj1
  have gc':=kk c _ gc dcm
  have hmt:=zR L qs[j] p (bQ (hq _ (az hj1)) (by decide)) (bQ hp (by decide))
  rw[Pl.enc,Pl.enc]at hmt
  have hsnoc:lh p Es (qs.take (j+1))=(lh p Es (qs.take j)||(qs[j].meet p||Es.any fun m=>eqB m qs[j].name)):=by
   unfold lh
   rw[aA hj1,fA]
   simp
  simp only[go_sem,rE,rA,rL,q38,q40,hg]
  intro b10 hb10
  have d10:=ak gc' hb10
  have d10m:=ak gmo hb10
  have kk10:∀(o':cQ) d o,H.get d=some o->d≠mo->(H'.set b10 o').get d=some o:=fun o' d o hd hdm=>by
   have:=kk d o hd hdm
   rw[ae _ _ (ak this hb10)];exact this
  simp only[go_sem,rE,rA,rL,q2,gc',d10]
  refine ao hmt rfl ?_
  have gmb:∀o',(H'.set b10 o').get mo=some (.map (cX (if lh p Es (qs.take j)then nm::Es else Es))):=fun o'=>(ae _ _ d10m).trans gmo
  have hset:cX (nm::if lh p Es (qs.take j)then nm::Es else Es)=cX (nm::Es):=by
   cases lh p Es (qs.take j)
   ·rfl
   ·exact yC Es nm
  have h10:decide ((1:Int)>0)=true:=by decide
  have h00:decide ((0:Int)>0)=false:=by decide
  cases hm:qs[j].meet p
  ·simp only[go_sem,rE,rA,rL,q4]
   refine fQ (k:=qs[j].name) (g:=cX (if lh p Es (qs.take j)then nm::Es else Es)) (by simp only[go_sem,rE,aR,bF,q4]) (gmb _) trivial ?_
   rw[s8]
   by_cases hx:((if lh p Es (qs.take j)then nm::Es else Es).any fun m=>eqB m qs[j].name)=true
   ·have hh:lh p Es (qs.take (j+1))=true:=by
     rw[hsnoc,hm]
     cases hc:lh p Es (qs.take j)
     ·rw[hc]at hx
      simpa using hx
     ·rfl
    rw[hh,if_pos rfl]
    simp only[hx,if_true]
    simp only[go_sem,rE,rA,rL,q4,q7,h10]
    refine kR (k:=nm) (v:=I 1) (v':=I 1) (g:=cX (if lh p Es (qs.take j)then nm::Es else Es)) (by simp only[go_sem,rE,aR,bF,q4,q7]) (.refl _) (gmb _) trivial ?_
    rw[qX,hset]
    simp only[go_sem,rE,rA,rL,q40,w1]
    exact⟨hj1,_,aj.sub_refl _,⟨q0,q1,q2,q3,q4,q5,q7,q17,q18,q19⟩,q38,q39,rfl,ai _ _ _,fun d o hd hdm=>by rw[ae _ _ hdm];exact kk10 _ d o hd hdm⟩
   ·have hh:lh p Es (qs.take (j+1))=lh p Es (qs.take j):=by
     rw[hsnoc,hm]
     cases hc:lh p Es (qs.take j)
     ·rw[hc]at hx
      simpa using hx
     ·rfl
    rw[hh]
    have hx':((if lh p Es (qs.take j)then nm::Es else Es).any fun m=>eqB m qs[j].name)=false:=by simpa using hx
    simp only[hx',av,if_false]
    simp only[go_sem,rE,rA,rL,q4,q7,q40,w1,h00]
    exact⟨hj1,_,aj.sub_refl _,⟨q0,q1,q2,q3,q5,q17,q18,q19⟩,q38,q39,rfl,gmb _,kk10 _⟩
  ·have hh:lh p Es (qs.take (j+1))=true:=by rw[hsnoc,hm];simp
   rw[hh,if_pos rfl]
   simp only[go_sem,rE,rA,rL,q4,q7]
   refine kR (k:=nm) (v:=I 1) (v':=I 1) (g:=cX (if lh p Es (qs.take j)then nm::Es else Es)) (by simp only[go_sem,rE,aR,bF,q4,q7]) (.refl _) (gmb _) trivial ?_
   rw[qX,hset]
   simp only[go_sem,rE,rA,rL,q40,w1]
   exact⟨hj1,_,aj.sub_refl _,⟨q0,q1,q2,q3,q4,q5,q7,q17,q18,q19⟩,q38,q39,rfl,ai _ _ _,fun d o hd hdm=>by rw[ae _ _ hdm];exact kk10 _ d o hd hdm⟩
 ·have hjj:j=qs.length:=by omega
  subst hjj
  rw[aM]at gmo
  simp only[go_sem,rE,rA,rL]
  exact hK _ _ (by simp only[go_sem,rE,q0]) (by simp only[go_sem,rE,q1]) (by simp only[go_sem,rE,q2,e2]) (by simp only[go_sem,rE,q3]) (by simp only[go_sem,rE,q4,e4]) (by simp only[go_sem,rE,q5]) (by simp only[go_sem,rE,q7,e7]) (by simp only[go_sem,rE,q17]) (by simp only[go_sem,rE,q18]) (by simp only[go_sem,rE,q19]) gmo kk
end
section
variable {P:Program}{F:Ids}{er:bV}
theorem ea3_wp(L:Lib P F){K:Env->aj->Prop}{E:Env}{H:aj}{s:Nat}{v:Sc}{ORD HELD:AC}{m1 m2 b c mo:Nat}{p:Pl}(hE:cM F er H s v ORD HELD m1 m2)(hnd:(v.vars.map (·.name)).Nodup)(hvl:v.vars.length<=2^30)(hp:p.path.length<=2^30)
(hqp:∀x∈v.vars,∀q∈x.loans,q.path.length<=2^30)(hql:∀x∈v.vars,x.loans.length<=2^30)(gb:H.get b=some (.cells [.ptr s 0]))(gc:H.get c=some (.cells [S p.name,au p.path]))(gm:H.get mo=some (.map fun _=>none))(hms:mo≠m1)
(e1:E 1=.ptr b 0)(e2:E 2=.ptr c 0)(e4:E 4=.mp mo)(e5:E 5=NIL)
(hK:∀E' H',E' 0=E 0->E' 3=E 3->bL H' 1 (aD (bM v.vars p).reverse) (E' 5)->(∀d o,H.get d=some o->d≠mo->H'.get d=some o)->(∀d,co (E' 5) d->H.get d=none)->K E' H'):
 (vM F).wp P (fun ex E' H'=>ex=.normal/\K E' H') E H:=by
 have ho:=hE.obj
 simp only[ScO]at ho
 have hlen:(aD (v.vars.map (·.name))).length=v.vars.length:=by simp[aD]
 rcases hE.ord with⟨hnil,hO⟩|⟨ob,on,om,hO,hob⟩
 ·have hv:v.vars=[]:=by rw[hnil]at hlen;exact bx hlen.symm
  subst hO
  simp only[vM,go_sem,rE,rA,rL,e1,gb,ho,a7]
  refine aS 0 (fun k E' H'=>E' 0=E 0/\E' 3=E 3/\E' 5=NIL/\E' 18=I 0/\E' 19=I k/\H'=H) ⟨rfl,rfl,e5,rfl,rfl,rfl⟩ ?_
  rintro k E' H' hk ⟨q0,q3,q5,q18,q19,rfl⟩
  have:k=0:=by omega
  subst this
  simp only[go_sem,rE,rA,rL,q18,q19,de,Int.lt_irrefl]
  refine hK _ _ (by simp only[go_sem,rE,q0]) (by simp only[go_sem,rE,q3]) ?_ (fun d o hd _=>hd) ?_
  ·simp only[go_sem,rE,q5,hv];exact .inl ⟨rfl,rfl⟩
  ·simp only[go_sem,rE,q5];rintro d ⟨_,_,_,_,e⟩;simp at e
 ·subst hO
  have hms':∀d o,H.get d=some o->(∀f,o≠.map f)->d≠mo:=fun d o hd hn=>by rintro rfl;rw[gm]at hd;simp at hd;exact hn _ hd.symm
  have dbm:=hms' b _ gb (by simp)
  have dcm:=hms' c _ gc (by simp)
  have dsm:=hms' s _ ho (by simp)
  simp only[vM,go_sem,rE,rA,rL,e1,gb,ho,a7,hlen]
  refine aS v.vars.length (fun k E' H'=>(E' 0=E 0/\E' 3=E 3)/\E' 1=.ptr b 0/\E' 2=.ptr c 0/\E' 4=.mp mo/\E' 17=.sl 1 (some (ob,on,om)) (aD (v.vars.map (·.name)))/\E' 18=I v.vars.length/\E' 19=I k/\
   bL H' 1 (aD (bM (v.vars.take k) p).reverse) (E' 5)/\H'.get mo=some (.map (cX (bM (v.vars.take k) p)))/\(∀d o,H.get d=some o->d≠mo->H'.get d=some o)/\∀d,co (E' 5) d->H.get d=none)
   ⟨⟨rfl,rfl⟩,e1,e2,e4,rfl,rfl,rfl,by simp only[go_sem,rE,e5];exact .inl ⟨rfl,rfl⟩,by rw[gm];simp only[List.take_zero,bM,List.foldl_nil,sH],fun d o hd _=>hd,by simp only[go_sem,rE,e5];rintro d ⟨_,_,_,_,e⟩;simp at e⟩ ?_
  rintro k E' H' hk ⟨⟨q0,q3⟩,q1,q2,q4,q17,q18,q19,qa,qm,kk,kt⟩
  simp only[go_sem,rE,rA,rL,q18,q19]
  refine aF (fun hlt=>?_) (fun hge=>?_)
  ·have hk1:k<v.vars.length:=by omega
   have w1:=aI (n:=(k:Int)+1) (by omega) (by omega)
   have hg:=kK (ns:=v.vars.map (·.name)) (k:=k) (by simpa using hk1)
   rw[gC]at hg
   have hnm:dg v.vars v.vars[k].name=some (v.vars[k].ent (fz v.vars v.vars[k].name)):=by simp only[dg,pR hnd hk1,bJ]
   have hsn:=jK (v.vars.take k) v.vars[k] p
   rw[<-aA hk1]at hsn
   have hbg:=kk b _ gb dbm
   have hsg:=kk s _ ho dsm
   have hcg:=kk c _ gc dcm
   have hmg:=kk m1 _ hE.names (Ne.symm hms)
   simp only[go_sem,rE,rA,rL,q1,q17,q19,hg,hbg,hsg,a7]
   refine fQ (k:=v.vars[k].name) (g:=dg v.vars) rfl hmg trivial ?_
   simp only[hnm,ja,av,if_false,Vr.ent]
   simp only[go_sem,rE,rA,rL]
   intro b8 hb8
   have kk8:∀(o':cQ) d o,H.get d=some o->d≠mo->(H'.set b8 o').get d=some o:=fun o' d o hd hdm=>by
    have:=kk d o hd hdm
    rw[ae _ _ (ak this hb8)];exact this
   have d8m:=ak qm hb8
   have qm8:∀o',(H'.set b8 o').get mo=some (.map (cX (bM (v.vars.take k) p))):=fun o'=>(ae _ _ d8m).trans qm
   have qa8:∀o',bL (H'.set b8 o') 1 (aD (bM (v.vars.take k) p).reverse) (E' 5):=fun o'=>qa.new hb8 o'
   have hnin:v.vars[k].name∉bM (v.vars.take k) p:=fun hm=>by
    obtain⟨i,hi,e⟩:=js _ p hm
    have hik:i<k:=by rw[bk]at hi;omega
    have hi2:i<v.vars.length:=by omega
    rw[List.getElem_take]at e
    have:=sv hnd hi2 hk1 e
    omega
   cases hdd:v.vars[k].dead
   ·cases hll:v.vars[k].lent
    ·have hsame:bM (v.vars.take (k+1)) p=bM (v.vars.take k) p:=by rw[hsn,hdd,hll];rfl
     simp only[go_sem,rE,rA,rL,q19,w1]
     exact⟨hk1,_,aj.sub_refl _,⟨q0,q3⟩,q1,q2,q4,q17,q18,rfl,by rw[hsame];exact qa8 _,by rw[hsame];exact qm8 _,kk8 _,kt⟩
    ·have hcg8:=kk8 (.cells [.sl 1 none (Ty.encs v.vars[k].type.kids),B v.vars[k].param,B true,B (!false),B (fz v.vars v.vars[k].name),.sl 2 none (v.vars[k].loans.map Pl.enc)]) c _ gc dcm
     have hxm:v.vars[k]∈v.vars:=az hk1
     simp only[go_sem,rE,rA,rL,am]
     refine ken1_wp L (p:=p) (qs:=v.vars[k].loans) (nm:=v.vars[k].name) (Es:=bM (v.vars.take k) p) (mo:=mo) (c:=c) hp (hqp _ hxm) (hql _ hxm) (by simp only[go_sem,rE,q2]) (by simp only[go_sem,rE,q4]) (by simp only[go_sem,rE]) (by simp only[go_sem,rE]) (by simp only[go_sem,rE,am]) (by simp only[go_sem,rE]) hcg8 (qm8 _) ?_
     intro E2 H2 f0 f1 f2 f3 f4 f5 f7 f17 f18 f19 gm2 kk2
     simp only[go_sem,rE,rA]at f0 f1 f2 f3 f4 f5 f7 f17 f18 f19
     have hh:lh p (bM (v.vars.take k) p) v.vars[k].loans=(v.vars[k].loans.any fun q=>q.meet p||(bM (v.vars.take k) p).any fun m=>eqB m q.name):=rfl
     rw[<-hh]at hsn
     have kkH:∀d o,H.get d=some o->d≠mo->H2.get d=some o:=fun d o hd hdm=>kk2 d o (kk8 _ d o hd hdm) hdm
     have qa2:bL H2 1 (aD (bM (v.vars.take k) p).reverse) (E' 5):=(qa8 (.cells [.sl 1 none (Ty.encs v.vars[k].type.kids),B v.vars[k].param,B true,B (!false),B (fz v.vars v.vars[k].name),.sl 2 none (v.vars[k].loans.map Pl.enc)])).mono fun d hd=>by
      obtain⟨n,m,e⟩:=(qa8 (.cells [.sl 1 none (Ty.encs v.vars[k].type.kids),B v.vars[k].param,B true,B (!false),B (fz v.vars v.vars[k].name),.sl 2 none (v.vars[k].loans.map Pl.enc)])).tok hd
      have hdm:d≠mo:=by rintro rfl;rw[qm8]at e;simp at e
      rw[e];exact kk2 d _ e hdm
     simp only[go_sem,rE,rA,rL,f4,f7,q4]
     refine fQ (k:=v.vars[k].name) (g:=cX (if lh p (bM (v.vars.take k) p) v.vars[k].loans then v.vars[k].name::bM (v.vars.take k) p else bM (v.vars.take k) p)) (by simp only[go_sem,rE,aR,bF,f4,f7,q4]) gm2 trivial ?_
     rw[s8]
     cases hhit:lh p (bM (v.vars.take k) p) v.vars[k].loans
     ·have hsame:bM (v.vars.take (k+1)) p=bM (v.vars.take k) p:=by rw[hsn,hdd,hll,hhit];rfl
      rw[hhit]at gm2
      have hany:((bM (v.vars.take k) p).any fun m=>eqB m v.vars[k].name)=false:=by
       cases h:(bM (v.vars.take k) p).any fun m=>eqB m v.vars[k].name with
       |false=>rfl
       |true=>
        obtain⟨m,hm,he⟩:=iH.1 h
        exact absurd (cG.1 he▸hm) hnin
      have h00:decide ((0:Int)>0)=false:=by decide
      simp only[av,if_false,hany]
      simp only[go_sem,rE,rA,rL,h00,f19,q19,w1]
      refine⟨hk1,H2,aj.sub_refl _,⟨f0.trans q0,f3.trans q3⟩,f1.trans q1,f2.trans q2,f4.trans q4,f17.trans q17,f18.trans q18,rfl,?_,?_,kkH,?_⟩
      ·rw[hsame,f5];exact qa2
      ·rw[hsame];exact gm2
      ·rw[f5];exact kt
     ·have hsame:bM (v.vars.take (k+1)) p=v.vars[k].name::bM (v.vars.take k) p:=by rw[hsn,hdd,hll,hhit];rfl
      rw[hhit,if_pos rfl]at gm2
      have h10:decide ((1:Int)>0)=true:=by decide
      simp only[if_true,List.any_cons,dx,eD]
      simp only[go_sem,rE,rA,rL,h10,f5,f7,ax,aq,aw]
      have hel:(bM (v.vars.take k) p).length<=v.vars.length:=by
       have:=(jr p (v.vars.take k) [] (v.vars.map (·.name)) (by simp) fun x hx=>aW.2 ⟨x,bn hx,rfl⟩).2
       rw[bk]at this
       simp only[bN,cE]at this
       exact bQ this (Nat.min_le_right _ _)
      refine dN (es:=aD (bM (v.vars.take k) p).reverse) (ys:=[[S v.vars[k].name]]) (by simp only[go_sem,rE,rA,rL];exact qa2) (by simp[go_sem,aZ]) (by simp) (by simp[aD];omega) ?_
      intro x' H3 fp hx' hfp hkeep hnew
      simp only[go_sem,rE,rA,rL]at hkeep hnew
      have hmt:¬co (E' 5) mo:=fun ht=>by obtain⟨n,m,e⟩:=qa2.tok ht;rw[gm2]at e;simp at e
      have hrow:aD (v.vars[k].name::bM (v.vars.take k) p).reverse=aD (bM (v.vars.take k) p).reverse++[[S v.vars[k].name]]:=by simp[aD]
      simp only[go_sem,rE,rA,rL,f19,q19,w1]
      refine⟨hk1,H3,aj.sub_refl _,⟨f0.trans q0,f3.trans q3⟩,f1.trans q1,f2.trans q2,f4.trans q4,f17.trans q17,f18.trans q18,rfl,?_,?_,?_,?_⟩
      ·rw[hsame,hrow];exact hx'
      ·rw[hsame,hkeep mo (by rw[gm2];simp) hmt];exact gm2
      ·intro d o hd hdm
       rw[hkeep d (by rw[kkH d o hd hdm];simp) (fun ht=>by rw[kt d ht]at hd;simp at hd)]
       exact kkH d o hd hdm
      ·intro d hd
       rcases hnew d hd with h|h
       ·exact kt d h
       ·cases hq:H.get d with
        |none=>rfl
        |some o=>
         by_cases hdm:d=mo
         ·subst hdm;rw[gm2]at h;simp at h
         ·rw[kkH d o hq hdm]at h;simp at h
   ·have hsame:bM (v.vars.take (k+1)) p=bM (v.vars.take k) p:=by rw[hsn,hdd];rfl
    simp only[go_sem,rE,rA,rL,q19,w1]
    exact⟨hk1,_,aj.sub_refl _,⟨q0,q3⟩,q1,q2,q4,q17,q18,rfl,by rw[hsame];exact qa8 _,by rw[hsame];exact qm8 _,kk8 _,kt⟩
  ·have hkk:k=v.vars.length:=by omega
   subst hkk
   rw[aM]at qa qm
   simp only[go_sem,rE,rA,rL]
   exact hK _ _ (by simp only[go_sem,rE,q0]) (by simp only[go_sem,rE,q3]) (by simp only[go_sem,rE];exact qa) kk (by simp only[go_sem,rE];exact kt)
end
def x_ea0:aY:=rg [ef 0 3 (.box 0)]
def x_ea1:aY:=rg [ef 0 13 (.callX .mkMap []),mv 1 4 13]
def x_ea2:aY:=rg [mv 0 5 (.const (.slice none 0 0))]
def x_ea4(F:Ids):aY:=rg [mv 0 66 5,ca 1 67 61 [66]]
def x_ea5:aY:=rg [mv 0 12 69]
def x_ea6:aY:=rg ([ld 0 70 none 3,mv 1 71 12]++ef 2 72 (.callX .clos [70,71])::[pu 3 73 (.not 72)])
def zl(P:Program)(F:Ids):Prop:=∃fn i0 i1 i2 i4 i5 i6 b4 b5 o0 o1 o2 c3 o4 o5 o6,P.funcs[60]?=some fn/\fn.ntmps=74/\fn.results=#[]/\
 fn.body=some (.seq (.region i0 o0 false) (.seq (.region i1 o1 false) (.seq (.region i2 o2 false) (.seq c3 (.seq (.region i4 o4 false) (.block b4 (.rangeFunc (.tmp 67) #[68,69] (.region i5 o5 false) (.block b5 (.seq (.region i6 o6 false) (.cond (.tmp 73) .ret .skip))))))))))/\
 dm P 74 o0 false=some x_ea0/\dm P 74 o1 false=some x_ea1/\dm P 74 o2 false=some x_ea2/\eW P 74 c3=some (vM F)/\iw P c3 (vM F)=true/\dm P 74 o4 false=some (x_ea4 F)/\dm P 74 o5 false=some x_ea5/\dm P 74 o6 false=some x_ea6
section
variable {P:Program}{F:Ids}{er:bV}
theorem vp(L:Lib P F){x:AC}(hx:x.cells?=some [x]):ACalls P 61 [x] .empty fun q H'=>∃b,q=.fn (.func 75) [] [.ptr b 0]/\H'=aj.empty.set b (.cells [x]):=by
 refine(L.a Tryz.func61 y61) (by simp[y61]) ?_
 simp only[y61,go_sem,rE,rA,hx]
 intro b hb
 exact al (.refl _) (aj.sub_refl _) ⟨b,rfl,rfl⟩
theorem An(H:aj){b:Nat}{o:cQ}:H.swap .empty (aj.empty.set b o)=H.set b o:=by
 ext d:1
 rw[bC,aO,aO]
 by_cases h1:d=b
 ·simp[h1]
 ·simp[h1]
structure EndJ(Hr:aj)(B l l2:Nat)(pre:List ByteArray)(H':aj):Prop where
 l2n:H'.get l2=none
 l2B:l2≠B
 ln:H'.get l=none
 box:∃x',H'.get B=some (.cells [x'])/\bL H' 1 (aD pre) x'/\∀d,co x' d->Hr.get d=none
 rest:∀d o,Hr.get d=some o->d≠B->H'.get d=some o
theorem Dn(L:Lib P F)(hC:zl P F)(hB1:mO P 75)(hgB:jl P 75=true){H:aj}{s:Nat}{v:Sc}{ORD HELD:AC}{m1 m2 b c B:Nat}{p:Pl}(hS:cM F er H s v ORD HELD m1 m2)(hnd:(v.vars.map (·.name)).Nodup)(hvl:v.vars.length<=2^30)(hp:p.path.length<=2^30)
(hqp:∀x∈v.vars,∀q∈x.loans,q.path.length<=2^30)(hql:∀x∈v.vars,x.loans.length<=2^30)(gb:H.get b=some (.cells [.ptr s 0]))(gc:H.get c=some (.cells p.enc))(hB:H.get B=none):
 ItC P 60 [.ptr b 0,.ptr c 0] (H.set B (.cells [NIL])) (fun _=>True) (DF B) (pz B) (AsEnd B (bM v.vars p) (H.set B (.cells [NIL]))):=by
 obtain⟨fn,i0,i1,i2,i4,i5,i6,b4,b5,o0,o1,o2,c3,o4,o5,o6,hf,hN,hres,hb,r0,r1,r2,r3,r3ok,r4,r5,r6⟩:=hC
 intro l o M w us hnc s0 hlo hln hcap _ hY
 refine callsIn_of_wp_marks hf hb trivial ?_ rfl
 rw[hN]
 have hr:il M [.lit (.func (.yield l) #[] #[]),.ptr b 0,.ptr c 0] ((#[.func (.yield l) #[] #[]]++us.toArray:Array Value).toList):=by
  refine⟨by simp[<-hcap.1],fun j y v hy hv=>?_⟩
  match j,hy,hv with
  |0,hy,hv=>simp at hy hv;subst hy hv;exact .lit trivial
  |j+1,hy,hv=>exact hcap.2 j _ _ (by simpa using hy) (by simpa using hv)
 have hE:=nJ (N:=74) hr (by simp)
 simp only[Array.toArray_toList]at hE
 have hS0:cM F er (H.set B (.cells [NIL])) s v ORD HELD m1 m2:=hS.new hB _
 have gb0:(H.set B (.cells [NIL])).get b=some (.cells [.ptr s 0]):=by rw[ae _ _ (ak gb hB)];exact gb
 have gc0:(H.set B (.cells [NIL])).get c=some (.cells p.enc):=by rw[ae _ _ (ak gc hB)];exact gc
 have gB0:(H.set B (.cells [NIL])).get B=some (.cells [NIL]):=ai _ _ _
 generalize H.set B (.cells [NIL])=H0 at*
 refine pH (cL r0).1 (cL r0).2 hE s0 (K:=fun E' H'=>∃b3,H0.get b3=none/\E' 1=.ptr b 0/\E' 2=.ptr c 0/\E' 3=.ptr b3 0/\H'=H0.set b3 (.cells [.lit (.func (.yield l) #[] #[])])) ?_ ?_
 ·simp only[x_ea0,go_sem,rE,rA,show(AC.lit (Value.func (Fn.yield l) #[] #[])).cells?=some [.lit (.func (.yield l) #[] #[])]from rfl]
  intro b3 hb3
  exact⟨b3,hb3,rfl,rfl⟩
 rintro E1 H1 M1 a1 w1 ⟨b3,hb3,e1,e2,e3,rfl⟩ hE1 s1 t1 hd1
 refine pH (cL r1).1 (cL r1).2 hE1 s1 (K:=fun E' H'=>∃mo,(H0.set b3 (.cells [.lit (.func (.yield l) #[] #[])])).get mo=none/\E' 1=.ptr b 0/\E' 2=.ptr c 0/\E' 3=.ptr b3 0/\E' 4=.mp mo/\H'=(H0.set b3 (.cells [.lit (.func (.yield l) #[] #[])])).set mo (.map fun _=>none)) ?_ ?_
 ·simp only[x_ea1,go_sem,rE,rA]
  refine qw fun mo hmo=>?_
  simp only[go_sem,rE,rA,e1,e2,e3]
  exact⟨mo,hmo,rfl,rfl⟩
 rintro E2 H2 M2 a2 w2 ⟨mo,hmo,f1,f2,f3,f4,rfl⟩ hE2 s2 t2 hd2
 refine pH (cL r2).1 (cL r2).2 hE2 s2 (K:=fun E' H'=>E' 1=.ptr b 0/\E' 2=.ptr c 0/\E' 3=.ptr b3 0/\E' 4=.mp mo/\E' 5=NIL/\H'=(H0.set b3 (.cells [.lit (.func (.yield l) #[] #[])])).set mo (.map fun _=>none)) ?_ ?_
 ·simp only[x_ea2,go_sem,rE,rA,f1,f2,f3,f4,and_self]
 rintro E3 H3 M3 a3 w3 ⟨g1,g2,g3,g4,g5,rfl⟩ hE3 s3 t3 hd3
 have hb3m:b3≠mo:=ak (ai _ _ _) hmo
 have hmo0:H0.get mo=none:=by rw[ae _ _ (Ne.symm hb3m)]at hmo;exact hmo
 have up:∀d o,H0.get d=some o->((H0.set b3 (.cells [.lit (.func (.yield l) #[] #[])])).set mo (.map fun _=>none)).get d=some o:=fun d o hd=>by
  rw[ae _ _ (ak hd hmo0),ae _ _ (ak hd hb3)];exact hd
 have gy:((H0.set b3 (.cells [.lit (.func (.yield l) #[] #[])])).set mo (.map fun _=>none)).get b3=some (.cells [.lit (.func (.yield l) #[] #[])]):=by rw[ae _ _ hb3m,ai]
 have gmo:((H0.set b3 (.cells [.lit (.func (.yield l) #[] #[])])).set mo (.map fun _=>none)).get mo=some (.map fun _=>none):=ai _ _ _
 have hm1:mo≠m1:=by rintro rfl;rw[hS0.names]at hmo0;simp at hmo0
 have hsz:=(dy.1 hlo).1
 have hfr:∀{M':bU} {H':aj} {w':World},bK M H0 w M' H' w'->H'.get l=none:=fun t=>by
  rename_i M' H' w'
  cases h:H'.get l with
  |none=>rfl
  |some o'=>
   rcases t.fresh l (by rw[h];simp)with h'|h'
   ·exact absurd hln h'
   ·omega
 have hS3:=hS0.sub up
 have gb3:=up _ _ gb0
 have gc3:=up _ _ gc0
 have gB3:=up _ _ gB0
 generalize hH3:((H0.set b3 (.cells [.lit (.func (.yield l) #[] #[])])).set mo (.map fun _=>none))=H3 at*
 have hBmo:B≠mo:=ak gB0 hmo0
 refine pH r3 r3ok hE3 s3 (K:=fun E' H'=>E' 3=.ptr b3 0/\bL H' 1 (aD (bM v.vars p).reverse) (E' 5)/\(∀d o,H3.get d=some o->d≠mo->H'.get d=some o)/\∀d,co (E' 5) d->H3.get d=none) ?_ ?_
 ·exact ea3_wp L hS3 hnd hvl hp hqp hql gb3 (by rw[gc3,Pl.enc]) gmo hm1 g1 g2 g4 g5 fun E' H' h0 h3 h5 hk ht=>⟨h3.trans g3,h5,hk,ht⟩
 rintro E4 H4 M4 a4 w4 ⟨k3,k5,kk,kt⟩ hE4 s4 t4 hd4
 refine pH (cL r4).1 (cL r4).2 hE4 s4 (K:=fun E' H'=>∃bs,H4.get bs=none/\E' 3=.ptr b3 0/\E' 67=.fn (.func 75) [] [.ptr bs 0]/\H'=H4.set bs (.cells [E4 5])) ?_ ?_
 ·simp only[x_ea4,go_sem,rE,rA,k3]
  refine cy (vp L (x:=E4 5) k5.one) (by simp only[go_sem,rE,aR,bF]) (aj.sub_empty _) (fun h=>by simp at h) trivial ?_
  rintro q H5 ⟨bs,rfl,rfl⟩ hnew
  rw[An]
  have hbs:=hnew bs (by rw[ai];simp) rfl
  simp only[go_sem,rE,rA,k3]
  exact⟨bs,hbs,rfl,rfl⟩
 rintro E5 H5 M5 a5 w5 ⟨bs,hbs,n3,n67,rfl⟩ hE5 s5 t5 hd5
 have t05:bK M H0 w M5 (H4.set bs (.cells [E4 5])) w5:=(((t1.trans t2).trans t3).trans t4).trans t5
 have hd5':a5.defers=[]:=by rw[hd5,hd4,hd3,hd2,hd1]
 have hx5:bL (H4.set bs (.cells [E4 5])) 1 (aD (bM v.vars p).reverse) (E4 5):=k5.new hbs _
 have keep4:∀d o,H4.get d=some o->(H4.set bs (.cells [E4 5])).get d=some o:=fun d o hd=>by rw[ae _ _ (ak hd hbs)];exact hd
 have gyr:(H4.set bs (.cells [E4 5])).get b3=some (.cells [.lit (.func (.yield l) #[] #[])]):=keep4 _ _ (kk _ _ gy hb3m)
 have gBr:(H4.set bs (.cells [E4 5])).get B=some (.cells [NIL]):=keep4 _ _ (kk _ _ gB3 hBmo)
 have gbs:(H4.set bs (.cells [E4 5])).get bs=some (.cells [E4 5]):=ai _ _ _
 have hbsB:bs≠B:=by rintro rfl;have:=keep4 bs _ (kk _ _ gB3 hBmo);have h4:=kk _ _ gB3 hBmo;rw[h4]at hbs;simp at hbs
 have hb3B:b3≠B:=by rintro rfl;rw[gB0]at hb3;simp at hb3
 have restR:∀d o,H0.get d=some o->d≠B->(H4.set bs (.cells [E4 5])).get d=some o:=fun d o hd _=>keep4 _ _ (kk _ _ (up _ _ hd) (ak hd hmo0))
 have hlB:l≠B:=by rintro rfl;rw[hln]at gB0;simp at gB0
 have hlr:(H4.set bs (.cells [E4 5])).get l=none:=hfr t05
 have hsz5:l<w5.heap.size:=Nat.lt_of_lt_of_le hsz t05.size
 have hlo5:w5.heap[l]?=some o:=by rw[(t05.same l hsz hln).1];exact hlo
 generalize hHr:H4.set bs (.cells [E4 5])=Hr at*
 refine wpIn_block ?_
 have hrep:=hE5.rep 67
 rw[n67]at hrep
 obtain⟨us2,hus,hcap2⟩:=Ce hrep
 have hE5':cK 74 M5 E5 {tmps:=a5.tmps,defers:=[]}:=⟨hE5.size,hE5.rep⟩
 have hLl:(bM v.vars p).reverse.length<=2^30:=by
  have:=(jr p v.vars [] (v.vars.map (·.name)) (by simp) fun x hx=>aW.2 ⟨x,hx,rfl⟩).2
  rw[List.length_reverse]
  simp only[bN,cE]at this
  exact bQ this hvl
 refine zE (ps:=[68,69]) (us:=us2) (cap:=[.ptr bs 0]) (Pre:=fun l2 xs H'=>∃pre i n,xs=[I i,S n]/\EndJ Hr B l l2 pre H'/\pre.length<=2^30)
  (lM:=fun l2 xs H' H''=>(∀i n,xs=[I i,S n]->pz B l [S n] H' H'')/\H''.get l2=none/\H''.get l=none) hE5 s5 (by simpa[Act.eval]using hus) hgB hcap2
  (xw hB1 (bs:=bs) (x:=E4 5) (L:=(bM v.vars p).reverse) hx5 hLl (J:=EndJ Hr B l) ?_ ?_ ?_ ?_ ?_) (Sx:=fun w'=>w'.heap[l]?=some o) ?_ ?_ ?_
 ·intro l2 h
  exact⟨h,by rintro rfl;rw[gBr]at h;simp at h,hlr,⟨NIL,gBr,.inl ⟨rfl,rfl⟩,fun d ⟨_,_,_,_,e⟩=>by simp at e⟩,fun d o hd _=>hd⟩
 ·intro l2 pre H' hj
  exact hj.rest _ _ gbs hbsB
 ·intro l2 pre n i H' hj hl
  exact⟨pre,i,n,rfl,hj,by omega⟩
 ·rintro l2 pre n i H' H'' hj hl ⟨hP,h1,h2⟩
  obtain⟨x',hx1,hx2,hx3⟩:=hj.box
  obtain⟨x2,y1,y2,y3,y4⟩:=hP i n rfl n pre x' rfl hx1 hx2
  have nt:∀d o,Hr.get d=some o->¬co x' d:=fun d o hd ht=>by rw[hx3 d ht]at hd;simp at hd
  refine⟨h1,hj.l2B,h2,⟨x2,y1,y2,fun d hd=>?_⟩,fun d o hd hdB=>y3 d o (hj.rest d o hd hdB) hdB (nt d o hd)⟩
  rcases y4 d hd with h|h
  ·exact hx3 d h
  ·cases hq:Hr.get d with
   |none=>rfl
   |some o'=>
    by_cases hdB:d=B
    ·subst hdB;rw[hx1]at h;simp at h
    ·rw[hj.rest d o' hq hdB]at h;simp at h
 ·intro l2 pre H' hj;exact hj.l2n
 ·intro M' H' w' t
  show w'.heap[l]?=some o
  rw[(t.same l hsz5 hlr).1];exact hlo5
 ·
  intro l2 D fid hl2 ro n xs H' hpre
  have hl2l:l≠l2:=by omega
  refine(rH (N:=74) (Sx:=fun w'=>w'.heap[l]?=some o) (Pre:=fun xs H'=>∃pre i n,xs=[I i,S n]/\EndJ Hr B l l2 pre H'/\pre.length<=2^30)
   (lM:=fun xs H' H''=>(∀i n,xs=[I i,S n]->pz B l [S n] H' H'')/\H''.get l2=none/\H''.get l=none)
   (EA:=fun xs=>(E5.puts [68,69] xs).put (some 12) ((E5.puts [68,69] xs) 69)) hE5' (by simp) ?_ ?_ ?_ ?_ ?_ ro n xs H' hpre)
  ·intro w' r h
   rw[World.putObj_heap_other hl2l];exact h
  ·rintro M' H' w' M'' H'' w'' - h t ⟨xs',pre',i',n',-,hj,-⟩
   rw[(t.same l (dy.1 h).1 hj.ln).1];exact h
  ·rintro xs' H' ⟨pre',i',n',rfl,hj,-⟩
   exact⟨rfl,hj.l2n⟩
  ·rintro n xs' H' M1 w1 a1 hle hE1 s1 -
   refine nB r5 hE1 s1 ?_
   simp only[x_ea5,go_sem,rE,rA,and_self]
  ·rintro n xs' H' M1 w1 a1 hle hE1 s1 ⟨pre',i',n',rfl,hj,hpl⟩ hx hlw
   have hyl:=hj.rest _ _ gyr hb3B
   have hlw1:l<w1.heap.size:=(dy.1 hx).1
   obtain⟨x',hbx1,hbx2,hbx3⟩:=hj.box
   refine wpIn_block (wpIn_seq (wpIn_mono (we (ro:=some l2) (Sd:=fun w=>w.heap[l]?=some o) (K:=fun e E' H''=>e=.normal/\E' 73=.lit (.bool false)/\pz B l [S n'] H' H'') r6 hE1 s1 (by simp) (fun M' H'' w' t=>?_) ?_) ?_))
   ·rw[(t.same l hlw1 hj.ln).1];exact hx
   ·have hYC:=hY (some l2) (n - 1) [S n'] H' ⟨hj.ln,hlB,n',pre',x',rfl,hbx1,hbx2,hpl⟩
    simp only[Env.puts,go_sem,rE,rA,n3,hyl,a7]
    exact⟨l,[S n'],_,rfl,(hYC.later (bU.le_trans t05.le hle)).side fun _ h=>⟨h,trivial⟩,fun _ h=>h⟩
   ·rintro e a2 w2 ⟨xe,E2,H2,M2,he,⟨rfl,q73,hpost⟩,hE2,s2,t2,hd2⟩
    cases e<;>simp[eo]at he
    have hr73:=hE2.rep 73
    rw[q73]at hr73
    have hfr2:∀d,d<w1.heap.size->H'.get d=none->H2.get d=none:=fun d hd hn=>by
     cases h:H2.get d with
     |none=>rfl
     |some o'=>
      rcases t2.fresh d (by rw[h];simp)with h'|h'
      ·exact absurd hn h'
      ·omega
    refine wpIn_cond_false (by rw[<-lA hr73];rfl) (wpIn_skip ?_)
    refine⟨.normal,E2,H2,M2,rfl,⟨rfl,fun i n e=>?_,hfr2 l2 hlw hj.l2n,hfr2 l hlw1 hj.ln⟩,hE2,s2,t2,hd2⟩
    simp only[List.cons.injEq,AC.lit.injEq,Value.string.injEq,and_true]at e
    rw[<-e.2];exact hpost
 ·rintro D M6 H6 w6 hD ⟨l2,hj⟩ s6 t6 hDn hDr
  rw[List.reverse_reverse]at hj
  have s7:=s6.putRec hDr (fun a b c h=>by cases h) hDn (.deferred none)
  have hE6:cK 74 M6 E5 {a5 with defers:={target:=.collected D,args:=#[]}::a5.defers}:=⟨hE5.size,fun n=>(hE5.rep n).mono t6.le⟩
  obtain⟨v,hv,hrv⟩:=jR (P:=P) (fn:=fn) (rs:=[]) (by rw[hres];rfl) hE6 s7 (q:=.tup []) rfl
  show LeavesInM _ _ _ _ _ _ _ .returning w6
  refine s9 (a:={a5 with defers:={target:=.collected D,args:=#[]}::a5.defers}) (by rw[hd5']) hDr hv ?_
  obtain⟨x',y1,y2,y3⟩:=hj.box
  have t:=t05.trans t6
  refine⟨⟨v,rfl⟩,M6,H6,s7,⟨t.le,by rw[World.putObj_size];exact t.size,fun b hb' hn=>?_,t.fresh,t.io.trans (wG _ _ _)⟩,x',y1,y2,fun d o hd hdB=>hj.rest d o (restR d o hd hdB) hdB⟩
  have:w.heap.size<=w5.heap.size:=t05.size
  rw[World.putObj_heap_other (by omega)]
  exact t.same b hb' hn
end
section
variable {P:Program}{F:Ids}{er:bV}
theorem yW(L:Lib P F)(hA:oe P 59)(hE:zl P F)(hB:mO P 75)(g1:jl P 75=true)(g2:jl P 60=true):eB P F er:=by
 intro H s v ORD HELD m1 m2 b c p hS hnd hvl hp hqp hql gb gc
 refine(L.a Tryz.func38 y38) (by simp[y38]) ?_
 simp only[y38,go_sem,rE,rA]
 refine cy (vq hA (gf:=60) (cap:=[.ptr b 0,.ptr c 0]) g2 (bM v.vars p) H fun B hB0=>Dn L hE hB g1 hS hnd hvl hp hqp hql gb gc hB0) ?_ (aj.sub_refl _) (fun h=>by simp at h) trivial ?_
 ·simp only[go_sem,rE,aR,bF]
 rintro q H' ⟨rfl,rfl⟩ -
 simp only[go_sem,rE,rA,eL]
 exact al (.refl _) (aj.sub_refl _) ⟨rfl,rfl⟩
end
structure AsIs(P:Program)(F:Ids)(er:bV)(H0:aj):Prop where
 nil:∀(x:AC) (H:aj),ACalls P 64 [iz,x] H fun q H'=>q=B false/\H'=H
 hit:∀(b t:Nat) (H:aj),H0.sub H->H.get t=some (.cells [.lit (.pointer none)])->ACalls P 64 [.iface 120 (.ptr b 0),.iface 122 (.ptr t 0)] H fun q H'=>q=B true/\H'=H.set t (.cells [.ptr b 0])
 is:∀(b:Nat) (i c k:Int) (H:aj),H0.sub H->(c=2\/c=3\/c=4\/c=5)->(k=2\/k=3\/k=4\/k=5)->H.get b=some (.cells [I i,.iface (er.t c) (er.x c)])->
  ACalls P 65 [.iface 120 (.ptr b 0),.iface (er.t k) (er.x k)] H fun q H'=>q=B (decide (c=k))/\H'=H
section
variable {P:Program}{F:Ids}{er:bV}
theorem yX(L:Lib P F)(T:Tys F)(hC:eB P F er){H0:aj}(hA:AsIs P F er H0)(p:Pg)(hc:p.small)(H:aj)(h0:H0.sub H)(he:fy F er H):
 ACalls P 40 [.agg (Pg.enc p)] H fun q H'=>q=.tup [I (fB p).1,I (fB p).2]/\H'=H:=by
 refine(L.a Tryz.func40 y40) (by simp[y40]) ?_
 have hpf:=sV L T p hc
 simp only[Pg.enc]at hpf
 simp only[y40,go_sem,rE,rA,rL,Pg.enc]
 intro b1 hb1
 have g1:=ai H b1 (.cells [.sl 12 none (p.map Fu.enc)])
 have k1:∀c o,H.get c=some o->(H.set b1 (.cells [.sl 12 none (p.map Fu.enc)])).get c=some o:=fun c o hc=>by rw[ae _ _ (ak hc hb1)];exact hc
 have he1:fy F er (H.set b1 (.cells [.sl 12 none (p.map Fu.enc)])):=fun c hc=>k1 _ _ (he c hc)
 have fin:∀(E':Env) (H':aj) (a b:Int),E' 2=I a->E' 3=I b->H.sub H'->fB p=(a,b)->bm.post [.slot 2,.slot 3] (fun q H'=>q=.tup [I (fB p).1,I (fB p).2]/\H'=H) .ret E' H':=fun E' H' a b h2 h3 hs hsp=>gA hs ⟨by rw[h2,h3,hsp],rfl⟩
 generalize H.set b1 _=H1 at*
 refine ao hpf rfl ?_
 cases hf:ft p with
 |false=>
  simp only[go_sem,rE,rA,rL]
  exact fin _ _ 1 0 rfl rfl k1 (by simp[fB,hf])
 |true=>
 have hfn:=Dq (er:=er) L T hC p hf H1 he1
 simp only[Pg.enc]at hfn
 simp only[go_sem,rE,rA,rL,g1]
 refine cy hfn rfl (aj.sub_refl _) (fun h=>by simp at h) trivial ?_
 rintro q H3 h -
 rw[dk]
 rcases h with⟨h1,rfl,rfl⟩|⟨i,b,h1,h2,rfl,rfl⟩
 ·simp only[go_sem,rE,rA,rL]
  intro b5 hb5
  refine cy (hA.nil _ _) rfl (aj.sub_refl _) (fun h=>by simp at h) trivial ?_
  rintro q H4 ⟨rfl,rfl⟩ -
  rw[dk]
  simp only[go_sem,rE,rA,rL]
  exact fin _ _ 0 0 rfl rfl (fun c o hc=>by rw[ae _ _ (ak (k1 c o hc) hb5)];exact k1 c o hc) (by simp[fB,hf,h1])
 ·have hcode:dU p i=2\/dU p i=3\/dU p i=4\/dU p i=5:=by
   unfold lT at h1
   have h2:=List.find?_some h1
   simp only[decide_eq_true_eq]at h2
   have h3:dU p i=0\/dU p i=2\/dU p i=3\/dU p i=4\/dU p i=5:=by
    unfold dU at h2⊢
    split
    ·exact sJ _ _
    ·exact .inl rfl
   omega
  have hsp:fB p=(dU p i,(i:Int)):=by simp[fB,hf,h1]
  generalize dU p i=c at*
  have hac:er.ac c=.iface (er.t c) (er.x c):=er.acn (by omega)
  rw[hac]
  have gb:=ai H1 b (.cells [I i,.iface (er.t c) (er.x c)])
  have k2:∀d o,H.get d=some o->(H1.set b (.cells [I i,.iface (er.t c) (er.x c)])).get d=some o:=fun d o hd=>by rw[ae _ _ (ak (k1 d o hd) h2)];exact k1 d o hd
  generalize H1.set b _=H2 at*
  simp only[go_sem,rE,rA,rL]
  intro b5 hb5
  have gb5:=ai H2 b5 (.cells [.lit (.pointer none)])
  have d5:=ak gb hb5
  have hset:(H2.set b5 (.cells [.lit (.pointer none)])).set b5 (.cells [.ptr b 0])=H2.set b5 (.cells [.ptr b 0]):=kA _ _ _ _
  have k3:∀o d o',H.get d=some o'->(H2.set b5 o).get d=some o':=fun o d o' hd=>by rw[ae _ _ (ak (k2 d o' hd) hb5)];exact k2 d o' hd
  refine cy (hA.hit b b5 _ (fun d o hd=>k3 _ d o (h0 d o hd)) gb5) rfl (aj.sub_refl _) (fun h=>by simp at h) trivial ?_
  rintro q H4 ⟨rfl,rfl⟩ -
  rw[dk,hset]
  have gb:(H2.set b5 (.cells [.ptr b 0])).get b=_:=(ae _ _ d5).trans gb
  have gb5:=ai H2 b5 (.cells [.ptr b 0])
  have k3:=k3 (.cells [.ptr b 0])
  generalize H2.set b5 (.cells [.ptr b 0])=H4 at*
  have e2:=k3 _ _ (he 2 (.inl rfl))
  have e3:=k3 _ _ (he 3 (.inr (.inl rfl)))
  have e4:=k3 _ _ (he 4 (.inr (.inr (.inl rfl))))
  have f2:F.err 2=0:=rfl
  have f3:F.err 3=1:=rfl
  have f4:F.err 4=2:=rfl
  rw[f2]at e2
  rw[f3]at e3
  rw[f4]at e4
  have is:=fun k hk=>hA.is b i c k H4 (fun d o hd=>k3 d o (h0 d o hd)) hcode hk gb
  simp only[go_sem,rE,rA,rL,e2]
  refine cy (is 2 (.inl rfl)) rfl (aj.sub_refl _) (fun h=>by simp at h) trivial ?_
  rintro q H5 ⟨rfl,rfl⟩ -
  rw[dk]
  by_cases c2:c=2
  ·simp only[go_sem,rE,rA,rL,c2,gb,gb5]
   exact fin _ _ 2 i rfl rfl k3 (by rw[hsp,c2])
  simp only[go_sem,rE,rA,rL,c2,e3]
  refine cy (is 3 (.inr (.inl rfl))) rfl (aj.sub_refl _) (fun h=>by simp at h) trivial ?_
  rintro q H6 ⟨rfl,rfl⟩ -
  rw[dk]
  by_cases c3:c=3
  ·simp only[go_sem,rE,rA,rL,c3,gb,gb5]
   exact fin _ _ 3 i rfl rfl k3 (by rw[hsp,c3])
  simp only[go_sem,rE,rA,rL,c3,e4]
  refine cy (is 4 (.inr (.inr (.inl rfl)))) rfl (aj.sub_refl _) (fun h=>by simp at h) trivial ?_
  rintro q H7 ⟨rfl,rfl⟩ -
  rw[dk]
  by_cases c4:c=4
  ·simp only[go_sem,rE,rA,rL,c4,gb,gb5]
   exact fin _ _ 4 i rfl rfl k3 (by rw[hsp,c4])
  simp only[go_sem,rE,rA,rL,c4,gb,gb5]
  exact fin _ _ 5 i rfl rfl k3 (by rw[hsp];congr 1;omega)
theorem xl(L:Lib P F)(T:Tys F)(hC:eB P F er){H0:aj}(hA:AsIs P F er H0)(p:Pg)(hc:p.small)(H:aj)(h0:H0.sub H)(he:fy F er H):
 ACalls P 22 [.agg (Pg.enc p)] H fun q H'=>q=I (fB p).1/\H'=H:=by
 refine(L.a Tryz.func22 y22) (by simp[y22]) ?_
 have hco:=fun H1 h1 he1=>yX (er:=er) L T hC hA p hc H1 h1 he1
 simp only[Pg.enc]at hco
 simp only[y22,go_sem,rE,rA,rL,Pg.enc]
 intro b1 hb1
 have g1:=ai H b1 (.cells [.sl 12 none (p.map Fu.enc)])
 have k1:∀c o,H.get c=some o->(H.set b1 (.cells [.sl 12 none (p.map Fu.enc)])).get c=some o:=fun c o hc=>by rw[ae _ _ (ak hc hb1)];exact hc
 generalize H.set b1 _=H1 at*
 refine cy (hco H1 (fun c o hc=>k1 c o (h0 c o hc)) fun c hc=>k1 _ _ (he c hc)) rfl (aj.sub_refl _) (fun h=>by simp at h) trivial ?_
 rintro q H3 ⟨rfl,rfl⟩ -
 rw[dk]
 simp only[go_sem,rE,rA,rL]
 exact al (.refl _) k1 ⟨rfl,rfl⟩
end
noncomputable def jc(p:Pg)(fn n:Int):Option En:=
 if fi p=true/\0<=fn/\fn<=(p.length:Int) - 1 then match p[fn.toNat]? with
  |some f=>if 0<=n/\n<=f.body.length then some ((cF p fn.toNat).body (f.body.take n.toNat))else none
  |none=>none
 else none
section
variable {P:Program}{F:Ids}
end
theorem oQ:∀(l:List St) (m:Nat) (v:Sc),(v.stmts l).2=0->(v.stmts (l.take m)).2=0
 |[],m,v,h=>by rw[List.take_nil];exact h
 |s::l,0,v,h=>by rw[List.take_zero,dT]
 |s::l,m+1,v,h=>by
  rw[List.take_succ_cons,cY]
  rw[cY]at h
  split at h
  ·rename_i h0;rw[if_pos h0];exact oQ l m _ h
  ·rename_i h0;exact absurd h h0
theorem zb(p:Pg)(fn n:Int):(atS p fn n=none/\jc p fn n=none)\/∃v e,atS p fn n=some v/\jc p fn n=some e/\Rel e v []:=by
 by_cases hc:fi p=true/\0<=fn/\fn<p.length
 ·obtain⟨hfine,h0,h1⟩:=hc
  obtain⟨i,rfl⟩:=cD h0
  have hi:i<p.length:=by omega
  unfold jc
  rw[if_pos ⟨hfine,by omega,by omega⟩,dw,ay hi]
  simp only
  by_cases hn:0<=n/\n<=p[i].body.length
  ·obtain⟨m,rfl⟩:=cD hn.1
   have hm:m<=p[i].body.length:=by omega
   rw[qc hfine hi hm,if_pos hn,dw]
   have hfo:=kL hfine
   obtain⟨hpl,hpf⟩:=eX hfo
   have W:=hpf p[i] (az hi)
   have hti:∀f∈p.take i,f.type.okB=true:=fun f hf=>(hpf f (bn hf)).type
   have hcode:gB (p.take i) p[i]=0:=by
    simp only[fi,a6]at hfine
    have h2:=hfine.2
    rw[Option.isNone_iff_eq_none]at h2
    unfold lT at h2
    rw[List.find?_eq_none]at h2
    have:=h2 i (eK.2 hi)
    simp only[dU,ay hi]at this
    simpa using this
   have hr0:Rel (⟨p,i,[],[],0⟩:En) (bi (p.take i)) []:=⟨rfl,rfl,rfl,rfl,⟨by simp[bi],by simp[bi],fun j hj=>by simp[bi]at hj⟩,⟨rfl,fun j hj=>by simp at hj,fun q hq=>by simp[bi]at hq⟩,rfl,fun y hy=>by simp[bi]at hy⟩
   unfold gB at hcode
   split at hcode
   ·simp at hcode
   split at hcode
   ·rename_i a1
    split at hcode
    ·rename_i b0
     have hst:cF p i=(⟨p,i,[],[],0⟩:En).givens p[i].params:=by simp only[cF,ay hi]
     rcases my p[i].params hr0 rfl W.params with⟨-,a2⟩|⟨a2,-⟩
     ·have st:=iL p[i].params (gq (p.take i)) rfl W.params (by have:=W.plen;simp[bi];omega) a1
      have hhi:=st.hi
      have hpl4:=W.plen
      have h00:(bi (p.take i)).vars.length=0:=rfl
      have b1:=oQ p[i].body m _ b0
      have hb:jb (p.take i) p[i] (p[i].body.take m)=(cI (bi (p.take i)) p[i].params).1.stmts (p[i].body.take m):=by unfold jb;rw[if_pos a1]
      rw[hb,if_pos b1,hst]
      rcases jE 4 (p[i].body.take m) (lF W.body m) a2 st.good st.held (by rw[st.p];exact hti) (by omega)with⟨-,b2⟩|⟨b2,-⟩
      ·exact .inr ⟨_,_,rfl,rfl,b2⟩
      ·exact absurd b1 b2
     ·exact absurd a1 a2
    ·rename_i b0;exact absurd hcode b0
   ·rename_i a1;exact absurd hcode a1
  ·rw[if_neg hn]
   refine .inl ⟨?_,rfl⟩
   unfold atS
   rw[if_pos ⟨hfine,h0,h1⟩,dw,ay hi]
   simp only
   rw[if_neg hn]
 ·refine .inl ⟨?_,?_⟩
  ·unfold atS;rw[if_neg hc]
  ·unfold jc;rw[if_neg (fun h=>hc ⟨h.1,h.2.1,by omega⟩)]
def iU(x:Vr):List AC:=[S x.name,.sl 2 none (x.loans.map Pl.enc)]
def lc(x:Vr):Bool:=x.lent&&(!x.dead&&!x.param)
def ug(vs:List Vr):List Vr:=vs.filter lc
section
variable {P:Program}{F:Ids}
theorem Dg(L:Lib P F){p:Pg}(hf:p.fit)(hpl:p.length<=2^20)(fn n:Int):ACalls P 28 [.agg (Pg.enc p),I fn,I n] .empty fun q H'=>match jc p fn n with
 |none=>∃a,q=.tup [.ptr a 0,B false]/\H'.get a=some (.cells [NIL,I 0,NIL,NIL,I 0])
 |some e=>∃a VS NS,q=.tup [.ptr a 0,B true]/\bH H' a e VS NS/\e.ok/\0<e.vars.length:=by
 refine(L.a Tryz.func28 y28) (by simp[y28]) ?_
 simp only[y28,go_sem,rE,rA,rL,Pg.enc]
 intro b3 hb3
 have g3:=ai .empty b3 (.cells [.sl 12 none (p.map Fu.enc)])
 generalize aj.empty.set b3 (.cells [.sl 12 none (p.map Fu.enc)])=H0 at*
 clear hb3
 refine ao (yS L hf) (by simp only[go_sem,rE,Pg.enc]) ?_
 have e0:∀(E':Env) (a:Nat) (H':aj),H'.get a=none->E' 6=.ptr a 0->E' 7=B false->jc p fn n=none->bm.post [.slot 6,.slot 7] (fun q H'=>match jc p fn n with
  |none=>∃a,q=.tup [.ptr a 0,B false]/\H'.get a=some (.cells [NIL,I 0,NIL,NIL,I 0])
  |some e=>∃a VS NS,q=.tup [.ptr a 0,B true]/\bH H' a e VS NS/\e.ok/\0<e.vars.length) .ret E' (H'.set a (.cells [NIL,I 0,NIL,NIL,I 0])):=by
  intro E' a H' ha h6 h7 hn
  refine gA (aj.sub_refl _) ?_
  rw[hn,h6,h7]
  exact⟨a,rfl,ai _ _ _⟩
 have hsf:=qN p
 cases hfine:fi p with
 |false=>
  rw[hfine,gO]at hsf
  simp only[go_sem,rE,rA,rL,hsf]
  intro a ha
  exact e0 _ a _ ha rfl rfl (by simp[jc,hfine])
 |true=>
 rw[hfine,Bool.not_true]at hsf
 have w0:=aI (n:=(p.length:Int) - 1) (by omega) (by omega)
 simp only[go_sem,rE,rA,rL,hsf,g3,am,w0]
 refine ao (pk L fn 0 ((p.length:Int) - 1)) (by simp only[go_sem,rE]) ?_
 by_cases hin:¬(0<=fn/\fn<=(p.length:Int) - 1)
 ·simp only[go_sem,rE,rA,rL,hin,decide_false]
  intro a ha
  exact e0 _ a _ ha rfl rfl (by simp only[jc,hfine,true_and,if_neg hin])
 have hin:=Decidable.not_not.1 hin
 obtain⟨i,rfl⟩:=cD hin.1
 have hi:i<p.length:=by omega
 obtain⟨cf,hcf,CF⟩:=fuC p[i]
 have hgf:(p.map Fu.enc)[i]?=some cf:=by rw[<-hcf];simp[hi]
 have cfb:(cf.drop 4)[0]?=some (.sl 15 none (St.encs p[i].body)):=by rw[cd];exact CF.body
 simp only[go_sem,rE,rA,rL,hin,decide_true,g3,hgf,CF.len,CF.body,cfb,am]
 refine ao (pk L n 0 p[i].body.length) (by simp only[go_sem,rE,St.encs_map,am]) ?_
 have hat:jc p i n=if 0<=n/\n<=p[i].body.length then some ((cF p i).body (p[i].body.take n.toNat))else none:=by
  unfold jc
  rw[if_pos ⟨hfine,by omega,by omega⟩,dw,ay hi]
 by_cases hn:¬(0<=n/\n<=p[i].body.length)
 ·simp only[go_sem,rE,rA,rL,hn,decide_false]
  intro a ha
  exact e0 _ a _ ha rfl rfl (by rw[hat,if_neg hn])
 have hn:=Decidable.not_not.1 hn
 obtain⟨m,rfl⟩:=cD hn.1
 have hm:m<=p[i].body.length:=by omega
 rw[if_pos ⟨by omega,by omega⟩,dw]at hat
 clear e0
 rw[hat]
 simp only[fi,a6]at hfine
 obtain⟨hfo,-⟩:=hfine
 obtain⟨-,hw⟩:=eX hfo
 have W:=hw p[i] (az hi)
 obtain⟨hp1,hcnt⟩:=hf.2 p[i] (az hi)
 obtain⟨s1,s2,s3,s4,s5⟩:=qp hfo hi
 have hwp:=W.plen
 have hokS:∀f∈p,f.okS:=fun f hf=>(hw f hf).okS
 have hst:=lW 4 _ W.body
 have htk:=ju p[i].body m
 have hbs:=(En.stmt_step _).2 (p[i].body.take m) (aC _) (fun s hs=>(hst s (bn hs)).1) (cF p i) s1 (by omega) (by rw[s2];exact hokS)
 simp only[go_sem,rE,rA,rL,hn,decide_true,g3,and_self,Int.natCast_nonneg]
 refine qv L p i hi (by omega) (by omega) (by simp only[go_sem,rE,Pg.enc]) (.refl _) ?_
 intro a VS NS H1 fp hE1 hs1 hn1
 have g3:=hs1 _ _ g3
 have n3:¬aP a VS NS b3:=fun hb=>by have:=hn1 _ hb;simp_all
 generalize cF p i=v0 at*
 simp only[go_sem,rE,rA,rL,g3,hgf,CF.len,cfb,CF.body]
 have hel:(St.encs p[i].body).length=p[i].body.length:=by rw[St.encs_map,am]
 have hle:0<=m/\m<=(St.encs p[i].body).length:=⟨by omega,by omega⟩
 have htke:(St.encs p[i].body).take m=St.encs (p[i].body.take m):=by rw[St.encs_map,St.encs_map,fO]
 simp only[go_sem,rE,rA,rL,hle,and_self,htke]
 refine bR (zL L _ a (p[i].body.take m) (aC _) (fun s hs=>(hst s (bn hs)).1) v0 s1 (by omega) (by omega) (by omega) (by rw[s2];exact hokS) (by rw[s2];omega) (by omega)) hE1 (rfl) (.refl _) (by simp) trivial ?_
 rintro q v1 VS1 NS1 H2' fp1 ⟨rfl,hv1⟩ hE2 hk2 -
 rw[<-hv1]at hbs⊢
 have hlo:=hbs.lo
 simp only[go_sem,rE,rA,rL]
 exact gA (aj.sub_refl _) ⟨a,VS1,NS1,rfl,hE2,hbs.ok,by omega⟩
end
theorem tQ{P:Program}{f:FuncId}{sz:Nat}{H:aj}{R:AC->aj->Prop}(h:∀a c,ACalls P f [.lit (.slice a 0 c)] H R):ACalls P f [.sl sz none []] H R:=by
 intro M w vs s r
 match vs,r with
 |[v],r=>
  have h0:=r.2 0 _ v rfl rfl
  have:∃a c,v=.slice a 0 c:=by cases h0<;>exact⟨_,_,rfl⟩
  obtain⟨a,c,rfl⟩:=this
  exact h a c M w _ s (il.cons (.lit trivial) (il.nil _))
 |[],r=>exact absurd r.1 (by simp)
 |_::_::_,r=>exact absurd r.1 (by simp)
section
variable {P:Program}{F:Ids}{er:bV}
theorem x7(L:Lib P F)(p:List Int)(hl:p.length<=2^31):cN P 51 [au p] (au p):=by
 have key:∀(x:AC) (b:Bool),ru (.slice none 0 0) x=some b->(b=true->p=[])->(∀H,iy H 1 x=some (p.map fun i=>[I i]))->ACalls P 51 [x] .empty fun q H'=>q=au p/\H'=.empty:=by
  intro x b h0 hb hx
  refine(L.a Tryz.func51 y51) (by simp[y51]) ?_
  simp only[y51,go_sem,rE,rA,rL,h0,bJ]
  cases b with
  |true=>
   obtain rfl:=hb rfl
   simp only[go_sem,rE,rA,rL,av]
   exact al (.nil 1) (aj.sub_refl _) ⟨rfl,rfl⟩
  |false=>
   simp only[go_sem,rE,rA,rL,av,ax,aw]
   intro c hc
   refine dN (es:=[]) (ys:=p.map fun i=>[I i]) (.inr ⟨c,0,0,rfl,ai _ _ _⟩) (by simp only[go_sem,rE];exact hx _) (by simp) (by simp;omega) ?_
   intro x' H3 fp hx' hfp hkeep hnew
   simp only[go_sem,rE,rA,rL]
   exact al (q':=au p) hx'.le (aj.sub_empty _) ⟨rfl,rfl⟩
 cases p with
 |nil=>
  refine tQ fun a c=>?_
  cases a with
  |none=>exact key _ true rfl (fun _=>rfl) fun H=>rb _ _ _ _
  |some a=>exact key _ false rfl (fun h=>by simp at h) fun H=>rb _ _ _ _
 |cons i p=>exact key _ false rfl (fun h=>by simp at h) fun H=>rfl
theorem xj(L:Lib P F)(p:Pl)(hl:p.path.length<=2^31):cN P 31 [.agg p.enc] (.agg p.enc):=by
 refine(L.a Tryz.func31 y31) (by simp[y31]) ?_
 simp only[y31,go_sem,rE,rA,rL,Pl.enc]
 intro b1 hb1 b2 hb2
 have d12:=ak (ai _ _ _) hb2
 simp only[go_sem,rE,rA,rL,d12]
 refine ao (x7 L p.path hl) rfl ?_
 simp only[go_sem,rE,rA,rL,d12,au]
 exact bY (off:=0) rfl (ai _ _ _) rfl (.refl _) (aj.sub_empty _) ⟨rfl,rfl⟩
end
theorem LeR.append:∀{a b c d:List (List AC)},LeR a b->LeR c d->LeR (a++c) (b++d)
 |[],[],_,_,_,h=>h
 |x::a,y::b,_,_,h,h'=>⟨h.1,LeR.append h.2 h'⟩
def gk(vs:List Vr):List (List AC):=(ug vs).map iU
noncomputable def pN(p:Pg)(fn n:Int):List Vr:=match atS p fn n with|none=>[]|some v=>ug v.vars
def mQ(l:List Vr):List (List AC):=(l.filter fun x=>x.lent&&!x.param).map iU
theorem y5(l:List Vr)(x:Vr):mQ (l++[x])=if x.lent=true/\x.param=false then mQ l++[iU x]else mQ l:=by
 unfold mQ
 rw[gD,bh]
 cases h:x.lent<;>cases h':x.param<;>simp[h,h']
theorem AL(vs:List Vr):mQ (vs.filter fun x=>!x.dead)=gk vs:=by
 unfold mQ gk ug
 rw[List.filter_filter]
 congr 1
 apply List.filter_congr
 intro x _
 cases h:x.lent<;>cases h':x.param<;>cases h2:x.dead<;>simp[lc,h,h',h2]
section
variable {P:Program}{F:Ids}{er:bV}
theorem qF(L:Lib P F)(T:Tys F)(hC:eB P F er)(p:Pg)(hc:p.small)(fn n:Int)(H:aj)(he:fy F er H):
 ACalls P 13 [.agg (Pg.enc p),I fn,I n] H fun q H'=>q=.sl 2 none ((pN p fn n).map iU)/\H'=H:=by
 refine(L.a Tryz.func13 y13) (by simp[y13]) ?_
 have hat:=fun H1 he1=>c_kAt (er:=er) L T hC p hc fn n H1 he1
 simp only[Pg.enc]at hat
 simp only[y13,go_sem,rE,rA,rL,Pg.enc]
 intro b3 hb3
 have k3:∀c o,H.get c=some o->(H.set b3 (.cells [.sl 12 none (p.map Fu.enc)])).get c=some o:=fun c o hc=>by rw[ae _ _ (ak hc hb3)];exact hc
 have he3:fy F er (H.set b3 (.cells [.sl 12 none (p.map Fu.enc)])):=fun c hc=>k3 _ _ (he c hc)
 generalize H.set b3 _=H3 at*
 refine cy (hat H3 he3) rfl (aj.sub_refl _) (fun h=>by simp at h) trivial ?_
 intro q H4 hr _
 rw[dk]
 cases ha:atS p fn n with
 |none=>
  rw[ha]at hr
  obtain⟨rfl,rfl⟩:=hr
  simp only[go_sem,rE,rA,rL,a7,aB]
  exact al (.nil 2) (fun b o hb=>k3 b o hb) ⟨by simp only[pN,ha];rfl,rfl⟩
 |some v=>
  rw[ha]at hr
  obtain⟨s,ORD,HELD,m1,m2,rfl,hS,hR⟩:=hr
  obtain⟨pi,st⟩:=pZ ha
  have hg:=st.good
  simp only[go_sem,rE,rA,rL,a7,aB]
  refine di (vo L s v st.good.nd st.good.len) hS (by simp only[go_sem,rE,aR,bF]) (.refl _) (fun h=>by simp at h) trivial ?_
  rintro q w ORD2 HELD2 H5 fp ⟨rfl,hwv⟩ hS5 hfr -
  rw[hwv]at hS5
  clear hwv
  have hsub:H.sub H5:=fun b o hb=>(hR.step hfr).sub he3 hS5 b o (k3 b o hb)
  have hls:(pN p fn n).map iU=mQ (v.vars.filter fun x=>!x.dead):=by rw[AL];simp only[pN,ha,gk]
  rw[hls]
  have hws:∀x∈v.vars.filter (fun x=>!x.dead),x∈v.vars:=fun x hx=>(bS.1 hx).1
  have hlw:(v.vars.filter fun x=>!x.dead).length<=v.vars.length:=dz _ _
  have hln:jZ v.vars=(v.vars.filter fun x=>!x.dead).map (·.name):=rfl
  rw[hln]
  have hfind:∀x∈v.vars,v.vars.find? (fun y=>eqB y.name x.name)=some x:=fun x hx=>by
   obtain⟨k,hk,rfl⟩:=be.1 hx
   exact pR hg.nd hk
  have ho:=hS5.obj
  have h1:=hS5.names
  simp only[ScO]at ho
  clear hS hR hat
  have hdead:∀x∈v.vars.filter (fun x=>!x.dead),x.dead=false:=fun x hx=>by have:=(bS.1 hx).2;simpa using this
  generalize(v.vars.filter fun x=>!x.dead)=ws at*
  have hlen:(aD (ws.map (·.name))).length=ws.length:=by simp[aD]
  simp only[go_sem,rE,rA,rL,hlen]
  refine aS ws.length (fun k E' H'=>E' 7=.ptr s 0/\E' 26=.sl 1 none (aD (ws.map (·.name)))/\E' 27=I ws.length/\E' 28=I k/\(∃rs,bL H' 2 rs (E' 9)/\LeR rs (mQ (ws.take k)))/\
   (∀c,H5.get c≠none->H'.get c=H5.get c)/\∀c,co (E' 9) c->H5.get c=none) ⟨rfl,rfl,rfl,rfl,⟨[],.inl ⟨rfl,rfl⟩,trivial⟩,fun _ _=>rfl,fun c ⟨_,_,_,_,e⟩=>by simp[gj,kG]at e⟩ ?_
  rintro k E' H' hk ⟨q7,q26,q27,q28,⟨rs,qa,ql⟩,kk,kt⟩
  have gs:H'.get s=_:=(kk s (by rw[ho];simp)).trans ho
  have gm:H'.get m1=_:=(kk m1 (by rw[h1];simp)).trans h1
  simp only[go_sem,rE,rA,rL,q27,q28]
  refine aF (fun hlt=>?_) (fun hge=>?_)
  ·have hk1:k<ws.length:=by omega
   have w1:=aI (n:=(k:Int)+1) (by omega) (by have:=hg.len;omega)
   have hgn:=kK (ns:=ws.map (·.name)) (k:=k) (by simpa using hk1)
   rw[gC]at hgn
   have hx:=hws _ (az hk1)
   have hsn:=y5 (ws.take k) ws[k]
   rw[<-aA hk1]at hsn
   have hnm:dg v.vars ws[k].name=some (ws[k].ent (fz v.vars ws[k].name)):=by simp only[dg,hfind _ hx,bJ]
   have hnd:=hdead _ (az hk1)
   have hll:=hg.ll _ hx
   have hlp:=hg.lp _ hx
   generalize ws[k]=x at*
   simp only[go_sem,rE,rA,rL,q7,q26,q28,hgn,gs]
   refine fQ (k:=x.name) (g:=dg v.vars) rfl gm trivial ?_
   simp only[hnm,ja,av,if_false,Vr.ent,hnd,gO]
   simp only[go_sem,rE,rA,rL]
   intro b12 hb12
   have k12:∀c,H5.get c≠none->c≠b12:=fun c hc e=>by subst e;rw[kk c hc]at hb12;exact hc hb12
   have qa12:∀o,bL (H'.set b12 o) 2 rs (E' 9):=fun o=>qa.new hb12 o
   have t12:¬co (E' 9) b12:=fun ht=>by obtain⟨n,m,e⟩:=qa.tok ht;rw[hb12]at e;simp at e
   have g12:=ai H' b12 (.cells [.sl 1 none (Ty.encs x.type.kids),B x.param,B x.lent,B true,B (fz v.vars x.name),.sl 2 none (x.loans.map Pl.enc)])
   have kk12:∀c,H5.get c≠none->(H'.set b12 (.cells [.sl 1 none (Ty.encs x.type.kids),B x.param,B x.lent,B true,B (fz v.vars x.name),.sl 2 none (x.loans.map Pl.enc)])).get c=H5.get c:=fun c hc=>by rw[ae _ _ (k12 c hc)];exact kk c hc
   have qa:=qa12 (.cells [.sl 1 none (Ty.encs x.type.kids),B x.param,B x.lent,B true,B (fz v.vars x.name),.sl 2 none (x.loans.map Pl.enc)])
   generalize(H'.set b12 (.cells [.sl 1 none (Ty.encs x.type.kids),B x.param,B x.lent,B true,B (fz v.vars x.name),.sl 2 none (x.loans.map Pl.enc)]))=H6 at*
   have skip:¬(x.lent=true/\x.param=false)->mQ (ws.take (k+1))=mQ (ws.take k):=fun h=>by rw[hsn,if_neg h]
   cases hle:x.lent with
   |false=>
    rw[hle]at g12
    simp only[go_sem,rE,rA,rL,q7,q26,q28,g12,w1]
    exact⟨hk1,H6,aj.sub_refl _,q27,rfl,⟨rs,qa,by rw[skip (by simp[hle])];exact ql⟩,kk12,kt⟩
   |true=>
   rw[hle]at g12
   cases hpa:x.param with
   |true=>
    rw[hpa]at g12
    simp only[go_sem,rE,rA,rL,q7,q26,q28,g12,w1]
    exact⟨hk1,H6,aj.sub_refl _,q27,rfl,⟨rs,qa,by rw[skip (by simp[hpa])];exact ql⟩,kk12,kt⟩
   |false=>
   rw[hpa]at g12
   simp only[go_sem,rE,rA,rL,q7,q26,q28,g12]
   intro b13 hb13
   have d1213:=ak g12 hb13
   have hn13:H5.get b13=none:=by
    cases h:H5.get b13 with
    |none=>rfl
    |some o=>have:=kk12 b13 (by rw[h];simp);rw[hb13,h]at this;simp at this
   have qa:=qa.new hb13 (.cells [S x.name,NIL])
   have t13:¬co (E' 9) b13:=fun ht=>by obtain⟨n,m,e⟩:=qa.tok ht;rw[ai]at e;simp at e
   have g12:(H6.set b13 (.cells [S x.name,NIL])).get b12=_:=(ae _ _ d1213).trans g12
   have g13:(H6.set b13 (.cells [S x.name,NIL])).get b13=_:=ai _ _ _
   have kk13:∀c,H5.get c≠none->(H6.set b13 (.cells [S x.name,NIL])).get c=H5.get c:=fun c hc=>by rw[ae _ _ (by rintro rfl;exact hc hn13)];exact kk12 c hc
   generalize(H6.set b13 (.cells [S x.name,NIL]))=H7 at*
   simp only[go_sem,rE,rA,rL,g12,am]
   refine aS x.loans.length (fun j E2 H2=>E2 7=.ptr s 0/\E2 9=E' 9/\E2 13=.ptr b13 0/\E2 26=.sl 1 none (aD (ws.map (·.name)))/\E2 27=I ws.length/\E2 28=I k/\E2 48=.sl 2 none (x.loans.map Pl.enc)/\E2 49=I x.loans.length/\E2 50=I j/\
    (∃X,H2.get b13=some (.cells [S x.name,X])/\bL H2 2 ((x.loans.take j).map Pl.enc) X/\∀c,co X c->H7.get c=none)/\∀c,H7.get c≠none->c≠b13->H2.get c=H7.get c)
    ⟨q7,rfl,rfl,q26,q27,q28,rfl,rfl,rfl,⟨NIL,g13,.inl ⟨rfl,rfl⟩,fun c ⟨_,_,_,_,e⟩=>by simp at e⟩,fun _ _ _=>rfl⟩ ?_
   rintro j E2 H2 hj ⟨r7,r9,r13,r26,r27,r28,r48,r49,r50,⟨X,gX,aX,tX⟩,kX⟩
   simp only[go_sem,rE,rA,rL,r49,r50]
   have qa2:bL H2 2 rs (E' 9):=qa.mono fun c hc=>kX c (by obtain⟨n,m,e⟩:=qa.tok hc;rw[e];simp) (by rintro rfl;exact t13 hc)
   refine aF (fun hlt2=>?_) (fun hge2=>?_)
   ·have hj1:j<x.loans.length:=by omega
    have w2:=aI (n:=(j:Int)+1) (by omega) (by omega)
    have hgp:(x.loans.map Pl.enc)[j]?=some [S x.loans[j].name,au x.loans[j].path]:=by simp[hj1,Pl.enc]
    have hcp:=xj L x.loans[j] (by have:=hlp _ (az hj1);omega)
    simp only[Pl.enc]at hcp
    have htk:(x.loans.take (j+1)).map Pl.enc=(x.loans.take j).map Pl.enc++[x.loans[j].enc]:=by rw[aA hj1,bh];rfl
    simp only[Pl.enc]at htk
    generalize x.loans[j]=y at*
    simp only[go_sem,rE,rA,rL,r48,r50,hgp]
    intro b15 hb15
    have d1315:=ak gX hb15
    have gX2:=fun o=>(ae H2 o d1315).trans gX
    simp only[go_sem,rE,rA,rL,r13,gX2]
    refine ao hcp rfl ?_
    simp only[go_sem,rE,rA,rL,r13,gX2,ax,aq,aw]
    refine dN (es:=(x.loans.take j).map Pl.enc) (ys:=[[S y.name,au y.path]]) (by simp only[go_sem,rE,rA,rL];exact aX.new hb15 _) (by simp[go_sem,aZ]) (by simp) (by simp;omega) ?_
    intro x' H8 fp hx' hfp hkeep hnew
    simp only[go_sem,rE,rA,rL]at hkeep hnew
    have nX:∀c,H7.get c≠none->¬co X c:=fun c hc h=>hc (tX c h)
    have g8:H8.get b13=some (.cells [S x.name,X]):=by rw[hkeep b13 (by rw[gX2];simp) (nX b13 (by rw[g13];simp))];exact gX2 _
    have hx8:∀c,co x' c->H7.get c=none/\c≠b13:=fun c hc=>by
     have e0:H7.get c=none:=by
      rcases hnew c hc with h|h
      ·exact tX c h
      ·cases hq:H7.get c with
       |none=>rfl
       |some o=>
        exfalso
        by_cases hcb:c=b13
        ·subst hcb;rw[gX2]at h;simp at h
        have hc2:=kX c (by rw[hq];simp) hcb
        have hne:c≠b15:=by rintro rfl;rw[hb15,hq]at hc2;simp at hc2
        rw[ae _ _ hne,hc2,hq]at h;simp at h
     exact⟨e0,by rintro rfl;rw[g13]at e0;simp at e0⟩
    simp only[go_sem,rE,rA,rL,r13,g8,hx'.one,r50,w2]
    have nb:¬co x' b13:=fun h=>(hx8 b13 h).2 rfl
    have hx9:∀o,bL (H8.set b13 o) 2 ((x.loans.take (j+1)).map Pl.enc) x':=fun o=>by
     rw[htk]
     exact hx'.mono fun c hc=>ae _ _ (hx8 c hc).2
    refine⟨hj1,_,aj.sub_refl _,r7,r9,r26,r27,r28,r48,r49,rfl,⟨x',ai _ _ _,hx9 _,fun c hc=>(hx8 c hc).1⟩,fun c hc hne=>?_⟩
    rw[ae _ _ hne,hkeep c ?_ (nX c hc),ae _ _ ?_]
    ·exact kX c hc hne
    ·rintro rfl;rw[kX c hc hne]at hb15;exact hc hb15
    ·rw[ae _ _ (by rintro rfl;rw[kX c hc hne]at hb15;exact hc hb15),kX c hc hne];exact hc
   ·have hjj:j=x.loans.length:=by omega
    subst hjj
    rw[aM]at aX
    simp only[go_sem,rE,rA,rL,r7,r9,r13,r26,r28,gX,ax,aq,aw]
    refine dN (es:=rs) (ys:=[[S x.name,X]]) (by simp only[go_sem,rE,rA,rL];exact qa2) (by simp[go_sem,aZ]) (by simp) (by
     have h1:=ql.length
     have h2:(mQ (ws.take k)).length<=ws.length:=by
      unfold mQ
      rw[am]
      exact bQ (dz _ _) (by rw[bk];omega)
     have:=hg.len
     simp;omega) ?_
    intro x' H8 fp hx' hfp hkeep hnew
    simp only[go_sem,rE,rA,rL]at hkeep hnew
    simp only[go_sem,rE,rA,rL,r28,w1]
    have k2:∀c,H5.get c≠none->H2.get c=H5.get c:=fun c hc=>by
     have:=kk13 c hc
     rw[kX c (by rw[this];exact hc) (by rintro rfl;exact hc hn13),this]
    refine⟨hk1,H8,aj.sub_refl _,r7,r26,r27,rfl,⟨_,hx',by rw[hsn,if_pos ⟨hle,hpa⟩];exact ql.append ⟨⟨⟨.refl _,rfl⟩,⟨aX.le,rfl⟩,trivial⟩,trivial⟩⟩,fun c hc=>?_,fun c hc=>?_⟩
    ·rw[hkeep c (by rw[k2 c hc];exact hc) (fun h=>hc (kt c h))];exact k2 c hc
    ·rcases hnew c hc with h|h
     ·exact kt c h
     ·cases hq:H5.get c with
      |none=>rfl
      |some o=>rw[k2 c (by rw[hq];simp),hq]at h;simp at h
  ·have hkk:k=ws.length:=by omega
   subst hkk
   rw[aM]at ql
   simp only[go_sem,rE,rA,rL]
   refine al (Le.trans qa.le (.slR ql)) (fun b o hb=>?_) ⟨rfl,rfl⟩
   have:=hsub b o hb
   rw[kk b (by rw[this];simp)];exact this
end
theorem tF(l:List Vr)(x:Vr):gk (l++[x])=if lc x then gk l++[iU x]else gk l:=by
 unfold gk ug
 rw[gD,bh]
 cases h:lc x<;>simp[h]
section
variable {P:Program}{F:Ids}
theorem Bf(L:Lib P F){p:Pg}(hf:p.fit)(hpl:p.length<=2^20)(fn n:Int):ACalls P 12 [.agg (Pg.enc p),I fn,I n] .empty fun q H'=>q=.sl 2 none (match jc p fn n with|none=>[]|some e=>gk e.vars)/\H'=.empty:=by
 refine(L.a Tryz.func12 y12) (by simp[y12]) ?_
 have h4:=Dg L hf hpl fn n
 simp only[Pg.enc]at h4
 simp only[y12,go_sem,rE,rA,rL,Pg.enc,ax,aw,aZ]
 intro b3 hb3 b14 hb14
 have d3:=ak (ai _ _ _) hb14
 have g3:((aj.empty.set b3 (.cells [.sl 12 none (p.map Fu.enc)])).set b14 (.tail 0 0)).get b3=some (.cells [.sl 12 none (p.map Fu.enc)]):=by rw[ae _ _ d3,ai]
 have gt:=ai (aj.empty.set b3 (.cells [.sl 12 none (p.map Fu.enc)])) b14 (.tail 0 0)
 generalize(aj.empty.set b3 (.cells [.sl 12 none (p.map Fu.enc)])).set b14 (.tail 0 0)=H0 at*
 clear hb3 hb14
 simp only[go_sem,rE,rA,rL,g3]
 refine cy h4 rfl (aj.sub_empty _) (by simp) trivial ?_
 intro q H1 hq hnew
 have hn1:∀c,H1.get c≠none->H0.get c=none:=fun c hc=>hnew c hc rfl
 have gt1:(H0.swap .empty H1).get b14=some (.tail 0 0):=by
  rw[bC]
  cases h:H1.get b14 with
  |none=>exact gt
  |some o=>have:=hn1 b14 (by rw[h];simp);rw[gt]at this;simp at this
 have up:∀c,H1.get c≠none->(H0.swap .empty H1).get c=H1.get c:=fun c hc=>by
  rw[bC]
  cases h:H1.get c with
  |none=>exact absurd h hc
  |some o=>rfl
 have n14:H1.get b14=none:=by
  cases h:H1.get b14 with
  |none=>rfl
  |some o=>have:=hn1 b14 (by rw[h];simp);rw[gt]at this;simp at this
 cases hs:jc p fn n with
 |none=>
  rw[hs]at hq
  obtain⟨a,rfl,ga⟩:=hq
  have ga1:=(up a (by rw[ga];simp)).trans ga
  generalize H0.swap .empty H1=H2 at*
  simp only[go_sem,rE,rA,rL,ga1]
  refine aS 0 (fun k E' H'=>E' 7=.sl 2 (some (b14,0,0)) []/\E' 8=.ptr a 0/\E' 10=I k/\H'.get a=some (.cells [NIL,I 0,NIL,NIL,I 0])) ⟨rfl,rfl,rfl,ga1⟩ ?_
  rintro k E' H' hk ⟨q7,q8,q10,ga⟩
  obtain rfl:k=0:=by omega
  simp only[go_sem,rE,rA,rL,q7,q8,q10,ga,de,Int.lt_irrefl]
  exact al (.tok 2 _ _) (aj.sub_empty _) ⟨rfl,rfl⟩
 |some v=>
  rw[hs]at hq
  obtain⟨a,VS,NS,rfl,hE1,hok,hlo⟩:=hq
  have hE0:bH (H0.swap .empty H1) a v VS NS:=hE1.mono fun d hd=>up d (hE1.mem hd)
  have nt0:¬aP a VS NS b14:=fun h=>hE1.mem h n14
  generalize H0.swap .empty H1=H2 at*
  clear hE1 hn1 up n14 hnew h4
  simp only[go_sem,rE,rA,rL]
  refine aS v.vars.length (fun k E' H'=>bH H' a v VS NS/\E' 8=.ptr a 0/\E' 9=B true/\E' 10=I k/\(∃rs,bL H' 2 rs (E' 7)/\LeR rs (gk (v.vars.take k)))/\∀c,co (E' 7) c->¬aP a VS NS c)
   ⟨hE0,rfl,rfl,rfl,⟨[],.inr ⟨b14,0,0,rfl,gt1⟩,trivial⟩,fun c ⟨_,_,_,_,e⟩=>by simp[gj,kG]at e;obtain⟨-,⟨rfl,-⟩,-⟩:=e;exact nt0⟩ ?_
  rintro k E' H' hk ⟨hE,q8,q9,q10,⟨rs,qa,ql⟩,qt⟩
  have ho:=hE.obj
  simp only[du]at ho
  obtain⟨vb,vc,cs,rfl,hr0⟩:=hE.vars.row (i:=0) (by omega)
  have hlim:v.vars.length<=LIM:=by have:=hok.len;simp[LIM];omega
  simp only[go_sem,rE,rA,rL,q8,q9,q10,ho,hlim]
  by_cases hlt:(k:Int)<v.vars.length
  ·have hk1:k<v.vars.length:=by omega
   have w1:=aI (n:=(k:Int)+1) (by omega) (by have:=hok.len;omega)
   obtain⟨vb',vc',cs',e',hr⟩:=hE.vars.row hk1
   simp at e'
   obtain⟨rfl,rfl⟩:=e'
   have h6:=hr.row6
   have hg:=hr.get
   have hsn:=tF (v.vars.take k) v.vars[k]
   rw[<-aA hk1]at hsn
   have hvo:=(hok.all _ (az hk1)).1
   have hll:=hvo.loans
   have hlp:=hvo.paths
   clear hr
   generalize v.vars[k]=x at*
   have h61:=h6.1
   have h62:=h6.2
   simp only[Vr.enc]at h61
   simp only[go_sem,rE,rA,rL,hlt,q8,q9,q10,ho,hg,h61,h62]
   intro b11 hb11
   have e11:¬aP a (.lit (.slice (some ⟨vb,0,none⟩) v.vars.length vc)) NS b11:=fun h=>hE.mem h hb11
   have hE6:bH (H'.set b11 (.cells [S x.name,B x.lent,B x.param,.sl 1 none (Ty.encs x.type.kids),.sl 2 none (x.loans.map Pl.enc),B x.dead])) a v (.lit (.slice (some ⟨vb,0,none⟩) v.vars.length vc)) NS:=
    hE.mono fun d hd=>ae _ _ (by rintro rfl;exact e11 hd)
   have qa6:=qa.new hb11 (.cells [S x.name,B x.lent,B x.param,.sl 1 none (Ty.encs x.type.kids),.sl 2 none (x.loans.map Pl.enc),B x.dead])
   have g11:=ai H' b11 (.cells [S x.name,B x.lent,B x.param,.sl 1 none (Ty.encs x.type.kids),.sl 2 none (x.loans.map Pl.enc),B x.dead])
   generalize(H'.set b11 (.cells [S x.name,B x.lent,B x.param,.sl 1 none (Ty.encs x.type.kids),.sl 2 none (x.loans.map Pl.enc),B x.dead]))=H6 at*
   have skip:lc x=false->gk (v.vars.take (k+1))=gk (v.vars.take k):=fun h=>by rw[hsn,h];rfl
   cases hle:x.lent with
   |false=>
    rw[hle]at g11
    simp only[go_sem,rE,rA,rL,q8,q9,q10,g11,w1]
    exact⟨hk1,H6,aj.sub_refl _,hE6,rfl,⟨rs,qa6,by rw[skip (by simp[lc,hle])];exact ql⟩,qt⟩
   |true=>
   rw[hle]at g11
   cases hde:x.dead with
   |true=>
    rw[hde]at g11
    simp only[go_sem,rE,rA,rL,q8,q9,q10,g11,w1]
    exact⟨hk1,H6,aj.sub_refl _,hE6,rfl,⟨rs,qa6,by rw[skip (by simp[lc,hde])];exact ql⟩,qt⟩
   |false=>
   rw[hde]at g11
   cases hpa:x.param with
   |true=>
    rw[hpa]at g11
    simp only[go_sem,rE,rA,rL,q8,q9,q10,g11,w1]
    exact⟨hk1,H6,aj.sub_refl _,hE6,rfl,⟨rs,qa6,by rw[skip (by simp[lc,hpa])];exact ql⟩,qt⟩
   |false=>
   rw[hpa]at g11
   have hil:lc x=true:=by simp[lc,hle,hde,hpa]
   clear hE hg ho hb11 skip qa e11
   simp only[go_sem,rE,rA,rL,q8,q9,q10,g11]
   intro b12 hb12
   have d1112:=ak g11 hb12
   have e12:¬aP a (.lit (.slice (some ⟨vb,0,none⟩) v.vars.length vc)) NS b12:=fun h=>hE6.mem h hb12
   have hE7:bH (H6.set b12 (.cells [S x.name,NIL])) a v (.lit (.slice (some ⟨vb,0,none⟩) v.vars.length vc)) NS:=
    hE6.mono fun d hd=>ae _ _ (by rintro rfl;exact e12 hd)
   have qa7:=qa6.new hb12 (.cells [S x.name,NIL])
   have t12:¬co (E' 7) b12:=fun ht=>by obtain⟨n,m,e⟩:=qa7.tok ht;rw[ai]at e;simp at e
   have g11:(H6.set b12 (.cells [S x.name,NIL])).get b11=_:=(ae _ _ d1112).trans g11
   have g12:(H6.set b12 (.cells [S x.name,NIL])).get b12=_:=ai _ _ _
   generalize(H6.set b12 (.cells [S x.name,NIL]))=H7 at*
   clear hE6 qa6 hb12
   refine aS x.loans.length (fun j E2 H2=>E2 7=E' 7/\E2 8=.ptr a 0/\E2 9=B true/\E2 10=I k/\E2 11=.ptr b11 0/\E2 12=.ptr b12 0/\E2 13=I j/\
    (∃X,H2.get b12=some (.cells [S x.name,X])/\(∃ys,bL H2 2 ys X/\LeR ys ((x.loans.take j).map Pl.enc))/\∀c,co X c->H7.get c=none)/\∀c,H7.get c≠none->c≠b12->H2.get c=H7.get c)
    ⟨rfl,q8,q9,q10,rfl,rfl,rfl,⟨NIL,g12,⟨[],.inl ⟨rfl,rfl⟩,trivial⟩,fun c ⟨_,_,_,_,e⟩=>by simp at e⟩,fun _ _ _=>rfl⟩ ?_
   rintro j E2 H2 hj ⟨r7,r8,r9,r10,r11,r12,r13,⟨X,gX,⟨ys,aX,lX⟩,tX⟩,kX⟩
   have g11':=(kX b11 (by rw[g11];simp) d1112).trans g11
   simp only[go_sem,rE,rA,rL,r11,r13,g11',am]
   have qa2:bL H2 2 rs (E' 7):=qa7.mono fun c hc=>kX c (by obtain⟨n,m,e⟩:=qa7.tok hc;rw[e];simp) (by rintro rfl;exact t12 hc)
   refine aF (fun hlt2=>?_) (fun hge2=>?_)
   ·have hj1:j<x.loans.length:=by omega
    have w2:=aI (n:=(j:Int)+1) (by omega) (by omega)
    have hgp:(x.loans.map Pl.enc)[j]?=some [S x.loans[j].name,au x.loans[j].path]:=by simp[hj1,Pl.enc]
    have htk:(x.loans.take (j+1)).map Pl.enc=(x.loans.take j).map Pl.enc++[x.loans[j].enc]:=by rw[aA hj1,bh];rfl
    simp only[Pl.enc]at htk
    have hpl:=hlp _ (az hj1)
    generalize x.loans[j]=y at*
    simp only[go_sem,rE,rA,rL,r11,r12,r13,g11',gX,hgp,au,ax,aw,aZ]
    intro bq hbq
    have d12q:=ak gX hbq
    have d11q:=ak g11' hbq
    have gXq:(H2.set bq (.tail 0 0)).get b12=_:=(ae _ _ d12q).trans gX
    have g11q:(H2.set bq (.tail 0 0)).get b11=_:=(ae _ _ d11q).trans g11'
    have aXq:bL (H2.set bq (.tail 0 0)) 2 ys X:=aX.new hbq _
    have tXq:¬co X bq:=fun h=>by obtain⟨n,m,e⟩:=aX.tok h;rw[hbq]at e;simp at e
    simp only[go_sem,rE,rA,rL,r11,r13,g11q,hgp,au]
    refine dN (es:=[]) (ys:=y.path.map fun i=>[I i]) (.inr ⟨bq,0,0,rfl,ai _ _ _⟩) (by simp only[go_sem,rE]) (by simp) (by simp;omega) ?_
    intro x1 H8 fp1 hx1 hfp1 hkeep1 hnew1
    simp only[go_sem,rE,rA,rL,ax,aq,aw,hx1.one]at hkeep1 hnew1⊢
    have k1:∀c,H2.get c≠none->H8.get c=H2.get c:=fun c hc=>by
     have hcq:c≠bq:=by rintro rfl;exact hc hbq
     rw[hkeep1 c (by rw[ae _ _ hcq];exact hc) (fun⟨_,_,_,_,e⟩=>by simp at e;exact hcq e.2.1.1.symm),ae _ _ hcq]
    have aX8:bL H8 2 ys X:=aX.mono fun c hc=>k1 c (by obtain⟨n,m,e⟩:=aX.tok hc;rw[e];simp)
    have gX8:H8.get b12=_:=(k1 b12 (by rw[gX];simp)).trans gX
    refine dN (es:=ys) (ys:=[[S y.name,x1]]) (by simp only[go_sem,rE,rA,rL];exact aX8) (by simp[go_sem,aZ]) (by simp) (by have:=lX.length;simp at this⊢;omega) ?_
    intro x' H9 fp2 hx' hfp2 hkeep2 hnew2
    simp only[go_sem,rE,rA,rL]at hkeep2 hnew2
    have nX:∀c,H7.get c≠none->¬co X c:=fun c hc h=>hc (tX c h)
    have g9:H9.get b12=some (.cells [S x.name,X]):=by rw[hkeep2 b12 (by rw[gX8];simp) (nX b12 (by rw[g12];simp))];exact gX8
    have k27:∀c,H7.get c≠none->H8.get c≠none:=fun c hc=>by
     by_cases hcb:c=b12
     ·subst hcb;rw[gX8];simp
     ·rw[k1 c (by rw[kX c hc hcb];exact hc),kX c hc hcb];exact hc
    have hx9:∀c,co x' c->H7.get c=none/\c≠b12:=fun c hc=>by
     have e0:H7.get c=none:=by
      rcases hnew2 c hc with h|h
      ·exact tX c h
      ·cases hq:H7.get c with
       |none=>rfl
       |some o=>exact absurd h (k27 c (by rw[hq];simp))
     exact⟨e0,by rintro rfl;rw[g12]at e0;simp at e0⟩
    simp only[go_sem,rE,rA,rL,r12,g9,hx'.one,r13,w2]
    refine⟨hj1,_,aj.sub_refl _,r7,r8,r9,r10,r11,rfl,⟨x',ai _ _ _,⟨_,hx'.mono fun c hc=>ae _ _ (hx9 c hc).2,by rw[htk];exact lX.append ⟨⟨⟨.refl _,rfl⟩,⟨hx1.le,rfl⟩,trivial⟩,trivial⟩⟩,fun c hc=>(hx9 c hc).1⟩,fun c hc hne=>?_⟩
    rw[ae _ _ hne,hkeep2 c (k27 c hc) (nX c hc),k1 c (by rw[kX c hc hne];exact hc)]
    exact kX c hc hne
   ·have hjj:j=x.loans.length:=by omega
    subst hjj
    rw[aM]at lX
    simp only[go_sem,rE,rA,rL,r7,r8,r9,r10,r12,gX,ax,aq,aw]
    refine dN (es:=rs) (ys:=[[S x.name,X]]) (by simp only[go_sem,rE,rA,rL];exact qa2) (by simp[go_sem,aZ]) (by simp) (by
     have h1:=ql.length
     have h2:(gk (v.vars.take k)).length<=v.vars.length:=by
      unfold gk ug
      rw[am]
      exact bQ (dz _ _) (by rw[bk];omega)
     have:=hok.len
     simp;omega) ?_
    intro x' H8 fp hx' hfp hkeep hnew
    simp only[go_sem,rE,rA,rL]at hkeep hnew
    simp only[go_sem,rE,rA,rL,r8,r9,r10,w1]
    have k2:∀c,aP a (.lit (.slice (some ⟨vb,0,none⟩) v.vars.length vc)) NS c->H2.get c=H7.get c:=fun c hc=>kX c (hE7.mem hc) (by rintro rfl;exact e12 hc)
    refine⟨hk1,H8,aj.sub_refl _,hE7.mono fun d hd=>?_,rfl,⟨_,hx',by rw[hsn,hil,if_pos rfl];exact ql.append ⟨⟨⟨.refl _,rfl⟩,⟨Le.trans aX.le (.slR lX),rfl⟩,trivial⟩,trivial⟩⟩,fun c hc hb=>?_⟩
    ·rw[hkeep d (by rw[k2 d hd];exact hE7.mem hd) (fun h=>qt d h hd)];exact k2 d hd
    ·rcases hnew c hc with h|h
     ·exact qt c h hb
     ·rw[k2 c hb]at h;exact hE7.mem hb h
  ·have hkk:k=v.vars.length:=by omega
   subst hkk
   rw[aM]at ql
   simp only[go_sem,rE,rA,rL,hlt]
   exact al (Le.trans qa.le (.slR ql)) (aj.sub_empty _) ⟨rfl,rfl⟩
end
section
variable {P:Program}{F:Ids}
theorem pL{a:List ByteArray}{k:Nat}(h:k<a.length):(aD a)[k]?=some [S a[k]]:=by simp[aD,h]
theorem kM(L:Lib P F)(a:List ByteArray)(hl:a.length<=2^30):cN P 21 [.sl 1 none (aD a),.sl 1 none (aD a)] (B true):=by
 refine(L.a Tryz.func21 y21) (by simp[y21]) ?_
 have hlen:(aD a).length=a.length:=by simp[aD]
 simp only[y21,go_sem,rE,rA,rL,hlen,dC,dB,dx]
 refine aS a.length (fun k E' H'=>E' 0=.sl 1 none (aD a)/\E' 1=.sl 1 none (aD a)/\E' 5=I k) ⟨rfl,rfl,rfl⟩ ?_
 rintro k E H hk ⟨q0,q1,q5⟩
 simp only[go_sem,rE,rA,rL,q0,q5,hlen]
 refine aF (fun hlt=>?_) (fun hge=>?_)
 ·have hk1:k<a.length:=by omega
  have w1:=aI (n:=(k:Int)+1) (by omega) (by omega)
  simp only[go_sem,rE,rA,rL,q0,q1,q5,pL hk1,dx,w1]
  exact⟨hk1,H,aj.sub_refl _,by simp⟩
 ·have hkk:k=a.length:=by omega
  subst hkk
  simp only[go_sem,rE,rA,rL]
  exact al (.refl _) (aj.sub_empty _) ⟨rfl,rfl⟩
theorem c_lhHas(L:Lib P F)(a:List ByteArray)(s:ByteArray)(hl:a.length<=2^30):cN P 17 [.sl 1 none (aD a),S s] (B (a.any fun m=>eqB m s)):=by
 refine(L.a Tryz.func17 y17) (by simp[y17]) ?_
 have hlen:(aD a).length=a.length:=by simp[aD]
 simp only[y17,go_sem,rE,rA,rL]
 refine aS a.length (fun k E' H'=>E' 0=.sl 1 none (aD a)/\E' 1=S s/\E' 5=I k/\(a.take k).any (fun m=>eqB m s)=false) ⟨rfl,rfl,rfl,by simp⟩ ?_
 rintro k E H hk ⟨q0,q1,q5,hall⟩
 simp only[go_sem,rE,rA,rL,q0,q5,hlen]
 refine aF (fun hlt=>?_) (fun hge=>?_)
 ·have hk1:k<a.length:=by omega
  have w1:=aI (n:=(k:Int)+1) (by omega) (by omega)
  simp only[go_sem,rE,rA,rL,q0,q1,q5,pL hk1,cw]
  cases h:eqB a[k] s with
  |true=>
   simp only[go_sem,rE,rA,rL]
   refine al (.refl _) (aj.sub_empty _) ⟨?_,rfl⟩
   have:a.any (fun m=>eqB m s)=true:=iH.2 ⟨a[k],az hk1,h⟩
   rw[this];rfl
  |false=>
   simp only[go_sem,rE,rA,rL,q0,q1,q5,w1]
   refine⟨hk1,H,aj.sub_refl _,by simp,?_⟩
   rw[aA hk1,fA,hall]
   simp[h]
 ·have hkk:k=a.length:=by omega
  subst hkk
  rw[aM]at hall
  simp only[go_sem,rE,rA,rL]
  exact al (.refl _) (aj.sub_empty _) ⟨by rw[hall];rfl,rfl⟩
end
theorem Cx{f:Fu}{m:Nat}(h:f.lo m):bB f.body<=1000*(6+m):=by
 have key:∀l:List St,(∀s∈l,s.cnt<=1000)->bB l<=1000*l.length:=by
  intro l
  induction l with
  |nil=>intro _;rw[eQ];omega
  |cons s l ih=>
   intro h
   have h1:=h s (by simp)
   have h2:=ih fun x hx=>h x (by simp[hx])
   rw[cP,aU];omega
 have:=key f.body h.bcnt
 have:=h.blen
 omega
theorem drawn.fit{m:Nat}{p:Pg}(h:drawn m p)(hm:m<=4):p.fit:=by
 refine⟨fun f hf=>⟨?_,(h.1 f hf).bsm⟩,fun f hf=>⟨(h.1 f hf).pars.1,?_⟩⟩
 ·have:=Cx (h.1 f hf);omega
 ·have:=Cx (h.1 f hf);omega
section
variable {P:Program}{F:Ids}{er:bV}
end
noncomputable def wsS(p:Pg)(fn n:Int):List Vr:=match atS p fn n with|none=>[]|some v=>v.vars.filter fun x=>!x.dead
def jD(x:Vr):Bool:=x.lent&&!x.param
theorem wC(p:Pg)(fn n:Int):pN p fn n=(wsS p fn n).filter jD:=by
 unfold pN wsS
 cases atS p fn n with
 |none=>rfl
 |some v=>
  simp only[ug,List.filter_filter]
  apply List.filter_congr
  intro x _
  cases h:x.lent<;>cases h':x.param<;>cases h2:x.dead<;>simp[lc,jD,h,h',h2]
theorem Aq(p:Pg)(fn n:Int):(match jc p fn n with|none=>[]|some e=>gk e.vars)=(pN p fn n).map iU:=by
 unfold pN
 rcases zb p fn n with⟨h1,h2⟩|⟨v,e,h1,h2,hr⟩
 ·rw[h1,h2];rfl
 ·rw[h1,h2]
  simp only
  rw[hr.vars,cv];rfl
theorem BB(p:Pg)(fn n:Int):(wsS p fn n).length<=2^30/\((wsS p fn n).map (·.name)).Nodup/\(∀x∈wsS p fn n,x.loans.length<=2^30)/\∀x∈wsS p fn n,∀q∈x.loans,q.path.length<=2^30:=by
 unfold wsS
 cases ha:atS p fn n with
 |none=>simp
 |some v=>
  obtain⟨pi,st⟩:=pZ ha
  have hg:=st.good
  exact⟨bQ (dz _ _) hg.len,(List.filter_sublist.map _).nodup hg.nd,fun x hx=>hg.ll x (bS.1 hx).1,fun x hx=>hg.lp x (bS.1 hx).1⟩
theorem k9{a:List Vr}{k:Nat}(h:k<a.length):(a.map iU)[k]?=some [S a[k].name,.sl 2 none (a[k].loans.map Pl.enc)]:=by simp[h,iU]
section
variable {P:Program}{F:Ids}
theorem CX(L:Lib P F){p:Pg}(hf:p.fit)(hpl:p.length<=2^20)(fn n:Int):ACalls P 12 [.agg (Pg.enc p),I fn,I n] .empty fun q H'=>q=.sl 2 none ((pN p fn n).map iU)/\H'=.empty:=
 (Bf L hf hpl fn n).mono fun q H' h=>by rw[<-Aq];exact h
end
structure ma(Q:Prop)(vs:List Vr):Prop where
 cl:∀x∈vs,x.dead=false->x.lent=true->∀q∈x.loans,dW vs q.name=false
 ap:∀x∈vs,∀y∈vs,x.name≠y.name->x.dead=false->x.lent=true->y.dead=false->y.lent=true->∀q∈x.loans,∀r∈y.loans,q.meet r=false
 pl:∀x∈vs,x.param=true->x.loans=[]/\x.dead=false/\(x.lent=true->Q)
 ne:∀x∈vs,x.lent=true->x.param=false->x.loans≠[]
def HInv(vs:List Vr)(held:List Pl):Prop:=∀h∈held,dW vs h.name=false/\∀x∈vs,x.dead=false->x.lent=true->∀q∈x.loans,q.meet h=false
structure Sc.G(Q:Prop)(v:Sc):Prop where
 ok:ki v.vars
 inv:ma Q v.vars
 held:v.lost=false->HInv v.vars v.held
theorem AI{a b:Pl}(h:a.meet b=true):a.name=b.name:=by
 unfold Pl.meet at h
 simp only[a6]at h
 exact of_decide_eq_true h.1
theorem zN(K:List ByteArray)(vs:List Vr)(n:ByteArray):dW (K.foldl ix vs) n=(dW vs n||K.any fun m=>eqB m n):=by
 rw[iW]
 unfold dW
 rw[List.find?_map]
 have:((fun x:Vr=>eqB x.name n)∘fun x:Vr=>if K.any (fun m=>eqB m x.name)then {x with dead:=true}else x)=fun x=>eqB x.name n:=by
  funext x
  simp only[Function.comp]
  split<;>rfl
 rw[this]
 cases h:vs.find? (fun x=>eqB x.name n)with
 |none=>simp
 |some x=>
  have hx:x.name=n:=by have:=List.find?_some h;exact cG.1 this
  subst hx
  simp only[bJ]
  cases hk:K.any (fun m=>eqB m x.name)<;>simp
theorem CQ{vs:List Vr}{n:ByteArray}(h:dW vs n=false):∃x∈vs,x.name=n/\x.dead=false:=by
 unfold dW at h
 split at h
 ·rename_i x hf
  exact⟨x,List.mem_of_find?_eq_some hf,by have:=List.find?_some hf;exact cG.1 this,h⟩
 ·simp at h
theorem CO{vs:List Vr}(hnd:(vs.map (·.name)).Nodup){x:Vr}(hx:x∈vs):dW vs x.name=x.dead:=by
 obtain⟨k,hk,rfl⟩:=be.1 hx
 unfold dW
 rw[pR hnd hk]
theorem yH{vs:List Vr}(hok:ki vs){p:Pl}:∀(i:Nat) (h:i<vs.length),vs[i].name∈bM vs p->∀k (hk:k<vs.length),vs[k].name=p.name->k<i:=by
 intro i
 induction i using mc with
 |_ i ih=>
  intro h hm k hk hn
  obtain⟨-,-,q,hq,hq2⟩:=(jt p vs hok i h).1 hm
  obtain⟨j,hj,e⟩:=hok.up i h q hq
  have hjl:j<vs.length:=by omega
  rw[ay hjl]at e
  simp at e
  rcases hq2 with h1|h1
  ·have h2:=AI h1
   have:j=k:=sv hok.nd hjl hk (by rw[e,h2,hn])
   omega
  ·rw[<-e]at h1
   have:=ih j hj hjl h1 k hk hn
   omega
theorem CK{vs:List Vr}(hok:ki vs)(p:Pl):p.name∉bM vs p:=by
 intro h
 obtain⟨i,hi,e⟩:=js vs p h
 have:=yH hok i hi (by rw[e];exact h) i hi e
 omega
theorem yo{vs:List Vr}{p:Pl}(h:(fh vs p).2=0):dW vs p.name=false:=by
 unfold fh at h
 unfold dW
 cases hx:vs.find? (fun x=>eqB x.name p.name)with
 |none=>rw[hx]at h;simp at h
 |some x=>
  rw[hx]at h
  cases hd:x.dead with
  |false=>exact hd
  |true=>simp[hd]at h
theorem jY{K:List ByteArray}{vs:List Vr}{y:Vr}(h:y∈K.foldl ix vs)(hd:y.dead=false):y∈vs/\y.name∉K:=by
 rw[iW]at h
 obtain⟨x,hx,e⟩:=aW.1 h
 split at e
 ·subst e;simp at hd
 ·rename_i hk
  subst e
  exact⟨hx,fun hm=>hk ((j7 K x.name).2 hm)⟩
theorem qL{Q:Prop}{v:Sc}(h:v.G Q)(p:Pl):(v.use p).1.G Q/\((v.use p).2.2=0->HInv (v.use p).1.vars [p])/\((v.use p).1.lost=false->v.lost=false):=by
 unfold Sc.use
 by_cases hz:(fh v.vars p).2=0
 ·rw[if_pos hz]
  simp only
  have hp:=yo hz
  have hok':ki ((bM v.vars p).foldl ix v.vars):=h.ok.core (lS _ _)
  have hdW:∀n,dW ((bM v.vars p).foldl ix v.vars) n=(dW v.vars n||(bM v.vars p).any fun m=>eqB m n):=zN _ _
  have keep:∀n,dW v.vars n=false->n∉bM v.vars p->dW ((bM v.vars p).foldl ix v.vars) n=false:=fun n h1 h2=>by
   rw[hdW,h1,dt]
   cases hh:(bM v.vars p).any fun m=>eqB m n with
   |false=>rfl
   |true=>exact absurd ((j7 _ _).1 hh) h2
  have idx:∀x∈v.vars,x.dead=false->x.lent=true->x.name∉bM v.vars p->∀q∈x.loans,q.meet p=false/\q.name∉bM v.vars p:=by
   intro x hx hd hl hn q hq
   obtain⟨i,hi,rfl⟩:=be.1 hx
   have hno:¬_:=fun hc=>hn ((jt p v.vars h.ok i hi).2 hc)
   refine⟨?_,fun hm=>hno ⟨hd,hl,q,hq,.inr hm⟩⟩
   cases hm:q.meet p with
   |false=>rfl
   |true=>exact absurd ⟨hd,hl,q,hq,.inl hm⟩ hno
  refine⟨⟨hok',⟨?_,?_,?_,?_⟩,?_⟩,fun _=>?_,fun hl=>?_⟩
  ·intro x hx hd hl q hq
   obtain⟨hx0,hn⟩:=jY hx hd
   exact keep _ (h.inv.cl x hx0 hd hl q hq) (idx x hx0 hd hl hn q hq).2
  ·intro x hx y hy hne hd hl hd2 hl2
   exact h.inv.ap x (jY hx hd).1 y (jY hy hd2).1 hne hd hl hd2 hl2
  ·intro x hx hpa
   have hx2:=hx
   rw[iW]at hx
   obtain⟨y,hy,e⟩:=aW.1 hx
   split at e
   ·rename_i hk
    have hm:=(j7 _ _).1 hk
    obtain⟨i,hi,rfl⟩:=be.1 hy
    obtain⟨-,-,q,hq,-⟩:=(jt p v.vars h.ok i hi).1 hm
    subst e
    have:=(h.inv.pl _ hy hpa).1
    rw[this]at hq;simp at hq
   ·subst e;exact h.inv.pl _ hy hpa
  ·intro x hx hl hpa
   obtain⟨y,hy,-,e2,-,e4,e5⟩:=j5 (lS _ _) hx
   rw[<-e2];exact h.inv.ne y hy (e4.trans hl) (e5.trans hpa)
  ·intro hlo q hq
   simp only[Bool.or_eq_false_iff]at hlo
   have hh:=h.held hlo.1 q hq
   have h2:=List.any_eq_false.1 hlo.2 q hq
   simp only[Bool.not_eq_true,Bool.or_eq_false_iff]at h2
   refine⟨keep _ hh.1 fun hm=>?_,fun x hx hd hl=>hh.2 x (jY hx hd).1 hd hl⟩
   have:=List.any_eq_false.1 h2.2 _ hm
   rw[dx]at this;simp at this
  ·intro q hq
   simp at hq;subst hq
   refine⟨keep _ hp (CK h.ok _),fun x hx hd hl r hr=>?_⟩
   obtain⟨hx0,hn⟩:=jY hx hd
   exact(idx x hx0 hd hl hn r hr).1
  ·simp only[Bool.or_eq_false_iff]at hl
   exact hl.1
 ·rw[if_neg hz]
  exact⟨h,fun h0=>absurd h0 hz,id⟩
theorem sN{Q:Prop}:∀(e:Ex) {v:Sc},v.G Q->(v.expr e).1.G Q/\((v.expr e).1.lost=false->v.lost=false)
 |.mk k n p ks,v,h=>by
  rw[Sc.expr_eq]
  split
  ·exact⟨h,id⟩
  split
  ·exact⟨(qL h p).1,(qL h p).2.2⟩
  split
  ·rename_i a b r
   have h1:=sN a h
   have h2:=sN b h1.1
   split
   ·split
    ·split<;>exact⟨h2.1,fun hl=>h1.2 (h2.2 hl)⟩
    ·exact⟨h2.1,fun hl=>h1.2 (h2.2 hl)⟩
   ·exact h1
  ·exact⟨h,id⟩
termination_by x=>SizeOf.sizeOf x
theorem wn{Q:Prop}{v:Sc}(h:v.G Q)(e:Ex):(v.number e).1.G Q:=by rw[eI];exact(sN e h).1
theorem CB{Q:Prop}{vs:List Vr}{x:Vr}(h:ma Q vs)(hok:ki (vs++[x]))(hh:HInv vs x.loans)(hd:x.dead=false)(hp:x.param=false)(hne:x.lent=true->x.loans≠[]):ma Q (vs++[x]):=by
 have hnew:x.name∉vs.map (·.name):=by
  have:=hok.nd
  rw[bh,eR]at this
  intro hm
  exact this.2.2 _ hm x.name (by simp) rfl
 have hdW:∀n,dW vs n=false->dW (vs++[x]) n=false:=fun n hn=>by
  obtain⟨y,hy,rfl,hyd⟩:=CQ hn
  rw[CO hok.nd (List.mem_append_left _ hy)];exact hyd
 have split:∀y∈vs++[x],y∈vs\/y=x:=fun y hy=>by simpa using hy
 refine⟨fun y hy hyd hyl q hq=>?_,fun y hy z hz hn h1 h2 h3 h4 q hq r hr=>?_,fun y hy hyp=>?_,fun y hy hyl hyp=>?_⟩
 ·rcases split y hy with hy1|rfl
  ·exact hdW _ (h.cl y hy1 hyd hyl q hq)
  ·exact hdW _ (hh q hq).1
 ·rcases split y hy with hy1|rfl
  ·rcases split z hz with hz1|rfl
   ·exact h.ap y hy1 z hz1 hn h1 h2 h3 h4 q hq r hr
   ·exact(hh r hr).2 y hy1 h1 h2 q hq
  ·rcases split z hz with hz1|rfl
   ·rw[mJ];exact(hh q hq).2 z hz1 h3 h4 r hr
   ·exact absurd rfl hn
 ·rcases split y hy with hy1|rfl
  ·exact h.pl y hy1 hyp
  ·rw[hp]at hyp;simp at hyp
 ·rcases split y hy with hy1|rfl
  ·exact h.ne y hy1 hyl hyp
  ·exact hne hyl
theorem ov{Q:Prop}{v:Sc}{x:Vr}(h:ma Q v.vars)(hz:(eE v x).2=0)(hok:ki (eE v x).1.vars)(hh:HInv v.vars x.loans)(hd:x.dead=false)(hp:x.param=false)(hne:x.lent=true->x.loans≠[]):ma Q (eE v x).1.vars:=by
 unfold eE at hz hok⊢
 split at hz
 ·simp at hz
 ·rename_i hc
  rw[if_neg hc]at hok⊢
  exact CB h hok hh hd hp hne
theorem D2{Q:Prop}:∀(zas:List Ag) (ps:List Pa) {v:Sc},v.G Q->zas.length=ps.length->(dK v zas ps).2=0->(dK v zas ps).1.G Q/\((v.held≠[]\/∃p∈ps,p.lent=true)->(dK v zas ps).1.held≠[])
 |[],[],v,h,_,_=>⟨h,fun hc=>by simpa[dK]using hc⟩
 |a::zas,p::ps,v,h,hl,hz=>by
  rw[dK]at hz⊢
  split at hz
  ·rename_i h0
   rw[if_pos h0]
   have key:(iG v a p).1.G Q/\((v.held≠[]\/p.lent=true)->(iG v a p).1.held≠[]):=by
    unfold iG at h0⊢
    split at h0
    ·simp at h0
    rename_i hc
    rw[if_neg hc]
    have hap:a.lent=p.lent:=by simpa using hc
    split at h0
    ·rename_i hal
     rw[if_pos hal]
     simp only at h0⊢
     have hu:=qL h a.place
     have hu0:(v.use a.place).2.2=0:=by
      split at h0
      ·assumption
      ·exact h0
     refine⟨⟨hu.1.ok,hu.1.inv,fun hlo q hq=>?_⟩,fun _=>by simp⟩
     rcases aG.1 hq with hq|hq
     ·exact hu.1.held hlo q hq
     ·exact hu.2.1 hu0 q hq
    ·rename_i hal
     rw[if_neg hal]
     refine⟨(sN a.expr h).1,fun hc=>?_⟩
     rcases hc with hc|hc
     ·rw[(Sc.expr_core a.expr v).2.2.1];exact hc
     ·rw[<-hap]at hc;exact absurd hc hal
   have ih:=D2 zas ps key.1 (by simpa using hl) hz
   refine⟨ih.1,fun hc=>ih.2 ?_⟩
   rcases hc with hc|⟨q,hq,hql⟩
   ·exact .inl (key.2 (.inl hc))
   ·rcases bg.1 hq with rfl|hq
    ·exact .inl (key.2 (.inr hql))
    ·exact .inr ⟨q,hq,hql⟩
  ·rename_i h0;exact absurd hz h0
 |[],p::ps,v,h,hl,_=>by simp at hl
 |a::zas,[],v,h,hl,_=>by simp at hl
def mL(p:List Fu):Prop:=∀f∈p,f.lent=true->∃x∈f.params,x.lent=true
theorem CW{Q:Prop}{v:Sc}(h:v.G Q){n fn:ByteArray}{zas:List Ag}(hp:mL v.p)(hz:(gF v n fn zas).2=0)(hok:ki (gF v n fn zas).1.vars):ma Q (gF v n fn zas).1.vars:=by
 unfold gF at hz hok⊢
 split at hz
 ·simp at hz
 ·rename_i f hf
  rw[hf]at hok
  simp only at hok⊢
  split at hz
  ·rename_i hl
   rw[if_pos hl]at hok⊢
   split at hz
   ·rename_i h0
    rw[if_pos h0]at hok⊢
    have ha:=D2 zas f.params h hl h0
    unfold gJ at hz hok⊢
    split at hz
    ·simp at hz
    ·rename_i hlo
     rw[if_neg hlo]at hok⊢
     have hlo':(dK v zas f.params).1.lost=false:=by simpa using hlo
     refine ov ha.1.inv hz hok ?_ rfl rfl ?_
     ·intro q hq
      simp only at hq
      split at hq
      ·exact ha.1.held hlo' q hq
      ·simp at hq
     ·intro hfl
      simp only at hfl⊢
      rw[if_pos hfl]
      exact ha.2 (.inr (hp f (List.mem_of_find?_eq_some hf) hfl))
   ·rename_i h0;exact absurd hz h0
  ·simp at hz
theorem Cm{Q:Prop}{v:Sc}(h:v.G Q){n:ByteArray}{p o:Pl}{e:Ex}(hz:(gQ v n p o e).2=0)(hok:ki (gQ v n p o e).1.vars):ma Q (gQ v n p o e).1.vars:=by
 unfold gQ at hz hok⊢
 split at hz
 ·rename_i h0
  rw[if_pos h0]at hok⊢
  have h1:=wn h e
  generalize(v.number e).1=v1 at*
  unfold ji at hz hok⊢
  split at hz
  ·rename_i h2
   rw[if_pos h2]at hok⊢
   have h3:=qL h1 p
   have h4:((v1.use p).1.hold1 p).G Q:=⟨h3.1.ok,h3.1.inv,fun _=>h3.2.1 h2⟩
   have h5:=qL h4 o
   unfold oG at hz hok⊢
   split at hz
   ·rename_i h6
    rw[if_pos h6]at hok⊢
    split at hz
    ·rename_i h7
     rw[if_pos h7]at hok⊢
     split at hz
     ·simp at hz
     ·rename_i h8
      rw[if_neg h8]at hok⊢
      have h8':(((v1.use p).1.hold1 p).use o).1.lost=false:=by simpa using h8
      refine ov (v:=(((v1.use p).1.hold1 p).use o).1.clear) h5.1.inv hz hok ?_ rfl rfl (fun _=>by simp)
      have hH:=h5.1.held h8'
      rw[(((v1.use p).1.hold1 p).use_core o).2.2.1]at hH
      intro q hq
      simp only[bg,cg,or_false]at hq
      rcases hq with rfl|rfl
      ·exact hH q (by simp[Sc.hold1])
      ·exact h5.2.1 h6 q (by simp)
    ·simp at hz
   ·rename_i h6;exact absurd hz h6
  ·rename_i h2;exact absurd hz h2
 ·rename_i h0;exact absurd hz h0
theorem zF{vs ws:List Vr}(h:(ws.take vs.length).map Vr.core=vs.map Vr.core){x:Vr}(hx:x∈vs):∃y∈ws,y.core=x.core:=by
 have:x.core∈(ws.take vs.length).map Vr.core:=by rw[h];exact cz hx
 obtain⟨y,hy,e⟩:=aW.1 this
 exact⟨y,bn hy,e⟩
theorem C7{Q:Prop}{vs zas bs:List Vr}(hv:ma Q vs)(hnd:(vs.map (·.name)).Nodup)(ha:ma Q zas)(na:(zas.map (·.name)).Nodup)(hb:ma Q bs)(nb:(bs.map (·.name)).Nodup)
(pa:(zas.take vs.length).map Vr.core=vs.map Vr.core)(pb:(bs.take vs.length).map Vr.core=vs.map Vr.core):ma Q (gR vs (vs.map (·.name)) [zas,bs]):=by
 have hcore:=oX vs (vs.map (·.name)) [zas,bs]
 obtain⟨L,e,hL⟩:=sD [zas,bs] (vs.map (·.name)) vs
 rw[e]at hcore⊢
 have one:∀ws,ma Q ws->(ws.map (·.name)).Nodup->(ws.take vs.length).map Vr.core=vs.map Vr.core->∀x∈vs,x.lent=true->dW ws x.name=false->∀q∈x.loans,dW ws q.name=false:=by
  intro ws hw nw pw x hx hl hd q hq
  obtain⟨y,hy,ey⟩:=zF pw hx
  have e1:y.name=x.name:=(congrArg Vr.name ey:y.core.name=x.core.name)
  have e2:y.lent=x.lent:=(congrArg Vr.lent ey:y.core.lent=x.core.lent)
  have e3:y.loans=x.loans:=(congrArg Vr.loans ey:y.core.loans=x.core.loans)
  rw[<-e1,CO nw hy]at hd
  exact hw.cl y hy hd (e2.trans hl) q (by rw[e3];exact hq)
 refine⟨fun x hx hd hl q hq=>?_,fun x hx y hy hne h1 h2 h3 h4=>hv.ap x (jY hx h1).1 y (jY hy h3).1 hne h1 h2 h3 h4,fun x hx hp=>?_,fun x hx hl hp=>?_⟩
 ·obtain⟨hx0,hn⟩:=jY hx hd
  have hno:∀w∈[zas,bs],dW w x.name=false:=fun w hw=>by
   cases h:dW w x.name with
   |false=>rfl
   |true=>exact absurd ((hL _).2 ⟨aW.2 ⟨x,hx0,rfl⟩,w,hw,h⟩) hn
  rw[zN,hv.cl x hx0 hd hl q hq,dt]
  cases h:L.any fun m=>eqB m q.name with
  |false=>rfl
  |true=>
   exfalso
   obtain⟨-,w,hw,hd2⟩:=(hL _).1 ((j7 _ _).1 h)
   have hxw:=hno w hw
   simp only[bg,cg,or_false]at hw
   rcases hw with rfl|rfl
   ·rw[one _ ha na pa x hx0 hl hxw q hq]at hd2;simp at hd2
   ·rw[one _ hb nb pb x hx0 hl hxw q hq]at hd2;simp at hd2
 ·have hx2:=hx
  rw[iW]at hx
  obtain⟨y,hy,e⟩:=aW.1 hx
  have hyp:y.param=true:=by split at e<;>subst e<;>exact hp
  have hvp:=hv.pl y hy hyp
  split at e
  ·rename_i hk
   exfalso
   obtain⟨-,w,hw,hd2⟩:=(hL _).1 ((j7 _ _).1 hk)
   have two:∀ws,ma Q ws->(ws.map (·.name)).Nodup->(ws.take vs.length).map Vr.core=vs.map Vr.core->dW ws y.name=false:=by
    intro ws hw nw pw
    obtain⟨z,hz,ez⟩:=zF pw hy
    have e1:z.name=y.name:=(congrArg Vr.name ez:z.core.name=y.core.name)
    have e2:z.param=y.param:=(congrArg Vr.param ez:z.core.param=y.core.param)
    rw[<-e1,CO nw hz]
    exact(hw.pl z hz (e2.trans hyp)).2.1
   simp only[bg,cg,or_false]at hw
   rcases hw with rfl|rfl
   ·rw[two _ ha na pa]at hd2;simp at hd2
   ·rw[two _ hb nb pb]at hd2;simp at hd2
  ·subst e;exact hvp
 ·obtain⟨y,hy,-,e2,-,e4,e5⟩:=j5 hcore hx
  rw[<-e2];exact hv.ne y hy (e4.trans hl) (e5.trans hp)
def xK(Q:Prop)(d:Nat):Prop:=∀(l:List St),bP d l=true->∀{e:En} {u:Sc},Rel e u []->u.good->u.held=[]->(∀f∈u.p,f.type.okB=true)->mL u.p->u.vars.length+200*d<=2^30->ma Q u.vars->
 (u.stmts l).2=0->ma Q (u.stmts l).1.vars
theorem BS{Q:Prop}{d:Nat}(ih:xK Q d){s:St}(hs:dv (bP d) s=true){e:En}{u:Sc}(h:Rel e u [])(hu:u.good)(hh:u.held=[])(hp:∀f∈u.p,f.type.okB=true)(hg:mL u.p)(hn:u.vars.length+200*d<=2^30)
(hi:ma Q u.vars)(hz:(u.stmt s).2=0):ma Q (u.stmt s).1.vars:=by
 have hr:ki (u.stmt s).1.vars:=by
  rcases rO (jE d) hs h hu hh hp hn with⟨-,r⟩|⟨r,-⟩
  ·exact r.ok
  ·exact absurd hz r
 have hG:u.G Q:=⟨h.ok,hi,fun _ q hq=>by rw[hh]at hq;simp at hq⟩
 have hE:=sN s.expr hG
 rw[Sc.stmt_eq]at hz hr⊢
 rcases stW hs with⟨k,r,n,x⟩|⟨k,r,n,p⟩|⟨k,r,p,x⟩|⟨k,r,n,f,a⟩|⟨k,r,x,t,l⟩|⟨k,r,n,p,o,x⟩<;>simp only[k,bw,if_true,if_false]at hz hr⊢
 ·split at hz
  ·rename_i h0
   rw[if_pos h0]at hr⊢
   exact ov hE.1.inv hz hr (fun q hq=>by simp at hq) rfl rfl (fun h=>by simp at h)
  ·rename_i h0;exact absurd hz h0
 ·have hU:=qL hG s.place
  split at hz
  ·rename_i h0
   rw[if_pos h0]at hr⊢
   exact ov hU.1.inv hz hr (hU.2.1 h0) rfl rfl (fun _=>by simp)
  ·rename_i h0;exact absurd hz h0
 ·have hU:=qL hE.1 s.place
  split at hz
  ·rename_i h0
   rw[if_pos h0]
   exact hU.1.inv
  ·rename_i h0;exact absurd hz h0
 ·exact CW hG hg hz hr
 ·rcases oU x h with⟨a1,T1,a2⟩|⟨a1,a2⟩
  ·rw[if_pos a1]at hz hr⊢
   have se:=j8 hu hh s.expr
   have hN:=(wn hG s.expr).inv
   rw[<-eI]at se
   obtain rfl:=a2.nil se.held
   have hhi:=se.hi
   generalize(u.number s.expr).1=v at*
   generalize(e.expr s.expr).1.num (e.expr s.expr).2=w at*
   have hvp:∀f∈v.p,f.type.okB=true:=by rw[se.p];exact hp
   have hvg:mL v.p:=by rw[se.p];exact hg
   unfold Sc.ways mP at hz hr⊢
   have hA:=jE d s.thn t a2 se.good se.held hvp (by omega)
   split at hz
   ·rename_i b1
    rw[if_pos b1]at hr⊢
    rcases hA with⟨-,b2⟩|⟨b2,-⟩
    ·have iA:=ih s.thn t a2 se.good se.held hvp hvg (by omega) hN b1
     have st:=fP d s.thn t v se.good se.held a2.lost0 hvp (by omega) b1
     obtain⟨g,hg'⟩:=st.giv
     have gg:Sc.good {v with given:=(v.stmts s.thn).1.given}:=by
      rw[hg']
      exact⟨fun y hy=>by simp only[fA,se.good.ok y hy,eD],se.good.nd,se.good.len,se.good.hl,se.good.hp,se.good.lp,se.good.ll,se.good.ty⟩
     have rB:Rel {w with names:=(w.body s.thn).names} {v with given:=(v.stmts s.thn).1.given} []:=⟨a2.vars,b2.names,a2.code,a2.p,a2.ok,a2.tmp,a2.lost,gg.ok⟩
     have hB:=jE d s.els l rB gg se.held hvp (by show v.vars.length+_<=_;omega)
     split at hz
     ·rename_i c1
      rw[if_pos c1]at hr⊢
      rcases hB with⟨-,c2⟩|⟨c2,-⟩
      ·have iB:=ih s.els l rB gg se.held hvp hvg (by show v.vars.length+_<=_;omega) hN c1
       have st2:=fP d s.els l {v with given:=(v.stmts s.thn).1.given} gg se.held a2.lost0 hvp (by show v.vars.length+_<=_;omega) c1
       exact C7 hN a2.ok.nd iA b2.ok.nd iB c2.ok.nd st.pre st2.pre
      ·exact absurd c1 c2
     ·rename_i c1;exact absurd hz c1
    ·exact absurd b1 b2
   ·rename_i b1;exact absurd hz b1
  ·rw[if_neg a1]at hz;exact absurd hz a1
 ·exact Cm hG hz hr
theorem Ap(Q:Prop):∀d,xK Q d:=by
 intro d
 induction d with
 |zero=>intro l h;simp[bP]at h
 |succ d ih=>
  have many:∀l:List St,(∀s∈l,dv (bP d) s=true)->∀{e:En} {u:Sc},Rel e u []->u.good->u.held=[]->(∀f∈u.p,f.type.okB=true)->mL u.p->u.vars.length+l.length+200*d+150<=2^30->ma Q u.vars->
   (u.stmts l).2=0->ma Q (u.stmts l).1.vars:=by
   intro l
   induction l with
   |nil=>intro _ e u h _ _ _ _ _ hi _;rw[dT];exact hi
   |cons s l ihl=>
    intro hs e u h hu hh hp hg hn hi hz
    simp only[aU]at hn
    rw[cY]at hz⊢
    split at hz
    ·rename_i h0
     rw[if_pos h0]
     have hss:=hs s ff
     rcases rO (jE d) hss h hu hh hp (by omega)with⟨-,r⟩|⟨r,-⟩
     ·have s1:=tZ (d:=d) hss hu hh h.lost0 hp (by omega) h0
      have hhi:=s1.hi
      exact ihl (fun x hx=>hs x (eA _ hx)) r s1.good s1.held (by rw[s1.p];exact hp) (by rw[s1.p];exact hg) (by omega) (BS ih hss h hu hh hp hg (by omega) hi h0) hz
     ·exact absurd h0 r
    ·rename_i h0;exact absurd hz h0
  intro l hl e u h hu hh hp hg hn hi hz
  simp only[bP,a6,decide_eq_true_eq,aV]at hl
  exact many l hl.2 h hu hh hp hg (by omega) hi hz
theorem sG:∀(ps:List Pa) (v:Sc),(cI v ps).2=0->(cI v ps).1.vars=v.vars++ps.map Pa.vr
 |[],v,_=>by simp[cI]
 |p::ps,v,hz=>by
  rw[cI]at hz⊢
  split at hz
  ·rename_i h0
   rw[if_pos h0,sG ps _ hz]
   have:(eE v p.vr).1.vars=v.vars++[p.vr]:=by
    unfold eE at h0⊢
    split at h0
    ·simp at h0
    ·rename_i hc;rw[if_neg hc]
   rw[this];simp
  ·rename_i h0;exact absurd hz h0
theorem yp(p:List Fu)(ps:List Pa)(hz:(cI (bi p) ps).2=0):ma (∃x∈ps,x.lent=true) (cI (bi p) ps).1.vars:=by
 have h:=sG ps _ hz
 simp only[bi,cU]at h
 have key:∀x∈(cI (bi p) ps).1.vars,x.loans=[]/\x.dead=false/\x.param=true/\(x.lent=true->∃x∈ps,x.lent=true):=by
  intro x hx
  simp only[bi]at hx
  rw[h]at hx
  obtain⟨y,hy,rfl⟩:=aW.1 hx
  exact⟨rfl,rfl,rfl,fun hl=>⟨y,hy,hl⟩⟩
 exact⟨fun x hx _ _ q hq=>by rw[(key x hx).1]at hq;simp at hq,fun x hx y hy _ _ _ _ _ q hq=>by rw[(key x hx).1]at hq;simp at hq,fun x hx _=>⟨(key x hx).1,(key x hx).2.1,(key x hx).2.2.2⟩,fun x hx _ hp=>by rw[(key x hx).2.2.1]at hp;simp at hp⟩
theorem Co:∀(vs:List Vr),(∀x∈vs,x.lent=true->x.param=false->x.loans≠[])->∀n,fz vs n=true->∃x∈vs,x.param=true/\x.lent=true:=by
 intro vs
 induction vs using nv with
 |nil=>intro _ n h;simp[Cp]at h
 |snoc vs x ih=>
  intro hne n h
  have ih':=ih fun y hy=>hne y (List.mem_append_left _ hy)
  rw[jG]at h
  split at h
  ·split at h
   ·rename_i hp
    exact⟨x,by simp,hp,h⟩
   ·rename_i hp
    have hp':x.param=false:=by simpa using hp
    simp only[a6,aV]at h
    obtain⟨q,hq⟩:=List.exists_mem_of_ne_nil _ (hne x (by simp) h.1 hp')
    obtain⟨y,hy,h2⟩:=ih' _ (h.2 q hq)
    exact⟨y,List.mem_append_left _ hy,h2⟩
  ·obtain⟨y,hy,h2⟩:=ih' _ h
   exact⟨y,List.mem_append_left _ hy,h2⟩
theorem qZ{p:Pg}(hfine:fi p=true){i:Nat}(hi:i<p.length):gB (p.take i) p[i]=0:=by
 simp only[fi,a6]at hfine
 have h2:=hfine.2
 rw[Option.isNone_iff_eq_none]at h2
 unfold lT at h2
 rw[List.find?_eq_none]at h2
 have:=h2 i (eK.2 hi)
 simp only[dU,ay hi]at this
 simpa using this
theorem Dy{p:Pg}(hfine:fi p=true){i:Nat}(hi:i<p.length)(hg:mL (p.take i))(m:Nat)(hz:(jb (p.take i) p[i] (p[i].body.take m)).2=0):(jb (p.take i) p[i] (p[i].body.take m)).1.G (∃x∈p[i].params,x.lent=true):=by
 have hfo:=kL hfine
 obtain⟨hpl,hpf⟩:=eX hfo
 have W:=hpf p[i] (az hi)
 have hti:∀f∈p.take i,f.type.okB=true:=fun f hf=>(hpf f (bn hf)).type
 have hr0:Rel (⟨p,i,[],[],0⟩:En) (bi (p.take i)) []:=⟨rfl,rfl,rfl,rfl,⟨by simp[bi],by simp[bi],fun j hj=>by simp[bi]at hj⟩,⟨rfl,fun j hj=>by simp at hj,fun q hq=>by simp[bi]at hq⟩,rfl,fun y hy=>by simp[bi]at hy⟩
 unfold jb at hz⊢
 split at hz
 ·rename_i a1
  rw[if_pos a1]
  rcases my p[i].params hr0 rfl W.params with⟨-,a2⟩|⟨a2,-⟩
  ·have st:=iL p[i].params (gq (p.take i)) rfl W.params (by have:=W.plen;simp[bi];omega) a1
   have hhi:=st.hi
   have hpl4:=W.plen
   have h00:(bi (p.take i)).vars.length=0:=rfl
   have hb:=lF W.body m
   have hiv:=Ap _ 4 (p[i].body.take m) hb a2 st.good st.held (by rw[st.p];exact hti) (by rw[st.p];exact hg) (by omega) (yp _ _ a1) hz
   have s2:=fP 4 (p[i].body.take m) hb _ st.good st.held a2.lost0 (by rw[st.p];exact hti) (by omega) hz
   rcases jE 4 (p[i].body.take m) hb a2 st.good st.held (by rw[st.p];exact hti) (by omega)with⟨-,b2⟩|⟨b2,-⟩
   ·exact⟨b2.ok,hiv,fun _ q hq=>by rw[s2.held]at hq;simp at hq⟩
   ·exact absurd hz b2
  ·exact absurd a1 a2
 ·rename_i a1;exact absurd hz a1
theorem CE{p:Pg}(hfine:fi p=true):∀i,i<=p.length->mL (p.take i):=by
 intro i
 induction i with
 |zero=>intro _ f hf;simp at hf
 |succ i ih=>
  intro hi
  have hi':i<p.length:=by omega
  have ih:=ih (by omega)
  rw[aA hi']
  intro f hf hl
  rcases aG.1 hf with hf|hf
  ·exact ih f hf hl
  ·simp at hf;subst hf
   have hc:=qZ hfine hi'
   unfold gB at hc
   split at hc
   ·simp at hc
   split at hc
   ·rename_i a1
    split at hc
    ·rename_i b0
     have hb:jb (p.take i) p[i] (p[i].body.take p[i].body.length)=(cI (bi (p.take i)) p[i].params).1.stmts p[i].body:=by
      rw[aM];unfold jb;rw[if_pos a1]
     have hG:=Dy hfine hi' ih p[i].body.length (by rw[hb];exact b0)
     rw[hb]at hG
     generalize((cI (bi (p.take i)) p[i].params).1.stmts p[i].body).1=v at*
     unfold sg pI at hc
     rw[if_pos hl]at hc
     have hU:=(qL hG p[i].gives).1
     split at hc
     ·split at hc
      ·split at hc
       ·simp at hc
       ·rename_i ho
        rw[hl,ce]at ho
        have ho':fz (v.use p[i].gives).1.vars p[i].gives.name=true:=by simpa using ho
        obtain⟨x,hx,hp,hxl⟩:=Co _ hU.inv.ne _ ho'
        exact(hU.inv.pl x hx hp).2.2 hxl
      ·simp at hc
     ·rename_i hc2;exact absurd hc hc2
    ·rename_i b0;exact absurd hc b0
   ·rename_i a1;exact absurd hc a1
theorem at_G{p:Pg}{fn n:Int}{v:Sc}(h:atS p fn n=some v):∃Q,v.G Q:=by
 obtain⟨i,m,hi,rfl,rfl,hm,hf,hz,rfl⟩:=zU h
 exact⟨_,Dy hf hi (CE hf i (by omega)) m hz⟩
noncomputable def dF(p:Pg)(fn n:Int)(pl:Pl):List ByteArray:=match atS p fn n with|none=>[]|some v=>if pl.okB then bM v.vars pl else []
theorem wT(p:Pl)(vs:List Vr)(hok:ki vs):(eM vs p).map (fun i=>((vs[i]?).map (·.name)).getD (bl []))=bM vs p:=by
 have hT:rh vs [] []:=⟨rfl,fun i hi=>by simp at hi,fun q hq=>by simp at hq⟩
 have hmem:∀i,i<vs.length->(i∈eM vs p↔((vs[i]?).map (·.name)).getD (bl [])∈bM vs p):=by
  intro i hi
  have h1:=qB (p:=p) hok hT i
  rw[cv]at h1
  rw[h1,ay hi]
  simp only[bJ,Option.getD_some]
  rw[jt p vs hok i hi]
  unfold InS
  simp only[cv]
  exact⟨fun⟨_,h⟩=>h,fun h=>⟨hi,h⟩⟩
 have e1:eM vs p=(dj vs.length).reverse.filter fun i=>(bM vs p).any fun m=>eqB m (((vs[i]?).map (·.name)).getD (bl [])):=by
  classical
  unfold eM tE
  apply List.filter_congr
  intro i hi
  have hi':i<vs.length:=by simpa using hi
  have h2:=hmem i hi'
  unfold eM tE at h2
  rw[bS]at h2
  simp only[hi,true_and,decide_eq_true_eq]at h2
  refine bj.2 ⟨fun h=>(j7 _ _).2 (h2.1 (of_decide_eq_true h)),fun h=>decide_eq_true (h2.2 ((j7 _ _).1 h))⟩
 rw[e1]
 clear e1 hmem hT
 induction vs using nv with
 |nil=>rfl
 |snoc vs x ih=>
  have ih:=ih hok.front
  have hnew:x.name∉vs.map (·.name):=by
   have:=hok.nd
   rw[bh,eR]at this
   intro hm
   exact this.2.2 _ hm x.name (by simp) rfl
  have hlast:(((vs++[x])[vs.length]?).map (·.name)).getD (bl [])=x.name:=by simp
  have hpre:∀i,i<vs.length->(vs++[x])[i]?=vs[i]?:=fun i hi=>by rw[aL hi]
  have hns:x.name∉bM vs p:=fun h=>by
   obtain⟨i,hi,e⟩:=js vs p h
   exact hnew (aW.2 ⟨vs[i],az hi,e⟩)
  rw[bv,List.length_singleton,List.range_succ,List.reverse_append,List.reverse_singleton,List.singleton_append,fF,hlast]
  have hrest:∀E:List ByteArray,(∀i,i<vs.length->(E.any fun m=>eqB m (((vs[i]?).map (·.name)).getD (bl [])))=((bM vs p).any fun m=>eqB m (((vs[i]?).map (·.name)).getD (bl []))))->
   (((dj vs.length).reverse.filter fun i=>E.any fun m=>eqB m ((((vs++[x])[i]?).map (·.name)).getD (bl []))).map fun i=>(((vs++[x])[i]?).map (·.name)).getD (bl []))=bM vs p:=by
   intro E hE
   have h1:((dj vs.length).reverse.filter fun i=>E.any fun m=>eqB m ((((vs++[x])[i]?).map (·.name)).getD (bl [])))=((dj vs.length).reverse.filter fun i=>(bM vs p).any fun m=>eqB m (((vs[i]?).map (·.name)).getD (bl []))):=by
    apply List.filter_congr
    intro i hi
    have hi':i<vs.length:=by simpa using hi
    rw[hpre i hi',hE i hi']
   rw[h1]
   refine Eq.trans (eO fun i hi=>?_) ih
   have hi':i<vs.length:=by simpa using(bS.1 hi).1
   rw[hpre i hi']
  by_cases hx:x.name∈bM (vs++[x]) p
  ·rw[if_pos ((j7 _ _).2 hx),aR,hlast]
   have he:bM (vs++[x]) p=x.name::bM vs p:=by
    have h2:=hx
    rw[jK]at h2⊢
    split at h2
    ·exact absurd h2 hns
    ·rename_i h0
     rw[if_neg h0]
     split at h2
     ·rename_i h1;rw[if_pos h1]
     ·exact absurd h2 hns
   rw[he]
   congr 1
   refine hrest _ fun i hi=>?_
   rw[List.any_cons,ay hi]
   simp only[bJ,Option.getD_some]
   rw[cq.2 (fun e=>hnew (aW.2 ⟨vs[i],az hi,e.symm⟩)),dt]
  ·have hna:((bM (vs++[x]) p).any fun m=>eqB m x.name)=false:=by
    cases ha:(bM (vs++[x]) p).any fun m=>eqB m x.name with
    |false=>rfl
    |true=>exact absurd ((j7 _ _).1 ha) hx
   rw[hna]
   simp only[av,if_false]
   have he:bM (vs++[x]) p=bM vs p:=by
    rw[jK]at hx⊢
    split
    ·rfl
    ·rename_i h0
     rw[if_neg h0]at hx
     split
     ·rename_i h1
      rw[if_pos h1]at hx
      exact absurd (ff) hx
     ·rfl
   rw[he]
   exact hrest _ fun i hi=>rfl
section
variable {P:Program}{F:Ids}{er:bV}
theorem xz(L:Lib P F)(T:Tys F)(hC:eB P F er)(p:Pg)(hc:p.small)(fn n:Int)(pl:Pl)(hp:pl.path.length<=2^30)(H:aj)(he:fy F er H):
 ACalls P 20 [.agg (Pg.enc p),I fn,I n,.agg pl.enc] H fun q H'=>q=.sl 1 none (aD (dF p fn n pl))/\H'=H:=by
 refine(L.a Tryz.func20 y20) (by simp[y20]) ?_
 have hat:=fun H1 he1=>c_kAt (er:=er) L T hC p hc fn n H1 he1
 have hpf:=gS L pl
 simp only[Pg.enc]at hat
 simp only[Pl.enc]at hpf
 simp only[y20,go_sem,rE,rA,rL,Pg.enc,Pl.enc]
 intro b4 hb4 b7 hb7
 have d47:=ak (ai _ _ _) hb7
 have hb7':H.get b7=none:=by rw[ae _ _ (Ne.symm d47)]at hb7;exact hb7
 have k3:∀c o,H.get c=some o->((H.set b4 (.cells [.sl 12 none (p.map Fu.enc)])).set b7 (.cells [S pl.name,au pl.path])).get c=some o:=fun c o hc=>by rw[ae _ _ (ak hc hb7'),ae _ _ (ak hc hb4)];exact hc
 have he3:fy F er ((H.set b4 (.cells [.sl 12 none (p.map Fu.enc)])).set b7 (.cells [S pl.name,au pl.path])):=fun c hc=>k3 _ _ (he c hc)
 have g4:((H.set b4 (.cells [.sl 12 none (p.map Fu.enc)])).set b7 (.cells [S pl.name,au pl.path])).get b4=_:=(ae _ _ d47).trans (ai _ _ _)
 have g7:=ai (H.set b4 (.cells [.sl 12 none (p.map Fu.enc)])) b7 (.cells [S pl.name,au pl.path])
 have e7:∀c,(c=2\/c=3\/c=4\/c=5)->b7≠F.err c:=fun c hc=>Ne.symm (ak (he c hc) hb7')
 generalize(H.set b4 (.cells [.sl 12 none (p.map Fu.enc)])).set b7 (.cells [S pl.name,au pl.path])=H3 at*
 simp only[go_sem,rE,rA,rL,g4]
 refine cy (hat H3 he3) rfl (aj.sub_refl _) (fun h=>by simp at h) trivial ?_
 intro q H4 hr _
 rw[dk]
 cases ha:atS p fn n with
 |none=>
  rw[ha]at hr
  obtain⟨rfl,rfl⟩:=hr
  simp only[go_sem,rE,rA,rL,a7,aB]
  exact al (.nil 1) (fun b o hb=>k3 b o hb) ⟨by simp only[dF,ha];rfl,rfl⟩
 |some v=>
  rw[ha]at hr
  obtain⟨s,ORD,HELD,m1,m2,rfl,hS,hR⟩:=hr
  obtain⟨pi,st⟩:=pZ ha
  have hg:=st.good
  have g74:=(hR b7 _ g7 e7).1
  have hsub:H.sub H4:=fun b o hb=>hR.sub he3 hS b o (k3 b o hb)
  simp only[go_sem,rE,rA,rL,a7,aB,g74]
  refine ao hpf rfl ?_
  cases hok:pl.okB with
  |false=>
   simp only[go_sem,rE,rA,rL]
   exact al (.nil 1) hsub ⟨by simp only[dF,ha,hok];rfl,rfl⟩
  |true=>
   simp only[go_sem,rE,rA,rL,g74]
   have hke:=zQ (F:=F) L s pl
   simp only[Pl.enc]at hke
   refine cy hke rfl (aj.sub_empty _) (fun h=>by simp at h) trivial ?_
   rintro q H7 ⟨b,c,hbc,rfl,rfl⟩ hnew
   rw[tY]
   have fb:=hnew b (by rw[ae _ _ hbc,ai];simp) rfl
   have fc:=hnew c (by rw[ai];simp) rfl
   have keep:∀(o o':cQ) d x,H4.get d=some x->((H4.set b o).set c o').get d=some x:=fun o o' d x hx=>by
    rw[ae _ _ (ak hx fc),ae _ _ (ak hx fb)];exact hx
   have hS7:∀o o',cM F er ((H4.set b o).set c o') s v ORD HELD m1 m2:=fun o o'=>hS.mono fun d hd=>by
    obtain⟨x,hx⟩:=aH.1 (hS.mem hd)
    rw[keep _ _ _ _ hx,hx]
   simp only[go_sem,rE,rA,rL]
   refine cy (hC ((H4.set b (.cells [.ptr s 0])).set c (.cells [S pl.name,au pl.path])) s v ORD HELD m1 m2 b c pl (hS7 _ _) hg.nd hg.len hp hg.lp hg.ll (by rw[ae _ _ hbc,ai]) (ai _ _ _)) rfl (aj.sub_refl _) (fun h=>by simp at h) trivial ?_
   rintro q H8 ⟨rfl,rfl⟩ -
   rw[eL]
   simp only[go_sem,rE,rA,rL]
   exact al (.refl _) (fun d o hd=>keep _ _ _ _ (hsub d o hd)) ⟨by simp only[dF,ha,hok];rfl,rfl⟩
theorem xi(L:Lib P F){p:Pg}(hf:p.fit)(hpl:p.length<=2^20)(fn n:Int)(pl:Pl)(hp:pl.path.length<=2^20):ACalls P 19 [.agg (Pg.enc p),I fn,I n,.agg pl.enc] .empty fun q H'=>q=.sl 1 none (aD (dF p fn n pl))/\H'=.empty:=by
 refine(L.a Tryz.func19 y19) (by simp[y19]) ?_
 have h4:=Dg L hf hpl fn n
 have hpf:=jM L pl
 simp only[Pg.enc]at h4
 simp only[Pl.enc]at hpf
 simp only[y19,go_sem,rE,rA,rL,Pg.enc,Pl.enc,ax,aw,aZ]
 intro b4 hb4 b7 hb7 b14 hb14
 have d47:=ak (ai _ _ _) hb7
 have g4:((aj.empty.set b4 (.cells [.sl 12 none (p.map Fu.enc)])).set b7 (.cells [S pl.name,au pl.path])).get b4=_:=(ae _ _ d47).trans (ai _ _ _)
 have g7:=ai (aj.empty.set b4 (.cells [.sl 12 none (p.map Fu.enc)])) b7 (.cells [S pl.name,au pl.path])
 generalize(aj.empty.set b4 (.cells [.sl 12 none (p.map Fu.enc)])).set b7 (.cells [S pl.name,au pl.path])=H00 at*
 have g4:(H00.set b14 (.tail 0 0)).get b4=_:=(ae _ _ (ak g4 hb14)).trans g4
 have g7:(H00.set b14 (.tail 0 0)).get b7=_:=(ae _ _ (ak g7 hb14)).trans g7
 have gt:=ai H00 b14 (.tail 0 0)
 generalize H00.set b14 (.tail 0 0)=H0 at*
 clear hb4 hb7 hb14
 simp only[go_sem,rE,rA,rL,g4]
 refine cy h4 rfl (aj.sub_empty _) (by simp) trivial ?_
 intro q H1 hq hnew
 have hn1:∀c,H1.get c≠none->H0.get c=none:=fun c hc=>hnew c hc rfl
 have down:∀c o,H0.get c=some o->(H0.swap .empty H1).get c=some o/\H1.get c=none:=fun c o hc=>by
  have h1:H1.get c=none:=by
   cases h:H1.get c with
   |none=>rfl
   |some o=>have:=hn1 c (by rw[h];simp);rw[hc]at this;simp at this
  refine⟨?_,h1⟩
  rw[bC,h1];exact hc
 have up:∀c,H1.get c≠none->(H0.swap .empty H1).get c=H1.get c:=fun c hc=>by
  rw[bC]
  cases h:H1.get c with
  |none=>exact absurd h hc
  |some o=>rfl
 obtain⟨gt1,nt1⟩:=down _ _ gt
 obtain⟨g71,n71⟩:=down _ _ g7
 rcases zb p fn n with⟨ha,hs⟩|⟨u,v,ha,hs,hrel⟩
 ·rw[hs]at hq
  obtain⟨a,rfl,ga⟩:=hq
  generalize H0.swap .empty H1=H2 at*
  simp only[go_sem,rE,rA,rL]
  exact al (.tok 1 _ _) (aj.sub_empty _) ⟨by simp only[dF,ha];rfl,rfl⟩
 ·rw[hs]at hq
  obtain⟨a,VS,NS,rfl,hE1,hok,hlo⟩:=hq
  have hE0:bH (H0.swap .empty H1) a v VS NS:=hE1.mono fun d hd=>up d (hE1.mem hd)
  have nt0:¬aP a VS NS b14:=fun h=>hE1.mem h nt1
  have n70:¬aP a VS NS b7:=fun h=>hE1.mem h n71
  have hvu:v.vars=u.vars:=by rw[hrel.vars,cv]
  have hnm:=wT pl v.vars (by rw[hvu];exact hrel.ok)
  generalize H0.swap .empty H1=H2 at*
  clear hE1 hn1 up down nt1 n71 hnew h4 hs
  simp only[go_sem,rE,rA,rL,g71]
  refine ao hpf rfl ?_
  cases hplo:pl.okB with
  |false=>
   simp only[go_sem,rE,rA,rL]
   exact al (.tok 1 _ _) (aj.sub_empty _) ⟨by simp only[dF,ha,hplo];rfl,rfl⟩
  |true=>
  have hres:dF p fn n pl=(eM v.vars pl).map (fun i=>((v.vars[i]?).map (·.name)).getD (bl [])):=by simp only[dF,ha,hplo,if_true];rw[hnm,hvu]
  rw[hres]
  simp only[go_sem,rE,rA,rL,g71]
  refine bR (CL L a v hok.len (fun x hx=>(hok.all x hx).1) pl hp) hE0 (by simp only[go_sem,rE,Pl.enc]) (.refl _) (fun h=>by simp at h) trivial ?_
  rintro q v1 VS1 NS1 H3 fp ⟨rfl,hv1⟩ hE3 hk3 -
  subst hv1
  obtain⟨gt3,nt3⟩:=hk3 _ _ gt1 nt0
  have hlt:=wU v1.vars pl
  have hle:(eM v1.vars pl).length<=v1.vars.length:=by
   unfold eM tE
   exact bQ (dz _ _) (by simp)
  generalize eM v1.vars pl=LS at*
  have hlim:v1.vars.length<=LIM:=by have:=hok.len;simp[LIM];omega
  have hl20:=hok.len
  clear hE0 hk3 hres hnm
  simp only[go_sem,rE,rA,rL,fK]
  refine aS LS.length (fun k E' H'=>bH H' a v1 VS1 NS1/\E' 10=.ptr a 0/\E' 12=.sl 1 none (bO LS)/\E' 13=I k/\bL H' 1 (aD ((LS.take k).map fun i=>((v1.vars[i]?).map (·.name)).getD (bl []))) (E' 9)/\∀c,co (E' 9) c->¬aP a VS1 NS1 c)
   ⟨hE3,rfl,rfl,rfl,.inr ⟨b14,0,0,rfl,gt3⟩,fun c ⟨_,_,_,_,e⟩=>by simp[gj,kG]at e;obtain⟨-,⟨rfl,-⟩,-⟩:=e;exact nt3⟩ ?_
  rintro k E' H' hk ⟨hE,q10,q12,q13,qa,qt⟩
  have ho:=hE.obj
  simp only[du]at ho
  simp only[go_sem,rE,rA,rL,q12,q13,fK]
  refine aF (fun hlt2=>?_) (fun hge=>?_)
  ·have hk1:k<LS.length:=by omega
   have w1:=aI (n:=(k:Int)+1) (by omega) (by omega)
   have hi:=hlt _ (az hk1)
   obtain⟨vb,vc,cs,rfl,hr⟩:=hE.vars.row hi
   have hsn:(LS.take (k+1)).map (fun i=>((v1.vars[i]?).map (·.name)).getD (bl []))=(LS.take k).map (fun i=>((v1.vars[i]?).map (·.name)).getD (bl []))++[v1.vars[LS[k]].name]:=by
    rw[aA hk1,bh,List.map_singleton,ay hi];rfl
   have hgk:=jq hk1
   have hin:(0:Int)<=(LS[k]:Int):=by omega
   have hg:=hr.get
   have hn:=hr.name
   clear hr
   generalize LS[k]=i at*
   have hii:(i:Int)<v1.vars.length:=by omega
   simp only[go_sem,rE,rA,rL,q10,q12,q13,ho,hgk,hlim,hii,hg,hn,ax,aq,aw]
   refine dN (es:=aD ((LS.take k).map fun i=>((v1.vars[i]?).map (·.name)).getD (bl []))) (ys:=[[S v1.vars[i].name]]) (by simp only[go_sem,rE,rA,rL];exact qa) (by simp[go_sem,aZ]) (by simp) (by simp[aD];omega) ?_
   intro x' H4 fp hx' hfp hkeep hnew
   simp only[go_sem,rE,rA,rL,q10,q12,q13,w1]at hkeep hnew⊢
   refine⟨hk1,H4,aj.sub_refl _,hE.mono fun d hd=>hkeep d (hE.mem hd) fun h=>qt d h hd,rfl,?_,fun c hc hb=>?_⟩
   ·rw[hsn,aD,bh];exact hx'
   ·rcases hnew c hc with h|h
    ·exact qt c h hb
    ·exact hE.mem hb h
  ·have hkk:k=LS.length:=by omega
   subst hkk
   rw[aM]at qa
   simp only[go_sem,rE,rA,rL]
   exact al qa.le (aj.sub_empty _) ⟨rfl,rfl⟩
end
section
variable {P:Program}{F:Ids}
theorem yV(L:Lib P F)(r:Nat)(bs:List UInt8)(hbs:bs.length<=2000)(p:Int)(hp:0<=p)(hp2:p+20<=2^50):
 ACalls P 35 [.ptr r 0] (one r (RdO bs p)) (RdR r bs p 20 fun q=>∃pl:Pl,q=.agg pl.enc/\pl.path.length<=10):=by
 refine(L.a Tryz.func35 y35) (by simp[y35]) ?_
 simp only[y35,go_sem,rE,rA,rL,ax,aq,aw,aZ]
 intro b2 hb2 b6 hb6
 have hr2:r≠b2:=ak (bI r (RdO bs p)) hb2
 have gr:((one r (RdO bs p)).set b2 (.cells [S (bl []),NIL])).get r=some (RdO bs p):=by rw[ae _ _ hr2,bI]
 have g2:((one r (RdO bs p)).set b2 (.cells [S (bl []),NIL])).get b2=some (.cells [S (bl []),NIL]):=ai _ _ _
 generalize(one r (RdO bs p)).set b2 (.cells [S (bl []),NIL])=H0 at*
 have gr:(H0.set b6 (.tail 6 6)).get r=_:=(ae _ _ (ak gr hb6)).trans gr
 have g2:(H0.set b6 (.tail 6 6)).get b2=_:=(ae _ _ (ak g2 hb6)).trans g2
 generalize H0.set b6 (.tail 6 6)=H1 at*
 clear hb2 hb6
 refine ba (zas:=[.ptr r 0,.sl 1 (some (b6,6,6)) (jz [bl [112],bl [113],bl [114],bl [97,98],bl [97,99],bl [97,100]])]) ((Bg L r bs hbs [bl [112],bl [113],bl [114],bl [97,98],bl [97,99],bl [97,100]] (by simp) (by simp) p hp (by omega)).args ⟨.refl _,.tok _ _ _,trivial⟩) (rfl) gr (by simp) trivial ?_
 rintro q p1 hp1 hp1' ⟨s0,rfl⟩
 have g2:(H1.set r (RdO bs p1)).get b2=_:=(ae _ _ (Ne.symm hr2)).trans g2
 have gr:(H1.set r (RdO bs p1)).get r=_:=ai _ _ _
 generalize H1.set r (RdO bs p1)=H2 at*
 simp only[go_sem,rE,rA,rL]
 intro b3 hb3
 have hr3:=ak gr hb3
 have d23:=ak g2 hb3
 have gr:(H2.set b3 (.cells [S s0,NIL])).get r=_:=(ae _ _ hr3).trans gr
 have g2:(H2.set b3 (.cells [S s0,NIL])).get b2=_:=(ae _ _ d23).trans g2
 have g3:(H2.set b3 (.cells [S s0,NIL])).get b3=_:=ai _ _ _
 generalize H2.set b3 (.cells [S s0,NIL])=H3 at*
 clear hb3
 refine ba (cA L r bs p1 4 hbs (by omega) (by omega)) (rfl) gr (by simp) trivial ?_
 rintro q p2 hp12 hp12' ⟨m,rfl,hm0,hm4⟩
 have g2:(H3.set r (RdO bs p2)).get b2=_:=(ae _ _ (Ne.symm hr2)).trans g2
 have g3:(H3.set r (RdO bs p2)).get b3=_:=(ae _ _ (Ne.symm hr3)).trans g3
 have gr:(H3.set r (RdO bs p2)).get r=_:=ai _ _ _
 generalize H3.set r (RdO bs p2)=H4 at*
 have hch:∀a b:AC,aZ 1 2 [a,b]=[[a],[b]]:=fun _ _=>rfl
 have hg0:∀a b:List AC,[a,b][Int.toNat 0]?=some a:=fun _ _=>rfl
 have hg1:∀a b:List AC,[a,b][Int.toNat 1]?=some b:=fun _ _=>rfl
 have h00:(0:Int)<=0:=cW _
 have h01:(0:Int)<=1:=by decide
 have fin:∀(E':Env) (H':aj) (s:ByteArray) (X:AC) (path:List Int) (p':Int),E' 2=.ptr b2 0->H'.get r=some (RdO bs p')->Le X (.sl 1 none (fU path))->path.length<=4->p<=p'->p'<=p+20->
  bm.post [.cell 2 (some 2)] (RdR r bs p 20 fun q=>∃pl:Pl,q=.agg pl.enc/\pl.path.length<=10) .ret E' (H'.set b2 (.cells [S s,X])):=by
  intro E' H' s X path p' e2 gr hX hpl h1 h2
  exact bY (off:=0) (q':=.agg (Pl.enc ⟨s,path⟩)) e2 (ai _ _ _) rfl (.agg ⟨⟨.refl _,rfl⟩,⟨hX,rfl⟩,trivial⟩) (fo (o:=RdO bs p') (by rw[ae _ _ hr2];exact gr)) ⟨p',h1,h2,rfl,⟨s,path⟩,rfl,by simp;omega⟩
 have d2r:=Ne.symm hr2
 simp only[go_sem,rE,rA,rL]
 refine wp_loop (fun n E H=>∃(k:Nat) (X:AC) (path:List Int) (p':Int),n=k/\path.length+k<=3/\E 0=.ptr r 0/\E 2=.ptr b2 0/\E 3=.ptr b3 0/\E 4=I k/\H.get r=some (RdO bs p')/\H.get b2=some (.cells [S (bl []),NIL])/\H.get b3=some (.cells [S s0,X])/\bL H 1 (fU path) X/\p<=p'/\p'+k<=p+10)
  m.toNat ⟨m.toNat,NIL,[],p2,rfl,by simp;omega,rfl,rfl,rfl,by simp only[go_sem,rE];rw[Int.toNat_of_nonneg hm0],gr,g2,g3,.inl ⟨rfl,rfl⟩,by omega,by omega⟩ ?_
 rintro k E H ⟨k',X,path,p',rfl,hpk,e0,e2,e3,e4,gr,g2,g3,hX,h1,h2⟩
 have bX:∀c cs,H.get c=some (.cells cs)->¬co X c:=fun c cs hc ht=>by obtain⟨n,m,e⟩:=hX.tok ht;rw[hc]at e;simp at e
 simp only[go_sem,rE,rA,rL,e4]
 refine aF (fun hgt=>?_) (fun hle=>?_)
 ·have hk0:0<k:=by omega
  have w1:=aI (n:=(k:Int) - 1) (by omega) (by omega)
  simp only[go_sem,rE,rA,rL,e0,e3,g3]
  refine ba (cA L r bs p' 2 hbs (by omega) (by omega)) (rfl) gr (fun _=>⟨by omega,I 0,0,rfl,cW _,.inr rfl⟩) (by simp[ed];exact fun h=>hr3 h.symm) ?_
  rintro q p3 hp3 hp3' ⟨j,rfl,hj0,hj1⟩
  have hXr:bL (H.set r (RdO bs p3)) 1 (fU path) X:=hX.mono fun c hc=>ae _ _ (by rintro rfl;exact bX _ _ gr hc)
  have g2r:(H.set r (RdO bs p3)).get b2=_:=(ae _ _ (Ne.symm hr2)).trans g2
  have g3r:(H.set r (RdO bs p3)).get b3=_:=(ae _ _ (Ne.symm hr3)).trans g3
  have grr:(H.set r (RdO bs p3)).get r=_:=ai _ _ _
  simp only[go_sem,rE,rA,rL,ax,aq,aw]
  refine dN (es:=fU path) (ys:=[[I j]]) (by simp only[go_sem,rE,rA,rL];exact hXr) (by simp[go_sem,aZ]) (by simp) (by simp[fU];omega) ?_
  intro x' H5 fp hx' hfp hkeep hnew
  simp only[go_sem,rE,rA,rL]at hkeep hnew
  have k2:=(hkeep b2 (by rw[g2r];simp) (bX _ _ g2)).trans g2r
  have k3:=(hkeep b3 (by rw[g3r];simp) (bX _ _ g3)).trans g3r
  have kr:=(hkeep r (by rw[grr];simp) (bX _ _ gr)).trans grr
  have nx:¬co x' b3:=fun h=>by
   rcases hnew b3 h with h|h
   ·exact bX _ _ g3 h
   ·rw[g3r]at h;simp at h
  simp only[go_sem,rE,rA,rL,e3,k3,hx'.one,e4,w1]
  refine⟨k - 1,by omega,_,aj.sub_refl _,k - 1,x',path++[j],p3,rfl,by simp;omega,e0,e2,by rw[show((k - 1:Nat):Int)=(k:Int) - 1 by omega],(ae _ _ hr3).trans kr,(ae _ _ d23).trans k2,ai _ _ _,?_,by omega,by omega⟩
  rw[<-mu]
  exact hx'.mono fun c hc=>ae _ _ (by rintro rfl;exact nx hc)
 ·have hk0:k=0:=by omega
  subst hk0
  simp only[go_sem,rE,rA,rL,e0]
  refine ba (cA L r bs p' 20 hbs (by omega) (by omega)) (rfl) gr (by simp) trivial ?_
  rintro q p3 hp3 hp3' ⟨j,rfl,hj0,hj1⟩
  have hXr:bL (H.set r (RdO bs p3)) 1 (fU path) X:=hX.mono fun c hc=>ae _ _ (by rintro rfl;exact bX _ _ gr hc)
  have g2:(H.set r (RdO bs p3)).get b2=_:=(ae _ _ (Ne.symm hr2)).trans g2
  have g3:(H.set r (RdO bs p3)).get b3=_:=(ae _ _ (Ne.symm hr3)).trans g3
  have gr:(H.set r (RdO bs p3)).get r=_:=ai _ _ _
  generalize H.set r (RdO bs p3)=H5 at*
  have bX:∀c cs,H5.get c=some (.cells cs)->¬co X c:=fun c cs hc ht=>by obtain⟨n,m,e⟩:=hXr.tok ht;rw[hc]at e;simp at e
  simp only[go_sem,rE,rA,rL]
  by_cases hj:j=0
  ·have hj':(j==0)=true:=by simpa using hj
   simp only[go_sem,rE,rA,rL,hj',e0,ax,aq,aw,hch]
   intro b0 hb0
   have gr0:(H5.set b0 (.tail 2 2)).get r=_:=(ae _ _ (ak gr hb0)).trans gr
   have g20:(H5.set b0 (.tail 2 2)).get b2=_:=(ae _ _ (ak g2 hb0)).trans g2
   have g30:(H5.set b0 (.tail 2 2)).get b3=_:=(ae _ _ (ak g3 hb0)).trans g3
   have hX0:=hXr.new hb0 (.tail 2 2)
   generalize H5.set b0 (.tail 2 2)=H6 at*
   have bX:∀c cs,H6.get c=some (.cells cs)->¬co X c:=fun c cs hc ht=>by obtain⟨n,m,e⟩:=hX0.tok ht;rw[hc]at e;simp at e
   refine ba (zas:=[.ptr r 0,.sl 1 (some (b0,2,2)) (jz [bl [],bl [80]])]) ((Bg L r bs hbs [bl [],bl [80]] (by simp) (by simp) p3 (by omega) (by omega)).args ⟨.refl _,.tok _ _ _,trivial⟩) (rfl) gr0 (by simp) trivial ?_
   rintro q p4 hp4 hp4' ⟨s1,rfl⟩
   have g34:(H6.set r (RdO bs p4)).get b3=_:=(ae _ _ (Ne.symm hr3)).trans g30
   simp only[go_sem,rE,rA,rL,e2,e3,g34,g20,d23,d2r]
   exact fin _ _ s1 X path p4 e2 (by rw[ae _ _ hr3,ai]) hX0.le (by omega) (by omega) (by omega)
  have hj':(j==0)=false:=by simpa using hj
  by_cases hj2:j=1
  ·have hj2':(j==1)=true:=by simpa using hj2
   simp only[go_sem,rE,rA,rL,hj',hj2',e0,e3,g3,ax,aq,aw,hch]
   refine ba (cA L r bs p3 2 hbs (by omega) (by omega)) (rfl) gr (fun _=>⟨by omega,I 0,0,rfl,cW _,.inr rfl⟩) (by simp[ed];exact fun h=>hr3 h.symm) ?_
   rintro q p4 hp4 hp4' ⟨i,rfl,hi0,hi1⟩
   have hX4:bL (H5.set r (RdO bs p4)) 1 (fU path) X:=hXr.mono fun c hc=>ae _ _ (by rintro rfl;exact bX _ _ gr hc)
   have g24:(H5.set r (RdO bs p4)).get b2=_:=(ae _ _ (Ne.symm hr2)).trans g2
   have g34:(H5.set r (RdO bs p4)).get b3=_:=(ae _ _ (Ne.symm hr3)).trans g3
   have gr4:(H5.set r (RdO bs p4)).get r=_:=ai _ _ _
   obtain⟨z,hz⟩:∃z:Int,([[I (-1)],[I 2]]:List (List AC))[i.toNat]?=some [I z]:=by
    have:i=0\/i=1:=by omega
    rcases this with rfl|rfl
    ·exact⟨-1,rfl⟩
    ·exact⟨2,rfl⟩
   generalize H5.set r (RdO bs p4)=H6 at*
   have bX:∀c cs,H6.get c=some (.cells cs)->¬co X c:=fun c cs hc ht=>by obtain⟨n,m,e⟩:=hX4.tok ht;rw[hc]at e;simp at e
   simp only[go_sem,rE,rA,rL,hz,hi0,ax,aq,aw]
   refine dN (es:=fU path) (ys:=[[I z]]) (by simp only[go_sem,rE,rA,rL];exact hX4) (by simp[go_sem,aZ]) (by simp) (by simp[fU];omega) ?_
   intro x' H7 fp hx' hfp hkeep hnew
   simp only[go_sem,rE,rA,rL]at hkeep hnew
   have k2:=(hkeep b2 (by rw[g24];simp) (bX _ _ g24)).trans g24
   have k3:=(hkeep b3 (by rw[g34];simp) (bX _ _ g34)).trans g34
   have kr:=(hkeep r (by rw[gr4];simp) (bX _ _ gr4)).trans gr4
   have nx:¬co x' b3:=fun h=>by
    rcases hnew b3 h with h|h
    ·exact bX _ _ g34 h
    ·rw[g34]at h;simp at h
   simp only[go_sem,rE,rA,rL,e2,e3,k2,k3,d23,hx'.one]
   exact fin _ _ s0 x' (path++[z]) p4 e2 ((ae _ _ hr3).trans kr) (by rw[<-mu];exact hx'.le) (by simp;omega) (by omega) (by omega)
  have hj2':(j==1)=false:=by simpa using hj2
  simp only[go_sem,rE,rA,rL,hj',hj2',e2,e3,g2,g3]
  exact fin _ _ s0 X path p3 e2 gr hXr.le (by omega) (by omega) (by omega)
end
theorem AK(p:Pg)(fn n:Int):∀x∈(wsS p fn n).filter jD,x.loans≠[]/\∀q∈x.loans,q.name∈(wsS p fn n).map (·.name):=by
 intro x hx
 obtain⟨hx,hq⟩:=bS.1 hx
 simp only[jD,a6,dM]at hq
 unfold wsS at hx⊢
 cases ha:atS p fn n with
 |none=>rw[ha]at hx;simp at hx
 |some v=>
  rw[ha]at hx
  simp only at hx⊢
  obtain⟨Q,hG⟩:=at_G ha
  obtain⟨hx,hd⟩:=bS.1 hx
  have hd:x.dead=false:=by simpa using hd
  refine⟨hG.inv.ne x hx hq.1 hq.2,fun q hq2=>?_⟩
  obtain⟨y,hy,e,hyd⟩:=CQ (hG.inv.cl x hx hd hq.1 q hq2)
  exact aW.2 ⟨y,bS.2 ⟨hy,by simp[hyd]⟩,e⟩
section
variable {P:Program}{F:Ids}{er:bV}
end
theorem yl{E:Env}{H:aj}{n m k j r off r' off':Nat}{g g':Option Nat}{cs cs':List AC}{q q1 q' q1':AC}{R:AC->aj->Prop}(hE:E n=.ptr r off)(hg:H.get r=some (.cells cs))(hq:fW g cs off=some q)
(hl:Le q q1)(hE':E j=.ptr r' off')(hg':H.get r'=some (.cells cs'))(hq':fW g' cs' off'=some q')(hl':Le q' q1'){H':aj}(hs:H'.sub H)(h:R (.tup [q1,E m,E k,q1']) H'):bm.post [.cell n g,.slot m,.slot k,.cell j g'] R .ret E H:=
 ⟨.tup [q,E m,E k,q'],by simp only[kU,iT,jC.val,hE,hg,hq,hE',hg',hq'],_,H',.of (Le.tup (show LeA [q,E m,E k,q'] [q1,E m,E k,q1']from⟨hl,.refl _,.refl _,hl',trivial⟩)) hs,h⟩
theorem Ar{p:Pg}(hf:p.fit){fn n:Int}{e:En}(h:jc p fn n=some e):e.ok:=by
 unfold jc at h
 split at h
 ·rename_i hc
  obtain⟨hfine,h0,h1⟩:=hc
  obtain⟨i,rfl⟩:=cD h0
  have hi:i<p.length:=by omega
  rw[dw,ay hi]at h
  simp only at h
  split at h
  ·rename_i hn
   obtain⟨m,rfl⟩:=cD hn.1
   rw[dw]at h
   simp only[Option.some.injEq]at h
   subst h
   have hfo:=kL hfine
   obtain⟨-,hw⟩:=eX hfo
   have W:=hw p[i] (az hi)
   obtain⟨hp1,hcnt⟩:=hf.2 p[i] (az hi)
   obtain⟨s1,s2,s3,s4,s5⟩:=qp hfo hi
   have hwp:=W.plen
   have hokS:∀f∈p,f.okS:=fun f hf=>(hw f hf).okS
   have hst:=lW 4 _ W.body
   have htk:=ju p[i].body m
   exact((En.stmt_step _).2 (p[i].body.take m) (aC _) (fun s hs=>(hst s (bn hs)).1) (cF p i) s1 (by omega) (by rw[s2];exact hokS)).ok
  ·simp at h
 ·simp at h
theorem ws_ok{p:Pg}(hf:p.fit)(fn n:Int):∀x∈wsS p fn n,x.loans.length<=2^20/\∀q∈x.loans,q.path.length<=2^20:=by
 intro x hx
 unfold wsS at hx
 rcases zb p fn n with⟨h1,h2⟩|⟨v,e,h1,h2,hr⟩
 ·rw[h1]at hx;simp at hx
 ·rw[h1]at hx
  have hm:=(bS.1 hx).1
  have hok:=((Ar hf h2).all x (by rw[hr.vars,cv];exact hm)).1
  exact⟨hok.loans,hok.paths⟩
theorem sY{P:Program}{F:Ids}(L:Lib P F)(bs:List UInt8)(hl:bs.length<=2^30):ACalls P 18 [.sl 1 none (fS bs)] .empty fun q H'=>H'=.empty/\∃(pr:Pg) (fn n:Int) (pl:Pl),q=.tup [.agg (Pg.enc pr),I fn,I n,.agg pl.enc]/\drawn 1 pr/\pl.path.length<=2^20:=by
 refine(L.a Tryz.func18 y18) (by simp[y18]) ?_
 simp only[y18,go_sem,rE,rA,rL]
 intro b2 hb2 b5 hb5
 have d25:=ak (ai _ _ _) hb5
 have g2:((aj.empty.set b2 (.cells [NIL])).set b5 (.cells [S (bl []),NIL])).get b2=_:=(ae _ _ d25).trans (ai _ _ _)
 have g5:=ai (aj.empty.set b2 (.cells [NIL])) b5 (.cells [S (bl []),NIL])
 generalize(aj.empty.set b2 (.cells [NIL])).set b5 (.cells [S (bl []),NIL])=H0 at*
 clear hb2 hb5
 have h0:H0.only (fun _=>False)=.empty:=aj.ext fun b=>by rw[cu (by simp)];rfl
 have hc:=Df L bs hl
 rw[<-h0]at hc
 refine im (fun _=>False) hc (rfl) (.refl _) (by simp) trivial ?_
 rintro q H' H1 ⟨r,bs',rfl,rfl,hbs'⟩ hsub hafter hnew -
 have gr:H1.get r=some (RdO bs' 0):=hsub _ _ (bI _ _)
 have g2:H1.get b2=some (.cells [NIL]):=by rw[hafter.out b2 (by simp) (by rw[g2];simp),g2]
 have g5:H1.get b5=some (.cells [S (bl []),NIL]):=by rw[hafter.out b5 (by simp) (by rw[g5];simp),g5]
 have hr2:r≠b2:=by rintro rfl;rw[gr]at g2;simp[RdO]at g2
 have hr5:r≠b5:=by rintro rfl;rw[gr]at g5;simp[RdO]at g5
 simp only[go_sem,rE,rA,rL]
 refine ba (Bj L r bs' hbs' 0 (by omega) (by simp[FC])) (rfl) gr (by simp) trivial ?_
 rintro q p1 hp1 hp1' ⟨pr,fn,n,rfl,hd⟩
 simp only[FC]at hp1'
 have hfi:=hd.fit (by omega)
 have hpl:pr.length<=2^20:=by have:=hd.2.2;omega
 have g2:(H1.set r (RdO bs' p1)).get b2=_:=(ae _ _ (Ne.symm hr2)).trans g2
 have g5:(H1.set r (RdO bs' p1)).get b5=_:=(ae _ _ (Ne.symm hr5)).trans g5
 have gr:(H1.set r (RdO bs' p1)).get r=_:=ai _ _ _
 generalize H1.set r (RdO bs' p1)=H2 at*
 simp only[go_sem,rE,rA,rL,Pg.enc]
 intro b7 hb7
 have hr7:=ak gr hb7
 have d27:=ak g2 hb7
 have d57:=ak g5 hb7
 have gr:(H2.set b7 (.cells [.sl 12 none (pr.map Fu.enc)])).get r=_:=(ae _ _ hr7).trans gr
 have g2:(H2.set b7 (.cells [.sl 12 none (pr.map Fu.enc)])).get b2=_:=(ae _ _ d27).trans g2
 have g5:(H2.set b7 (.cells [.sl 12 none (pr.map Fu.enc)])).get b5=_:=(ae _ _ d57).trans g5
 have g7:(H2.set b7 (.cells [.sl 12 none (pr.map Fu.enc)])).get b7=_:=ai _ _ _
 generalize H2.set b7 (.cells [.sl 12 none (pr.map Fu.enc)])=H3 at*
 clear hb7
 have hs:=CX L hfi hpl fn n
 have hlv:=AK pr fn n
 have o1:=(BB pr fn n).1
 have ok:=ws_ok hfi fn n
 rw[wC]at hs
 simp only[Pg.enc]at hs
 have hll:=dz jD (wsS pr fn n)
 have hLl:((wsS pr fn n).filter jD).length<=2^30:=by omega
 have hL3:∀x∈(wsS pr fn n).filter jD,x.loans≠[]/\x.loans.length<=2^20/\∀q∈x.loans,q.path.length<=2^20:=fun x hx=>by
  have h1:=ok x (bS.1 hx).1
  exact⟨(hlv x hx).1,h1.1,h1.2⟩
 generalize(wsS pr fn n).filter jD=LS at*
 clear hlv o1 ok hll
 refine cy hs (rfl) (aj.sub_empty _) (by simp) trivial ?_
 rintro q H' ⟨rfl,rfl⟩ -
 rw[fZ]
 simp only[go_sem,rE,rA,rL,g7,am]
 have d72:=Ne.symm d27
 have d75:=Ne.symm d57
 have d52:=Ne.symm d25
 have fin:∀(E':Env) (H':aj) (pl:Pl) (X:AC),E' 2=.ptr b2 0->E' 3=I fn->E' 4=I n->E' 5=.ptr b5 0->Le X (au pl.path)->pl.path.length<=2^20->
  bm.post [.cell 2 (some 1),.slot 3,.slot 4,.cell 5 (some 2)] (fun q H'=>H'=.empty/\∃(pr:Pg) (fn n:Int) (pl:Pl),q=.tup [.agg [.sl 12 none (pr.map Fu.enc)],I fn,I n,.agg pl.enc]/\drawn 1 pr/\pl.path.length<=2^20) .ret E' ((H'.set b2 (.cells [.sl 12 none (pr.map Fu.enc)])).set b5 (.cells [S pl.name,X])):=by
  intro E' H' pl X e2 e3 e4 e5 hX hp
  exact yl (q1:=.agg [.sl 12 none (pr.map Fu.enc)]) (off:=0) (q1':=.agg pl.enc) (off':=0) e2 ((ae _ _ d25).trans (ai _ _ _)) rfl (.refl _) e5 (ai _ _ _) rfl (.agg ⟨⟨.refl _,rfl⟩,⟨hX,rfl⟩,trivial⟩) (aj.sub_empty _) ⟨rfl,pr,fn,n,pl,by rw[e3,e4],hd,hp⟩
 have d2r:=Ne.symm hr2
 have d5r:=Ne.symm hr5
 have d7r:=Ne.symm hr7
 have hlp:∀p':Int,0<=p'->p'+20<=2^50->ACalls P 35 [.ptr r 0] (one r (RdO bs' p')) (RdR r bs' p' 20 fun q=>∃pl:Pl,q=.agg pl.enc/\pl.path.length<=10):=fun p' h1 h2=>yV L r bs' hbs' p' h1 h2
 by_cases hL0:¬(LS.length:Int)>0
 ·simp only[go_sem,rE,rA,rL,hL0,decide_false]
  simp only[go_sem,rE,rA,rL,g7]
  refine ba (hlp p1 (by omega) (by omega)) (rfl) gr (fun _=>⟨by omega,_,⟨bl [],[]⟩,rfl,by simp⟩) (by simp[ed];exact fun h=>hr7 h.symm) ?_
  rintro q p2 hp2 hp2' ⟨pl,rfl,hpp⟩
  simp only[go_sem,rE,rA,rL,g2,g5,d25,d52,d2r,d5r,Pl.enc]
  exact fin _ _ pl _ rfl rfl rfl rfl (.refl _) (by omega)
 have hL0:=Decidable.not_not.1 hL0
 have w0:=hL0
 simp only[go_sem,rE,rA,rL,hL0,decide_true]
 refine ba (cA L r bs' p1 5 hbs' (by omega) (by omega)) (rfl) gr (by simp) trivial ?_
 rintro q p2 hp2 hp2' ⟨k,rfl,hk0,hk1⟩
 have g2:(H3.set r (RdO bs' p2)).get b2=_:=(ae _ _ d2r).trans g2
 have g5:(H3.set r (RdO bs' p2)).get b5=_:=(ae _ _ d5r).trans g5
 have g7:(H3.set r (RdO bs' p2)).get b7=_:=(ae _ _ d7r).trans g7
 have gr:(H3.set r (RdO bs' p2)).get r=_:=ai _ _ _
 generalize H3.set r (RdO bs' p2)=H4 at*
 by_cases hk:¬k>0
 ·simp only[go_sem,rE,rA,rL,hk,decide_false,g7]
  refine ba (hlp p2 (by omega) (by omega)) (rfl) gr (fun _=>⟨by omega,_,⟨bl [],[]⟩,rfl,by simp⟩) (by simp[ed];exact fun h=>hr7 h.symm) ?_
  rintro q p3 hp3 hp3' ⟨pl,rfl,hpp⟩
  simp only[go_sem,rE,rA,rL,g2,g5,d25,d52,d2r,d5r,Pl.enc]
  exact fin _ _ pl _ rfl rfl rfl rfl (.refl _) (by omega)
 have hk:=Decidable.not_not.1 hk
 simp only[go_sem,rE,rA,rL,hk,decide_true,am]
 refine ba (cA L r bs' p2 LS.length hbs' (by omega) (by omega)) (rfl) gr (by simp) trivial ?_
 rintro q p3 hp3 hp3' ⟨i,rfl,hi0,hi1⟩
 obtain⟨i,rfl⟩:=cD hi0
 have hi:i<LS.length:=by omega
 have hgx:=k9 hi
 obtain⟨hne,hln,hlpath⟩:=hL3 _ (az hi)
 generalize LS[i]=x at*
 have g2:(H4.set r (RdO bs' p3)).get b2=_:=(ae _ _ d2r).trans g2
 have g5:(H4.set r (RdO bs' p3)).get b5=_:=(ae _ _ d5r).trans g5
 have g7:(H4.set r (RdO bs' p3)).get b7=_:=(ae _ _ d7r).trans g7
 have gr:(H4.set r (RdO bs' p3)).get r=_:=ai _ _ _
 generalize H4.set r (RdO bs' p3)=H5 at*
 simp only[go_sem,rE,rA,rL,hgx]
 intro b11 hb11
 have d11r:=Ne.symm (ak gr hb11)
 have g2:=fun o=>(ae H5 o (ak g2 hb11)).trans g2
 have g5:=fun o=>(ae H5 o (ak g5 hb11)).trans g5
 have g7:=fun o=>(ae H5 o (ak g7 hb11)).trans g7
 have gr:=fun o=>(ae H5 o (ak gr hb11)).trans gr
 simp only[go_sem,rE,rA,rL,am]
 have g2:=g2 (.cells [S x.name,.sl 2 none (x.loans.map Pl.enc)])
 have g5:=g5 (.cells [S x.name,.sl 2 none (x.loans.map Pl.enc)])
 have g7:=g7 (.cells [S x.name,.sl 2 none (x.loans.map Pl.enc)])
 have gr:=gr (.cells [S x.name,.sl 2 none (x.loans.map Pl.enc)])
 have g11:=ai H5 b11 (.cells [S x.name,.sl 2 none (x.loans.map Pl.enc)])
 generalize H5.set b11 (.cells [S x.name,.sl 2 none (x.loans.map Pl.enc)])=H6 at*
 refine ba (cA L r bs' p3 x.loans.length hbs' (by omega) (by omega)) (rfl) gr (fun _=>⟨by omega,I 0,0,rfl,cW _,.inr rfl⟩) (by simp[ed];exact d11r) ?_
 rintro q p4 hp4 hp4' ⟨j,rfl,hj0,hj1⟩
 obtain⟨j,rfl⟩:=cD hj0
 have hxl:0<x.loans.length:=List.length_pos_iff.2 hne
 have hj:j<x.loans.length:=by omega
 have hgy:(x.loans.map Pl.enc)[j]?=some [S x.loans[j].name,au x.loans[j].path]:=by simp[hj,Pl.enc]
 have hyp:=hlpath _ (az hj)
 generalize x.loans[j]=y at*
 have g2:(H6.set r (RdO bs' p4)).get b2=_:=(ae _ _ d2r).trans g2
 have g5:(H6.set r (RdO bs' p4)).get b5=_:=(ae _ _ d5r).trans g5
 have g7:(H6.set r (RdO bs' p4)).get b7=_:=(ae _ _ d7r).trans g7
 have gr:(H6.set r (RdO bs' p4)).get r=_:=ai _ _ _
 generalize H6.set r (RdO bs' p4)=H7 at*
 clear g11 hb11 d11r
 simp only[go_sem,rE,rA,rL,hgy]
 intro b12 hb12
 have d2:=ak g2 hb12
 have d5:=ak g5 hb12
 have d7:=ak g7 hb12
 have dr:=ak gr hb12
 have g2:=fun o=>(ae H7 o d2).trans g2
 have g5:=fun o=>(ae H7 o d5).trans g5
 have g7:=fun o=>(ae H7 o d7).trans g7
 have gr:=fun o=>(ae H7 o dr).trans gr
 have g2:=g2 (.cells [S y.name,au y.path])
 have g5:=g5 (.cells [S y.name,au y.path])
 have g7:=g7 (.cells [S y.name,au y.path])
 have gr:=gr (.cells [S y.name,au y.path])
 have g12:=ai H7 b12 (.cells [S y.name,au y.path])
 generalize H7.set b12 (.cells [S y.name,au y.path])=H8 at*
 refine ba (cA L r bs' p4 3 hbs' (by omega) (by omega)) (rfl) gr (by simp) trivial ?_
 rintro q p5 hp5 hp5' ⟨z,rfl,hz0,hz1⟩
 have g2:(H8.set r (RdO bs' p5)).get b2=_:=(ae _ _ d2r).trans g2
 have g5:(H8.set r (RdO bs' p5)).get b5=_:=(ae _ _ d5r).trans g5
 have g7:(H8.set r (RdO bs' p5)).get b7=_:=(ae _ _ d7r).trans g7
 have g12:(H8.set r (RdO bs' p5)).get b12=_:=(ae _ _ (Ne.symm dr)).trans g12
 generalize H8.set r (RdO bs' p5)=H9 at*
 simp only[go_sem,rE,rA,rL]
 have d12:=Ne.symm d2
 by_cases hz:z=0
 ·have hz':(z==0)=true:=by simpa using hz
  simp only[go_sem,rE,rA,rL,hz',g12,g2,g5,g7,d2,d5,d7,d25,d52,d12]
  exact⟨by simp[d12],fin _ _ ⟨y.name,[]⟩ NIL rfl rfl rfl rfl (.nil 1) (by simp)⟩
 ·have hz':(z==0)=false:=by simpa using hz
  simp only[go_sem,rE,rA,rL,hz',g12,g2,g5,g7,d25,d52,d12]
  exact⟨by simp[d12],fin _ _ y _ rfl rfl rfl rfl (.refl _) hyp⟩
theorem yG(p:Pl):∀vs:List Vr,ki vs->(bM vs p).Nodup:=by
 intro vs
 induction vs using nv with
 |nil=>intro _;simp[bM]
 |snoc vs x ih=>
  intro hok
  have ih:=ih hok.front
  have hnew:x.name∉bM vs p:=fun h=>by
   obtain⟨i,hi,e⟩:=js vs p h
   have:=hok.nd
   rw[bh,eR]at this
   exact this.2.2 _ (aW.2 ⟨vs[i],az hi,e⟩) x.name (by simp) rfl
  rw[jK]
  split
  ·exact ih
  ·split
   ·exact List.nodup_cons.2 ⟨hnew,ih⟩
   ·exact ih
theorem AQ(p:Pg)(fn n:Int)(pl:Pl):(dF p fn n pl).Nodup/\(dF p fn n pl).length<=2^30/\∀e∈dF p fn n pl,∃x∈(wsS p fn n).filter jD,x.name=e:=by
 unfold dF wsS
 cases ha:atS p fn n with
 |none=>simp
 |some v=>
  simp only
  obtain⟨Q,hG⟩:=at_G ha
  obtain⟨pi,st⟩:=pZ ha
  split
  ·refine⟨yG pl _ hG.ok,?_,fun e he=>?_⟩
   ·have:=(jr pl v.vars [] (v.vars.map (·.name)) (by simp) fun x hx=>aW.2 ⟨x,hx,rfl⟩).2
    simp only[bN,cE]at this
    exact bQ this st.good.len
   ·obtain⟨i,hi,rfl⟩:=js v.vars pl he
    obtain⟨h1,h2,q,hq,-⟩:=(jt pl v.vars hG.ok i hi).1 he
    have hm:=az hi
    refine⟨v.vars[i],bS.2 ⟨bS.2 ⟨hm,by simp[h1]⟩,?_⟩,rfl⟩
    cases hp:v.vars[i].param with
    |false=>simp[jD,h2,hp]
    |true=>rw[(hG.inv.pl _ hm hp).1]at hq;simp at hq
  ·simp
section
variable {P:Program}{F:Ids}{er:bV}
end
theorem ua(p:Pg):(((fB p).1 !=0)=!fi p)/\0<=(fB p).1:=by
 have h:=qN p
 have h0:0<=(fB p).1:=by
  unfold fB
  split
  ·split
   ·simp
   ·rename_i i _
    have:dU p i=0\/dU p i=2\/dU p i=3\/dU p i=4\/dU p i=5:=by
     unfold dU
     split
     ·exact sJ _ _
     ·exact .inl rfl
    simp only;omega
  ·simp
 refine⟨?_,h0⟩
 rw[<-h]
 by_cases hz:(fB p).1=0
 ·simp[hz]
 ·have:(fB p).1>0:=by omega
  simp[hz,this]
theorem u6{p:Pg}(hf:fi p=true){i:Nat}(hi:i<p.length):(cI (bi (p.take i)) p[i].params).2=0/\((cI (bi (p.take i)) p[i].params).1.stmts p[i].body).2=0:=by
 have hc:=qZ hf hi
 unfold gB at hc
 split at hc
 ·simp at hc
 split at hc
 ·rename_i a1
  split at hc
  ·rename_i b0;exact⟨a1,b0⟩
  ·rename_i b0;exact absurd hc b0
 ·rename_i a1;exact absurd hc a1
section
variable {P:Program}{F:Ids}{er:bV}
end
def numE(n:Int):Ex:=.mk 1 n ⟨bl [],[]⟩ []
def sQ(f:Fu)(n:Nat)(more:List St):Fu:=⟨f.name,f.params,false,.mk [],f.body.take n++more,numE 0,⟨bl [],[]⟩⟩
def nP(p:Pg)(i n:Nat)(more:List St)(hi:i<p.length):Pg:=(p.take (i+1)).set i (sQ p[i] n more)
section
variable {P:Program}{F:Ids}{er:bV}
theorem c_lhNum(L:Lib P F)(n:Int):cN P 24 [I n] (.agg [I 1,I n,S (bl []),NIL,NIL]):=by
 refine(L.a Tryz.func24 y24) (by simp[y24]) ?_
 simp only[y24,go_sem,rE,rA,rL]
 intro b hb
 refine ud (off:=0) (rfl) (ai _ _ _) rfl (aj.sub_empty _) ⟨rfl,rfl⟩
theorem c_lhCut(L:Lib P F)(p:Pg)(i n:Nat)(hi:i<p.length)(hn:n<=p[i].body.length)(hpl:p.length<=2^20)(hbl:p[i].body.length<=2^20)(more:List St)(hml:more.length<=2^20):
 ACalls P 23 [.agg (Pg.enc p),I i,I n,.sl 15 none (more.map St.enc)] .empty fun q H'=>q=.agg (Pg.enc (nP p i n more hi))/\H'=.empty:=by
 refine(L.a Tryz.func23 y23) (by simp[y23]) ?_
 simp only[y23,go_sem,rE,rA,rL,Pg.enc]
 intro b4 hb4 b8 hb8
 have d48:b4≠b8:=nH hb8
 have g4:((aj.empty.set b4 (.cells [.sl 12 none (p.map Fu.enc)])).set b8 (.cells [NIL])).get b4=_:=(ae _ _ d48).trans (ai _ _ _)
 have g8:((aj.empty.set b4 (.cells [.sl 12 none (p.map Fu.enc)])).set b8 (.cells [NIL])).get b8=_:=ai _ _ _
 generalize((aj.empty.set b4 (.cells [.sl 12 none (p.map Fu.enc)])).set b8 (.cells [NIL]))=H0 at*
 intro b0 hb0
 have d40:=ak g4 hb0
 have d80:=ak g8 hb0
 have g4:=(ae H0 (.tail 0 0) d40).trans g4
 have g8:=(ae H0 (.tail 0 0) d80).trans g8
 have g0:=ai H0 b0 (.tail 0 0)
 generalize H0.set b0 (.tail 0 0)=H1 at*
 have w1:=aI (n:=(i:Int)+1) (by omega) (by omega)
 have hi1:(0:Int)<=i+1:=by omega
 have hi2:((i:Int)+1).toNat=i+1:=by omega
 have hi3:i+1<=p.length:=by omega
 simp only[go_sem,rE,rA,rL,aE,ax,aq,aw,aZ,g4,w1,hi1,hi2,hi3,am]
 have hrl:(p.take (i+1)).length=i+1:=by rw[bk];omega
 have hsz:∀e∈(p.take (i+1)).map Fu.enc,e.length=12:=fun e he=>by obtain⟨g,-,rfl⟩:=aW.1 he;exact mz g
 refine nz (b:=b0) (ys:=(p.take (i+1)).map Fu.enc) (rfl) g0 (by rw[fO];rfl) hsz (by simp;omega) trivial ?_
 intro x' H2 fp1 hR _ keep new
 rcases hR with⟨h0,-⟩|⟨pp,pc,cs,rfl,gp,hcl,hcc,hct⟩
 ·have:=congrArg List.length h0;rw[am,hrl]at this;simp at this
 have kc:=iV g0 keep
 have hex:∀d o,H1.get d=some (.cells o)->d≠pp:=by
  intro d o hd e
  subst e
  rcases new _ ⟨_,_,rfl⟩with h|h
  ·subst h;rw[g0]at hd;simp at hd
  ·rw[hd]at h;simp at h
 have d4p:=hex _ _ g4
 have d8p:=hex _ _ g8
 have g4:=kc _ _ g4
 have g8:=kc _ _ g8
 clear keep new kc hex g0 hb0 d40 d80
 rw[am,hrl]at hct hcc
 rw[am,hrl]
 have hlim:i+1<=LIM:=by simp only[LIM];omega
 have hii:(i:Int)<((i+1:Nat):Int):=by omega
 have hoff:i*12+12<=cs.length:=by
  have:(i+1)*12<=pc*12:=bE _ hcc
  omega
 have hrow:(cs.drop (i*12)).take 12=p[i].enc:=by
  have:=Cd hsz (by rw[am,hrl];exact hct) (k:=i) (by simp;omega)
  simpa using this
 have hfl:=mz p[i]
 simp only[go_sem,rE,rA,rL,aE,ax,aq,aw,aZ,gp,hlim,hii,hoff,hrow,hfl]
 have hct2:cs.take ((i+1)*12)=((p.take (i+1)).map Fu.enc).flatten:=hct
 have hcut:nP p i n more hi=(p.take (i+1)).set i (sQ p[i] n more):=rfl
 rw[hcut]
 generalize p[i]=f at*
 intro b10 hb10 b22 hb22
 rw[lR]at hb22⊢
 have d4a:=ak g4 hb10
 have d8a:=ak g8 hb10
 have dpa:=ak gp hb10
 have g4:=(ae H2 (.cells [S f.name,.sl 3 none (f.params.map Pa.enc),B f.lent,.sl 1 none (Ty.encs f.type.kids),.sl 15 none (f.body.map St.enc),I f.says.kind,I f.says.num,S f.says.place.name,au f.says.place.path,.sl 5 none (Ex.encs f.says.kids),S f.gives.name,au f.gives.path]) d4a).trans g4
 have g8:=(ae H2 (.cells [S f.name,.sl 3 none (f.params.map Pa.enc),B f.lent,.sl 1 none (Ty.encs f.type.kids),.sl 15 none (f.body.map St.enc),I f.says.kind,I f.says.num,S f.says.place.name,au f.says.place.path,.sl 5 none (Ex.encs f.says.kids),S f.gives.name,au f.gives.path]) d8a).trans g8
 have gp:=(ae H2 (.cells [S f.name,.sl 3 none (f.params.map Pa.enc),B f.lent,.sl 1 none (Ty.encs f.type.kids),.sl 15 none (f.body.map St.enc),I f.says.kind,I f.says.num,S f.says.place.name,au f.says.place.path,.sl 5 none (Ex.encs f.says.kids),S f.gives.name,au f.gives.path]) dpa).trans gp
 have ga:=ai H2 b10 (.cells [S f.name,.sl 3 none (f.params.map Pa.enc),B f.lent,.sl 1 none (Ty.encs f.type.kids),.sl 15 none (f.body.map St.enc),I f.says.kind,I f.says.num,S f.says.place.name,au f.says.place.path,.sl 5 none (Ex.encs f.says.kids),S f.gives.name,au f.gives.path])
 generalize H2.set b10 (.cells [S f.name,.sl 3 none (f.params.map Pa.enc),B f.lent,.sl 1 none (Ty.encs f.type.kids),.sl 15 none (f.body.map St.enc),I f.says.kind,I f.says.num,S f.says.place.name,au f.says.place.path,.sl 5 none (Ex.encs f.says.kids),S f.gives.name,au f.gives.path])=H3 at*
 have g4:=(ae H3 (.tail 0 0) (ak g4 hb22)).trans g4
 have g8:=(ae H3 (.tail 0 0) (ak g8 hb22)).trans g8
 have gp:=(ae H3 (.tail 0 0) (ak gp hb22)).trans gp
 have ga:=(ae H3 (.tail 0 0) (ak ga hb22)).trans ga
 have g0:=ai H3 b22 (.tail 0 0)
 generalize H3.set b22 (.tail 0 0)=H4 at*
 have hn1:((n:Int)).toNat=n:=rfl
 simp only[go_sem,rE,rA,rL,aE,ax,aq,aw,aZ,ga,hn,fD,am]
 refine nz (b:=b22) (ys:=(f.body.take n).map St.enc) (rfl) g0 (by rw[fO];rfl) (jg _) (by simp;omega) trivial ?_
 intro X0 H5 fp2 hR0 _ keep new0
 have kc:=iV g0 keep
 simp only[go_sem,rE,rA,rL,aE,ax,aq,aw,aZ]
 refine pF (rows:=(f.body.take n).map St.enc) (ys:=more.map St.enc) (by simp only[go_sem,rE,rA,rL,aE,ax,aq,aw,aZ];exact hR0) (by simp only[go_sem,rE,rA,rL,aE,ax,aq,aw,aZ]) (jg _) (by simp;omega) rfl ?_
 intro X H6 fp3 hR keep2 new
 simp only[go_sem,rE,rA,rL,aE,ax,aq,aw,aZ]at keep2 new
 have hnew:∀d cs,H4.get d=some (.cells cs)->¬gT X d/\H6.get d=some (.cells cs):=by
  intro d cs hd
  have n0:¬gT X0 d:=fun h=>by
   rcases new0 d h with h|h
   ·subst h;rw[g0]at hd;simp at hd
   ·rw[hd]at h;simp at h
  have k0:=kc _ _ hd
  refine⟨fun h=>?_,?_⟩
  ·rcases new d h with h|h
   ·exact n0 h
   ·rw[k0]at h;simp at h
  ·rw[keep2 d (by rw[k0];simp) n0];exact k0
 obtain⟨n4,g4⟩:=hnew _ _ g4
 obtain⟨n8,g8⟩:=hnew _ _ g8
 obtain⟨np,gp⟩:=hnew _ _ gp
 obtain⟨na,ga⟩:=hnew _ _ ga
 clear hnew kc keep keep2 new new0 hR0 g0 hb10 hb22
 rw[<-bh]at hR
 have hcx:=hR.one
 simp only[go_sem,rE,rA,rL,aE,ax,aq,aw,aZ,ga,hcx]
 refine ao (c_lhNum L 0) (rfl) ?_
 simp only[go_sem,rE,rA,rL,aE,ax,aq,aw,aZ,kA]
 have g8:=(ae H6 (.cells [S f.name,.sl 3 none (f.params.map Pa.enc),.lit (.bool false),.lit (.slice none 0 0),X,I 1,I 0,S (bl []),NIL,NIL,.lit (.string (bl [])),.lit (.slice none 0 0)]) d8a).trans g8
 have gp:=(ae H6 (.cells [S f.name,.sl 3 none (f.params.map Pa.enc),.lit (.bool false),.lit (.slice none 0 0),X,I 1,I 0,S (bl []),NIL,NIL,.lit (.string (bl [])),.lit (.slice none 0 0)]) dpa).trans gp
 have hR:fq (H6.set b10 (.cells [S f.name,.sl 3 none (f.params.map Pa.enc),.lit (.bool false),.lit (.slice none 0 0),X,I 1,I 0,S (bl []),NIL,NIL,.lit (.string (bl [])),.lit (.slice none 0 0)])) 15 ((f.body.take n++more).map St.enc) X:=hR.mono fun d hd=>ae _ _ fun e=>na (e▸hd)
 generalize H6.set b10 (.cells [S f.name,.sl 3 none (f.params.map Pa.enc),.lit (.bool false),.lit (.slice none 0 0),X,I 1,I 0,S (bl []),NIL,NIL,.lit (.string (bl [])),.lit (.slice none 0 0)])=H7 at*
 simp only[go_sem,rE,rA,rL,aE,ax,aq,aw,aZ,gp,hii,hoff,g8,Ne.symm d8p,d8p]
 have hspl:∀u:List AC,u.length=12->cs.take (i*12)++u++cs.drop (i*12+12)=bA cs (i*12) u:=fun u hu=>by rw[bA,hu]
 rw[hspl _ rfl]
 have hlenR:∀u,(((p.take (i+1)).map Fu.enc).set i u).length=i+1:=fun u=>by simp;omega
 have hszR:∀u:List AC,u.length=12->∀e∈((p.take (i+1)).map Fu.enc).set i u,e.length=12:=fun u hu e he=>by
  rcases fY he with h|h
  ·exact hsz e h
  ·rw[h];exact hu
 have hrowR:∀u:List AC,u.length=12->(bA cs (i*12) u).take ((((p.take (i+1)).map Fu.enc).set i u).length*12)=(((p.take (i+1)).map Fu.enc).set i u).flatten:=fun u hu=>
  l7 hsz hu (by rw[am,hrl];omega) (by rw[am,hrl];exact hct2)
 have leC:∀Y:AC,Le Y (.sl 15 none ((f.body.take n++more).map St.enc))->LeC [S f.name,.sl 3 none (f.params.map Pa.enc),.lit (.bool false),.lit (.slice none 0 0),Y,I 1,I 0,S (bl []),NIL,NIL,.lit (.string (bl [])),.lit (.slice none 0 0)] (sQ f n more).enc:=fun Y hY=>
  lC (sQ f n more) (.refl _) (Le.nil _) hY (by show LeC _ (numE 0).enc;rw[Ex.enc_eq];exact⟨⟨.refl _,rfl⟩,⟨.refl _,rfl⟩,⟨.refl _,rfl⟩,⟨Le.nil _,rfl⟩,⟨Le.nil _,rfl⟩,trivial⟩) ⟨⟨.refl _,rfl⟩,⟨Le.nil _,rfl⟩,trivial⟩
 have last:∀(G:aj) (Y:AC),Le Y (.sl 15 none ((f.body.take n++more).map St.enc))->G.get pp=some (.cells (bA cs (i*12) [S f.name,.sl 3 none (f.params.map Pa.enc),.lit (.bool false),.lit (.slice none 0 0),Y,I 1,I 0,S (bl []),NIL,NIL,.lit (.string (bl [])),.lit (.slice none 0 0)]))->nZ (.agg [.lit (.slice (some ⟨pp,0,none⟩) (i+1) pc)]) G (.agg [.sl 12 none (((p.take (i+1)).set i (sQ f n more)).map Fu.enc)]) .empty:=by
  intro G Y hY gp
  have fr:tp G .empty pp pc 12 (((p.take (i+1)).map Fu.enc).set i [S f.name,.sl 3 none (f.params.map Pa.enc),.lit (.bool false),.lit (.slice none 0 0),Y,I 1,I 0,S (bl []),NIL,NIL,.lit (.string (bl [])),.lit (.slice none 0 0)]):=⟨rfl,fun d o' hd=>by simp at hd⟩
  refine(l5 gp (hrowR _ rfl) (hszR _ rfl) (by rw[hlenR];exact hcc) (by rw[hlenR];exact hlim) fr (xs:=[.lit (.slice (some ⟨pp,0,none⟩) (i+1) pc)]) (ys:=[.sl 12 none (((p.take (i+1)).map Fu.enc).set i [S f.name,.sl 3 none (f.params.map Pa.enc),.lit (.bool false),.lit (.slice none 0 0),Y,I 1,I 0,S (bl []),NIL,NIL,.lit (.string (bl [])),.lit (.slice none 0 0)])]) ⟨.inr ⟨by rw[hlenR],rfl⟩,trivial⟩).trans_le ?_
  refine .agg ⟨⟨.slR ?_,rfl⟩,trivial⟩
  rw[List.map_set]
  exact(rG _).set i (leC Y hY)
 refine nC (off:=0) (rfl) (ai _ _ _) rfl ?_ ⟨rfl,rfl⟩
 have gpE:((H7.set pp (.cells (bA cs (i*12) [S f.name,.sl 3 none (f.params.map Pa.enc),.lit (.bool false),.lit (.slice none 0 0),X,I 1,I 0,S (bl []),NIL,NIL,.lit (.string (bl [])),.lit (.slice none 0 0)]))).set b8 (.cells [.lit (.slice (some ⟨pp,0,none⟩) (i+1) pc)])).get pp=some (.cells (bA cs (i*12) [S f.name,.sl 3 none (f.params.map Pa.enc),.lit (.bool false),.lit (.slice none 0 0),X,I 1,I 0,S (bl []),NIL,NIL,.lit (.string (bl [])),.lit (.slice none 0 0)])):=by
  rw[ae _ _ (Ne.symm d8p),ai]
 rcases hR with⟨h0,rfl⟩|⟨bb,bc,bcs,rfl,gb,hb1,hb2,hb3⟩
 ·exact last _ _ (by rw[h0];exact Le.nil _) gpE
 ·have nb8:bb≠b8:=fun e=>n8 ⟨_,_,by rw[e]⟩
  have nbp:bb≠pp:=fun e=>np ⟨_,_,by rw[e]⟩
  have gbE:((H7.set pp (.cells (bA cs (i*12) [S f.name,.sl 3 none (f.params.map Pa.enc),.lit (.bool false),.lit (.slice none 0 0),(.lit (.slice (some ⟨bb,0,none⟩) ((f.body.take n++more).map St.enc).length bc)),I 1,I 0,S (bl []),NIL,NIL,.lit (.string (bl [])),.lit (.slice none 0 0)]))).set b8 (.cells [.lit (.slice (some ⟨pp,0,none⟩) (i+1) pc)])).get bb=some (.cells bcs):=by
   rw[ae _ _ nb8,ae _ _ nbp];exact gb
  have hfz:FZL bb bc 15 ((f.body.take n++more).map St.enc) [S f.name,.sl 3 none (f.params.map Pa.enc),.lit (.bool false),.lit (.slice none 0 0),(.lit (.slice (some ⟨bb,0,none⟩) ((f.body.take n++more).map St.enc).length bc)),I 1,I 0,S (bl []),NIL,NIL,.lit (.string (bl [])),.lit (.slice none 0 0)] [S f.name,.sl 3 none (f.params.map Pa.enc),.lit (.bool false),.lit (.slice none 0 0),(.sl 15 none ((f.body.take n++more).map St.enc)),I 1,I 0,S (bl []),NIL,NIL,.lit (.string (bl [])),.lit (.slice none 0 0)]:=⟨.inl rfl,.inl rfl,.inl rfl,.inl rfl,.inr ⟨rfl,rfl⟩,.inl rfl,.inl rfl,.inl rfl,.inl rfl,.inl rfl,.inl rfl,.inl rfl,trivial⟩
  let G:aj:=aj.empty.set pp (.cells (bA cs (i*12) [S f.name,.sl 3 none (f.params.map Pa.enc),.lit (.bool false),.lit (.slice none 0 0),(.sl 15 none ((f.body.take n++more).map St.enc)),I 1,I 0,S (bl []),NIL,NIL,.lit (.string (bl [])),.lit (.slice none 0 0)]))
  have fr:tp ((H7.set pp (.cells (bA cs (i*12) [S f.name,.sl 3 none (f.params.map Pa.enc),.lit (.bool false),.lit (.slice none 0 0),(.lit (.slice (some ⟨bb,0,none⟩) ((f.body.take n++more).map St.enc).length bc)),I 1,I 0,S (bl []),NIL,NIL,.lit (.string (bl [])),.lit (.slice none 0 0)]))).set b8 (.cells [.lit (.slice (some ⟨pp,0,none⟩) (i+1) pc)])) G bb bc 15 ((f.body.take n++more).map St.enc):=by
   refine⟨by simp only[G];rw[ae _ _ nbp];rfl,fun d o' hd=>?_⟩
   simp only[G]at hd
   by_cases hdp:d=pp
   ·subst hdp
    rw[ai]at hd
    exact .inr ⟨_,_,gpE,(Option.some.inj hd).symm,hfz.splice _ _⟩
   ·rw[ae _ _ hdp]at hd;simp at hd
  exact(l5 gbE hb3 (jg _) hb2 (by simp only[LIM,am,bv,bk];omega) fr (xs:=[.lit (.slice (some ⟨pp,0,none⟩) (i+1) pc)]) (ys:=[.lit (.slice (some ⟨pp,0,none⟩) (i+1) pc)]) (FZL.refl _ _ _ _ _)).trans (last G _ (.refl _) (ai _ _ _))
end
theorem cut_len{p:Pg}{i n:Nat}{more:List St}(hi:i<p.length):(nP p i n more hi).length=i+1:=by
 simp[nP];omega
theorem vh{p:Pg}{i n:Nat}{more:List St}(hi:i<p.length):i<(nP p i n more hi).length:=by rw[cut_len];omega
theorem rF{p:Pg}{i n:Nat}{more:List St}(hi:i<p.length):(nP p i n more hi)[i]'(vh hi)=sQ p[i] n more:=by
 simp[nP]
theorem wX{p:Pg}{i n:Nat}{more:List St}(hi:i<p.length):(nP p i n more hi).take i=p.take i:=by
 unfold nP
 rw[List.take_set_of_le (by omega),List.take_take,eJ (by omega)]
theorem qo:∀(l:List St) (s:St) (v:Sc),v.stmts (l++[s])=if(v.stmts l).2=0 then(v.stmts l).1.stmt s else v.stmts l
 |[],s,v=>by
  rw[cU,dT,if_pos rfl,cY]
  split
  ·rename_i h;rw[dT];exact Prod.ext rfl h.symm
  ·rfl
 |a::l,s,v=>by
  rw[cC,cY,cY]
  split
  ·exact qo l s _
  ·rename_i h;rfl
theorem used_at{p:Pg}(hf:fi p=true){i n:Nat}(hi:i<p.length)(hn:n<=p[i].body.length){s:St}(hq:fi (nP p i n [s] hi)=true):
 ∃v,atS p i n=some v/\(v.stmt s).2=0/\atS (nP p i n [s] hi) i ((n+1:Nat):Int)=some (v.stmt s).1:=by
 obtain⟨a1,b0⟩:=u6 hf hi
 obtain⟨a2,b2⟩:=u6 hq (vh hi)
 have hz:=oQ _ n _ b0
 rw[wX,rF]at b2
 have hb:(sQ p[i] n [s]).body=p[i].body.take n++[s]:=rfl
 have hps:(sQ p[i] n [s]).params=p[i].params:=rfl
 rw[hb,hps,qo,if_pos hz]at b2
 refine⟨_,?_,b2,?_⟩
 ·rw[qc hf hi hn]
  unfold jb
  rw[if_pos a1,if_pos hz]
 ·have hbl:(sQ p[i] n [s]).body.length=n+1:=by rw[hb];simp;omega
  rw[qc hq (vh hi) (by rw[rF,hbl];exact aC _),wX,rF]
  have ht:(sQ p[i] n [s]).body.take (n+1)=p[i].body.take n++[s]:=by rw[<-hb];exact cH (by omega)
  unfold jb
  rw[hps,if_pos a1,ht,qo,if_pos hz,if_pos b2]
def zS(pl:Pl):St:=.mk 2 (bl [122,122,122,122]) pl ⟨bl [],[]⟩ (.mk 0 0 ⟨bl [],[]⟩ []) (bl []) [] [] []
theorem uk(ns:List ByteArray):∀vs:List Vr,((vs.map fun x=>if ns.any (fun m=>eqB m x.name)then {x with dead:=true}else x).filter fun x=>!x.dead).filter jD=((vs.filter fun x=>!x.dead).filter jD).filter fun x=>!ns.any fun m=>eqB m x.name
 |[]=>rfl
 |x::vs=>by
  have ih:=uk ns vs
  rw[aR]
  cases hx:ns.any fun m=>eqB m x.name with
  |true=>
   simp only[if_true,fF,Bool.not_true,av,if_false]
   rw[ih]
   cases x.dead with
   |true=>simp
   |false=>
    simp only[gO,if_true,fF]
    cases jD x with
    |true=>simp[hx]
    |false=>simp
  |false=>
   simp only[av,if_false,fF]
   cases x.dead with
   |true=>simpa using ih
   |false=>
    simp only[gO,if_true,fF]
    cases jD x with
    |true=>simp only[if_true,fF,hx,gO];rw[ih]
    |false=>simpa using ih
theorem used_ws{p:Pg}(hf:fi p=true){i n:Nat}(hi:i<p.length)(hn:n<=p[i].body.length){pl:Pl}(hq:fi (nP p i n [zS pl] hi)=true):
 ∃ty,(wsS (nP p i n [zS pl] hi) i ((n+1:Nat):Int)).filter jD=((wsS p i n).filter jD).filter (fun x=>!(dF p i n pl).any fun m=>eqB m x.name)++[⟨bl [122,122,122,122],true,false,ty,[pl],false⟩]:=by
 obtain⟨v,e1,e2,e3⟩:=used_at hf hi hn hq
 have hpl:pl.okB=true:=by
  have W:=(eX (kL hq)).2 _ (az (vh hi))
  have hb:=W.body
  rw[rF]at hb
  simp only[sQ,bP,a6,aV]at hb
  have:=hb.2 (zS pl) (by simp)
  rcases stW this with⟨k,r⟩|⟨k,r,nn,pp⟩|⟨k,r⟩|⟨k,r⟩|⟨k,r⟩|⟨k,r⟩
  ·simp[zS,St.kind]at k
  ·exact pp
  ·simp[zS,St.kind]at k
  ·simp[zS,St.kind]at k
  ·simp[zS,St.kind]at k
  ·simp[zS,St.kind]at k
 unfold wsS dF
 rw[e1,e3]
 simp only[hpl,if_true]
 rw[Sc.stmt_eq]at e2⊢
 have hk:(zS pl).kind=2:=rfl
 have hp:(zS pl).place=pl:=rfl
 have hnm:(zS pl).name=bl [122,122,122,122]:=rfl
 rw[hk,hp,hnm]at e2⊢
 simp only[bw,if_true,if_false]at e2⊢
 split at e2
 ·rename_i hu
  rw[if_pos hu]
  unfold eE at e2⊢
  split at e2
  ·simp at e2
  ·rename_i hg
   rw[if_neg hg]
   refine⟨(v.use pl).2.1,?_⟩
   have hvars:(v.use pl).1.vars=v.vars.map fun x=>if(bM v.vars pl).any (fun m=>eqB m x.name)then {x with dead:=true}else x:=by
    unfold Sc.use at hu⊢
    split at hu
    ·rename_i h0;rw[if_pos h0];exact iW _ _
    ·rename_i h0;exact absurd hu h0
   simp only[hvars,gD,uk]
   rfl
 ·rename_i hu;exact absurd e2 hu
theorem AP{α:Type}(q:α->Bool)(l:List α){i:Nat}(h:i<l.length)(hq:q l[i]=true):(l.filter q)[((l.take i).filter q).length]?=some l[i]:=by
 have e:l=l.take i++l[i]::l.drop (i+1):=by rw[<-bT h,gu]
 generalize hx:l[i]=x at*
 generalize l.take i=a at*
 generalize l.drop (i+1)=b at*
 subst e
 rw[gD,bf (aC _),Nat.sub_self,fF,if_pos hq]
 rfl
section
variable {P:Program}{F:Ids}{er:bV}
end
theorem Dx{d:Nat}{l:List St}(h:bP d l=true):l.length<=40:=by
 cases d with
 |zero=>simp[bP]at h
 |succ d=>simp only[bP,a6,decide_eq_true_eq]at h;exact h.1
theorem xd:∀(a b:List St),bB (a++b)=bB a+bB b
 |[],b=>by rw[cU,eQ];omega
 |s::a,b=>by rw[cC,cP,cP,xd a b];omega
theorem AX{p:Pg}(h:p.fit){i n:Nat}(hi:i<p.length){more:List St}(hm:bB more<=100)(hs:∀s∈more,s.sm 3):(nP p i n more hi).small:=by
 intro f hf
 unfold nP at hf
 rcases fY hf with h1|rfl
 ·exact h.1 f (bn h1)
 ·have h2:=(h.2 p[i] (az hi)).2
  have h3:=(h.1 p[i] (az hi)).2
  have h4:=ju p[i].body n
  refine⟨?_,fun s hs'=>?_⟩
  ·show bB (p[i].body.take n++more)<=_
   rw[xd];omega
  ·rcases aG.1 hs' with h5|h5
   ·exact h3 s (bn h5)
   ·exact hs s h5
theorem zS_sm(pl:Pl):(zS pl).sm 3:=.mk (.mk (by omega) (by simp)) (by simp) (by simp) (by simp)
theorem zS_enc(pl:Pl):LeC [I 2,S (bl [122,122,122,122]),S pl.name,au pl.path,S (bl []),NIL,I 0,I 0,S (bl []),NIL,NIL,S (bl []),NIL,NIL,NIL] (zS pl).enc:=by
 rw[St.enc_eq]
 exact⟨⟨.refl _,rfl⟩,⟨.refl _,rfl⟩,⟨.refl _,rfl⟩,⟨.refl _,rfl⟩,⟨.refl _,rfl⟩,⟨Le.nil _,rfl⟩,⟨.refl _,rfl⟩,⟨.refl _,rfl⟩,⟨.refl _,rfl⟩,⟨Le.nil _,rfl⟩,⟨Le.nil _,rfl⟩,⟨.refl _,rfl⟩,⟨Le.nil _,rfl⟩,⟨Le.nil _,rfl⟩,⟨Le.nil _,rfl⟩,trivial⟩
section
variable {P:Program}{F:Ids}{er:bV}
theorem vt(L:Lib P F)(T:Tys F)(hC:eB P F er){n:FuncId}(hfit:Fits P n (y10.1))(a:List UInt8)(H:aj)(hA:AsIs P F er H)(he:fy F er H):ACalls P n [.sl 1 none (fS a)] H fun q H'=>q=B true/\H.sub H':=by
 refine hfit (by simp[y10]) ?_
 have fin:∀(E':Env) (H':aj),E' 2=B true->H.sub H'->bm.post [.slot 2] (fun q H'=>q=B true/\H.sub H') .ret E' H':=fun E' H' h1 h2=>al (by rw[h1];exact .refl _) (aj.sub_refl _) ⟨rfl,h2⟩
 have la:(fS a).length=a.length:=by simp[fS]
 simp only[y10,go_sem,rE,rA,rL,la]
 by_cases h1:(a.length:Int)>1048576
 ·simp only[go_sem,rE,rA,rL,h1,decide_true]
  exact fin _ _ (rfl) H.sub_refl
 simp only[go_sem,rE,rA,rL,h1,decide_false]
 refine cy (sY L a (by omega)) (rfl) (aj.sub_empty _) (by simp) trivial ?_
 rintro q H' ⟨rfl,p,fn,m,pl,rfl,hd,hplp⟩ -
 rw[fZ]
 have hfi:=hd.fit (by omega)
 have hpl:p.length<=2^20:=by have:=hd.2.2;omega
 simp only[go_sem,rE,rA,rL,Pg.enc,Pl.enc]
 intro b3 hb3 b6 hb6
 have d36:=ak (ai _ _ _) hb6
 have hb6':H.get b6=none:=by rw[ae _ _ (Ne.symm d36)]at hb6;exact hb6
 have g3:((((H.set b3 (.cells [NIL])).set b6 (.cells [S (bl []),NIL])).set b3 (.cells [.sl 12 none (p.map Fu.enc)])).set b6 (.cells [S pl.name,au pl.path])).get b3=_:=(ae _ _ d36).trans (ai _ _ _)
 have g6:((((H.set b3 (.cells [NIL])).set b6 (.cells [S (bl []),NIL])).set b3 (.cells [.sl 12 none (p.map Fu.enc)])).set b6 (.cells [S pl.name,au pl.path])).get b6=_:=ai _ _ _
 have hk:H.sub ((((H.set b3 (.cells [NIL])).set b6 (.cells [S (bl []),NIL])).set b3 (.cells [.sl 12 none (p.map Fu.enc)])).set b6 (.cells [S pl.name,au pl.path])):=fun c o hc=>by
  have h3:=ak hc hb3
  have h6:=ak hc hb6'
  rw[ae _ _ h6,ae _ _ h3,ae _ _ h6,ae _ _ h3];exact hc
 simp only[go_sem,rE,rA,rL,d36,Ne.symm d36]
 generalize((((H.set b3 (.cells [NIL])).set b6 (.cells [S (bl []),NIL])).set b3 (.cells [.sl 12 none (p.map Fu.enc)])).set b6 (.cells [S pl.name,au pl.path]))=H1 at*
 have he3:fy F er H1:=fun c hc=>hk _ _ (he c hc)
 have hs:=xi L hfi hpl fn m pl hplp
 have hi:=xz L T hC p hfi.1 fn m pl (by omega) H1 he3
 have hv:=qF L T hC p hfi.1 fn m H1 he3
 have hfc:=xl L T hC hA p hfi.1 H1 hk he3
 simp only[Pg.enc,Pl.enc]at hs hi hv hfc
 obtain⟨f1,f2,-⟩:=AQ p fn m pl
 obtain⟨z1,z2⟩:=ua p
 have hw:((fB p).1 !=0)=!fi p:=z1
 refine cy hs (rfl) (aj.sub_empty _) (by simp) trivial ?_
 rintro q H' ⟨rfl,rfl⟩ -
 rw[fZ]
 simp only[go_sem,rE,rA,rL,g3,g6]
 refine cy hi (rfl) (aj.sub_refl _) (by simp) trivial ?_
 rintro q H' ⟨rfl,rfl⟩ -
 rw[eL]
 simp only[go_sem,rE,rA,rL]
 refine ao (kM L (dF p fn m pl) f2) (rfl) ?_
 simp only[go_sem,rE,rA,rL,g3]
 refine cy hfc (rfl) (aj.sub_refl _) (by simp) trivial ?_
 rintro q H' ⟨rfl,rfl⟩ -
 rw[eL]
 have hcs:fi p=false\/(fi p=true/\fn<0)\/(fi p=true/\¬fn<0/\fn>=p.length)\/(fi p=true/\¬fn<0/\¬fn>=p.length/\m<0)\/(∃(i:Nat) (hi:i<p.length),fn=i/\fi p=true/\¬m<0/\m>p[i].body.length)\/(∃(i k:Nat) (hi:i<p.length),fn=i/\m=k/\fi p=true/\k<=p[i].body.length):=by
  cases hf:fi p with
  |false=>exact .inl rfl
  |true=>
   by_cases a1:fn<0
   ·exact .inr (.inl ⟨rfl,a1⟩)
   by_cases a2:fn>=p.length
   ·exact .inr (.inr (.inl ⟨rfl,a1,a2⟩))
   by_cases a3:m<0
   ·exact .inr (.inr (.inr (.inl ⟨rfl,a1,a2,a3⟩)))
   have hi:fn.toNat<p.length:=by omega
   by_cases a4:m>p[fn.toNat].body.length
   ·exact .inr (.inr (.inr (.inr (.inl ⟨fn.toNat,hi,by omega,rfl,a3,a4⟩))))
   ·exact .inr (.inr (.inr (.inr (.inr ⟨fn.toNat,m.toNat,hi,by omega,by omega,rfl,by omega⟩))))
 rcases hcs with hf|⟨hf,a1⟩|⟨hf,a1,a2⟩|⟨hf,a1,a2,a3⟩|⟨i,hil,rfl,hf,a3,a4⟩|⟨i,k,hil,rfl,rfl,hf,hk2⟩
 case' inr.inr.inr.inr.inr=>
  rw[hf]at hw
  have q1:((i:Int)<0)=False:=by simp
  have q2:((i:Int)>=p.length)=False:=by simp;omega
  have q3:((k:Int)<0)=False:=by simp
  have q4:((k:Int)>p[i].body.length)=False:=by simp;omega
  have gi:(p.map Fu.enc)[i]?=some p[i].enc:=by simp[hil]
  have hb40:=Dx ((eX (kL hf)).2 p[i] (az hil)).body
  have hqs:=AX hfi hil (n:=k) (more:=[zS pl]) (by rw[cP,dO];simp[zS,St.args,St.thn,St.els,eQ]) (fun s hs=>by simp at hs;subst hs;exact zS_sm pl)
  have hcu:=fun tk=>(c_lhCut L p i k hil hk2 hpl (by omega) [zS pl] (by simp)).args (xs':=[.agg (Pg.enc p),I i,I k,.sl 15 (some tk) [[I 2,S (bl [122,122,122,122]),S pl.name,au pl.path,S (bl []),NIL,I 0,I 0,S (bl []),NIL,NIL,S (bl []),NIL,NIL,NIL]]]) ⟨.refl _,.refl _,.refl _,(Le.tok _ _ _).trans (.slR ⟨zS_enc pl,trivial⟩),trivial⟩
  have hfq:=xl L T hC hA _ hqs
  have hvq:=qF (er:=er) L T hC _ hqs i ((k+1:Nat):Int)
  obtain⟨z3,z4⟩:=ua (nP p i k [zS pl] hil)
  have hus:=fun hq=>used_ws hf hil hk2 (pl:=pl) hq
  generalize nP p i k [zS pl] hil=qq at*
  generalize p[i]=f at*
  simp only[Pg.enc]at hcu hfq hvq
  simp only[go_sem,rE,rA,rL,g3,g6,lR,am,hw,q1,q2,q3,q4,gi]
  have heapN:∀(G:aj) (b:Nat) (o:cQ),G.get b=none->(G.get b3=some (.cells [.sl 12 none (p.map Fu.enc)])/\G.get b6=some (.cells [S pl.name,au pl.path])/\fy F er G/\H.sub G)->
   ((G.set b o).get b3=some (.cells [.sl 12 none (p.map Fu.enc)])/\(G.set b o).get b6=some (.cells [S pl.name,au pl.path])/\fy F er (G.set b o)/\H.sub (G.set b o)):=by
   rintro G b o hb ⟨x1,x2,x3,x4⟩
   exact⟨(ae _ _ (ak x1 hb)).trans x1,(ae _ _ (ak x2 hb)).trans x2,fun c hc=>(ae _ _ (ak (x3 c hc) hb)).trans (x3 c hc),fun c o hc=>(ae _ _ (ak (x4 c o hc) hb)).trans (x4 c o hc)⟩
  have hA0:H'.get b3=some (.cells [.sl 12 none (p.map Fu.enc)])/\H'.get b6=some (.cells [S pl.name,au pl.path])/\fy F er H'/\H.sub H':=⟨g3,g6,he3,hk⟩
  clear g3 g6 he3 hk hi hv hfc
  intro b9 hb9
  have hA1:=heapN H' b9 (.cells [I 2,S (bl [122,122,122,122]),S pl.name,au pl.path,S (bl []),NIL,I 0,I 0,S (bl []),NIL,NIL,S (bl []),NIL,NIL,NIL]) hb9 hA0
  have g9:=ai H' b9 (.cells [I 2,S (bl [122,122,122,122]),S pl.name,au pl.path,S (bl []),NIL,I 0,I 0,S (bl []),NIL,NIL,S (bl []),NIL,NIL,NIL])
  generalize H'.set b9 (.cells [I 2,S (bl [122,122,122,122]),S pl.name,au pl.path,S (bl []),NIL,I 0,I 0,S (bl []),NIL,NIL,S (bl []),NIL,NIL,NIL])=H2 at*
  have g3:=hA1.1
  simp only[go_sem,rE,rA,rL,Nat.reduceMul,aE,ax,aq,aw,cv,List.drop_nil,fu,fT,List.take_succ_cons,List.take_zero,aZ,g3,g9]
  intro b79 hb79
  have hA2:=heapN H2 b79 (.tail 15 15) hb79 hA1
  have gt:=ai H2 b79 (.tail 15 15)
  refine cy (hcu _) (rfl) (aj.sub_empty _) (by simp) trivial ?_
  rintro q H3 ⟨rfl,rfl⟩ -
  rw[fZ]
  generalize H2.set b79 (.tail 15 15)=H3 at*
  simp only[go_sem,rE,rA,rL,Nat.reduceMul,aE,ax,aq,aw,cv,List.drop_nil,fu,fT,List.take_succ_cons,List.take_zero,aZ]
  intro b10 hb10
  have hA3:=heapN H3 b10 (.cells [.sl 12 none (qq.map Fu.enc)]) hb10 hA2
  have g10:=ai H3 b10 (.cells [.sl 12 none (qq.map Fu.enc)])
  generalize H3.set b10 (.cells [.sl 12 none (qq.map Fu.enc)])=H4 at*
  obtain⟨g3,g6,he4,hk4⟩:=hA3
  have hw2:((fB qq).1 !=0)=!fi qq:=z3
  refine cy (hfq H4 hk4 he4) (rfl) (aj.sub_refl _) (by simp) trivial ?_
  rintro q H5 ⟨rfl,rfl⟩ -
  rw[eL]
  cases hqf:fi qq with
  |false=>
   rw[hqf]at hw2
   simp only[go_sem,rE,rA,rL,hw2]
   exact fin _ _ rfl hk4
  |true=>
  rw[hqf]at hw2
  obtain⟨ty,hus⟩:=hus hqf
  have hvp:=qF (er:=er) L T hC p hfi.1 i k H5 he4
  have hvq:=hvq H5 he4
  have hk1c:((k+1:Nat):Int)=(k:Int)+1:=by omega
  rw[wC]at hvp hvq
  rw[hus,hk1c]at hvq
  simp only[Pg.enc]at hvp
  have o1:=(BB p i k).1
  have hll:=dz jD (wsS p i k)
  have w0:=aI (n:=(k:Int)+1) (by omega) (by omega)
  generalize dF p i k pl=EN at*
  generalize(wsS p i k).filter jD=LS at*
  simp only[go_sem,rE,rA,rL,hw2,g3,g10]
  refine cy hvp (rfl) (aj.sub_refl _) (by simp) trivial ?_
  rintro q H6 ⟨rfl,rfl⟩ -
  rw[eL]
  simp only[go_sem,rE,rA,rL,g10,w0]
  refine cy hvq (rfl) (aj.sub_refl _) (by simp) trivial ?_
  rintro q H7 ⟨rfl,rfl⟩ -
  rw[eL]
  simp only[go_sem,rE,rA,rL]
  obtain⟨AF,hAF⟩:∃AF,AF=LS.filter (fun x=>!EN.any fun m=>eqB m x.name)++[(⟨bl [122,122,122,122],true,false,ty,[pl],false⟩:Vr)]:=⟨_,rfl⟩
  rw[<-hAF]
  have hAl:AF.length=(LS.filter (fun x=>!EN.any fun m=>eqB m x.name)).length+1:=by rw[hAF];simp
  have hfl:=dz (fun x=>!EN.any fun m=>eqB m x.name) LS
  refine aS LS.length (fun j E' H'=>E' 6=.ptr b6 0/\E' 8=.sl 1 none (aD EN)/\E' 11=.sl 2 none (LS.map iU)/\E' 12=.sl 2 none (AF.map iU)/\E' 13=I ((LS.take j).filter (fun x=>!EN.any fun m=>eqB m x.name)).length/\E' 14=I j/\H'.get b6=some (.cells [S pl.name,au pl.path])/\H.sub H') ⟨rfl,rfl,rfl,rfl,rfl,rfl,g6,hk4⟩ ?_
  rintro j E1 H8 hj ⟨r6,r8,r11,r12,r13,r14,g6',hk5⟩
  simp only[go_sem,rE,rA,rL,r14,r11,am]
  refine aF (fun hlt=>?_) (fun hge=>?_)
  ·have hj1:j<LS.length:=by omega
   have w1:=aI (n:=(j:Int)+1) (by omega) (by omega)
   have hgx:=k9 hj1
   have hfa:=AP (fun x=>!EN.any fun m=>eqB m x.name) LS hj1
   have htk:((LS.take (j+1)).filter (fun x=>!EN.any fun m=>eqB m x.name)).length=((LS.take j).filter (fun x=>!EN.any fun m=>eqB m x.name)).length+if(!EN.any fun m=>eqB m LS[j].name)then 1 else 0:=by
    rw[aA hj1,gD,bv]
    cases h:(EN.any fun m=>eqB m LS[j].name)<;>simp[h]
   generalize LS[j]=x at*
   generalize hc:((LS.take j).filter (fun x=>!EN.any fun m=>eqB m x.name)).length=c at*
   have hcl:c<=LS.length:=by rw[<-hc];exact bQ (dz _ _) (by rw[bk];omega)
   have w2:=aI (n:=(c:Int)+1) (by omega) (by omega)
   simp only[go_sem,rE,rA,rL,r8,r11,r14,hgx]
   refine ao (c_lhHas L EN x.name f2) (rfl) ?_
   cases hq:EN.any fun m=>eqB m x.name with
   |true=>
    rw[hq]at htk
    simp only[go_sem,rE,rA,rL,r6,r8,r11,r12,r13,r14,w1]
    exact⟨hj1,H8,aj.sub_refl _,by rw[htk];rfl,rfl,g6',hk5⟩
   |false=>
    rw[hq]at htk
    have hfa:=hfa (by rw[hq];rfl)
    have hcl2:=(aQ.1 hfa).1
    have hcA:c<AF.length:=by omega
    have hgy:=k9 hcA
    have hAx:AF[c]=x:=by
     have:AF[c]?=some x:=by rw[hAF,aL hcl2];exact hfa
     exact Option.some.inj ((ay hcA).symm.trans this)
    rw[hAx]at hgy
    have hcl3:((c:Int)>=AF.length)=False:=by simp;omega
    simp only[go_sem,rE,rA,rL,r6,r8,r11,r12,r13,r14,w1,w2,hgx,hgy,hcl3,am,cw,dx]
    exact⟨hj1,H8,aj.sub_refl _,by rw[htk];rfl,rfl,g6',hk5⟩
  ·have hkk:j=LS.length:=by omega
   subst hkk
   rw[aM]at r13
   generalize hc:(LS.filter (fun x=>!EN.any fun m=>eqB m x.name)).length=c at*
   have hcA:c<AF.length:=by omega
   have w2:=aI (n:=(c:Int)+1) (by omega) (by omega)
   have hgy:=k9 hcA
   have hAx:AF[c]=(⟨bl [122,122,122,122],true,false,ty,[pl],false⟩:Vr):=by
    have:AF[c]?=some (⟨bl [122,122,122,122],true,false,ty,[pl],false⟩:Vr):=by rw[hAF,bf (by omega),hc,Nat.sub_self];rfl
    exact Option.some.inj ((ay hcA).symm.trans this)
   rw[hAx]at hgy
   have hce:((c:Int)+1==(AF.length:Int))=true:=by rw[hAl];simp
   have hpl2:(List.map Pl.enc [pl])[0]?=some [S pl.name,au pl.path]:=rfl
   have hgy:(AF.map iU)[c]?=some [S (bl [122,122,122,122]),.sl 2 none [[S pl.name,au pl.path]]]:=hgy
   have h11:(((0+1:Nat):Int)==1)=true:=rfl
   have h12:(((1:Nat):Int)==1)=true:=rfl
   simp only[go_sem,rE,rA,rL,r6,r12,r13,w2,hgy,hce,am,cw,dx,aU,bN,h11,h12,g6',cW,Int.toNat_zero,a7,bJ]
   refine ao (Bi L pl pl (by omega)) (rfl) ?_
   simp only[go_sem,rE,rA,rL,dx]
   exact fin _ _ rfl hk5
 ·rw[hf]at hw
  simp only[go_sem,rE,rA,rL,g3,g6,am,hw]
  refine ao (kM L (dF p _ m pl) f2) (rfl) ?_
  simp only[go_sem,rE,rA,rL]
  exact fin _ _ rfl hk
 ·rw[hf]at hw
  simp only[go_sem,rE,rA,rL,g3,g6,am,hw,a1]
  refine ao (kM L (dF p _ m pl) f2) (rfl) ?_
  simp only[go_sem,rE,rA,rL]
  exact fin _ _ rfl hk
 ·rw[hf]at hw
  simp only[go_sem,rE,rA,rL,g3,g6,am,hw,a1,a2]
  refine ao (kM L (dF p _ m pl) f2) (rfl) ?_
  simp only[go_sem,rE,rA,rL]
  exact fin _ _ rfl hk
 ·rw[hf]at hw
  simp only[go_sem,rE,rA,rL,g3,g6,am,hw,a1,a2,a3]
  refine ao (kM L (dF p _ m pl) f2) (rfl) ?_
  simp only[go_sem,rE,rA,rL]
  exact fin _ _ rfl hk
 ·rw[hf]at hw
  have q1:((i:Int)<0)=False:=by simp
  have q2:((i:Int)>=p.length)=False:=by simp;omega
  have gi:(p.map Fu.enc)[i]?=some p[i].enc:=by simp[hil]
  simp only[go_sem,rE,rA,rL,g3,g6,am,lR,hw,q1,q2,a3,a4,gi]
  refine ao (kM L (dF p _ m pl) f2) (rfl) ?_
  simp only[go_sem,rE,rA,rL]
  exact fin _ _ rfl hk
end
open Go.Proofs
section
open Go.RowKit Go.Extern.Stop Go.Stop Go.Extern
theorem as_nil(t:Value)(w:World):
 Calls Tryz.prog 64 #[.nilIface,t] w fun e w'=>e=.returned (.bool false)/\w'=w:=by
 go_enter Tryz.func64,Tryz.ntmps64
 go_wp2
 go_ret
 exact⟨rfl,rfl⟩
theorem uG(t:Addr)(w:World):(ReflectliteValue.unpack (.iface 122 (.pointer (some t)))).run Tryz.prog w
 =.ok (.agg #[.pointer (some ⟨5,122,none⟩),.pointer (some ⟨w.heap.size,0,none⟩),.int .u64 150]) (w.alloc (.cells #[.pointer (some t)] 122)):=by kernel_rfl
theorem Af(a:Addr)(w:World):(ReflectliteValue.methodAny (ReflectliteValue.valueError "reflectlite.Value.Type" 0) (fun t _ _ _=>ReflectliteType.toType t) #[.agg #[.pointer (some ⟨5,122,none⟩),.pointer (some a),.int .u64 150]]).run Tryz.prog w
 =.ok (.iface 189 (.agg #[.pointer (some ⟨5,122,none⟩)])) w:=by kernel_rfl
theorem tz(h:Value)(w:World):(Go.method 388 189 (.agg #[h]) "Kind").run Tryz.prog w=.ok (176,h) w:=by kernel_rfl
theorem Ai(w:World):((ReflectliteType.abiMethod fun t=>(fun a:Nat=>Value.int IntKind.u8 (a:Int))<$>Rtype.kind t) #[.pointer (some ⟨5,122,none⟩)]).run Tryz.prog w=.ok (.int .u8 22) w:=by kernel_rfl
theorem Aj(w:World):((ReflectliteType.abiMethod fun t=>(fun a:Nat=>Value.int IntKind.u8 (a:Int))<$>Rtype.kind t) #[.pointer (some ⟨5,120,none⟩)]).run Tryz.prog w=.ok (.int .u8 22) w:=by kernel_rfl
theorem rlm(z:Sem Value)(f:TypeId->Addr->Nat->Nat->Sem Value)(v:Value):
 ReflectliteValue.method z f #[v]=(do match <-ReflectliteValue.parts v with|none=>z|some (t,a,fl)=>f t a fl (fl % 32)):=rfl
theorem rK(a:Addr)(w:World):(ReflectliteValue.parts (.agg #[.pointer (some ⟨5,122,none⟩),.pointer (some a),.int .u64 150])).run Tryz.prog w=.ok (some (122,a,150)) w:=by kernel_rfl
theorem xV(a p:Addr)(W:World)(ha:W.cell? a=some (.pointer (some p))):
 (ReflectliteValue.method (ReflectliteValue.valueError "reflectlite.Value.IsNil" 0) ReflectliteValue.isNil #[.agg #[.pointer (some ⟨5,122,none⟩),.pointer (some a),.int .u64 150]]).run Tryz.prog W=.ok (.bool false) W:=by
 rw[rlm]
 simp only[Sem.run_bind,rK,Result.andThen]
 simp[ReflectliteValue.isNil,loadVar,isAgg,underlying,Tryz.underlying122,ha,Result.andThen]
theorem t7(h:Value)(w:World):(Go.method 388 189 (.agg #[h]) "Elem").run Tryz.prog w=.ok (194,.agg #[h]) w:=by kernel_rfl
theorem oC(h:Value)(w:World):(Go.method 388 189 (.agg #[h]) "Implements").run Tryz.prog w=.ok (195,.agg #[h]) w:=by kernel_rfl
theorem mW(h:Value)(w:World):(Go.method 388 189 (.agg #[h]) "AssignableTo").run Tryz.prog w=.ok (192,.agg #[h]) w:=by kernel_rfl
theorem Am(w:World):(ReflectliteType.method ReflectliteType.elem #[.agg #[.pointer (some ⟨5,122,none⟩)]]).run Tryz.prog w=.ok (.iface 189 (.agg #[.pointer (some ⟨5,120,none⟩)])) w:=by kernel_rfl
theorem rn(w:World):(ReflectliteType.relation "Implements" ReflectliteType.implements_ #[.agg #[.pointer (some ⟨5,120,none⟩)],.iface 189 (.agg #[.pointer (some ⟨5,107,none⟩)])]).run Tryz.prog w=.ok (.bool true) w:=by kernel_rfl
theorem vO(v:Value)(w:World):(ReflectliteType.typeOf #[.iface 120 v]).run Tryz.prog w=.ok (.iface 189 (.agg #[.pointer (some ⟨5,120,none⟩)])) w:=by kernel_rfl
theorem rp(w:World):(ReflectliteType.relation "AssignableTo" ReflectliteType.assignableTo #[.agg #[.pointer (some ⟨5,120,none⟩)],.iface 189 (.agg #[.pointer (some ⟨5,120,none⟩)])]).run Tryz.prog w=.ok (.bool true) w:=by kernel_rfl
theorem uH(e:Addr)(w:World):(ReflectliteValue.unpack (.iface 120 (.pointer (some e)))).run Tryz.prog w
 =.ok (.agg #[.pointer (some ⟨5,120,none⟩),.pointer (some ⟨w.heap.size,0,none⟩),.int .u64 150]) (w.alloc (.cells #[.pointer (some e)] 120)):=by kernel_rfl
theorem vR(w:World):(Rtype.elem? 122).run Tryz.prog w=.ok (some 120) w:=by kernel_rfl
theorem tz_mk25(p:Addr)(w:World):(ReflectliteValue.mk 120 p ReflectliteValue.flagAddr).run Tryz.prog w=.ok (.agg #[.pointer (some ⟨5,120,none⟩),.pointer (some p),.int .u64 406]) w:=by kernel_rfl
theorem xW(a p:Addr)(W:World)(ha:W.cell? a=some (.pointer (some p))):
 (ReflectliteValue.method (ReflectliteValue.valueError "reflectlite.Value.Elem" 0) ReflectliteValue.elem #[.agg #[.pointer (some ⟨5,122,none⟩),.pointer (some a),.int .u64 150]]).run Tryz.prog W
  =.ok (.agg #[.pointer (some ⟨5,120,none⟩),.pointer (some p),.int .u64 406]) W:=by
 rw[rlm]
 simp only[Sem.run_bind,rK,Result.andThen]
 simp[ReflectliteValue.elem,loadVar,isAgg,underlying,Tryz.underlying122,ha,Result.andThen,vR,tz_mk25]
theorem rls(v x:Value):ReflectliteValue.set #[v,x]=(do
 let(some (dst,a,fl),some (src,b,_)):=(<-ReflectliteValue.parts v,<-ReflectliteValue.parts x)
  |unsupported (.noEntry "extern/(internal/reflectlite.Value).Set.zeroValue")
 if fl / ReflectliteValue.flagAddr % 2==0 then unsupported (.noEntry "extern/(internal/reflectlite.Value).Set.unaddressable")
 let val <-loadVar src b
 if <-Rtype.directlyAssignable dst src then storeVar dst a val
 else if <-Rtype.implements dst src then
  if(<-Rtype.kind src)==20 then
   match val with
   |.nilIface=>unsupported (.noEntry "extern/reflectlite: a nil value of one interface type handed on as a value of another")
   |_=>storeVar dst a val
  else storeVar dst a (.iface src val)
 else panicString ("reflectlite.Set: value of type " ++(<-Rtype.spelt src)++ " is not assignable to type " ++(<-Rtype.spelt dst))
 pure (.tuple #[])):=rfl
theorem vP(a:Addr)(w:World):(ReflectliteValue.parts (.agg #[.pointer (some ⟨5,120,none⟩),.pointer (some a),.int .u64 406])).run Tryz.prog w=.ok (some (120,a,406)) w:=by kernel_rfl
theorem xU(a:Addr)(w:World):(ReflectliteValue.parts (.agg #[.pointer (some ⟨5,120,none⟩),.pointer (some a),.int .u64 150])).run Tryz.prog w=.ok (some (120,a,150)) w:=by kernel_rfl
theorem vS(w:World):(Rtype.directlyAssignable 120 120).run Tryz.prog w=.ok true w:=by kernel_rfl
theorem tz_size25(w:World):(sizeOf 120).run Tryz.prog w=.ok 1 w:=by kernel_rfl
theorem BJ(ta b e:Addr)(old:Value)(W:World)(hb:W.cell? b=some (.pointer (some e)))(ht:W.cell? ta=some old)(hf:W.frozen? ta=false):
 (ReflectliteValue.set #[.agg #[.pointer (some ⟨5,120,none⟩),.pointer (some ta),.int .u64 406],.agg #[.pointer (some ⟨5,120,none⟩),.pointer (some b),.int .u64 150]]).run Tryz.prog W
  =.ok (.tuple #[]) (W.setCell ta (.pointer (some e))):=by
 rw[rls]
 simp only[Sem.run_bind,vP,xU,Result.andThen]
 simp[ReflectliteValue.flagAddr,loadVar,isAgg,underlying,Tryz.underlying120,hb,Result.andThen,vS,storeVar,Value.cells,storeCells,Addr.add]
 rw[Go.run_store Tryz.prog W ta _ _ (by rfl)]
 simp[ht,hf]
set_option maxHeartbeats 4000000 in
set_option maxRecDepth 100000 in
theorem as_hit (e t:Addr) (old:Value) (w:World) (hg:w.cell? ⟨3,0,none⟩=some (.iface 189 (.agg #[.pointer (some ⟨5,107,none⟩)]))) (ht0:w.cell? t=some old) (hf0:w.frozen? t=false):
 Calls Tryz.prog 64 #[.iface 120 (.pointer (some e)),.iface 122 (.pointer (some t))] w fun ev w'=>ev=.returned (.bool true)/\w'=((((w.alloc (.cells #[.pointer (some t)] 122)).alloc (.cells #[.pointer (some ⟨5,122,none⟩),.pointer (some ⟨w.heap.size,0,none⟩),.int .u64 150] 139)).alloc (.cells #[.pointer (some ⟨5,122,none⟩),.pointer (some ⟨w.heap.size,0,none⟩),.int .u64 150] 139)).alloc (.cells #[.pointer (some e)] 120)).setCell t (.pointer (some e)):=by
 have h6:=@run_callFunc_extern Tryz.prog 78 _ (fun args=>ReflectliteValue.unpack (args.getD 0 (.tuple #[]))) Tryz.func78 (by kernel_rfl) (by kernel_rfl) (by kernel_rfl) (by kernel_rfl)
 have h7:=@run_callFunc_extern Tryz.prog 79 _ (ReflectliteValue.methodAny (ReflectliteValue.valueError "reflectlite.Value.Type" 0) (fun t _ _ _=>ReflectliteType.toType t)) Tryz.func79 (by kernel_rfl) (by kernel_rfl) (by kernel_rfl) (by kernel_rfl)
 have h8:=@run_callFunc_extern Tryz.prog 80 _ (ReflectliteValue.method (ReflectliteValue.valueError "reflectlite.Value.IsNil" 0) ReflectliteValue.isNil) Tryz.func80 (by kernel_rfl) (by kernel_rfl) (by kernel_rfl) (by kernel_rfl)
 have h27:=@run_callFunc_extern Tryz.prog 176 _ (ReflectliteType.abiMethod fun t=>do pure (.int .u8 (<-Rtype.kind t))) Tryz.func176 (by kernel_rfl) (by kernel_rfl) (by kernel_rfl) (by kernel_rfl)
 have h37:=@run_callFunc_extern Tryz.prog 194 _ (ReflectliteType.method ReflectliteType.elem) Tryz.func194 (by kernel_rfl) (by kernel_rfl) (by kernel_rfl) (by kernel_rfl)
 have h38:=@run_callFunc_extern Tryz.prog 195 _ (ReflectliteType.relation "Implements" ReflectliteType.implements_) Tryz.func195 (by kernel_rfl) (by kernel_rfl) (by kernel_rfl) (by kernel_rfl)
 have h10:=@run_callFunc_extern Tryz.prog 82 _ ReflectliteType.typeOf Tryz.func82 (by kernel_rfl) (by kernel_rfl) (by kernel_rfl) (by kernel_rfl)
 have h35:=@run_callFunc_extern Tryz.prog 192 _ (ReflectliteType.relation "AssignableTo" ReflectliteType.assignableTo) Tryz.func192 (by kernel_rfl) (by kernel_rfl) (by kernel_rfl) (by kernel_rfl)
 have h11:=@run_callFunc_extern Tryz.prog 111 _ (ReflectliteValue.method (ReflectliteValue.valueError "reflectlite.Value.Elem" 0) ReflectliteValue.elem) Tryz.func111 (by kernel_rfl) (by kernel_rfl) (by kernel_rfl) (by kernel_rfl)
 have h12:=@run_callFunc_extern Tryz.prog 112 _ ReflectliteValue.set Tryz.func112 (by kernel_rfl) (by kernel_rfl) (by kernel_rfl) (by kernel_rfl)
 have tO:=vO
 have mA:=mW
 have a25:=rp
 have v25:=uH
 have f6:=uG
 have f7:=Af
 have mK:=tz
 have mE:=t7
 have mI:=oC
 have k27:=Ai
 have k25:=Aj
 have e27:=Am
 have i25:=rn
 have n8:=xV ⟨w.heap.size,0,none⟩ t ((w.alloc (.cells #[.pointer (some t)] 122)).alloc (.cells #[.pointer (some ⟨5,122,none⟩),.pointer (some ⟨w.heap.size,0,none⟩),.int .u64 150] 139)) (by simp)
 have hlt:3<w.heap.size:=by
  rcases Nat.lt_or_ge 3 w.heap.size with h|h0
  ·exact h
  ·simp[World.cell?,Array.getElem?_eq_none h0]at hg
 have hg2:((w.alloc (.cells #[.pointer (some t)] 122)).alloc (.cells #[.pointer (some ⟨5,122,none⟩),.pointer (some ⟨w.heap.size,0,none⟩),.int .u64 150] 139)).cell? ⟨3,0,none⟩=some (.iface 189 (.agg #[.pointer (some ⟨5,107,none⟩)])):=by
  rw[World.cell?_alloc_lt _ _ ⟨3,0,none⟩ (by simp;omega),World.cell?_alloc_lt _ _ ⟨3,0,none⟩ hlt];exact hg
 have htl:t.block<w.heap.size:=by
  rcases Nat.lt_or_ge t.block w.heap.size with h|h
  ·exact h
  ·simp[World.cell?,Array.getElem?_eq_none h]at ht0
 have el:=xW ⟨w.heap.size,0,none⟩ t (((w.alloc (.cells #[.pointer (some t)] 122)).alloc (.cells #[.pointer (some ⟨5,122,none⟩),.pointer (some ⟨w.heap.size,0,none⟩),.int .u64 150] 139)).alloc (.cells #[.pointer (some ⟨5,122,none⟩),.pointer (some ⟨w.heap.size,0,none⟩),.int .u64 150] 139)) (by rw[World.cell?_alloc_lt _ _ ⟨w.heap.size,0,none⟩ (by simp;omega)];simp)
 have st:=BJ t ⟨w.heap.size+1+1+1,0,none⟩ e old ((((w.alloc (.cells #[.pointer (some t)] 122)).alloc (.cells #[.pointer (some ⟨5,122,none⟩),.pointer (some ⟨w.heap.size,0,none⟩),.int .u64 150] 139)).alloc (.cells #[.pointer (some ⟨5,122,none⟩),.pointer (some ⟨w.heap.size,0,none⟩),.int .u64 150] 139)).alloc (.cells #[.pointer (some e)] 120))
  (by rw[World.cell?_alloc_at _ _ _ _ (by simp)];rfl)
  (by rw[World.cell?_alloc_lt _ _ t (by simp;omega),World.cell?_alloc_lt _ _ t (by simp;omega),World.cell?_alloc_lt _ _ t (by simp;omega),World.cell?_alloc_lt _ _ t htl];exact ht0)
  (by rw[World.frozen?_alloc_old _ _ t (by simp;omega),World.frozen?_alloc_old _ _ t (by simp;omega),World.frozen?_alloc_old _ _ t (by simp;omega),World.frozen?_alloc_old _ _ t (Nat.ne_of_lt htl)];exact hf0)
 go_enter Tryz.func64,Tryz.ntmps64
 go_wp2
 refine wp_loop_rounds 1 ?_
 rw[rounds_succ]
 go_wp2
 go_ret
 exact⟨rfl,rfl⟩
end
open Go.Proofs
section
open Go.RowKit Go.Extern.Stop Go.Stop Go.Extern
theorem vQ(v:Value)(w:World):(Extern.ReflectliteType.typeOf #[.iface 255 v]).run Tryz.prog w=.ok (.iface 189 (.agg #[.pointer (some ⟨5,255,none⟩)])) w:=by kernel_rfl
theorem rm(w:World):((Extern.ReflectliteType.method fun t=>do Go.Extern.Rtype.noPackHeld "Comparable" t;pure (.bool (<-typeInfo t).comparable)) #[.agg #[.pointer (some ⟨5,255,none⟩)]]).run Tryz.prog w=.ok (.bool true) w:=by kernel_rfl
theorem mX(v:Value)(w:World):(Go.method 388 189 v "Comparable").run Tryz.prog w=.ok (193,v) w:=by kernel_rfl
theorem Al:(Tryz.prog.info? 255).map (·.comparable)=some true:=by kernel_rfl
theorem Ak:(Tryz.prog.info? 276).map (·.size)=some 1:=by kernel_rfl
theorem BL(v:Value)(xT:TypeId)(w:World):(Instr.typeAssert (.iface 255 v) xT 201 true).run Tryz.prog w=.ok (.tuple #[.nilIface,.bool false]) w:=run_typeAssert_lacksB Tryz.underlying201 (by kernel_rfl) (by kernel_rfl) v xT w
theorem uI(v:Value)(xT:TypeId)(w:World):(Instr.typeAssert (.iface 255 v) xT 196 true).run Tryz.prog w=.ok (.tuple #[.nilIface,.bool false]) w:=run_typeAssert_lacksB Tryz.underlying196 (by kernel_rfl) (by kernel_rfl) v xT w
theorem tw(v:Value)(xT:TypeId)(w:World):(Instr.typeAssert (.iface 255 v) xT 198 true).run Tryz.prog w=.ok (.tuple #[.nilIface,.bool false]) w:=run_typeAssert_lacksB Tryz.underlying198 (by kernel_rfl) (by kernel_rfl) v xT w
theorem BK(v:Value)(xT:TypeId)(w:World):(Instr.typeAssert (.iface 120 v) xT 201 true).run Tryz.prog w=.ok (.tuple #[.nilIface,.bool false]) w:=run_typeAssert_lacksB Tryz.underlying201 (by kernel_rfl) (by kernel_rfl) v xT w
theorem t8(v:Value)(xT:TypeId)(w:World):(Instr.typeAssert (.iface 120 v) xT 196 true).run Tryz.prog w=.ok (.tuple #[.iface 120 v,.bool true]) w:=run_typeAssert_hasB Tryz.underlying196 (by kernel_rfl) v xT w
theorem rk(v:Value)(w:World):(Go.method 388 120 v "Unwrap").run Tryz.prog w=.ok (181,v) w:=by kernel_rfl
set_option maxHeartbeats 4000000 in
set_option maxRecDepth 1000000 in
theorem tz_is {W:World} (b:Nat) (x k:Addr) (cb ca:Array Value) (tb ta:TypeId) (hx:W.heap[x.block]?=some (.cells ca ta (0,0))) (hk:W.heap[k.block]?=some (.cells cb tb (0,0)))
 (hc:W.cell? ⟨b,1,none⟩=some (.iface 255 (.pointer (some x)))):
 Calls Tryz.prog 83 #[.iface 120 (.pointer (some ⟨b,0,none⟩)),.iface 255 (.pointer (some k)),.bool true] W fun e w'=>e=.returned (.bool (decide (x=k)))/\w'=W:=by
 obtain⟨i,hi,hcmp⟩:=a9.1 Al
 obtain⟨j,hj,hjs⟩:=a9.1 Ak
 have nE:=BL
 have uE:=uI
 have vE:=tw
 have nW:=BK
 have uW:=t8
 have mU:=rk
 have hty:=fun wr=>run_eql_iface_types (P:=Tryz.prog) 120 255 (.pointer (some ⟨b,0,none⟩)) (.pointer (some k)) Tryz.underlying107 (by decide) wr
 have heq:∀wr:World,wr.heap=W.heap->(binOp .eql 107 (.iface 255 (.pointer (some x))) (.iface 255 (.pointer (some k)))).run Tryz.prog wr=.ok (.bool (decide (x=k))) wr:=fun wr hw=>by
  by_cases h:x=k
  ·subst h
   rw[decide_eq_true rfl]
   exact run_eql_iface_ptr_same (P:=Tryz.prog) _ x Tryz.underlying107 Tryz.underlying255 hi hcmp hj
  ·rw[decide_eq_false h]
   exact run_eql_iface_ptr_other (P:=Tryz.prog) _ Tryz.underlying107 Tryz.underlying255 hi hcmp hj (by rw[hjs];decide) h (by rw[hw];exact hx) (by rw[hw];exact hk)
 have heq:=heq W rfl
 have hty:=hty W
 go_enter Tryz.func83,Tryz.ntmps83
 go_wp2
 refine wp_loop_rounds 2 ?_
 rw[rounds_succ]
 go_wp2
 rw[rounds_succ]
 go_wp2
 ·rename_i h
  go_ret
  exact⟨by rw[show decide (x=k)=true by simpa using h];rfl,rfl⟩
 ·rename_i h
  go_ret
  exact⟨by rw[show decide (x=k)=false by simpa using h];rfl,rfl⟩
set_option maxHeartbeats 4000000 in
set_option maxRecDepth 1000000 in
theorem tz_Is {W:World} (b:Nat) (x k:Addr) (cb ca:Array Value) (tb ta:TypeId) (hx:W.heap[x.block]?=some (.cells ca ta (0,0))) (hk:W.heap[k.block]?=some (.cells cb tb (0,0)))
 (hc:W.cell? ⟨b,1,none⟩=some (.iface 255 (.pointer (some x)))):
 Calls Tryz.prog 65 #[.iface 120 (.pointer (some ⟨b,0,none⟩)),.iface 255 (.pointer (some k))] W fun e w'=>e=.returned (.bool (decide (x=k)))/\w'=W:=by
 have h10:=@run_callFunc_extern Tryz.prog 82 _ Extern.ReflectliteType.typeOf Tryz.func82 (by kernel_rfl) (by kernel_rfl) (by kernel_rfl) (by kernel_rfl)
 have h30:=@run_callFunc_extern Tryz.prog 193 _ (Extern.ReflectliteType.method fun t=>do Go.Extern.Rtype.noPackHeld "Comparable" t;pure (.bool (<-typeInfo t).comparable)) Tryz.func193 (by kernel_rfl) (by kernel_rfl) (by kernel_rfl) (by kernel_rfl)
 have tT:=vQ
 have cT:=fun w=>(h30 #[.agg #[.pointer (some ⟨5,255,none⟩)]] w).trans (by rw[rm w];rfl:_=Result.ok (Next.value (.bool true)) w)
 clear h30
 have mR:=mX
 have hcon:=tz_is b x k cb ca tb ta hx hk hc
 go_enter Tryz.func65,Tryz.ntmps65
 go_wp2_with (first|(go_at_call 83;refine hcon.mono ?_;rintro e w' ⟨rfl,rfl⟩)|go_in)
 go_ret
 exact⟨rfl,rfl⟩
end
open Go.Proofs
theorem BV{M:bU}{H:aj}{w w':World}(s:Sim M H w){t:Nat}{o:List AC}(ht:H.get t=some (.cells o)){x:AC}{v:Value}{el:TypeId}(hx:x.one=true)(hr:Rep M x v)
(hc:w'.heap[t]?=some (.cells #[v] el (0,0)))(ho:∀k,k<w.heap.size->k≠t->w'.heap[k]?=w.heap[k]?)(hs:w.heap.size<=w'.heap.size)(hio:ry w w'):
 Sim M (H.set t (.cells [x])) w'/\bK M H w M (H.set t (.cells [x])) w':=by
 obtain⟨vs0,el0,q1,q2,q3,q4,q5⟩:=s.obj t _ ht
 refine⟨⟨fun b o v hm=>?_,fun b h hb=>?_⟩,⟨bU.le_refl M,hs,fun b hb hn=>⟨ho b hb fun e=>by subst e;rw[ht]at hn;simp at hn,fun _=>rfl⟩,fun b hb=>?_,hio⟩⟩
 ·have hbt:b≠t:=fun e=>by subst e;rw[q5]at hm;simp at hm
  have h1:=s.mem b o v hm
  rw[eZ]at h1⊢
  rw[ho b (s.mem_lt hm) hbt];exact h1
 ·rw[aO]at hb
  split at hb
  ·rename_i e;subst e;simp at hb;subst hb
   refine⟨#[v],el,hc,by simpa using hx,by simp,fun j y u hy hu=>?_,q5⟩
   cases j with
   |zero=>simp at hy hu;subst hy hu;exact hr
   |succ j=>simp at hy
  ·rename_i hbt
   have h1:=s.obj b h hb
   have e:=ho b (s.lt hb) hbt
   cases h with
   |cells cs=>obtain⟨vs,el,h1,h2⟩:=h1;exact⟨vs,el,e.trans h1,h2⟩
   |tail n m'=>obtain⟨vs,el,h1,h2⟩:=h1;exact⟨vs,el,e.trans h1,h2⟩
   |typed ty cs=>obtain⟨vs,h1,h2⟩:=h1;exact⟨vs,e.trans h1,h2⟩
   |map f=>obtain⟨es,cl,h1,h2⟩:=h1;exact⟨es,cl,e.trans h1,h2⟩
   |const ob cs=>obtain⟨h1,h2⟩:=h1;exact⟨e.trans h1,h2⟩
 ·rw[aO]at hb
  split at hb
  ·rename_i e;subst e;exact .inl (by rw[ht];simp)
  ·exact .inl hb
theorem rep2{M:bU}{x y:AC}{vs:List Value}(r:il M [x,y] vs):∃v u,vs=[v,u]/\Rep M x v/\Rep M y u:=by
 obtain⟨hl,h⟩:=r
 match vs,hl with
 |[v,u],_=>exact⟨v,u,rfl,h 0 x v rfl rfl,h 1 y u rfl rfl⟩
theorem Rep.iface_inv{M:bU}{t:TypeId}{x:AC}{u:Value}(h:Rep M (.iface t x) u):∃v,u=.iface t v/\Rep M x v:=by cases h;exact⟨_,rfl,by assumption⟩
theorem z_nil(x:AC)(H:aj):ACalls Tryz.prog 64 [.lit .nilIface,x] H fun q H'=>q=B false/\H'=H:=by
 intro M w vs s r
 obtain⟨v,u,rfl,h1,h2⟩:=rep2 r
 obtain⟨rfl,-⟩:=h1.lit_inv
 refine(as_nil u w).mono ?_
 rintro e w' ⟨rfl,rfl⟩
 exact⟨B false,_,M,H,rfl,.lit trivial,s,bK.refl _ _ _,rfl,rfl⟩
theorem z_hit{H0:aj}{el:TypeId}{fr:Nat×Nat}{X:List AC}(h3:H0.get 3=some (.const (.cells #[.iface 189 (.agg #[.pointer (some ⟨5,107,none⟩)])] el fr) X))(b t:Nat)(H:aj)(h0:H0.sub H)(ht:H.get t=some (.cells [.lit (.pointer none)])):
 ACalls Tryz.prog 64 [.iface 120 (.ptr b 0),.iface 122 (.ptr t 0)] H fun q H'=>q=B true/\H'=H.set t (.cells [.ptr b 0]):=by
 intro M w vs s r
 obtain⟨v,u,rfl,h1,h2⟩:=rep2 r
 obtain⟨v',rfl,a1⟩:=h1.iface_inv
 obtain⟨u',rfl,a2⟩:=h2.iface_inv
 obtain rfl:=a1.ptr_inv
 obtain rfl:=a2.ptr_inv
 obtain⟨vs0,el0,q1,q2,q3,q4,q5⟩:=s.obj t _ ht
 obtain⟨c0,rfl⟩:∃c,vs0=#[c]:=Array.size_eq_one_iff.1 (by simpa using q3.symm)
 have g3:=(s.obj 3 _ (h0 _ _ h3)).1
 have hg:w.cell? ⟨3,0,none⟩=some (.iface 189 (.agg #[.pointer (some ⟨5,107,none⟩)])):=by rw[eZ,g3];rfl
 have ht0:w.cell? ⟨t,0,none⟩=some c0:=by rw[eZ,q1];rfl
 have hf0:w.frozen? ⟨t,0,none⟩=false:=by simp[World.frozen?,q1]
 have htl:=s.lt ht
 refine(as_hit ⟨b,0,none⟩ ⟨t,0,none⟩ c0 w hg ht0 hf0).mono ?_
 rintro e w' ⟨rfl,rfl⟩
 have key:=BV (w':=((((w.alloc (.cells #[.pointer (some ⟨t,0,none⟩)] 122)).alloc (.cells #[.pointer (some ⟨5,122,none⟩),.pointer (some ⟨w.heap.size,0,none⟩),.int .u64 150] 139)).alloc (.cells #[.pointer (some ⟨5,122,none⟩),.pointer (some ⟨w.heap.size,0,none⟩),.int .u64 150] 139)).alloc (.cells #[.pointer (some ⟨b,0,none⟩)] 120)).setCell ⟨t,0,none⟩ (.pointer (some ⟨b,0,none⟩))) s ht (x:=.ptr b 0) (v:=.pointer (some ⟨b,0,none⟩)) (el:=el0) rfl .ptr ?_ ?_ ?_ ?_
 ·exact⟨B true,_,M,_,rfl,.lit trivial,key.1,key.2,rfl,rfl⟩
 ·have e1:(((((w.alloc (.cells #[.pointer (some ⟨t,0,none⟩)] 122)).alloc (.cells #[.pointer (some ⟨5,122,none⟩),.pointer (some ⟨w.heap.size,0,none⟩),.int .u64 150] 139)).alloc (.cells #[.pointer (some ⟨5,122,none⟩),.pointer (some ⟨w.heap.size,0,none⟩),.int .u64 150] 139)).alloc (.cells #[.pointer (some ⟨b,0,none⟩)] 120)).heap)[t]?=some (.cells #[c0] el0 (0,0)):=by
   simp only[World.alloc,Array.getElem?_push,Array.size_push]
   rw[if_neg (by omega),if_neg (by omega),if_neg (by omega),if_neg (by omega)];exact q1
  simp only[World.setCell]
  rw[Array.getElem?_modify,if_pos rfl,e1]
  rfl
 ·intro k hk hkt
  rw[Go.RowKit.Below.heap_setCell _ _ _ _ hkt]
  simp only[World.alloc,Array.getElem?_push,Array.size_push]
  rw[if_neg (by omega),if_neg (by omega),if_neg (by omega),if_neg (by omega)]
 ·simp only[World.setCell,World.alloc,Array.size_modify,Array.size_push];omega
 ·exact⟨rfl,rfl⟩
theorem z_is{H:aj}{x k:Addr}{cx ck:Array Value}{tx tk:TypeId}{X K:List AC}(hx:H.get x.block=some (.const (.cells cx tx (0,0)) X))(hk:H.get k.block=some (.const (.cells ck tk (0,0)) K))(b:Nat)(i:Int)
(hb:H.get b=some (.cells [I i,.iface 255 (.lit (.pointer (some x)))])):
 ACalls Tryz.prog 65 [.iface 120 (.ptr b 0),.iface 255 (.lit (.pointer (some k)))] H fun q H'=>q=B (decide (x=k))/\H'=H:=by
 intro M w vs s r
 obtain⟨v,u,rfl,h1,h2⟩:=rep2 r
 obtain⟨v',rfl,a1⟩:=h1.iface_inv
 obtain⟨u',rfl,a2⟩:=h2.iface_inv
 obtain rfl:=a1.ptr_inv
 obtain⟨rfl,-⟩:=a2.lit_inv
 obtain⟨vs0,el0,q1,q2,q3,q4,q5⟩:=s.obj b _ hb
 have hl:1<vs0.size:=by simp at q3;omega
 have r1:=q4 1 _ _ rfl (dI hl)
 obtain⟨v1,e1,r2⟩:=r1.iface_inv
 obtain⟨rfl,-⟩:=r2.lit_inv
 have hc:w.cell? ⟨b,1,none⟩=some (.iface 255 (.pointer (some x))):=by rw[eZ,q1];simp only;rw[dI hl,e1]
 refine(tz_Is b x k ck cx tk tx (s.obj _ _ hx).1 (s.obj _ _ hk).1 hc).mono ?_
 rintro e w' ⟨rfl,rfl⟩
 exact⟨B (decide (x=k)),_,M,H,rfl,.lit trivial,s,bK.refl _ _ _,rfl,rfl⟩
open Go.Proofs
section
open Go.RowKit Go.ChangeShapes
def D8(W:World)(g:Nat)(a:Addr)(text:List UInt8):Prop:=
 (∃el fr,W.heap[g]?=some (.cells #[.iface 255 (.pointer (some a))] el fr))/\(∃c t,W.heap[a.block]?=some (.cells c t (0,0)))/\∃s:ByteArray,W.cell? a=some (.string s)/\s.data.toList=text
theorem zr: "*" ++ "errors.errorString" = "*errors.errorString" :=by decide
theorem tz_row(u:TypeId)(h:Tryz.prog.typeName? 3 u=some "*errors.errorString"):u=255:=
 typeName_ptr_named (nm:= "errors.errorString") (by rw[zr];kernel_rfl) (by kernel_rfl) (by decide) u (by rw[zr];exact h)
theorem wN{P:Program}{W:World}{n:String}{g:Nat}(hg:P.globalNamed n=some g){cs:Array Value}(hv:W.var? P n=some cs):∃el fr,W.heap[g]?=some (.cells cs el fr):=by
 simp only[World.var?,hg,Option.bind_some]at hv
 split at hv
 ·rename_i c el fr h;simp at hv;subst hv;exact⟨el,fr,h⟩
 ·simp at hv
theorem sen_of{P:Program}{n nm:String}{text:List UInt8}{r:List (String×DataW Unit)}{W:World}{g:Nat}{ti te ts:TypeId}{ms:Array (String×TypeId)}{f:Field}
(h:laidMet P ((n,.iface nm (.ptr (.agg [.lit (.string text)])))::r) W)
(hg:P.globalNamed n=some g)(ht:(P.globals[g]?).map (·.type)=some ti)(hi:P.underlying ti=some (.interface ms))(hrow:∀u,P.typeName? 3 u=some nm->u=255)
(hp:P.underlying 255=some (.pointer te))(he:P.underlying te=some (.struct #[f]))(hft:f.type=ts)(hfo:f.offset=0)(hs:P.underlying ts=some .string)(hc:P.cellsOf te=1)(hcs:P.cellsOf ts=1):
 (∃a,D8 W g a text)/\laidMet P r W:=by
 refine⟨?_,h.tail⟩
 obtain⟨ps,⟨g0,t0,cs0,f0,p0,q0,hg0,ht0,hv0,hd0,_,e0⟩,_,hrows⟩:=h
 obtain rfl:=Option.some.inj (hg.symm.trans hg0)
 obtain rfl:=Option.some.inj (ht.symm.trans ht0)
 subst e0
 obtain⟨l0⟩:=cs0
 have ok0:∀u v,l0=[.iface u v]->Value.okWide P W .any 0 u v:=fun u v e=>by
  subst e
  exact(hrows g 0 (by simp[MemPlace.row])).2 u v (by simpa using World.var?_cell hg0 hv0 0)
 obtain⟨a0,s0,rfl,hc0,hs0,hz0,rfl⟩:=errorString_of_trod hi hrow hp he hft hfo hs hc hcs hd0 ok0
 obtain⟨c0,t0,hb0⟩:=(hrows a0.block a0.off (by simp[MemPlace.row])).1
 exact⟨a0,wN hg hv0,⟨c0,t0,hb0⟩,s0,hc0,hs0⟩
theorem pE{n:String}{text:List UInt8}{r:List (String×DataW Unit)}{W:World}(g:Nat)(h:laidMet Tryz.prog ((n,.iface "*errors.errorString" (.ptr (.agg [.lit (.string text)])))::r) W)
(hg:Tryz.prog.globalNamed n=some g)(ht:(Tryz.prog.globals[g]?).map (·.type)=some 107):(∃a,D8 W g a text)/\laidMet Tryz.prog r W:=
 sen_of h hg ht Tryz.underlying107 tz_row Tryz.underlying255 Tryz.underlying276 rfl rfl Tryz.underlying9 (by kernel_rfl) (by kernel_rfl)
theorem D8.ne{W:World}{g h:Nat}{a b:Addr}{t u:List UInt8}(x:D8 W g a t)(y:D8 W h b u)(hn:t≠u):a≠b:=by
 rintro rfl
 obtain⟨-,-,s,e1,e2⟩:=x
 obtain⟨-,-,s',e3,e4⟩:=y
 rw[e1]at e3
 simp only[Option.some.injEq,Value.string.injEq]at e3
 subst e3
 exact hn (e2.symm.trans e4)
theorem tz_rt:(Tryz.prog.cutTypes.find? (·.1== "internal/reflectlite.rtype")).map (·.2)=some 189:=by kernel_rfl
theorem Ah:((dj 288).filter fun t=>Tryz.prog.rowNamed t [101,114,114,111,114])=[107]:=by kernel_rfl
theorem tz_size:Tryz.prog.types.size=288:=by kernel_rfl
theorem tz_et:Tryz.prog.globalNamed "errors.errorType" =some 3:=by kernel_rfl
structure xN(W:World)(a:Int->Addr):Prop where
 sen:∀c,(c=2\/c=3\/c=4\/c=5)->(∃el fr,W.heap[if c=2 then 0 else if c=3 then 1 else if c=4 then 2 else 4]?=some (.cells #[.iface 255 (.pointer (some (a c)))] el fr))/\∃k t,W.heap[(a c).block]?=some (.cells k t (0,0))
 inj:∀c d,(c=2\/c=3\/c=4\/c=5)->(d=2\/d=3\/d=4\/d=5)->a c=a d->c=d
 et:∃el fr,W.heap[3]?=some (.cells #[.iface 189 (.agg #[.pointer (some ⟨5,107,none⟩)])] el fr)
def qV:List (String×DataW Unit):=[("errors.errorType",YtnmpniphpccgjaaGreatDoor.Rows.laid_errors_errorType),("loop.example/handfast/impl.errCheckName",YtnmpniphpccgjaaGreatDoor.Rows.laid_loop_example_handfast_impl_errCheckName),("loop.example/handfast/impl.errCheckType",YtnmpniphpccgjaaGreatDoor.Rows.laid_loop_example_handfast_impl_errCheckType),("loop.example/handfast/impl.errCheckLoan",YtnmpniphpccgjaaGreatDoor.Rows.laid_loop_example_handfast_impl_errCheckLoan),("loop.example/handfast/impl.errCheckOut",YtnmpniphpccgjaaGreatDoor.Rows.laid_loop_example_handfast_impl_errCheckOut)]
theorem errs_of{W:World}(h:laidMetH Tryz.prog qV W):∃a,xN W a:=by
 have h0:(qV.filter fun x=>x.2.handleName?.isSome)=[("errors.errorType",YtnmpniphpccgjaaGreatDoor.Rows.laid_errors_errorType)]:=by kernel_rfl
 have h1:(qV.filter fun x=>x.2.handleName?.isNone)=qV.drop 1:=by kernel_rfl
 unfold laidMetH at h
 rw[h0,h1]at h
 obtain⟨hl,hh⟩:=h
 obtain⟨⟨a2,s2⟩,hl⟩:=pE 0 hl (by kernel_rfl) (by kernel_rfl)
 obtain⟨⟨a3,s3⟩,hl⟩:=pE 1 hl (by kernel_rfl) (by kernel_rfl)
 obtain⟨⟨a4,s4⟩,hl⟩:=pE 2 hl (by kernel_rfl) (by kernel_rfl)
 obtain⟨⟨a5,s5⟩,hl⟩:=pE 4 hl (by kernel_rfl) (by kernel_rfl)
 have n23:=s2.ne s3 (by decide)
 have n24:=s2.ne s4 (by decide)
 have n25:=s2.ne s5 (by decide)
 have n34:=s3.ne s4 (by decide)
 have n35:=s3.ne s5 (by decide)
 have n45:=s4.ne s5 (by decide)
 refine⟨fun c=>if c=2 then a2 else if c=3 then a3 else if c=4 then a4 else a5,⟨?_,?_,?_⟩⟩
 ·rintro c (rfl|rfl|rfl|rfl)
  ·exact⟨s2.1,s2.2.1⟩
  ·exact⟨s3.1,s3.2.1⟩
  ·exact⟨s4.1,s4.2.1⟩
  ·exact⟨s5.1,s5.2.1⟩
 ·rintro c d (rfl|rfl|rfl|rfl) (rfl|rfl|rfl|rfl) e<;>simp at e<;>first|rfl|(exfalso;first|exact n23 e|exact n24 e|exact n25 e|exact n34 e|exact n35 e|exact n45 e|exact n23 e.symm|exact n24 e.symm|exact n25 e.symm|exact n34 e.symm|exact n35 e.symm|exact n45 e.symm)
 ·obtain⟨name,u,ty,e1,e2,e3,e4,e5⟩:=hh _ (cn.2 rfl)
  have en:name=[101,114,114,111,114]:=(Option.some.inj e1).symm
  subst en
  obtain rfl:=Option.some.inj (tz_rt.symm.trans e2)
  have hm:ty∈(dj 288).filter fun t=>Tryz.prog.rowNamed t [101,114,114,111,114]:=bS.2 ⟨eK.2 (by rw[<-tz_size];exact e3),e4⟩
  rw[Ah]at hm
  obtain rfl:=cn.1 hm
  have hh:typeHandle Tryz.prog 107=.pointer (some ⟨5,107,none⟩):=by kernel_rfl
  rw[hh]at e5
  exact wN tz_et e5
def qT(w:World):bU:=fun b o=>w.cell? ⟨b,o,none⟩
def kn(W:World)(a:Int->Addr):aj:=⟨fun b=>(W.heap[b]?).map fun o=>.const o (if b=0 then [.iface 255 (.lit (.pointer (some (a 2))))]else if b=1 then [.iface 255 (.lit (.pointer (some (a 3))))]else if b=2 then [.iface 255 (.lit (.pointer (some (a 4))))]else if b=4 then [.iface 255 (.lit (.pointer (some (a 5))))]else []),
 ⟨W.heap.size,fun b hb=>by rw[Array.getElem?_eq_none hb];rfl⟩⟩
theorem rC{W:World}{g:Nat}{v:Value}{u:TypeId}{el:TypeId}{fr:Nat×Nat}(h:W.heap[g]?=some (.cells #[.iface u v] el fr)){X:AC}(hX:∀M,Rep M X v):iQ (qT W) W g (.const (.cells #[.iface u v] el fr) [.iface u X]):=by
 refine⟨h,fun _=>.iface u v,by simp[AC.one],fun j hj=>?_,fun j x hx=>?_⟩
 ·have:j=0:=by simpa using hj
  subst this
  simp[qT,eZ,h]
 ·cases j with
  |zero=>simp at hx;subst hx;exact .iface (hX _)
  |succ j=>simp at hx
theorem yd{W:World}{a:Int->Addr}(h:xN W a):Sim (qT W) (kn W a) W:=by
 obtain⟨el2,fr2,s2⟩:=(h.sen 2 (.inl rfl)).1
 obtain⟨el3,fr3,s3⟩:=(h.sen 3 (.inr (.inl rfl))).1
 obtain⟨el4,fr4,s4⟩:=(h.sen 4 (.inr (.inr (.inl rfl)))).1
 obtain⟨el5,fr5,s5⟩:=(h.sen 5 (.inr (.inr (.inr rfl)))).1
 refine⟨fun _ _ _ hm=>hm,fun b o hb=>?_⟩
 simp only[kn,a9]at hb
 obtain⟨o',ho,rfl⟩:=hb
 split
 ·rename_i e;subst e
  obtain rfl:=Option.some.inj (ho.symm.trans s2)
  exact rC s2 fun M=>.lit trivial
 split
 ·rename_i e;subst e
  obtain rfl:=Option.some.inj (ho.symm.trans s3)
  exact rC s3 fun M=>.lit trivial
 split
 ·rename_i e;subst e
  obtain rfl:=Option.some.inj (ho.symm.trans s4)
  exact rC s4 fun M=>.lit trivial
 split
 ·rename_i e;subst e
  obtain rfl:=Option.some.inj (ho.symm.trans s5)
  exact rC s5 fun M=>.lit trivial
 ·exact⟨ho,fun _=>.nilIface,by simp,fun j hj=>by simp at hj,fun j x hx=>by simp at hx⟩
def vf(W:World)(a:Int->Addr):bV:=⟨fun c=>(W.heap[if c=2 then 0 else if c=3 then 1 else if c=4 then 2 else 4]?).getD (.cells #[] 0 (0,0)),fun _=>255,fun c=>.lit (.pointer (some (a c)))⟩
theorem yB{W:World}{a:Int->Addr}(h:xN W a)(c:Int)(hc:c=2\/c=3\/c=4\/c=5):(kn W a).get (if c=2 then 0 else if c=3 then 1 else if c=4 then 2 else 4)=some (.const ((vf W a).o c) [.iface ((vf W a).t c) ((vf W a).x c)]):=by
 obtain⟨⟨el,fr,s⟩,-⟩:=h.sen c hc
 rcases hc with rfl|rfl|rfl|rfl
 ·have s:W.heap[0]?=_:=s
  show Option.map _ (W.heap[0]?)=some (cQ.const ((W.heap[0]?).getD _) _)
  rw[s];rfl
 ·have s:W.heap[1]?=_:=s
  show Option.map _ (W.heap[1]?)=some (cQ.const ((W.heap[1]?).getD _) _)
  rw[s];rfl
 ·have s:W.heap[2]?=_:=s
  show Option.map _ (W.heap[2]?)=some (cQ.const ((W.heap[2]?).getD _) _)
  rw[s];rfl
 ·have s:W.heap[4]?=_:=s
  show Option.map _ (W.heap[4]?)=some (cQ.const ((W.heap[4]?).getD _) _)
  rw[s];rfl
theorem ou{W:World}{a:Int->Addr}{b:Nat}{o:Obj}(h:W.heap[b]?=some o):∃X,(kn W a).get b=some (.const o X):=by
 simp only[kn,h];exact⟨_,rfl⟩
theorem D0(x:AC)(H:aj):ACalls Tryz.prog 64 [.lit .nilIface,x] H fun q H'=>q=B false/\H'=H:=z_nil x H
theorem D1{W:World}{a:Int->Addr}(h:xN W a)(b t:Nat)(H:aj)(h0:(kn W a).sub H)(ht:H.get t=some (.cells [.lit (.pointer none)])):
 ACalls Tryz.prog 64 [.iface 120 (.ptr b 0),.iface 122 (.ptr t 0)] H fun q H'=>q=B true/\H'=H.set t (.cells [.ptr b 0]):=by
 obtain⟨el,fr,s⟩:=h.et
 obtain⟨X,hX⟩:=ou (a:=a) s
 exact z_hit hX b t H h0 ht
theorem asis_is{W:World}{a:Int->Addr}(h:xN W a)(b:Nat)(i c k:Int)(H:aj)(h0:(kn W a).sub H)(hc:c=2\/c=3\/c=4\/c=5)(hk:k=2\/k=3\/k=4\/k=5)(hb:H.get b=some (.cells [I i,.iface ((vf W a).t c) ((vf W a).x c)])):
 ACalls Tryz.prog 65 [.iface 120 (.ptr b 0),.iface ((vf W a).t k) ((vf W a).x k)] H fun q H'=>q=B (decide (c=k))/\H'=H:=by
 obtain⟨-,c1,t1,s1⟩:=h.sen c hc
 obtain⟨-,c2,t2,s2⟩:=h.sen k hk
 obtain⟨X,hX⟩:=ou (a:=a) s1
 obtain⟨K,hK⟩:=ou (a:=a) s2
 have key:=z_is (h0 _ _ hX) (h0 _ _ hK) b i hb
 have e:decide (c=k)=decide (a c=a k):=by
  by_cases e:c=k
  ·subst e;simp
  ·rw[decide_eq_false e,decide_eq_false fun e2=>e (h.inj c k hc hk e2)]
 rw[e]
 exact key
end
end Go.Xl
