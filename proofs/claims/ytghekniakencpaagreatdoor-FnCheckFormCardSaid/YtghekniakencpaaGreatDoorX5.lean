/- FnCheckForm: a part of the proof. -/
import Derived.ControlIn
import Derived.RangeFuncSeq
import Derived.RangeFuncIn
import Derived.RangeFuncLeaves
import Derived.RangeFuncRecord
import Derived.Test.YtghekniakencpaaGreatDoorProg
import Derived.WalkKit
import Derived.LaidEql
import Derived.Stop.Asserts
import Derived.RowKitTokens
import Derived.Below
import Derived.Test.YtghekniakencpaaGreatDoorRows
import Derived.LaidLaws
import Derived.LaidHandle
import Derived.LaidMore
import Derived.Stop.LaidErr
import Derived.Test.YtghekniakencpaaGreatDoorX4
set_option linter.unusedVariables false
set_option linter.unusedSimpArgs false
namespace Go.Xl
open _root_.Array renaming getD_eq_getD_getElem? -> gH, getElem?_append_left -> kh, getElem?_eq_getElem -> de, getElem?_eq_some_iff -> cS, replicate -> ft, toList_inj -> eW
open _root_.Bool renaming and_eq_true -> aw, eq_iff_iff -> aX, false_eq_true -> aq, true_or -> dV
open _root_.Int renaming natCast_zero -> dg, reduceBEq -> aF, reduceLE -> dN
open _root_.List renaming all_eq_true -> aS, any_append -> fY, any_eq_true -> iP, append_nil -> dA, cons_append -> cq, drop_eq_getElem_cons -> bO, drop_length -> kl, drop_zero -> gZ, eq_nil_of_length_eq_zero -> bn, ext_getElem? -> fQ, flatten_cons -> av, flatten_nil -> ay, getElem?_cons_zero -> a9, getElem?_drop -> bU, getElem?_eq_getElem -> a6, getElem?_eq_none -> fx, getElem?_take -> eT, getElem_map -> iO, getElem_mem -> az, length_cons -> aR, length_drop -> eV, length_map -> ao, length_nil -> bM, length_take -> bI, map_append -> bL, map_cons -> aU, map_nil -> bB, map_take -> kR, mem_append -> aE, mem_cons_of_mem -> ew, mem_filter -> eR, mem_map -> aZ, mem_of_mem_drop -> fL, mem_of_mem_take -> cP, mem_or_eq_of_mem_set -> kz, mem_range -> fk, mem_singleton -> bQ, range -> dC, replicate -> ax, take_length -> aW, take_of_length_le -> cy, take_succ_eq_append_getElem -> aC
open _root_.Nat renaming reduceEqDiff -> rE, reduceAdd -> rA, reduceLeDiff -> rL, le_refl -> aA, le_trans -> cg, mul_le_mul_right -> bu, zero_add -> bY, zero_le -> gN
open _root_.Option renaming map_eq_some_iff -> a7, map_some -> bW
open Go.Proofs
structure BAt(H:aj)(r:Nat)(bs:List UInt8)(p:Int)(b3 b4 b6:Nat)(c3 c6:List AC):Prop where
 gr:H.get r=some (RdO bs p)
 g3:H.get b3=some (.cells c3)
 g4:H.get b4=some (.cells [NIL])
 g6:H.get b6=some (.cells c6)
 hr3:r≠b3
 hr4:r≠b4
 hr6:r≠b6
 d34:b3≠b4
 d36:b3≠b6
 d46:b4≠b6
section
variable {H H':aj}{r:Nat}{bs:List UInt8}{p:Int}{b3 b4 b6:Nat}{c3 c6:List AC}
theorem BAt.draw(h:BAt H r bs p b3 b4 b6 c3 c6)(p':Int):BAt (H.set r (RdO bs p')) r bs p' b3 b4 b6 c3 c6:=
 ⟨ai _ _ _,(ae _ _ (Ne.symm h.hr3)).trans h.g3,(ae _ _ (Ne.symm h.hr4)).trans h.g4,(ae _ _ (Ne.symm h.hr6)).trans h.g6,h.hr3,h.hr4,h.hr6,h.d34,h.d36,h.d46⟩
theorem BAt.put(h:BAt H r bs p b3 b4 b6 c3 c6)(c:List AC):BAt (H.set b6 (.cells c)) r bs p b3 b4 b6 c3 c:=
 ⟨(ae _ _ h.hr6).trans h.gr,(ae _ _ h.d36).trans h.g3,(ae _ _ h.d46).trans h.g4,ai _ _ _,h.hr3,h.hr4,h.hr6,h.d34,h.d36,h.d46⟩
theorem BAt.put3(h:BAt H r bs p b3 b4 b6 c3 c6)(c:List AC):BAt (H.set b3 (.cells c)) r bs p b3 b4 b6 c c6:=
 ⟨(ae _ _ h.hr3).trans h.gr,ai _ _ _,(ae _ _ (Ne.symm h.d34)).trans h.g4,(ae _ _ (Ne.symm h.d36)).trans h.g6,h.hr3,h.hr4,h.hr6,h.d34,h.d36,h.d46⟩
theorem BAt.keep(h:BAt H r bs p b3 b4 b6 c3 c6)(hk:∀d cs,H.get d=some (.cells cs)->H'.get d=some (.cells cs)):BAt H' r bs p b3 b4 b6 c3 c6:=
 ⟨hk _ _ h.gr,hk _ _ h.g3,hk _ _ h.g4,hk _ _ h.g6,h.hr3,h.hr4,h.hr6,h.d34,h.d36,h.d46⟩
theorem BAt.new(h:BAt H r bs p b3 b4 b6 c3 c6){b:Nat}(hb:H.get b=none)(o:cz):BAt (H.set b o) r bs p b3 b4 b6 c3 c6:=
 h.keep fun d cs hd=>by rw[ae _ _ (al hd hb)];exact hd
end
theorem iL{H H':aj}{b n m:Nat}(g:H.get b=some (.tail n m))(keep:∀c,H.get c≠none->c≠b->H'.get c=H.get c):∀d cs,H.get d=some (.cells cs)->H'.get d=some (.cells cs):=
 fun d cs hd=>by rw[keep d (by rw[hd];simp) (by rintro rfl;rw[g]at hd;simp at hd)];exact hd
theorem j7(l:List St):∀e∈l.map St.enc,e.length=15:=fun e he=>by obtain⟨s,-,rfl⟩:=aZ.1 he;exact zN s
theorem st_one(s:St):∀x∈s.enc,x.one=true:=by
 rw[St.enc_eq];simp[AC.one,au]
theorem xN:∀p:List St,LeR (p.map St.enc) (p.map St.enc)
 |[]=>trivial
 |f::p=>⟨.refl (st_one f),xN p⟩
theorem pa_len(s:Pa):s.enc.length=3:=by
 rw[Pa.enc,Ty.enc_eq];rfl
theorem row_at{sz:Nat}{rows:List (List AC)}{cs:List AC}(hs:∀e∈rows,e.length=sz)(h:cs.take (rows.length*sz)=rows.flatten){k:Nat}(hk:k<rows.length):(cs.drop (k*sz)).take sz=rows[k]:=by
 have hl:=hs _ (az hk)
 apply fQ
 intro j
 rw[eT]
 split
 ·rename_i hj
  rw[bU]
  exact eK.cell hs h hk hj
 ·rename_i hj
  rw[fx (by omega)]
theorem kJ(f':Fu){X T Bd s1 s2 s3 s4 s5 g1 g2:AC}(hX:Le X (.sl 3 none (f'.params.map Pa.enc)))(hT:Le T (.sl 1 none (Ty.encs f'.type.kids)))(hB:Le Bd (.sl 15 none (f'.body.map St.enc)))(hs:LeC [s1,s2,s3,s4,s5] f'.says.enc)(hg:LeC [g1,g2] f'.gives.enc):
 LeC [S f'.name,X,B f'.lent,T,Bd,s1,s2,s3,s4,s5,g1,g2] f'.enc:=Ao f' hX hT (by rw[St.encs_map];exact hB) hs hg
section
variable {P:Program}{F:Ids}
theorem zi(L:Lib P F)(r:Nat)(bs:List UInt8)(hbs:bs.length<=2000)(p2:Int)(hp:0<=p2)(hp2:p2+1<=2^50)(f:Fu){m:Nat}(hm:m<=9)(hlo:f.lo m)(hbl:f.body.length<=6+m)(b3 b4 b6:Nat)(c3:List AC)(H3:aj)
(hB:BAt H3 r bs p2 b3 b4 b6 c3 [S f.name,.sl 3 none (f.params.map Pa.enc),B f.lent,.sl 1 none (Ty.encs f.type.kids),.sl 15 none (f.body.map St.enc),I f.says.kind,I f.says.num,S f.says.place.name,au f.says.place.path,.sl 5 none (Ex.encs f.says.kids),S f.gives.name,au f.gives.path])
(K:cE->Env->aj->Prop)(E:Env)(e0:E 0=.ptr r 0)(e6:E 6=.ptr b6 0)
(jn8:∀(E':Env) (H:aj) (p':Int) (c6:List AC) (f':Fu),f'.lo m->BAt H r bs p' b3 b4 b6 c3 c6->FuAt H (fun d=>d=r\/d=b3\/d=b4\/d=b6) c6 f'->(∀i,(i=0\/i=3\/i=4\/i=5\/i=6)->E' i=E i)->p2<=p'->p'<=p2+1->K .normal E' H):
 aT.wp P (kd30) K E H3:=by
 rw[kd30,fd30]
 have g6:=hB.g6
 have lesays:LeC [I f.says.kind,I f.says.num,S f.says.place.name,au f.says.place.path,.sl 5 none (Ex.encs f.says.kids)] f.says.enc:=by rw[Ex.enc_eq];exact⟨⟨.refl _,rfl⟩,⟨.refl _,rfl⟩,⟨.refl _,rfl⟩,⟨.refl _,rfl⟩,⟨.refl _,rfl⟩,trivial⟩
 have legives:LeC [S f.gives.name,au f.gives.path] f.gives.enc:=⟨⟨.refl _,rfl⟩,⟨.refl _,rfl⟩,trivial⟩
 simp only[go_sem,rE,rA,aF,ax,av,ay,rL,bg,e0,e6,g6,ao]
 by_cases hb:(1:Int)<f.body.length
 ·have w0:=aP (n:=(f.body.length:Int) - 1) (by omega) (by omega)
  simp only[hb,decide_true,go_sem,rE,rA,aF,ax,av,ay,rL,bg,e0,e6,g6,ao,w0]
  refine bw (cW L r bs p2 (f.body.length - 1) hbs (by omega) (by omega)) (rfl) hB.gr (by simp) trivial ?_
  rintro q p3 hp3 hp3' ⟨n0,rfl,hn0,hn1⟩
  have hB1:=hB.draw p3
  generalize H3.set r (RdO bs p3)=H4 at*
  obtain⟨n,rfl⟩:∃n:Nat,n0=(n:Int):=⟨n0.toNat,by omega⟩
  have hnl:n+1<f.body.length:=by omega
  simp only[go_sem,rE,rA,aF,ax,av,ay,rL,bg,e0,e6]
  intro b58 hb58
  have hB2:=hB1.new hb58 (.tail 0 0)
  have g58:(H4.set b58 (.tail 0 0)).get b58=_:=ai _ _ _
  have g6:=hB2.g6
  generalize H4.set b58 (.tail 0 0)=H5 at*
  simp only[go_sem,rE,rA,aF,ax,av,ay,rL,bg,e0,e6,g6]
  refine qd (b:=b58) (ys:=f.body.map St.enc) (rfl) g58 (rfl) (j7 _) (by simp;omega) trivial ?_
  intro x' H6 fp6 hR _ keep new
  rcases hR with⟨h0,-⟩|⟨bb,bc,cs,rfl,gb,hcl,hcc,hct⟩
  ·have:f.body=[]:=by simpa using h0
   rw[this]at hnl;simp at hnl
  have hB3:=hB2.keep (iL g58 keep)
  have hex:∀d o,H5.get d=some (.cells o)->d≠bb:=by
   intro d o hd e
   subst e
   rcases new _ ⟨_,_,rfl⟩with h|h
   ·subst h;rw[g58]at hd;simp at hd
   ·rw[hd]at h;simp at h
  have hb6:=hex _ _ hB2.g6
  have hb3:=hex _ _ hB2.g3
  have hb4:=hex _ _ hB2.g4
  have hbr:=hex _ _ hB2.gr
  have g6:=hB3.g6
  simp only[ao]at hcc hct
  have hlim:f.body.length<=LIM:=by simp only[LIM];omega
  have hni:(n:Int)<f.body.length:=by omega
  have hni1:(n:Int)+1<f.body.length:=by omega
  have w1:=aP (n:=(n:Int)+1) (by omega) (by omega)
  have hn1':(0:Int)<=n+1:=by omega
  have hnt:((n:Int)+1).toNat=n+1:=by omega
  have hmul:(n+2)*15<=bc*15:=bu _ (by omega)
  have hof0:n*15+15<=cs.length:=by omega
  have hof1:(n+1)*15+15<=cs.length:=by omega
  have row:∀j (hj:j<f.body.length),(cs.drop (j*15)).take 15=f.body[j].enc:=fun j hj=>by
   have:=row_at (j7 f.body) (by simpa using hct) (k:=j) (by simpa using hj)
   simpa using this
  have r0:=row n (by omega)
  have r1:=row (n+1) hnl
  obtain⟨c0,hc0,C0'⟩:=stC f.body[n]
  obtain⟨c1,hc1,C1'⟩:=stC f.body[n+1]
  rw[hc0]at r0
  rw[hc1]at r1
  simp only[go_sem,rE,rA,aF,ax,av,ay,rL,bg,e0,e6,g6,ao,hb6,Ne.symm hb6,gb,hlim,hni,hof0,r0,C0'.len,C0'.all]
  have hB4:=hB3.put [S f.name,.sl 3 none (f.params.map Pa.enc),B f.lent,.sl 1 none (Ty.encs f.type.kids),.lit (.slice (some ⟨bb,0,none⟩) f.body.length bc),I f.says.kind,I f.says.num,S f.says.place.name,au f.says.place.path,.sl 5 none (Ex.encs f.says.kids),S f.gives.name,au f.gives.path]
  have gb:(H6.set b6 (.cells [S f.name,.sl 3 none (f.params.map Pa.enc),B f.lent,.sl 1 none (Ty.encs f.type.kids),.lit (.slice (some ⟨bb,0,none⟩) f.body.length bc),I f.says.kind,I f.says.num,S f.says.place.name,au f.says.place.path,.sl 5 none (Ex.encs f.says.kids),S f.gives.name,au f.gives.path])).get bb=_:=(ae _ _ (Ne.symm hb6)).trans gb
  generalize(H6.set b6 (.cells [S f.name,.sl 3 none (f.params.map Pa.enc),B f.lent,.sl 1 none (Ty.encs f.type.kids),.lit (.slice (some ⟨bb,0,none⟩) f.body.length bc),I f.says.kind,I f.says.num,S f.says.place.name,au f.says.place.path,.sl 5 none (Ex.encs f.says.kids),S f.gives.name,au f.gives.path]))=H7 at*
  intro b9 hb9
  have hB5:=hB4.new hb9 (.cells c0)
  have db9:=al gb hb9
  have gb:(H7.set b9 (.cells c0)).get bb=_:=(ae _ _ db9).trans gb
  have g9:(H7.set b9 (.cells c0)).get b9=_:=ai _ _ _
  have g6:=hB5.g6
  generalize H7.set b9 (.cells c0)=H8 at*
  simp only[go_sem,rE,rA,aF,ax,av,ay,rL,bg,e0,e6,g6,gb,w1,hn1',hnt,hlim,hni,hni1,hof0,hof1,r1,C1'.len,C1'.all]
  have hs0:cs.take (n*15)++c1++cs.drop (n*15+15)=bx cs (n*15) c1:=by rw[bx,C1'.len]
  rw[hs0]
  have hl1:(bx cs (n*15) c1).length=cs.length:=eZ _ _ _ (by rw[C1'.len];exact hof0)
  have hrow1:=lN (j7 f.body) (us:=c1) C1'.len (k:=n) (by simp;omega) (by simpa using hct)
  generalize bx cs (n*15) c1=cs1 at*
  have hB6:BAt (H8.set bb (.cells (cs1))) r bs p3 b3 b4 b6 _ _:=⟨(ae _ _ hbr).trans hB5.gr,(ae _ _ hb3).trans hB5.g3,(ae _ _ hb4).trans hB5.g4,(ae _ _ hb6).trans hB5.g6,hB.hr3,hB.hr4,hB.hr6,hB.d34,hB.d36,hB.d46⟩
  have gb1:(H8.set bb (.cells (cs1))).get bb=_:=ai _ _ _
  have g9:(H8.set bb (.cells (cs1))).get b9=_:=(ae _ _ (Ne.symm db9)).trans g9
  have g6:=hB6.g6
  generalize H8.set bb (.cells (cs1))=H9 at*
  rw[<-hl1]at hof1
  simp only[go_sem,rE,rA,aF,ax,av,ay,rL,bg,e0,e6,g6,gb1,g9,w1,hn1',hnt,hlim,hni,hni1,hof1,C0'.len,C0'.all]
  have hs1:cs1.take ((n+1)*15)++c0++cs1.drop ((n+1)*15+15)=bx cs1 ((n+1)*15) c0:=by rw[bx,C0'.len]
  rw[hs1]
  have hsz1:∀e∈(f.body.map St.enc).set n c1,e.length=15:=fun e he=>by
   rcases kz he with h|h
   ·exact j7 _ e h
   ·rw[h];exact C1'.len
  have hrow2:=lN hsz1 (us:=c0) C0'.len (k:=n+1) (by simp;omega) hrow1
  have hmap:((f.body.map St.enc).set n c1).set (n+1) c0=((f.body.set n f.body[n+1]).set (n+1) f.body[n]).map St.enc:=by rw[List.map_set,List.map_set,hc0,hc1]
  rw[hmap]at hrow2
  have hmem:∀s∈(f.body.set n f.body[n+1]).set (n+1) f.body[n],s∈f.body:=fun s hs=>by
   rcases kz hs with h|h
   ·rcases kz h with h|h
    ·exact h
    ·rw[h];exact az _
   ·rw[h];exact az _
  have hB7:BAt (H9.set bb (.cells (bx cs1 ((n+1)*15) c0))) r bs p3 b3 b4 b6 _ _:=⟨(ae _ _ hbr).trans hB6.gr,(ae _ _ hb3).trans hB6.g3,(ae _ _ hb4).trans hB6.g4,(ae _ _ hb6).trans hB6.g6,hB.hr3,hB.hr4,hB.hr6,hB.d34,hB.d36,hB.d46⟩
  refine jn8 _ _ p3 _ {f with body:=(f.body.set n f.body[n+1]).set (n+1) f.body[n]} ⟨hlo.pars,hlo.ptys,hlo.ty,by simp;omega,fun s hs=>hlo.bcnt s (hmem s hs),fun s hs=>hlo.bsm s (hmem s hs),hlo.says,hlo.nm,hlo.pnm⟩ hB7 ⟨rfl,.inr ⟨bb,bc,_,((f.body.set n f.body[n+1]).set (n+1) f.body[n]).map St.enc,[S f.name,.sl 3 none (f.params.map Pa.enc),B f.lent,.sl 1 none (Ty.encs f.type.kids),.sl 15 none (((f.body.set n f.body[n+1]).set (n+1) f.body[n]).map St.enc),I f.says.kind,I f.says.num,S f.says.place.name,au f.says.place.path,.sl 5 none (Ex.encs f.says.kids),S f.gives.name,au f.gives.path],
   ai _ _ _,hrow2,j7 _,by simp;omega,by simp;exact hlim,⟨.inl rfl,.inl rfl,.inl rfl,.inl rfl,.inr ⟨by simp,rfl⟩,.inl rfl,.inl rfl,.inl rfl,.inl rfl,.inl rfl,.inl rfl,.inl rfl,trivial⟩,
   kJ {f with body:=(f.body.set n f.body[n+1]).set (n+1) f.body[n]} (.refl _) (.refl _) (.refl _) lesays legives,?_⟩⟩ (fun i hi=>by rcases hi with rfl|rfl|rfl|rfl|rfl<;>simp only[go_sem,rE]) (by omega) (by omega)
  rintro(h|h|h|h)
  ·exact hbr h.symm
  ·exact hb3 h.symm
  ·exact hb4 h.symm
  ·exact hb6 h.symm
 ·simp only[hb,decide_false,go_sem,rE,rA,aF,ax,av,ay,rL,bg,e0,e6]
  exact jn8 _ _ p2 _ f hlo hB ⟨rfl,.inl (kJ f (.refl _) (.refl _) (.refl _) lesays legives)⟩ (fun i hi=>by rcases hi with rfl|rfl|rfl|rfl|rfl<;>simp only[go_sem,rE]) (by omega) (by omega)
theorem yV(L:Lib P F)(r:Nat)(bs:List UInt8)(hbs:bs.length<=2000)(pr:Pg){m:Nat}(hm:m<=8)(hpr:∀f∈pr,f.lo m)(hl1:1<=pr.length)(hl2:pr.length<=4+m)(p:Int)(hp:0<=p)(hp2:p+200<=2^50):
 ACalls P 26 [.ptr r 0,.agg (Pg.enc pr)] (one r (RdO bs p)) (sK (m+1) r bs p 200):=by
 refine(L.a Tryz.func26 y26) (by simp[y26,f26]) ?_
 simp only[y26,f26,go_sem,rE,rA,Pg.enc]
 intro b3 hb3 b4 hb4
 have hr3:r≠b3:=by rintro rfl;rw[bD]at hb3;simp at hb3
 have d34:b3≠b4:=ny hb4
 have hr4:r≠b4:=by rintro rfl;rw[ae _ _ hr3,bD]at hb4;simp at hb4
 have gr:(((one r (RdO bs p)).set b3 (.cells [.sl 12 none (pr.map Fu.enc)])).set b4 (.cells [NIL])).get r=some (RdO bs p):=by rw[ae _ _ hr4,ae _ _ hr3,bD]
 have g3:(((one r (RdO bs p)).set b3 (.cells [.sl 12 none (pr.map Fu.enc)])).set b4 (.cells [NIL])).get b3=some (.cells [.sl 12 none (pr.map Fu.enc)]):=by rw[ae _ _ d34,ai]
 have g4:(((one r (RdO bs p)).set b3 (.cells [.sl 12 none (pr.map Fu.enc)])).set b4 (.cells [NIL])).get b4=some (.cells [NIL]):=ai _ _ _
 generalize(((one r (RdO bs p)).set b3 (.cells [.sl 12 none (pr.map Fu.enc)])).set b4 (.cells [NIL]))=H0 at*
 clear hb3 hb4
 simp only[go_sem,rE,rA,g3,ao]
 refine bw (cW L r bs p pr.length hbs hp (by omega)) (rfl) gr (by simp) trivial ?_
 rintro q p1 hp1 hp1' ⟨k,rfl,hk0,hk1⟩
 have g3:(H0.set r (RdO bs p1)).get b3=_:=(ae _ _ (Ne.symm hr3)).trans g3
 have g4:(H0.set r (RdO bs p1)).get b4=_:=(ae _ _ (Ne.symm hr4)).trans g4
 have gr:(H0.set r (RdO bs p1)).get r=_:=ai _ _ _
 generalize H0.set r (RdO bs p1)=H1 at*
 have hkl:k.toNat<pr.length:=by omega
 obtain⟨f,hf⟩:∃f,f=pr[k.toNat]:=⟨_,rfl⟩
 have hgood:f.lo m:=hf▸hpr _ (az hkl)
 have hget:(pr.map Fu.enc)[k.toNat]?=some [S f.name,.sl 3 none (f.params.map Pa.enc),B f.lent,.sl 1 none (Ty.encs f.type.kids),.sl 15 none (f.body.map St.enc),I f.says.kind,I f.says.num,S f.says.place.name,au f.says.place.path,.sl 5 none (Ex.encs f.says.kids),S f.gives.name,au f.gives.path]:=by
  rw[<-qK,hf];simp[hkl]
 simp only[go_sem,rE,rA,g3,hk0,hget,rL]
 intro b6 hb6
 have hr6:=al gr hb6
 have d36:=al g3 hb6
 have d46:=al g4 hb6
 let C:ByteArray->AC->Bool->AC->AC->AC->AC->AC->AC->AC->AC->AC->List AC:=fun nm X ln T Bd s1 s2 s3 s4 s5 g1 g2=>[S nm,X,B ln,T,Bd,s1,s2,s3,s4,s5,g1,g2]
 let C0:List AC:=[S f.name,.sl 3 none (f.params.map Pa.enc),B f.lent,.sl 1 none (Ty.encs f.type.kids),.sl 15 none (f.body.map St.enc),I f.says.kind,I f.says.num,S f.says.place.name,au f.says.place.path,.sl 5 none (Ex.encs f.says.kids),S f.gives.name,au f.gives.path]
 have gr:(H1.set b6 (.cells C0)).get r=_:=(ae _ _ hr6).trans gr
 have g3:(H1.set b6 (.cells C0)).get b3=_:=(ae _ _ d36).trans g3
 have g4:(H1.set b6 (.cells C0)).get b4=_:=(ae _ _ d46).trans g4
 have g6:(H1.set b6 (.cells C0)).get b6=some (.cells C0):=ai _ _ _
 simp only[C0]at gr g3 g4 g6
 generalize(H1.set b6 (.cells [S f.name,.sl 3 none (f.params.map Pa.enc),B f.lent,.sl 1 none (Ty.encs f.type.kids),.sl 15 none (f.body.map St.enc),I f.says.kind,I f.says.num,S f.says.place.name,au f.says.place.path,.sl 5 none (Ex.encs f.says.kids),S f.gives.name,au f.gives.path]))=H2 at*
 clear hb6
 refine bw (cW L r bs p1 12 hbs (by omega) (by omega)) (rfl) gr (by simp) trivial ?_
 rintro q p2 hp2' hp2'' ⟨k2,rfl,hk20,hk21⟩
 have hB:BAt (H2.set r (RdO bs p2)) r bs p2 b3 b4 b6 _ _:=(BAt.mk gr g3 g4 g6 hr3 hr4 hr6 d34 d36 d46).draw p2
 generalize H2.set r (RdO bs p2)=H3 at*
 clear gr g3 g4 g6
 have hlo:=hgood.up
 have hbl:=hgood.blen
 have hplo:∀g∈pr,g.lo (m+1):=fun g hg=>(hpr g hg).up
 have jn:∀(E:Env) (H:aj) (p':Int) (c6:List AC) (f':Fu),f'.lo (m+1)->BAt H r bs p' b3 b4 b6 [.sl 12 none (pr.map Fu.enc)] c6->LeC c6 f'.enc->
  E 3=.ptr b3 0->E 4=.ptr b4 0->E 5=I k->E 6=.ptr b6 0->p<=p'->p'<=p+200->aT.wp P (.seq (rg [ef 0 185 (.buildSlice 12 0 [.string (bl []),.slice none 0 0,.bool false,.slice none 0 0,.slice none 0 0,.int .i64 0,.int .i64 0,.string (bl []),.slice none 0 0,.slice none 0 0,.string (bl []),.slice none 0 0] []),fa 1 186 0 3,ld 2 187 none 186,ef 3 188 (.appendM 12 216 185 187),fa 4 189 0 3,en 5 (.store 1 189 188)]) (.seq (rg [fa 0 190 0 3,ld 1 191 none 190,mv 2 192 5,ld 3 193 (some 12) 6,ia 4 194 12 191 192,en 5 (.store 12 194 193)]) (.seq (rg [ld 0 195 (some 1) 3,en 1 (.store 1 4 195)]) .ret))) (bh.post [.cell 4 (some 1)] (sK (m+1) r bs p 200)) E H:=by
  intro E H p' c6 f' hf' h hle e3 e4 e5 e6 h1 h2
  exact ra L (m:=m+1) (by omega) r bs p 200 E H p' pr k.toNat hkl (by omega) hplo _ c6 f' hf' b3 b4 b6 h.gr h.g3 h.g4 h.g6 (fun H'=>rfl) ⟨by rw[hle.length,nC],.inl hle⟩ h.hr3 h.hr4 h.d34 h.d36 h.d46 h.hr6 e3 e4 (by rw[e5];congr 2;omega) e6 h1 h2
 have jn8:∀(E:Env) (H:aj) (p':Int) (c6:List AC) (f':Fu),f'.lo (m+1)->BAt H r bs p' b3 b4 b6 [.sl 12 none (pr.map Fu.enc)] c6->FuAt H (fun d=>d=r\/d=b3\/d=b4\/d=b6) c6 f'->
  E 3=.ptr b3 0->E 4=.ptr b4 0->E 5=I k->E 6=.ptr b6 0->p<=p'->p'<=p+200->aT.wp P (.seq (rg [ef 0 185 (.buildSlice 12 0 [.string (bl []),.slice none 0 0,.bool false,.slice none 0 0,.slice none 0 0,.int .i64 0,.int .i64 0,.string (bl []),.slice none 0 0,.slice none 0 0,.string (bl []),.slice none 0 0] []),fa 1 186 0 3,ld 2 187 none 186,ef 3 188 (.appendM 12 216 185 187),fa 4 189 0 3,en 5 (.store 1 189 188)]) (.seq (rg [fa 0 190 0 3,ld 1 191 none 190,mv 2 192 5,ld 3 193 (some 12) 6,ia 4 194 12 191 192,en 5 (.store 12 194 193)]) (.seq (rg [ld 0 195 (some 1) 3,en 1 (.store 1 4 195)]) .ret))) (bh.post [.cell 4 (some 1)] (sK (m+1) r bs p 200)) E H:=by
  intro E H p' c6 f' hf' h hle e3 e4 e5 e6 h1 h2
  exact ra L (m:=m+1) (by omega) r bs p 200 E H p' pr k.toNat hkl (by omega) hplo _ c6 f' hf' b3 b4 b6 h.gr h.g3 h.g4 h.g6 (fun H'=>rfl) hle h.hr3 h.hr4 h.d34 h.d36 h.d46 h.hr6 e3 e4 (by rw[e5];congr 2;omega) e6 h1 h2
 have jn11:∀(E:Env) (H:aj) (tok:Option (Nat×Nat×Nat)) (pr':Pg),k.toNat<pr'.length->pr'.length<=4+(m+1)->(∀g∈pr',g.lo (m+1))->BAt H r bs p2 b3 b4 b6 [.sl 12 tok (pr'.map Fu.enc)] f.enc->
  E 3=.ptr b3 0->E 4=.ptr b4 0->E 5=I k->E 6=.ptr b6 0->aT.wp P (kd29) (bh.post [.cell 4 (some 1)] (sK (m+1) r bs p 200)) E H:=by
  intro E H tok pr' h1 h2 h3 h e3 e4 e5 e6
  rw[kd29,fd29]
  exact ra L (m:=m+1) (by omega) r bs p 200 E H p2 pr' k.toNat h1 h2 h3 _ f.enc f hlo b3 b4 b6 h.gr h.g3 h.g4 h.g6 (fun H'=>rfl) ⟨nC f,.inl (.refl (Ay f))⟩ h.hr3 h.hr4 h.d34 h.d36 h.d46 h.hr6 e3 e4 (by rw[e5];congr 2;omega) e6 (by omega) (by omega)
 have lesays:LeC [I f.says.kind,I f.says.num,S f.says.place.name,au f.says.place.path,.sl 5 none (Ex.encs f.says.kids)] f.says.enc:=by rw[Ex.enc_eq];exact⟨⟨.refl _,rfl⟩,⟨.refl _,rfl⟩,⟨.refl _,rfl⟩,⟨.refl _,rfl⟩,⟨.refl _,rfl⟩,trivial⟩
 have legives:LeC [S f.gives.name,au f.gives.path] f.gives.enc:=⟨⟨.refl _,rfl⟩,⟨.refl _,rfl⟩,trivial⟩
 have g3:=hB.g3
 have g6:=hB.g6
 have sw:=fun K E e0 e6=>zi (F:=F) L r bs hbs p2 (by omega) (by omega) f (m:=m+1) (by omega) hlo (by omega) b3 b4 b6 _ H3 hB K E e0 e6
 have hk:k2=0\/k2=1\/k2=2\/k2=3\/k2=4\/k2=5\/k2=6\/k2=7\/k2=8\/k2=9\/k2=10\/k2=11:=by omega
 rcases hk with rfl|rfl|rfl|rfl|rfl|rfl|rfl|rfl|rfl|rfl|rfl|rfl
 all_goals simp only[go_sem,rE,rA,aF,ax,av,ay,rL,bg,g3,g6,ao]
 ·
  intro b0 hb0
  have hB1:=hB.new hb0 (.tail 5 5)
  generalize H3.set b0 (.tail 5 5)=H4 at*
  refine bw (zas:=[.ptr r 0,.sl 1 (some (b0,5,5)) (j6 [bl [],bl [102,97],bl [70],bl [116,111,111,108,111,110,103],bl [122,122]])]) ((c_of L r bs hbs [bl [],bl [102,97],bl [70],bl [116,111,111,108,111,110,103],bl [122,122]] (by simp) (by simp) p2 (by omega) (by omega)).args ⟨.refl _,.tok _ _ _,trivial⟩) (rfl) hB1.gr (by simp) trivial ?_
  rintro q p3 hp3 hp3' ⟨s,hsm,rfl⟩
  have hB2:=hB1.draw p3
  have g6:=hB2.g6
  generalize H4.set r (RdO bs p3)=H5 at*
  simp only[go_sem,rE,rA,aF,ax,av,ay,rL,bg,g6]
  have hn5:s.size≠5:=by
   have:=aS.1 (show [bl [],bl [102,97],bl [70],bl [116,111,111,108,111,110,103],bl [122,122]].all (fun x=>x.size !=5)=true by decide) s hsm
   simpa using this
  exact jn _ _ p3 _ {f with name:=s} ⟨hlo.pars,hlo.ptys,hlo.ty,hlo.blen,hlo.bcnt,hlo.bsm,hlo.says,hn5,hlo.pnm⟩ (hB2.put _) (kJ {f with name:=s} (.refl _) (.refl _) (.refl _) lesays legives) (by first|rfl|simp only[go_sem,rE]) (by first|rfl|simp only[go_sem,rE]) (by first|rfl|simp only[go_sem,rE]) (by first|rfl|simp only[go_sem,rE]) (by omega) (by omega)
 ·
  refine bw (sC L r bs hbs p2 (by omega) (by omega)) (rfl) hB.gr (by simp) trivial ?_
  rintro q p3 hp3 hp3' ⟨t,rfl,ht⟩
  have hB1:=hB.draw p3
  have g6:=hB1.g6
  generalize H3.set r (RdO bs p3)=H4 at*
  simp only[go_sem,rE,rA,aF,ax,av,ay,rL,bg,Ty.enc_eq t,g6]
  exact jn _ _ p3 _ {f with type:=t} ⟨hlo.pars,hlo.ptys,ht,hlo.blen,hlo.bcnt,hlo.bsm,hlo.says,hlo.nm,hlo.pnm⟩ (hB1.put _) (kJ {f with type:=t} (.refl _) (.refl _) (.refl _) lesays legives) (by first|rfl|simp only[go_sem,rE]) (by first|rfl|simp only[go_sem,rE]) (by first|rfl|simp only[go_sem,rE]) (by first|rfl|simp only[go_sem,rE]) (by omega) (by omega)
 ·
  exact jn _ _ p2 _ {f with lent:=!f.lent} ⟨hlo.pars,hlo.ptys,hlo.ty,hlo.blen,hlo.bcnt,hlo.bsm,hlo.says,hlo.nm,hlo.pnm⟩ (hB.put _) (kJ {f with lent:=!f.lent} (.refl _) (.refl _) (.refl _) lesays legives) (by first|rfl|simp only[go_sem,rE]) (by first|rfl|simp only[go_sem,rE]) (by first|rfl|simp only[go_sem,rE]) (by first|rfl|simp only[go_sem,rE]) (by omega) (by omega)
 ·
  by_cases hb:(0:Int)<f.body.length
  ·simp only[hb,decide_true,go_sem,rE,rA,aF,ax,av,ay,rL,bg,g6,ao]
   refine bw (cW L r bs p2 f.body.length hbs (by omega) (by omega)) (rfl) hB.gr (by simp) trivial ?_
   rintro q p3 hp3 hp3' ⟨n,rfl,hn0,hn1⟩
   have hB1:=hB.draw p3
   have g6:=hB1.g6
   generalize H3.set r (RdO bs p3)=H4 at*
   simp only[go_sem,rE,rA,aF,ax,av,ay,rL,bg,g6]
   intro b58 hb58
   have hB2:=hB1.new hb58 (.tail 0 0)
   have g58:(H4.set b58 (.tail 0 0)).get b58=_:=ai _ _ _
   have g6:=hB2.g6
   generalize H4.set b58 (.tail 0 0)=H5 at*
   have hnl:n.toNat<f.body.length:=by omega
   have w1:=aP (n:=n+1) (by omega) (by omega)
   have hn2:n<=f.body.length:=by omega
   have hnl':n.toNat<=f.body.length:=by omega
   have hn1':(0:Int)<=n+1:=by omega
   have hnt:(n+1).toNat<=f.body.length:=by omega
   simp only[go_sem,rE,rA,aF,ax,av,ay,rL,bg,g6,ao,hn0,hn2,hnl',gN]
   refine dS (es:=[]) (ys:=(f.body.map St.enc).take n.toNat) (rfl) g58 (rfl) (fun e he=>j7 _ e (cP he)) (by simp;omega) ?_
   intro bt nt mt H6 fp6 gt keep hbt hfb
   have hB3:=hB2.keep (iL g58 keep)
   have nf6:¬fp6 b6:=fun h=>by have:=hfb _ h;rw[g6]at this;simp at this
   have g6:=hB3.g6
   simp only[go_sem,rE,rA,aF,ax,av,ay,rL,bg,g6,ao,w1,hn1',hnt,aA]
   refine⟨by simp;exact nf6,?_⟩
   refine dS (es:=(f.body.map St.enc).take n.toNat) (ys:=((f.body.map St.enc).take f.body.length).drop (n+1).toNat) (rfl) gt (rfl) (fun e he=>j7 _ e (cP (fL he))) (by simp;omega) ?_
   intro bt2 nt2 mt2 H7 fp7 gt2 keep2 hbt2 hfb2
   have hB4:=hB3.keep (iL gt keep2)
   have g6:=hB4.g6
   simp only[go_sem,rE,rA,aF,ax,av,ay,rL,bg,g6]
   have hmem:∀s∈f.body.take n.toNat++f.body.drop (n+1).toNat,s∈f.body:=fun s hs=>by
    rcases aE.1 hs with h|h
    ·exact cP h
    ·exact fL h
   refine jn _ _ p3 _ {f with body:=f.body.take n.toNat++f.body.drop (n+1).toNat} ⟨hlo.pars,hlo.ptys,hlo.ty,by simp;omega,fun s hs=>hlo.bcnt s (hmem s hs),fun s hs=>hlo.bsm s (hmem s hs),hlo.says,hlo.nm,hlo.pnm⟩ (hB4.put _) (kJ {f with body:=f.body.take n.toNat++f.body.drop (n+1).toNat} (.refl _) (.refl _) ?_ lesays legives) (by first|rfl|simp only[go_sem,rE]) (by first|rfl|simp only[go_sem,rE]) (by first|rfl|simp only[go_sem,rE]) (by first|rfl|simp only[go_sem,rE]) (by omega) (by omega)
   rw[bL,kR,List.map_drop]
   have:(f.body.map St.enc).take f.body.length=f.body.map St.enc:=by rw[cy (by simp)]
   rw[this]
   exact .tok _ _ _
  ·simp only[hb,decide_false,go_sem,rE,rA,aF,ax,av,ay,rL,bg]
   exact jn _ _ p2 _ f hlo hB (kJ f (.refl _) (.refl _) (.refl _) lesays legives) (by first|rfl|simp only[go_sem,rE]) (by first|rfl|simp only[go_sem,rE]) (by first|rfl|simp only[go_sem,rE]) (by first|rfl|simp only[go_sem,rE]) (by omega) (by omega)
 ·
  by_cases hb:(0:Int)<f.body.length
  ·simp only[hb,decide_true,go_sem,rE,rA,aF,ax,av,ay,rL,bg,g6,ao]
   intro b58 hb58
   have hB2:=hB.new hb58 (.tail 0 0)
   have g58:(H3.set b58 (.tail 0 0)).get b58=_:=ai _ _ _
   have g6:=hB2.g6
   generalize H3.set b58 (.tail 0 0)=H5 at*
   simp only[go_sem,rE,rA,aF,ax,av,ay,rL,bg,g6]
   refine dS (es:=[]) (ys:=f.body.map St.enc) (rfl) g58 (rfl) (j7 _) (by simp;omega) ?_
   intro bt nt mt H6 fp6 gt keep hbt hfb
   have hB3:=hB2.keep (iL g58 keep)
   have nf6:¬fp6 b6:=fun h=>by have:=hfb _ h;rw[g6]at this;simp at this
   have g6:=hB3.g6
   simp only[go_sem,rE,rA,aF,ax,av,ay,rL,bg,g6,ao]
   refine⟨by simp;exact nf6,by simp;exact nf6,?_⟩
   refine bw (cW L r bs p2 f.body.length hbs (by omega) (by omega)) (rfl) hB3.gr (fun _=>⟨by omega,I 0,0,rfl,by omega,.inr rfl⟩) (by simp[dQ];exact Ne.symm hr6) ?_
   rintro q p3 hp3 hp3' ⟨m,rfl,hm0,hm1⟩
   have hB4:=hB3.draw p3
   have hnt:bt≠r:=by rintro rfl;rw[hB3.gr]at gt;simp[RdO]at gt
   have gt:(H6.set r (RdO bs p3)).get bt=_:=(ae _ _ hnt).trans gt
   generalize H6.set r (RdO bs p3)=H7 at*
   have hml:m.toNat<f.body.length:=by omega
   obtain⟨cs,hcs,Cs⟩:=stC f.body[m.toNat]
   have hgm:(f.body.map St.enc)[m.toNat]?=some cs:=by rw[<-hcs];simp[hml]
   simp only[go_sem,rE,rA,aF,ax,av,ay,rL,bg,hm0,hgm,Cs.len,Cs.all]
   refine dS (es:=f.body.map St.enc) (ys:=[cs]) (rfl) gt (rfl) (by simp[Cs.len]) (by simp;omega) ?_
   intro bt2 nt2 mt2 H8 fp8 gt2 keep2 hbt2 hfb2
   have hB5:=hB4.keep (iL gt keep2)
   have g6:=hB5.g6
   simp only[go_sem,rE,rA,aF,ax,av,ay,rL,bg,g6]
   have hmem:∀s∈f.body++[f.body[m.toNat]],s∈f.body:=fun s hs=>by
    rcases aE.1 hs with h|h
    ·exact h
    ·simp at h;rw[h];exact az hml
   refine jn _ _ p3 _ {f with body:=f.body++[f.body[m.toNat]]} ⟨hlo.pars,hlo.ptys,hlo.ty,by simp;omega,fun s hs=>hlo.bcnt s (hmem s hs),fun s hs=>hlo.bsm s (hmem s hs),hlo.says,hlo.nm,hlo.pnm⟩ (hB5.put _) (kJ {f with body:=f.body++[f.body[m.toNat]]} (.refl _) (.refl _) ?_ lesays legives) (by first|rfl|simp only[go_sem,rE]) (by first|rfl|simp only[go_sem,rE]) (by first|rfl|simp only[go_sem,rE]) (by first|rfl|simp only[go_sem,rE]) (by omega) (by omega)
   rw[bL,aU,bB,hcs]
   exact .tok _ _ _
  ·simp only[hb,decide_false,go_sem,rE,rA,aF,ax,av,ay,rL,bg]
   exact jn _ _ p2 _ f hlo hB (kJ f (.refl _) (.refl _) (.refl _) lesays legives) (by first|rfl|simp only[go_sem,rE]) (by first|rfl|simp only[go_sem,rE]) (by first|rfl|simp only[go_sem,rE]) (by first|rfl|simp only[go_sem,rE]) (by omega) (by omega)
 ·
  intro b58 hb58
  have hB2:=hB.new hb58 (.tail 0 0)
  have g58:(H3.set b58 (.tail 0 0)).get b58=_:=ai _ _ _
  have g6:=hB2.g6
  generalize H3.set b58 (.tail 0 0)=H5 at*
  simp only[go_sem,rE,rA,aF,ax,av,ay,rL,bg,g6]
  refine dS (es:=[]) (ys:=f.params.map Pa.enc) (rfl) g58 (rfl) (by simp;intro s _;exact pa_len s) (by have:=hgood.pars;simp;omega) ?_
  intro bt nt mt H6 fp6 gt keep hbt hfb
  have hB3:=hB2.keep (iL g58 keep)
  simp only[go_sem,rE,rA,aF,ax,av,ay,rL,bg]
  intro b0 hb0
  have d0t:=al gt hb0
  have hB4:=hB3.new hb0 (.tail 3 3)
  have gt:(H6.set b0 (.tail 3 3)).get bt=_:=(ae _ _ d0t).trans gt
  generalize H6.set b0 (.tail 3 3)=H7 at*
  refine bw (zas:=[.ptr r 0,.sl 1 (some (b0,3,3)) (j6 [bl [112],bl [122],bl [90]])]) ((c_of L r bs hbs [bl [112],bl [122],bl [90]] (by simp) (by simp) p2 (by omega) (by omega)).args ⟨.refl _,.tok _ _ _,trivial⟩) (rfl) hB4.gr (by simp) trivial ?_
  rintro q p3 hp3 hp3' ⟨s,hsm,rfl⟩
  have hB5:=hB4.draw p3
  have hnt:bt≠r:=by rintro rfl;rw[hB4.gr]at gt;simp[RdO]at gt
  have gt:(H7.set r (RdO bs p3)).get bt=_:=(ae _ _ hnt).trans gt
  generalize H7.set r (RdO bs p3)=H8 at*
  simp only[go_sem,rE,rA,aF,ax,av,ay,rL,bg]
  refine bw (sC L r bs hbs p3 (by omega) (by omega)) (rfl) hB5.gr (by simp) trivial ?_
  rintro q p4 hp4 hp4' ⟨t,rfl,ht⟩
  have hB6:=hB5.draw p4
  have gt:(H8.set r (RdO bs p4)).get bt=_:=(ae _ _ hnt).trans gt
  generalize H8.set r (RdO bs p4)=H9 at*
  simp only[go_sem,rE,rA,aF,ax,av,ay,rL,bg,Ty.enc_eq t]
  refine dS (es:=f.params.map Pa.enc) (ys:=[[S s,B false,.sl 1 none (Ty.encs t.kids)]]) (rfl) gt (rfl) (by simp) (by have:=hgood.pars;simp;omega) ?_
  intro bt2 nt2 mt2 H10 fp10 gt2 keep2 hbt2 hfb2
  have hB7:=hB6.keep (iL gt keep2)
  have g6:=hB7.g6
  simp only[go_sem,rE,rA,aF,ax,av,ay,rL,bg,g6]
  refine jn _ _ p4 _ {f with params:=f.params++[⟨s,false,t⟩]} ⟨by have:=hgood.pars;simp;omega,fun x hx=>?_,hlo.ty,hlo.blen,hlo.bcnt,hlo.bsm,hlo.says,hlo.nm,fun x hx=>?_⟩ (hB7.put _) (kJ {f with params:=f.params++[⟨s,false,t⟩]} ?_ (.refl _) (.refl _) lesays legives) (by first|rfl|simp only[go_sem,rE]) (by first|rfl|simp only[go_sem,rE]) (by first|rfl|simp only[go_sem,rE]) (by first|rfl|simp only[go_sem,rE]) (by omega) (by omega)
  ·rcases aE.1 hx with h|h
   ·exact hlo.ptys x h
   ·simp at h;subst h;exact ht
  ·rcases aE.1 hx with h|h
   ·exact hlo.pnm x h
   ·have:=aS.1 (show [bl [112],bl [122],bl [90]].all (fun x=>decide (x.size<=2))=true by decide) s hsm
    simp at h;subst h;simpa using this
  ·rw[bL,aU,bB,Pa.enc,Ty.enc_eq t]
   exact .tok _ _ _
 ·
  intro b0 hb0
  have hB4:=hB.new hb0 (.tail 3 3)
  generalize H3.set b0 (.tail 3 3)=H7 at*
  refine bw (zas:=[.ptr r 0,.sl 1 (some (b0,3,3)) (j6 [bl [112],bl [113],bl [122,122]])]) ((c_of L r bs hbs [bl [112],bl [113],bl [122,122]] (by simp) (by simp) p2 (by omega) (by omega)).args ⟨.refl _,.tok _ _ _,trivial⟩) (rfl) hB4.gr (by simp) trivial ?_
  rintro q p3 hp3 hp3' ⟨s,hsm,rfl⟩
  have hB5:=hB4.draw p3
  generalize H7.set r (RdO bs p3)=H8 at*
  simp only[go_sem,rE,rA,aF,ax,av,ay,rL,bg]
  refine bw (cW L r bs p3 3 hbs (by omega) (by omega)) (rfl) hB5.gr (by simp) trivial ?_
  rintro q p4 hp4 hp4' ⟨m,rfl,hm0,hm1⟩
  have hB6:=hB5.draw p4
  generalize H8.set r (RdO bs p4)=H9 at*
  have w1:=aP (n:=m - 1) (by omega) (by omega)
  simp only[go_sem,rE,rA,aF,ax,av,ay,rL,bg,w1]
  intro b1 hb1
  have hB7:=hB6.new hb1 (.tail 1 1)
  generalize H9.set b1 (.tail 1 1)=H10 at*
  refine bw (cW L r bs p4 2 hbs (by omega) (by omega)) (rfl) hB7.gr (by simp) trivial ?_
  rintro q p5 hp5 hp5' ⟨n,rfl,hn0,hn1⟩
  have hB8:=hB7.draw p5
  have g6:=hB8.g6
  generalize H10.set r (RdO bs p5)=H11 at*
  have hn01:n=0\/n=1:=by omega
  have hn1':n.toNat<=1:=by omega
  simp only[go_sem,rE,rA,aF,ax,av,ay,rL,bg,g6,hn0,hn1',gN]
  refine jn _ _ p5 _ {f with gives:=⟨s,[m - 1].take n.toNat⟩} ⟨hlo.pars,hlo.ptys,hlo.ty,hlo.blen,hlo.bcnt,hlo.bsm,hlo.says,hlo.nm,hlo.pnm⟩ (hB8.put _) (kJ {f with gives:=⟨s,[m - 1].take n.toNat⟩} (.refl _) (.refl _) (.refl _) lesays ⟨⟨.refl _,rfl⟩,⟨?_,rfl⟩,trivial⟩) (by first|rfl|simp only[go_sem,rE]) (by first|rfl|simp only[go_sem,rE]) (by first|rfl|simp only[go_sem,rE]) (by first|rfl|simp only[go_sem,rE]) (by omega) (by omega)
  rcases hn01 with rfl|rfl
  ·exact .refl _
  ·exact .refl _
 ·
  refine bw (cW L r bs p2 8 hbs (by omega) (by omega)) (rfl) hB.gr (by simp) trivial ?_
  rintro q p3 hp3 hp3' ⟨n,rfl,hn0,hn1⟩
  have hB1:=hB.draw p3
  generalize H3.set r (RdO bs p3)=H4 at*
  simp only[go_sem,rE,rA,aF,ax,av,ay,rL,bg]
  refine bw (cW L r bs p3 3 hbs (by omega) (by omega)) (rfl) hB1.gr (by simp) trivial ?_
  rintro q p4 hp4 hp4' ⟨m,rfl,hm0,hm1⟩
  have hB2:=hB1.draw p4
  have g6:=hB2.g6
  generalize H4.set r (RdO bs p4)=H5 at*
  simp only[go_sem,rE,rA,aF,ax,av,ay,rL,bg,g6]
  refine jn _ _ p4 _ {f with says:=.mk n m ⟨bl [112],[]⟩ []} ⟨hlo.pars,hlo.ptys,hlo.ty,hlo.blen,hlo.bcnt,hlo.bsm,.mk (by omega) (by simp),hlo.nm,hlo.pnm⟩ (hB2.put _) (kJ {f with says:=.mk n m ⟨bl [112],[]⟩ []} (.refl _) (.refl _) (.refl _) ?_ legives) (by first|rfl|simp only[go_sem,rE]) (by first|rfl|simp only[go_sem,rE]) (by first|rfl|simp only[go_sem,rE]) (by first|rfl|simp only[go_sem,rE]) (by omega) (by omega)
  rw[Ex.enc]
  exact⟨⟨.refl _,rfl⟩,⟨.refl _,rfl⟩,⟨.refl _,rfl⟩,⟨.nil 1,rfl⟩,⟨.nil 5,rfl⟩,trivial⟩
 ·
  exact sw _ _ (by first|rfl|simp only[go_sem,rE]) (by first|rfl|simp only[go_sem,rE]) fun E' H' p' c6 f' hf' hB' hA he h1 h2=>jn8 E' H' p' c6 f' hf' hB' hA ((he 3 (by decide)).trans (by first|rfl|simp only[go_sem,rE])) ((he 4 (by decide)).trans (by first|rfl|simp only[go_sem,rE])) ((he 5 (by decide)).trans (by first|rfl|simp only[go_sem,rE])) ((he 6 (by decide)).trans (by first|rfl|simp only[go_sem,rE])) (by omega) (by omega)
 ·
  exact sw _ _ (by first|rfl|simp only[go_sem,rE]) (by first|rfl|simp only[go_sem,rE]) fun E' H' p' c6 f' hf' hB' hA he h1 h2=>jn8 E' H' p' c6 f' hf' hB' hA ((he 3 (by decide)).trans (by first|rfl|simp only[go_sem,rE])) ((he 4 (by decide)).trans (by first|rfl|simp only[go_sem,rE])) ((he 5 (by decide)).trans (by first|rfl|simp only[go_sem,rE])) ((he 6 (by decide)).trans (by first|rfl|simp only[go_sem,rE])) (by omega) (by omega)
 ·
  intro b58 hb58
  have hB2:=hB.new hb58 (.tail 0 0)
  have g58:(H3.set b58 (.tail 0 0)).get b58=_:=ai _ _ _
  have g6:=hB2.g6
  generalize H3.set b58 (.tail 0 0)=H5 at*
  simp only[go_sem,rE,rA,aF,ax,av,ay,rL,bg,g6]
  refine dS (es:=[]) (ys:=f.body.map St.enc) (rfl) g58 (rfl) (j7 _) (by simp;omega) ?_
  intro bt nt mt H6 fp6 gt keep hbt hfb
  have hB3:=hB2.keep (iL g58 keep)
  simp only[go_sem,rE,rA,aF,ax,av,ay,rL,bg]
  intro b0 hb0
  have d0t:=al gt hb0
  have hB4:=hB3.new hb0 (.tail 6 6)
  have gt:(H6.set b0 (.tail 6 6)).get bt=_:=(ae _ _ d0t).trans gt
  generalize H6.set b0 (.tail 6 6)=H7 at*
  refine bw (zas:=[.ptr r 0,.sl 1 (some (b0,6,6)) (j6 [bl [112],bl [113],bl [97,98],bl [97,99],bl [97,100],bl [97,101]])]) ((c_of L r bs hbs [bl [112],bl [113],bl [97,98],bl [97,99],bl [97,100],bl [97,101]] (by simp) (by simp) p2 (by omega) (by omega)).args ⟨.refl _,.tok _ _ _,trivial⟩) (rfl) hB4.gr (by simp) trivial ?_
  rintro q p3 hp3 hp3' ⟨s,hsm,rfl⟩
  have hB5:=hB4.draw p3
  have hnt:bt≠r:=by rintro rfl;rw[hB4.gr]at gt;simp[RdO]at gt
  have gt:(H7.set r (RdO bs p3)).get bt=_:=(ae _ _ hnt).trans gt
  generalize H7.set r (RdO bs p3)=H8 at*
  simp only[go_sem,rE,rA,aF,ax,av,ay,rL,bg]
  refine dS (es:=f.body.map St.enc) (ys:=[[I 1,S (bl [122,122]),S (bl []),NIL,S (bl []),NIL,I 2,I 0,S s,NIL,NIL,S (bl []),NIL,NIL,NIL]]) (rfl) gt (rfl) (by simp) (by simp;omega) ?_
  intro bt2 nt2 mt2 H10 fp10 gt2 keep2 hbt2 hfb2
  have hB7:=hB5.keep (iL gt keep2)
  have g6:=hB7.g6
  simp only[go_sem,rE,rA,aF,ax,av,ay,rL,bg,g6]
  have hxs:(Ex.mk 2 0 ⟨s,[]⟩ []).sm:=.mk (by decide) (by simp)
  obtain⟨c1,c2⟩:=lc 1 (bl [122,122]) P0 P0 (.mk 2 0 ⟨s,[]⟩ []) (by decide) hxs
  refine jn _ _ p3 _ {f with body:=f.body++[.mk 1 (bl [122,122]) P0 P0 (.mk 2 0 ⟨s,[]⟩ []) (bl []) [] [] []]} ⟨hlo.pars,hlo.ptys,hlo.ty,by simp;omega,fun x hx=>?_,fun x hx=>?_,hlo.says,hlo.nm,hlo.pnm⟩ (hB7.put _) (kJ {f with body:=f.body++[.mk 1 (bl [122,122]) P0 P0 (.mk 2 0 ⟨s,[]⟩ []) (bl []) [] [] []]} (.refl _) (.refl _) ?_ lesays legives) (by first|rfl|simp only[go_sem,rE]) (by first|rfl|simp only[go_sem,rE]) (by first|rfl|simp only[go_sem,rE]) (by first|rfl|simp only[go_sem,rE]) (by omega) (by omega)
  ·rcases aE.1 hx with h|h
   ·exact hlo.bcnt x h
   ·simp at h;subst h;omega
  ·rcases aE.1 hx with h|h
   ·exact hlo.bsm x h
   ·simp at h;subst h;exact c2.up (by omega)
  ·rw[bL,aU,bB]
   refine .slR ((xN f.body).snoc ?_)
   rw[St.enc_eq]
   exact⟨⟨.refl _,rfl⟩,⟨.refl _,rfl⟩,⟨.refl _,rfl⟩,⟨.nil 1,rfl⟩,⟨.refl _,rfl⟩,⟨.nil 1,rfl⟩,⟨.refl _,rfl⟩,⟨.refl _,rfl⟩,⟨.refl _,rfl⟩,⟨.nil 1,rfl⟩,⟨.nil 5,rfl⟩,⟨.refl _,rfl⟩,⟨.nil 8,rfl⟩,⟨.nil 15,rfl⟩,⟨.nil 15,rfl⟩,trivial⟩
 ·
  intro b58 hb58
  have hB2:=hB.new hb58 (.tail 0 0)
  have g58:(H3.set b58 (.tail 0 0)).get b58=_:=ai _ _ _
  have g3:=hB2.g3
  generalize H3.set b58 (.tail 0 0)=H5 at*
  simp only[go_sem,rE,rA,aF,ax,av,ay,rL,bg,g3]
  refine dS (es:=[]) (ys:=pr.map Fu.enc) (rfl) g58 (rfl) (by simp;intro g _;exact nC g) (by simp;omega) ?_
  intro bt nt mt H6 fp6 gt keep hbt hfb
  have nf6:¬fp6 b6:=fun h=>by have:=hfb _ h;rw[hB2.g6]at this;simp at this
  have hB3:=hB2.keep (iL g58 keep)
  have g6:=hB3.g6
  simp only[go_sem,rE,rA,aF,ax,av,ay,rL,bg,g6]
  refine⟨by simp;exact nf6,?_⟩
  refine dS (es:=pr.map Fu.enc) (ys:=[f.enc]) (rfl) gt (by simp only[go_sem,rE];rw[qK]) (by simp[nC]) (by simp;omega) ?_
  intro bt2 nt2 mt2 H8 fp8 gt2 keep2 hbt2 hfb2
  have hB5:=hB3.keep (iL gt keep2)
  have g3:=hB5.g3
  simp only[go_sem,rE,rA,aF,ax,av,ay,rL,bg,g3]
  have hB6:=hB5.put3 [.sl 12 (some (bt2,nt2,mt2)) (pr.map Fu.enc++[f.enc])]
  rw[<-qK]at hB6
  have e1:pr.map Fu.enc++[f.enc]=(pr++[f]).map Fu.enc:=by simp
  rw[e1]at hB6⊢
  exact jn11 _ _ _ (pr++[f]) (by simp;omega) (by simp;omega) (fun g hg=>by rcases aE.1 hg with h|h;exact hplo g h;simp at h;rw[h];exact hlo) hB6 (by first|rfl|simp only[go_sem,rE]) (by first|rfl|simp only[go_sem,rE]) (by first|rfl|simp only[go_sem,rE]) (by first|rfl|simp only[go_sem,rE])
end
section
variable {P:Program}{F:Ids}
def drawn(m:Nat)(pr:Pg):Prop:=(∀f∈pr,f.lo m)/\1<=pr.length/\pr.length<=4+m
def fj(bs:List UInt8):List (List AC):=bs.map fun b=>[AC.lit (.int .u8 (b.toNat:Int))]
theorem AQ(L:Lib P F)(bs:List UInt8)(hl:bs.length<=2^30):ACalls P 23 [.sl 1 none (fj bs)] .empty fun q H'=>∃r bs',q=.ptr r 0/\H'=one r (RdO bs' 0)/\bs'.length<=2000:=by
 refine(L.a Tryz.func23 y23) (by simp[y23]) ?_
 have hlen:(fj bs).length=bs.length:=by simp[fj]
 by_cases h:(2000:Int)<bs.length
 ·have h2:2000<=bs.length:=by omega
  have h3:(0:Int)<=2000:=by decide
  have h4:(2000:Int).toNat=2000:=rfl
  simp only[y23,go_sem,rE,rA,hlen,h,h2,h3,h4,decide_true,gN,dN,Int.reduceToNat]
  intro r hr
  refine ak (q':=.ptr r 0) (by simp only[go_sem,rE];exact .refl _) (aj.sub_refl _) ⟨r,bs.take 2000,rfl,?_,by simp;omega⟩
  simp only[RdO,fj,kR]
  rfl
 ·simp only[y23,go_sem,rE,rA,hlen,h,decide_false]
  intro r hr
  exact ak (q':=.ptr r 0) (by simp only[go_sem,rE];exact .refl _) (aj.sub_refl _) ⟨r,bs,rfl,rfl,by omega⟩
end
section
variable {P:Program}{F:Ids}
end

def j3(ro:Option Nat):Fence:={Fence.wide with round:=ro}
theorem z6(ro:Option Nat)(l:Nat):(j3 ro).inRound l=j3 (some l):=rfl
theorem lG(ro:Option Nat)(n:Nat):(j3 ro).depth.isSome=true->1<=n:=fun h=>by simp[j3,Fence.wide]at h
theorem callsR{ro:Option Nat}{n:Nat}{P:Program}{f:FuncId}{args:Array Value}{w:World}{R:Ending->World->Prop}(h:Calls P f args w R):CallsIn (j3 ro) n P f args w R:=
 (callsIn_wide.2 h:CallsIn Fence.wide n P f args w R)
section
variable {P:Program}{ro:Option Nat}{n:Nat}
theorem z9{o:Oper}{a:Act}{next next':Act->World->Prop}{Q:Exit->Act->World->Prop}(hn:∀a w,next a w->next' a w){r:Result Next}(h:o.upon P a next Q r):
 o.uponIn (j3 ro) n P a next' Q r:=by
 cases r with
 |halt x w'=>
  cases x<;>first|exact h|exact h.elim
 |ok x w'=>
  cases x<;>first
   |exact hn _ _ h
   |exact h.elim
   |exact⟨lG _ _,callsR (Calls.mono h fun e w'' he=>by cases e<;>first|exact hn _ _ he|exact he)⟩
   |exact⟨lG _ _,fun c cs _=>let⟨v,w'',hr,hs⟩:=h c cs;⟨v,w'',hn _ _ hr,stepsIn_wide.2 hs⟩⟩
def oD(F:Fence)(n:Nat)(P:Program)(ops:Array Oper)(Q:Exit->Act->World->Prop)(i:Nat)(next:Act->World->Prop)(a:Act)(w:World):Prop:=
 match ops[i]? with
 |none=>next a w
 |some o=>if Region.wanted o (yielded ops a.tmps)then o.wpIn F n P a w next Q else(∀f,o.about P w a.eval=some f->F.fn f)/\next (a.put o.dst undef) w
theorem nT{F:Fence}{ops:Array Oper}{Q:Exit->Act->World->Prop}(i:Nat)(rest:List Nat)(a:Act)(w:World):wpOpsIn F n P ops Q (i::rest) a w=oD F n P ops Q i (wpOpsIn F n P ops Q rest) a w:=by
 cases h:ops[i]?<;>simp[wpOpsIn,oD,h]
theorem zz{ops:Array Oper}{Q:Exit->Act->World->Prop}(hQ:¬LetsOut Q){i:Nat}(hd:∀o,ops[i]?=some o->∀c,o.op≠.defer c){next next':Act->World->Prop}(hn:∀a w,next a w->next' a w){a:Act}{w:World}
(h:wpOp P ops Q i next a w):oD (j3 ro) n P ops Q i next' a w:=by
 unfold wpOp at h
 unfold oD
 split at h
 ·rename_i ho
  simp only[ho]
  exact hn _ _ h
 ·rename_i o ho
  simp only[ho]
  split at h
  ·rename_i hw
   rw[if_pos hw]
   rcases h with h|⟨-,h⟩
   ·refine⟨fun _ _=>trivial,?_⟩
    rw[Oper.semAt_eq _ _ _ (hd o ho)]
    exact z9 hn h
   ·exact absurd h hQ
  ·rename_i hw
   rw[if_neg hw]
   exact⟨fun _ _=>trivial,hn _ _ h⟩
theorem rC{N:Nat}{ops:Array Oper}{i:Nat}{inc:List Nat}{x:aJ}(h:ed P N ops i inc=some x):∀o,ops[i]?=some o->∀c,o.op≠.defer c:=by
 intro o ho c hc
 simp only[ed,ho]at h
 have:oY P o.op=none:=by
  rw[hc]
  simp[oY,x9,qf,r9,resL,gO]
 rw[this]at h
 simp at h
theorem pR{N:Nat}{ops:Array Oper}{Q:Exit->Act->World->Prop}(hQ:¬LetsOut Q){dr:Bool}{K:Env->aj->Prop}{rest:List Nat}:∀(xs:List aJ),(∀x∈xs,ed P N ops x.id x.inc=some x)->∀{M:bF} {E:Env} {H:aj} {a:Act} {w:World} {l:Lds} {f:Fps},
 ce N M E a->Sim M H w->bp P dr K (xs.map aJ.toM) E H l f->(∀a' w',kE P N K M H w a a' w'->wpOpsIn (j3 ro) n P ops Q rest a' w')->wpOpsIn (j3 ro) n P ops Q (xs.map (·.id)++rest) a w:=by
 intro xs
 induction xs with
 |nil=>intro _ M E H a w l f hE s h hq;exact hq a w ⟨E,H,M,h,hE,s,bC.refl _ _ _,rfl⟩
 |cons x xs ih=>
  intro hres M E H a w l f hE s h hq
  rw[aU,cq,nT]
  simp only[aU,bp]at h
  refine zz hQ (rC (hres x (by simp))) (fun _ _ h=>h) (lL (hres x (by simp)) hE s h fun r H' l' f' M' a' w' hk hE' s' t' hd'=>?_)
  refine ih (fun y hy=>hres y (by simp[hy])) hE' s' hk fun a'' w'' hp=>hq a'' w'' ?_
  obtain⟨E'',H'',M'',p1,p2,p3,p4,p5⟩:=hp
  exact⟨E'',H'',M'',p1,p2,p3,t'.trans p4,p5.trans hd'⟩
end
section
variable {P:Program}{ro:Option Nat}{n:Nat}
theorem toLit_X{ops:Array Oper}{d:Option Nat}{x:XOp}{c:vu}{zas:List aG}(h:lK ops d x=.eff (.callX c zas)):x=.eff (.callX c zas):=by
 unfold lK at h
 repeat' (split at h)
 all_goals first|exact h|simp at h
theorem resOp_X{op:Op}{c:vu}{zas:List aG}(h:oY P op=some (.eff (.callX c zas))):gO P op=some (.callX c zas):=by
 simp only[oY]at h
 split at h
 ·simp at h
 ·split at h
  ·simp at h
  ·simp only[a7,XOp.eff.injEq]at h
   obtain⟨e,he,rfl⟩:=h
   exact he
theorem yz{o:Oper}{zas:List aG}(hres:gO P o.op=some (.callX .clos zas)):∃t args ts,o.op=.call ⟨.value (.tmp t),args,ts⟩/\jz (.tmp t::args.toList)=some zas:=by
 obtain⟨dst,op,ty,pos,after,guard⟩:=o
 cases op<;>simp only[gO]at hres<;>try(simp at hres;done)
 case lookup=>repeat' split at hres
              all_goals simp at hres
 case mapUpdate=>repeat' split at hres
                 all_goals simp at hres
 case buildSlice=>repeat' split at hres
                  all_goals simp at hres
 case store=>repeat' split at hres
             all_goals simp at hres
 case makeMap t r=>
  cases r with
  |some r=>simp at hres
  |none=>
   simp only[]at hres
   split at hres<;>simp at hres
 case call c=>
  obtain⟨callee,args,argTypes⟩:=c
  cases callee with
  |invoke r m=>simp[gO]at hres
  |builtin b=>
   cases b<;>simp only[gO]at hres<;>try(simp at hres;done)
   repeat' split at hres
   all_goals simp at hres
  |value f=>
   cases f with
   |tmp t=>
    simp only[gO,a7,EOp.callX.injEq,true_and]at hres
    obtain⟨as',has,rfl⟩:=hres
    exact⟨t,args,argTypes,rfl,has⟩
   |func f=>
    simp only[gO]at hres
    repeat' split at hres
    all_goals simp at hres
   |_=>simp[gO]at hres
theorem zt{N:Nat}{ops:Array Oper}{Q:Exit->Act->World->Prop}{i:Nat}{d:Option Nat}{inc:List Nat}{zas:List aG}(hx:ed P N ops i inc=some ⟨i,d,none,.eff (.callX .clos zas),inc⟩){M:bF}{E:Env}{a:Act}{w:World}(hE:ce N M E a)
{l:Nat}{xs:List AC}(ha:zas.map (aG.ev E)=.lit (.func (.yield l) #[] #[])::xs){R:Value->World->Prop}(hy:∀vs:List Value,gP M xs vs->YieldAt (j3 ro) (n - 1) P l vs.toArray w fun e w'=>∃v,e=.returned v/\R v w')
{next:Act->World->Prop}(hn:∀v w',R v w'->next (a.put d v) w'):oD (j3 ro) n P ops Q i next a w:=by
 simp only[ed]at hx
 split at hx
 ·rename_i o ho
  split at hx
  ·rename_i xo g hxo hg
   split at hx
   ·rename_i hc
    simp only[aw]at hc
    simp only[Option.some.injEq,aJ.mk.injEq,true_and,and_true]at hx
    obtain⟨rfl,rfl,hop⟩:=hx
    have hlit:=toLit_X hop
    subst hlit
    obtain⟨t,args,ts,hcall,has⟩:=yz (resOp_X hxo)
    have hargs:=ix (fun x xa hx=>hE.arg x xa hx) _ _ has
    rw[ha]at hargs
    unfold oD
    simp only[ho]
    rw[jh hg hc.2 hE (b:=true) rfl]
    simp only[if_true]
    have h0:=ku (hargs.2 0 _ _ rfl rfl)
    have hrest:gP M xs (args.toList.map a.eval):=⟨by simpa using hargs.1,fun j x v hx hv=>hargs.2 (j+1) x v (by simpa using hx) (by simpa using hv)⟩
    obtain⟨fn,tmps,assign,body,hrun,hround⟩:=hy _ hrest
    have hex:(execOp a.eval o).run P w=.ok (.round l fn tmps assign body) w:=by
     obtain⟨dst,op,ty,pos,after,guard⟩:=o
     simp only at hcall
     subst hcall
     have hmap:args.map a.eval=(args.toList.map a.eval).toArray:=by apply eW.1;simp only[Array.toList_map]
     simp[execOp,resolve,h0,Deferred.ofValue,invoke,callFunc,Sem.run_bind,Sem.run_pure,Result.andThen,hmap,hrun]
    refine⟨fun _ _=>trivial,?_⟩
    rw[Oper.semAt_eq _ _ _ (by rw[hcall];intro c hc;cases hc),hex,Oper.uponIn_round]
    refine⟨lG _ _,hround.mono fun e w' he=>?_⟩
    obtain⟨v,rfl,hv⟩:=he
    exact hn _ _ hv
   ·simp at hx
  ·simp at hx
 ·simp at hx
end
def YC(P:Program)(ro:Option Nat)(n l:Nat)(xs:List AC)(M:bF)(Sd:World->Prop)(H:aj)(R:aj->Prop):Prop:=
 ∀(M':bF) (w':World) (vs:List Value),M.le M'->Sim M' H w'->Sd w'->gP M' xs vs->
  YieldAt (j3 ro) n P l vs.toArray w' fun e w''=>e=.returned (.bool true)/\∃M'' H'',Sim M'' H'' w''/\bC M' H w' M'' H'' w''/\R H''
section
variable {P:Program}{ro:Option Nat}{n:Nat}
theorem kD{N:Nat}{K:cE->Env->aj->Prop}{M:bF}{H:aj}{w:World}{a:Act}:¬LetsOut (rt N K M H w a):=by
 rintro⟨a',w',xe,-,-,-,he,-⟩
 simp[dI]at he
theorem lQ{N id:Nat}{ops:Array Oper}{xc:aT}(h:cM P N ops false=some xc){K:cE->Env->aj->Prop}{M:bF}{E:Env}{H:aj}{a:Act}{w:World}
(hE:ce N M E a)(s:Sim M H w)(hw:xc.wp P K E H):(Code.region id ops false).wpIn (j3 ro) n P (rt N K M H w a) a w:=by
 simp only[cM,a7]at h
 obtain⟨xs,hxs,rfl⟩:=h
 obtain⟨h1,h2⟩:=j9 hxs
 refine wpIn_region ?_
 rw[<-h1,<-dA (xs.map (·.id))]
 refine pR kD xs h2 hE s hw fun a' w' hp=>?_
 obtain⟨E',H',M',p1,p2,p3,p4,p5⟩:=hp
 exact⟨.normal,E',H',M',rfl,p1,p2,p3,p4,p5⟩
theorem ul{N id:Nat}{ops:Array Oper}{zs1 zs2:List aJ}{i:Nat}{d:Option Nat}{zas:List aG}(h:cM P N ops false=some (.region false (zs1++⟨i,d,none,.eff (.callX .clos zas),[]⟩::zs2)))
{K:cE->Env->aj->Prop}{M:bF}{E:Env}{H:aj}{a:Act}{w:World}(hE:ce N M E a)(s:Sim M H w)(hd:∀k,d=some k->k<N){Sd:World->Prop}(hSd:∀M' H' w',bC M H w M' H' w'->Sd w')
(hw:bp P false (fun E' H'=>∃l xs R,zas.map (aG.ev E')=.lit (.func (.yield l) #[] #[])::xs/\YC P ro (n - 1) l xs M Sd H' R/\∀H'',R H''->bp P false (K .normal) zs2 (E'.put d (B true)) H'' [] []) zs1 E H [] []):
 (Code.region id ops false).wpIn (j3 ro) n P (rt N K M H w a) a w:=by
 simp only[cM,a7]at h
 obtain⟨xs,hxs,hz⟩:=h
 simp only[aT.region.injEq,true_and]at hz
 obtain⟨h1,h2⟩:=j9 hxs
 obtain⟨ys,q,hys,e1,e2⟩:=List.map_eq_append_iff.1 hz
 subst hys
 obtain⟨y,ys2,hq,e3,e4⟩:=List.map_eq_cons_iff.1 e2
 subst hq
 refine wpIn_region ?_
 rw[<-h1,bL]
 rw[<-e1]at hw
 refine pR kD ys (fun x hx=>h2 x (by simp[hx])) hE s hw fun a' w' hp=>?_
 obtain⟨E',H',M',⟨l,xs,R,ha,hy,hR⟩,hE',s',t',hd'⟩:=hp
 rw[aU,nT]
 have hyM:y=⟨i,d,none,.eff (.callX .clos zas),[]⟩:=by
  by_cases hap:∀q b c d,y.op≠.eff (.append q b c d)
  ·rw[zF hap]at e3;exact e3
  ·simp only[ne_eq,Classical.not_forall,Classical.not_not]at hap
   obtain⟨sz,bb,sa,ya,hop⟩:=hap
   simp[aJ.toM,hop,xk]at e3
 have hy2:=h2 y (by simp)
 subst hyM
 refine zt hy2 hE' ha (R:=fun v w''=>v=.bool true/\∃M'' H'',Sim M'' H'' w''/\bC M' H' w' M'' H'' w''/\R H'') (fun vs hvs=>?_) ?_
 ·obtain⟨fn,tmps,assign,body,hrun,hround⟩:=hy M' w' vs t'.le s' (hSd _ _ _ t') hvs
  refine⟨fn,tmps,assign,body,hrun,hround.mono fun e w'' he=>?_⟩
  obtain⟨rfl,he⟩:=he
  exact⟨_,rfl,rfl,he⟩
 ·rintro v w'' ⟨rfl,M'',H'',s'',t'',hR''⟩
  have hE'':ce N M'' (E'.put d (B true)) (a'.put d (.bool true)):=(hE'.mono t''.le).put hd (.lit trivial)
  have hr:=hR _ hR''
  rw[<-e4]at hr
  rw[<-dA (ys2.map (·.id))]
  refine pR kD ys2 (fun x hx=>h2 x (by simp[hx])) hE'' s'' hr fun a3 w3 hp=>?_
  obtain⟨E3,H3,M3,p1,p2,p3,p4,p5⟩:=hp
  have hdef:(a'.put d (.bool true)).defers=a'.defers:=by cases d<;>rfl
  exact⟨.normal,E3,H3,M3,rfl,p1,p2,p3,(t'.trans t'').trans p4,p5.trans (hdef.trans hd')⟩
end
theorem Sim.noCells{M:bF}{H:aj}{w:World}(s:Sim M H w){l:Nat}{r:Obj}(h:w.heap[l]?=some r)(hr:∀a b c,r≠.cells a b c)(k:Nat):M l k=none:=by
 cases hm:M l k with
 |none=>rfl
 |some v=>
  have:=s.mem l k v hm
  rw[eo,h]at this
  cases r<;>first|exact absurd rfl (hr _ _ _)|simp at this
theorem Sim.putRec{M:bF}{H:aj}{w:World}(s:Sim M H w){l:Nat}{r:Obj}(h:w.heap[l]?=some r)(hr:∀a b c,r≠.cells a b c)(hn:H.get l=none)(o:Obj):Sim M H (w.putObj l o):=by
 have other:∀b,b≠l->(w.putObj l o).heap[b]?=w.heap[b]?:=fun b hb=>World.putObj_heap_other hb
 refine⟨fun b k v hm=>?_,fun b ho hb=>?_⟩
 ·have hbl:b≠l:=by rintro rfl;rw[s.noCells h hr]at hm;simp at hm
  have:=s.mem b k v hm
  rw[eo]at this⊢
  rw[other b hbl];exact this
 ·have hbl:b≠l:=by rintro rfl;rw[hn]at hb;simp at hb
  have:=s.obj b ho hb
  cases ho<;>simp only[gY,other b hbl]at this⊢<;>exact this
theorem uD(w:World)(l:Nat)(o:Obj):pJ w (w.putObj l o):=⟨rfl,rfl⟩
def Env.puts(E:Env):List Nat->List AC->Env
 |p::ps,x::xs=>(E.put (some p) x).puts ps xs
 |_,_=>E
theorem ce.puts{N:Nat}{M:bF}:∀{ps:List Nat} {xs:List AC} {vs:List Value} {E:Env} {tmps:Array Value},ce N M E {tmps:=tmps,defers:=[]}->(∀p∈ps,p<N)->gP M xs vs->
 ce N M (E.puts ps xs) {tmps:=(ps.zip vs).foldl (fun t pv=>t.setIfInBounds pv.1 pv.2) tmps,defers:=[]}
 |[],xs,vs,E,tmps,h,_,_=>by simpa[Env.puts]using h
 |p::ps,[],vs,E,tmps,h,_,hr=>by
  have:vs=[]:=bn hr.1.symm
  subst this
  simpa[Env.puts]using h
 |p::ps,x::xs,[],E,tmps,h,_,hr=>by have:=hr.1;simp at this
 |p::ps,x::xs,v::vs,E,tmps,h,hp,hr=>by
  have hx:Rep M x v:=hr.2 0 _ _ rfl rfl
  have hrest:gP M xs vs:=⟨by simpa using hr.1,fun j a b ha hb=>hr.2 (j+1) a b (by simpa using ha) (by simpa using hb)⟩
  have h1:ce N M (E.put (some p) x) {tmps:=tmps.setIfInBounds p v,defers:=[]}:=h.put (d:=some p) (fun n hn=>by simp at hn;subst hn;exact hp _ (by simp)) hx
  exact(ce.puts (E:=E.put (some p) x) (tmps:=tmps.setIfInBounds p v) h1 (fun q hq=>hp q (ew _ hq)) hrest:)
section
variable {P:Program}
theorem pN{N l:Nat}{fn:FuncId}{tmps:Array Value}{ps:List Nat}{assign body:Code}{D:Nat}{M:bF}{E:Env}(hE:ce N M E {tmps:=tmps,defers:=[]})(hps:∀p∈ps,p<N){Sx:World->Prop}{Pre:List AC->aj->Prop}{kE:List AC->aj->aj->Prop}{EA:List AC->Env}
(hSx:∀w r,Sx w->Sx (w.putObj l r))(hSt:∀M H w M' H' w',H.get l=none->Sx w->bC M H w M' H' w'->(∃xs,Pre xs H)->Sx w')
(hP:∀xs H,Pre xs H->xs.length=ps.length/\H.get l=none)
(hA:∀n xs H M1 w1 a1,M.le M1->ce N M1 (E.puts ps xs) a1->Sim M1 H w1->Pre xs H->assign.wpIn (j3 (some l)) n P (rt N (fun e E' H'=>e=.normal/\E'=EA xs/\H'=H) M1 H w1 a1) a1 w1)
(hB:∀n xs H M1 w1 a1,M.le M1->ce N M1 (EA xs) a1->Sim M1 H w1->Pre xs H->Sx w1->l<w1.heap.size->body.wpIn (j3 (some l)) n P (rt N (fun e E' H'=>e=.normal/\kE xs H H') M1 H w1 a1) a1 w1):
 ∀ro n xs H,Pre xs H->YC P ro n l xs M (fun w=>w.heap[l]?=some (.loop {state:=.ready,pending:=none,fn,tmps,params:=ps.toArray,assign,body,defers:=D})/\Sx w) H (kE xs H):=by
 intro ro n xs H hpre M' w' vs hle s hSd hr
 obtain⟨hl,hx⟩:=hSd
 obtain⟨hlen,hnl⟩:=hP xs H hpre
 obtain⟨rec,hrec⟩:∃rec:LoopState->Loop,rec=fun st=>{state:=st,pending:=none,fn,tmps,params:=ps.toArray,assign,body,defers:=D}:=⟨_,rfl⟩
 have hl0:w'.heap[l]?=some (.loop (rec .ready)):=by rw[hrec];exact hl
 have hnc:∀st a b c,Obj.loop (rec st)≠.cells a b c:=fun st a b c h=>by cases h
 have hlt:l<w'.heap.size:=(cS.1 hl).1
 have hy:=run_yield (P:=P) (args:=vs.toArray) hl (by simp;rw[<-hr.1];exact hlen)
 refine⟨fn,_,assign,body,hy,roundIn_of_wpIn trivial ?_⟩
 rw[z6]
 have hE1:ce N M' (E.puts ps xs) {tmps:=(ps.toArray.zip vs.toArray).foldl (fun t pv=>t.setIfInBounds pv.1 pv.2) tmps,defers:=[]}:=by
  have:=ce.puts (hE.mono hle) hps hr
  have e:(ps.toArray.zip vs.toArray).foldl (fun t pv=>t.setIfInBounds pv.1 pv.2) tmps=(ps.zip vs).foldl (fun t pv=>t.setIfInBounds pv.1 pv.2) tmps:=by
   rw[<-Array.foldl_toList];simp
  rw[e];exact this
 refine wpIn_mono (hA n xs H M' w' _ hle hE1 s hpre) ?_
 rintro e a1 w1 ⟨xe,E',H',M1,he,⟨rfl,rfl,rfl⟩,hE',s1,t1,hd1⟩
 have hen:e=.normal:=by cases e<;>simp[dI]at he⊢
 subst hen
 have hl1:w1.heap[l]?=some (.loop (rec .ready)):=by rw[(t1.same l hlt hnl).1];exact hl0
 have hbr:=run_beginRound (P:=P) hl1 (by rw[hrec])
 have s2:=s1.putRec hl1 (hnc _) hnl (.loop {rec .ready with state:=.busy})
 have hlt1:l<w1.heap.size:=(cS.1 hl1).1
 refine⟨_,hbr,?_⟩
 have hx1:Sx w1:=hSt _ _ _ _ _ _ hnl hx t1 ⟨xs,hpre⟩
 refine wpIn_mono (hB n xs H' M1 _ a1 (bF.le_trans hle t1.le) hE' s2 hpre (hSx _ _ hx1) (by rw[World.putObj_size];exact hlt1)) ?_
 rintro e a3 w3 ⟨xe,E3,H3,M3,he,⟨rfl,hpost⟩,hE3,s3,t3,hd3⟩
 have hen:e=.normal:=by cases e<;>simp[dI]at he⊢
 subst hen
 have hsz2:(w1.putObj l (.loop {rec .ready with state:=.busy})).heap.size=w1.heap.size:=World.putObj_size
 have hl3:w3.heap[l]?=some (.loop {rec .ready with state:=.busy}):=by
  rw[(t3.same l (by rw[hsz2];exact hlt1) hnl).1];exact World.putObj_heap_same hlt1
 have hend:=run_endRound (P:=P) none hl3
 have hn3:H3.get l=none:=by
  cases h:H3.get l with
  |none=>rfl
  |some o=>
   rcases t3.fresh l (by rw[h];simp)with h'|h'
   ·exact absurd hnl h'
   ·rw[hsz2]at h';omega
 refine⟨_,_,hend,rfl,M3,H3,s3.putRec hl3 (fun a b c h=>by cases h) hn3 _,⟨bF.le_trans t1.le t3.le,?_,fun b hb hn=>?_,fun b hb=>?_,?_⟩,hpost⟩
 ·have:=t1.size;have:=t3.size;rw[hsz2]at this;rw[World.putObj_size];omega
 ·have hb1:b<w1.heap.size:=Nat.lt_of_lt_of_le hb t1.size
  obtain⟨e1,m1⟩:=t1.same b hb hn
  obtain⟨e3,m3⟩:=t3.same b (by rw[hsz2];exact hb1) hn
  refine⟨?_,fun o=>(m3 o).trans (m1 o)⟩
  by_cases hbl:b=l
  ·subst hbl
   rw[World.putObj_heap_same (cS.1 hl3).1,hl0,hrec]
   rfl
  ·rw[World.putObj_heap_other hbl,e3,World.putObj_heap_other hbl,e1]
 ·rcases t3.fresh b hb with h|h
  ·exact .inl h
  ·rw[hsz2]at h;exact .inr (cg t1.size h)
 ·exact((t1.io.trans (uD _ _ _)).trans t3.io).trans (uD _ _ _)
end
section
variable {P:Program}
theorem uQ{f:FuncId}(h:iz P f=true)(args:Array Value)(w:World):(callFunc f args).run P w=.ok (.enter f args) w:=by
 simp only[iz]at h
 split at h
 ·rename_i fn hfn
  simp only[aw,bne_iff_ne,ne_eq]at h
  obtain⟨hb,hnm⟩:=h
  have hbn':fn.body≠none:=by intro h;simp[h]at hb
  simp[callFunc,program,hfn,hnm,hbn',Sem.run,Result.andThen]
 ·simp at h
def ItC(P:Program)(gf:FuncId)(cap:List AC)(H:aj)(Sx:World->Prop)(Pre:Nat->List AC->aj->Prop)(kE:Nat->List AC->aj->aj->Prop)(K:aj->Prop):Prop:=
 ∀(l:Nat) (o:Obj) (M:bF) (w:World) (us:List Value),(∀a b c,o≠.cells a b c)->Sim M H w->w.heap[l]?=some o->H.get l=none->gP M cap us->(∀M' H' w',bC M H w M' H' w'->Sx w')->
  (∀ro n xs H',Pre l xs H'->YC P ro n l xs M (fun w=>w.heap[l]?=some o/\Sx w) H' (kE l xs H'))->
  CallsIn Fence.wide 0 P gf (#[.func (.yield l) #[] #[]]++us.toArray) w fun e w'=>(∃v,e=.returned v)/\∃M' H',Sim M' H' w'/\bC M H w M' H' w'/\K H'
theorem yR{n m:Nat}{f:FuncId}{args:Array Value}{w:World}{R:Ending->World->Prop}(h:CallsIn Fence.wide n P f args w R):CallsIn Fence.wide m P f args w R:=
 callsIn_wide.2 (callsIn_wide.1 h)
theorem xA{N n:Nat}{g:Operand}{ps:List Nat}{assign body:Code}{a:Act}{w:World}{M:bF}{E:Env}{H:aj}{Q:Exit->Act->World->Prop}{gf:FuncId}{us:List Value}{cap:List AC}
(hE:ce N M E a)(s:Sim M H w)(hg:a.eval g=.func (.func gf) #[] us.toArray)(hgood:iz P gf=true)(hcap:gP M cap us)
{Pre:Nat->List AC->aj->Prop}{kE:Nat->List AC->aj->aj->Prop}{K:aj->Prop}{Sx:World->Prop}(hit:ItC P gf cap H Sx Pre kE K)(hSx:∀M' H' w',bC M H w M' H' w'->Sx w')
(hround:∀l D fn,w.heap.size<=l->∀ro n xs H',Pre l xs H'->YC P ro n l xs M (fun w'=>w'.heap[l]?=some (.loop {state:=.ready,pending:=none,fn,tmps:=a.tmps,params:=ps.toArray,assign,body,defers:=D})/\Sx w') H' (kE l xs H'))
(hQ:∀D M' H' w4,w.heap.size<=D->K H'->Sim M' H' w4->bC M H w M' H' w4->H'.get D=none->w4.heap[D]?=some (.deferred (some []))->Q .normal {a with defers:={target:=.collected D,args:=#[]}::a.defers} w4):
 (Code.rangeFunc g ps.toArray assign body).wpIn Fence.wide n P Q a w:=by
 refine wpIn_rangeFunc ?_
 intro fn hfn
 show ∃l mark w₁ d w₁' f args w₂,(Instr.enterLoop fn a.tmps ps.toArray assign body none).run P w=.ok (l,mark) w₁/\_
 obtain⟨rec,hrec⟩:∃rec:LoopState->Loop,rec=fun st=>{state:=st,pending:=none,fn,tmps:=a.tmps,params:=ps.toArray,assign,body,defers:=w.heap.size}:=⟨_,rfl⟩
 obtain⟨W1,hW1⟩:∃W1,(w.alloc (.deferred (some []))).alloc (.loop (rec .ready))=W1:=⟨_,rfl⟩
 have hL1:W1.heap[w.heap.size+1]?=some (.loop (rec .ready)):=by
  rw[<-hW1];have:=World.alloc_heap_new (w.alloc (.deferred (some []))) (.loop (rec .ready));rwa[World.size_alloc]at this
 have hold:∀b,b<w.heap.size->W1.heap[b]?=w.heap[b]?:=fun b hb=>by
  rw[<-hW1]
  show((w.heap.push _).push _)[b]?=_
  rw[Array.getElem?_push_lt (by simp;omega),Array.getElem_push_lt hb,de hb]
 have hK1:W1.heap[w.heap.size]?=some (.deferred (some [])):=by
  rw[<-hW1]
  show((w.heap.push _).push _)[w.heap.size]?=_
  rw[Array.getElem?_push_lt (by simp),Array.getElem_push_eq]
 have hsz:W1.heap.size=w.heap.size+2:=by rw[<-hW1];simp
 have hn0:H.get w.heap.size=none:=s.free (aA _)
 have hn1:H.get (w.heap.size+1)=none:=s.free (by omega)
 have s1:Sim M H W1:=by
  refine⟨fun b o v hm=>?_,fun b o hb=>?_⟩
  ·have hb:=s.mem_lt hm
   have:=s.mem b o v hm
   rw[eo]at this⊢
   rw[hold b hb];exact this
  ·have hlt:=s.lt hb
   have:=s.obj b o hb
   cases o<;>simp only[gY,hold b hlt]at this⊢<;>exact this
 have t1:bC M H w M H W1:=⟨bF.le_refl _,by omega,fun b hb _=>⟨hold b hb,fun _=>rfl⟩,fun b hb=>.inl hb,by rw[<-hW1];exact⟨rfl,rfl⟩⟩
 have eg:=uQ hgood
 refine⟨w.heap.size+1,[{target:=.collected w.heap.size,args:=#[]}],W1,{target:=.fn (.func gf) us.toArray,args:=#[.func (.yield (w.heap.size+1)) #[] #[]]},W1,gf,
  #[.func (.yield (w.heap.size+1)) #[] #[]]++us.toArray,W1,?_,?_,?_,?_,fun h=>by simp[Fence.wide]at h,?_⟩
 ·rw[<-hW1,hrec];exact run_enterLoop_outer _ _ _ _ _
 ·simp only[resolve,hg]
  simp[go_sem]
 ·intro f' hf';trivial
 ·simp[invoke,go_sem,eg]
 ·have hc:=hit (w.heap.size+1) (.loop (rec .ready)) M W1 us (fun a b c h=>by cases h) s1 hL1 hn1 hcap (fun M' H' w' t=>hSx _ _ _ (t1.trans t)) (by rw[hrec];exact hround (w.heap.size+1) w.heap.size fn (by omega))
  refine(yR (m:=n - 1) hc).mono ?_
  rintro e W2 ⟨⟨v,rfl⟩,M2,H2,s2,t2,hK⟩
  have hl2:W2.heap[w.heap.size+1]?=some (.loop (rec .ready)):=by rw[(t2.same _ (by omega) hn1).1];exact hL1
  have hd2:W2.heap[w.heap.size]?=some (.deferred (some [])):=by rw[(t2.same _ (by omega) hn0).1];exact hK1
  have hend:=run_endLoop (P:=P) hl2 (by rw[hrec];simp)
  have hnew:∀b,b<W1.heap.size->H.get b=none->H2.get b=none:=fun b hb hn=>by
   cases h:H2.get b with
   |none=>rfl
   |some o=>
    rcases t2.fresh b (by rw[h];simp)with h'|h'
    ·exact absurd hn h'
    ·omega
  refine⟨none,_,by rw[hend,hrec],?_⟩
  refine hQ w.heap.size M2 H2 _ (aA _) hK (s2.putRec hl2 (fun a b c h=>by cases h) (hnew _ (by omega) hn1) _) ?_ (hnew _ (by omega) hn0) ?_
  ·have t:=t1.trans t2
   refine⟨t.le,by rw[World.putObj_size];exact t.size,fun b hb hn=>?_,t.fresh,t.io.trans (uD _ _ _)⟩
   rw[World.putObj_heap_other (by omega)]
   exact t.same b hb hn
  ·rw[World.putObj_heap_other (by omega)];exact hd2
end
section
variable {P:Program}
theorem od{N n:Nat}{c y:Code}{xc:aT}(h:ee P N c=some xc)(hok:gD P c xc=true){K:Env->aj->Prop}{M:bF}{E:Env}{H:aj}{a:Act}{w:World}{Q:Exit->Act->World->Prop}
(hE:ce N M E a)(s:Sim M H w)(hw:xc.wp P (fun ex E' H'=>ex=.normal/\K E' H') E H)
(hy:∀E' H' M' a' w',K E' H'->ce N M' E' a'->Sim M' H' w'->bC M H w M' H' w'->a'.defers=a.defers->y.wpIn Fence.wide n P Q a' w'):(Code.seq c y).wpIn Fence.wide n P Q a w:=by
 refine wpIn_seq (wpIn_mono (wpIn_wide.2 (aT.sound c h hok hE s hw)) ?_)
 rintro e a' w' ⟨xe,E',H',M',he,⟨rfl,hK⟩,hE',s',t',hd⟩
 cases e<;>simp[dI]at he
 exact hy E' H' M' a' w' hK hE' s' t' hd
theorem qy{n:Nat}{fn:Func}{R:Ending->World->Prop}{a:Act}{w:World}{D:Nat}(hd:a.defers=[{target:=.collected D,args:=#[]}])(hD:w.heap[D]?=some (.deferred (some [])))
{v:Value}(hv:(results fn a.tmps).run P (w.putObj D (.deferred none))=.ok v (w.putObj D (.deferred none)))(hR:R (.returned v) (w.putObj D (.deferred none))):LeavesInM Fence.wide n P fn a.tmps R a.defers .returning w:=by
 rw[hd]
 refine⟨by simp,.inl ⟨_,_,rfl,run_takeDeferred hD,?_⟩⟩
 exact⟨_,hv,hR⟩
theorem cj{N i:Nat}{o:Array Oper}{xc:aT}(h:cM P N o false=some xc):ee P N (.region i o false)=some xc/\gD P (.region i o false) xc=true:=⟨h,rfl⟩
def x_as0:aT:=rg [ef 0 2 (.box 0),mv 1 4 (.const (.slice none 0 0))]
def x_as1:aT:=rg [mv 0 6 1]
def x_as2:aT:=rg [mv 0 5 7]
def zy:aT:=rg [ld 0 8 none 2,mv 1 9 5,⟨2,some 10,none,.lits 1 1 [.string (bl [])] [(0,(1,9))],[]⟩,ef 3 11 (.appendM 1 16 8 10),en 4 (.store 1 2 11)]
def x_as4:aT:=rg [ld 0 12 none 2,mv 1 4 12]
def ml(P:Program)(f:FuncId):Prop:=∃fn i0 i1 i2 i3 i4 b0 b1 o0 o1 o2 o3 o4,P.funcs[f]?=some fn/\fn.ntmps=13/\fn.results=#[.tmp 4]/\
 fn.body=some (.seq (.region i0 o0 false) (.seq (.seq (.region i1 o1 false) (.block b0 (.rangeFunc (.tmp 6) #[7] (.region i2 o2 false) (.block b1 (.region i3 o3 false))))) (.seq (.region i4 o4 false) .ret)))/\
 cM P 13 o0 false=some x_as0/\cM P 13 o1 false=some x_as1/\cM P 13 o2 false=some x_as2/\cM P 13 o3 false=some zy/\cM P 13 o4 false=some x_as4
def Bx(B:Nat)(l:Nat)(xs:List AC)(H:aj):Prop:=H.get l=none/\l≠B/\∃n ss x,xs=[S n]/\H.get B=some (.cells [x])/\bR H 1 (aD ss) x/\ss.length<=2^30
def nR(B:Nat)(l:Nat)(xs:List AC)(H H':aj):Prop:=∀n ss x,xs=[S n]->H.get B=some (.cells [x])->bR H 1 (aD ss) x->
 ∃x',H'.get B=some (.cells [x'])/\bR H' 1 (aD (ss++[n])) x'/\(∀d o,H.get d=some o->d≠B->¬cJ x d->H'.get d=some o)/\∀d,cJ x' d->cJ x d\/H.get d=none
def AsEnd(B:Nat)(L:List ByteArray)(H H':aj):Prop:=∃x',H'.get B=some (.cells [x'])/\bR H' 1 (aD L) x'/\∀d o,H.get d=some o->d≠B->H'.get d=some o
theorem tg{a b:List ByteArray}(h:aD a=aD b):a=b:=by
 induction a generalizing b with
 |nil=>cases b with
  |nil=>rfl
  |cons y b=>simp[aD]at h
 |cons x a ih=>
  cases b with
  |nil=>simp[aD]at h
  |cons y b=>
   simp only[aD,aU,List.cons.injEq,AC.lit.injEq,Value.string.injEq,and_true]at h
   rw[h.1,ih h.2]
theorem bR.rows_eq{H:aj}{sz:Nat}{es es':List (List AC)}{x:AC}(h:bR H sz es x)(h':bR H sz es' x):es=es':=by
 rcases h with⟨rfl,hx⟩|⟨b,n,m,hx,-⟩
 ·rcases h' with⟨rfl,-⟩|⟨b,n,m,hx',-⟩
  ·rfl
  ·rw[hx]at hx';simp at hx'
 ·rcases h' with⟨rfl,hx'⟩|⟨b,n,m,hx',-⟩
  ·rw[hx]at hx';simp at hx'
  ·rw[hx]at hx';simp at hx';exact hx'.2
theorem lV{N:Nat}{M:bF}{xs:List AC}{vs:List Value}(hr:gP M xs vs)(hlen:xs.length<=N):ce N M (lq xs) {tmps:=vs.toArray++ft (N - vs.toArray.size) undef,defers:=[]}:=by
 have hlv:=hr.1
 refine⟨by simp;omega,fun n=>?_⟩
 simp only[lq]
 by_cases c:n<xs.length
 ·have c':n<vs.length:=hr.1▸c
  rw[a6 c]
  have:(vs.toArray++ft (N - vs.toArray.size) undef).getD n undef=vs[n]:=by
   rw[gH,kh (by simpa using c')];simp[c']
  rw[this]
  exact hr.2 n _ _ (a6 c) (a6 c')
 ·rw[fx (by omega)]
  have:(vs.toArray++ft (N - vs.toArray.size) undef).getD n undef=undef:=by
   rw[gH,Array.getElem?_append_right (by simp;omega),Array.getElem?_replicate]
   split<;>rfl
  rw[this]
  exact .tup rfl (by simp)
theorem YC.side{ro:Option Nat}{n l:Nat}{xs:List AC}{M:bF}{Sd Sd':World->Prop}{H:aj}{R:aj->Prop}(h:YC P ro n l xs M Sd H R)(hs:∀w,Sd' w->Sd w):YC P ro n l xs M Sd' H R:=
 fun M' w' vs h1 h2 h3 h4=>h M' w' vs h1 h2 (hs _ h3) h4
theorem zW{M:bF}{f:FuncId}{cap:List AC}{v:Value}(h:Rep M (.fn (.func f) [] cap) v):∃us:List Value,v=.func (.func f) #[] us.toArray/\gP M cap us:=by
 cases h with
 |@fn _ _ _ vs us h1 h2 h3 h4=>
  have:vs=#[]:=by apply Array.eq_empty_of_size_eq_zero;simpa using h1.symm
  subst this
  exact⟨us.toList,by simp,by simpa using h3,fun j x v hx hv=>h4 j x v hx (by simpa using hv)⟩
theorem as_body{E:Env}{H:aj}{B:Nat}{n:ByteArray}{ss:List ByteArray}{x:AC}(e2:E 2=.ptr B 0)(e5:E 5=S n)(hB:H.get B=some (.cells [x]))(hx:bR H 1 (aD ss) x)(hl:ss.length<=2^30){K:Env->aj->Prop}
(h:∀E' H' x',H'.get B=some (.cells [x'])->bR H' 1 (aD (ss++[n])) x'->(∀d o,H.get d=some o->d≠B->¬cJ x d->H'.get d=some o)->(∀d,cJ x' d->cJ x d\/H.get d=none)->K E' H'):
 zy.wp P (fun e E' H'=>e=.normal/\K E' H') E H:=by
 simp only[zy,go_sem,rE,rA,e2,e5,hB,ax,av,ay,a9]
 refine fG (es:=aD ss) (ys:=[[S n]]) (by simp only[go_sem,rE,rA];exact hx) (by simp[go_sem,bg]) (by simp) (by simp[aD];omega) ?_
 intro x' H2 fp hx' hfp hkeep hnew
 simp only[go_sem,rE,rA]at hkeep hnew
 have hBt:¬cJ x B:=fun ht=>by obtain⟨n,m,e⟩:=hx.tok ht;rw[hB]at e;simp at e
 have hB2:H2.get B=some (.cells [x]):=by rw[hkeep B (by rw[hB];simp) hBt];exact hB
 simp only[go_sem,rE,rA,e2,hB2,hx'.one]
 have hrow:aD (ss++[n])=aD ss++[[S n]]:=by simp[aD]
 refine h _ _ x' (ai _ _ _) ?_ (fun d o hd hdB hdt=>?_) hnew
 ·rw[hrow]
  refine hx'.mono fun b hb=>ae _ _ ?_
  rintro rfl
  obtain⟨n,m,e⟩:=hx'.tok hb
  rw[hB2]at e;simp at e
 ·rw[ae _ _ hdB,hkeep d (by rw[hd];simp) hdt];exact hd
theorem t8{f:FuncId}(hA:ml P f){gf:FuncId}{cap:List AC}(hgood:iz P gf=true)(L:List ByteArray)(H:aj)
(hit:∀B,H.get B=none->ItC P gf cap (H.set B (.cells [NIL])) (fun _=>True) (Bx B) (nR B) (AsEnd B L (H.set B (.cells [NIL])))):
 ACalls P f [NIL,.fn (.func gf) [] cap] H fun q H'=>q=.sl 1 none (aD L)/\H'=H:=by
 obtain⟨fn,i0,i1,i2,i3,i4,b0,b1,o0,o1,o2,o3,o4,hf,hN,hres,hb,r0,r1,r2,r3,r4⟩:=hA
 intro M w vs s hr
 refine(callsIn_wide (n:=0)).1 (callsIn_of_wp_marks hf hb trivial ?_ rfl)
 rw[hN]
 have hE:=lV (N:=13) hr (by simp)
 refine od (cj r0).1 (cj r0).2 hE s (K:=fun E' H'=>∃B,H.get B=none/\E' 2=.ptr B 0/\E' 1=.fn (.func gf) [] cap/\H'=H.set B (.cells [NIL])) ?_ ?_
 ·simp only[x_as0,go_sem,rE,rA]
  intro B hB
  exact⟨B,hB,rfl,rfl⟩
 rintro E1 H1 M1 a1 w1 ⟨B,hB,e2,e1,rfl⟩ hE1 s1 t1 hd1
 refine wpIn_seq (od (cj r1).1 (cj r1).2 hE1 s1 (K:=fun E' H'=>E' 2=.ptr B 0/\E' 6=.fn (.func gf) [] cap/\H'=H.set B (.cells [NIL])) ?_ ?_)
 ·simp only[x_as1,go_sem,rE,rA,e2,e1,and_self]
 rintro E2 H2 M2 a2 w2 ⟨f2,f6,rfl⟩ hE2 s2 t2 hd2
 refine wpIn_block ?_
 have hrep:=hE2.rep 6
 rw[f6]at hrep
 obtain⟨us,hus,hcap⟩:=zW hrep
 have hE2':ce 13 M2 E2 {tmps:=a2.tmps,defers:=[]}:=⟨hE2.size,hE2.rep⟩
 refine xA (ps:=[7]) (us:=us) (cap:=cap) hE2 s2 (by simpa[Act.eval]using hus) hgood hcap (hit B hB) (Sx:=fun _=>True) (fun _ _ _ _=>trivial) ?_ ?_
 ·intro l D fid hl ro n xs H' hpre
  refine(pN (Sx:=fun _=>True) (Pre:=Bx B l) (kE:=nR B l) (EA:=fun xs=>(E2.puts [7] xs).put (some 5) ((E2.puts [7] xs) 7)) hE2' (by simp) (fun _ _ _=>trivial) (fun _ _ _ _ _ _ _ _ _ _=>trivial) ?_ ?_ ?_ ro n xs H' hpre)
  ·rintro xs H ⟨h1,-,n,ss,x,rfl,-⟩
   exact⟨rfl,h1⟩
  ·intro n xs H M1 w1 a1 hle hE s hp
   refine lQ r2 hE s ?_
   simp only[x_as2,go_sem,rE,rA,and_self]
  ·rintro n xs H M1 w1 a1 hle hE s ⟨h1,hlB,nm,ss,x,rfl,hBx,hx,hss⟩ - -
   refine wpIn_block (wpIn_mono (lQ r3 hE s (K:=fun e E' H'=>e=.normal/\nR B l [S nm] H H') ?_) ?_)
   ·refine as_body (n:=nm) (ss:=ss) (x:=x) ?_ ?_ hBx hx hss ?_
    ·simp only[Env.puts,go_sem,rE];exact f2
    ·simp only[Env.puts,go_sem,rE]
    ·intro E' H' x' g1 g2 g3 g4 n2 ss2 x2 hn2 hB2 hx2
     simp only[List.cons.injEq,AC.lit.injEq,Value.string.injEq,and_true]at hn2
     subst hn2
     rw[hBx]at hB2
     simp at hB2
     subst hB2
     have:=tg (hx.rows_eq hx2)
     subst this
     exact⟨x',g1,g2,g3,g4⟩
   ·rintro e a' w' ⟨xe,E',H',M',he,⟨rfl,hP⟩,h1,h2,h3,h4⟩
    cases e<;>simp[dI]at he
    exact⟨.normal,E',H',M',rfl,⟨rfl,hP⟩,h1,h2,h3,h4⟩
 ·intro D M3 H3 w3 hD ⟨x',hBx,hx',hkeep⟩ s3 t3 hDn hDr
  have hE3:ce 13 M3 E2 {a2 with defers:={target:=.collected D,args:=#[]}::a2.defers}:=⟨hE2.size,fun n=>(hE2.rep n).mono t3.le⟩
  refine od (cj r4).1 (cj r4).2 hE3 s3 (K:=fun E' H'=>E' 4=x'/\H'=H3) ?_ ?_
  ·simp only[x_as4,go_sem,rE,rA,f2,hBx,a9,and_self]
  rintro E4 H4 M4 a4 w4 ⟨e4,rfl⟩ hE4 s4 t4 hd4
  refine wpIn_ret ?_
  have hDw4:w4.heap[D]?=some (.deferred (some [])):=by rw[(t4.same D (cS.1 hDr).1 hDn).1];exact hDr
  have s5:=s4.putRec hDw4 (fun a b c h=>by cases h) hDn (.deferred none)
  obtain⟨v,hv,hrv⟩:=jd (P:=P) (fn:=fn) (rs:=[.slot 4]) (by rw[hres];rfl) hE4 s5 (q:=E4 4) rfl
  have hdef:a4.defers=[{target:=.collected D,args:=#[]}]:=by rw[hd4];simp only[hd2,hd1]
  refine qy (a:=a4) hdef hDw4 hv ?_
  have t13:bC M H w M4 H4 w4:=(((t1.trans t2).trans t3).trans t4)
  have hsub:H.sub H4:=fun b o hb'=>by
   have hbB:b≠B:=by rintro rfl;rw[hB]at hb';simp at hb'
   exact hkeep b o (by rw[ae _ _ hbB];exact hb') hbB
  refine⟨.sl 1 none (aD L),v,M4,H,rfl,?_,s5.sub hsub,?_,rfl,rfl⟩
  ·rw[e4]at hrv
   exact hx'.le _ _ hrv
  ·have t:=t13.weaken hsub
   refine⟨t.le,by rw[World.putObj_size];exact t.size,fun b hb' hn=>?_,t.fresh,t.io.trans (uD _ _ _)⟩
   have:w.heap.size<=w2.heap.size:=(t1.trans t2).size
   rw[World.putObj_heap_other (by omega)]
   exact t.same b hb' hn
end
section
variable {P:Program}
def zx:aT:=rg [ld 0 4 none 1,pu 1 5 (.lenSl 4),pu 2 6 (.bin .sub 5 (ci 1)),mv 3 3 6]
def x_bk1:aT:=rg [mv 0 7 3,pu 1 8 (.bin .geq 7 (ci 0))]
def x_bk2:aT:=rg [mv 0 9 3,pu 1 10 (.bin .sub 9 (ci 1)),mv 2 3 10]
def x_bk3:aT:=rg ([mv 0 11 0,mv 1 12 3,ld 2 13 none 1,mv 3 14 3,ia 4 15 1 13 14,ld 5 16 none 15]++ef 6 17 (.callX .clos [11,12,16])::[pu 7 18 (.not 17)])
def l8(P:Program)(f:FuncId):Prop:=∃fn i0 i1 i2 i3 b0 b1 o0 o1 o2 o3,P.funcs[f]?=some fn/\fn.ntmps=19/\fn.results=#[]/\
 fn.body=some (.seq (.region i0 o0 false) (.block b0 (.loop (.seq (.seq (.region i1 o1 false) (.cond (.tmp 8) .skip (.exit b0))) (.seq (.block b1 (.seq (.region i3 o3 false) (.cond (.tmp 18) .ret .skip))) (.region i2 o2 false))))))/\
 cM P 19 o0 false=some zx/\cM P 19 o1 false=some x_bk1/\cM P 19 o2 false=some x_bk2/\cM P 19 o3 false=some x_bk3
theorem YC.later{ro:Option Nat}{n l:Nat}{xs:List AC}{M M':bF}{Sd:World->Prop}{H:aj}{R:aj->Prop}(h:YC P ro n l xs M Sd H R)(hm:M.le M'):YC P ro n l xs M' Sd H R:=
 fun M2 w' vs h1 h2 h3 h4=>h M2 w' vs (bF.le_trans hm h1) h2 h3 h4
def iv:Value->Int|.int _ i=>i|_=>0
theorem vg{f:FuncId}(hB:l8 P f){bs:Nat}{x:AC}{L:List ByteArray}{H:aj}{Sx:World->Prop}(hx:bR H 1 (aD L) x)(hL:L.length<=2^30){Pre:Nat->List AC->aj->Prop}{kE:Nat->List AC->aj->aj->Prop}
{J:Nat->List ByteArray->aj->Prop}(h0:∀l,H.get l=none->J l [] H)(hJx:∀l pre H',J l pre H'->H'.get bs=some (.cells [x]))(hPre:∀l pre n i H',J l pre H'->pre.length<L.length->Pre l [I i,S n] H')(hPost:∀l pre n i H' H'',J l pre H'->pre.length<L.length->kE l [I i,S n] H' H''->J l (pre++[n]) H'')
(hl:∀l pre H',J l pre H'->H'.get l=none):ItC P f [.ptr bs 0] H Sx Pre kE (fun H'=>∃l,J l L.reverse H'):=by
 obtain⟨fn,i0,i1,i2,i3,b0,b1,o0,o1,o2,o3,hf,hN,hres,hb,r0,r1,r2,r3⟩:=hB
 intro l o M w us hnc s hlo hln hcap hSx hY
 refine callsIn_of_wp_marks hf hb trivial ?_ rfl
 rw[hN]
 have hr:gP M [.lit (.func (.yield l) #[] #[]),.ptr bs 0] ((#[.func (.yield l) #[] #[]]++us.toArray:Array Value).toList):=by
  refine⟨by simp[<-hcap.1],fun j y v hy hv=>?_⟩
  match j,hy,hv with
  |0,hy,hv=>simp at hy hv;subst hy hv;exact .lit trivial
  |1,hy,hv=>simp at hy;subst hy;exact hcap.2 0 _ _ rfl (by simpa using hv)
  |j+2,hy,hv=>simp at hy
 have hE:=lV (N:=19) hr (by simp)
 simp only[Array.toArray_toList]at hE
 have hrows:x=NIL/\L=[]\/∃tok,x=.sl 1 tok (aD L):=by
  rcases hx with⟨e1,e2⟩|⟨b,n,m,e,-⟩
  ·refine .inl ⟨e2,?_⟩
   cases L with
   |nil=>rfl
   |cons a l=>simp[aD]at e1
  ·exact .inr ⟨_,e⟩
 have hlen:(aD L).length=L.length:=by simp[aD]
 have hJ0:=h0 l hln
 refine od (cj r0).1 (cj r0).2 hE s (K:=fun E' H'=>E' 0=.lit (.func (.yield l) #[] #[])/\E' 1=.ptr bs 0/\E' 3=I ((L.length:Int) - 1)/\H'=H) ?_ ?_
 ·have g:=hJx l [] H hJ0
  have w1:=aP (n:=(L.length:Int) - 1) (by omega) (by omega)
  rcases hrows with⟨rfl,rfl⟩|⟨tok,rfl⟩
  ·simp only[zx,go_sem,rE,rA,g,a9]
   rfl
  ·simp only[zx,go_sem,rE,rA,g,a9,hlen,w1]
 rintro E1 H1 M1 a1 w1 ⟨e0,e1,e3,rfl⟩ hE1 s1 t1 hd1
 have hSd:∀{M' H' w'},bC M H1 w M' H' w'->w'.heap[l]?=some o/\Sx w':=fun t=>⟨by rw[(t.same l (cS.1 hlo).1 hln).1];exact hlo,hSx _ _ _ t⟩
 refine wpIn_block (wpIn_loop (fun a' w'=>∃k E' H' M',k<=L.length/\E' 0=.lit (.func (.yield l) #[] #[])/\E' 1=.ptr bs 0/\E' 3=I ((k:Int) - 1)/\J l (L.drop k).reverse H'/\ce 19 M' E' a'/\Sim M' H' w'/\bC M H1 w M' H' w'/\a'.defers=[])
  (fun a' _=>(iv (a'.tmps.getD 3 undef)+1).toNat) ⟨L.length,E1,H1,M1,aA _,e0,e1,e3,by rw[kl];exact hJ0,hE1,s1,t1,hd1⟩ ?_)
 have hle:=t1.le
 have t1':=t1
 clear hE1 s1 t1 hd1 e0 e1 e3
 rintro a2 w2 ⟨k,E2,H2,M2,hk,e0,e1,e3,hJ,hE2,s2,t2,hd2⟩
 have hmu:(iv (a2.tmps.getD 3 undef)+1).toNat=k:=by
  have:=hE2.rep 3
  rw[e3]at this
  rw[ku this]
  simp[iv]
 rw[hmu]
 have g:=hJx l _ H2 hJ
 refine wpIn_seq (wpIn_seq (wpIn_mono (lQ (ro:=none) r1 hE2 s2 (K:=fun e E' H'=>e=.normal/\E' 0=.lit (.func (.yield l) #[] #[])/\E' 1=.ptr bs 0/\E' 3=I ((k:Int) - 1)/\E' 8=B (decide (0<k))/\H'=H2) ?_) ?_))
 ·simp only[x_bk1,go_sem,rE,rA,e0,e1,e3]
  have:decide ((k:Int) - 1>=0)=decide (0<k):=by
   rw[aX,decide_eq_true_eq,decide_eq_true_eq];omega
  simp[this]
  omega
 rintro e a3 w3 ⟨xe,E3,H3,M3,he,⟨rfl,f0,f1,f3,f8,rfl⟩,hE3,s3,t3,hd3⟩
 cases e<;>simp[dI]at he
 have hr8:=hE3.rep 8
 rw[f8]at hr8
 have hev:a3.eval (.tmp 8)=.bool (decide (0<k)):=by rw[<-ku hr8];rfl
 by_cases hk0:0<k
 ·refine wpIn_cond_true (by rw[hev];simp[hk0]) (wpIn_skip ?_)
  obtain⟨k,rfl⟩:∃j,k=j+1:=⟨k - 1,by omega⟩
  have hkl:k<L.length:=by omega
  rcases hrows with⟨-,rfl⟩|⟨tok,rfl⟩
  ·simp at hkl
  have hget:(aD L)[k]?=some [S L[k]]:=by simp[aD,hkl]
  have hkk:(((k+1:Nat):Int) - 1)=(k:Int):=by omega
  rw[hkk]at f3
  have hplen:(L.drop (k+1)).reverse.length<L.length:=by rw[List.length_reverse,eV];omega
  have hYC:=hY none 0 [I k,S L[k]] H3 (hPre l _ L[k] k H3 hJ hplen)
  refine wpIn_seq (wpIn_block (wpIn_seq (wpIn_mono (ul (ro:=none) (Sd:=fun w=>w.heap[l]?=some o/\Sx w) (K:=fun e E' H'=>e=.normal/\E' 0=.lit (.func (.yield l) #[] #[])/\E' 1=.ptr bs 0/\E' 3=I k/\E' 18=B false/\kE l [I k,S L[k]] H3 H') r3 hE3 s3 (by simp) (fun M' H' w' t=>hSd ((t2.trans t3).trans t)) ?_) ?_)))
  ·simp only[go_sem,rE,rA,f0,f1,f3,g,hget,a9]
   exact⟨l,[I k,S L[k]],_,rfl,hYC.later (t2.trans t3).le,fun _ h=>h⟩
  rintro e a4 w4 ⟨xe,E4,H4,M4,he,⟨rfl,q0,q1,q3,q18,hpost⟩,hE4,s4,t4,hd4⟩
  cases e<;>simp[dI]at he
  have hr18:=hE4.rep 18
  rw[q18]at hr18
  refine wpIn_cond_false (by rw[<-ku hr18];rfl) (wpIn_skip ?_)
  refine wpIn_mono (lQ (ro:=none) r2 hE4 s4 (K:=fun e E' H'=>e=.normal/\E' 0=.lit (.func (.yield l) #[] #[])/\E' 1=.ptr bs 0/\E' 3=I ((k:Int) - 1)/\H'=H4) ?_) ?_
  ·have w1:=aP (n:=(k:Int) - 1) (by omega) (by omega)
   simp only[x_bk2,go_sem,rE,rA,q0,q1,q3,w1,and_self]
  rintro e a5 w5 ⟨xe,E5,H5,M5,he,⟨rfl,p0,p1,p3,rfl⟩,hE5,s5,t5,hd5⟩
  cases e<;>simp[dI]at he
  have hdrop:(L.drop (k+1)).reverse++[L[k]]=(L.drop k).reverse:=by rw[bO hkl,List.reverse_cons]
  refine⟨⟨k,E5,H5,M5,by omega,p0,p1,p3,?_,hE5,s5,(((t2.trans t3).trans t4).trans t5),?_⟩,?_⟩
  ·rw[<-hdrop];exact hPost l _ _ _ _ _ hJ hplen hpost
  ·rw[hd5,hd4,hd3,hd2]
  ·have:=hE5.rep 3
   rw[p3]at this
   rw[ku this]
   simp[iv]
 ·refine wpIn_cond_false (by rw[hev];simp[hk0]) (wpIn_exit ?_)
  have:k=0:=by omega
  subst this
  simp only[Exit.then,Exit.inBlock,if_true]
  obtain⟨v,hv,hrv⟩:=jd (P:=P) (fn:=fn) (rs:=[]) (by rw[hres];rfl) hE3 s3 (q:=.tup []) rfl
  have hdef:a3.defers=[]:=by rw[hd3,hd2]
  show LeavesInM _ _ _ _ _ _ a3.defers .returning w3
  rw[hdef]
  refine⟨v,hv,⟨v,rfl⟩,M3,H3,s3,t2.trans t3,l,?_⟩
  rw[gZ]at hJ
  exact hJ
end
theorem pm(ns:List ByteArray)(n:ByteArray):lJ (cD ns) n (I 1)=cD (n::ns):=by
 funext k
 by_cases hk:k=n
 ·subst hk;rw[iB];simp[cD,dT]
 ·rw[kn _ _ hk]
  have:eqB n k=false:=cC.2 (Ne.symm hk)
  simp[cD,this]
theorem ww(ns:List ByteArray)(n:ByteArray):cD (n::n::ns)=cD (n::ns):=by
 funext k
 simp only[cD,List.any_cons]
 by_cases h:eqB n k=true<;>simp[h]
theorem qx(ns:List ByteArray)(n:ByteArray):iC (.lit (.int .i64 0)) false (cD ns n)=I (if ns.any (fun m=>eqB m n)then 1 else 0):=by
 unfold cD
 cases ns.any fun m=>eqB m n<;>simp[iC]
def ken1(F:Ids):aT:=.loop (.seq (rg [pu 0 41 (.bin .lss 40 39)]) (.seq (.cond 41 .skip (.exit 2)) (.seq (.block 3 (.seq (rg [ia 0 42 2 38 40,ld 1 43 (some 2) 42,ef 2 10 (.alloc [.string (bl []),.slice none 0 0]),en 3 (.store 2 10 43)]) (.seq (rg [ld 0 44 (some 2) 10,ld 1 45 (some 2) 2,ca 2 46 210 [44,45],mv 3 47 46,gp 4 48 47 false (.move 4),gp 5 49 47 false (.fieldAddr 0 10),gl 6 50 47 false none 49,⟨7,some 51,some (47,false),.eff (.callX (.lookup (.lit (.int .i64 0)) false) [48,50]),[]⟩,gp 8 52 47 false (.bin .gtr 51 (ci 0)),pu 9 53 (.pick 47 ct 52)]) (.cond 53 (rg [mv 0 54 4,mv 1 55 7,en 2 (.callX .mapSet [54,55,ci 1])]) .skip)))) (rg [pu 0 56 (.bin .add 40 (ci 1)),mv 1 40 56]))))
def tR(F:Ids):aT:=.seq (rg [ld 0 14 none 1,nc 1 15 14,fa 2 16 1 15,ld 3 17 none 16,pu 4 18 (.lenSl 17),mv 5 19 (ci 0)]) (.block 0 (.loop (.seq (rg [pu 0 20 (.bin .lss 19 18)]) (.seq (.cond 20 .skip (.exit 0)) (.seq (.block 1 (.seq (rg [ia 0 21 1 17 19,ld 1 22 none 21,mv 2 7 22]) (.seq (rg [ld 0 23 none 1,nc 1 24 23,fa 2 25 2 24,ld 3 26 none 25,mv 4 27 7,ef 5 28 (.callX (.lookup (.agg [.lit (.slice none 0 0),.lit (.bool false),.lit (.bool false),.lit (.bool false),.lit (.bool false),.lit (.slice none 0 0)]) false) [26,27]),ef 6 8 (.alloc [.slice none 0 0,.bool false,.bool false,.bool false,.bool false,.slice none 0 0]),en 7 (.store 6 8 28)]) (.seq (.seq (rg [fa 0 29 3 8,ld 1 30 none 29,pu 2 31 (.not 30),mv 3 32 31,gp 4 33 32 false (.fieldAddr 2 8),gl 5 34 32 false none 33,gp 6 35 32 false (.not 34),pu 7 36 (.pick 32 ct 35)]) (.cond 36 (.exit 1) .skip)) (.seq (.seq (rg [fa 0 37 5 8,ld 1 38 none 37,pu 2 39 (.lenSl 38),mv 3 40 (ci 0)]) (.block 2 (ken1 F))) (.seq (rg [mv 0 57 4,mv 1 58 7,ef 2 59 (.callX (.lookup (.lit (.int .i64 0)) false) [57,58]),pu 3 60 (.bin .gtr 59 (ci 0))]) (.cond 60 (rg [mv 0 61 5,mv 1 62 7,⟨2,some 63,none,.lits 1 1 [.string (bl [])] [(0,(1,62))],[]⟩,ef 3 64 (.appendM 1 16 61 63),mv 4 5 64]) .skip))))))) (rg [pu 0 65 (.bin .add 19 (ci 1)),mv 1 19 65]))))))
section
variable {P:Program}{F:Ids}{er:bK}
noncomputable def jV(p:Pl)(Es:List ByteArray)(qs:List Pl):Bool:=qs.any fun q=>q.meet p||Es.any fun m=>eqB m q.name
theorem ken1_wp(L:Lib P F){K:cE->Env->aj->Prop}{E:Env}{H:aj}{p:Pl}{qs:List Pl}{nm:ByteArray}{Es:List ByteArray}{mo c:Nat}(hp:p.path.length<=2^30)(hq:∀q∈qs,q.path.length<=2^30)(hql:qs.length<=2^30)
(e2:E 2=.ptr c 0)(e4:E 4=.mp mo)(e7:E 7=S nm)(e38:E 38=.sl 2 none (qs.map Pl.enc))(e39:E 39=I qs.length)(e40:E 40=I 0)(gc:H.get c=some (.cells [S p.name,au p.path]))(gm:H.get mo=some (.map (cD Es)))
(hK:∀E' H',E' 0=E 0->E' 1=E 1->E' 2=E 2->E' 3=E 3->E' 4=E 4->E' 5=E 5->E' 7=E 7->E' 17=E 17->E' 18=E 18->E' 19=E 19->H'.get mo=some (.map (cD (if jV p Es qs then nm::Es else Es)))->
  (∀d o,H.get d=some o->d≠mo->H'.get d=some o)->K (.exit 2) E' H'):(ken1 F).wp P K E H:=by
 unfold ken1
 have dcm:c≠mo:=by rintro rfl;rw[gc]at gm;simp at gm
 refine aV qs.length (fun j E' H'=>(E' 0=E 0/\E' 1=E 1/\E' 2=.ptr c 0/\E' 3=E 3/\E' 4=.mp mo/\E' 5=E 5/\E' 7=S nm/\E' 17=E 17/\E' 18=E 18/\E' 19=E 19)/\E' 38=.sl 2 none (qs.map Pl.enc)/\E' 39=I qs.length/\E' 40=I j/\
  H'.get mo=some (.map (cD (if jV p Es (qs.take j)then nm::Es else Es)))/\∀d o,H.get d=some o->d≠mo->H'.get d=some o)
  ⟨⟨rfl,rfl,e2,rfl,e4,rfl,e7,rfl,rfl,rfl⟩,e38,e39,e40,by simp only[List.take_zero,jV,List.any_nil,aq,if_false];exact gm,fun _ _ h _=>h⟩ ?_
 rintro j E' H' hj ⟨⟨q0,q1,q2,q3,q4,q5,q7,q17,q18,q19⟩,q38,q39,q40,gmo,kk⟩
 simp only[go_sem,rE,rA,rL,q39,q40]
 refine aH (fun hlt=>?_) (fun hge=>?_)
 ·have hj1:j<qs.length:=by omega
  have w1:=aP (n:=(j:Int)+1) (by omega) (by omega)
  have hg:=oi (ps:=qs) (k:=j) hj1
  have gc':=kk c _ gc dcm
  have hmt:=xK L qs[j] p (cg (hq _ (az hj1)) (by decide)) (cg hp (by decide))
  rw[Pl.enc,Pl.enc]at hmt
  have hsnoc:jV p Es (qs.take (j+1))=(jV p Es (qs.take j)||(qs[j].meet p||Es.any fun m=>eqB m qs[j].name)):=by
   unfold jV
   rw[aC hj1,fY]
   simp
  simp only[go_sem,rE,rA,rL,q38,q40,hg]
  intro b10 hb10
  have d10:=al gc' hb10
  have d10m:=al gmo hb10
  have kk10:∀(o':cz) d o,H.get d=some o->d≠mo->(H'.set b10 o').get d=some o:=fun o' d o hd hdm=>by
   have:=kk d o hd hdm
   rw[ae _ _ (al this hb10)];exact this
  simp only[go_sem,rE,rA,rL,q2,gc',d10]
  refine am hmt rfl ?_
  have gmb:∀o',(H'.set b10 o').get mo=some (.map (cD (if jV p Es (qs.take j)then nm::Es else Es))):=fun o'=>(ae _ _ d10m).trans gmo
  have hset:cD (nm::if jV p Es (qs.take j)then nm::Es else Es)=cD (nm::Es):=by
   cases jV p Es (qs.take j)
   ·rfl
   ·exact ww Es nm
  have h10:decide ((1:Int)>0)=true:=by decide
  have h00:decide ((0:Int)>0)=false:=by decide
  cases hm:qs[j].meet p
  ·simp only[go_sem,rE,rA,rL,q4]
   refine fT (k:=qs[j].name) (g:=cD (if jV p Es (qs.take j)then nm::Es else Es)) (by simp only[go_sem,rE,aU,bB,q4]) (gmb _) trivial ?_
   rw[qx]
   by_cases hx:((if jV p Es (qs.take j)then nm::Es else Es).any fun m=>eqB m qs[j].name)=true
   ·have hh:jV p Es (qs.take (j+1))=true:=by
     rw[hsnoc,hm]
     cases hc:jV p Es (qs.take j)
     ·rw[hc]at hx
      simpa using hx
     ·rfl
    rw[hh,if_pos rfl]
    simp only[hx,if_true]
    simp only[go_sem,rE,rA,rL,q4,q7,h10]
    refine jP (k:=nm) (v:=I 1) (v':=I 1) (g:=cD (if jV p Es (qs.take j)then nm::Es else Es)) (by simp only[go_sem,rE,aU,bB,q4,q7]) (.refl _) (gmb _) trivial ?_
    rw[pm,hset]
    simp only[go_sem,rE,rA,rL,q40,w1]
    exact⟨hj1,_,aj.sub_refl _,⟨q0,q1,q2,q3,q4,q5,q7,q17,q18,q19⟩,q38,q39,rfl,ai _ _ _,fun d o hd hdm=>by rw[ae _ _ hdm];exact kk10 _ d o hd hdm⟩
   ·have hh:jV p Es (qs.take (j+1))=jV p Es (qs.take j):=by
     rw[hsnoc,hm]
     cases hc:jV p Es (qs.take j)
     ·rw[hc]at hx
      simpa using hx
     ·rfl
    rw[hh]
    have hx':((if jV p Es (qs.take j)then nm::Es else Es).any fun m=>eqB m qs[j].name)=false:=by simpa using hx
    simp only[hx',aq,if_false]
    simp only[go_sem,rE,rA,rL,q4,q7,q40,w1,h00]
    exact⟨hj1,_,aj.sub_refl _,⟨q0,q1,q2,q3,q5,q17,q18,q19⟩,q38,q39,rfl,gmb _,kk10 _⟩
  ·have hh:jV p Es (qs.take (j+1))=true:=by rw[hsnoc,hm];simp
   rw[hh,if_pos rfl]
   simp only[go_sem,rE,rA,rL,q4,q7]
   refine jP (k:=nm) (v:=I 1) (v':=I 1) (g:=cD (if jV p Es (qs.take j)then nm::Es else Es)) (by simp only[go_sem,rE,aU,bB,q4,q7]) (.refl _) (gmb _) trivial ?_
   rw[pm,hset]
   simp only[go_sem,rE,rA,rL,q40,w1]
   exact⟨hj1,_,aj.sub_refl _,⟨q0,q1,q2,q3,q4,q5,q7,q17,q18,q19⟩,q38,q39,rfl,ai _ _ _,fun d o hd hdm=>by rw[ae _ _ hdm];exact kk10 _ d o hd hdm⟩
 ·have hjj:j=qs.length:=by omega
  subst hjj
  rw[aW]at gmo
  simp only[go_sem,rE,rA,rL]
  exact hK _ _ (by simp only[go_sem,rE,q0]) (by simp only[go_sem,rE,q1]) (by simp only[go_sem,rE,q2,e2]) (by simp only[go_sem,rE,q3]) (by simp only[go_sem,rE,q4,e4]) (by simp only[go_sem,rE,q5]) (by simp only[go_sem,rE,q7,e7]) (by simp only[go_sem,rE,q17]) (by simp only[go_sem,rE,q18]) (by simp only[go_sem,rE,q19]) gmo kk
end
section
variable {P:Program}{F:Ids}{er:bK}
theorem ea3_wp(L:Lib P F){K:Env->aj->Prop}{E:Env}{H:aj}{s:Nat}{v:Sc}{ORD HELD:AC}{m1 m2 b c mo:Nat}{p:Pl}(hE:cw F er H s v ORD HELD m1 m2)(hnd:(v.vars.map (·.name)).Nodup)(hvl:v.vars.length<=2^30)(hp:p.path.length<=2^30)
(hqp:∀x∈v.vars,∀q∈x.loans,q.path.length<=2^30)(hql:∀x∈v.vars,x.loans.length<=2^30)(gb:H.get b=some (.cells [.ptr s 0]))(gc:H.get c=some (.cells [S p.name,au p.path]))(gm:H.get mo=some (.map fun _=>none))(hms:mo≠m1)
(e1:E 1=.ptr b 0)(e2:E 2=.ptr c 0)(e4:E 4=.mp mo)(e5:E 5=NIL)
(hK:∀E' H',E' 0=E 0->E' 3=E 3->bR H' 1 (aD (cn v.vars p).reverse) (E' 5)->(∀d o,H.get d=some o->d≠mo->H'.get d=some o)->(∀d,cJ (E' 5) d->H.get d=none)->K E' H'):
 (tR F).wp P (fun ex E' H'=>ex=.normal/\K E' H') E H:=by
 have ho:=hE.obj
 simp only[ScO]at ho
 have hlen:(aD (v.vars.map (·.name))).length=v.vars.length:=by simp[aD]
 rcases hE.ord with⟨hnil,hO⟩|⟨ob,on,om,hO,hob⟩
 ·have hv:v.vars=[]:=by rw[hnil]at hlen;exact bn hlen.symm
  subst hO
  simp only[tR,go_sem,rE,rA,rL,e1,gb,ho,a9]
  refine aV 0 (fun k E' H'=>E' 0=E 0/\E' 3=E 3/\E' 5=NIL/\E' 18=I 0/\E' 19=I k/\H'=H) ⟨rfl,rfl,e5,rfl,rfl,rfl⟩ ?_
  rintro k E' H' hk ⟨q0,q3,q5,q18,q19,rfl⟩
  have:k=0:=by omega
  subst this
  simp only[go_sem,rE,rA,rL,q18,q19,dg,Int.lt_irrefl]
  refine hK _ _ (by simp only[go_sem,rE,q0]) (by simp only[go_sem,rE,q3]) ?_ (fun d o hd _=>hd) ?_
  ·simp only[go_sem,rE,q5,hv];exact .inl ⟨rfl,rfl⟩
  ·simp only[go_sem,rE,q5];rintro d ⟨_,_,_,_,e⟩;simp at e
 ·subst hO
  have hms':∀d o,H.get d=some o->(∀f,o≠.map f)->d≠mo:=fun d o hd hn=>by rintro rfl;rw[gm]at hd;simp at hd;exact hn _ hd.symm
  have dbm:=hms' b _ gb (by simp)
  have dcm:=hms' c _ gc (by simp)
  have dsm:=hms' s _ ho (by simp)
  simp only[tR,go_sem,rE,rA,rL,e1,gb,ho,a9,hlen]
  refine aV v.vars.length (fun k E' H'=>(E' 0=E 0/\E' 3=E 3)/\E' 1=.ptr b 0/\E' 2=.ptr c 0/\E' 4=.mp mo/\E' 17=.sl 1 (some (ob,on,om)) (aD (v.vars.map (·.name)))/\E' 18=I v.vars.length/\E' 19=I k/\
   bR H' 1 (aD (cn (v.vars.take k) p).reverse) (E' 5)/\H'.get mo=some (.map (cD (cn (v.vars.take k) p)))/\(∀d o,H.get d=some o->d≠mo->H'.get d=some o)/\∀d,cJ (E' 5) d->H.get d=none)
   ⟨⟨rfl,rfl⟩,e1,e2,e4,rfl,rfl,rfl,by simp only[go_sem,rE,e5];exact .inl ⟨rfl,rfl⟩,by rw[gm];simp only[List.take_zero,cn,List.foldl_nil,qI],fun d o hd _=>hd,by simp only[go_sem,rE,e5];rintro d ⟨_,_,_,_,e⟩;simp at e⟩ ?_
  rintro k E' H' hk ⟨⟨q0,q3⟩,q1,q2,q4,q17,q18,q19,qa,qm,kk,kt⟩
  simp only[go_sem,rE,rA,rL,q18,q19]
  refine aH (fun hlt=>?_) (fun hge=>?_)
  ·have hk1:k<v.vars.length:=by omega
   have w1:=aP (n:=(k:Int)+1) (by omega) (by omega)
   have hg:=m8 (ns:=v.vars.map (·.name)) (k:=k) (by simpa using hk1)
   rw[iO]at hg
   have hnm:di v.vars v.vars[k].name=some (v.vars[k].ent (fz v.vars v.vars[k].name)):=by simp only[di,xG hnd hk1,bW]
   have hsn:=nF (v.vars.take k) v.vars[k] p
   rw[<-aC hk1]at hsn
   have hbg:=kk b _ gb dbm
   have hsg:=kk s _ ho dsm
   have hcg:=kk c _ gc dcm
   have hmg:=kk m1 _ hE.names (Ne.symm hms)
   simp only[go_sem,rE,rA,rL,q1,q17,q19,hg,hbg,hsg,a9]
   refine fT (k:=v.vars[k].name) (g:=di v.vars) rfl hmg trivial ?_
   simp only[hnm,iC,aq,if_false,Vr.ent]
   simp only[go_sem,rE,rA,rL]
   intro b8 hb8
   have kk8:∀(o':cz) d o,H.get d=some o->d≠mo->(H'.set b8 o').get d=some o:=fun o' d o hd hdm=>by
    have:=kk d o hd hdm
    rw[ae _ _ (al this hb8)];exact this
   have d8m:=al qm hb8
   have qm8:∀o',(H'.set b8 o').get mo=some (.map (cD (cn (v.vars.take k) p))):=fun o'=>(ae _ _ d8m).trans qm
   have qa8:∀o',bR (H'.set b8 o') 1 (aD (cn (v.vars.take k) p).reverse) (E' 5):=fun o'=>qa.new hb8 o'
   have hnin:v.vars[k].name∉cn (v.vars.take k) p:=fun hm=>by
    obtain⟨i,hi,e⟩:=px _ p hm
    have hik:i<k:=by rw[bI]at hi;omega
    have hi2:i<v.vars.length:=by omega
    rw[List.getElem_take]at e
    have:=uv hnd hi2 hk1 e
    omega
   cases hdd:v.vars[k].dead
   ·cases hll:v.vars[k].lent
    ·have hsame:cn (v.vars.take (k+1)) p=cn (v.vars.take k) p:=by rw[hsn,hdd,hll];rfl
     simp only[go_sem,rE,rA,rL,q19,w1]
     exact⟨hk1,_,aj.sub_refl _,⟨q0,q3⟩,q1,q2,q4,q17,q18,rfl,by rw[hsame];exact qa8 _,by rw[hsame];exact qm8 _,kk8 _,kt⟩
    ·have hcg8:=kk8 (.cells [.sl 1 none (Ty.encs v.vars[k].type.kids),B v.vars[k].param,B true,B (!false),B (fz v.vars v.vars[k].name),.sl 2 none (v.vars[k].loans.map Pl.enc)]) c _ gc dcm
     have hxm:v.vars[k]∈v.vars:=az hk1
     simp only[go_sem,rE,rA,rL,ao]
     refine ken1_wp L (p:=p) (qs:=v.vars[k].loans) (nm:=v.vars[k].name) (Es:=cn (v.vars.take k) p) (mo:=mo) (c:=c) hp (hqp _ hxm) (hql _ hxm) (by simp only[go_sem,rE,q2]) (by simp only[go_sem,rE,q4]) (by simp only[go_sem,rE]) (by simp only[go_sem,rE]) (by simp only[go_sem,rE,ao]) (by simp only[go_sem,rE]) hcg8 (qm8 _) ?_
     intro E2 H2 f0 f1 f2 f3 f4 f5 f7 f17 f18 f19 gm2 kk2
     simp only[go_sem,rE,rA]at f0 f1 f2 f3 f4 f5 f7 f17 f18 f19
     have hh:jV p (cn (v.vars.take k) p) v.vars[k].loans=(v.vars[k].loans.any fun q=>q.meet p||(cn (v.vars.take k) p).any fun m=>eqB m q.name):=rfl
     rw[<-hh]at hsn
     have kkH:∀d o,H.get d=some o->d≠mo->H2.get d=some o:=fun d o hd hdm=>kk2 d o (kk8 _ d o hd hdm) hdm
     have qa2:bR H2 1 (aD (cn (v.vars.take k) p).reverse) (E' 5):=(qa8 (.cells [.sl 1 none (Ty.encs v.vars[k].type.kids),B v.vars[k].param,B true,B (!false),B (fz v.vars v.vars[k].name),.sl 2 none (v.vars[k].loans.map Pl.enc)])).mono fun d hd=>by
      obtain⟨n,m,e⟩:=(qa8 (.cells [.sl 1 none (Ty.encs v.vars[k].type.kids),B v.vars[k].param,B true,B (!false),B (fz v.vars v.vars[k].name),.sl 2 none (v.vars[k].loans.map Pl.enc)])).tok hd
      have hdm:d≠mo:=by rintro rfl;rw[qm8]at e;simp at e
      rw[e];exact kk2 d _ e hdm
     simp only[go_sem,rE,rA,rL,f4,f7,q4]
     refine fT (k:=v.vars[k].name) (g:=cD (if jV p (cn (v.vars.take k) p) v.vars[k].loans then v.vars[k].name::cn (v.vars.take k) p else cn (v.vars.take k) p)) (by simp only[go_sem,rE,aU,bB,f4,f7,q4]) gm2 trivial ?_
     rw[qx]
     cases hhit:jV p (cn (v.vars.take k) p) v.vars[k].loans
     ·have hsame:cn (v.vars.take (k+1)) p=cn (v.vars.take k) p:=by rw[hsn,hdd,hll,hhit];rfl
      rw[hhit]at gm2
      have hany:((cn (v.vars.take k) p).any fun m=>eqB m v.vars[k].name)=false:=by
       cases h:(cn (v.vars.take k) p).any fun m=>eqB m v.vars[k].name with
       |false=>rfl
       |true=>
        obtain⟨m,hm,he⟩:=iP.1 h
        exact absurd (cN.1 he▸hm) hnin
      have h00:decide ((0:Int)>0)=false:=by decide
      simp only[aq,if_false,hany]
      simp only[go_sem,rE,rA,rL,h00,f19,q19,w1]
      refine⟨hk1,H2,aj.sub_refl _,⟨f0.trans q0,f3.trans q3⟩,f1.trans q1,f2.trans q2,f4.trans q4,f17.trans q17,f18.trans q18,rfl,?_,?_,kkH,?_⟩
      ·rw[hsame,f5];exact qa2
      ·rw[hsame];exact gm2
      ·rw[f5];exact kt
     ·have hsame:cn (v.vars.take (k+1)) p=v.vars[k].name::cn (v.vars.take k) p:=by rw[hsn,hdd,hll,hhit];rfl
      rw[hhit,if_pos rfl]at gm2
      have h10:decide ((1:Int)>0)=true:=by decide
      simp only[if_true,List.any_cons,dT,dV]
      simp only[go_sem,rE,rA,rL,h10,f5,f7,ax,av,ay]
      have hel:(cn (v.vars.take k) p).length<=v.vars.length:=by
       have:=(iY p (v.vars.take k) [] (v.vars.map (·.name)) (by simp) fun x hx=>aZ.2 ⟨x,cP hx,rfl⟩).2
       rw[bI]at this
       simp only[bM,bY]at this
       exact cg this (Nat.min_le_right _ _)
      refine fG (es:=aD (cn (v.vars.take k) p).reverse) (ys:=[[S v.vars[k].name]]) (by simp only[go_sem,rE,rA,rL];exact qa2) (by simp[go_sem,bg]) (by simp) (by simp[aD];omega) ?_
      intro x' H3 fp hx' hfp hkeep hnew
      simp only[go_sem,rE,rA,rL]at hkeep hnew
      have hmt:¬cJ (E' 5) mo:=fun ht=>by obtain⟨n,m,e⟩:=qa2.tok ht;rw[gm2]at e;simp at e
      have hrow:aD (v.vars[k].name::cn (v.vars.take k) p).reverse=aD (cn (v.vars.take k) p).reverse++[[S v.vars[k].name]]:=by simp[aD]
      simp only[go_sem,rE,rA,rL,f19,q19,w1]
      refine⟨hk1,H3,aj.sub_refl _,⟨f0.trans q0,f3.trans q3⟩,f1.trans q1,f2.trans q2,f4.trans q4,f17.trans q17,f18.trans q18,rfl,?_,?_,?_,?_⟩
      ·rw[hsame,hrow];exact hx'
      ·rw[hsame,hkeep mo (by rw[gm2];simp) hmt];exact gm2
      ·intro d o hd hdm
       rw[hkeep d (by rw[kkH d o hd hdm];simp) (fun ht=>by rw[kt d ht]at hd;simp at hd)]
       exact kkH d o hd hdm
      ·intro d hd
       rcases hnew d hd with h|h
       ·exact kt d h
       ·cases hq:H.get d with
        |none=>rfl
        |some o=>
         by_cases hdm:d=mo
         ·subst hdm;rw[gm2]at h;simp at h
         ·rw[kkH d o hq hdm]at h;simp at h
   ·have hsame:cn (v.vars.take (k+1)) p=cn (v.vars.take k) p:=by rw[hsn,hdd];rfl
    simp only[go_sem,rE,rA,rL,q19,w1]
    exact⟨hk1,_,aj.sub_refl _,⟨q0,q3⟩,q1,q2,q4,q17,q18,rfl,by rw[hsame];exact qa8 _,by rw[hsame];exact qm8 _,kk8 _,kt⟩
  ·have hkk:k=v.vars.length:=by omega
   subst hkk
   rw[aW]at qa qm
   simp only[go_sem,rE,rA,rL]
   exact hK _ _ (by simp only[go_sem,rE,q0]) (by simp only[go_sem,rE,q3]) (by simp only[go_sem,rE];exact qa) kk (by simp only[go_sem,rE];exact kt)
end
def x_ea0:aT:=rg [ef 0 3 (.box 0)]
def x_ea1:aT:=rg [ef 0 13 (.callX .mkMap []),mv 1 4 13]
def x_ea2:aT:=rg [mv 0 5 (.const (.slice none 0 0))]
def x_ea4(F:Ids):aT:=rg [mv 0 66 5,ca 1 67 238 [66]]
def x_ea5:aT:=rg [mv 0 12 69]
def x_ea6:aT:=rg ([ld 0 70 none 3,mv 1 71 12]++ef 2 72 (.callX .clos [70,71])::[pu 3 73 (.not 72)])
def wY(P:Program)(F:Ids):Prop:=∃fn i0 i1 i2 i4 i5 i6 b4 b5 o0 o1 o2 c3 o4 o5 o6,P.funcs[237]?=some fn/\fn.ntmps=74/\fn.results=#[]/\
 fn.body=some (.seq (.region i0 o0 false) (.seq (.region i1 o1 false) (.seq (.region i2 o2 false) (.seq c3 (.seq (.region i4 o4 false) (.block b4 (.rangeFunc (.tmp 67) #[68,69] (.region i5 o5 false) (.block b5 (.seq (.region i6 o6 false) (.cond (.tmp 73) .ret .skip))))))))))/\
 cM P 74 o0 false=some x_ea0/\cM P 74 o1 false=some x_ea1/\cM P 74 o2 false=some x_ea2/\ee P 74 c3=some (tR F)/\gD P c3 (tR F)=true/\cM P 74 o4 false=some (x_ea4 F)/\cM P 74 o5 false=some x_ea5/\cM P 74 o6 false=some x_ea6
section
variable {P:Program}{F:Ids}{er:bK}
theorem t7(L:Lib P F){x:AC}(hx:x.cells?=some [x]):ACalls P 238 [x] .empty fun q H'=>∃b,q=.fn (.func 253) [] [.ptr b 0]/\H'=aj.empty.set b (.cells [x]):=by
 refine(L.a Tryz.func238 y238) (by simp[y238]) ?_
 simp only[y238,go_sem,rE,rA,hx]
 intro b hb
 exact ak (.refl _) (aj.sub_refl _) ⟨b,rfl,rfl⟩
theorem yi(H:aj){b:Nat}{o:cz}:H.swap .empty (aj.empty.set b o)=H.set b o:=by
 ext d:1
 rw[bz,aK,aK]
 by_cases h1:d=b
 ·simp[h1]
 ·simp[h1]
structure EndJ(Hr:aj)(B l l2:Nat)(pre:List ByteArray)(H':aj):Prop where
 l2n:H'.get l2=none
 l2B:l2≠B
 ln:H'.get l=none
 box:∃x',H'.get B=some (.cells [x'])/\bR H' 1 (aD pre) x'/\∀d,cJ x' d->Hr.get d=none
 rest:∀d o,Hr.get d=some o->d≠B->H'.get d=some o
theorem AY(L:Lib P F)(hC:wY P F)(hB1:l8 P 253)(hgB:iz P 253=true){H:aj}{s:Nat}{v:Sc}{ORD HELD:AC}{m1 m2 b c B:Nat}{p:Pl}(hS:cw F er H s v ORD HELD m1 m2)(hnd:(v.vars.map (·.name)).Nodup)(hvl:v.vars.length<=2^30)(hp:p.path.length<=2^30)
(hqp:∀x∈v.vars,∀q∈x.loans,q.path.length<=2^30)(hql:∀x∈v.vars,x.loans.length<=2^30)(gb:H.get b=some (.cells [.ptr s 0]))(gc:H.get c=some (.cells p.enc))(hB:H.get B=none):
 ItC P 237 [.ptr b 0,.ptr c 0] (H.set B (.cells [NIL])) (fun _=>True) (Bx B) (nR B) (AsEnd B (cn v.vars p) (H.set B (.cells [NIL]))):=by
 obtain⟨fn,i0,i1,i2,i4,i5,i6,b4,b5,o0,o1,o2,c3,o4,o5,o6,hf,hN,hres,hb,r0,r1,r2,r3,r3ok,r4,r5,r6⟩:=hC
 intro l o M w us hnc s0 hlo hln hcap _ hY
 refine callsIn_of_wp_marks hf hb trivial ?_ rfl
 rw[hN]
 have hr:gP M [.lit (.func (.yield l) #[] #[]),.ptr b 0,.ptr c 0] ((#[.func (.yield l) #[] #[]]++us.toArray:Array Value).toList):=by
  refine⟨by simp[<-hcap.1],fun j y v hy hv=>?_⟩
  match j,hy,hv with
  |0,hy,hv=>simp at hy hv;subst hy hv;exact .lit trivial
  |j+1,hy,hv=>exact hcap.2 j _ _ (by simpa using hy) (by simpa using hv)
 have hE:=lV (N:=74) hr (by simp)
 simp only[Array.toArray_toList]at hE
 have hS0:cw F er (H.set B (.cells [NIL])) s v ORD HELD m1 m2:=hS.new hB _
 have gb0:(H.set B (.cells [NIL])).get b=some (.cells [.ptr s 0]):=by rw[ae _ _ (al gb hB)];exact gb
 have gc0:(H.set B (.cells [NIL])).get c=some (.cells p.enc):=by rw[ae _ _ (al gc hB)];exact gc
 have gB0:(H.set B (.cells [NIL])).get B=some (.cells [NIL]):=ai _ _ _
 generalize H.set B (.cells [NIL])=H0 at*
 refine od (cj r0).1 (cj r0).2 hE s0 (K:=fun E' H'=>∃b3,H0.get b3=none/\E' 1=.ptr b 0/\E' 2=.ptr c 0/\E' 3=.ptr b3 0/\H'=H0.set b3 (.cells [.lit (.func (.yield l) #[] #[])])) ?_ ?_
 ·simp only[x_ea0,go_sem,rE,rA,show(AC.lit (Value.func (Fn.yield l) #[] #[])).cells?=some [.lit (.func (.yield l) #[] #[])]from rfl]
  intro b3 hb3
  exact⟨b3,hb3,rfl,rfl⟩
 rintro E1 H1 M1 a1 w1 ⟨b3,hb3,e1,e2,e3,rfl⟩ hE1 s1 t1 hd1
 refine od (cj r1).1 (cj r1).2 hE1 s1 (K:=fun E' H'=>∃mo,(H0.set b3 (.cells [.lit (.func (.yield l) #[] #[])])).get mo=none/\E' 1=.ptr b 0/\E' 2=.ptr c 0/\E' 3=.ptr b3 0/\E' 4=.mp mo/\H'=(H0.set b3 (.cells [.lit (.func (.yield l) #[] #[])])).set mo (.map fun _=>none)) ?_ ?_
 ·simp only[x_ea1,go_sem,rE,rA]
  refine oG fun mo hmo=>?_
  simp only[go_sem,rE,rA,e1,e2,e3]
  exact⟨mo,hmo,rfl,rfl⟩
 rintro E2 H2 M2 a2 w2 ⟨mo,hmo,f1,f2,f3,f4,rfl⟩ hE2 s2 t2 hd2
 refine od (cj r2).1 (cj r2).2 hE2 s2 (K:=fun E' H'=>E' 1=.ptr b 0/\E' 2=.ptr c 0/\E' 3=.ptr b3 0/\E' 4=.mp mo/\E' 5=NIL/\H'=(H0.set b3 (.cells [.lit (.func (.yield l) #[] #[])])).set mo (.map fun _=>none)) ?_ ?_
 ·simp only[x_ea2,go_sem,rE,rA,f1,f2,f3,f4,and_self]
 rintro E3 H3 M3 a3 w3 ⟨g1,g2,g3,g4,g5,rfl⟩ hE3 s3 t3 hd3
 have hb3m:b3≠mo:=al (ai _ _ _) hmo
 have hmo0:H0.get mo=none:=by rw[ae _ _ (Ne.symm hb3m)]at hmo;exact hmo
 have up:∀d o,H0.get d=some o->((H0.set b3 (.cells [.lit (.func (.yield l) #[] #[])])).set mo (.map fun _=>none)).get d=some o:=fun d o hd=>by
  rw[ae _ _ (al hd hmo0),ae _ _ (al hd hb3)];exact hd
 have gy:((H0.set b3 (.cells [.lit (.func (.yield l) #[] #[])])).set mo (.map fun _=>none)).get b3=some (.cells [.lit (.func (.yield l) #[] #[])]):=by rw[ae _ _ hb3m,ai]
 have gmo:((H0.set b3 (.cells [.lit (.func (.yield l) #[] #[])])).set mo (.map fun _=>none)).get mo=some (.map fun _=>none):=ai _ _ _
 have hm1:mo≠m1:=by rintro rfl;rw[hS0.names]at hmo0;simp at hmo0
 have hsz:=(cS.1 hlo).1
 have hfr:∀{M':bF} {H':aj} {w':World},bC M H0 w M' H' w'->H'.get l=none:=fun t=>by
  rename_i M' H' w'
  cases h:H'.get l with
  |none=>rfl
  |some o'=>
   rcases t.fresh l (by rw[h];simp)with h'|h'
   ·exact absurd hln h'
   ·omega
 have hS3:=hS0.sub up
 have gb3:=up _ _ gb0
 have gc3:=up _ _ gc0
 have gB3:=up _ _ gB0
 generalize hH3:((H0.set b3 (.cells [.lit (.func (.yield l) #[] #[])])).set mo (.map fun _=>none))=H3 at*
 have hBmo:B≠mo:=al gB0 hmo0
 refine od r3 r3ok hE3 s3 (K:=fun E' H'=>E' 3=.ptr b3 0/\bR H' 1 (aD (cn v.vars p).reverse) (E' 5)/\(∀d o,H3.get d=some o->d≠mo->H'.get d=some o)/\∀d,cJ (E' 5) d->H3.get d=none) ?_ ?_
 ·exact ea3_wp L hS3 hnd hvl hp hqp hql gb3 (by rw[gc3,Pl.enc]) gmo hm1 g1 g2 g4 g5 fun E' H' h0 h3 h5 hk ht=>⟨h3.trans g3,h5,hk,ht⟩
 rintro E4 H4 M4 a4 w4 ⟨k3,k5,kk,kt⟩ hE4 s4 t4 hd4
 refine od (cj r4).1 (cj r4).2 hE4 s4 (K:=fun E' H'=>∃bs,H4.get bs=none/\E' 3=.ptr b3 0/\E' 67=.fn (.func 253) [] [.ptr bs 0]/\H'=H4.set bs (.cells [E4 5])) ?_ ?_
 ·simp only[x_ea4,go_sem,rE,rA,k3]
  refine du (t7 L (x:=E4 5) k5.one) (by simp only[go_sem,rE,aU,bB]) (aj.sub_empty _) (fun h=>by simp at h) trivial ?_
  rintro q H5 ⟨bs,rfl,rfl⟩ hnew
  rw[yi]
  have hbs:=hnew bs (by rw[ai];simp) rfl
  simp only[go_sem,rE,rA,k3]
  exact⟨bs,hbs,rfl,rfl⟩
 rintro E5 H5 M5 a5 w5 ⟨bs,hbs,n3,n67,rfl⟩ hE5 s5 t5 hd5
 have t05:bC M H0 w M5 (H4.set bs (.cells [E4 5])) w5:=(((t1.trans t2).trans t3).trans t4).trans t5
 have hd5':a5.defers=[]:=by rw[hd5,hd4,hd3,hd2,hd1]
 have hx5:bR (H4.set bs (.cells [E4 5])) 1 (aD (cn v.vars p).reverse) (E4 5):=k5.new hbs _
 have keep4:∀d o,H4.get d=some o->(H4.set bs (.cells [E4 5])).get d=some o:=fun d o hd=>by rw[ae _ _ (al hd hbs)];exact hd
 have gyr:(H4.set bs (.cells [E4 5])).get b3=some (.cells [.lit (.func (.yield l) #[] #[])]):=keep4 _ _ (kk _ _ gy hb3m)
 have gBr:(H4.set bs (.cells [E4 5])).get B=some (.cells [NIL]):=keep4 _ _ (kk _ _ gB3 hBmo)
 have gbs:(H4.set bs (.cells [E4 5])).get bs=some (.cells [E4 5]):=ai _ _ _
 have hbsB:bs≠B:=by rintro rfl;have:=keep4 bs _ (kk _ _ gB3 hBmo);have h4:=kk _ _ gB3 hBmo;rw[h4]at hbs;simp at hbs
 have hb3B:b3≠B:=by rintro rfl;rw[gB0]at hb3;simp at hb3
 have restR:∀d o,H0.get d=some o->d≠B->(H4.set bs (.cells [E4 5])).get d=some o:=fun d o hd _=>keep4 _ _ (kk _ _ (up _ _ hd) (al hd hmo0))
 have hlB:l≠B:=by rintro rfl;rw[hln]at gB0;simp at gB0
 have hlr:(H4.set bs (.cells [E4 5])).get l=none:=hfr t05
 have hsz5:l<w5.heap.size:=Nat.lt_of_lt_of_le hsz t05.size
 have hlo5:w5.heap[l]?=some o:=by rw[(t05.same l hsz hln).1];exact hlo
 generalize hHr:H4.set bs (.cells [E4 5])=Hr at*
 refine wpIn_block ?_
 have hrep:=hE5.rep 67
 rw[n67]at hrep
 obtain⟨us2,hus,hcap2⟩:=zW hrep
 have hE5':ce 74 M5 E5 {tmps:=a5.tmps,defers:=[]}:=⟨hE5.size,hE5.rep⟩
 have hLl:(cn v.vars p).reverse.length<=2^30:=by
  have:=(iY p v.vars [] (v.vars.map (·.name)) (by simp) fun x hx=>aZ.2 ⟨x,hx,rfl⟩).2
  rw[List.length_reverse]
  simp only[bM,bY]at this
  exact cg this hvl
 refine xA (ps:=[68,69]) (us:=us2) (cap:=[.ptr bs 0]) (Pre:=fun l2 xs H'=>∃pre i n,xs=[I i,S n]/\EndJ Hr B l l2 pre H'/\pre.length<=2^30)
  (kE:=fun l2 xs H' H''=>(∀i n,xs=[I i,S n]->nR B l [S n] H' H'')/\H''.get l2=none/\H''.get l=none) hE5 s5 (by simpa[Act.eval]using hus) hgB hcap2
  (vg hB1 (bs:=bs) (x:=E4 5) (L:=(cn v.vars p).reverse) hx5 hLl (J:=EndJ Hr B l) ?_ ?_ ?_ ?_ ?_) (Sx:=fun w'=>w'.heap[l]?=some o) ?_ ?_ ?_
 ·intro l2 h
  exact⟨h,by rintro rfl;rw[gBr]at h;simp at h,hlr,⟨NIL,gBr,.inl ⟨rfl,rfl⟩,fun d ⟨_,_,_,_,e⟩=>by simp at e⟩,fun d o hd _=>hd⟩
 ·intro l2 pre H' hj
  exact hj.rest _ _ gbs hbsB
 ·intro l2 pre n i H' hj hl
  exact⟨pre,i,n,rfl,hj,by omega⟩
 ·rintro l2 pre n i H' H'' hj hl ⟨hP,h1,h2⟩
  obtain⟨x',hx1,hx2,hx3⟩:=hj.box
  obtain⟨x2,y1,y2,y3,y4⟩:=hP i n rfl n pre x' rfl hx1 hx2
  have nt:∀d o,Hr.get d=some o->¬cJ x' d:=fun d o hd ht=>by rw[hx3 d ht]at hd;simp at hd
  refine⟨h1,hj.l2B,h2,⟨x2,y1,y2,fun d hd=>?_⟩,fun d o hd hdB=>y3 d o (hj.rest d o hd hdB) hdB (nt d o hd)⟩
  rcases y4 d hd with h|h
  ·exact hx3 d h
  ·cases hq:Hr.get d with
   |none=>rfl
   |some o'=>
    by_cases hdB:d=B
    ·subst hdB;rw[hx1]at h;simp at h
    ·rw[hj.rest d o' hq hdB]at h;simp at h
 ·intro l2 pre H' hj;exact hj.l2n
 ·intro M' H' w' t
  show w'.heap[l]?=some o
  rw[(t.same l hsz5 hlr).1];exact hlo5
 ·
  intro l2 D fid hl2 ro n xs H' hpre
  have hl2l:l≠l2:=by omega
  refine(pN (N:=74) (Sx:=fun w'=>w'.heap[l]?=some o) (Pre:=fun xs H'=>∃pre i n,xs=[I i,S n]/\EndJ Hr B l l2 pre H'/\pre.length<=2^30)
   (kE:=fun xs H' H''=>(∀i n,xs=[I i,S n]->nR B l [S n] H' H'')/\H''.get l2=none/\H''.get l=none)
   (EA:=fun xs=>(E5.puts [68,69] xs).put (some 12) ((E5.puts [68,69] xs) 69)) hE5' (by simp) ?_ ?_ ?_ ?_ ?_ ro n xs H' hpre)
  ·intro w' r h
   rw[World.putObj_heap_other hl2l];exact h
  ·rintro M' H' w' M'' H'' w'' - h t ⟨xs',pre',i',n',-,hj,-⟩
   rw[(t.same l (cS.1 h).1 hj.ln).1];exact h
  ·rintro xs' H' ⟨pre',i',n',rfl,hj,-⟩
   exact⟨rfl,hj.l2n⟩
  ·rintro n xs' H' M1 w1 a1 hle hE1 s1 -
   refine lQ r5 hE1 s1 ?_
   simp only[x_ea5,go_sem,rE,rA,and_self]
  ·rintro n xs' H' M1 w1 a1 hle hE1 s1 ⟨pre',i',n',rfl,hj,hpl⟩ hx hlw
   have hyl:=hj.rest _ _ gyr hb3B
   have hlw1:l<w1.heap.size:=(cS.1 hx).1
   obtain⟨x',hbx1,hbx2,hbx3⟩:=hj.box
   refine wpIn_block (wpIn_seq (wpIn_mono (ul (ro:=some l2) (Sd:=fun w=>w.heap[l]?=some o) (K:=fun e E' H''=>e=.normal/\E' 73=.lit (.bool false)/\nR B l [S n'] H' H'') r6 hE1 s1 (by simp) (fun M' H'' w' t=>?_) ?_) ?_))
   ·rw[(t.same l hlw1 hj.ln).1];exact hx
   ·have hYC:=hY (some l2) (n - 1) [S n'] H' ⟨hj.ln,hlB,n',pre',x',rfl,hbx1,hbx2,hpl⟩
    simp only[Env.puts,go_sem,rE,rA,n3,hyl,a9]
    exact⟨l,[S n'],_,rfl,(hYC.later (bF.le_trans t05.le hle)).side fun _ h=>⟨h,trivial⟩,fun _ h=>h⟩
   ·rintro e a2 w2 ⟨xe,E2,H2,M2,he,⟨rfl,q73,hpost⟩,hE2,s2,t2,hd2⟩
    cases e<;>simp[dI]at he
    have hr73:=hE2.rep 73
    rw[q73]at hr73
    have hfr2:∀d,d<w1.heap.size->H'.get d=none->H2.get d=none:=fun d hd hn=>by
     cases h:H2.get d with
     |none=>rfl
     |some o'=>
      rcases t2.fresh d (by rw[h];simp)with h'|h'
      ·exact absurd hn h'
      ·omega
    refine wpIn_cond_false (by rw[<-ku hr73];rfl) (wpIn_skip ?_)
    refine⟨.normal,E2,H2,M2,rfl,⟨rfl,fun i n e=>?_,hfr2 l2 hlw hj.l2n,hfr2 l hlw1 hj.ln⟩,hE2,s2,t2,hd2⟩
    simp only[List.cons.injEq,AC.lit.injEq,Value.string.injEq,and_true]at e
    rw[<-e.2];exact hpost
 ·rintro D M6 H6 w6 hD ⟨l2,hj⟩ s6 t6 hDn hDr
  rw[List.reverse_reverse]at hj
  have s7:=s6.putRec hDr (fun a b c h=>by cases h) hDn (.deferred none)
  have hE6:ce 74 M6 E5 {a5 with defers:={target:=.collected D,args:=#[]}::a5.defers}:=⟨hE5.size,fun n=>(hE5.rep n).mono t6.le⟩
  obtain⟨v,hv,hrv⟩:=jd (P:=P) (fn:=fn) (rs:=[]) (by rw[hres];rfl) hE6 s7 (q:=.tup []) rfl
  show LeavesInM _ _ _ _ _ _ _ .returning w6
  refine qy (a:={a5 with defers:={target:=.collected D,args:=#[]}::a5.defers}) (by rw[hd5']) hDr hv ?_
  obtain⟨x',y1,y2,y3⟩:=hj.box
  have t:=t05.trans t6
  refine⟨⟨v,rfl⟩,M6,H6,s7,⟨t.le,by rw[World.putObj_size];exact t.size,fun b hb' hn=>?_,t.fresh,t.io.trans (uD _ _ _)⟩,x',y1,y2,fun d o hd hdB=>hj.rest d o (restR d o hd hdB) hdB⟩
  have:w.heap.size<=w5.heap.size:=t05.size
  rw[World.putObj_heap_other (by omega)]
  exact t.same b hb' hn
end
section
variable {P:Program}{F:Ids}{er:bK}
theorem wN(L:Lib P F)(hA:ml P 236)(hE:wY P F)(hB:l8 P 253)(g1:iz P 253=true)(g2:iz P 237=true):eB P F er:=by
 intro H s v ORD HELD m1 m2 b c p hS hnd hvl hp hqp hql gb gc
 refine(L.a Tryz.func208 y208) (by simp[y208]) ?_
 simp only[y208,go_sem,rE,rA]
 refine du (t8 hA (gf:=237) (cap:=[.ptr b 0,.ptr c 0]) g2 (cn v.vars p) H fun B hB0=>AY L hE hB g1 hS hnd hvl hp hqp hql gb gc hB0) ?_ (aj.sub_refl _) (fun h=>by simp at h) trivial ?_
 ·simp only[go_sem,rE,aU,bB]
 rintro q H' ⟨rfl,rfl⟩ -
 simp only[go_sem,rE,rA,hG]
 exact ak (.refl _) (aj.sub_refl _) ⟨rfl,rfl⟩
end
structure By(P:Program)(F:Ids)(er:bK)(H0:aj):Prop where
 nil:∀(x:AC) (H:aj),ACalls P 30 [gE,x] H fun q H'=>q=B false/\H'=H
 hit:∀(b t:Nat) (H:aj),H0.sub H->H.get t=some (.cells [.lit (.pointer none)])->ACalls P 30 [.iface 67 (.ptr b 0),.iface 69 (.ptr t 0)] H fun q H'=>q=B true/\H'=H.set t (.cells [.ptr b 0])
 is:∀(b:Nat) (i c k:Int) (H:aj),H0.sub H->(c=2\/c=3\/c=4\/c=5)->(k=2\/k=3\/k=4\/k=5)->H.get b=some (.cells [I i,.iface (er.t c) (er.x c)])->
  ACalls P 31 [.iface 67 (.ptr b 0),.iface (er.t k) (er.x k)] H fun q H'=>q=B (decide (c=k))/\H'=H
section
variable {P:Program}{F:Ids}{er:bK}
theorem qY(L:Lib P F)(T:Tys F)(hC:eB P F er){H0:aj}(hA:By P F er H0)(p:Pg)(hc:p.small)(H:aj)(h0:H0.sub H)(he:iA F er H):
 ACalls P 12 [.agg (Pg.enc p)] H fun q H'=>q=.tup [I (fF p).1,I (fF p).2]/\H'=H:=by
 refine(L.a Tryz.func12 y12) (by simp[y12]) ?_
 have hpf:=qV L T p hc
 simp only[Pg.enc]at hpf
 simp only[y12,go_sem,rE,rA,rL,Pg.enc]
 intro b1 hb1
 have g1:=ai H b1 (.cells [.sl 12 none (p.map Fu.enc)])
 have k1:∀c o,H.get c=some o->(H.set b1 (.cells [.sl 12 none (p.map Fu.enc)])).get c=some o:=fun c o hc=>by rw[ae _ _ (al hc hb1)];exact hc
 have he1:iA F er (H.set b1 (.cells [.sl 12 none (p.map Fu.enc)])):=fun c hc=>k1 _ _ (he c hc)
 have fin:∀(E':Env) (H':aj) (a b:Int),E' 2=I a->E' 3=I b->H.sub H'->fF p=(a,b)->bh.post [.slot 2,.slot 3] (fun q H'=>q=.tup [I (fF p).1,I (fF p).2]/\H'=H) .ret E' H':=fun E' H' a b h2 h3 hs hsp=>li hs ⟨by rw[h2,h3,hsp],rfl⟩
 generalize H.set b1 _=H1 at*
 refine am hpf rfl ?_
 cases hf:eS p with
 |false=>
  simp only[go_sem,rE,rA,rL]
  exact fin _ _ 1 0 rfl rfl k1 (by simp[fF,hf])
 |true=>
 have hfn:=c_kFns (er:=er) L T hC p hf H1 he1
 simp only[Pg.enc]at hfn
 simp only[go_sem,rE,rA,rL,g1]
 refine du hfn rfl (aj.sub_refl _) (fun h=>by simp at h) trivial ?_
 rintro q H3 h -
 rw[dD]
 rcases h with⟨h1,rfl,rfl⟩|⟨i,b,h1,h2,rfl,rfl⟩
 ·simp only[go_sem,rE,rA,rL]
  intro b5 hb5
  refine du (hA.nil _ _) rfl (aj.sub_refl _) (fun h=>by simp at h) trivial ?_
  rintro q H4 ⟨rfl,rfl⟩ -
  rw[dD]
  simp only[go_sem,rE,rA,rL]
  exact fin _ _ 0 0 rfl rfl (fun c o hc=>by rw[ae _ _ (al (k1 c o hc) hb5)];exact k1 c o hc) (by simp[fF,hf,h1])
 ·have hcode:dJ p i=2\/dJ p i=3\/dJ p i=4\/dJ p i=5:=by
   unfold pq at h1
   have h2:=List.find?_some h1
   simp only[decide_eq_true_eq]at h2
   have h3:dJ p i=0\/dJ p i=2\/dJ p i=3\/dJ p i=4\/dJ p i=5:=by
    unfold dJ at h2⊢
    split
    ·exact qL _ _
    ·exact .inl rfl
   omega
  have hsp:fF p=(dJ p i,(i:Int)):=by simp[fF,hf,h1]
  generalize dJ p i=c at*
  have hac:er.ac c=.iface (er.t c) (er.x c):=er.acn (by omega)
  rw[hac]
  have gb:=ai H1 b (.cells [I i,.iface (er.t c) (er.x c)])
  have k2:∀d o,H.get d=some o->(H1.set b (.cells [I i,.iface (er.t c) (er.x c)])).get d=some o:=fun d o hd=>by rw[ae _ _ (al (k1 d o hd) h2)];exact k1 d o hd
  generalize H1.set b _=H2 at*
  simp only[go_sem,rE,rA,rL]
  intro b5 hb5
  have gb5:=ai H2 b5 (.cells [.lit (.pointer none)])
  have d5:=al gb hb5
  have hset:(H2.set b5 (.cells [.lit (.pointer none)])).set b5 (.cells [.ptr b 0])=H2.set b5 (.cells [.ptr b 0]):=l5 _ _ _ _
  have k3:∀o d o',H.get d=some o'->(H2.set b5 o).get d=some o':=fun o d o' hd=>by rw[ae _ _ (al (k2 d o' hd) hb5)];exact k2 d o' hd
  refine du (hA.hit b b5 _ (fun d o hd=>k3 _ d o (h0 d o hd)) gb5) rfl (aj.sub_refl _) (fun h=>by simp at h) trivial ?_
  rintro q H4 ⟨rfl,rfl⟩ -
  rw[dD,hset]
  have gb:(H2.set b5 (.cells [.ptr b 0])).get b=_:=(ae _ _ d5).trans gb
  have gb5:=ai H2 b5 (.cells [.ptr b 0])
  have k3:=k3 (.cells [.ptr b 0])
  generalize H2.set b5 (.cells [.ptr b 0])=H4 at*
  have e2:=k3 _ _ (he 2 (.inl rfl))
  have e3:=k3 _ _ (he 3 (.inr (.inl rfl)))
  have e4:=k3 _ _ (he 4 (.inr (.inr (.inl rfl))))
  have f2:F.err 2=0:=rfl
  have f3:F.err 3=1:=rfl
  have f4:F.err 4=2:=rfl
  rw[f2]at e2
  rw[f3]at e3
  rw[f4]at e4
  have is:=fun k hk=>hA.is b i c k H4 (fun d o hd=>k3 d o (h0 d o hd)) hcode hk gb
  simp only[go_sem,rE,rA,rL,e2]
  refine du (is 2 (.inl rfl)) rfl (aj.sub_refl _) (fun h=>by simp at h) trivial ?_
  rintro q H5 ⟨rfl,rfl⟩ -
  rw[dD]
  by_cases c2:c=2
  ·simp only[go_sem,rE,rA,rL,c2,gb,gb5]
   exact fin _ _ 2 i rfl rfl k3 (by rw[hsp,c2])
  simp only[go_sem,rE,rA,rL,c2,e3]
  refine du (is 3 (.inr (.inl rfl))) rfl (aj.sub_refl _) (fun h=>by simp at h) trivial ?_
  rintro q H6 ⟨rfl,rfl⟩ -
  rw[dD]
  by_cases c3:c=3
  ·simp only[go_sem,rE,rA,rL,c3,gb,gb5]
   exact fin _ _ 3 i rfl rfl k3 (by rw[hsp,c3])
  simp only[go_sem,rE,rA,rL,c3,e4]
  refine du (is 4 (.inr (.inr (.inl rfl)))) rfl (aj.sub_refl _) (fun h=>by simp at h) trivial ?_
  rintro q H7 ⟨rfl,rfl⟩ -
  rw[dD]
  by_cases c4:c=4
  ·simp only[go_sem,rE,rA,rL,c4,gb,gb5]
   exact fin _ _ 4 i rfl rfl k3 (by rw[hsp,c4])
  simp only[go_sem,rE,rA,rL,c4,gb,gb5]
  exact fin _ _ 5 i rfl rfl k3 (by rw[hsp];congr 1;omega)
theorem AP(L:Lib P F)(T:Tys F)(hC:eB P F er){H0:aj}(hA:By P F er H0)(p:Pg)(hc:p.small)(H:aj)(h0:H0.sub H)(he:iA F er H):
 ACalls P 11 [.agg (Pg.enc p)] H fun q H'=>q=I (fF p).1/\H'=H:=by
 refine(L.a Tryz.func11 y11) (by simp[y11]) ?_
 have hco:=fun H1 h1 he1=>qY (er:=er) L T hC hA p hc H1 h1 he1
 simp only[Pg.enc]at hco
 simp only[y11,go_sem,rE,rA,rL,Pg.enc]
 intro b1 hb1
 have g1:=ai H b1 (.cells [.sl 12 none (p.map Fu.enc)])
 have k1:∀c o,H.get c=some o->(H.set b1 (.cells [.sl 12 none (p.map Fu.enc)])).get c=some o:=fun c o hc=>by rw[ae _ _ (al hc hb1)];exact hc
 generalize H.set b1 _=H1 at*
 refine du (hco H1 (fun c o hc=>k1 c o (h0 c o hc)) fun c hc=>k1 _ _ (he c hc)) rfl (aj.sub_refl _) (fun h=>by simp at h) trivial ?_
 rintro q H3 ⟨rfl,rfl⟩ -
 rw[dD]
 simp only[go_sem,rE,rA,rL]
 exact ak (.refl _) k1 ⟨rfl,rfl⟩
end
section
variable {P:Program}{F:Ids}
end

section
variable {P:Program}{F:Ids}
end
section
variable {P:Program}{F:Ids}{er:bK}
end
section
variable {P:Program}{F:Ids}{er:bK}
end
section
variable {P:Program}{F:Ids}
end
section
variable {P:Program}{F:Ids}
end
theorem Am{f:Fu}{m:Nat}(h:f.lo m):bq f.body<=1000*(6+m):=by
 have key:∀l:List St,(∀s∈l,s.cnt<=1000)->bq l<=1000*l.length:=by
  intro l
  induction l with
  |nil=>intro _;rw[eP];omega
  |cons s l ih=>
   intro h
   have h1:=h s (by simp)
   have h2:=ih fun x hx=>h x (by simp[hx])
   rw[cQ,aR];omega
 have:=key f.body h.bcnt
 have:=h.blen
 omega
theorem drawn.fit{m:Nat}{p:Pg}(h:drawn m p)(hm:m<=4):p.fit:=by
 refine⟨fun f hf=>⟨?_,fun s hs=>((h.1 f hf).bsm s hs).sm⟩,fun f hf=>⟨(h.1 f hf).pars.1,?_⟩⟩
 ·have:=Am (h.1 f hf);omega
 ·have:=Am (h.1 f hf);omega
section
variable {P:Program}{F:Ids}{er:bK}
end
section
variable {P:Program}{F:Ids}
end
structure LInv(Q:Prop)(vs:List Vr):Prop where
 cl:∀x∈vs,x.dead=false->x.lent=true->∀q∈x.loans,dW vs q.name=false
 ap:∀x∈vs,∀y∈vs,x.name≠y.name->x.dead=false->x.lent=true->y.dead=false->y.lent=true->∀q∈x.loans,∀r∈y.loans,q.meet r=false
 pl:∀x∈vs,x.param=true->x.loans=[]/\x.dead=false/\(x.lent=true->Q)
 ne:∀x∈vs,x.lent=true->x.param=false->x.loans≠[]
def HInv(vs:List Vr)(held:List Pl):Prop:=∀h∈held,dW vs h.name=false/\∀x∈vs,x.dead=false->x.lent=true->∀q∈x.loans,q.meet h=false
structure Sc.G(Q:Prop)(v:Sc):Prop where
 ok:mT v.vars
 inv:LInv Q v.vars
 held:v.lost=false->HInv v.vars v.held
section
variable {P:Program}{F:Ids}{er:bK}
end
section
variable {P:Program}{F:Ids}
end
section
variable {P:Program}{F:Ids}{er:bK}
end

section
variable {P:Program}{F:Ids}{er:bK}
end
section
variable {P:Program}{F:Ids}{er:bK}
end
section
variable {P:Program}{F:Ids}{er:bK}
end

section
variable {P:Program}{F:Ids}{er:bK}
end
section
variable {P:Program}{F:Ids}{er:bK}
end
def other:ByteArray:=bl [111,116,104,101,114]
section
variable {P:Program}{F:Ids}{er:bK}
theorem rJ(L:Lib P F)(bs:List UInt8)(hl:bs.length<=2^30):ACalls P 9 [.sl 1 none (fj bs)] .empty fun q H'=>H'=.empty/\∃pr:Pg,q=.agg (Pg.enc pr)/\drawn 1 pr:=by
 refine(L.a Tryz.func9 y9) (by simp[y9]) ?_
 simp only[y9,go_sem,rE,rA,rL]
 intro b2 hb2
 have h0:(aj.empty.set b2 (.cells [NIL])).only (fun _=>False)=.empty:=aj.ext fun b=>by rw[bS (by simp)];rfl
 have hc:=AQ L bs hl
 rw[<-h0]at hc
 refine gu (fun _=>False) hc (rfl) (.refl _) (by simp) trivial ?_
 rintro q H' H1 ⟨r,bs',rfl,rfl,hbs'⟩ hsub hafter hnew -
 have gr:H1.get r=some (RdO bs' 0):=hsub _ _ (bD _ _)
 have g2:H1.get b2=some (.cells [NIL]):=by rw[hafter.out b2 (by simp) (by rw[ai];simp),ai]
 have hr2:r≠b2:=by rintro rfl;rw[gr]at g2;simp[RdO]at g2
 simp only[go_sem,rE,rA,rL]
 refine bw (yT L r bs' hbs' 0 (by omega) (by simp[FC])) (rfl) gr (by simp) trivial ?_
 rintro q p1 hp1 hp1' ⟨pr,rfl,hgood,hl1,hl2⟩
 simp only[FC]at hp1'
 have g2:(H1.set r (RdO bs' p1)).get b2=_:=(ae _ _ (Ne.symm hr2)).trans g2
 have gr:(H1.set r (RdO bs' p1)).get r=_:=ai _ _ _
 generalize H1.set r (RdO bs' p1)=H2 at*
 simp only[go_sem,rE,rA,rL,Pg.enc]
 intro b3 hb3
 have hr3:=al gr hb3
 have d23:=al g2 hb3
 have gr:(H2.set b3 (.cells [.sl 12 none (pr.map Fu.enc)])).get r=_:=(ae _ _ hr3).trans gr
 have g2:(H2.set b3 (.cells [.sl 12 none (pr.map Fu.enc)])).get b2=_:=(ae _ _ d23).trans g2
 have g3:(H2.set b3 (.cells [.sl 12 none (pr.map Fu.enc)])).get b3=_:=ai _ _ _
 generalize H2.set b3 (.cells [.sl 12 none (pr.map Fu.enc)])=H3 at*
 clear hb3
 refine bw (cW L r bs' p1 2 hbs' (by omega) (by omega)) (rfl) gr (by simp) trivial ?_
 rintro q p2 hp2 hp2' ⟨k,rfl,hk0,hk1⟩
 have g2:(H3.set r (RdO bs' p2)).get b2=_:=(ae _ _ (Ne.symm hr2)).trans g2
 have g3:(H3.set r (RdO bs' p2)).get b3=_:=(ae _ _ (Ne.symm hr3)).trans g3
 have gr:(H3.set r (RdO bs' p2)).get r=_:=ai _ _ _
 generalize H3.set r (RdO bs' p2)=H4 at*
 by_cases hk:k=0
 ·simp only[hk,go_sem,rE,rA,aF,g3,rL]
  refine bw (yV L r bs' hbs' pr (m:=0) (by omega) (fun f hf=>(hgood f hf).lo) hl1 hl2 p2 (by omega) (by omega)) (by simp only[go_sem,rE,Pg.enc]) gr (by simp) trivial ?_
  rintro q p3 hp3 hp3' ⟨pr',rfl,hlo,hl1',hl2'⟩
  have g2:(H4.set r (RdO bs' p3)).get b2=_:=(ae _ _ (Ne.symm hr2)).trans g2
  generalize H4.set r (RdO bs' p3)=H5 at*
  simp only[go_sem,rE,rA,g2,Pg.enc,rL]
  exact bP (q':=.agg (Pg.enc pr')) (off:=0) (rfl) (ai _ _ _) rfl (.refl _) (aj.sub_empty _) ⟨rfl,pr',rfl,hlo,hl1',hl2'⟩
 ·have hk':(k==0)=false:=by simpa using hk
  simp only[hk',go_sem,rE,rA,g2,g3,rL]
  exact bP (q':=.agg (Pg.enc pr)) (off:=0) (rfl) (ai _ _ _) rfl (.refl _) (aj.sub_empty _) ⟨rfl,pr,rfl,fun f hf=>(hgood f hf).lo.up,hl1,by omega⟩
theorem AO(L:Lib P F)(T:Tys F)(hC:eB P F er){H0:aj}(hA:By P F er H0)(p:Pg)(hf:p.fit)(H:aj)(h0:H0.sub H)(he:iA F er H):
 ACalls P 10 [.agg (Pg.enc p)] H fun q H'=>q=B true/\H'=H:=by
 refine(L.a Tryz.func10 y10) (by simp[y10]) ?_
 have hco:=fun H1 h1 he1=>qY (er:=er) L T hC hA p hf.1 H1 h1 he1
 have hsp:=wK L hf
 simp only[Pg.enc]at hco hsp
 simp only[y10,go_sem,rE,rA,rL,Pg.enc]
 intro b1 hb1
 have g1:=ai H b1 (.cells [.sl 12 none (p.map Fu.enc)])
 have k1:∀c o,H.get c=some o->(H.set b1 (.cells [.sl 12 none (p.map Fu.enc)])).get c=some o:=fun c o hc=>by rw[ae _ _ (al hc hb1)];exact hc
 generalize H.set b1 _=H1 at*
 refine du (hco H1 (fun c o hc=>k1 c o (h0 c o hc)) fun c hc=>k1 _ _ (he c hc)) rfl (aj.sub_refl _) (fun h=>by simp at h) trivial ?_
 rintro q H3 ⟨rfl,rfl⟩ -
 rw[dD]
 simp only[go_sem,rE,rA,rL,g1]
 refine am hsp rfl ?_
 simp only[go_sem,rE,rA,rL,beq_self_eq_true]
 exact ak (.refl _) k1 ⟨rfl,rfl⟩
theorem wI(L:Lib P F)(T:Tys F)(p:Pg)(hc:p.small)(hf:eS p=false):cI P 22 [.agg (Pg.enc p)] (S (bl [])):=by
 refine(L.a Tryz.func22 y22) (by simp[y22]) ?_
 have hpf:=qV L T p hc
 rw[hf]at hpf
 simp only[Pg.enc]at hpf
 simp only[y22,go_sem,rE,rA,rL,Pg.enc]
 intro b1 hb1
 refine am hpf rfl ?_
 simp only[go_sem,rE,rA,rL]
 exact ak (.refl _) (aj.sub_empty _) ⟨rfl,rfl⟩
theorem rI(L:Lib P F)(T:Tys F)(hC:eB P F er){n:FuncId}(hfit:Fits P n (y8.1))(a:List UInt8)(H:aj)(hA:By P F er H)(he:iA F er H):ACalls P n [.sl 1 none (fj a)] H fun q H'=>q=B true/\H.sub H':=by
 refine hfit (by simp[y8]) ?_
 have fin:∀(E':Env) (H':aj),E' 2=B true->H.sub H'->bh.post [.slot 2] (fun q H'=>q=B true/\H.sub H') .ret E' H':=fun E' H' h1 h2=>ak (by rw[h1];exact .refl _) (aj.sub_refl _) ⟨rfl,h2⟩
 have la:(fj a).length=a.length:=by simp[fj]
 simp only[y8,go_sem,rE,rA,rL,la]
 by_cases h1:(a.length:Int)>1048576
 ·simp only[go_sem,rE,rA,rL,h1,decide_true]
  exact fin _ _ (rfl) H.sub_refl
 simp only[go_sem,rE,rA,rL,h1,decide_false]
 refine du (rJ L a (by omega)) (rfl) (aj.sub_empty _) (by simp) trivial ?_
 rintro q H' ⟨rfl,p,rfl,hd⟩ -
 rw[jy]
 have hfi:=hd.fit (by omega)
 have hpl:p.length<=2^20:=by have:=hd.2.2;omega
 simp only[go_sem,rE,rA,rL,Pg.enc]
 intro b3 hb3
 have g3:(H.set b3 (.cells [.sl 12 none (p.map Fu.enc)])).get b3=_:=ai _ _ _
 have hk:H.sub (H.set b3 (.cells [.sl 12 none (p.map Fu.enc)])):=fun c o hc=>by rw[ae _ _ (al hc hb3)];exact hc
 generalize H.set b3 (.cells [.sl 12 none (p.map Fu.enc)])=H1 at*
 have he3:iA F er H1:=fun c hc=>hk _ _ (he c hc)
 have ht:=AO L T hC hA p hfi H1 hk he3
 have hfc:=AP L T hC hA p hfi.1 H1 hk he3
 simp only[Pg.enc]at ht hfc
 refine du ht (rfl) (aj.sub_refl _) (by simp) trivial ?_
 rintro q H' ⟨rfl,rfl⟩ -
 rw[hG]
 simp only[go_sem,rE,rA,rL,g3]
 refine du hfc (rfl) (aj.sub_refl _) (by simp) trivial ?_
 rintro q H' ⟨rfl,rfl⟩ -
 rw[hG]
 cases hf:eS p with
 |true=>
  have h1:((fF p).1 !=1)=true:=by
   have:(fF p).1≠1:=by
    unfold fF
    rw[if_pos hf]
    split
    ·simp
    ·rename_i i _
     have:dJ p i=0\/dJ p i=2\/dJ p i=3\/dJ p i=4\/dJ p i=5:=by
      unfold dJ
      split
      ·exact qL _ _
      ·exact .inl rfl
     simp only;omega
   simpa using this
  simp only[go_sem,rE,rA,rL,h1]
  exact fin _ _ rfl hk
 |false=>
  have h1:((fF p).1 !=1)=false:=by unfold fF;rw[hf];rfl
  have hpw:=wI L T p hfi.1 hf
  simp only[Pg.enc]at hpw
  simp only[go_sem,rE,rA,rL,h1,g3]
  refine am hpw rfl ?_
  simp only[go_sem,rE,rA,rL]
  exact fin _ _ rfl hk
end
open Go.Proofs
section
open Go.RowKit Go.Extern.Stop Go.Stop Go.Extern
theorem as_nil(t:Value)(w:World):
 Calls Tryz.prog 30 #[.nilIface,t] w fun e w'=>e=.returned (.bool false)/\w'=w:=by
 go_enter Tryz.func30,Tryz.ntmps30
 go_wp2
 go_ret
 exact⟨rfl,rfl⟩
theorem sN(t:Addr)(w:World):(ReflectliteValue.unpack (.iface 69 (.pointer (some t)))).run Tryz.prog w
 =.ok (.agg #[.pointer (some ⟨10,69,none⟩),.pointer (some ⟨w.heap.size,0,none⟩),.int .u64 150]) (w.alloc (.cells #[.pointer (some t)] 69)):=by kernel_rfl
theorem xY(a:Addr)(w:World):(ReflectliteValue.methodAny (ReflectliteValue.valueError "reflectlite.Value.Type" 0) (fun t _ _ _=>ReflectliteType.toType t) #[.agg #[.pointer (some ⟨10,69,none⟩),.pointer (some a),.int .u64 150]]).run Tryz.prog w
 =.ok (.iface 202 (.agg #[.pointer (some ⟨10,69,none⟩)])) w:=by kernel_rfl
theorem rx(h:Value)(w:World):(Go.method 505 202 (.agg #[h]) "Kind").run Tryz.prog w=.ok (277,h) w:=by kernel_rfl
theorem yc(w:World):((ReflectliteType.abiMethod fun t=>(fun a:Nat=>Value.int IntKind.u8 (a:Int))<$>Rtype.kind t) #[.pointer (some ⟨10,69,none⟩)]).run Tryz.prog w=.ok (.int .u8 22) w:=by kernel_rfl
theorem yd(w:World):((ReflectliteType.abiMethod fun t=>(fun a:Nat=>Value.int IntKind.u8 (a:Int))<$>Rtype.kind t) #[.pointer (some ⟨10,67,none⟩)]).run Tryz.prog w=.ok (.int .u8 22) w:=by kernel_rfl
theorem rlm(z:Sem Value)(f:TypeId->Addr->Nat->Nat->Sem Value)(v:Value):
 ReflectliteValue.method z f #[v]=(do match <-ReflectliteValue.parts v with|none=>z|some (t,a,fl)=>f t a fl (fl % 32)):=rfl
theorem pQ(a:Addr)(w:World):(ReflectliteValue.parts (.agg #[.pointer (some ⟨10,69,none⟩),.pointer (some a),.int .u64 150])).run Tryz.prog w=.ok (some (69,a,150)) w:=by kernel_rfl
theorem vI(a p:Addr)(W:World)(ha:W.cell? a=some (.pointer (some p))):
 (ReflectliteValue.method (ReflectliteValue.valueError "reflectlite.Value.IsNil" 0) ReflectliteValue.isNil #[.agg #[.pointer (some ⟨10,69,none⟩),.pointer (some a),.int .u64 150]]).run Tryz.prog W=.ok (.bool false) W:=by
 rw[rlm]
 simp only[Sem.run_bind,pQ,Result.andThen]
 simp[ReflectliteValue.isNil,loadVar,isAgg,underlying,Tryz.underlying69,ha,Result.andThen]
theorem ry(h:Value)(w:World):(Go.method 505 202 (.agg #[h]) "Elem").run Tryz.prog w=.ok (291,.agg #[h]) w:=by kernel_rfl
theorem mQ(h:Value)(w:World):(Go.method 505 202 (.agg #[h]) "Implements").run Tryz.prog w=.ok (292,.agg #[h]) w:=by kernel_rfl
theorem lC(h:Value)(w:World):(Go.method 505 202 (.agg #[h]) "AssignableTo").run Tryz.prog w=.ok (289,.agg #[h]) w:=by kernel_rfl
theorem yg(w:World):(ReflectliteType.method ReflectliteType.elem #[.agg #[.pointer (some ⟨10,69,none⟩)]]).run Tryz.prog w=.ok (.iface 202 (.agg #[.pointer (some ⟨10,67,none⟩)])) w:=by kernel_rfl
theorem pD(w:World):(ReflectliteType.relation "Implements" ReflectliteType.implements_ #[.agg #[.pointer (some ⟨10,67,none⟩)],.iface 202 (.agg #[.pointer (some ⟨10,65,none⟩)])]).run Tryz.prog w=.ok (.bool true) w:=by kernel_rfl
theorem tU(v:Value)(w:World):(ReflectliteType.typeOf #[.iface 67 v]).run Tryz.prog w=.ok (.iface 202 (.agg #[.pointer (some ⟨10,67,none⟩)])) w:=by kernel_rfl
theorem pE(w:World):(ReflectliteType.relation "AssignableTo" ReflectliteType.assignableTo #[.agg #[.pointer (some ⟨10,67,none⟩)],.iface 202 (.agg #[.pointer (some ⟨10,67,none⟩)])]).run Tryz.prog w=.ok (.bool true) w:=by kernel_rfl
theorem sO(e:Addr)(w:World):(ReflectliteValue.unpack (.iface 67 (.pointer (some e)))).run Tryz.prog w
 =.ok (.agg #[.pointer (some ⟨10,67,none⟩),.pointer (some ⟨w.heap.size,0,none⟩),.int .u64 150]) (w.alloc (.cells #[.pointer (some e)] 67)):=by kernel_rfl
theorem tX(w:World):(Rtype.elem? 69).run Tryz.prog w=.ok (some 67) w:=by kernel_rfl
theorem tz_mk25(p:Addr)(w:World):(ReflectliteValue.mk 67 p ReflectliteValue.flagAddr).run Tryz.prog w=.ok (.agg #[.pointer (some ⟨10,67,none⟩),.pointer (some p),.int .u64 406]) w:=by kernel_rfl
theorem vJ(a p:Addr)(W:World)(ha:W.cell? a=some (.pointer (some p))):
 (ReflectliteValue.method (ReflectliteValue.valueError "reflectlite.Value.Elem" 0) ReflectliteValue.elem #[.agg #[.pointer (some ⟨10,69,none⟩),.pointer (some a),.int .u64 150]]).run Tryz.prog W
  =.ok (.agg #[.pointer (some ⟨10,67,none⟩),.pointer (some p),.int .u64 406]) W:=by
 rw[rlm]
 simp only[Sem.run_bind,pQ,Result.andThen]
 simp[ReflectliteValue.elem,loadVar,isAgg,underlying,Tryz.underlying69,ha,Result.andThen,tX,tz_mk25]
theorem rls(v x:Value):ReflectliteValue.set #[v,x]=(do
 let(some (dst,a,fl),some (src,b,_)):=(<-ReflectliteValue.parts v,<-ReflectliteValue.parts x)
  |unsupported (.noEntry "extern/(internal/reflectlite.Value).Set.zeroValue")
 if fl / ReflectliteValue.flagAddr % 2==0 then unsupported (.noEntry "extern/(internal/reflectlite.Value).Set.unaddressable")
 let val <-loadVar src b
 if <-Rtype.directlyAssignable dst src then storeVar dst a val
 else if <-Rtype.implements dst src then
  if(<-Rtype.kind src)==20 then
   match val with
   |.nilIface=>unsupported (.noEntry "extern/reflectlite: a nil value of one interface type handed on as a value of another")
   |_=>storeVar dst a val
  else storeVar dst a (.iface src val)
 else panicString ("reflectlite.Set: value of type " ++(<-Rtype.spelt src)++ " is not assignable to type " ++(<-Rtype.spelt dst))
 pure (.tuple #[])):=rfl
theorem tV(a:Addr)(w:World):(ReflectliteValue.parts (.agg #[.pointer (some ⟨10,67,none⟩),.pointer (some a),.int .u64 406])).run Tryz.prog w=.ok (some (67,a,406)) w:=by kernel_rfl
theorem vH(a:Addr)(w:World):(ReflectliteValue.parts (.agg #[.pointer (some ⟨10,67,none⟩),.pointer (some a),.int .u64 150])).run Tryz.prog w=.ok (some (67,a,150)) w:=by kernel_rfl
theorem tY(w:World):(Rtype.directlyAssignable 67 67).run Tryz.prog w=.ok true w:=by kernel_rfl
theorem tz_size25(w:World):(sizeOf 67).run Tryz.prog w=.ok 1 w:=by kernel_rfl
theorem zC(ta b e:Addr)(old:Value)(W:World)(hb:W.cell? b=some (.pointer (some e)))(ht:W.cell? ta=some old)(hf:W.frozen? ta=false):
 (ReflectliteValue.set #[.agg #[.pointer (some ⟨10,67,none⟩),.pointer (some ta),.int .u64 406],.agg #[.pointer (some ⟨10,67,none⟩),.pointer (some b),.int .u64 150]]).run Tryz.prog W
  =.ok (.tuple #[]) (W.setCell ta (.pointer (some e))):=by
 rw[rls]
 simp only[Sem.run_bind,tV,vH,Result.andThen]
 simp[ReflectliteValue.flagAddr,loadVar,isAgg,underlying,Tryz.underlying67,hb,Result.andThen,tY,storeVar,Value.cells,storeCells,Addr.add]
 rw[Go.run_store Tryz.prog W ta _ _ (by rfl)]
 simp[ht,hf]
set_option maxHeartbeats 4000000 in
set_option maxRecDepth 100000 in
theorem as_hit (e t:Addr) (old:Value) (w:World) (hg:w.cell? ⟨4,0,none⟩=some (.iface 202 (.agg #[.pointer (some ⟨10,65,none⟩)]))) (ht0:w.cell? t=some old) (hf0:w.frozen? t=false):
 Calls Tryz.prog 30 #[.iface 67 (.pointer (some e)),.iface 69 (.pointer (some t))] w fun ev w'=>ev=.returned (.bool true)/\w'=((((w.alloc (.cells #[.pointer (some t)] 69)).alloc (.cells #[.pointer (some ⟨10,69,none⟩),.pointer (some ⟨w.heap.size,0,none⟩),.int .u64 150] 130)).alloc (.cells #[.pointer (some ⟨10,69,none⟩),.pointer (some ⟨w.heap.size,0,none⟩),.int .u64 150] 130)).alloc (.cells #[.pointer (some e)] 67)).setCell t (.pointer (some e)):=by
 have h6:=@run_callFunc_extern Tryz.prog 60 _ (fun args=>ReflectliteValue.unpack (args.getD 0 (.tuple #[]))) Tryz.func60 (by kernel_rfl) (by kernel_rfl) (by kernel_rfl) (by kernel_rfl)
 have h7:=@run_callFunc_extern Tryz.prog 61 _ (ReflectliteValue.methodAny (ReflectliteValue.valueError "reflectlite.Value.Type" 0) (fun t _ _ _=>ReflectliteType.toType t)) Tryz.func61 (by kernel_rfl) (by kernel_rfl) (by kernel_rfl) (by kernel_rfl)
 have h8:=@run_callFunc_extern Tryz.prog 62 _ (ReflectliteValue.method (ReflectliteValue.valueError "reflectlite.Value.IsNil" 0) ReflectliteValue.isNil) Tryz.func62 (by kernel_rfl) (by kernel_rfl) (by kernel_rfl) (by kernel_rfl)
 have h27:=@run_callFunc_extern Tryz.prog 277 _ (ReflectliteType.abiMethod fun t=>do pure (.int .u8 (<-Rtype.kind t))) Tryz.func277 (by kernel_rfl) (by kernel_rfl) (by kernel_rfl) (by kernel_rfl)
 have h37:=@run_callFunc_extern Tryz.prog 291 _ (ReflectliteType.method ReflectliteType.elem) Tryz.func291 (by kernel_rfl) (by kernel_rfl) (by kernel_rfl) (by kernel_rfl)
 have h38:=@run_callFunc_extern Tryz.prog 292 _ (ReflectliteType.relation "Implements" ReflectliteType.implements_) Tryz.func292 (by kernel_rfl) (by kernel_rfl) (by kernel_rfl) (by kernel_rfl)
 have h10:=@run_callFunc_extern Tryz.prog 64 _ ReflectliteType.typeOf Tryz.func64 (by kernel_rfl) (by kernel_rfl) (by kernel_rfl) (by kernel_rfl)
 have h35:=@run_callFunc_extern Tryz.prog 289 _ (ReflectliteType.relation "AssignableTo" ReflectliteType.assignableTo) Tryz.func289 (by kernel_rfl) (by kernel_rfl) (by kernel_rfl) (by kernel_rfl)
 have h11:=@run_callFunc_extern Tryz.prog 115 _ (ReflectliteValue.method (ReflectliteValue.valueError "reflectlite.Value.Elem" 0) ReflectliteValue.elem) Tryz.func115 (by kernel_rfl) (by kernel_rfl) (by kernel_rfl) (by kernel_rfl)
 have h12:=@run_callFunc_extern Tryz.prog 116 _ ReflectliteValue.set Tryz.func116 (by kernel_rfl) (by kernel_rfl) (by kernel_rfl) (by kernel_rfl)
 have tO:=tU
 have mA:=lC
 have a25:=pE
 have v25:=sO
 have f6:=sN
 have f7:=xY
 have mK:=rx
 have mE:=ry
 have mI:=mQ
 have k27:=yc
 have k25:=yd
 have e27:=yg
 have i25:=pD
 have n8:=vI ⟨w.heap.size,0,none⟩ t ((w.alloc (.cells #[.pointer (some t)] 69)).alloc (.cells #[.pointer (some ⟨10,69,none⟩),.pointer (some ⟨w.heap.size,0,none⟩),.int .u64 150] 130)) (by simp)
 have hlt:4<w.heap.size:=by
  rcases Nat.lt_or_ge 4 w.heap.size with h|h0
  ·exact h
  ·simp[World.cell?,Array.getElem?_eq_none h0]at hg
 have hg2:((w.alloc (.cells #[.pointer (some t)] 69)).alloc (.cells #[.pointer (some ⟨10,69,none⟩),.pointer (some ⟨w.heap.size,0,none⟩),.int .u64 150] 130)).cell? ⟨4,0,none⟩=some (.iface 202 (.agg #[.pointer (some ⟨10,65,none⟩)])):=by
  rw[World.cell?_alloc_lt _ _ ⟨4,0,none⟩ (by simp;omega),World.cell?_alloc_lt _ _ ⟨4,0,none⟩ hlt];exact hg
 have htl:t.block<w.heap.size:=by
  rcases Nat.lt_or_ge t.block w.heap.size with h|h
  ·exact h
  ·simp[World.cell?,Array.getElem?_eq_none h]at ht0
 have el:=vJ ⟨w.heap.size,0,none⟩ t (((w.alloc (.cells #[.pointer (some t)] 69)).alloc (.cells #[.pointer (some ⟨10,69,none⟩),.pointer (some ⟨w.heap.size,0,none⟩),.int .u64 150] 130)).alloc (.cells #[.pointer (some ⟨10,69,none⟩),.pointer (some ⟨w.heap.size,0,none⟩),.int .u64 150] 130)) (by rw[World.cell?_alloc_lt _ _ ⟨w.heap.size,0,none⟩ (by simp;omega)];simp)
 have st:=zC t ⟨w.heap.size+1+1+1,0,none⟩ e old ((((w.alloc (.cells #[.pointer (some t)] 69)).alloc (.cells #[.pointer (some ⟨10,69,none⟩),.pointer (some ⟨w.heap.size,0,none⟩),.int .u64 150] 130)).alloc (.cells #[.pointer (some ⟨10,69,none⟩),.pointer (some ⟨w.heap.size,0,none⟩),.int .u64 150] 130)).alloc (.cells #[.pointer (some e)] 67))
  (by rw[World.cell?_alloc_at _ _ _ _ (by simp)];rfl)
  (by rw[World.cell?_alloc_lt _ _ t (by simp;omega),World.cell?_alloc_lt _ _ t (by simp;omega),World.cell?_alloc_lt _ _ t (by simp;omega),World.cell?_alloc_lt _ _ t htl];exact ht0)
  (by rw[World.frozen?_alloc_old _ _ t (by simp;omega),World.frozen?_alloc_old _ _ t (by simp;omega),World.frozen?_alloc_old _ _ t (by simp;omega),World.frozen?_alloc_old _ _ t (Nat.ne_of_lt htl)];exact hf0)
 go_enter Tryz.func30,Tryz.ntmps30
 go_wp2
 refine wp_loop_rounds 1 ?_
 rw[rounds_succ]
 go_wp2
 go_ret
 exact⟨rfl,rfl⟩
end
open Go.Proofs
section
open Go.RowKit Go.Extern.Stop Go.Stop Go.Extern
theorem tW(v:Value)(w:World):(Extern.ReflectliteType.typeOf #[.iface 375 v]).run Tryz.prog w=.ok (.iface 202 (.agg #[.pointer (some ⟨10,375,none⟩)])) w:=by kernel_rfl
theorem pC(w:World):((Extern.ReflectliteType.method fun t=>do Go.Extern.Rtype.noPackHeld "Comparable" t;pure (.bool (<-typeInfo t).comparable)) #[.agg #[.pointer (some ⟨10,375,none⟩)]]).run Tryz.prog w=.ok (.bool true) w:=by kernel_rfl
theorem lD(v:Value)(w:World):(Go.method 505 202 v "Comparable").run Tryz.prog w=.ok (290,v) w:=by kernel_rfl
theorem yf:(Tryz.prog.info? 375).map (·.comparable)=some true:=by kernel_rfl
theorem ye:(Tryz.prog.info? 393).map (·.size)=some 1:=by kernel_rfl
theorem zE(v:Value)(xT:TypeId)(w:World):(Instr.typeAssert (.iface 375 v) xT 214 true).run Tryz.prog w=.ok (.tuple #[.nilIface,.bool false]) w:=run_typeAssert_lacksB Tryz.underlying214 (by kernel_rfl) (by kernel_rfl) v xT w
theorem sP(v:Value)(xT:TypeId)(w:World):(Instr.typeAssert (.iface 375 v) xT 209 true).run Tryz.prog w=.ok (.tuple #[.nilIface,.bool false]) w:=run_typeAssert_lacksB Tryz.underlying209 (by kernel_rfl) (by kernel_rfl) v xT w
theorem rv(v:Value)(xT:TypeId)(w:World):(Instr.typeAssert (.iface 375 v) xT 211 true).run Tryz.prog w=.ok (.tuple #[.nilIface,.bool false]) w:=run_typeAssert_lacksB Tryz.underlying211 (by kernel_rfl) (by kernel_rfl) v xT w
theorem zD(v:Value)(xT:TypeId)(w:World):(Instr.typeAssert (.iface 67 v) xT 214 true).run Tryz.prog w=.ok (.tuple #[.nilIface,.bool false]) w:=run_typeAssert_lacksB Tryz.underlying214 (by kernel_rfl) (by kernel_rfl) v xT w
theorem rz(v:Value)(xT:TypeId)(w:World):(Instr.typeAssert (.iface 67 v) xT 209 true).run Tryz.prog w=.ok (.tuple #[.iface 67 v,.bool true]) w:=run_typeAssert_hasB Tryz.underlying209 (by kernel_rfl) v xT w
theorem pB(v:Value)(w:World):(Go.method 505 67 v "Unwrap").run Tryz.prog w=.ok (282,v) w:=by kernel_rfl
set_option maxHeartbeats 4000000 in
set_option maxRecDepth 1000000 in
theorem tz_is {W:World} (b:Nat) (x k:Addr) (cb ca:Array Value) (tb ta:TypeId) (hx:W.heap[x.block]?=some (.cells ca ta (0,0))) (hk:W.heap[k.block]?=some (.cells cb tb (0,0)))
 (hc:W.cell? ⟨b,1,none⟩=some (.iface 375 (.pointer (some x)))):
 Calls Tryz.prog 65 #[.iface 67 (.pointer (some ⟨b,0,none⟩)),.iface 375 (.pointer (some k)),.bool true] W fun e w'=>e=.returned (.bool (decide (x=k)))/\w'=W:=by
 obtain⟨i,hi,hcmp⟩:=a7.1 yf
 obtain⟨j,hj,hjs⟩:=a7.1 ye
 have nE:=zE
 have uE:=sP
 have vE:=rv
 have nW:=zD
 have uW:=rz
 have mU:=pB
 have hty:=fun wr=>run_eql_iface_types (P:=Tryz.prog) 67 375 (.pointer (some ⟨b,0,none⟩)) (.pointer (some k)) Tryz.underlying65 (by decide) wr
 have heq:∀wr:World,wr.heap=W.heap->(binOp .eql 65 (.iface 375 (.pointer (some x))) (.iface 375 (.pointer (some k)))).run Tryz.prog wr=.ok (.bool (decide (x=k))) wr:=fun wr hw=>by
  by_cases h:x=k
  ·subst h
   rw[decide_eq_true rfl]
   exact run_eql_iface_ptr_same (P:=Tryz.prog) _ x Tryz.underlying65 Tryz.underlying375 hi hcmp hj
  ·rw[decide_eq_false h]
   exact run_eql_iface_ptr_other (P:=Tryz.prog) _ Tryz.underlying65 Tryz.underlying375 hi hcmp hj (by rw[hjs];decide) h (by rw[hw];exact hx) (by rw[hw];exact hk)
 have heq:=heq W rfl
 have hty:=hty W
 go_enter Tryz.func65,Tryz.ntmps65
 go_wp2
 refine wp_loop_rounds 2 ?_
 rw[rounds_succ]
 go_wp2
 rw[rounds_succ]
 go_wp2
 ·rename_i h
  go_ret
  exact⟨by rw[show decide (x=k)=true by simpa using h];rfl,rfl⟩
 ·rename_i h
  go_ret
  exact⟨by rw[show decide (x=k)=false by simpa using h];rfl,rfl⟩
set_option maxHeartbeats 4000000 in
set_option maxRecDepth 1000000 in
theorem tz_Is {W:World} (b:Nat) (x k:Addr) (cb ca:Array Value) (tb ta:TypeId) (hx:W.heap[x.block]?=some (.cells ca ta (0,0))) (hk:W.heap[k.block]?=some (.cells cb tb (0,0)))
 (hc:W.cell? ⟨b,1,none⟩=some (.iface 375 (.pointer (some x)))):
 Calls Tryz.prog 31 #[.iface 67 (.pointer (some ⟨b,0,none⟩)),.iface 375 (.pointer (some k))] W fun e w'=>e=.returned (.bool (decide (x=k)))/\w'=W:=by
 have h10:=@run_callFunc_extern Tryz.prog 64 _ Extern.ReflectliteType.typeOf Tryz.func64 (by kernel_rfl) (by kernel_rfl) (by kernel_rfl) (by kernel_rfl)
 have h30:=@run_callFunc_extern Tryz.prog 290 _ (Extern.ReflectliteType.method fun t=>do Go.Extern.Rtype.noPackHeld "Comparable" t;pure (.bool (<-typeInfo t).comparable)) Tryz.func290 (by kernel_rfl) (by kernel_rfl) (by kernel_rfl) (by kernel_rfl)
 have tT:=tW
 have cT:=fun w=>(h30 #[.agg #[.pointer (some ⟨10,375,none⟩)]] w).trans (by rw[pC w];rfl:_=Result.ok (Next.value (.bool true)) w)
 clear h30
 have mR:=lD
 have hcon:=tz_is b x k cb ca tb ta hx hk hc
 go_enter Tryz.func31,Tryz.ntmps31
 go_wp2_with (first|(go_at_call 65;refine hcon.mono ?_;rintro e w' ⟨rfl,rfl⟩)|go_in)
 go_ret
 exact⟨rfl,rfl⟩
end
open Go.Proofs
theorem zO{M:bF}{H:aj}{w w':World}(s:Sim M H w){t:Nat}{o:List AC}(ht:H.get t=some (.cells o)){x:AC}{v:Value}{el:TypeId}(hx:x.one=true)(hr:Rep M x v)
(hc:w'.heap[t]?=some (.cells #[v] el (0,0)))(ho:∀k,k<w.heap.size->k≠t->w'.heap[k]?=w.heap[k]?)(hs:w.heap.size<=w'.heap.size)(hio:pJ w w'):
 Sim M (H.set t (.cells [x])) w'/\bC M H w M (H.set t (.cells [x])) w':=by
 obtain⟨vs0,el0,q1,q2,q3,q4,q5⟩:=s.obj t _ ht
 refine⟨⟨fun b o v hm=>?_,fun b h hb=>?_⟩,⟨bF.le_refl M,hs,fun b hb hn=>⟨ho b hb fun e=>by subst e;rw[ht]at hn;simp at hn,fun _=>rfl⟩,fun b hb=>?_,hio⟩⟩
 ·have hbt:b≠t:=fun e=>by subst e;rw[q5]at hm;simp at hm
  have h1:=s.mem b o v hm
  rw[eo]at h1⊢
  rw[ho b (s.mem_lt hm) hbt];exact h1
 ·rw[aK]at hb
  split at hb
  ·rename_i e;subst e;simp at hb;subst hb
   refine⟨#[v],el,hc,by simpa using hx,by simp,fun j y u hy hu=>?_,q5⟩
   cases j with
   |zero=>simp at hy hu;subst hy hu;exact hr
   |succ j=>simp at hy
  ·rename_i hbt
   have h1:=s.obj b h hb
   have e:=ho b (s.lt hb) hbt
   cases h with
   |cells cs=>obtain⟨vs,el,h1,h2⟩:=h1;exact⟨vs,el,e.trans h1,h2⟩
   |tail n m'=>obtain⟨vs,el,h1,h2⟩:=h1;exact⟨vs,el,e.trans h1,h2⟩
   |typed ty cs=>obtain⟨vs,h1,h2⟩:=h1;exact⟨vs,e.trans h1,h2⟩
   |map f=>obtain⟨es,cl,h1,h2⟩:=h1;exact⟨es,cl,e.trans h1,h2⟩
   |const ob cs=>obtain⟨h1,h2⟩:=h1;exact⟨e.trans h1,h2⟩
 ·rw[aK]at hb
  split at hb
  ·rename_i e;subst e;exact .inl (by rw[ht];simp)
  ·exact .inl hb
theorem rep2{M:bF}{x y:AC}{vs:List Value}(r:gP M [x,y] vs):∃v u,vs=[v,u]/\Rep M x v/\Rep M y u:=by
 obtain⟨hl,h⟩:=r
 match vs,hl with
 |[v,u],_=>exact⟨v,u,rfl,h 0 x v rfl rfl,h 1 y u rfl rfl⟩
theorem Rep.iface_inv{M:bF}{t:TypeId}{x:AC}{u:Value}(h:Rep M (.iface t x) u):∃v,u=.iface t v/\Rep M x v:=by cases h;exact⟨_,rfl,by assumption⟩
theorem z_nil(x:AC)(H:aj):ACalls Tryz.prog 30 [.lit .nilIface,x] H fun q H'=>q=B false/\H'=H:=by
 intro M w vs s r
 obtain⟨v,u,rfl,h1,h2⟩:=rep2 r
 obtain⟨rfl,-⟩:=h1.lit_inv
 refine(as_nil u w).mono ?_
 rintro e w' ⟨rfl,rfl⟩
 exact⟨B false,_,M,H,rfl,.lit trivial,s,bC.refl _ _ _,rfl,rfl⟩
theorem z_hit{H0:aj}{el:TypeId}{fr:Nat×Nat}{X:List AC}(h3:H0.get 4=some (.const (.cells #[.iface 202 (.agg #[.pointer (some ⟨10,65,none⟩)])] el fr) X))(b t:Nat)(H:aj)(h0:H0.sub H)(ht:H.get t=some (.cells [.lit (.pointer none)])):
 ACalls Tryz.prog 30 [.iface 67 (.ptr b 0),.iface 69 (.ptr t 0)] H fun q H'=>q=B true/\H'=H.set t (.cells [.ptr b 0]):=by
 intro M w vs s r
 obtain⟨v,u,rfl,h1,h2⟩:=rep2 r
 obtain⟨v',rfl,a1⟩:=h1.iface_inv
 obtain⟨u',rfl,a2⟩:=h2.iface_inv
 obtain rfl:=a1.ptr_inv
 obtain rfl:=a2.ptr_inv
 obtain⟨vs0,el0,q1,q2,q3,q4,q5⟩:=s.obj t _ ht
 obtain⟨c0,rfl⟩:∃c,vs0=#[c]:=Array.size_eq_one_iff.1 (by simpa using q3.symm)
 have g3:=(s.obj 4 _ (h0 _ _ h3)).1
 have hg:w.cell? ⟨4,0,none⟩=some (.iface 202 (.agg #[.pointer (some ⟨10,65,none⟩)])):=by rw[eo,g3];rfl
 have ht0:w.cell? ⟨t,0,none⟩=some c0:=by rw[eo,q1];rfl
 have hf0:w.frozen? ⟨t,0,none⟩=false:=by simp[World.frozen?,q1]
 have htl:=s.lt ht
 refine(as_hit ⟨b,0,none⟩ ⟨t,0,none⟩ c0 w hg ht0 hf0).mono ?_
 rintro e w' ⟨rfl,rfl⟩
 have key:=zO (w':=((((w.alloc (.cells #[.pointer (some ⟨t,0,none⟩)] 69)).alloc (.cells #[.pointer (some ⟨10,69,none⟩),.pointer (some ⟨w.heap.size,0,none⟩),.int .u64 150] 130)).alloc (.cells #[.pointer (some ⟨10,69,none⟩),.pointer (some ⟨w.heap.size,0,none⟩),.int .u64 150] 130)).alloc (.cells #[.pointer (some ⟨b,0,none⟩)] 67)).setCell ⟨t,0,none⟩ (.pointer (some ⟨b,0,none⟩))) s ht (x:=.ptr b 0) (v:=.pointer (some ⟨b,0,none⟩)) (el:=el0) rfl .ptr ?_ ?_ ?_ ?_
 ·exact⟨B true,_,M,_,rfl,.lit trivial,key.1,key.2,rfl,rfl⟩
 ·have e1:(((((w.alloc (.cells #[.pointer (some ⟨t,0,none⟩)] 69)).alloc (.cells #[.pointer (some ⟨10,69,none⟩),.pointer (some ⟨w.heap.size,0,none⟩),.int .u64 150] 130)).alloc (.cells #[.pointer (some ⟨10,69,none⟩),.pointer (some ⟨w.heap.size,0,none⟩),.int .u64 150] 130)).alloc (.cells #[.pointer (some ⟨b,0,none⟩)] 67)).heap)[t]?=some (.cells #[c0] el0 (0,0)):=by
   simp only[World.alloc,Array.getElem?_push,Array.size_push]
   rw[if_neg (by omega),if_neg (by omega),if_neg (by omega),if_neg (by omega)];exact q1
  simp only[World.setCell]
  rw[Array.getElem?_modify,if_pos rfl,e1]
  rfl
 ·intro k hk hkt
  rw[Go.RowKit.Below.heap_setCell _ _ _ _ hkt]
  simp only[World.alloc,Array.getElem?_push,Array.size_push]
  rw[if_neg (by omega),if_neg (by omega),if_neg (by omega),if_neg (by omega)]
 ·simp only[World.setCell,World.alloc,Array.size_modify,Array.size_push];omega
 ·exact⟨rfl,rfl⟩
theorem z_is{H:aj}{x k:Addr}{cx ck:Array Value}{tx tk:TypeId}{X K:List AC}(hx:H.get x.block=some (.const (.cells cx tx (0,0)) X))(hk:H.get k.block=some (.const (.cells ck tk (0,0)) K))(b:Nat)(i:Int)
(hb:H.get b=some (.cells [I i,.iface 375 (.lit (.pointer (some x)))])):
 ACalls Tryz.prog 31 [.iface 67 (.ptr b 0),.iface 375 (.lit (.pointer (some k)))] H fun q H'=>q=B (decide (x=k))/\H'=H:=by
 intro M w vs s r
 obtain⟨v,u,rfl,h1,h2⟩:=rep2 r
 obtain⟨v',rfl,a1⟩:=h1.iface_inv
 obtain⟨u',rfl,a2⟩:=h2.iface_inv
 obtain rfl:=a1.ptr_inv
 obtain⟨rfl,-⟩:=a2.lit_inv
 obtain⟨vs0,el0,q1,q2,q3,q4,q5⟩:=s.obj b _ hb
 have hl:1<vs0.size:=by simp at q3;omega
 have r1:=q4 1 _ _ rfl (de hl)
 obtain⟨v1,e1,r2⟩:=r1.iface_inv
 obtain⟨rfl,-⟩:=r2.lit_inv
 have hc:w.cell? ⟨b,1,none⟩=some (.iface 375 (.pointer (some x))):=by rw[eo,q1];simp only;rw[de hl,e1]
 refine(tz_Is b x k ck cx tk tx (s.obj _ _ hx).1 (s.obj _ _ hk).1 hc).mono ?_
 rintro e w' ⟨rfl,rfl⟩
 exact⟨B (decide (x=k)),_,M,H,rfl,.lit trivial,s,bC.refl _ _ _,rfl,rfl⟩
open Go.Proofs
section
open Go.RowKit Go.ChangeShapes
def Bq(W:World)(g:Nat)(a:Addr)(text:List UInt8):Prop:=
 (∃el fr,W.heap[g]?=some (.cells #[.iface 375 (.pointer (some a))] el fr))/\(∃c t,W.heap[a.block]?=some (.cells c t (0,0)))/\∃s:ByteArray,W.cell? a=some (.string s)/\s.data.toList=text
theorem xj: "*" ++ "errors.errorString" = "*errors.errorString" :=by decide
theorem tz_row(u:TypeId)(h:Tryz.prog.typeName? 3 u=some "*errors.errorString"):u=375:=
 typeName_ptr_named (nm:= "errors.errorString") (by rw[xj];kernel_rfl) (by kernel_rfl) (by decide) u (by rw[xj];exact h)
theorem uL{P:Program}{W:World}{n:String}{g:Nat}(hg:P.globalNamed n=some g){cs:Array Value}(hv:W.var? P n=some cs):∃el fr,W.heap[g]?=some (.cells cs el fr):=by
 simp only[World.var?,hg,Option.bind_some]at hv
 split at hv
 ·rename_i c el fr h;simp at hv;subst hv;exact⟨el,fr,h⟩
 ·simp at hv
theorem sen_of{P:Program}{n nm:String}{text:List UInt8}{r:List (String×DataW Unit)}{W:World}{g:Nat}{ti te ts:TypeId}{ms:Array (String×TypeId)}{f:Field}
(h:laidMet P ((n,.iface nm (.ptr (.agg [.lit (.string text)])))::r) W)
(hg:P.globalNamed n=some g)(ht:(P.globals[g]?).map (·.type)=some ti)(hi:P.underlying ti=some (.interface ms))(hrow:∀u,P.typeName? 3 u=some nm->u=375)
(hp:P.underlying 375=some (.pointer te))(he:P.underlying te=some (.struct #[f]))(hft:f.type=ts)(hfo:f.offset=0)(hs:P.underlying ts=some .string)(hc:P.cellsOf te=1)(hcs:P.cellsOf ts=1):
 (∃a,Bq W g a text)/\laidMet P r W:=by
 refine⟨?_,h.tail⟩
 obtain⟨ps,⟨g0,t0,cs0,f0,p0,q0,hg0,ht0,hv0,hd0,_,e0⟩,_,hrows⟩:=h
 obtain rfl:=Option.some.inj (hg.symm.trans hg0)
 obtain rfl:=Option.some.inj (ht.symm.trans ht0)
 subst e0
 obtain⟨l0⟩:=cs0
 have ok0:∀u v,l0=[.iface u v]->Value.okWide P W .any 0 u v:=fun u v e=>by
  subst e
  exact(hrows g 0 (by simp[MemPlace.row])).2 u v (by simpa using World.var?_cell hg0 hv0 0)
 obtain⟨a0,s0,rfl,hc0,hs0,hz0,rfl⟩:=errorString_of_trod hi hrow hp he hft hfo hs hc hcs hd0 ok0
 obtain⟨c0,t0,hb0⟩:=(hrows a0.block a0.off (by simp[MemPlace.row])).1
 exact⟨a0,uL hg hv0,⟨c0,t0,hb0⟩,s0,hc0,hs0⟩
theorem oa{n:String}{text:List UInt8}{r:List (String×DataW Unit)}{W:World}(g:Nat)(h:laidMet Tryz.prog ((n,.iface "*errors.errorString" (.ptr (.agg [.lit (.string text)])))::r) W)
(hg:Tryz.prog.globalNamed n=some g)(ht:(Tryz.prog.globals[g]?).map (·.type)=some 65):(∃a,Bq W g a text)/\laidMet Tryz.prog r W:=
 sen_of h hg ht Tryz.underlying65 tz_row Tryz.underlying375 Tryz.underlying393 rfl rfl Tryz.underlying9 (by kernel_rfl) (by kernel_rfl)
theorem Bq.ne{W:World}{g h:Nat}{a b:Addr}{t u:List UInt8}(x:Bq W g a t)(y:Bq W h b u)(hn:t≠u):a≠b:=by
 rintro rfl
 obtain⟨-,-,s,e1,e2⟩:=x
 obtain⟨-,-,s',e3,e4⟩:=y
 rw[e1]at e3
 simp only[Option.some.injEq,Value.string.injEq]at e3
 subst e3
 exact hn (e2.symm.trans e4)
theorem tz_rt:(Tryz.prog.cutTypes.find? (·.1== "internal/reflectlite.rtype")).map (·.2)=some 202:=by kernel_rfl
theorem xZ:((dC 405).filter fun t=>Tryz.prog.rowNamed t [101,114,114,111,114])=[65]:=by kernel_rfl
theorem tz_size:Tryz.prog.types.size=405:=by kernel_rfl
theorem tz_et:Tryz.prog.globalNamed "errors.errorType" =some 4:=by kernel_rfl
structure tH(W:World)(a:Int->Addr):Prop where
 sen:∀c,(c=2\/c=3\/c=4\/c=5)->(∃el fr,W.heap[if c=2 then 0 else if c=3 then 1 else if c=4 then 2 else 5]?=some (.cells #[.iface 375 (.pointer (some (a c)))] el fr))/\∃k t,W.heap[(a c).block]?=some (.cells k t (0,0))
 inj:∀c d,(c=2\/c=3\/c=4\/c=5)->(d=2\/d=3\/d=4\/d=5)->a c=a d->c=d
 et:∃el fr,W.heap[4]?=some (.cells #[.iface 202 (.agg #[.pointer (some ⟨10,65,none⟩)])] el fr)
def qB:List (String×DataW Unit):=[("errors.errorType",YtghekniakencpaaGreatDoor.Rows.laid_errors_errorType),("loop.example/handfast/impl.errCheckName",YtghekniakencpaaGreatDoor.Rows.laid_loop_example_handfast_impl_errCheckName),("loop.example/handfast/impl.errCheckType",YtghekniakencpaaGreatDoor.Rows.laid_loop_example_handfast_impl_errCheckType),("loop.example/handfast/impl.errCheckLoan",YtghekniakencpaaGreatDoor.Rows.laid_loop_example_handfast_impl_errCheckLoan),("loop.example/handfast/impl.errCheckOut",YtghekniakencpaaGreatDoor.Rows.laid_loop_example_handfast_impl_errCheckOut)]
theorem errs_of{W:World}(h:laidMetH Tryz.prog qB W):∃a,tH W a:=by
 have h0:(qB.filter fun x=>x.2.handleName?.isSome)=[("errors.errorType",YtghekniakencpaaGreatDoor.Rows.laid_errors_errorType)]:=by kernel_rfl
 have h1:(qB.filter fun x=>x.2.handleName?.isNone)=qB.drop 1:=by kernel_rfl
 unfold laidMetH at h
 rw[h0,h1]at h
 obtain⟨hl,hh⟩:=h
 obtain⟨⟨a2,s2⟩,hl⟩:=oa 0 hl (by kernel_rfl) (by kernel_rfl)
 obtain⟨⟨a3,s3⟩,hl⟩:=oa 1 hl (by kernel_rfl) (by kernel_rfl)
 obtain⟨⟨a4,s4⟩,hl⟩:=oa 2 hl (by kernel_rfl) (by kernel_rfl)
 obtain⟨⟨a5,s5⟩,hl⟩:=oa 5 hl (by kernel_rfl) (by kernel_rfl)
 have n23:=s2.ne s3 (by decide)
 have n24:=s2.ne s4 (by decide)
 have n25:=s2.ne s5 (by decide)
 have n34:=s3.ne s4 (by decide)
 have n35:=s3.ne s5 (by decide)
 have n45:=s4.ne s5 (by decide)
 refine⟨fun c=>if c=2 then a2 else if c=3 then a3 else if c=4 then a4 else a5,⟨?_,?_,?_⟩⟩
 ·rintro c (rfl|rfl|rfl|rfl)
  ·exact⟨s2.1,s2.2.1⟩
  ·exact⟨s3.1,s3.2.1⟩
  ·exact⟨s4.1,s4.2.1⟩
  ·exact⟨s5.1,s5.2.1⟩
 ·rintro c d (rfl|rfl|rfl|rfl) (rfl|rfl|rfl|rfl) e<;>simp at e<;>first|rfl|(exfalso;first|exact n23 e|exact n24 e|exact n25 e|exact n34 e|exact n35 e|exact n45 e|exact n23 e.symm|exact n24 e.symm|exact n25 e.symm|exact n34 e.symm|exact n35 e.symm|exact n45 e.symm)
 ·obtain⟨name,u,ty,e1,e2,e3,e4,e5⟩:=hh _ (bQ.2 rfl)
  have en:name=[101,114,114,111,114]:=(Option.some.inj e1).symm
  subst en
  obtain rfl:=Option.some.inj (tz_rt.symm.trans e2)
  have hm:ty∈(dC 405).filter fun t=>Tryz.prog.rowNamed t [101,114,114,111,114]:=eR.2 ⟨fk.2 (by rw[<-tz_size];exact e3),e4⟩
  rw[xZ]at hm
  obtain rfl:=bQ.1 hm
  have hh:typeHandle Tryz.prog 65=.pointer (some ⟨10,65,none⟩):=by kernel_rfl
  rw[hh]at e5
  exact uL tz_et e5
def ph(w:World):bF:=fun b o=>w.cell? ⟨b,o,none⟩
def ju(W:World)(a:Int->Addr):aj:=⟨fun b=>(W.heap[b]?).map fun o=>.const o (if b=0 then [.iface 375 (.lit (.pointer (some (a 2))))]else if b=1 then [.iface 375 (.lit (.pointer (some (a 3))))]else if b=2 then [.iface 375 (.lit (.pointer (some (a 4))))]else if b=5 then [.iface 375 (.lit (.pointer (some (a 5))))]else []),
 ⟨W.heap.size,fun b hb=>by rw[Array.getElem?_eq_none hb];rfl⟩⟩
theorem pL{W:World}{g:Nat}{v:Value}{u:TypeId}{el:TypeId}{fr:Nat×Nat}(h:W.heap[g]?=some (.cells #[.iface u v] el fr)){X:AC}(hX:∀M,Rep M X v):gY (ph W) W g (.const (.cells #[.iface u v] el fr) [.iface u X]):=by
 refine⟨h,fun _=>.iface u v,by simp[AC.one],fun j hj=>?_,fun j x hx=>?_⟩
 ·have:j=0:=by simpa using hj
  subst this
  simp[ph,eo,h]
 ·cases j with
  |zero=>simp at hx;subst hx;exact .iface (hX _)
  |succ j=>simp at hx
theorem vO{W:World}{a:Int->Addr}(h:tH W a):Sim (ph W) (ju W a) W:=by
 obtain⟨el2,fr2,s2⟩:=(h.sen 2 (.inl rfl)).1
 obtain⟨el3,fr3,s3⟩:=(h.sen 3 (.inr (.inl rfl))).1
 obtain⟨el4,fr4,s4⟩:=(h.sen 4 (.inr (.inr (.inl rfl)))).1
 obtain⟨el5,fr5,s5⟩:=(h.sen 5 (.inr (.inr (.inr rfl)))).1
 refine⟨fun _ _ _ hm=>hm,fun b o hb=>?_⟩
 simp only[ju,a7]at hb
 obtain⟨o',ho,rfl⟩:=hb
 split
 ·rename_i e;subst e
  obtain rfl:=Option.some.inj (ho.symm.trans s2)
  exact pL s2 fun M=>.lit trivial
 split
 ·rename_i e;subst e
  obtain rfl:=Option.some.inj (ho.symm.trans s3)
  exact pL s3 fun M=>.lit trivial
 split
 ·rename_i e;subst e
  obtain rfl:=Option.some.inj (ho.symm.trans s4)
  exact pL s4 fun M=>.lit trivial
 split
 ·rename_i e;subst e
  obtain rfl:=Option.some.inj (ho.symm.trans s5)
  exact pL s5 fun M=>.lit trivial
 ·exact⟨ho,fun _=>.nilIface,by simp,fun j hj=>by simp at hj,fun j x hx=>by simp at hx⟩
def tq(W:World)(a:Int->Addr):bK:=⟨fun c=>(W.heap[if c=2 then 0 else if c=3 then 1 else if c=4 then 2 else 5]?).getD (.cells #[] 0 (0,0)),fun _=>375,fun c=>.lit (.pointer (some (a c)))⟩
theorem wv{W:World}{a:Int->Addr}(h:tH W a)(c:Int)(hc:c=2\/c=3\/c=4\/c=5):(ju W a).get (if c=2 then 0 else if c=3 then 1 else if c=4 then 2 else 5)=some (.const ((tq W a).o c) [.iface ((tq W a).t c) ((tq W a).x c)]):=by
 obtain⟨⟨el,fr,s⟩,-⟩:=h.sen c hc
 rcases hc with rfl|rfl|rfl|rfl
 ·have s:W.heap[0]?=_:=s
  show Option.map _ (W.heap[0]?)=some (cz.const ((W.heap[0]?).getD _) _)
  rw[s];rfl
 ·have s:W.heap[1]?=_:=s
  show Option.map _ (W.heap[1]?)=some (cz.const ((W.heap[1]?).getD _) _)
  rw[s];rfl
 ·have s:W.heap[2]?=_:=s
  show Option.map _ (W.heap[2]?)=some (cz.const ((W.heap[2]?).getD _) _)
  rw[s];rfl
 ·have s:W.heap[5]?=_:=s
  show Option.map _ (W.heap[5]?)=some (cz.const ((W.heap[5]?).getD _) _)
  rw[s];rfl
theorem mB{W:World}{a:Int->Addr}{b:Nat}{o:Obj}(h:W.heap[b]?=some o):∃X,(ju W a).get b=some (.const o X):=by
 simp only[ju,h];exact⟨_,rfl⟩
theorem Bj(x:AC)(H:aj):ACalls Tryz.prog 30 [.lit .nilIface,x] H fun q H'=>q=B false/\H'=H:=z_nil x H
theorem Bk{W:World}{a:Int->Addr}(h:tH W a)(b t:Nat)(H:aj)(h0:(ju W a).sub H)(ht:H.get t=some (.cells [.lit (.pointer none)])):
 ACalls Tryz.prog 30 [.iface 67 (.ptr b 0),.iface 69 (.ptr t 0)] H fun q H'=>q=B true/\H'=H.set t (.cells [.ptr b 0]):=by
 obtain⟨el,fr,s⟩:=h.et
 obtain⟨X,hX⟩:=mB (a:=a) s
 exact z_hit hX b t H h0 ht
theorem asis_is{W:World}{a:Int->Addr}(h:tH W a)(b:Nat)(i c k:Int)(H:aj)(h0:(ju W a).sub H)(hc:c=2\/c=3\/c=4\/c=5)(hk:k=2\/k=3\/k=4\/k=5)(hb:H.get b=some (.cells [I i,.iface ((tq W a).t c) ((tq W a).x c)])):
 ACalls Tryz.prog 31 [.iface 67 (.ptr b 0),.iface ((tq W a).t k) ((tq W a).x k)] H fun q H'=>q=B (decide (c=k))/\H'=H:=by
 obtain⟨-,c1,t1,s1⟩:=h.sen c hc
 obtain⟨-,c2,t2,s2⟩:=h.sen k hk
 obtain⟨X,hX⟩:=mB (a:=a) s1
 obtain⟨K,hK⟩:=mB (a:=a) s2
 have key:=z_is (h0 _ _ hX) (h0 _ _ hK) b i hb
 have e:decide (c=k)=decide (a c=a k):=by
  by_cases e:c=k
  ·subst e;simp
  ·rw[decide_eq_false e,decide_eq_false fun e2=>e (h.inj c k hc hk e2)]
 rw[e]
 exact key
end
end Go.Xl
