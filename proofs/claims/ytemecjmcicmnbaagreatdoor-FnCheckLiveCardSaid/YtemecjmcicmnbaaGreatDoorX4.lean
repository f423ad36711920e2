/- FnCheckLive: a part of the proof. -/
import Derived.Test.YtemecjmcicmnbaaGreatDoorX3
set_option linter.unusedVariables false
set_option linter.unusedSimpArgs false
namespace Go.Xl
open _root_.Bool renaming and_eq_false_iff -> cO, and_eq_true -> aw, and_false -> aO, and_self -> fP, and_true -> fO, eq_iff_iff -> aZ, false_and -> aK, false_eq_true -> ap, false_ne_true -> fL, false_or -> dK, not_eq_true' -> dJ, or_eq_true -> dq, or_false -> dI, or_self -> gP, true_and -> bX, true_or -> dZ
open _root_.Int renaming le_refl -> dz, natCast_zero -> cW, reduceEq -> bp, reduceLE -> dO
open _root_.List renaming all_append -> eG, all_eq_false -> du, all_eq_true -> aW, any_append -> fy, any_eq_true -> fJ, append_assoc -> dY, append_nil -> cX, cons_append -> cB, drop_eq_getElem_cons -> bU, drop_length -> l8, drop_succ_cons -> gE, drop_zero -> ip, eq_nil_of_length_eq_zero -> bu, ext_getElem? -> gd, findIdx?_eq_none_iff -> iB, findIdx?_eq_some_iff_getElem -> bQ, flatten_cons -> aq, flatten_nil -> az, foldl_cons -> dC, getElem?_append_left -> aR, getElem?_append_right -> bi, getElem?_cons_succ -> aB, getElem?_cons_zero -> a7, getElem?_drop -> bC, getElem?_eq_getElem -> av, getElem?_eq_none -> fE, getElem?_eq_some_iff -> aQ, getElem?_map -> cA, getElem?_take_of_lt -> dw, getElem_append_left -> dv, getElem_map -> gX, getElem_mem -> ay, length_append -> bq, length_cons -> aV, length_drop -> eX, length_eq_zero_iff -> cN, length_filter_le -> ix, length_map -> am, length_nil -> bP, length_take -> bk, map_append -> bB, map_congr_left -> fw, map_cons -> aS, map_nil -> bv, map_take -> gU, mem_append -> aF, mem_cons -> bf, mem_cons_of_mem -> dt, mem_cons_self -> fI, mem_filter -> eF, mem_iff_getElem -> bj, mem_map -> aY, mem_map_of_mem -> cu, mem_of_getElem? -> ba, mem_range -> eT, mem_singleton -> cn, nil_append -> dm, nodup_append -> fZ, not_mem_nil -> cq, replicate -> ax, take_append_drop -> iw, take_length -> aU, take_of_length_le -> cF, take_succ_eq_append_getElem -> aA
open _root_.Nat renaming reduceEqDiff -> rE, reduceAdd -> rA, reduceLeDiff -> rL, add_eq_zero_iff -> dT, le_refl -> aC, le_trans -> bZ, min_eq_left -> eE, reduceSub -> mn, zero_add -> cj, zero_le -> fx
open _root_.Option renaming map_some -> ce, ne_none_iff_exists' -> aJ
def P0:Pl:=⟨bl [],[]⟩
def E0:Ex:=.mk 0 0 P0 []
theorem xU:E0.sm:=.mk (by decide) (by simp)
def StR(N k:Nat)(v:En)(p last:Int)(c:Int)(q:AC)(v':En)(p' last':Int):Prop:=
 (∃s:St,q=.agg s.enc/\s.cnt<=N/\s.sm (k+1))/\v'=v/\p<=p'/\p'<=p+c/\last<=last'/\last'<=last+c
theorem LeR.snoc:∀{xs ys:List (List AC)} {x y:List AC},LeR xs ys->LeC x y->LeR (xs++[x]) (ys++[y])
 |[],[],x,y,_,h=>⟨h,trivial⟩
 |a::xs,b::ys,x,y,h,h'=>⟨h.1,LeR.snoc h.2 h'⟩
theorem le_rows{H:aj}{sz:Nat}{rows rows':List (List AC)}{x:AC}(h:bR H sz rows x)(hr:LeR rows rows'):Le x (.sl sz none rows'):=by
 rcases h with⟨rfl,rfl⟩|⟨b,n,m,rfl,-⟩
 ·cases rows' with
  |nil=>exact .nil sz
  |cons=>simp[LeR]at hr
 ·exact Le.slR hr
theorem leArgE(x:Ex):LeC ([B false,S (bl []),NIL]++x.enc) (Ag.mk false P0 x).enc:=by
 rw[Ag.enc,Ex.enc_eq]
 exact⟨⟨.refl _,rfl⟩,⟨.refl _,rfl⟩,⟨.nil 1,rfl⟩,⟨.refl _,rfl⟩,⟨.refl _,rfl⟩,⟨.refl _,rfl⟩,⟨.refl _,rfl⟩,⟨.refl _,rfl⟩,trivial⟩
theorem BK{x:AC}(nm fn:ByteArray)(as:List Ag)(hx:Le x (.sl 8 none (as.map Ag.enc))):
 LeC [I 4,S nm,S (bl []),NIL,S (bl []),NIL,I 0,I 0,S (bl []),NIL,NIL,S fn,x,NIL,NIL] (St.mk 4 nm P0 P0 E0 fn as [] []).enc:=by
 rw[St.enc_eq]
 exact⟨⟨.refl _,rfl⟩,⟨.refl _,rfl⟩,⟨.refl _,rfl⟩,⟨.nil 1,rfl⟩,⟨.refl _,rfl⟩,⟨.nil 1,rfl⟩,⟨.refl _,rfl⟩,⟨.refl _,rfl⟩,⟨.refl _,rfl⟩,⟨.nil 1,rfl⟩,⟨.nil 5,rfl⟩,⟨.refl _,rfl⟩,⟨hx,rfl⟩,⟨.nil 15,rfl⟩,⟨.nil 15,rfl⟩,trivial⟩
def wL(v:En)(p last:Int)(q:AC)(v':En)(p' last':Int):Prop:=(∃s,q=S s)/\v'=v/\p'=p/\last'=last+1
theorem bR.keepF{H H1:aj}{sz:Nat}{es:List (List AC)}{x:AC}(h:bR H sz es x)(hk:∀d,cG x d->H1.get d=H.get d):bR H1 sz es x:=by
 rcases h with h|⟨b,n,m,rfl,hb⟩
 ·exact .inl h
 ·exact .inr ⟨b,n,m,rfl,by rw[hk b ⟨_,_,_,_,rfl⟩];exact hb⟩
theorem bR.mem{H:aj}{sz:Nat}{es:List (List AC)}{x:AC}(h:bR H sz es x){d:Nat}(hd:cG x d):∃n m,H.get d=some (.tail n m):=by
 obtain⟨_,_,_,_,rfl⟩:=hd
 rcases h with⟨-,h⟩|⟨b,n,m,h,hb⟩
 ·simp at h
 ·simp at h;obtain⟨-,⟨rfl,-⟩,-⟩:=h;exact⟨n,m,hb⟩
section
variable {P:Program}{F:Ids}
theorem Cg(L:Lib P F)(m r:Nat)(bs:List UInt8)(hbs:bs.length<=2000)(v:En)(N:Nat)(hv:v.dr N)(p last:Int)(hl:0<=last)(hl2:last<=2^40)(hp:0<=p)(hp2:p+8000<=2^50):
 MkC P F.s_l71Mk_call [.ptr m 0] m r bs v p last (StR 5 0 v p last 8000):=by
 intro H e VS NS hM
 refine L.s_l71Mk_call (by simp[kE]) ?_
 simp only[kE,go_sem,rE]
 intro b2 hb2
 have hM2:=hM.new hb2 (.cells [I 0,S (bl []),S (bl []),NIL,S (bl []),NIL,I 0,I 0,S (bl []),NIL,NIL,S (bl []),NIL,NIL,NIL])
 have n2:=hM.notin hb2
 refine dQ (R:=wL v p last) (oo L m r bs v p last hl hl2) hM2 (rfl) (.refl _) (by simp) trivial ?_
 rintro q e1 v1 VS1 NS1 p1 last1 H1 fp1 ⟨⟨nm,rfl⟩,rfl,rfl,rfl⟩ hM1 hk1 -
 obtain⟨g2,n2⟩:=hk1 b2 _ (ai _ _ _) n2
 clear hM hM2 hb2 hk1
 simp only[go_sem,rE,rA,rL]
 intro b3 hb3
 have n3:=hM1.notin hb3
 have d23:=al g2 hb3
 have hom1:=hM1.obj
 have hoe1:=hM1.env.obj
 simp only[cZ]at hoe1
 have dm3:m≠b3:=fun h=>n3 (.inl h.symm)
 have de3:e1≠b3:=fun h=>n3 (.inr (.inr (.inl h.symm)))
 simp only[go_sem,rE,rA,dm3,de3,hom1,hoe1]
 have hM3:=hM1.new hb3 (.cells [I 4,S nm,S (bl []),NIL,S (bl []),NIL,I 0,I 0,S (bl []),NIL,NIL,S (bl []),NIL,NIL,NIL])
 have g23:(H1.set b3 (.cells [I 4,S nm,S (bl []),NIL,S (bl []),NIL,I 0,I 0,S (bl []),NIL,NIL,S (bl []),NIL,NIL,NIL])).get b2=some (.cells [I 0,S (bl []),S (bl []),NIL,S (bl []),NIL,I 0,I 0,S (bl []),NIL,NIL,S (bl []),NIL,NIL,NIL]):=by rw[ae _ _ d23];exact g2
 have g33:(H1.set b3 (.cells [I 4,S nm,S (bl []),NIL,S (bl []),NIL,I 0,I 0,S (bl []),NIL,NIL,S (bl []),NIL,NIL,NIL])).get b3=some (.cells [I 4,S nm,S (bl []),NIL,S (bl []),NIL,I 0,I 0,S (bl []),NIL,NIL,S (bl []),NIL,NIL,NIL]):=ai _ _ _
 generalize H1.set b3 (.cells [I 4,S nm,S (bl []),NIL,S (bl []),NIL,I 0,I 0,S (bl []),NIL,NIL,S (bl []),NIL,NIL,NIL])=H3 at*
 clear hM1 g2 hb3
 have stop:∀(E':Env) (H':aj) (e':Nat) (VS' NS':AC) (p':Int) (s:St) (cs:List AC),cT H' m r bs e' v1 VS' NS' p' (last+1)->p1<=p'->p'<=p1+8000->E' 2=.ptr b2 0->H'.get b2=some (.cells cs)->cs.length=15->LeC cs s.enc->s.cnt<=5->s.sm 1->
  aD.post [.cell 2 (some 15)] (fun q H'=>∃e' v' VS' NS' p' last',StR 5 0 v1 p1 last 8000 q v' p' last'/\cT H' m r bs e' v' VS' NS' p' last') .ret E' H':=by
  intro E' H' e' VS' NS' p' s cs hM h1 h2 e2 g2 hl5 hle hx hsm
  exact bY (q':=.agg s.enc) (q:=.agg cs) (off:=0) e2 g2 (by simp only[fM,hl5,aC,cj,if_true,ip];rw[cF (by omega)]) (.agg hle) (aj.sub_refl _) ⟨e',v1,VS',NS',p',last+1,⟨⟨s,rfl,hx,hsm⟩,rfl,h1,h2,by omega,by omega⟩,hM⟩
 have callOk:∀(fn:ByteArray) (as:List Ag),as.length<=4->(∀a∈as,a.expr.sm)->(St.mk 4 nm P0 P0 E0 fn as [] []).cnt<=5/\(St.mk 4 nm P0 P0 E0 fn as [] []).sm 1:=by
  intro fn as h1 h2
  refine⟨by rw[dy];simp only[St.args,St.thn,St.els,eS];omega,.mk xU h2 (by simp) (by simp)⟩
 have stepL:∀(E:Env) (H:aj) (e':Nat) (VS' NS':AC) (p':Int) (fn:ByteArray) (as:List Ag) (X:AC),cT H m r bs e' v1 VS' NS' p' (last+1)->p1<=p'->p'<=p1+8000->¬cD m r e' VS' NS' b2->E 2=.ptr b2 0->E 3=.ptr b3 0->
  H.get b2=some (.cells [I 0,S (bl []),S (bl []),NIL,S (bl []),NIL,I 0,I 0,S (bl []),NIL,NIL,S (bl []),NIL,NIL,NIL])->H.get b3=some (.cells [I 4,S nm,S (bl []),NIL,S (bl []),NIL,I 0,I 0,S (bl []),NIL,NIL,S fn,X,NIL,NIL])->
  Le X (.sl 8 none (as.map Ag.enc))->as.length<=4->(∀a∈as,a.expr.sm)->
  aX.wp P (kd19 F) (aD.post [.cell 2 (some 15)] (fun q H'=>∃e' v' VS' NS' p' last',StR 5 0 v1 p1 last 8000 q v' p' last'/\cT H' m r bs e' v' VS' NS' p' last')) E H:=by
  intro E H e' VS' NS' p' fn as X hM h1 h2 n2 e2 e3 g2 g3 hX ha1 ha2
  rw[kd19]
  simp only[go_sem,rE,rA,e2,e3,g2,g3,rL]
  obtain⟨c1,c2⟩:=callOk fn as ha1 ha2
  exact stop _ _ e' VS' NS' p' (.mk 4 nm P0 P0 E0 fn as [] []) _ (hM.put n2 _) h1 h2 (by simp only[go_sem,rE];exact e2) (ai _ _ _) rfl (BK nm fn as hX) c1 c2
 have hfnl:=hv.fn
 by_cases hf0:v1.fn=0
 ·have hf0':((v1.fn:Int)==0)=true:=by simp[hf0]
  simp only[hf0',go_sem,rE,rA,g23,g33,rL]
  obtain⟨c1,c2⟩:=callOk (bl []) [] (by simp) (by simp)
  exact stop _ _ e1 VS1 NS1 p1 (.mk 4 nm P0 P0 E0 (bl []) [] [] []) _ (hM3.put n2 _) (by omega) (by omega) (rfl) (ai _ _ _) rfl (BK nm (bl []) [] (.nil 8)) c1 c2
 ·have hf0':((v1.fn:Int)==0)=false:=by simpa using hf0
  have hom:=hM3.obj
  have hoe:=hM3.env.obj
  simp only[cZ]at hoe
  have dme:m≠e1:=fun h=>hM3.nm (.inl h)
  have der:e1≠r:=fun h=>hM3.nr (.inl h.symm)
  simp only[hf0',go_sem,rE,rA,hom,hoe]
  refine bg (cH L r bs p1 v1.fn hbs hp (by omega)) (rfl) hM3.rd (fun _=>⟨by omega,I 0,0,rfl,by omega,.inr rfl⟩) (by simp[dS];exact⟨der,hM3.mr⟩) ?_
  rintro q p2 hp2 hp2' ⟨k,rfl,hk0,hk1⟩
  have hM4:=hM3.setR p2
  have g24:(H3.set r (RdO bs p2)).get b2=some (.cells [I 0,S (bl []),S (bl []),NIL,S (bl []),NIL,I 0,I 0,S (bl []),NIL,NIL,S (bl []),NIL,NIL,NIL]):=by rw[ae _ _ (fun h=>n2 (.inr (.inl h)))];exact g23
  have g34:(H3.set r (RdO bs p2)).get b3=some (.cells [I 4,S nm,S (bl []),NIL,S (bl []),NIL,I 0,I 0,S (bl []),NIL,NIL,S (bl []),NIL,NIL,NIL]):=by rw[ae _ _ (fun h=>n3 (.inr (.inl h)))];exact g33
  generalize H3.set r (RdO bs p2)=H4 at*
  have hkl:k.toNat<v1.p.length:=by omega
  obtain⟨cf,hcf,CF⟩:=fuC v1.p[k.toNat]
  have hgf:(v1.p.map Fu.enc)[k.toNat]?=some cf:=by rw[<-hcf];exact vC hkl
  obtain⟨hfo,hf4⟩:=hv.p _ (ay hkl)
  generalize v1.p[k.toNat]=f at*
  simp only[go_sem,rE,rA,hk0,hgf,CF.len,CF.all,CF.name]
  intro b4 hb4
  have n4:=hM4.notin hb4
  have hM5:=hM4.new hb4 (.cells cf)
  have d24:=al g24 hb4
  have d34:=al g34 hb4
  simp only[go_sem,rE,rA,d34,g34,rL]
  let J:Nat->Env->aj->Prop:=fun i E H=>∃(e':Nat) (VS' NS':AC) (p':Int) (as:List Ag) (rows:List (List AC)) (X:AC),cT H m r bs e' v1 VS' NS' p' (last+1)/\p1<=p'/\p'<=p1+1+1700*(i:Int)/\E 0=.ptr m 0/\E 2=.ptr b2 0/\E 3=.ptr b3 0/\E 4=.ptr b4 0/\E 5=I i/\
   H.get b2=some (.cells [I 0,S (bl []),S (bl []),NIL,S (bl []),NIL,I 0,I 0,S (bl []),NIL,NIL,S (bl []),NIL,NIL,NIL])/\H.get b3=some (.cells [I 4,S nm,S (bl []),NIL,S (bl []),NIL,I 0,I 0,S (bl []),NIL,NIL,S f.name,X,NIL,NIL])/\H.get b4=some (.cells cf)/\
   bR H 8 rows X/\LeR rows (as.map Ag.enc)/\as.length<=i/\(∀a∈as,a.expr.sm)/\¬cD m r e' VS' NS' b2/\¬cD m r e' VS' NS' b3/\¬cD m r e' VS' NS' b4/\∀d,cG X d->¬cD m r e' VS' NS' d
  refine aT f.params.length J ⟨e1,VS1,NS1,p2,[],[],NIL,(hM5.put n3 _),by omega,by omega,rfl,rfl,rfl,rfl,rfl,by rw[ae _ _ d23,ae _ _ d24];exact g24,ai _ _ _,by rw[ae _ _ (Ne.symm d34),ai],
   .nil _ _,trivial,by simp,by simp,n2,n3,n4,fun d ⟨_,_,_,_,h⟩=>by simp at h⟩ ?_
  clear g24 g34 n2 n3 n4 hM4 hM5 hb4 hom hoe hM3 g23 g33 hf0'
  rintro i E H hi ⟨e',VS',NS',p',as,rows,X,hM,hp1,hp2',e0,e2,e3,e4,e5,g2,g3,g4,hX,hR,hla,hsm,n2,n3,n4,nX⟩
  have cfp:(cf.drop 1)[0]?=some (.sl 3 none (f.params.map Pa.enc)):=by rw[bC];exact CF.params
  have cfp':cf[1]?=some (.sl 3 none (f.params.map Pa.enc)):=CF.params
  have hrl:rows.length=as.length:=by have:=hR.length;simpa using this
  simp only[wp_seq,go_sem,rE,rA,e4,e5,g4,cfp',am]
  refine aG (fun hlt=>?_) (fun hge=>?_)
  ·have hi1:i<f.params.length:=by omega
   have w1:=aL (n:=(i:Int)+1) (by omega) (by omega)
   obtain⟨cp,hcp,CP⟩:=paC f.params[i]
   have hgp:(f.params.map Pa.enc)[i]?=some cp:=by rw[<-hcp];simp[hi1]
   have hpt:=(hfo.params _ (ay hi1)).type
   have cl:=CP.lent1
   generalize f.params[i]=q at*
   have after:∀(E':Env) (H5 H6:aj) (e5:Nat) (VS5 NS5:AC) (p5:Int) (row:List AC) (ag:Ag) (x':AC),cT H5 m r bs e5 v1 VS5 NS5 p5 (last+1)->p1<=p5->p5<=p1+1+1700*((i+1:Nat):Int)->
    H5.get b2=some (.cells [I 0,S (bl []),S (bl []),NIL,S (bl []),NIL,I 0,I 0,S (bl []),NIL,NIL,S (bl []),NIL,NIL,NIL])->H5.get b3=some (.cells [I 4,S nm,S (bl []),NIL,S (bl []),NIL,I 0,I 0,S (bl []),NIL,NIL,S f.name,X,NIL,NIL])->H5.get b4=some (.cells cf)->
    ¬cD m r e5 VS5 NS5 b2->¬cD m r e5 VS5 NS5 b3->¬cD m r e5 VS5 NS5 b4->bR H5 8 rows X->(∀d,cG X d->¬cD m r e5 VS5 NS5 d)->bR H6 8 (rows++[row]) x'->(∀c,H5.get c≠none->¬cG X c->H6.get c=H5.get c)->(∀c,cG x' c->cG X c\/H5.get c=none)->
    LeC row ag.enc->ag.expr.sm->E' 0=.ptr m 0->E' 2=.ptr b2 0->E' 3=.ptr b3 0->E' 4=.ptr b4 0->E' 5=I (i+1:Nat)->
    H6.get b3=some (.cells [I 4,S nm,S (bl []),NIL,S (bl []),NIL,I 0,I 0,S (bl []),NIL,NIL,S f.name,X,NIL,NIL])/\J (i+1) E' (H6.set b3 (.cells [I 4,S nm,S (bl []),NIL,S (bl []),NIL,I 0,I 0,S (bl []),NIL,NIL,S f.name,x',NIL,NIL])):=by
    intro E' H5 H6 e5 VS5 NS5 p5 row ag x' hM5 h1 h2 g2 g3 g4 n2 n3 n4 hX nX hx' keep new hle hs k0 k2 k3 k4 k5
    have notk:∀{b cs},H5.get b=some (.cells cs)->¬cG X b:=by
     intro b cs hb ht
     obtain⟨n,mm,h⟩:=hX.mem ht
     rw[h]at hb;simp at hb
    have g23:H6.get b2=_:=(keep b2 (by rw[g2];simp) (notk g2)).trans g2
    have g33:H6.get b3=_:=(keep b3 (by rw[g3];simp) (notk g3)).trans g3
    have g43:H6.get b4=_:=(keep b4 (by rw[g4];simp) (notk g4)).trans g4
    have hM6:cT H6 m r bs e5 v1 VS5 NS5 p5 (last+1):=hM5.mono fun d hd=>keep d (hM5.mem hd) (fun ht=>nX d ht hd)
    have d32:b2≠b3:=by rintro rfl;rw[g23]at g33;simp at g33
    have d34:b4≠b3:=by rintro rfl;rw[g43]at g33;simp only[Option.some.injEq,cK.cells.injEq]at g33;have:=CF.len;rw[g33]at this;simp at this
    refine⟨g33,e5,VS5,NS5,p5,as++[ag],rows++[row],x',hM6.put n3 _,h1,h2,k0,k2,k3,k4,k5,by rw[ae _ _ d32];exact g23,ai _ _ _,by rw[ae _ _ d34];exact g43,hx'.set g33 _,by rw[bB];exact hR.snoc hle,by simp;omega,fun a ha=>?_,n2,n3,n4,fun d hd=>?_⟩
    ·rcases aF.1 ha with h|h
     ·exact hsm a h
     ·simp at h;subst h;exact hs
    ·rcases new d hd with h|h
     ·exact nX d h
     ·exact hM5.notin h
   simp only[go_sem,rE,rA,e4,e5,g4,cfp',hgp,cl]
   cases hlent:q.lent
   ·simp only[go_sem,rE,rA,e0,e3,e4,e5,g3,g4,cfp',hgp,CP.len,CP.type,eX,mn,rL]
    refine dQ (jK L m r bs hbs v1 hv.ok (last+1) 2 (by omega) q.type 2 hpt (by omega) (by omega) p' (by omega) (by simp[ew];omega)) hM (rfl) (.refl _) (fun _=>gv _ _ _ _ (by simp[ew])) (by simp[dS];exact n3) ?_
    rintro q' e5' v5 VS5 NS5 p5 last5 H5 fp5 ⟨⟨x,rfl,hx,hxsm⟩,rfl,hp5,hp5',rfl⟩ hM5 hk5 -
    simp only[ew]at hp5'
    obtain⟨g2,n2⟩:=hk5 _ _ g2 n2
    obtain⟨g3,n3⟩:=hk5 _ _ g3 n3
    obtain⟨g4,n4⟩:=hk5 _ _ g4 n4
    have nX5:∀d,cG X d->H5.get d=H.get d/\¬cD m r e5' VS5 NS5 d:=by
     intro d hd
     obtain⟨n,mm,ht⟩:=hX.mem hd
     obtain⟨h1,h2⟩:=hk5 _ _ ht (nX d hd)
     exact⟨by rw[h1,ht],h2⟩
    have hX5:bR H5 8 rows X:=hX.keepF fun d hd=>(nX5 d hd).1
    simp only[go_sem,rE,rA,Ex.enc_eq x,ax,aq,az,rL,bh]
    refine eM (es:=rows) (ys:=[[B false,S (bl []),NIL,I x.kind,I x.num,S x.place.name,au x.place.path,.sl 5 none (Ex.encs x.kids)]]) (by simp only[go_sem,rE];exact hX5) (rfl) (by simp) (by rw[hrl];simp;omega) ?_
    intro x' H6 fp6 hx' _ keep new
    simp only[go_sem,rE]at keep new
    have af:=fun E' h0 h2 h3 h4 h5=>after E' H5 H6 e5' VS5 NS5 p5 _ ⟨false,P0,x⟩ x' hM5 (by omega) (by omega) g2 g3 g4 n2 n3 n4 hX5 (fun d hd=>(nX5 d hd).2) hx' keep new (by have:=leArgE x;rw[Ex.enc_eq x]at this;exact this) hxsm h0 h2 h3 h4 h5
    have g36:=(af (fun n=>if n=0 then .ptr m 0 else if n=2 then .ptr b2 0 else if n=3 then .ptr b3 0 else if n=4 then .ptr b4 0 else I (i+1:Nat)) rfl rfl rfl rfl rfl).1
    have hx1:=hx'.one
    simp only[go_sem,rE,rA,e3,e5,g36,hx1,w1,rL]
    exact⟨hi1,_,aj.sub_refl _,(af _ (by simp only[go_sem,rE,e0]) (by simp only[go_sem,rE,e2]) (by simp only[go_sem,rE,e3]) (by simp only[go_sem,rE,e4]) (by simp only[go_sem,rE];rfl)).2⟩
   ·simp only[go_sem,rE,rA,rL]
    intro b6 hb6
    have n6:=hM.notin hb6
    have d26:=al g2 hb6
    have d36:=al g3 hb6
    have d46:=al g4 hb6
    have nt6:¬cG X b6:=fun ht=>by obtain⟨n,mm,h⟩:=hX.mem ht;rw[h]at hb6;simp at hb6
    let J2:Nat->Env->aj->Prop:=fun k E H=>∃(e':Nat) (VS' NS':AC) (p':Int) (pl:Pl) (y:AC),cT H m r bs e' v1 VS' NS' p' (last+1)/\p1<=p'/\p'<=p1+1+1700*(i:Int)+20*(k:Int)/\E 0=.ptr m 0/\E 2=.ptr b2 0/\E 3=.ptr b3 0/\E 4=.ptr b4 0/\E 5=I i/\E 6=.ptr b6 0/\E 7=I k/\
     H.get b2=some (.cells [I 0,S (bl []),S (bl []),NIL,S (bl []),NIL,I 0,I 0,S (bl []),NIL,NIL,S (bl []),NIL,NIL,NIL])/\H.get b3=some (.cells [I 4,S nm,S (bl []),NIL,S (bl []),NIL,I 0,I 0,S (bl []),NIL,NIL,S f.name,X,NIL,NIL])/\H.get b4=some (.cells cf)/\H.get b6=some (.cells [S pl.name,y])/\
     bR H 8 rows X/\¬cD m r e' VS' NS' b2/\¬cD m r e' VS' NS' b3/\¬cD m r e' VS' NS' b4/\¬cD m r e' VS' NS' b6/\(∀d,cG X d->¬cD m r e' VS' NS' d)/\Le y (au pl.path)/\y.cells?=some [y]
    refine aT 6 J2 ⟨e',VS',NS',p',⟨bl [110,111,110,101],[]⟩,NIL,hM.new hb6 _,hp1,by omega,e0,e2,e3,e4,e5,rfl,rfl,by rw[ae _ _ d26];exact g2,by rw[ae _ _ d36];exact g3,by rw[ae _ _ d46];exact g4,
     by simp[go_sem],hX.new hb6 _,n2,n3,n4,n6,nX,.nil 1,rfl⟩ ?_
    clear g2 g3 g4 n2 n3 n4 n6 nX hX hM e0 e2 e3 e4 e5
    rintro k E H hk ⟨e',VS',NS',p',pl,y,hM,hp1,hp2',e0,e2,e3,e4,e5,e6,e7,g2,g3,g4,g6,hX,n2,n3,n4,n6,nX,hy,hy1⟩
    simp only[wp_seq,go_sem,rE,rA,e7]
    refine aG (fun hlt2=>?_) (fun hge2=>?_)
    ·have w2:=aL (n:=(k:Int)+1) (by omega) (by omega)
     simp only[go_sem,rE,rA,e0]
     refine dQ (iy L m r bs hbs v1 hv.ok p' (last+1) (by omega) (by omega)) hM (rfl) (.refl _) (by simp) trivial ?_
     rintro q2 e5' v5 VS5 NS5 p5 last5 H5 fp5 ⟨⟨pl2,u,rfl,hpl2,Du,hDu8,hDu⟩,rfl,hp5,hp5',rfl⟩ hM5 hk5 -
     obtain⟨g2,n2⟩:=hk5 _ _ g2 n2
     obtain⟨g3,n3⟩:=hk5 _ _ g3 n3
     obtain⟨g4,n4⟩:=hk5 _ _ g4 n4
     obtain⟨g6,n6⟩:=hk5 _ _ g6 n6
     have nX5:∀d,cG X d->H5.get d=H.get d/\¬cD m r e5' VS5 NS5 d:=by
      intro d hd
      obtain⟨n,mm,ht⟩:=hX.mem hd
      obtain⟨h1,h2⟩:=hk5 _ _ ht (nX d hd)
      exact⟨by rw[h1,ht],h2⟩
     have hX5:bR H5 8 rows X:=hX.keepF fun d hd=>(nX5 d hd).1
     simp only[go_sem,rE,rA,Ty.enc_eq u,Pl.enc]
     intro b12 hb12 b13 hb13
     have hb13':=vu hb13 (.cells [S pl2.name,au pl2.path])
     have d12:=pO hb13
     have hM6:=(hM5.new hb12 (.cells [S pl2.name,au pl2.path])).new hb13' (.cells [.sl 1 none (Ty.encs u.kids)])
     have fr:∀{b o},H5.get b=some o->b≠b12/\b≠b13:=by
      intro b o hb
      have h1:=al hb hb12
      exact⟨h1,al (H:=H5.set b12 (.cells [S pl2.name,au pl2.path])) (by rw[ae _ _ h1];exact hb) hb13'⟩
     have in6:∀{b o},H5.get b=some o->((H5.set b12 (.cells [S pl2.name,au pl2.path])).set b13 (.cells [.sl 1 none (Ty.encs u.kids)])).get b=some o:=by
      intro b o hb
      rw[ae _ _ (fr hb).2,ae _ _ (fr hb).1];exact hb
     have hX6:bR ((H5.set b12 (.cells [S pl2.name,au pl2.path])).set b13 (.cells [.sl 1 none (Ty.encs u.kids)])) 8 rows X:=hX5.keepF fun d hd=>by
      obtain⟨n,mm,ht⟩:=hX5.mem hd
      rw[in6 ht,ht]
     have g26:=in6 g2
     have g36:=in6 g3
     have g46:=in6 g4
     have g66:=in6 g6
     have ga:((H5.set b12 (.cells [S pl2.name,au pl2.path])).set b13 (.cells [.sl 1 none (Ty.encs u.kids)])).get b12=some (.cells [S pl2.name,au pl2.path]):=by rw[ae _ _ d12,ai]
     have gb:((H5.set b12 (.cells [S pl2.name,au pl2.path])).set b13 (.cells [.sl 1 none (Ty.encs u.kids)])).get b13=some (.cells [.sl 1 none (Ty.encs u.kids)]):=ai _ _ _
     simp only[go_sem,rE,rA,d12,Ne.symm d12,mU d12]
     generalize((H5.set b12 (.cells [S pl2.name,au pl2.path])).set b13 (.cells [.sl 1 none (Ty.encs u.kids)]))=H6 at*
     simp only[go_sem,rE,rA,gb,e4,e5,g46,cfp',hgp,CP.len,CP.type,eX,mn,rL]
     refine ao (qJ L Du u q.type hDu) (by simp only[go_sem,rE,Ty.enc_eq u]) ?_
     by_cases hs:u=q.type
     ·simp only[go_sem,rE,rA,hs,ga,e6,e7,g66,w2,rL]
      have d62:b2≠b6:=by rintro rfl;rw[g66]at g26;simp at g26
      have d63:b3≠b6:=by rintro rfl;rw[g66]at g36;simp at g36
      have d64:b4≠b6:=by rintro rfl;rw[g66]at g46;simp only[Option.some.injEq,cK.cells.injEq]at g46;have:=CF.len;rw[<-g46]at this;simp at this
      exact⟨by omega,_,aj.sub_refl _,e5',VS5,NS5,p5,pl2,au pl2.path,hM6.put n6 _,by omega,by omega,e0,e2,e3,e4,e5,e6,rfl,by rw[ae _ _ d62];exact g26,by rw[ae _ _ d63];exact g36,by rw[ae _ _ d64];exact g46,
       ai _ _ _,hX6.set g66 _,n2,n3,n4,n6,fun d hd=>(nX5 d hd).2,.refl _,rfl⟩
     ·simp only[go_sem,rE,rA,hs,e7,w2]
      exact⟨by omega,_,aj.sub_refl _,e5',VS5,NS5,p5,pl,y,hM6,by omega,by omega,e0,e2,e3,e4,e5,e6,rfl,g26,g36,g46,g66,hX6,n2,n3,n4,n6,fun d hd=>(nX5 d hd).2,hy,hy1⟩
    ·simp only[go_sem,rE,rA,e3,e6,g3,g6,ax,aq,az,rL,bh]
     refine eM (es:=rows) (ys:=[[B true,S pl.name,y,I 0,I 0,S (bl []),NIL,NIL]]) (by simp only[go_sem,rE];exact hX) (rfl) (by simp) (by rw[hrl];simp;omega) ?_
     intro x' H6 fp6 hx' _ keep new
     simp only[go_sem,rE]at keep new
     have hrow:LeC [B true,S pl.name,y,I 0,I 0,S (bl []),NIL,NIL] (Ag.mk true pl E0).enc:=by
      rw[Ag.enc,E0,Ex.enc]
      exact⟨⟨.refl _,rfl⟩,⟨.refl _,rfl⟩,⟨hy,rfl⟩,⟨.refl _,rfl⟩,⟨.refl _,rfl⟩,⟨.refl _,rfl⟩,⟨.nil 1,rfl⟩,⟨.nil 5,rfl⟩,trivial⟩
     have af:=fun E' h0 h2 h3 h4 h5=>after E' H H6 e' VS' NS' p' _ ⟨true,pl,E0⟩ x' hM (by omega) (by omega) g2 g3 g4 n2 n3 n4 hX nX hx' keep new hrow xU h0 h2 h3 h4 h5
     have g36:=(af (fun n=>if n=0 then .ptr m 0 else if n=2 then .ptr b2 0 else if n=3 then .ptr b3 0 else if n=4 then .ptr b4 0 else I (i+1:Nat)) rfl rfl rfl rfl rfl).1
     have hx1:=hx'.one
     simp only[go_sem,rE,rA,e3,e5,g36,hx1,w1,rL]
     exact⟨hi1,_,aj.sub_refl _,(af _ (by simp only[go_sem,rE,e0]) (by simp only[go_sem,rE,e2]) (by simp only[go_sem,rE,e3]) (by simp only[go_sem,rE,e4]) (by simp only[go_sem,rE];rfl)).2⟩
  ·simp only[wp_exit,fl,dL,cC]
   exact stepL _ _ e' VS' NS' p' f.name as X hM hp1 (by omega) n2 (e2) (e3) g2 g3 (le_rows hX hR) (by omega) hsm
end
theorem oB{H:aj}{a b:Nat}{c c':cK}(ha:H.get a=none)(hb:(H.set a c).get b=none):(∀{d o},H.get d=some o->((H.set a c).set b c').get d=some o)/\((H.set a c).set b c').get a=some c/\((H.set a c).set b c').get b=some c'/\a≠b:=by
 have d12:=pO hb
 refine⟨fun {d o} hd=>?_,by rw[ae _ _ d12,ai],ai _ _ _,d12⟩
 have h1:=al hd ha
 have h2:d≠b:=al (H:=H.set a c) (by rw[ae _ _ h1];exact hd) hb
 rw[ae _ _ h2,ae _ _ h1];exact hd
theorem lePick(nm:ByteArray)(p o:Pl)(x:Ex):LeC ([I 6,S nm,S p.name,au p.path,S o.name,au o.path]++x.enc++[S (bl []),NIL,NIL,NIL]) (St.mk 6 nm p o x (bl []) [] [] []).enc:=by
 rw[St.enc_eq,Ex.enc_eq]
 exact⟨⟨.refl _,rfl⟩,⟨.refl _,rfl⟩,⟨.refl _,rfl⟩,⟨.refl _,rfl⟩,⟨.refl _,rfl⟩,⟨.refl _,rfl⟩,⟨.refl _,rfl⟩,⟨.refl _,rfl⟩,⟨.refl _,rfl⟩,⟨.refl _,rfl⟩,⟨.refl _,rfl⟩,⟨.refl _,rfl⟩,⟨.nil 8,rfl⟩,⟨.nil 15,rfl⟩,⟨.nil 15,rfl⟩,trivial⟩
theorem mJ(k:Int)(nm:ByteArray)(p o:Pl)(x:Ex)(hx:x.sm):(St.mk k nm p o x (bl []) [] [] []).cnt<=5/\(St.mk k nm p o x (bl []) [] [] []).sm 1:=
 ⟨by rw[dy];simp[St.args,St.thn,St.els,eS],.mk hx (by simp) (by simp) (by simp)⟩
section
variable {P:Program}{F:Ids}
theorem Cf(L:Lib P F)(m r:Nat)(bs:List UInt8)(hbs:bs.length<=2000)(v:En)(hv:v.ok)(p last:Int)(hl:0<=last)(hl2:last<=2^40)(hp:0<=p)(hp2:p+8000<=2^50):
 MkC P F.s_l71Mk_pick [.ptr m 0] m r bs v p last (StR 5 0 v p last 8000):=by
 intro H e VS NS hM
 refine L.s_l71Mk_pick (by simp[kB]) ?_
 simp only[kB,go_sem,rE]
 intro b2 hb2
 have hM2:=hM.new hb2 (.cells [I 0,S (bl []),S (bl []),NIL,S (bl []),NIL,I 0,I 0,S (bl []),NIL,NIL,S (bl []),NIL,NIL,NIL])
 have n2:=hM.notin hb2
 refine dQ (R:=wL v p last) (oo L m r bs v p last hl hl2) hM2 (rfl) (.refl _) (by simp) trivial ?_
 rintro q e1 v1 VS1 NS1 p1 last1 H1 fp1 ⟨⟨nm,rfl⟩,rfl,rfl,rfl⟩ hM1 hk1 -
 obtain⟨g2,n2⟩:=hk1 b2 _ (ai _ _ _) n2
 clear hM hM2 hb2 hk1
 simp only[go_sem,rE,rA,rL]
 refine dQ (as':=[.ptr m 0,.agg [NIL],I 2]) (jK L m r bs hbs v1 hv (last+1) 2 (by omega) (.mk []) 2 dN (by omega) (by omega) p1 hp (by simp[ew];omega)) hM1 (rfl) ⟨.refl _,ff,.refl _,trivial⟩ (by simp) trivial ?_
 rintro q e2 v2 VS2 NS2 p2 last2 H2 fp2 ⟨⟨x,rfl,hx,hxsm⟩,rfl,hp2,hp2',rfl⟩ hM2 hk2 -
 simp only[ew]at hp2'
 obtain⟨g2,n2⟩:=hk2 _ _ g2 n2
 simp only[go_sem,rE,rA,rL,Ex.enc_eq x]
 intro b3 hb3
 have n3:=hM2.notin hb3
 have d23:=al g2 hb3
 have hM3:=hM2.new hb3 (.cells ([I 6,S nm,S (bl []),NIL,S (bl []),NIL]++[I x.kind,I x.num,S x.place.name,au x.place.path,.sl 5 none (Ex.encs x.kids)]++[S (bl []),NIL,NIL,NIL]))
 refine dQ (iy L m r bs hbs v2 hv p2 (last+1) (by omega) (by omega)) hM3 (rfl) (.refl _) (by simp) trivial ?_
 rintro q e4 v4 VS4 NS4 p4 last4 H4 fp4 ⟨⟨pa,u,rfl,hpa,Du,hDu8,hDu⟩,rfl,hp4,hp4',rfl⟩ hM4 hk4 -
 obtain⟨g2,n2⟩:=hk4 b2 _ (by rw[ae _ _ d23];exact g2) n2
 obtain⟨g3,n3⟩:=hk4 b3 _ (ai _ _ _) n3
 clear hk4 hM3 hb3 hk2 hM2 hM1 d23
 simp only[go_sem,rE,rA,rL,Ty.enc_eq u,Pl.enc]
 intro b4 hb4 b5 hb5
 have hb5':=vu hb5 (.cells [S pa.name,au pa.path])
 obtain⟨stay,ga,gb,d45⟩:=oB (c:=.cells [S pa.name,au pa.path]) (c':=.cells [.sl 1 none (Ty.encs u.kids)]) hb4 hb5'
 have hM5:=(hM4.new hb4 (.cells [S pa.name,au pa.path])).new hb5' (.cells [.sl 1 none (Ty.encs u.kids)])
 have n4:=hM4.notin hb4
 have n5:=(hM4.new hb4 (.cells [S pa.name,au pa.path])).notin hb5'
 have g2:=stay g2
 have g3:=stay g3
 simp only[go_sem,rE,rA,d45,Ne.symm d45,mU d45]
 generalize((H4.set b4 (.cells [S pa.name,au pa.path])).set b5 (.cells [.sl 1 none (Ty.encs u.kids)]))=H5 at*
 have d34:b3≠b4:=by rintro rfl;rw[ga]at g3;simp at g3
 have d35:b3≠b5:=by rintro rfl;rw[gb]at g3;simp at g3
 have d24:b2≠b4:=by rintro rfl;rw[ga]at g2;simp at g2
 have d25:b2≠b5:=by rintro rfl;rw[gb]at g2;simp at g2
 have d23:b2≠b3:=by rintro rfl;rw[g3]at g2;simp at g2
 simp only[go_sem,rE,rA,ga,gb,g3,d34,Ne.symm d34,Ne.symm d35,rL]
 let J:Nat->Env->aj->Prop:=fun k E H=>∃(e':Nat) (VS' NS':AC) (p':Int) (o:Pl),cT H m r bs e' v4 VS' NS' p' (last+1)/\p1<=p'/\p'<=p1+3000+20*(k:Int)/\E 0=.ptr m 0/\E 2=.ptr b2 0/\E 3=.ptr b3 0/\E 4=.ptr b4 0/\E 5=.ptr b5 0/\E 6=I k/\
  H.get b2=some (.cells [I 0,S (bl []),S (bl []),NIL,S (bl []),NIL,I 0,I 0,S (bl []),NIL,NIL,S (bl []),NIL,NIL,NIL])/\
  H.get b3=some (.cells [I 6,S nm,S pa.name,au pa.path,S o.name,au o.path,I x.kind,I x.num,S x.place.name,au x.place.path,.sl 5 none (Ex.encs x.kids),S (bl []),NIL,NIL,NIL])/\
  H.get b4=some (.cells [S pa.name,au pa.path])/\H.get b5=some (.cells [.sl 1 none (Ty.encs u.kids)])/\¬cD m r e' VS' NS' b2/\¬cD m r e' VS' NS' b3/\¬cD m r e' VS' NS' b4/\¬cD m r e' VS' NS' b5
 refine aT 8 J ⟨e4,VS4,NS4,p4,pa,hM5.put n3 _,by omega,by omega,rfl,rfl,rfl,rfl,rfl,rfl,by rw[ae _ _ d23];exact g2,ai _ _ _,by rw[ae _ _ (Ne.symm d34)];exact ga,by rw[ae _ _ (Ne.symm d35)];exact gb,n2,n3,n4,n5⟩ ?_
 clear g2 g3 ga gb n2 n3 n4 n5 hM5 stay hb4 hb5 hb5' hM4
 rintro k E H hk ⟨e',VS',NS',p',o,hM,hp1,hp2',e0,e2,e3,e4,e5,e6,g2,g3,g4,g5,n2,n3,n4,n5⟩
 simp only[wp_seq,go_sem,rE,rA,e6]
 refine aG (fun hlt=>?_) (fun hge=>?_)
 ·have w1:=aL (n:=(k:Int)+1) (by omega) (by omega)
  simp only[go_sem,rE,rA,e0]
  refine dQ (iy L m r bs hbs v4 hv p' (last+1) (by omega) (by omega)) hM (rfl) (.refl _) (by simp) trivial ?_
  rintro q e6' v6 VS6 NS6 p6 last6 H6 fp6 ⟨⟨pb,w,rfl,hpb,hw⟩,rfl,hp6,hp6',rfl⟩ hM6 hk6 -
  obtain⟨g2,n2⟩:=hk6 _ _ g2 n2
  obtain⟨g3,n3⟩:=hk6 _ _ g3 n3
  obtain⟨g4,n4⟩:=hk6 _ _ g4 n4
  obtain⟨g5,n5⟩:=hk6 _ _ g5 n5
  simp only[go_sem,rE,rA,Ty.enc_eq w,Pl.enc]
  intro b7 hb7 b8 hb8
  have hb8':=vu hb8 (.cells [S pb.name,au pb.path])
  obtain⟨stay,ga,gb,d78⟩:=oB (c:=.cells [S pb.name,au pb.path]) (c':=.cells [.sl 1 none (Ty.encs w.kids)]) hb7 hb8'
  have hM7:=(hM6.new hb7 (.cells [S pb.name,au pb.path])).new hb8' (.cells [.sl 1 none (Ty.encs w.kids)])
  have g2:=stay g2
  have g3:=stay g3
  have g4:=stay g4
  have g5:=stay g5
  simp only[go_sem,rE,rA,d78,Ne.symm d78,mU d78]
  generalize((H6.set b7 (.cells [S pb.name,au pb.path])).set b8 (.cells [.sl 1 none (Ty.encs w.kids)]))=H7 at*
  simp only[go_sem,rE,rA,gb,e5,g5,rL]
  refine ao (qJ L Du u w hDu) (by simp only[go_sem,rE,Ty.enc_eq u,Ty.enc_eq w]) ?_
  have skip:∀E':Env,E' 0=.ptr m 0->E' 2=.ptr b2 0->E' 3=.ptr b3 0->E' 4=.ptr b4 0->E' 5=.ptr b5 0->E' 6=I (k+1:Nat)->k<8/\∃H'',aj.sub H'' H7/\J (k+1) E' H'':=
   fun E' h0 h2 h3 h4 h5 h6=>⟨by omega,H7,aj.sub_refl _,e6',VS6,NS6,p6,o,hM7,by omega,by omega,h0,h2,h3,h4,h5,h6,g2,g3,g4,g5,n2,n3,n4,n5⟩
  by_cases hs:u=w
  ·have hmeet:=x6 L pa pb (by omega)
   simp only[go_sem,rE,rA,hs,e4,g4,ga,rL]
   refine ao hmeet (by simp only[go_sem,rE,Pl.enc]) ?_
   cases hmt:pa.meet pb
   ·simp only[go_sem,rE,rA,e3,e6,ga,g3,w1,rL]
    have d23:b2≠b3:=by rintro rfl;rw[g3]at g2;simp at g2
    have d43:b4≠b3:=by rintro rfl;rw[g3]at g4;simp at g4
    have d53:b5≠b3:=by rintro rfl;rw[g3]at g5;simp at g5
    exact⟨by omega,_,aj.sub_refl _,e6',VS6,NS6,p6,pb,hM7.put n3 _,by omega,by omega,e0,e2,e3,e4,e5,rfl,by rw[ae _ _ d23];exact g2,ai _ _ _,by rw[ae _ _ d43];exact g4,by rw[ae _ _ d53];exact g5,n2,n3,n4,n5⟩
   ·simp only[go_sem,rE,rA,e6,w1]
    exact skip _ (e0) (e2) (e3) (e4) (e5) (rfl)
  ·simp only[go_sem,rE,rA,hs,e6,w1]
   exact skip _ (e0) (e2) (e3) (e4) (e5) (rfl)
 ·simp only[go_sem,rE,rA,e2,e3,g2,g3,rL]
  obtain⟨c1,c2⟩:=mJ 6 nm pa o x hxsm
  refine bY (q':=.agg (St.mk 6 nm pa o x (bl []) [] [] []).enc) (off:=0) (by simp only[go_sem,rE];exact e2) (ai _ _ _) rfl (.agg ?_) (aj.sub_refl _) ⟨e',v4,VS',NS',p',last+1,⟨⟨_,rfl,c1,c2⟩,rfl,hp1,by omega,by omega,by omega⟩,hM.put n2 _⟩
  have:=lePick nm pa o x
  rw[Ex.enc_eq x]at this
  exact this
end
theorem Cz(a:Ag):a.enc=[B a.lent,S a.place.name,au a.place.path,I a.expr.kind,I a.expr.num,S a.expr.place.name,au a.expr.place.path,.sl 5 none (Ex.encs a.expr.kids)]:=by
 rw[Ag.enc,Ex.enc_eq];rfl
def St.noneB(s:St):Bool:=decide (s.kind=0)&&(decide (s.name=bl [])&&(s.place.noneB&&(s.other.noneB&&(s.expr.noneB&&(decide (s.fn=bl [])&&(decide (s.args.length=0)&&(decide (s.thn.length=0)&&decide (s.els.length=0))))))))
section
variable {P:Program}{F:Ids}
theorem AQ(L:Lib P F)(T:Tys F)(a:Ag):cM P F.i_argForm [.agg a.enc] (B a.okB):=by
 refine L.i_argForm (by simp[nG]) ?_
 rw[Cz]
 simp only[nG,go_sem,rE]
 intro b1 hb1
 have fin:∀(E':Env) (H':aj) (q:Bool),E' 2=B q->q=a.okB->aD.post [.slot 2] (fun q H'=>q=B a.okB/\H'=.empty) .ret E' H':=fun E' H' q h1 h2=>ak (by rw[h1,h2];exact .refl _) (aj.sub_empty _) ⟨rfl,rfl⟩
 have ho:a.okB=if a.lent then a.place.okB&&a.expr.noneB else a.place.noneB&&a.expr.okD 4:=rfl
 cases hl:a.lent
 ·rw[hl]at ho
  simp only[go_sem,rE,rA,rL]
  refine ao (ig L a.place) (by simp only[go_sem,rE,Pl.enc]) ?_
  cases hp:a.place.noneB
  ·simp only[go_sem,rE,rA,rL]
   exact fin _ _ false (rfl) (by rw[ho,hp];rfl)
  ·simp only[go_sem,rE,rA,rL]
   refine ao (j3 L T 4 (by omega) a.expr) (by simp only[go_sem,rE,Ex.enc_eq];rfl) ?_
   simp only[go_sem,rE]
   exact fin _ _ (a.expr.okD 4) (rfl) (by rw[ho,hp];rfl)
 ·rw[hl]at ho
  simp only[go_sem,rE,rA,rL]
  refine ao (ii L a.place) (by simp only[go_sem,rE,Pl.enc]) ?_
  cases hp:a.place.okB
  ·simp only[go_sem,rE,rA,rL]
   exact fin _ _ false (rfl) (by rw[ho,hp];rfl)
  ·simp only[go_sem,rE,rA,rL]
   refine ao (gM L a.expr) (by simp only[go_sem,rE,Ex.enc_eq]) ?_
   simp only[go_sem,rE]
   exact fin _ _ a.expr.noneB (rfl) (by rw[ho,hp];rfl)
theorem yU(L:Lib P F)(T:Tys F)(l:List Ag):cM P F.i_argsForm [.sl 8 none (l.map Ag.enc)] (B (eL l)):=by
 refine L.i_argsForm (by simp[mE]) ?_
 simp only[mE,go_sem,rE,am]
 by_cases h4:(l.length:Int)>4
 ·simp only[go_sem,rE,h4,decide_true]
  refine ak (.refl _) (aj.sub_empty _) ⟨?_,rfl⟩
  have:eL l=false:=by simp only[eL,cO,decide_eq_false_iff_not];exact .inl (by omega)
  simp only[go_sem,this]
 ·simp only[go_sem,rE,h4,decide_false]
  refine aT l.length (fun k E H=>E 8=.sl 8 none (l.map Ag.enc)/\E 9=I l.length/\E 10=I k/\(l.take k).all Ag.okB=true) ⟨by simp[go_sem],by simp[go_sem],by simp[go_sem],by simp⟩ ?_
  rintro k E H hk ⟨e8,e9,e10,hall⟩
  simp only[wp_seq,go_sem,rE,e9,e10]
  refine aG (fun hlt=>?_) (fun hge=>?_)
  ·have hk1:k<l.length:=by omega
   have w1:=aL (n:=(k:Int)+1) (by omega) (by omega)
   obtain⟨ca,hca,CA⟩:=agC2 l[k]
   have hga:(l.map Ag.enc)[k]?=some ca:=by rw[<-hca];simp[hk1]
   simp only[go_sem,rE,rA,rL,e8,e10,hga,CA.len,CA.all]
   intro b4 hb4
   refine ao (AQ L T l[k]) (by simp only[go_sem,rE,hca]) ?_
   cases hok:l[k].okB
   ·simp only[go_sem,rE,rA,rL]
    refine ak (.refl _) (aj.sub_empty _) ⟨?_,rfl⟩
    have:eL l=false:=by
     have:l.all Ag.okB=false:=by rw[du];exact⟨_,ay hk1,by rw[hok];exact fL⟩
     simp only[eL,this,aO]
    simp only[go_sem,this]
   ·simp only[go_sem,rE,rA,rL,e10,w1]
    refine⟨hk1,_,aj.sub_refl _,e8,e9,by simp,?_⟩
    rw[aA hk1,eG,hall]
    simp[hok]
  ·have hkk:k=l.length:=by omega
   subst hkk
   rw[aU]at hall
   simp only[go_sem,rE]
   refine ak (.refl _) (aj.sub_empty _) ⟨?_,rfl⟩
   have:eL l=true:=by simp only[eL,hall,fO,decide_eq_true_eq];omega
   simp only[go_sem,this]
theorem gL(L:Lib P F)(s:St):cM P F.i_stmtNothing [.agg s.enc] (B s.noneB):=by
 refine L.i_stmtNothing (by simp[jQ]) ?_
 rw[St.enc_eq]
 simp only[jQ,go_sem,rE]
 intro b1 hb1
 have fin:∀(E':Env) (H':aj) (q:Bool),E' 2=B q->q=s.noneB->aD.post [.slot 2] (fun q H'=>q=B s.noneB/\H'=.empty) .ret E' H':=fun E' H' q h1 h2=>ak (by rw[h1,h2];exact .refl _) (aj.sub_empty _) ⟨rfl,rfl⟩
 have beqn:∀n:Nat,((n:Int)==0)=decide (n=0):=fun n=>by rw[aZ];simp
 have hn:s.noneB=(decide (s.kind=0)&&(decide (s.name=bl [])&&(s.place.noneB&&(s.other.noneB&&(s.expr.noneB&&(decide (s.fn=bl [])&&(decide (s.args.length=0)&&(decide (s.thn.length=0)&&decide (s.els.length=0))))))))):=rfl
 by_cases h1:s.kind=0
 case neg=>
  have h1':(s.kind==0)=false:=by simpa using h1
  simp only[go_sem,rE,rA,rL,h1']
  exact fin _ _ false (rfl) (by rw[hn];simp[h1])
 have h1':(s.kind==0)=true:=by simpa using h1
 by_cases h2:s.name=bl []
 case neg=>
  simp only[go_sem,rE,rA,rL,h1',h2,decide_false]
  exact fin _ _ false (rfl) (by rw[hn];simp[h2])
 simp only[go_sem,rE,rA,rL,h1',h2,decide_true]
 refine ao (ig L s.place) (by simp only[go_sem,rE,Pl.enc]) ?_
 cases h3:s.place.noneB
 ·simp only[go_sem,rE,rA,rL]
  exact fin _ _ false (rfl) (by rw[hn];simp[h3])
 simp only[go_sem,rE,rA,rL]
 refine ao (ig L s.other) (by simp only[go_sem,rE,Pl.enc]) ?_
 cases h4:s.other.noneB
 ·simp only[go_sem,rE,rA,rL]
  exact fin _ _ false (rfl) (by rw[hn];simp[h4])
 simp only[go_sem,rE,rA,rL]
 refine ao (gM L s.expr) (by simp only[go_sem,rE,Ex.enc_eq]) ?_
 cases h5:s.expr.noneB
 ·simp only[go_sem,rE,rA,rL]
  exact fin _ _ false (rfl) (by rw[hn];simp[h5])
 by_cases h6:s.fn=bl []
 case neg=>
  simp only[go_sem,rE,rA,rL,h6,decide_false]
  exact fin _ _ false (rfl) (by rw[hn];simp[h6])
 simp only[go_sem,rE,rA,rL,h6,decide_true,am,beqn]
 by_cases h7:s.args.length=0
 case neg=>
  simp only[go_sem,rE,rA,rL,h7,decide_false]
  exact fin _ _ false (rfl) (by rw[hn];simp[h7])
 simp only[go_sem,rE,rA,rL,h7,decide_true,St.encs_map,am,beqn]
 by_cases h8:s.thn.length=0
 case neg=>
  simp only[go_sem,rE,rA,rL,h8,decide_false]
  exact fin _ _ false (rfl) (by rw[hn];simp[h8])
 simp only[go_sem,rE,rA,rL,h8,decide_true,St.encs_map,am,beqn]
 exact fin _ _ (decide (s.els.length=0)) (rfl) (by rw[hn];simp[h1,h2,h3,h4,h5,h6,h7,h8])
end
def St.rest1(s:St):St:=St.mk 0 (bl []) s.place s.other E0 s.fn s.args s.thn s.els
def St.rest2(s:St):St:=St.mk 0 (bl []) P0 s.other s.expr s.fn s.args s.thn s.els
def St.rest3(s:St):St:=St.mk 0 s.name P0 s.other E0 s.fn s.args s.thn s.els
def St.rest4(s:St):St:=St.mk 0 (bl []) s.place s.other s.expr (bl []) [] s.thn s.els
def St.rest5(s:St):St:=St.mk 0 s.name s.place s.other E0 s.fn s.args [] []
def St.rest6(s:St):St:=St.mk 0 (bl []) P0 P0 E0 s.fn s.args s.thn s.els
def shS(F:Ids)(s:St):AC:=
 if s.kind=1 then(if s.rest1.noneB then .iface F.T_i_stmtLet (.agg (S s.name::s.expr.enc))else gW)
 else if s.kind=2 then(if s.rest2.noneB then .iface F.T_i_stmtLend (.agg [S s.name,S s.place.name,au s.place.path])else gW)
 else if s.kind=3 then(if s.rest3.noneB then .iface F.T_i_stmtSet (.agg ([S s.place.name,au s.place.path]++s.expr.enc))else gW)
 else if s.kind=4 then(if s.rest4.noneB then .iface F.T_i_stmtCall (.agg [S s.name,S s.fn,.sl 8 none (s.args.map Ag.enc)])else gW)
 else if s.kind=5 then(if s.rest5.noneB then .iface F.T_i_stmtIf (.agg (s.expr.enc++[.sl 15 none (St.encs s.thn),.sl 15 none (St.encs s.els)]))else gW)
 else if s.kind=6 then(if s.rest6.noneB then .iface F.T_i_stmtPick (.agg ([S s.name,S s.place.name,au s.place.path,S s.other.name,au s.other.path]++s.expr.enc))else gW)
 else gW
theorem zw{F:Ids}{s:St}(h:s.kind=1):shS F s=if s.rest1.noneB then .iface F.T_i_stmtLet (.agg [S s.name,I s.expr.kind,I s.expr.num,S s.expr.place.name,au s.expr.place.path,.sl 5 none (Ex.encs s.expr.kids)])else gW:=by
 first
  |(rw[shS,if_pos h,Ex.enc_eq];done)
  |(rw[shS,if_pos h,Ex.enc_eq];rfl)
theorem zu{F:Ids}{s:St}(h:s.kind=2):shS F s=if s.rest2.noneB then .iface F.T_i_stmtLend (.agg [S s.name,S s.place.name,au s.place.path])else gW:=by
 have q:∀i:Int,i≠2->¬s.kind=i:=fun i hi=>by rw[h];exact Ne.symm hi
 rw[shS,if_neg (q 1 (by decide)),if_pos h]
theorem zt{F:Ids}{s:St}(h:s.kind=3):shS F s=if s.rest3.noneB then .iface F.T_i_stmtSet (.agg [S s.place.name,au s.place.path,I s.expr.kind,I s.expr.num,S s.expr.place.name,au s.expr.place.path,.sl 5 none (Ex.encs s.expr.kids)])else gW:=by
 have q:∀i:Int,i≠3->¬s.kind=i:=fun i hi=>by rw[h];exact Ne.symm hi
 first
  |(rw[shS,if_neg (q 1 (by decide)),if_neg (q 2 (by decide)),if_pos h,Ex.enc_eq];done)
  |(rw[shS,if_neg (q 1 (by decide)),if_neg (q 2 (by decide)),if_pos h,Ex.enc_eq];rfl)
theorem zr{F:Ids}{s:St}(h:s.kind=4):shS F s=if s.rest4.noneB then .iface F.T_i_stmtCall (.agg [S s.name,S s.fn,.sl 8 none (s.args.map Ag.enc)])else gW:=by
 have q:∀i:Int,i≠4->¬s.kind=i:=fun i hi=>by rw[h];exact Ne.symm hi
 rw[shS,if_neg (q 1 (by decide)),if_neg (q 2 (by decide)),if_neg (q 3 (by decide)),if_pos h]
theorem zq{F:Ids}{s:St}(h:s.kind=5):shS F s=if s.rest5.noneB then .iface F.T_i_stmtIf (.agg [I s.expr.kind,I s.expr.num,S s.expr.place.name,au s.expr.place.path,.sl 5 none (Ex.encs s.expr.kids),.sl 15 none (St.encs s.thn),.sl 15 none (St.encs s.els)])else gW:=by
 have q:∀i:Int,i≠5->¬s.kind=i:=fun i hi=>by rw[h];exact Ne.symm hi
 first
  |(rw[shS,if_neg (q 1 (by decide)),if_neg (q 2 (by decide)),if_neg (q 3 (by decide)),if_neg (q 4 (by decide)),if_pos h,Ex.enc_eq];done)
  |(rw[shS,if_neg (q 1 (by decide)),if_neg (q 2 (by decide)),if_neg (q 3 (by decide)),if_neg (q 4 (by decide)),if_pos h,Ex.enc_eq];rfl)
theorem zp{F:Ids}{s:St}(h:s.kind=6):shS F s=if s.rest6.noneB then .iface F.T_i_stmtPick (.agg [S s.name,S s.place.name,au s.place.path,S s.other.name,au s.other.path,I s.expr.kind,I s.expr.num,S s.expr.place.name,au s.expr.place.path,.sl 5 none (Ex.encs s.expr.kids)])else gW:=by
 have q:∀i:Int,i≠6->¬s.kind=i:=fun i hi=>by rw[h];exact Ne.symm hi
 first
  |(rw[shS,if_neg (q 1 (by decide)),if_neg (q 2 (by decide)),if_neg (q 3 (by decide)),if_neg (q 4 (by decide)),if_neg (q 5 (by decide)),if_pos h,Ex.enc_eq];done)
  |(rw[shS,if_neg (q 1 (by decide)),if_neg (q 2 (by decide)),if_neg (q 3 (by decide)),if_neg (q 4 (by decide)),if_neg (q 5 (by decide)),if_pos h,Ex.enc_eq];rfl)
theorem shS_0{F:Ids}{s:St}(h:¬(1<=s.kind/\s.kind<=6)):shS F s=gW:=by
 rw[shS,if_neg (show ¬s.kind=1 by omega),if_neg (show ¬s.kind=2 by omega),if_neg (show ¬s.kind=3 by omega),if_neg (show ¬s.kind=4 by omega),if_neg (show ¬s.kind=5 by omega),if_neg (show ¬s.kind=6 by omega)]
section
variable {P:Program}{F:Ids}
theorem xw(L:Lib P F)(s:St):cM P F.i_stmtOf [.agg s.enc] (shS F s):=by
 refine L.i_stmtOf (by simp[pC]) ?_
 rw[St.enc_eq]
 simp only[pC,go_sem,rE]
 intro b1 hb1
 simp only[go_sem,rE,rA,rL]
 intro b3 hb3
 have d13:b1≠b3:=al (ai _ _ _) hb3
 simp only[go_sem,rE,rA,rL,d13,Ne.symm d13]
 have fin:∀(E':Env) (H':aj) (q:AC),E' 2=q->q=shS F s->aD.post [.slot 2] (fun q H'=>q=shS F s/\H'=.empty) .ret E' H':=fun E' H' q h1 h2=>ak (by rw[h1,h2];exact .refl _) (aj.sub_empty _) ⟨rfl,rfl⟩
 by_cases k1:s.kind=1
 ·have q1:(s.kind==1)=true:=by simpa using k1
  simp only[q1,go_sem,rE,rA,rL,d13,Ne.symm d13]
  refine gI (as':=[.agg [I 0,S (bl []),S s.place.name,au s.place.path,S s.other.name,au s.other.path,I 0,I 0,S (bl []),NIL,NIL,S s.fn,.sl 8 none (s.args.map Ag.enc),.sl 15 none (St.encs s.thn),.sl 15 none (St.encs s.els)]]) (gL L s.rest1) (rfl) ⟨.agg ?_,trivial⟩ ?_
  ·rw[St.enc_eq];exact⟨⟨.refl _,rfl⟩,⟨.refl _,rfl⟩,⟨.refl _,rfl⟩,⟨.refl _,rfl⟩,⟨.refl _,rfl⟩,⟨.refl _,rfl⟩,⟨.refl _,rfl⟩,⟨.refl _,rfl⟩,⟨.refl _,rfl⟩,⟨.nil 1,rfl⟩,⟨.nil 5,rfl⟩,⟨.refl _,rfl⟩,⟨.refl _,rfl⟩,⟨.refl _,rfl⟩,⟨.refl _,rfl⟩,trivial⟩
  have hq:=zw (F:=F) k1
  cases hc:s.rest1.noneB
  ·rw[hc]at hq
   simp only[go_sem,rE,rA,rL]
   exact fin _ _ gW (rfl) (by rw[hq];rfl)
  ·rw[hc]at hq
   simp only[go_sem,rE,rA,rL]
   exact fin _ _ (.iface F.T_i_stmtLet (.agg [S s.name,I s.expr.kind,I s.expr.num,S s.expr.place.name,au s.expr.place.path,.sl 5 none (Ex.encs s.expr.kids)])) (rfl) (by rw[hq];rfl)
 have q1:(s.kind==1)=false:=by simpa using k1
 by_cases k2:s.kind=2
 ·have q2:(s.kind==2)=true:=by simpa using k2
  simp only[q1,q2,go_sem,rE,rA,rL,d13,Ne.symm d13]
  refine gI (as':=[.agg [I 0,S (bl []),S (bl []),NIL,S s.other.name,au s.other.path,I s.expr.kind,I s.expr.num,S s.expr.place.name,au s.expr.place.path,.sl 5 none (Ex.encs s.expr.kids),S s.fn,.sl 8 none (s.args.map Ag.enc),.sl 15 none (St.encs s.thn),.sl 15 none (St.encs s.els)]]) (gL L s.rest2) (rfl) ⟨.agg ?_,trivial⟩ ?_
  ·rw[St.enc_eq];exact⟨⟨.refl _,rfl⟩,⟨.refl _,rfl⟩,⟨.refl _,rfl⟩,⟨.nil 1,rfl⟩,⟨.refl _,rfl⟩,⟨.refl _,rfl⟩,⟨.refl _,rfl⟩,⟨.refl _,rfl⟩,⟨.refl _,rfl⟩,⟨.refl _,rfl⟩,⟨.refl _,rfl⟩,⟨.refl _,rfl⟩,⟨.refl _,rfl⟩,⟨.refl _,rfl⟩,⟨.refl _,rfl⟩,trivial⟩
  have hq:=zu (F:=F) k2
  cases hc:s.rest2.noneB
  ·rw[hc]at hq
   simp only[go_sem,rE,rA,rL]
   exact fin _ _ gW (rfl) (by rw[hq];rfl)
  ·rw[hc]at hq
   simp only[go_sem,rE,rA,rL]
   exact fin _ _ (.iface F.T_i_stmtLend (.agg [S s.name,S s.place.name,au s.place.path])) (rfl) (by rw[hq];rfl)
 have q2:(s.kind==2)=false:=by simpa using k2
 by_cases k3:s.kind=3
 ·have q3:(s.kind==3)=true:=by simpa using k3
  simp only[q1,q2,q3,go_sem,rE,rA,rL,d13,Ne.symm d13]
  refine gI (as':=[.agg [I 0,S s.name,S (bl []),NIL,S s.other.name,au s.other.path,I 0,I 0,S (bl []),NIL,NIL,S s.fn,.sl 8 none (s.args.map Ag.enc),.sl 15 none (St.encs s.thn),.sl 15 none (St.encs s.els)]]) (gL L s.rest3) (rfl) ⟨.agg ?_,trivial⟩ ?_
  ·rw[St.enc_eq];exact⟨⟨.refl _,rfl⟩,⟨.refl _,rfl⟩,⟨.refl _,rfl⟩,⟨.nil 1,rfl⟩,⟨.refl _,rfl⟩,⟨.refl _,rfl⟩,⟨.refl _,rfl⟩,⟨.refl _,rfl⟩,⟨.refl _,rfl⟩,⟨.nil 1,rfl⟩,⟨.nil 5,rfl⟩,⟨.refl _,rfl⟩,⟨.refl _,rfl⟩,⟨.refl _,rfl⟩,⟨.refl _,rfl⟩,trivial⟩
  have hq:=zt (F:=F) k3
  cases hc:s.rest3.noneB
  ·rw[hc]at hq
   simp only[go_sem,rE,rA,rL]
   exact fin _ _ gW (rfl) (by rw[hq];rfl)
  ·rw[hc]at hq
   simp only[go_sem,rE,rA,rL]
   exact fin _ _ (.iface F.T_i_stmtSet (.agg [S s.place.name,au s.place.path,I s.expr.kind,I s.expr.num,S s.expr.place.name,au s.expr.place.path,.sl 5 none (Ex.encs s.expr.kids)])) (rfl) (by rw[hq];rfl)
 have q3:(s.kind==3)=false:=by simpa using k3
 by_cases k4:s.kind=4
 ·have q4:(s.kind==4)=true:=by simpa using k4
  simp only[q1,q2,q3,q4,go_sem,rE,rA,rL,d13,Ne.symm d13]
  refine gI (as':=[.agg [I 0,S (bl []),S s.place.name,au s.place.path,S s.other.name,au s.other.path,I s.expr.kind,I s.expr.num,S s.expr.place.name,au s.expr.place.path,.sl 5 none (Ex.encs s.expr.kids),S (bl []),NIL,.sl 15 none (St.encs s.thn),.sl 15 none (St.encs s.els)]]) (gL L s.rest4) (rfl) ⟨.agg ?_,trivial⟩ ?_
  ·rw[St.enc_eq];exact⟨⟨.refl _,rfl⟩,⟨.refl _,rfl⟩,⟨.refl _,rfl⟩,⟨.refl _,rfl⟩,⟨.refl _,rfl⟩,⟨.refl _,rfl⟩,⟨.refl _,rfl⟩,⟨.refl _,rfl⟩,⟨.refl _,rfl⟩,⟨.refl _,rfl⟩,⟨.refl _,rfl⟩,⟨.refl _,rfl⟩,⟨.nil 8,rfl⟩,⟨.refl _,rfl⟩,⟨.refl _,rfl⟩,trivial⟩
  have hq:=zr (F:=F) k4
  cases hc:s.rest4.noneB
  ·rw[hc]at hq
   simp only[go_sem,rE,rA,rL]
   exact fin _ _ gW (rfl) (by rw[hq];rfl)
  ·rw[hc]at hq
   simp only[go_sem,rE,rA,rL]
   exact fin _ _ (.iface F.T_i_stmtCall (.agg [S s.name,S s.fn,.sl 8 none (s.args.map Ag.enc)])) (rfl) (by rw[hq];rfl)
 have q4:(s.kind==4)=false:=by simpa using k4
 by_cases k5:s.kind=5
 ·have q5:(s.kind==5)=true:=by simpa using k5
  simp only[q1,q2,q3,q4,q5,go_sem,rE,rA,rL,d13,Ne.symm d13]
  refine gI (as':=[.agg [I 0,S s.name,S s.place.name,au s.place.path,S s.other.name,au s.other.path,I 0,I 0,S (bl []),NIL,NIL,S s.fn,.sl 8 none (s.args.map Ag.enc),NIL,NIL]]) (gL L s.rest5) (rfl) ⟨.agg ?_,trivial⟩ ?_
  ·rw[St.enc_eq];exact⟨⟨.refl _,rfl⟩,⟨.refl _,rfl⟩,⟨.refl _,rfl⟩,⟨.refl _,rfl⟩,⟨.refl _,rfl⟩,⟨.refl _,rfl⟩,⟨.refl _,rfl⟩,⟨.refl _,rfl⟩,⟨.refl _,rfl⟩,⟨.nil 1,rfl⟩,⟨.nil 5,rfl⟩,⟨.refl _,rfl⟩,⟨.refl _,rfl⟩,⟨.nil 15,rfl⟩,⟨.nil 15,rfl⟩,trivial⟩
  have hq:=zq (F:=F) k5
  cases hc:s.rest5.noneB
  ·rw[hc]at hq
   simp only[go_sem,rE,rA,rL]
   exact fin _ _ gW (rfl) (by rw[hq];rfl)
  ·rw[hc]at hq
   simp only[go_sem,rE,rA,rL]
   exact fin _ _ (.iface F.T_i_stmtIf (.agg [I s.expr.kind,I s.expr.num,S s.expr.place.name,au s.expr.place.path,.sl 5 none (Ex.encs s.expr.kids),.sl 15 none (St.encs s.thn),.sl 15 none (St.encs s.els)])) (rfl) (by rw[hq];rfl)
 have q5:(s.kind==5)=false:=by simpa using k5
 by_cases k6:s.kind=6
 ·have q6:(s.kind==6)=true:=by simpa using k6
  simp only[q1,q2,q3,q4,q5,q6,go_sem,rE,rA,rL,d13,Ne.symm d13]
  refine gI (as':=[.agg [I 0,S (bl []),S (bl []),NIL,S (bl []),NIL,I 0,I 0,S (bl []),NIL,NIL,S s.fn,.sl 8 none (s.args.map Ag.enc),.sl 15 none (St.encs s.thn),.sl 15 none (St.encs s.els)]]) (gL L s.rest6) (rfl) ⟨.agg ?_,trivial⟩ ?_
  ·rw[St.enc_eq];exact⟨⟨.refl _,rfl⟩,⟨.refl _,rfl⟩,⟨.refl _,rfl⟩,⟨.nil 1,rfl⟩,⟨.refl _,rfl⟩,⟨.nil 1,rfl⟩,⟨.refl _,rfl⟩,⟨.refl _,rfl⟩,⟨.refl _,rfl⟩,⟨.nil 1,rfl⟩,⟨.nil 5,rfl⟩,⟨.refl _,rfl⟩,⟨.refl _,rfl⟩,⟨.refl _,rfl⟩,⟨.refl _,rfl⟩,trivial⟩
  have hq:=zp (F:=F) k6
  cases hc:s.rest6.noneB
  ·rw[hc]at hq
   simp only[go_sem,rE,rA,rL]
   exact fin _ _ gW (rfl) (by rw[hq];rfl)
  ·rw[hc]at hq
   simp only[go_sem,rE,rA,rL]
   exact fin _ _ (.iface F.T_i_stmtPick (.agg [S s.name,S s.place.name,au s.place.path,S s.other.name,au s.other.path,I s.expr.kind,I s.expr.num,S s.expr.place.name,au s.expr.place.path,.sl 5 none (Ex.encs s.expr.kids)])) (rfl) (by rw[hq];rfl)
 have q6:(s.kind==6)=false:=by simpa using k6
 simp only[q1,q2,q3,q4,q5,q6,go_sem,rE,rA,rL]
 exact fin _ _ gW (rfl) (shS_0 (by omega)).symm
end
noncomputable def eqB{α:Type}(a b:α):Bool:=@decide (a=b) (Classical.propDecidable _)
theorem cQ{α:Type}{a b:α}:eqB a b=true↔a=b:=by simp[eqB]
theorem cE{α:Type}{a b:α}:eqB a b=false↔a≠b:=by simp[eqB]
theorem dE{α:Type}(a:α):eqB a a=true:=cQ.2 rfl
theorem fg(a b:Int):(a !=b)=!eqB a b:=by
 cases h:eqB a b
 ·simpa using cE.1 h
 ·simpa using cQ.1 h
theorem eZ(a b:Nat):eqB (a:Int) (b:Int)=eqB a b:=by
 cases h:eqB a b
 ·exact cE.2 fun e=>cE.1 h (by omega)
 ·exact cQ.2 (by rw[cQ.1 h])
theorem dg{α:Type}{a b:α}[Decidable (a=b)]:decide (a=b)=eqB a b:=by
 cases h:eqB a b
 ·simpa using cE.1 h
 ·simpa using cQ.1 h
theorem ut{α:Type}{a b:List α}{k:Nat}(h:a.take k=b.take k)(h1:k<a.length)(h2:k<b.length)(he:a[k]=b[k]):a.take (k+1)=b.take (k+1):=by
 rw[aA h1,aA h2,h,he]
theorem wo{α:Type}{a b:List α}{k:Nat}(hk:¬k<a.length)(hk2:k<=a.length)(hl:a.length=b.length)(h:a.take k=b.take k):a=b:=by
 rw[cF (by omega),cF (by omega)]at h;exact h
theorem BR{α:Type}{a b:List α}{k:Nat}(h1:k<a.length)(h2:k<b.length)(he:a[k]≠b[k]):a≠b:=fun e=>he (by subst e;rfl)
theorem Ty.ext{a b:Ty}(h:a.kids=b.kids):a=b:=by cases a;cases b;simp only[Ty.kids]at h;rw[h]
section
variable {P:Program}{F:Ids}
theorem uh{n:Nat}{t:Ty}(h:t.deepB (n+1)=true):t.kids.length<=2/\∀x∈t.kids,x.deepB n=true:=by
 cases t
 simp only[Ty.deepB,aw,dq,decide_eq_true_eq,aW]at h
 exact⟨by simp only[Ty.kids];omega,h.2⟩
end
section
variable {P:Program}{F:bS}
theorem Cr(L:eC P F)(a b:List Int)(hl:a.length<=2^40):cM P F.k_Equal [au a,au b] (B (eqB a b)):=by
 refine L.k_Equal (by simp[ra]) ?_
 have fin:∀(E':Env) (H':aj) (q:Bool),E' 4=B q->q=eqB a b->aD.post [.slot 4] (fun q H'=>q=B (eqB a b)/\H'=.empty) .ret E' H':=fun E' H' q h1 h2=>ak (by rw[h1,h2];exact .refl _) (aj.sub_empty _) ⟨rfl,rfl⟩
 have no:∀(E':Env) (H':aj),E' 4=B false->a≠b->aD.post [.slot 4] (fun q H'=>q=B (eqB a b)/\H'=.empty) .ret E' H':=fun E' H' h1 h2=>fin E' H' false h1 (cE.2 h2).symm
 simp only[ra,go_sem,rE,rA,rL,fg,eZ,dg,au,am]
 cases h0:eqB a.length b.length
 ·simp only[go_sem,rE,rA,rL,fg,eZ,dg]
  exact no _ _ (rfl) fun e=>cE.1 h0 (by rw[e])
 have h0:=cQ.1 h0
 simp only[go_sem,rE,rA,rL,fg,eZ,dg,am]
 refine aT a.length (fun k E H=>E 0=.sl 1 none (a.map fun i=>[I i])/\E 1=.sl 1 none (b.map fun i=>[I i])/\E 12=I a.length/\E 13=I k/\a.take k=b.take k) ⟨rfl,rfl,rfl,rfl,rfl⟩ ?_
 rintro k E H hk ⟨e0,e1,e12,e13,ht⟩
 simp only[go_sem,rE,rA,rL,fg,eZ,dg,e0,e12,e13,am]
 refine aG (fun hlt=>?_) (fun hge=>?_)
 ·have hk1:k<a.length:=by omega
  have hk2:k<b.length:=by omega
  have w1:=aL (n:=(k:Int)+1) (by omega) (by omega)
  simp only[go_sem,rE,rA,rL,fg,eZ,dg,e0,e1,e13,ji hk1,ji hk2]
  cases h1:eqB a[k] b[k]
  ·simp only[go_sem,rE,rA,rL,fg,eZ,dg]
   exact no _ _ (rfl) (BR hk1 hk2 (cE.1 h1))
  simp only[go_sem,rE,rA,rL,fg,eZ,dg,e13,w1]
  exact⟨hk1,H,aj.sub_refl _,e0,e1,e12,rfl,ut ht hk1 hk2 (cQ.1 h1)⟩
 ·simp only[go_sem,rE,rA,rL,fg,eZ,dg]
  exact fin _ _ true (rfl) (by rw[wo (by omega) hk h0 ht,dE])
noncomputable def yB(ns:List ByteArray)(s:ByteArray):Int:=match ns.findIdx? (fun x=>eqB s x)with|some i=>(i:Int)|none=>-1
theorem mf{ns:List ByteArray}{k:Nat}(h:k<ns.length):(a9 ns)[k]?=some [S ns[k]]:=by simp[a9,h]
theorem Cq(L:eC P F)(ns:List ByteArray)(s:ByteArray)(hl:ns.length<=2^40):cM P F.k_Index [.sl 1 none (a9 ns),S s] (I (yB ns s)):=by
 refine L.k_Index (by simp[qZ]) ?_
 have fin:∀(E':Env) (H':aj) (q:Int),E' 4=I q->q=yB ns s->aD.post [.slot 4] (fun q H'=>q=I (yB ns s)/\H'=.empty) .ret E' H':=fun E' H' q h1 h2=>ak (by rw[h1,h2];exact .refl _) (aj.sub_empty _) ⟨rfl,rfl⟩
 have hlen:(a9 ns).length=ns.length:=by simp[a9]
 simp only[qZ,go_sem,rE,rA,rL,dg,hlen]
 refine aT ns.length (fun k E H=>E 0=.sl 1 none (a9 ns)/\E 1=S s/\E 7=I ns.length/\E 8=I k/\∀i (h:i<ns.length),i<k->eqB s ns[i]=false) ⟨rfl,rfl,rfl,rfl,fun _ _ h=>absurd h (Nat.not_lt_zero _)⟩ ?_
 rintro k E H hk ⟨e0,e1,e7,e8,hall⟩
 simp only[go_sem,rE,rA,rL,dg,e0,e7,e8]
 refine aG (fun hlt=>?_) (fun hge=>?_)
 ·have hk1:k<ns.length:=by omega
  have w1:=aL (n:=(k:Int)+1) (by omega) (by omega)
  simp only[go_sem,rE,rA,rL,dg,e0,e1,e8,mf hk1]
  cases h1:eqB s ns[k]
  ·simp only[go_sem,rE,rA,rL,dg,e8,w1]
   refine⟨hk1,H,aj.sub_refl _,e0,e1,e7,rfl,fun i h hi=>?_⟩
   by_cases hik:i=k
   ·subst hik;exact h1
   ·exact hall i h (by omega)
  ·simp only[go_sem,rE,rA,rL,dg]
   refine fin _ _ k (rfl) ?_
   have:ns.findIdx? (fun x=>eqB s x)=some k:=by
    rw[bQ]
    exact⟨hk1,h1,fun j hj=>by simp[hall j (by omega) hj]⟩
   simp only[yB,this]
 ·simp only[go_sem,rE,rA,rL,dg]
  refine fin _ _ (-1) (rfl) ?_
  have:ns.findIdx? (fun x=>eqB s x)=none:=by
   rw[iB]
   intro x hx
   obtain⟨i,hi,rfl⟩:=bj.1 hx
   exact hall i hi (by omega)
  simp only[yB,this]
theorem wZ(ns:List ByteArray)(s:ByteArray):decide (yB ns s>=0)=ns.any fun x=>eqB s x:=by
 unfold yB
 cases h:ns.findIdx? fun x=>eqB s x with
 |none=>
  rw[iB]at h
  have:(ns.any fun x=>eqB s x)=false:=by rw[List.any_eq_false];intro x hx;simp[h x hx]
  rw[this];rfl
 |some i=>
  obtain⟨hi,h1,-⟩:=bQ.1 h
  have:(ns.any fun x=>eqB s x)=true:=fJ.2 ⟨_,ay hi,h1⟩
  rw[this];simp
theorem xA(L:eC P F)(ns:List ByteArray)(s:ByteArray)(hl:ns.length<=2^40):cM P F.k_Contains [.sl 1 none (a9 ns),S s] (B (ns.any fun x=>eqB s x)):=by
 refine L.k_Contains (by simp[mz]) ?_
 simp only[mz,go_sem,rE,rA,rL]
 refine ao (Cq L ns s hl) rfl ?_
 simp only[go_sem,rE,rA,rL,wZ]
 exact ak (.refl _) (aj.sub_empty _) ⟨rfl,rfl⟩
theorem BO{a b:Pl}(h:a.name=b.name):eqB (a.path.take (min a.path.length b.path.length)) (b.path.take (min a.path.length b.path.length))=a.meet b:=by
 simp only[Pl.meet,h,decide_true,bX]
 generalize a.path=x
 generalize b.path=y
 induction x generalizing y with
 |nil=>simp[dE]
 |cons c x ih=>
  cases y with
  |nil=>simp[dE]
  |cons d y=>
   have:=ih y
   simp only[aV,Nat.add_min_add_right,List.take_succ_cons,List.zip_cons_cons,List.all_cons,<-this]
   rw[aZ]
   simp only[cQ,aw,decide_eq_true_eq,List.cons.injEq]
theorem zK(L:eC P F)(a b:Pl)(ha:a.path.length<=2^40)(hb:b.path.length<=2^40):cM P F.i_placesMeet [.agg a.enc,.agg b.enc] (B (a.meet b)):=by
 refine L.i_placesMeet (by simp[kX]) ?_
 have hmin:(if(b.path.length:Int)<(a.path.length:Int)then(b.path.length:Int)else(a.path.length:Int))=((min a.path.length b.path.length:Nat):Int):=by split<;>omega
 simp only[kX,go_sem,rE,rA,rL,dg,Pl.enc]
 intro b2 hb2 b3 hb3
 have d23:=al (ai _ _ _) hb3
 have g2:=(ae (aj.empty.set b2 (.cells [S a.name,au a.path])) (.cells [S b.name,au b.path]) d23).trans (ai _ _ _)
 have g3:=ai (aj.empty.set b2 (.cells [S a.name,au a.path])) b3 (.cells [S b.name,au b.path])
 generalize(aj.empty.set b2 (.cells [S a.name,au a.path])).set b3 (.cells [S b.name,au b.path])=H0 at*
 have hm1:min a.path.length b.path.length<=(a.path.map fun i=>[I i]).length:=by simp;omega
 have hm2:min a.path.length b.path.length<=(b.path.map fun i=>[I i]).length:=by simp;omega
 simp only[go_sem,rE,rA,rL,dg,g2,g3,au,am,hmin]
 cases h1:eqB a.name b.name
 ·simp only[go_sem,rE,rA,rL,dg,g2,g3]
  refine ak (.refl _) (aj.sub_empty _) ⟨?_,rfl⟩
  have:a.meet b=false:=by simp[Pl.meet,cE.1 h1]
  simp only[go_sem,this]
 ·simp only[go_sem,rE,rA,rL,dg,g2,g3,au,hm1,hm2,fx,and_self,if_true,<-gU]
  refine ao (Cr L (a.path.take _) (b.path.take _) (by simp;omega)) rfl ?_
  simp only[go_sem,rE,rA,rL,dg,g2,g3]
  refine ak (.refl _) (aj.sub_empty _) ⟨?_,rfl⟩
  simp only[go_sem,BO (cQ.1 h1)]
end
section
variable {P:Program}{F:bS}
theorem mR(L:eC P F):∀(n:Nat) (a b:Ty),a.deepB n=true->cM P F.i_typeSame [.agg a.enc,.agg b.enc] (B (eqB a b)):=by
 intro n
 induction n with
 |zero=>intro a b h;cases a;simp[Ty.deepB]at h
 |succ n ih=>
  intro a b h
  obtain⟨hal,hkid⟩:=uh h
  refine L.i_typeSame (by simp[m8]) ?_
  have fin:∀(E':Env) (H':aj) (q:Bool),E' 4=B q->q=eqB a b->aD.post [.slot 4] (fun q H'=>q=B (eqB a b)/\H'=.empty) .ret E' H':=fun E' H' q h1 h2=>ak (by rw[h1,h2];exact .refl _) (aj.sub_empty _) ⟨rfl,rfl⟩
  have no:∀(E':Env) (H':aj),E' 4=B false->a≠b->aD.post [.slot 4] (fun q H'=>q=B (eqB a b)/\H'=.empty) .ret E' H':=fun E' H' h1 h2=>fin E' H' false h1 (cE.2 h2).symm
  rw[Ty.enc_eq,Ty.enc_eq]
  simp only[m8,go_sem,rE,rA,rL,fg,eZ,dg]
  intro b2 hb2 b3 hb3
  have d23:=al (ai _ _ _) hb3
  have g2:=(ae (aj.empty.set b2 (.cells [.sl 1 none (Ty.encs a.kids)])) (.cells [.sl 1 none (Ty.encs b.kids)]) d23).trans (ai _ _ _)
  have g3:=ai (aj.empty.set b2 (.cells [.sl 1 none (Ty.encs a.kids)])) b3 (.cells [.sl 1 none (Ty.encs b.kids)])
  generalize(aj.empty.set b2 (.cells [.sl 1 none (Ty.encs a.kids)])).set b3 (.cells [.sl 1 none (Ty.encs b.kids)])=H0 at*
  simp only[go_sem,rE,rA,rL,fg,eZ,dg,g2,g3,Ty.encs_map,am]
  cases h0:eqB a.kids.length b.kids.length
  ·simp only[go_sem,rE,rA,rL,fg,eZ,dg]
   exact no _ _ (rfl) fun e=>cE.1 h0 (by rw[e])
  have h0:=cQ.1 h0
  simp only[go_sem,rE,rA,rL,fg,eZ,dg,g2,am,Ty.encs_map]
  refine aT a.kids.length (fun k E H=>E 2=.ptr b2 0/\E 3=.ptr b3 0/\H.get b2=some (.cells [.sl 1 none (a.kids.map Ty.enc)])/\H.get b3=some (.cells [.sl 1 none (b.kids.map Ty.enc)])/\E 15=I a.kids.length/\E 16=I k/\a.kids.take k=b.kids.take k)
   ⟨rfl,rfl,by rw[<-Ty.encs_map];exact g2,by rw[<-Ty.encs_map];exact g3,rfl,rfl,rfl⟩ ?_
  clear g2 g3
  rintro k E H hk ⟨e2,e3,g2,g3,e15,e16,ht⟩
  simp only[go_sem,rE,rA,rL,fg,eZ,dg,e2,e15,e16,g2,am]
  refine aG (fun hlt=>?_) (fun hge=>?_)
  ·have hk1:k<a.kids.length:=by omega
   have hk2:k<b.kids.length:=by omega
   have w1:=aL (n:=(k:Int)+1) (by omega) (by omega)
   have ga:(a.kids.map Ty.enc)[k]?=some [.sl 1 none (Ty.encs a.kids[k].kids)]:=by simp[hk1,Ty.enc_eq]
   have gb:(b.kids.map Ty.enc)[k]?=some [.sl 1 none (Ty.encs b.kids[k].kids)]:=by simp[hk2,Ty.enc_eq]
   simp only[go_sem,rE,rA,rL,fg,eZ,dg,e2,e3,e16,g2,g3,ga,gb]
   refine ao (ih a.kids[k] b.kids[k] (hkid _ (ay hk1))) (by simp only[go_sem,rE,rA,rL,fg,eZ,dg,Ty.enc_eq]) ?_
   cases h1:eqB a.kids[k] b.kids[k]
   ·simp only[go_sem,rE,rA,rL,fg,eZ,dg]
    exact no _ _ (rfl) fun e=>BR hk1 hk2 (cE.1 h1) (by rw[e])
   simp only[go_sem,rE,rA,rL,fg,eZ,dg,e16,w1]
   exact⟨hk1,H,aj.sub_refl _,e2,e3,g2,g3,e15,rfl,ut ht hk1 hk2 (cQ.1 h1)⟩
  ·simp only[go_sem,rE,rA,rL,fg,eZ,dg]
   exact fin _ _ true (rfl) (by rw[Ty.ext (wo (by omega) hk h0 ht),dE])
theorem c_parts(L:eC P F)(t:Ty):cM P F.i_Type_parts [.agg t.enc] (.sl 1 none (Ty.encs t.kids)):=by
 refine L.i_Type_parts (by simp[kY]) ?_
 rw[Ty.enc_eq]
 simp only[kY,go_sem,rE,rA,rL]
 intro b hb
 exact ak (.refl _) (aj.sub_empty _) ⟨rfl,rfl⟩
theorem tF(L:eC P F):∀(n:Nat),(∀t:Ty,t.deepB n=true->cM P F.i_typeCopy [.agg t.enc] (.agg t.enc))/\
 ∀a b:Ty,a.deepB n=true->b.deepB n=true->cM P F.i_typePair [.agg a.enc,.agg b.enc] (.agg (Ty.mk [a,b]).enc):=by
 intro n
 have pair:∀n,(∀t:Ty,t.deepB n=true->cM P F.i_typeCopy [.agg t.enc] (.agg t.enc))->
  ∀a b:Ty,a.deepB n=true->b.deepB n=true->cM P F.i_typePair [.agg a.enc,.agg b.enc] (.agg (Ty.mk [a,b]).enc):=by
  intro n hc a b ha hb
  refine L.i_typePair (by simp[m9]) ?_
  have hca:=hc a ha
  have hcb:=hc b hb
  rw[Ty.enc_eq]at hca
  rw[Ty.enc_eq]at hcb
  rw[Ty.enc_eq a,Ty.enc_eq b]
  simp only[m9,go_sem,rE,rA,rL]
  intro b2 hb2 b3 hb3 b4 hb4
  have d23:=al (ai _ _ _) hb3
  have d34:=al (ai _ _ _) hb4
  have d24:=al ((ae _ _ d23).trans (ai _ _ _)) hb4
  simp only[go_sem,rE,rA,rL,d23,d24,d34]
  refine ao hca rfl ?_
  simp only[go_sem,rE,rA,rL,d23,d24,d34]
  refine⟨fun f hf _=>by simp only[cn]at hf;subst hf;simp[ae _ _ d34],?_⟩
  refine ao hcb rfl ?_
  simp only[go_sem,rE,rA,rL,d23,d24,d34,ax,aq,az]
  intro b9 hb9
  have d49:=al (ai _ _ _) hb9
  simp only[go_sem,rE,rA,rL,d23,d24,d34,d49,bh]
  refine bY (off:=0) rfl (ai _ _ _) rfl (.agg ?_) (aj.sub_empty _) ⟨rfl,rfl⟩
  simp only[Ty.enc_eq,Ty.kids,Ty.encs]
  exact .self_sl (.tok _ _ _)
 induction n with
 |zero=>
  have h0:∀t:Ty,t.deepB 0=true->cM P F.i_typeCopy [.agg t.enc] (.agg t.enc):=fun t h=>by cases t;simp[Ty.deepB]at h
  exact⟨h0,pair 0 h0⟩
 |succ n ih=>
  have hc:∀t:Ty,t.deepB (n+1)=true->cM P F.i_typeCopy [.agg t.enc] (.agg t.enc):=by
   rintro⟨ks⟩ ht
   refine L.i_typeCopy (by simp[mA]) ?_
   simp only[Ty.deepB,aw,dq,decide_eq_true_eq,aW]at ht
   rw[Ty.enc_eq]
   simp only[mA,go_sem,rE,rA,rL,Ty.kids]
   intro b1 hb1 b2 hb2
   have d12:=al (ai _ _ _) hb2
   match ks,ht with
   |[],_=>
    simp only[go_sem,rE,rA,rL,d12,Ty.encs,beq_self_eq_true,cW]
    exact bY (off:=0) rfl (ai _ _ _) rfl (.agg (.self_sl (.nil _))) (aj.sub_empty _) ⟨rfl,rfl⟩
   |[.mk ka,.mk kb],ht=>
    have h2:(((2:Nat):Int)==0)=false:=rfl
    have hp:=ih.2 (.mk ka) (.mk kb) (ht.2 _ (by simp)) (ht.2 _ (by simp))
    simp only[Ty.enc_eq,Ty.kids,Ty.encs]at hp
    simp only[go_sem,rE,rA,rL,d12,h2,Ty.encs,Ty.enc_eq,Ty.kids,dz,Int.toNat_zero,a7,ce,dO,Int.reduceToNat,aB]
    refine ao hp rfl ?_
    simp only[go_sem,rE,rA,rL,d12]
    exact bY (off:=0) rfl (ai _ _ _) rfl (.refl _) (aj.sub_empty _) ⟨rfl,rfl⟩
   |[_],ht=>simp at ht
   |_::_::_::_,ht=>simp at ht
  exact⟨hc,pair _ hc⟩
theorem at_drop{p:List Int}{k:Nat}(h:k<p.length)(ks:List Ty):(Ty.mk ks).at (p.drop k)=if 0<=p[k]then(ks[(p[k]).toNat]?).bind fun u=>Ty.at u (p.drop (k+1))else none:=by
 rw[bU h,Ty.at]
theorem Cd(L:eC P F)(n:Nat)(t:Ty)(p:List Int)(ht:t.deepB n=true)(hp:p.length<=2^40):cM P F.i_partAt_i_Type_ [.agg t.enc,au p] (jg (t.at p)):=by
 refine L.i_partAt_i_Type_ (by simp[iN]) ?_
 rw[Ty.enc_eq]
 simp only[iN,go_sem,rE,rA,rL,au,am]
 intro b2 hb2 b4 hb4
 have d24:=al (ai _ _ _) hb4
 refine aT p.length (fun k E H=>∃u m,u.deepB m=true/\t.at p=u.at (p.drop k)/\H.get b2=some (.cells [.sl 1 none (Ty.encs u.kids)])/\(∃y,H.get b4=some (.cells [y]))/\
  E 10=.sl 1 none (p.map fun i=>[I i])/\E 2=.ptr b2 0/\E 4=.ptr b4 0/\E 11=I p.length/\E 12=I k)
  ⟨t,n,ht,rfl,(ae _ _ d24).trans (ai _ _ _),⟨_,ai _ _ _⟩,rfl,rfl,rfl,rfl,rfl⟩ ?_
 rintro k E H hk ⟨u,m,hu,hat,g2,⟨y,g4⟩,e10,e2,e4,e11,e12⟩
 simp only[go_sem,rE,rA,rL,e10,e11,e12]
 refine aG (fun hlt=>?_) (fun hge=>?_)
 ·have hk1:k<p.length:=by omega
  have w1:=aL (n:=(k:Int)+1) (by omega) (by omega)
  simp only[go_sem,rE,rA,rL,e10,e2,e12,ji hk1,g2]
  have hparts:=c_parts L u
  rw[Ty.enc_eq]at hparts
  refine rY (ys:=[]) L.m_parts L.g_parts hparts rfl ?_
  obtain⟨ks⟩:=u
  cases m with
  |zero=>simp[Ty.deepB]at hu
  |succ m=>
  simp only[Ty.deepB,aw,dq,decide_eq_true_eq,aW]at hu
  rw[at_drop hk1]at hat
  simp only[go_sem,rE,rA,rL,Ty.kids]
  match ks,hu,hat with
  |[],_,hat=>
   have h2:(((0:Nat):Int) !=2)=true:=rfl
   have hn:t.at p=none:=by rw[hat];simp
   simp only[go_sem,rE,rA,rL,h2,e10,e2,e4,e12,g2,g4,bP,Ty.encs]
   intro b9 hb9
   have d49:=al g4 hb9
   simp only[go_sem,rE,rA,rL,e4,g4,d49]
   exact cv (off:=0) (e4) (ai _ _ _) rfl ff (aj.sub_empty _) ⟨by simp only[go_sem,rE,rA,rL,hn,jg],rfl⟩
  |[a,b],hu,hat=>
   have h2:(((2:Nat):Int) !=2)=false:=rfl
   by_cases hneg:p[k]<0
   ·have hn:t.at p=none:=by rw[hat,if_neg (by omega)]
    simp only[go_sem,rE,rA,rL,h2,e10,e2,e4,e12,g2,g4,hneg,Ty.encs,aV,bP]
    intro b9 hb9
    have d49:=al g4 hb9
    simp only[go_sem,rE,rA,rL,e4,g4,d49]
    exact cv (off:=0) (e4) (ai _ _ _) rfl ff (aj.sub_empty _) ⟨by simp only[go_sem,rE,rA,rL,hn,jg],rfl⟩
   by_cases hbig:p[k]>1
   ·have hn:t.at p=none:=by
     rw[hat,if_pos (by omega),fE (by simp only[aV,bP];omega)];rfl
    simp only[go_sem,rE,rA,rL,h2,e10,e2,e4,e12,g2,g4,hneg,hbig,Ty.encs,aV,bP]
    intro b9 hb9
    have d49:=al g4 hb9
    simp only[go_sem,rE,rA,rL,e4,g4,d49]
    exact cv (off:=0) (e4) (ai _ _ _) rfl ff (aj.sub_empty _) ⟨by simp only[go_sem,rE,rA,rL,hn,jg],rfl⟩
   have hcase:p[k]=0\/p[k]=1:=by omega
   obtain⟨u',hu',f1,f2⟩:∃u',u'.deepB m=true/\[a.enc,b.enc][(p[k]).toNat]?=some [.sl 1 none (Ty.encs u'.kids)]/\[a,b][(p[k]).toNat]?=some u':=by
    rcases hcase with h|h<;>rw[h]
    ·exact⟨a,hu.2 _ (by simp),by simp[Ty.enc_eq],rfl⟩
    ·exact⟨b,hu.2 _ (by simp),by simp[Ty.enc_eq],rfl⟩
   rw[if_pos (by omega),f2]at hat
   simp only[go_sem,rE,rA,rL,h2,e10,e2,e4,e12,g2,g4,hneg,hbig,Ty.encs,aV,bP,show(0:Int)<=p[k]by omega,f1,if_true,ce,w1]
   refine⟨hk1,_,aj.sub_refl _,u',m,hu',hat,ai _ _ _,⟨y,by rw[ae _ _ (Ne.symm d24)];exact g4⟩,e11,rfl⟩
  |[_],hu,_=>simp at hu
  |_::_::_::_,hu,_=>simp at hu
 ·have hkk:k=p.length:=by omega
  subst hkk
  rw[l8,Ty.at]at hat
  simp only[go_sem,rE,rA,rL,e2,e4,g2,g4,Ne.symm d24]
  refine cv (off:=0) (e4) (ai _ _ _) rfl (.refl _) (aj.sub_empty _) ⟨?_,rfl⟩
  simp only[go_sem,rE,rA,rL,hat,jg,Ty.enc_eq]
theorem zL:∀{n:Nat} {t u:Ty} {p:List Int},t.deepB n=true->t.at p=some u->∃m,m<=n/\u.deepB m=true:=by
 intro n t u p
 induction p generalizing n t with
 |nil=>intro h e;simp only[Ty.at,Option.some.injEq]at e;subst e;exact⟨n,aC _,h⟩
 |cons i p ih=>
  intro h e
  obtain⟨ks⟩:=t
  cases n with
  |zero=>simp[Ty.deepB]at h
  |succ n=>
   simp only[Ty.deepB,aw,aW]at h
   simp only[Ty.at]at e
   split at e
   ·simp only[Option.bind_eq_some_iff]at e
    obtain⟨v,hv,he⟩:=e
    obtain⟨m,hm,h2⟩:=ih (h.2 v (ba hv)) he
    exact⟨m,by omega,h2⟩
   ·simp at e
theorem AP(L:eC P F)(t:Ty)(p:List Int)(hp:p.length<=2^40):cM P F.i_TypeAt [.agg t.enc,au p] (jg (t.atOk p)):=by
 refine L.i_TypeAt (by simp[pG]) ?_
 have hok:=oJ L.toLib t
 rw[Ty.enc_eq]at hok⊢
 simp only[pG,go_sem,rE,rA,rL,au]
 intro b2 hb2 b4 hb4
 have d24:=al (ai _ _ _) hb4
 simp only[go_sem,rE,rA,rL,d24]
 refine ao hok rfl ?_
 simp only[go_sem,rE,rA,rL,d24]
 cases hb:t.okB
 ·simp only[go_sem,rE,rA,rL,d24]
  exact cv (off:=0) rfl (ai _ _ _) rfl ff (aj.sub_empty _) ⟨by simp only[go_sem,rE,rA,rL,Ty.atOk,hb,jg],rfl⟩
 simp only[go_sem,rE,rA,rL,d24]
 have hpa:=Cd L 4 t p hb hp
 rw[Ty.enc_eq]at hpa
 refine ao hpa rfl ?_
 cases hat:t.at p with
 |none=>
  simp only[go_sem,rE,rA,rL,d24,jg,Ty.enc_eq,Ty.kids,Ty.encs,a7,aB]
  intro b6 hb6
  have d46:=al (ai _ _ _) hb6
  simp only[go_sem,rE,rA,rL,d24,d46]
  exact cv (off:=0) rfl (ai _ _ _) rfl ff (aj.sub_empty _) ⟨by simp only[go_sem,rE,rA,rL,Ty.atOk,hb,hat,jg,Ty.enc_eq,Ty.kids,Ty.encs],rfl⟩
 |some u=>
  obtain⟨m,-,hu⟩:=zL hb hat
  have hcp:=(tF L m).1 u hu
  rw[Ty.enc_eq]at hcp
  simp only[go_sem,rE,rA,rL,d24,jg,Ty.enc_eq,a7,aB]
  intro b6 hb6
  have d46:=al (ai _ _ _) hb6
  refine ao hcp rfl ?_
  simp only[go_sem,rE,rA,rL,d24,d46]
  exact cv (off:=0) rfl (ai _ _ _) rfl (.refl _) (aj.sub_empty _) ⟨by simp only[go_sem,rE,rA,rL,Ty.atOk,hb,hat,jg,Ty.enc_eq],rfl⟩
end
structure bW where
 o:Int->Obj
 t:Int->TypeId
 x:Int->AC
def bW.ac(er:bW)(c:Int):AC:=if c=0 then .lit .nilIface else .iface (er.t c) (er.x c)
theorem dh(er:bW):er.ac 0=.lit .nilIface:=rfl
def bS.err(F:bS)(c:Int):Nat:=if c=2 then F.g_errCheckName else if c=3 then F.g_errCheckType else if c=4 then F.g_errCheckLoan else F.g_errCheckOut
def ft(F:bS)(er:bW)(H:aj):Prop:=∀c,(c=2\/c=3\/c=4\/c=5)->H.get (F.err c)=some (.const (er.o c) [.iface (er.t c) (er.x c)])
structure Sc where
 p:List Fu
 vars:List Vr
 given:List ByteArray
 held:List Pl
 lost:Bool
 deriving Inhabited
noncomputable def fC:List Vr->ByteArray->Bool:=fun vs=>vs.foldl (fun f x n=>if eqB n x.name then(if x.param then x.lent else x.lent&&x.loans.all fun q=>f q.name)else f n) fun _=>false
theorem ku(vs:List Vr)(x:Vr)(n:ByteArray):fC (vs++[x]) n=if eqB n x.name then(if x.param then x.lent else x.lent&&x.loans.all fun q=>fC vs q.name)else fC vs n:=by
 simp only[fC,List.foldl_append,dC,List.foldl_nil]
def Vr.ent(o:Bool)(x:Vr):AC:=.agg [.sl 1 none (Ty.encs x.type.kids),B x.param,B x.lent,B (!x.dead),B o,.sl 2 none (x.loans.map Pl.enc)]
noncomputable def cU(vs:List Vr):ByteArray->Option AC:=fun n=>(vs.find? fun x=>eqB x.name n).map fun x=>x.ent (fC vs n)
noncomputable def cJ(ns:List ByteArray):ByteArray->Option AC:=fun n=>if ns.any fun m=>eqB m n then some (I 1)else none
def ScO(p:List Fu)(ORD HELD:AC)(m1 m2:Nat)(lost:Bool):cK:=.cells [.sl 12 none (p.map Fu.enc),ORD,.mp m1,.mp m2,HELD,B lost,.lit .nilFunc]
structure cy(F:bS)(er:bW)(H:aj)(s:Nat)(v:Sc)(ORD HELD:AC)(m1 m2:Nat):Prop where
 obj:H.get s=some (ScO v.p ORD HELD m1 m2 v.lost)
 names:H.get m1=some (.map (cU v.vars))
 given:H.get m2=some (.map (cJ v.given))
 ord:bR H 1 (a9 (v.vars.map (·.name))) ORD
 held:bR H 2 (v.held.map Pl.enc) HELD
 apart:∀b,cG ORD b->¬cG HELD b
 ne:m1≠m2
 errs:ft F er H
 far:∀c,(c=2\/c=3\/c=4\/c=5)->s≠F.err c
 hnil:v.held=[]->HELD=NIL
 onil:v.vars=[]->ORD=NIL
def df(F:bS)(s:Nat)(ORD HELD:AC)(m1 m2:Nat)(b:Nat):Prop:=
 b=s\/b=m1\/b=m2\/cG ORD b\/cG HELD b\/∃c,(c=2\/c=3\/c=4\/c=5)/\b=F.err c
theorem bR.tok{H:aj}{sz:Nat}{es:List (List AC)}{x:AC}(h:bR H sz es x){b:Nat}(hb:cG x b):∃n m,H.get b=some (.tail n m):=by
 obtain⟨sz',n,m,es',rfl⟩:=hb
 rcases h with⟨-,h⟩|⟨c,n',m',h,hc⟩
 ·simp at h
 ·simp at h;obtain⟨-,⟨rfl,-⟩,-⟩:=h;exact⟨n',m',hc⟩
theorem bR.mono{H H':aj}{sz:Nat}{es:List (List AC)}{x:AC}(h:bR H sz es x)(hg:∀b,cG x b->H'.get b=H.get b):bR H' sz es x:=by
 rcases h with⟨rfl,rfl⟩|⟨b,n,m,rfl,hb⟩
 ·exact .nil _ _
 ·exact .inr ⟨b,n,m,rfl,(hg b ⟨_,_,_,_,rfl⟩).trans hb⟩
section
variable {F:bS}{er:bW}{H H':aj}{s:Nat}{v:Sc}{ORD HELD:AC}{m1 m2:Nat}
theorem cy.mem(h:cy F er H s v ORD HELD m1 m2){b:Nat}(hb:df F s ORD HELD m1 m2 b):H.get b≠none:=by
 rcases hb with rfl|rfl|rfl|hb|hb|⟨c,hc,rfl⟩
 ·rw[h.obj];simp[ScO]
 ·rw[h.names];simp
 ·rw[h.given];simp
 ·obtain⟨n,m,e⟩:=h.ord.tok hb;rw[e];simp
 ·obtain⟨n,m,e⟩:=h.held.tok hb;rw[e];simp
 ·rw[h.errs c hc];simp
theorem cy.mono(h:cy F er H s v ORD HELD m1 m2)(hg:∀b,df F s ORD HELD m1 m2 b->H'.get b=H.get b):cy F er H' s v ORD HELD m1 m2 where
 obj:=(hg _ (.inl rfl)).trans h.obj
 names:=(hg _ (.inr (.inl rfl))).trans h.names
 given:=(hg _ (.inr (.inr (.inl rfl)))).trans h.given
 ord:=h.ord.mono fun b hb=>hg b (.inr (.inr (.inr (.inl hb))))
 held:=h.held.mono fun b hb=>hg b (.inr (.inr (.inr (.inr (.inl hb)))))
 apart:=h.apart
 ne:=h.ne
 errs:=fun c hc=>(hg _ (.inr (.inr (.inr (.inr (.inr ⟨c,hc,rfl⟩)))))).trans (h.errs c hc)
 far:=h.far
 hnil:=h.hnil
 onil:=h.onil
theorem cy.only(h:cy F er H s v ORD HELD m1 m2):cy F er (H.only (df F s ORD HELD m1 m2)) s v ORD HELD m1 m2:=h.mono fun _ hb=>bm hb
end
theorem yE{F:bS}{er:bW}{H:aj}(h:ft F er H){b:Nat}(hb:∀o cs,H.get b≠some (.const o cs)):∀c,(c=2\/c=3\/c=4\/c=5)->b≠F.err c:=
 fun c hc e=>hb _ _ (e▸h c hc)
theorem sc_live{F:bS}{er:bW}{H:aj}{s:Nat}{v:Sc}{ORD HELD:AC}{m1 m2:Nat}(h:cy F er H s v ORD HELD m1 m2)(N:Nat)(v':Sc):
 ∃H' ORD' HELD',cy F er H' s v' ORD' HELD' m1 m2/\∀b,H'.get b≠none->H.get b≠none\/N<=b:=by
 obtain⟨n0,hn0⟩:=H.fin
 have s1:s≠m1:=by rintro rfl;have:=h.obj.symm.trans h.names;simp[ScO]at this
 have s2:s≠m2:=by rintro rfl;have:=h.obj.symm.trans h.given;simp[ScO]at this
 have far:∀b,n0<=b->b≠s/\b≠m1/\b≠m2/\∀c,(c=2\/c=3\/c=4\/c=5)->b≠F.err c:=fun b hb=>by
  have hb:=hn0 b hb
  refine⟨?_,?_,?_,fun c hc=>?_⟩<;>rintro rfl
  ·rw[h.obj]at hb;simp at hb
  ·rw[h.names]at hb;simp at hb
  ·rw[h.given]at hb;simp at hb
  ·rw[h.errs c hc]at hb;simp at hb
 obtain⟨a1,a2,a3,a4⟩:=far (n0+N) (by omega)
 obtain⟨c1,c2,c3,c4⟩:=far (n0+N+1) (by omega)
 generalize hb1:n0+N=b1 at*
 have d12:b1≠b1+1:=by omega
 refine⟨((((H.set b1 (.tail 0 0)).set (b1+1) (.tail 0 0)).set m1 (.map (cU v'.vars))).set m2 (.map (cJ v'.given))).set s (ScO v'.p (if v'.vars=[]then NIL else .sl 1 (some (b1,0,0)) (a9 (v'.vars.map (·.name)))) (if v'.held=[]then NIL else .sl 2 (some (b1+1,0,0)) (v'.held.map Pl.enc)) m1 m2 v'.lost),
  _,_,⟨ai _ _ _,?_,?_,?_,?_,?_,h.ne,fun c hc=>?_,h.far,fun h=>by simp[h],fun h=>by simp[h]⟩,fun b hb=>?_⟩
 ·rw[ae _ _ (Ne.symm s1),ae _ _ h.ne,ai]
 ·rw[ae _ _ (Ne.symm s2),ai]
 ·by_cases h0:v'.vars=[]
  ·exact .inl ⟨by simp[h0,a9],if_pos h0⟩
  ·exact .inr ⟨b1,0,0,if_neg h0,by rw[ae _ _ a1,ae _ _ a3,ae _ _ a2,ae _ _ d12,ai]⟩
 ·by_cases h0:v'.held=[]
  ·exact .inl ⟨by simp[h0],if_pos h0⟩
  ·exact .inr ⟨b1+1,0,0,if_neg h0,by rw[ae _ _ c1,ae _ _ c3,ae _ _ c2,ai]⟩
 ·rintro b ⟨_,_,_,_,e⟩ ⟨_,_,_,_,e'⟩
  split at e
  ·simp at e
  ·split at e'
   ·simp at e'
   ·simp at e e';omega
 ·have e1:F.err c≠m1:=fun e=>yE h.errs (b:=m1) (by rw[h.names];simp) c hc e.symm
  have e2:F.err c≠m2:=fun e=>yE h.errs (b:=m2) (by rw[h.given];simp) c hc e.symm
  rw[ae _ _ (Ne.symm (h.far c hc)),ae _ _ e2,ae _ _ e1,ae _ _ (Ne.symm (c4 c hc)),ae _ _ (Ne.symm (a4 c hc))]
  exact h.errs c hc
 ·by_cases h1:b=s
  ·subst h1;exact .inl (by rw[h.obj];simp)
  rw[ae _ _ h1]at hb
  by_cases h2:b=m2
  ·subst h2;exact .inl (by rw[h.given];simp)
  rw[ae _ _ h2]at hb
  by_cases h3:b=m1
  ·subst h3;exact .inl (by rw[h.names];simp)
  rw[ae _ _ h3]at hb
  by_cases h4:b=b1+1
  ·exact .inr (by omega)
  rw[ae _ _ h4]at hb
  by_cases h5:b=b1
  ·exact .inr (by omega)
  rw[ae _ _ h5]at hb
  exact .inl hb
def ScC(P:Program)(F:bS)(er:bW)(g:FuncId)(as:List AC)(s:Nat)(v:Sc)(R:AC->Sc->Prop):Prop:=
 ∀(H:aj) (ORD HELD:AC) (m1 m2:Nat),cy F er H s v ORD HELD m1 m2->bD P g as H fun q H'=>∃v' ORD' HELD',R q v'/\cy F er H' s v' ORD' HELD' m1 m2
theorem ScC.mono{P:Program}{F:bS}{er:bW}{g:FuncId}{as:List AC}{s:Nat}{v:Sc}{R R':AC->Sc->Prop}(h:ScC P F er g as s v R)(hr:∀q v',R q v'->R' q v'):ScC P F er g as s v R':=
 fun H ORD HELD m1 m2 hE=>(h H ORD HELD m1 m2 hE).mono fun q H' ⟨v',VS',NS',h1,h2⟩=>⟨v',VS',NS',hr _ _ h1,h2⟩
section
variable {P:Program}{dr:Bool}{K:Env->aj->Prop}{xs:List aN}{E:Env}{H:aj}{l:Lds}{f:Fps}
theorem cR{F:bS}{er:bW}{i:Nat}{g:FuncId}{args:List aI}{d:Option Nat}{inc:List Nat}{as as':List AC}{s:Nat}{v:Sc}{ORD HELD:AC}{m1 m2:Nat}{R:AC->Sc->Prop}
(hc:ScC P F er g as s v R)(hE:cy F er H s v ORD HELD m1 m2)
(ha:args.map (aI.ev E)=as')(hl:LeA as' as)(hlive:dr=true->∃q v',R q v')(hchk:dS inc l (df F s ORD HELD m1 m2))
(h:∀q v' ORD' HELD' H1 fp,R q v'->cy F er H1 s v' ORD' HELD' m1 m2->(∀b o,H.get b=some o->¬df F s ORD HELD m1 m2 b->H1.get b=some o/\¬df F s ORD' HELD' m1 m2 b)->
  (∀c,fp c->df F s ORD HELD m1 m2 c\/H.get c=none)->bw P dr K xs (E.put d q) H1 l ((i,fp)::f)):
 bw P dr K (⟨i,d,none,.eff (.call g args),inc⟩::xs) E H l f:=by
 have hge:∀b,(H.only (df F s ORD HELD m1 m2)).get b≠none↔df F s ORD HELD m1 m2 b:=by
  intro b
  by_cases hb:df F s ORD HELD m1 m2 b
  ·simp only[bm hb,hb,iff_true];exact hE.mem hb
  ·simp[cd hb,hb]
 refine gH (df F s ORD HELD m1 m2) (hc (H.only (df F s ORD HELD m1 m2)) ORD HELD m1 m2 hE.only) ha hl (fun hd N=>?_) ?_ ?_
 ·obtain⟨q,v',hq⟩:=hlive hd
  obtain⟨H',VS',NS',hE',hfar⟩:=sc_live hE.only N v'
  refine⟨q,H',⟨v',VS',NS',hq,hE'⟩,fun b hb hn=>?_⟩
  rcases hfar b hb with h|h
  ·exact absurd hn h
  ·exact h
 ·have:(fun b=>(H.only (df F s ORD HELD m1 m2)).get b≠none)=df F s ORD HELD m1 m2:=by funext b;exact propext (hge b)
  rw[this];exact hchk
 ·rintro q H' H1 ⟨v',VS',NS',hq,hE'⟩ hsub hafter hnew -
  refine h q v' VS' NS' H1 _ hq (hE'.mono fun d hd=>?_) (fun b o hb hn=>⟨by rw[hafter.out b hn (by rw[hb];simp)];exact hb,fun h=>?_⟩) (fun c hc=>?_)
  ·obtain⟨o,ho⟩:=aJ.1 (hE'.mem hd)
   rw[ho];exact hsub _ _ ho
  ·rcases hnew b (hE'.mem h)with h|h
   ·exact hn h
   ·rw[hb]at h;simp at h
  ·rcases hc with hc|hc
   ·exact .inl ((hge c).1 hc)
   ·exact .inr hc
end
noncomputable def iF(vs:List Vr)(n:ByteArray):List Vr:=vs.map fun x=>if eqB x.name n then {x with dead:=true}else x
theorem wE(vs:List Vr)(n:ByteArray):fC (iF vs n)=fC vs:=by
 unfold fC iF
 rw[List.foldl_map]
 congr 1
 funext f x
 split<;>rfl
theorem pX(vs:List Vr)(n:ByteArray):(iF vs n).map (·.name)=vs.map (·.name):=by
 unfold iF
 rw[List.map_map]
 apply fw
 intro x _
 simp only[Function.comp]
 split<;>rfl
theorem xk(vs:List Vr)(n k:ByteArray):(iF vs n).find? (fun x=>eqB x.name k)=(vs.find? fun x=>eqB x.name k).map fun x=>if eqB x.name n then {x with dead:=true}else x:=by
 unfold iF
 rw[List.find?_map]
 congr 1
 congr 1
 funext x
 simp only[Function.comp]
 split<;>rfl
theorem yy{vs:List Vr}{n:ByteArray}{x:Vr}(h:vs.find? (fun x=>eqB x.name n)=some x):cU (iF vs n)=nK (cU vs) n (Vr.ent (fC vs n) {x with dead:=true}):=by
 funext k
 by_cases hk:k=n
 ·subst hk
  have hx:eqB x.name k=true:=by simpa using List.find?_some h
  rw[iW]
  simp only[cU,xk,h,ce,hx,if_true,wE]
 ·rw[lC _ _ hk]
  simp only[cU,xk,wE,Option.map_map]
  cases hf:vs.find? fun x=>eqB x.name k with
  |none=>rfl
  |some y=>
   have hy:y.name=k:=cQ.1 (by simpa using List.find?_some hf)
   have:eqB y.name n=false:=cE.2 (by rw[hy];exact hk)
   simp[this]
section
variable {P:Program}{F:bS}{er:bW}
theorem Cp(L:eC P F)(s:Nat)(v:Sc)(n:ByteArray)(x:Vr)(hx:v.vars.find? (fun x=>eqB x.name n)=some x):
 ScC P F er F.k_end [.ptr s 0,S n] s v fun q v'=>q=.tup []/\v'={v with vars:=iF v.vars n}:=by
 intro H ORD HELD m1 m2 hE
 refine L.k_end (by simp[uX]) ?_
 have hE0:=hE
 obtain⟨ho,h1,h2,h4,h5,h6,h7,h8,h9⟩:=hE
 simp only[ScO]at ho
 have hnm:cU v.vars n=some (x.ent (fC v.vars n)):=by simp[cU,hx]
 simp only[uX,go_sem,rE,rA,rL,ho]
 refine fG (k:=n) rfl h1 trivial ?_
 simp only[hnm,iE,ap,if_false,Vr.ent]
 simp only[go_sem,rE,rA,rL]
 intro b hb
 have dsb:=al ho hb
 have d1:=al h1 hb
 have d2:=al h2 hb
 simp only[go_sem,rE,rA,rL,dsb,ho]
 refine lg (k:=n) (v':=Vr.ent (fC v.vars n) {x with dead:=true}) (g:=cU v.vars) rfl (.refl _) (by rw[ae _ _ d1];exact h1) trivial ?_
 rw[<-yy hx]
 have s1:s≠m1:=by rintro rfl;rw[h1]at ho;simp at ho
 simp only[go_sem,rE,rA,rL]
 refine di (aj.sub_refl _) ⟨_,ORD,HELD,⟨rfl,rfl⟩,?_,ai _ _ _,?_,?_,?_,h6,h7,fun c hc=>?_,h9,hE0.hnil,fun h=>hE0.onil (by simpa[iF]using h)⟩
 ·rw[ae _ _ s1,ae _ _ dsb];exact ho
 ·rw[ae _ _ (Ne.symm h7),ae _ _ d2];exact h2
 ·rw[pX]
  exact(h4.new hb _).mono fun c hc=>ae _ _ (by
   rintro rfl
   obtain⟨_,_,e⟩:=h4.tok hc;rw[h1]at e;simp at e)
 ·exact(h5.new hb _).mono fun c hc=>ae _ _ (by
   rintro rfl
   obtain⟨_,_,e⟩:=h5.tok hc;rw[h1]at e;simp at e)
 ·have e:=h8 c hc
  rw[ae _ _ (by rintro rfl;rw[h1]at e;simp at e),ae _ _ (al e hb)];exact e
end
def Vr.raw(x:Vr):AC:=.agg [.sl 1 none (Ty.encs x.type.kids),B x.param,B x.lent,B false,B (x.param&&x.lent),.sl 2 none (x.loans.map Pl.enc)]
theorem Al{vs:List Vr}{n:ByteArray}(h:vs.find? (fun x=>eqB x.name n)=none):fC vs n=false:=by
 have:∀(vs:List Vr) (g:ByteArray->Bool),(∀x∈vs,eqB n x.name=false)->vs.foldl (fun f x n=>if eqB n x.name then(if x.param then x.lent else x.lent&&x.loans.all fun q=>f q.name)else f n) g n=g n:=by
  intro vs
  induction vs with
  |nil=>intro g _;rfl
  |cons x vs ih=>
   intro g hx
   rw[dC,ih _ fun y hy=>hx y (dt _ hy)]
   simp[hx x fI]
 refine this vs _ fun x hx=>?_
 have:=List.find?_eq_none.1 h x hx
 exact cE.2 (Ne.symm (cE.1 (by simpa using this)))
theorem wS(vs:List Vr)(n:ByteArray):∃a b c d f,iE (.agg [.lit (.slice none 0 0),.lit (.bool false),.lit (.bool false),.lit (.bool false),.lit (.bool false),.lit (.slice none 0 0)]) false (cU vs n)=.agg [a,b,c,d,B (fC vs n),f]:=by
 cases h:vs.find? (fun x=>eqB x.name n)with
 |none=>rw[Al h];simp[cU,h,iE]
 |some x=>simp[cU,h,iE,Vr.ent]
theorem xi(ns:List ByteArray)(n:ByteArray):cJ (ns++[n])=nK (cJ ns) n (I 1):=by
 funext k
 by_cases hk:k=n
 ·subst hk;rw[iW];simp[cJ,dE]
 ·rw[lC _ _ hk]
  have:eqB n k=false:=cE.2 (Ne.symm hk)
  simp[cJ,this]
theorem wJ{vs:List Vr}{x:Vr}(h:vs.find? (fun y=>eqB y.name x.name)=none):cU (vs++[x])=nK (cU vs) x.name (x.ent (fC (vs++[x]) x.name)):=by
 funext k
 by_cases hk:k=x.name
 ·subst hk
  rw[iW]
  simp[cU,List.find?_append,h,dE]
 ·rw[lC _ _ hk]
  have h1:eqB x.name k=false:=cE.2 (Ne.symm hk)
  have h2:eqB k x.name=false:=cE.2 hk
  simp only[cU,List.find?_append,List.find?_cons,h1,List.find?_nil,Option.or_none,ku,h2,if_false,ap]
section
variable {P:Program}{F:bS}{er:bW}
theorem kg1_wp{s:Nat}{v:Sc}{ORD HELD:AC}{m1 m2 b5:Nat}{x:Vr}{E:Env}{H2:aj}{R:AC->aj->Prop}(hE:cy F er H2 s v ORD HELD m1 m2)(e0:E 0=.ptr s 0)(e1:E 1=S x.name)(e5:E 5=.ptr b5 0)
(hb:∃cs,H2.get b5=some (.cells cs)/\.agg cs=x.ent (fC (v.vars++[x]) x.name))(hnb:¬df F s ORD HELD m1 m2 b5)(hl:v.vars.length<=2^30)
(hf:v.vars.find? (fun y=>eqB y.name x.name)=none)
(hR:∀H' ORD',cy F er H' s {v with vars:=v.vars++[x]} ORD' HELD m1 m2->R (.lit .nilIface) H'):(kg1 F).wp P (aD.post [.slot 6] R) E H2:=by
 obtain⟨cs,hb,hcs⟩:=hb
 simp only[Vr.ent,AC.agg.injEq]at hcs
 subst hcs
 have hE0:=hE
 obtain⟨ho,h1,h2,h4,h5,h6,h7,h8,h9⟩:=hE
 simp only[ScO]at ho
 simp only[kg1,go_sem,rE,rA,rL,e0,e1,ho,ax,aq,az]
 refine eM (es:=a9 (v.vars.map (·.name))) (ys:=[[S x.name]]) (by simp only[go_sem,rE,rA,rL];exact h4) (by simp[go_sem,bh]) (by simp) (by simp[a9];omega) ?_
 intro x' H3 fp hx' hfp hkeep hnew
 have ntok:∀c,(∀n m,H2.get c≠some (.tail n m))->¬cG ORD c:=fun c hc ht=>by obtain⟨n,m,e⟩:=h4.tok ht;exact hc n m e
 have keep:∀c o,H2.get c=some o->(∀n m,o≠.tail n m)->H3.get c=some o:=fun c o hc hn=>by
  rw[hkeep c (by rw[hc];simp) (ntok c fun n m e=>hn n m (by rw[hc]at e;simpa using e))];exact hc
 have ko:=keep s _ ho (by simp)
 have kb:=keep b5 _ hb (by simp)
 have k1:=keep m1 _ h1 (by simp)
 have k2:=keep m2 _ h2 (by simp)
 have dsb:b5≠s:=fun e=>hnb (.inl e)
 have s1:s≠m1:=by rintro rfl;rw[h1]at ho;simp at ho
 have s2:s≠m2:=by rintro rfl;rw[h2]at ho;simp at ho
 simp only[go_sem,rE,rA,rL,e0,e1,e5,ko,kb,hx'.one,dsb]
 refine lg (k:=x.name) (v':=x.ent (fC (v.vars++[x]) x.name)) (g:=cU v.vars) rfl (.refl _) ?_ trivial ?_
 ·rw[ae _ _ (Ne.symm s1)];exact k1
 rw[<-wJ hf]
 simp only[go_sem,rE,rA,rL]
 refine ak (.refl _) (aj.sub_refl _) (hR _ x' ⟨?_,ai _ _ _,?_,?_,?_,fun b hb1 hb2=>?_,h7,fun c hc=>?_,h9,hE0.hnil,fun h=>by simp at h⟩)
 ·rw[ae _ _ s1,ai];rfl
 ·rw[ae _ _ (Ne.symm h7),ae _ _ (Ne.symm s2)];exact k2
 ·have:a9 ((v.vars++[x]).map (·.name))=a9 (v.vars.map (·.name))++[[S x.name]]:=by simp[a9]
  rw[this]
  refine hx'.mono fun b hb=>?_
  obtain⟨n,m,e⟩:=hx'.tok hb
  rw[ae _ _ (by rintro rfl;rw[k1]at e;simp at e),ae _ _ (by rintro rfl;rw[ko]at e;simp at e)]
 ·refine h5.mono fun b hb=>?_
  obtain⟨n,m,e⟩:=h5.tok hb
  rw[ae _ _ (by rintro rfl;rw[h1]at e;simp at e),ae _ _ (by rintro rfl;rw[ho]at e;simp at e)]
  exact hkeep b (by rw[e];simp) fun h=>h6 b h hb
 ·obtain⟨n,m,e⟩:=h5.tok hb2
  rcases hnew b hb1 with h|h
  ·exact h6 b h hb2
  ·rw[h]at e;simp at e
 ·have e:=h8 c hc
  rw[ae _ _ (by rintro rfl;rw[h1]at e;simp at e),ae _ _ (Ne.symm (h9 c hc))]
  exact keep _ _ e (by simp)
theorem c_kgive(L:eC P F)(s:Nat)(v:Sc)(x:Vr)(hd:x.dead=false)(hl:x.loans.length<=2^30)(hn:v.vars.length<=2^30)(hf:(v.given.any fun m=>eqB m x.name)=false->v.vars.find? (fun y=>eqB y.name x.name)=none):
 ScC P F er F.k_give [.ptr s 0,S x.name,x.raw] s v fun q v'=>if v.given.any fun m=>eqB m x.name then q=er.ac 2/\v'=v else q=er.ac 0/\v'={v with vars:=v.vars++[x],given:=v.given++[x.name]}:=by
 intro H ORD HELD m1 m2 hE
 refine L.k_give (by simp[sA]) ?_
 have hE0:=hE
 obtain⟨ho,h1,h2,h4,h5,h6,h7,h8,h9⟩:=hE
 simp only[ScO]at ho
 simp only[sA,go_sem,rE,rA,rL,Vr.raw]
 intro b5 hb5
 have ds5:=al ho hb5
 have d15:=al h1 hb5
 have d25:=al h2 hb5
 simp only[go_sem,rE,rA,rL,ds5,ho]
 refine fG (k:=x.name) (r:=m2) rfl (by rw[ae _ _ d25];exact h2) trivial ?_
 have ge:H.get F.g_errCheckName=some (.const (er.o 2) [.iface (er.t 2) (er.x 2)]):=by simpa[bS.err]using h8 2 (.inl rfl)
 have de5:=al ge hb5
 cases hg:v.given.any fun m=>eqB m x.name
 ·have hv:cJ v.given x.name=none:=by simp only[cJ,hg];rfl
  have hf:=hf hg
  have gz:decide ((0:Int)>0)=false:=rfl
  simp only[hv,iE,ap,if_false]
  simp only[go_sem,rE,rA,rL,ds5,ho,gz]
  refine lg (k:=x.name) (v':=I 1) (g:=cJ v.given) rfl (.refl _) (by rw[ae _ _ d25];exact h2) trivial ?_
  rw[<-xi]
  have hnb:¬df F s ORD HELD m1 m2 b5:=fun h=>hE0.mem h hb5
  have hE1:∀H2:aj,(∀c,H.get c≠none->H2.get c=(H.set m2 (.map (cJ (v.given++[x.name])))).get c)->cy F er H2 s {v with given:=v.given++[x.name]} ORD HELD m1 m2:=by
   intro H2 hH
   have:cy F er (H.set m2 (.map (cJ (v.given++[x.name])))) s {v with given:=v.given++[x.name]} ORD HELD m1 m2:=by
    have n2:∀c o,H.get c=some o->(∀g,o≠.map g)->(H.set m2 (.map (cJ (v.given++[x.name])))).get c=some o:=fun c o hc hn=>by
     rw[ae _ _ (by rintro rfl;rw[h2]at hc;simp at hc;exact hn _ hc.symm)];exact hc
    refine⟨n2 _ _ ho (by simp[ScO]),?_,ai _ _ _,h4.mono fun b hb=>?_,h5.mono fun b hb=>?_,h6,h7,fun c hc=>n2 _ _ (h8 c hc) (by simp),h9,hE0.hnil,hE0.onil⟩
    ·rw[ae _ _ h7];exact h1
    ·obtain⟨n,m,e⟩:=h4.tok hb;rw[n2 _ _ e (by simp),e]
    ·obtain⟨n,m,e⟩:=h5.tok hb;rw[n2 _ _ e (by simp),e]
   exact this.mono fun b hb=>hH b (hE0.mem hb)
  have fin:∀(E':Env) (H2:aj) (cs:List AC),E' 0=.ptr s 0->E' 1=S x.name->E' 5=.ptr b5 0->H2.get b5=some (.cells cs)->.agg cs=x.ent (fC (v.vars++[x]) x.name)->
   (∀c,H.get c≠none->H2.get c=(H.set m2 (.map (cJ (v.given++[x.name])))).get c)->(kg1 F).wp P (aD.post [.slot 6] fun q H'=>∃v' ORD' HELD',
    (q=er.ac 0/\v'={v with vars:=v.vars++[x],given:=v.given++[x.name]})/\cy F er H' s v' ORD' HELD' m1 m2) E' H2:=by
   intro E' H2 cs q0 q1 q5 hb hcs hH
   exact kg1_wp (hE1 H2 hH) q0 q1 q5 ⟨cs,hb,hcs⟩ hnb hn hf fun H' ORD' hS=>⟨_,ORD',HELD,⟨rfl,rfl⟩,hS⟩
  have k5:((H.set b5 (.cells [.sl 1 none (Ty.encs x.type.kids),B x.param,B x.lent,B false,B (x.param&&x.lent),.sl 2 none (x.loans.map Pl.enc)])).set m2 (.map (cJ (v.given++[x.name])))).get b5=
   some (.cells [.sl 1 none (Ty.encs x.type.kids),B x.param,B x.lent,B false,B (x.param&&x.lent),.sl 2 none (x.loans.map Pl.enc)]):=by rw[ae _ _ (Ne.symm d25),ai]
  have kH:∀c,H.get c≠none->((H.set b5 (.cells [.sl 1 none (Ty.encs x.type.kids),B x.param,B x.lent,B false,B (x.param&&x.lent),.sl 2 none (x.loans.map Pl.enc)])).set m2 (.map (cJ (v.given++[x.name])))).get c=
   (H.set m2 (.map (cJ (v.given++[x.name])))).get c:=fun c hc=>by
   by_cases hcm:c=m2
   ·subst hcm;rw[ai,ai]
   ·rw[ae _ _ hcm,ae _ _ hcm,ae _ _ (by rintro rfl;exact hc hb5)]
  generalize(H.set b5 (.cells [.sl 1 none (Ty.encs x.type.kids),B x.param,B x.lent,B false,B (x.param&&x.lent),.sl 2 none (x.loans.map Pl.enc)])).set m2 (.map (cJ (v.given++[x.name])))=H1 at*
  have kS:∀cs' c,H.get c≠none->(H1.set b5 (.cells cs')).get c=(H.set m2 (.map (cJ (v.given++[x.name])))).get c:=fun cs' c hc=>by
   rw[ae _ _ (by rintro rfl;exact hc hb5)];exact kH c hc
  cases hp:x.param
  ·cases hq:x.lent
   ·simp only[go_sem,rE,rA,rL,k5,hp,hq,aO,aK,fP]
    exact fin _ _ _ rfl rfl rfl (ai _ _ _) (by simp[Vr.ent,hd,ku,dE,hp,hq]) (kS _)
   ·simp only[go_sem,rE,rA,rL,k5,hp,hq,aO,aK,fP]
    have g1:∀H':aj,(∀c,H.get c≠none->H'.get c=(H.set m2 (.map (cJ (v.given++[x.name])))).get c)->H'.get m1=some (.map (cU v.vars))/\H'.get s=some (.cells [.sl 12 none (v.p.map Fu.enc),ORD,.mp m1,.mp m2,HELD,B v.lost,.lit .nilFunc]):=fun H' h=>by
     refine⟨?_,?_⟩
     ·rw[h m1 (by rw[h1];simp),ae _ _ h7];exact h1
     ·rw[h s (by rw[ho];simp),ae _ _ (by rintro rfl;rw[h2]at ho;simp at ho)];exact ho
    refine aT x.loans.length (fun k E' H'=>E' 0=.ptr s 0/\E' 1=S x.name/\E' 5=.ptr b5 0/\E' 32=.sl 2 none (x.loans.map Pl.enc)/\E' 33=I x.loans.length/\E' 34=I k/\
     H'.get b5=some (.cells [.sl 1 none (Ty.encs x.type.kids),B false,B true,B true,B ((x.loans.take k).all fun q=>fC v.vars q.name),.sl 2 none (x.loans.map Pl.enc)])/\
     ∀c,H.get c≠none->H'.get c=(H.set m2 (.map (cJ (v.given++[x.name])))).get c) ⟨rfl,rfl,rfl,rfl,(by simp only[go_sem,rE,rA,rL,am]),rfl,ai _ _ _,kS _⟩ ?_
    rintro k E' H' hk ⟨q0,q1,q5,q32,q33,q34,gb,kk⟩
    obtain⟨gm,gs⟩:=g1 H' kk
    simp only[go_sem,rE,rA,rL,q33,q34]
    refine aG (fun hlt=>?_) (fun hge=>?_)
    ·have hk1:k<x.loans.length:=by omega
     have w1:=aL (n:=(k:Int)+1) (by omega) (by omega)
     have hgk:(x.loans.map Pl.enc)[k]?=some [S x.loans[k].name,au x.loans[k].path]:=by simp[hk1,Pl.enc]
     simp only[go_sem,rE,rA,rL,q0,q1,q5,q32,q34,gb,hgk]
     intro b8 hb8
     have d58:=al gb hb8
     have ds8:=al gs hb8
     have dm8:=al gm hb8
     simp only[go_sem,rE,rA,rL,d58,q5,gb]
     have kk8:∀cs cs' c,H.get c≠none->(((H'.set b8 (.cells cs)).set b5 (.cells cs')).get c=(H.set m2 (.map (cJ (v.given++[x.name])))).get c):=fun cs cs' c hc=>by
      rw[ae _ _ (by rintro rfl;exact hc hb5),ae _ _ ?_]
      ·exact kk c hc
      ·rintro rfl
       have:=kk _ hc
       rw[hb8]at this
       by_cases hcm:c=m2
       ·subst hcm;rw[ai]at this;simp at this
       ·rw[ae _ _ hcm]at this;exact hc this.symm
     have all1:((x.loans.take (k+1)).all fun q=>fC v.vars q.name)=(((x.loans.take k).all fun q=>fC v.vars q.name)&&fC v.vars x.loans[k].name):=by
      rw[aA hk1,eG];simp
     cases hal:(x.loans.take k).all fun q=>fC v.vars q.name
     ·simp only[go_sem,rE,rA,rL,d58,q5,gb,hal,w1,q34]
      exact⟨hk1,_,aj.sub_refl _,q0,q1,q32,q33,rfl,by rw[ai,all1,hal];rfl,fun c hc=>kk8 _ _ c hc⟩
     ·simp only[go_sem,rE,rA,rL,d58,q0,q5,gb,gs,ds8,hal]
      refine fG (k:=x.loans[k].name) (g:=cU v.vars) rfl (by rw[ae _ _ dm8];exact gm) trivial ?_
      obtain⟨a,b,c,d,f,he⟩:=wS v.vars x.loans[k].name
      rw[he]
      simp only[go_sem,rE,rA,rL,d58,q5,gb,w1,q34]
      exact⟨hk1,_,aj.sub_refl _,q0,q1,q32,q33,rfl,by rw[ai,all1,hal];rfl,fun c hc=>kk8 _ _ c hc⟩
    ·simp only[go_sem,rE,rA,rL]
     have hkk:k=x.loans.length:=by omega
     subst hkk
     rw[aU]at gb
     exact fin _ _ _ q0 q1 q5 gb (by simp[Vr.ent,hd,ku,dE,hp,hq]) kk
  ·simp only[go_sem,rE,rA,rL,k5,hp,bX]
   exact fin _ _ _ rfl rfl rfl (ai _ _ _) (by simp[Vr.ent,hd,ku,dE,hp]) (kS _)
 ·have hv:cJ v.given x.name=some (I 1):=by simp only[cJ,hg];rfl
  have gz:decide ((1:Int)>0)=true:=rfl
  simp only[hv,iE,ap,if_false]
  simp only[go_sem,rE,rA,rL,ds5,ho,gz,de5,ge]
  refine ak (.refl _) (H':=H) (fun b o hb=>?_) ⟨v,ORD,HELD,⟨?_,rfl⟩,hE0⟩
  ·rw[ae _ _ (al hb hb5)];exact hb
  ·simp only[go_sem,rE,rA,rL,bW.ac];rfl
end
noncomputable def eV(vs:List Vr)(p:Pl):Ty×Int:=match vs.find? (fun x=>eqB x.name p.name)with
 |none=>(.mk [],2)
 |some x=>if x.dead then(.mk [],4)else match x.type.atOk p.path with
  |none=>(.mk [],3)
  |some u=>(u,0)
def hG(er:bW)(r:Ty×Int):AC:=.tup [.agg r.1.enc,er.ac r.2]
section
variable {P:Program}{F:bS}{er:bW}
theorem c_kpart(L:eC P F)(s:Nat)(v:Sc)(p:Pl)(hp:p.path.length<=2^40):
 ScC P F er F.k_part [.ptr s 0,.agg p.enc] s v fun q v'=>q=hG er (eV v.vars p)/\v'=v:=by
 intro H ORD HELD m1 m2 hE
 refine L.k_part (by simp[s9]) ?_
 have hE0:=hE
 obtain⟨ho,h1,h2,h4,h5,h6,h7,h8,h9⟩:=hE
 simp only[ScO]at ho
 have ge2:H.get F.g_errCheckName=some (.const (er.o 2) [.iface (er.t 2) (er.x 2)]):=by simpa[bS.err]using h8 2 (.inl rfl)
 have ge3:H.get F.g_errCheckType=some (.const (er.o 3) [.iface (er.t 3) (er.x 3)]):=by simpa[bS.err]using h8 3 (.inr (.inl rfl))
 have ge4:H.get F.g_errCheckLoan=some (.const (er.o 4) [.iface (er.t 4) (er.x 4)]):=by simpa[bS.err]using h8 4 (.inr (.inr (.inl rfl)))
 have bad:∀(E':Env) (H':aj) (b4:Nat) (c:Int),H'.get b4=some (.cells [NIL])->E' 4=.ptr b4 0->E' 5=er.ac c->H.sub H'->eV v.vars p=(.mk [],c)->
  aD.post [.cell 4 (some 1),.slot 5] (fun q H'=>∃v' ORD' HELD',(q=hG er (eV v.vars p)/\v'=v)/\cy F er H' s v' ORD' HELD' m1 m2) .ret E' H':=by
  intro E' H' b4 c hb q4 q5 hs hc
  exact cv (off:=0) q4 hb rfl ff hs ⟨v,ORD,HELD,⟨by rw[hc,q5];rfl,rfl⟩,hE0⟩
 simp only[s9,go_sem,rE,rA,rL,Pl.enc]
 intro b3 hb3 b4 hb4
 have ds3:=al ho hb3
 have d13:=al h1 hb3
 have d34:=al (ai _ _ _) hb4
 have up3:∀c o,H.get c=some o->(H.set b3 (.cells [S p.name,au p.path])).get c=some o:=fun c o hc=>by rw[ae _ _ (al hc hb3)];exact hc
 have ds4:=al (up3 _ _ ho) hb4
 have d14:=al (up3 _ _ h1) hb4
 simp only[go_sem,rE,rA,rL,ds3,ds4,ho,d34]
 refine fG (k:=p.name) (g:=cU v.vars) rfl (by rw[ae _ _ d14,ae _ _ d13];exact h1) trivial ?_
 have n2:=al (up3 _ _ ge2) hb4
 have n3:=al (up3 _ _ ge3) hb4
 have n4:=al (up3 _ _ ge4) hb4
 have g3:((H.set b3 (.cells [S p.name,au p.path])).set b4 (.cells [NIL])).get b3=some (.cells [S p.name,au p.path]):=by rw[ae _ _ d34,ai]
 have g4:((H.set b3 (.cells [S p.name,au p.path])).set b4 (.cells [NIL])).get b4=some (.cells [NIL]):=ai _ _ _
 have up:∀c o,H.get c=some o->((H.set b3 (.cells [S p.name,au p.path])).set b4 (.cells [NIL])).get c=some o:=fun c o hc=>by
  rw[ae _ _ (al (up3 _ _ hc) hb4)];exact up3 _ _ hc
 have f4:H.get b4=none:=by
  cases hq:H.get b4 with
  |none=>rfl
  |some o=>rw[up3 _ _ hq]at hb4;simp at hb4
 clear hb4 up3 d34 d14 d13 hb3
 generalize(H.set b3 (.cells [S p.name,au p.path])).set b4 (.cells [NIL])=H4 at*
 have up6:∀b6 cs,H4.get b6=none->∀c o,H.get c=some o->(H4.set b6 (.cells cs)).get c=some o:=fun b6 cs h6 c o hc=>by
  rw[ae _ _ (al (up _ _ hc) h6)];exact up _ _ hc
 have up46:∀b6 cs cs',H4.get b6=none->H.sub ((H4.set b6 (.cells cs)).set b4 (.cells cs')):=fun b6 cs cs' h6 c o hc=>by
  rw[aM]
  split
  ·rename_i e;subst e
   rw[f4]at hc;simp at hc
  ·exact up6 b6 cs h6 c o hc
 cases hf:v.vars.find? (fun x=>eqB x.name p.name)with
 |none=>
  have hc:eV v.vars p=(.mk [],2):=by simp[eV,hf]
  have hn:cU v.vars p.name=none:=by simp[cU,hf]
  simp only[hn,iE,ap,if_false,if_true]
  simp only[go_sem,rE,rA,rL,ds3,ds4,ho,a7,aB]
  intro b6 hb6
  have d46:=al g4 hb6
  simp only[go_sem,rE,rA,rL,up6 _ _ hb6 _ _ ge2,d46,g4]
  exact⟨fun l hl _=>by simp only[cn]at hl;subst hl;exact n2,bad _ _ b4 2 (ai _ _ _) rfl rfl (up46 _ _ _ hb6) hc⟩
 |some x=>
  have hn:cU v.vars p.name=some (x.ent (fC v.vars p.name)):=by simp[cU,hf]
  simp only[hn,iE,ap,if_false,if_true,Vr.ent]
  simp only[go_sem,rE,rA,rL,ds3,ds4,ho,a7,aB]
  intro b6 hb6
  have d46:=al g4 hb6
  have d36:=al g3 hb6
  cases hdd:x.dead
  ·simp only[go_sem,rE,rA,rL,d46,d36,g3,g4]
   have hta:=AP L x.type p.path hp
   rw[Ty.enc_eq]at hta
   refine ao hta rfl ?_
   cases hat:x.type.atOk p.path with
   |none=>
    have hc:eV v.vars p=(.mk [],3):=by simp[eV,hf,hdd,hat]
    simp only[go_sem,rE,rA,rL,d46,d36,g3,g4,jg,Ty.enc_eq,a7,aB]
    intro b8 hb8
    have g46:=fun cs=>(ae H4 (.cells cs) d46).trans g4
    have d48:=al (g46 _) hb8
    have up8:∀c o,H.get c=some o->∀cs,((H4.set b6 (.cells [.sl 1 none (Ty.encs x.type.kids),B x.param,B x.lent,B true,B (fC v.vars p.name),.sl 2 none (x.loans.map Pl.enc)])).set b8 (.cells cs)).get c=some o:=fun c o hc cs=>by
     rw[ae _ _ (al (up6 _ _ hb6 _ _ hc) hb8)];exact up6 _ _ hb6 _ _ hc
    have up48:∀cs cs',H.sub (((H4.set b6 (.cells [.sl 1 none (Ty.encs x.type.kids),B x.param,B x.lent,B true,B (fC v.vars p.name),.sl 2 none (x.loans.map Pl.enc)])).set b8 (.cells cs)).set b4 (.cells cs')):=fun cs cs' c o hc=>by
     rw[aM]
     split
     ·rename_i e;subst e
      rw[f4]at hc;simp at hc
     ·exact up8 c o hc cs
    simp only[go_sem,rE,rA,rL,up8 _ _ ge3,d46,d48,g4]
    exact⟨fun l hl _=>by simp only[cn]at hl;subst hl;exact n3,bad _ _ b4 3 (ai _ _ _) rfl rfl (up48 _ _) hc⟩
   |some u=>
    have hc:eV v.vars p=(u,0):=by simp[eV,hf,hdd,hat]
    simp only[go_sem,rE,rA,rL,d46,d36,g3,g4,jg,Ty.enc_eq,a7,aB]
    intro b8 hb8
    have g46:=fun cs=>(ae H4 (.cells cs) d46).trans g4
    have d48:=al (g46 _) hb8
    have up8:∀c o,H.get c=some o->∀cs,((H4.set b6 (.cells [.sl 1 none (Ty.encs x.type.kids),B x.param,B x.lent,B true,B (fC v.vars p.name),.sl 2 none (x.loans.map Pl.enc)])).set b8 (.cells cs)).get c=some o:=fun c o hc cs=>by
     rw[ae _ _ (al (up6 _ _ hb6 _ _ hc) hb8)];exact up6 _ _ hb6 _ _ hc
    have up48:∀cs cs',H.sub (((H4.set b6 (.cells [.sl 1 none (Ty.encs x.type.kids),B x.param,B x.lent,B true,B (fC v.vars p.name),.sl 2 none (x.loans.map Pl.enc)])).set b8 (.cells cs)).set b4 (.cells cs')):=fun cs cs' c o hc=>by
     rw[aM]
     split
     ·rename_i e;subst e
      rw[f4]at hc;simp at hc
     ·exact up8 c o hc cs
    simp only[go_sem,rE,rA,rL,d46,d48,g4]
    refine cv (off:=0) rfl (ai _ _ _) rfl (.refl _) (up48 _ _) ⟨v,ORD,HELD,⟨?_,rfl⟩,hE0⟩
    rw[hc]
    simp only[go_sem,rE,rA,rL,hG,dh,Ty.enc_eq]
  ·have hc:eV v.vars p=(.mk [],4):=by simp[eV,hf,hdd]
   simp only[go_sem,rE,rA,rL,up6 _ _ hb6 _ _ ge4,d46,g4]
   exact⟨fun l hl _=>by simp only[cn]at hl;subst hl;exact n4,bad _ _ b4 4 (ai _ _ _) rfl rfl (up46 _ _ _ hb6) hc⟩
end
def fN(vs:List Vr):List ByteArray:=(vs.filter fun x=>!x.dead).map (·.name)
theorem tm(vs:List Vr)(x:Vr):fN (vs++[x])=if x.dead then fN vs else fN vs++[x.name]:=by
 unfold fN
 rw[List.filter_append,bB]
 cases h:x.dead<;>simp[h]
theorem vD{vs:List Vr}(hnd:(vs.map (·.name)).Nodup){k:Nat}(hk:k<vs.length):vs.find? (fun x=>eqB x.name vs[k].name)=some vs[k]:=by
 rw[List.find?_eq_some_iff_append]
 refine⟨by simp[dE],vs.take k,vs.drop (k+1),by rw[<-bU hk,iw],fun y hy=>?_⟩
 obtain⟨i,hi,rfl⟩:=bj.1 hy
 rw[bk]at hi
 rw[List.getElem_take]
 have:vs[i].name≠vs[k].name:=by
  have:=List.pairwise_iff_getElem.1 hnd i k (by simp;omega) (by simp;omega) (by omega)
  simpa using this
 simp[cE.2 this]
section
variable {P:Program}{F:bS}{er:bW}
theorem vM(L:eC P F)(s:Nat)(v:Sc)(hnd:(v.vars.map (·.name)).Nodup)(hl:v.vars.length<=2^30):
 ScC P F er F.k_liveNames [.ptr s 0] s v fun q v'=>q=.sl 1 none (a9 (fN v.vars))/\v'=v:=by
 intro H ORD HELD m1 m2 hE
 refine L.k_liveNames (by simp[j8]) ?_
 have hE0:=hE
 obtain⟨ho,h1,h2,h4,h5,h6,h7,h8,h9⟩:=hE
 simp only[ScO]at ho
 have hlen:(a9 (v.vars.map (·.name))).length=v.vars.length:=by simp[a9]
 have fin:∀(E':Env) (H':aj),Le (E' 2) (.sl 1 none (a9 (fN v.vars)))->H.sub H'->aD.post [.slot 2] (fun q H'=>∃v' ORD' HELD',(q=.sl 1 none (a9 (fN v.vars))/\v'=v)/\cy F er H' s v' ORD' HELD' m1 m2) .ret E' H':=
  fun E' H' hle hs=>ak hle hs ⟨v,ORD,HELD,⟨rfl,rfl⟩,hE0⟩
 rcases h4 with⟨hnil,rfl⟩|⟨b,n,m,rfl,hb⟩
 ·have hv:v.vars=[]:=by rw[hnil]at hlen;exact bu hlen.symm
  simp only[j8,go_sem,rE,rA,rL,ho]
  refine aT 0 (fun k E' H'=>E' 3=NIL/\E' 10=I 0/\E' 11=I k/\H.sub H') ⟨rfl,rfl,rfl,H.sub_refl⟩ ?_
  rintro k E' H' hk ⟨q3,q10,q11,hs⟩
  have:k=0:=by omega
  subst this
  simp only[go_sem,rE,rA,rL,q3,q10,q11,cW,Int.lt_irrefl]
  exact fin _ _ (by rw[hv];exact .nil 1) hs
 ·simp only[j8,go_sem,rE,rA,rL,ho,hlen]
  refine aT v.vars.length (fun k E' H'=>E' 0=.ptr s 0/\E' 9=.sl 1 (some (b,n,m)) (a9 (v.vars.map (·.name)))/\E' 10=I v.vars.length/\E' 11=I k/\bR H' 1 (a9 (fN (v.vars.take k))) (E' 3)/\
   (∀c,H.get c≠none->H'.get c=H.get c)/\∀c,cG (E' 3) c->H.get c=none) ⟨rfl,rfl,rfl,rfl,.inl ⟨rfl,rfl⟩,fun _ _=>rfl,fun c ⟨_,_,_,_,e⟩=>by simp[fR,md]at e⟩ ?_
  rintro k E' H' hk ⟨q0,q9,q10,q11,qa,kk,kt⟩
  have gs:H'.get s=some (.cells [.sl 12 none (v.p.map Fu.enc),.sl 1 (some (b,n,m)) (a9 (v.vars.map (·.name))),.mp m1,.mp m2,HELD,B v.lost,.lit .nilFunc]):=by rw[kk s (by rw[ho];simp)];exact ho
  have gm:H'.get m1=some (.map (cU v.vars)):=by rw[kk m1 (by rw[h1];simp)];exact h1
  simp only[go_sem,rE,rA,rL,q10,q11]
  refine aG (fun hlt=>?_) (fun hge=>?_)
  ·have hk1:k<v.vars.length:=by omega
   have w1:=aL (n:=(k:Int)+1) (by omega) (by omega)
   have hg:=mf (ns:=v.vars.map (·.name)) (k:=k) (by simpa using hk1)
   rw[gX]at hg
   have hnm:cU v.vars v.vars[k].name=some (v.vars[k].ent (fC v.vars v.vars[k].name)):=by simp only[cU,vD hnd hk1,ce]
   have hsn:=tm (v.vars.take k) v.vars[k]
   rw[<-aA hk1]at hsn
   simp only[go_sem,rE,rA,rL,q0,q9,q11,hg,gs]
   refine fG (k:=v.vars[k].name) (g:=cU v.vars) rfl gm trivial ?_
   simp only[hnm,iE,ap,if_false,Vr.ent]
   cases hdd:v.vars[k].dead
   ·simp only[go_sem,rE,rA,rL,q0,q9,q11,ax,aq,az]
    refine eM (es:=a9 (fN (v.vars.take k))) (ys:=[[S v.vars[k].name]]) (by simp only[go_sem,rE,rA,rL];exact qa) (by simp[go_sem,bh]) (by simp) (by
     have:(fN (v.vars.take k)).length<=v.vars.length:=by
      unfold fN
      rw[am]
      exact bZ (ix _ _) (by rw[bk];omega)
     simp[a9];omega) ?_
    intro x' H3 fp hx' hfp hkeep hnew
    have hrow:a9 (fN (v.vars.take (k+1)))=a9 (fN (v.vars.take k))++[[S v.vars[k].name]]:=by rw[hsn,hdd];simp[a9]
    have nt:∀c,H.get c≠none->¬cG (E' 3) c:=fun c hc ht=>hc (kt c ht)
    simp only[go_sem,rE,rA,rL,q0,q9,q11,w1]
    refine⟨hk1,H3,aj.sub_refl _,q10,rfl,by rw[hrow];exact hx',fun c hc=>?_,fun c hc=>?_⟩
    ·rw[<-kk c hc]
     exact hkeep c (by rw[kk c hc];exact hc) fun h=>nt c hc (by simpa only[go_sem,rE,rA,rL]using h)
    ·rcases hnew c hc with h|h
     ·exact kt c (by simpa only[go_sem,rE,rA,rL]using h)
     ·cases hq:H.get c with
      |none=>rfl
      |some o=>rw[kk c (by rw[hq];simp),hq]at h;simp at h
   ·simp only[go_sem,rE,rA,rL,q0,q9,q11,w1]
    have hrow:fN (v.vars.take (k+1))=fN (v.vars.take k):=by rw[hsn,hdd];rfl
    refine⟨hk1,H',aj.sub_refl _,q10,rfl,by rw[hrow];exact qa,kk,kt⟩
  ·have hkk:k=v.vars.length:=by omega
   subst hkk
   rw[aU]at qa
   simp only[go_sem,rE,rA,rL]
   exact fin _ _ qa.le fun c o hc=>by rw[kk c (by rw[hc];simp)];exact hc
end
theorem yx:cU []=fun _=>none:=by funext n;simp[cU]
theorem tv:cJ []=fun _=>none:=by funext n;simp[cJ]
section
variable {P:Program}{F:bS}{er:bW}
theorem xB(L:eC P F)(ahead:List Fu)(H:aj)(h8:ft F er H):
 bD P F.k_Begin [.sl 12 none (ahead.map Fu.enc)] H fun q H'=>∃s m1 m2,q=.ptr s 0/\cy F er H' s ⟨ahead,[],[],[],false⟩ NIL NIL m1 m2/\
  (∀c o,H.get c=some o->H'.get c=some o)/\H.get s=none/\H.get m1=none/\H.get m2=none:=by
 refine L.k_Begin (by simp[rb]) ?_
 simp only[rb,go_sem,rE,rA,rL]
 refine ri fun m1 hm1=>?_
 refine ri fun m2 hm2=>?_
 simp only[go_sem,rE,rA,rL]
 intro s hs
 have d12:=al (ai _ _ _) hm2
 have d2s:=al (ai _ _ _) hs
 have d1s:=al ((ae _ _ d12).trans (ai _ _ _)) hs
 have hm2':H.get m2=none:=by rw[ae _ _ (Ne.symm d12)]at hm2;exact hm2
 have hs':H.get s=none:=by rw[ae _ _ (Ne.symm d2s),ae _ _ (Ne.symm d1s)]at hs;exact hs
 have up:∀(x y z:cK) c o,H.get c=some o->(((H.set m1 x).set m2 y).set s z).get c=some o:=fun x y z c o hc=>by
  rw[ae _ _ (al hc hs'),ae _ _ (al hc hm2'),ae _ _ (al hc hm1)];exact hc
 simp only[go_sem,rE,rA,rL]
 refine ak (.refl _) (aj.sub_refl _) ⟨s,m1,m2,rfl,⟨ai _ _ _,?_,?_,.inl ⟨rfl,rfl⟩,.inl ⟨rfl,rfl⟩,fun b ⟨_,_,_,_,e⟩=>by simp at e,d12,fun c hc=>up _ _ _ _ _ (h8 c hc),fun c hc=>Ne.symm (al (h8 c hc) hs'),fun _=>rfl,fun _=>rfl⟩,fun c o hc=>up _ _ _ _ _ hc,hs',hm1,hm2'⟩
 ·rw[ae _ _ d1s,ae _ _ d12,ai,yx]
 ·rw[ae _ _ d2s,ai,tv]
end
theorem tW(H:aj){r b:Nat}{o:cK}:H.swap (H.only (·=r)) ((H.only (·=r)).set b o)=H.set b o:=by
 ext c:1
 rw[bG,aM,aM]
 by_cases hc:c=b
 ·subst hc;simp
 ·rw[if_neg hc,if_neg hc]
  by_cases h:c=r
  ·subst h;rw[kv];cases H.get c<;>rfl
  ·rw[nU H h];rfl
section
variable {P:Program}{F:bS}{er:bW}
theorem vL(L:eC P F)(r:Nat)(g:ByteArray->Option AC)(H:aj)(hg:H.get r=some (.map g)):
 bD P F.k_mapsClone [.mp r] H fun q H'=>∃b,H.get b=none/\q=.mp b/\H'=H.set b (.map g):=by
 refine L.k_mapsClone (by simp[lR]) ?_
 simp only[lR,go_sem,rE,rA,rL,ti,ce]
 refine vh (g:=g) rfl hg trivial fun b hb=>?_
 simp only[go_sem,rE,rA,rL]
 exact ak (.refl _) (aj.sub_refl _) ⟨b,hb,rfl,rfl⟩
theorem Ct(L:eC P F)(rows:List (List AC))(hsz:∀e∈rows,e.length=1)(hl:rows.length<=2^31)(x:AC)(hx:(rows=[]/\x=NIL)\/(rows≠[]/\x=.sl 1 none rows)):
 bD P F.k_Clone [x] .empty fun q H'=>bR H' 1 rows q/\(rows=[]->q=NIL)/\∀b,H'.get b≠none->cG q b:=by
 refine L.k_Clone (by simp[o8]) ?_
 rcases hx with⟨rfl,rfl⟩|⟨hne,rfl⟩
 ·simp only[o8,go_sem,rE,rA,rL,ti,ce]
  exact ak (.refl _) (aj.sub_refl _) ⟨.inl ⟨rfl,rfl⟩,fun _=>rfl,fun b hb=>by simp at hb⟩
 ·obtain⟨e0,rest,rfl⟩:=List.exists_cons_of_ne_nil hne
  simp only[o8,go_sem,rE,rA,rL,ti,ce,ax,az]
  intro b hb
  refine eM (es:=[]) (ys:=e0::rest) (.inr ⟨b,0,0,rfl,ai _ _ _⟩) (by simp[go_sem]) hsz (by simp only[bP,cj];exact bZ hl (by decide)) ?_
  intro x' H3 fp hx' hfp hkeep hnew
  simp only[go_sem,rE,rA,rL]
  refine ak (.refl _) (H':=H3.only (cG x')) (aj.only_sub _ _) ⟨?_,fun h=>by simp at h,fun c hc=>?_⟩
  ·have:bR H3 1 (e0::rest) x':=by simpa using hx'
   exact this.mono fun c hc=>bm hc
  ·by_cases h:cG x' c
   ·exact h
   ·rw[cd h]at hc;simp at hc
theorem uQ(L:eC P F)(s:Nat)(v:Sc)(ORD HELD:AC)(m1 m2:Nat)(H:aj)(hE:cy F er H s v ORD HELD m1 m2)(hh:v.held=[])(hl:v.vars.length<=2^30):
 bD P F.k_branch [.ptr s 0] H fun q H'=>∃s' ORD' m1',q=.ptr s' 0/\cy F er H' s' v ORD' NIL m1' m2/\(∀c o,H.get c=some o->H'.get c=some o)/\
  H.get s'=none/\H.get m1'=none/\∀b,cG ORD' b->H.get b=none:=by
 refine L.k_branch (by simp[pB]) ?_
 have hE0:=hE
 have hH:=hE.hnil hh
 subst hH
 obtain⟨ho,h1,h2,h4,h5,h6,h7,h8,h9⟩:=hE
 simp only[ScO]at ho
 simp only[pB,go_sem,rE,rA,rL,ho]
 intro s' hs'
 have dss:=al ho hs'
 have d1:=al h1 hs'
 simp only[go_sem,rE,rA,rL,ho,dss]
 have hrows:((a9 (v.vars.map (·.name)))=[]/\ORD=NIL)\/((a9 (v.vars.map (·.name)))≠[]/\∃t,ORD=.sl 1 t (a9 (v.vars.map (·.name)))):=by
  rcases h4 with⟨e1,e2⟩|⟨b,n,m,e,-⟩
  ·exact .inl ⟨e1,e2⟩
  ·by_cases h0:v.vars=[]
   ·exact .inl ⟨by simp[h0,a9],hE0.onil h0⟩
   ·exact .inr ⟨by simpa[a9]using h0,_,e⟩
 obtain⟨y,hy1,hy2⟩:∃y,((a9 (v.vars.map (·.name))=[]/\y=NIL)\/(a9 (v.vars.map (·.name))≠[]/\y=.sl 1 none (a9 (v.vars.map (·.name)))))/\Le ORD y:=by
  rcases hrows with⟨e1,rfl⟩|⟨e1,t,rfl⟩
  ·exact⟨NIL,.inl ⟨e1,rfl⟩,.refl _⟩
  ·exact⟨_,.inr ⟨e1,rfl⟩,.tok _ _ _⟩
 refine dR ((Ct L (a9 (v.vars.map (·.name))) (by simp[a9]) (by simp[a9];omega) y hy1).args (xs':=[ORD]) ⟨hy2,trivial⟩) rfl (aj.sub_empty _) (fun h=>by simp at h) trivial ?_
 rintro q H1 ⟨hq1,hq2,hq3⟩ hnew
 have hn1:∀c,H1.get c≠none->H.get c=none/\c≠s':=fun c hc=>by
  have:=hnew c hc rfl
  refine⟨?_,?_⟩
  ·by_cases h:c=s'
   ·subst h;simp at this
   ·rw[ae _ _ h]at this;exact this
  ·rintro rfl;simp at this
 have old:∀c o,(H.set s' (.cells [.sl 12 none (v.p.map Fu.enc),ORD,.mp m1,.mp m2,NIL,B v.lost,.lit .nilFunc])).get c=some o->
  ((H.set s' (.cells [.sl 12 none (v.p.map Fu.enc),ORD,.mp m1,.mp m2,NIL,B v.lost,.lit .nilFunc])).swap .empty H1).get c=some o:=fun c o hc=>by
  rw[bG]
  cases h:H1.get c with
  |none=>simpa using hc
  |some o'=>have:=hnew c (by rw[h];simp) rfl;rw[this]at hc;simp at hc
 have ks:=old s' _ (ai _ _ _)
 have up:∀c o,H.get c=some o->((H.set s' (.cells [.sl 12 none (v.p.map Fu.enc),ORD,.mp m1,.mp m2,NIL,B v.lost,.lit .nilFunc])).swap .empty H1).get c=some o:=fun c o hc=>old c o (by rw[ae _ _ (al hc hs')];exact hc)
 have qa:bR ((H.set s' (.cells [.sl 12 none (v.p.map Fu.enc),ORD,.mp m1,.mp m2,NIL,B v.lost,.lit .nilFunc])).swap .empty H1) 1 (a9 (v.vars.map (·.name))) q:=hq1.mono fun b hb=>by
  obtain⟨n,m,e⟩:=hq1.tok hb
  rw[bG,e];rfl
 have qn:∀b,cG q b->H.get b=none/\b≠s':=fun b hb=>hn1 b (by obtain⟨n,m,e⟩:=hq1.tok hb;rw[e];simp)
 generalize(H.set s' (.cells [.sl 12 none (v.p.map Fu.enc),ORD,.mp m1,.mp m2,NIL,B v.lost,.lit .nilFunc])).swap .empty H1=H2 at*
 have dss2:s≠s':=dss
 simp only[go_sem,rE,rA,rL,ks,hq1.one,dss,up _ _ ho]
 have g1:((H2.set s' (.cells [.sl 12 none (v.p.map Fu.enc),q,.mp m1,.mp m2,NIL,B v.lost,.lit .nilFunc])).only (·=m1)).get m1=some (.map (cU v.vars)):=by
  rw[kv,ae _ _ d1];exact up _ _ h1
 refine dR (vL L m1 (cU v.vars) _ g1) rfl (aj.only_sub _ _) (fun h=>by simp at h) trivial ?_
 rintro q' H3 ⟨b,hb,rfl,rfl⟩ hfr
 have hb2:=hfr b (by simp) hb
 rw[tW]
 have dbs:s'≠b:=al (ai _ _ _) hb2
 simp only[go_sem,rE,rA,rL,dbs,show(AC.mp b).cells?=some [.mp b]from rfl]
 have hb3:H2.get b=none:=by rw[ae _ _ (Ne.symm dbs)]at hb2;exact hb2
 have fin:∀(o o':cK) c x,H.get c=some x->(((H2.set s' o).set b o').get c=some x):=fun o o' c x hc=>by
  rw[ae _ _ (al (up _ _ hc) hb3),ae _ _ (al hc hs')];exact up _ _ hc
 have fin2:∀(o o' o2:cK) c x,H.get c=some x->((((H2.set s' o).set b o').set s' o2).get c=some x):=fun o o' o2 c x hc=>by
  rw[ae _ _ (al hc hs')];exact fin _ _ _ _ hc
 have hbH:H.get b=none:=by
  cases h:H.get b with
  |none=>rfl
  |some o=>rw[up _ _ h]at hb3;simp at hb3
 refine ak (.refl _) (aj.sub_refl _) ⟨s',q,b,rfl,⟨ai _ _ _,?_,fin2 _ _ _ _ _ h2,?_,.inl ⟨by simp[hh],rfl⟩,fun c _ ⟨_,_,_,_,e⟩=>by simp at e,?_,fun c hc=>fin2 _ _ _ _ _ (h8 c hc),fun c hc=>Ne.symm (al (h8 c hc) hs'),fun _=>rfl,fun h0=>hq2 (by simp[h0,a9])⟩,fun c o hc=>fin2 _ _ _ _ _ hc,hs',hbH,fun c hc=>(qn c hc).1⟩
 ·rw[ae _ _ (Ne.symm dbs),ai]
 ·refine qa.mono fun c hc=>?_
  obtain⟨n,m,e⟩:=qa.tok hc
  rw[ae _ _ (qn c hc).2,ae _ _ (by rintro rfl;rw[hb3]at e;simp at e),ae _ _ (qn c hc).2]
 ·rintro rfl;rw[h2]at hbH;simp at hbH
end
def pV:AC:=.agg [S .empty,NIL,B false,NIL,NIL,I 0,I 0,S .empty,NIL,NIL,S .empty,NIL]
noncomputable def mQ(p:List Fu)(n:ByteArray):AC:=match p.find? (fun f=>eqB f.name n)with
 |some f=>.tup [.agg f.enc,B true]
 |none=>.tup [pV,B false]
section
variable {P:Program}{F:bS}{er:bW}
theorem uP(L:eC P F)(s:Nat)(v:Sc)(n:ByteArray)(hp:v.p.length<=2^30):
 ScC P F er F.k_callee [.ptr s 0,S n] s v fun q v'=>q=mQ v.p n/\v'=v:=by
 intro H ORD HELD m1 m2 hE
 refine L.k_callee (by simp[p9]) ?_
 have hE0:=hE
 obtain⟨ho,h1,h2,h4,h5,h6,h7,h8,h9⟩:=hE
 simp only[ScO]at ho
 simp only[p9,go_sem,rE,rA,rL]
 intro b4 hb4
 have ds4:=al ho hb4
 simp only[go_sem,rE,rA,rL,ds4,ho,am]
 refine aT v.p.length (fun k E' H'=>E' 0=.ptr s 0/\E' 1=S n/\E' 4=.ptr b4 0/\E' 11=.sl 12 none (v.p.map Fu.enc)/\E' 12=I v.p.length/\E' 13=I k/\(∃cs,H'.get b4=some (.cells cs)/\cs.length=12)/\
  (∀c o,H.get c=some o->H'.get c=some o)/\∀i (h:i<v.p.length),i<k->eqB v.p[i].name n=false) ⟨rfl,rfl,rfl,rfl,(by simp only[go_sem,rE,am]),rfl,⟨_,ai _ _ _,rfl⟩,fun c o hc=>by rw[ae _ _ (al hc hb4)];exact hc,fun _ _ h=>absurd h (Nat.not_lt_zero _)⟩ ?_
 rintro k E' H' hk ⟨q0,q1,q4,q11,q12,q13,⟨cs,gb,hcs⟩,kk,hall⟩
 have hb4':∀c o,H.get c=some o->c≠b4:=fun c o hc=>al hc hb4
 simp only[go_sem,rE,rA,rL,q12,q13]
 refine aG (fun hlt=>?_) (fun hge=>?_)
 ·have hk1:k<v.p.length:=by omega
  have w1:=aL (n:=(k:Int)+1) (by omega) (by omega)
  have hg:(v.p.map Fu.enc)[k]?=some v.p[k].enc:=by simp[hk1]
  rw[Fu.enc_eq]at hg
  simp only[go_sem,rE,rA,rL,q1,q4,q11,q13,hg]
  intro b7 hb7
  have d47:=al gb hb7
  simp only[go_sem,rE,rA,rL,q1,d47,dg]
  cases hn:eqB v.p[k].name n
  ·simp only[go_sem,rE,rA,rL,q13,w1]
   refine⟨hk1,_,aj.sub_refl _,q0,q1,q4,q11,q12,rfl,⟨cs,by rw[ae _ _ d47];exact gb,hcs⟩,fun c o hc=>by rw[ae _ _ (al (kk c o hc) hb7)];exact kk c o hc,fun i h hi=>?_⟩
   by_cases hik:i=k
   ·subst hik;exact hn
   ·exact hall i h (by omega)
  ·simp only[go_sem,rE,rA,rL,q4,d47,gb,hcs]
   have hfind:v.p.find? (fun f=>eqB f.name n)=some v.p[k]:=by
    rw[List.find?_eq_some_iff_append]
    refine⟨by simpa using hn,v.p.take k,v.p.drop (k+1),by rw[<-bU hk1,iw],fun y hy=>?_⟩
    obtain⟨i,hi,rfl⟩:=bj.1 hy
    rw[bk]at hi
    rw[List.getElem_take]
    simp[hall i (by omega) (by omega)]
   refine cv (off:=0) (q:=.agg v.p[k].enc) q4 (ai _ _ _) (by rw[Fu.enc_eq];simp[fM]) (.refl _) (H':=H) (fun c o hc=>?_) ⟨v,ORD,HELD,⟨?_,rfl⟩,hE0⟩
   ·rw[ae _ _ (hb4' c o hc),ae _ _ (al (kk c o hc) hb7)];exact kk c o hc
   ·simp only[mQ,hfind];rfl
 ·simp only[go_sem,rE,rA,rL,q4,gb,hcs]
  have hfind:v.p.find? (fun f=>eqB f.name n)=none:=by
   rw[List.find?_eq_none]
   intro x hx
   obtain⟨i,hi,rfl⟩:=bj.1 hx
   simp[hall i hi (by omega)]
  refine cv (off:=0) (q:=pV) q4 (ai _ _ _) (by simp[fM,pV];rfl) (.refl _) (H':=H) (fun c o hc=>?_) ⟨v,ORD,HELD,⟨?_,rfl⟩,hE0⟩
  ·rw[ae _ _ (hb4' c o hc)];exact kk c o hc
  ·simp only[mQ,hfind];rfl
end
def Sc.ok(v:Sc):Prop:=∀y∈v.vars,(v.given.any fun m=>eqB m y.name)=true
theorem Sc.ok.fresh{v:Sc}(h:v.ok){n:ByteArray}(hn:(v.given.any fun m=>eqB m n)=false):v.vars.find? (fun y=>eqB y.name n)=none:=by
 rw[List.find?_eq_none]
 intro y hy he
 have e:=cQ.1 (by simpa using he)
 have:=h y hy
 rw[e,hn]at this
 simp at this
noncomputable def eI(v:Sc)(x:Vr):Sc×Int:=if v.given.any fun m=>eqB m x.name then(v,2)else({v with vars:=v.vars++[x],given:=v.given++[x.name]},0)
theorem tw{v:Sc}(h:v.ok)(x:Vr):(eI v x).1.ok:=by
 unfold eI
 split
 ·exact h
 ·intro y hy
  simp only[aF,cn]at hy
  simp only[fy,dq,List.any_cons,List.any_nil,dI]
  rcases hy with hy|rfl
  ·exact .inl (h y hy)
  ·exact .inr (dE _)
theorem Ap(v:Sc)(x:Vr):(eI v x).1.vars.length<=v.vars.length+1:=by
 unfold eI
 split<;>simp
noncomputable def cV(v:Sc):List Pa->Sc×Int
 |[]=>(v,0)
 |p::ps=>if(eI v p.vr).2=0 then cV (eI v p.vr).1 ps else eI v p.vr
section
variable {P:Program}{F:bS}{er:bW}
theorem oH(L:eC P F)(s:Nat)(v:Sc)(hok:v.ok)(x:Vr)(hd:x.dead=false)(hl:x.loans.length<=2^30)(hn:v.vars.length<=2^30):
 ScC P F er F.k_give [.ptr s 0,S x.name,x.raw] s v fun q v'=>q=er.ac (eI v x).2/\v'=(eI v x).1:=
 (c_kgive L s v x hd hl hn hok.fresh).mono fun q v' h=>by
  unfold eI
  split at h
  ·rename_i hg;rw[if_pos hg];exact h
  ·rename_i hg;rw[if_neg hg];exact h
theorem uN(L:eC P F)(s:Nat)(v:Sc)(hok:v.ok)(f:Fu)(hn:v.vars.length+f.params.length<=2^30):
 ScC P F er F.k_params [.ptr s 0,.agg f.enc] s v fun q v'=>q=er.ac (cV v f.params).2/\v'=(cV v f.params).1:=by
 intro H ORD HELD m1 m2 hE
 refine L.k_params (by simp[px]) ?_
 rw[Fu.enc_eq]
 simp only[px,go_sem,rE,rA,rL]
 intro b3 hb3
 simp only[go_sem,rE,rA,rL,am]
 refine aT f.params.length (fun k E' H'=>E' 0=.ptr s 0/\E' 10=.sl 3 none (f.params.map Pa.enc)/\E' 11=I f.params.length/\E' 12=I k/\
  ∃v1 ORD' HELD',cy F er H' s v1 ORD' HELD' m1 m2/\cV v f.params=cV v1 (f.params.drop k)/\v1.ok/\v1.vars.length<=v.vars.length+k)
  ⟨rfl,rfl,rfl,rfl,v,ORD,HELD,hE.mono fun b hb=>ae _ _ (by rintro rfl;exact hE.mem hb hb3),rfl,hok,aC _⟩ ?_
 rintro k E' H' hk ⟨q0,q10,q11,q12,v1,ORD',HELD',hS,hgv,hok1,hl1⟩
 simp only[go_sem,rE,rA,rL,q11,q12]
 refine aG (fun hlt=>?_) (fun hge=>?_)
 ·have hk1:k<f.params.length:=by omega
  have w1:=aL (n:=(k:Int)+1) (by omega) (by omega)
  have hg:(f.params.map Pa.enc)[k]?=some [S f.params[k].name,B f.params[k].lent,.sl 1 none (Ty.encs f.params[k].type.kids)]:=by simp[hk1,Pa.enc,Ty.enc_eq]
  rw[bU hk1,cV]at hgv
  simp only[go_sem,rE,rA,rL,q0,q10,q12,hg]
  intro b6 hb6 b7 hb7
  have d67:=al (ai _ _ _) hb7
  have hb7':H'.get b7=none:=by rw[ae _ _ (Ne.symm d67)]at hb7;exact hb7
  simp only[go_sem,rE,rA,rL,q0,d67]
  have hS2:∀o o',cy F er ((H'.set b6 o).set b7 o') s v1 ORD' HELD' m1 m2:=fun o o'=>hS.mono fun b hb=>by
   rw[ae _ _ (by rintro rfl;exact hS.mem hb hb7'),ae _ _ (by rintro rfl;exact hS.mem hb hb6)]
  refine cR (oH L s v1 hok1 f.params[k].vr rfl (by simp[Pa.vr]) (by omega)) (hS2 _ _) rfl ?_ (fun h=>by simp at h) trivial ?_
  ·exact⟨.refl _,.refl _,.agg ⟨⟨.refl _,rfl⟩,⟨.refl _,rfl⟩,⟨.refl _,rfl⟩,⟨.refl _,rfl⟩,⟨.refl _,rfl⟩,⟨.nil 2,rfl⟩,trivial⟩,trivial⟩
  rintro q v2 ORD2 HELD2 H2 fp ⟨rfl,rfl⟩ hS3 - -
  by_cases hz:(eI v1 f.params[k].vr).2=0
  ·rw[if_pos hz]at hgv
   rw[hz,dh]
   simp only[go_sem,rE,rA,rL,q0,q12,w1]
   refine⟨hk1,H2,aj.sub_refl _,q10,q11,rfl,_,ORD2,HELD2,hS3,hgv,tw hok1 _,?_⟩
   have:=Ap v1 f.params[k].vr
   omega
  ·rw[if_neg hz]at hgv
   have hac:er.ac (eI v1 f.params[k].vr).2=.iface (er.t (eI v1 f.params[k].vr).2) (er.x (eI v1 f.params[k].vr).2):=by simp[bW.ac,hz]
   rw[hac]
   simp only[go_sem,rE,rA,rL,q0]
   refine ak (.refl _) (aj.sub_refl _) ⟨_,ORD2,HELD2,⟨?_,rfl⟩,by rw[hgv];exact hS3⟩
   rw[hgv,hac];rfl
 ·have hkk:k=f.params.length:=by omega
  subst hkk
  rw[l8,cV]at hgv
  simp only[go_sem,rE,rA,rL]
  exact ak (.refl _) (aj.sub_refl _) ⟨_,ORD',HELD',⟨by rw[hgv];rfl,rfl⟩,by rw[hgv];exact hS⟩
end
noncomputable def dW(vs:List Vr)(n:ByteArray):Bool:=match vs.find? (fun x=>eqB x.name n)with
 |some x=>x.dead
 |none=>true
theorem An(vs:List Vr)(n:ByteArray):∃a b c e f,iE (.agg [.lit (.slice none 0 0),.lit (.bool false),.lit (.bool false),.lit (.bool false),.lit (.bool false),.lit (.slice none 0 0)]) false (cU vs n)=.agg [a,b,c,B (!dW vs n),e,f]:=by
 cases h:vs.find? (fun x=>eqB x.name n)with
 |none=>simp[cU,h,iE,dW]
 |some x=>simp[cU,h,iE,Vr.ent,dW]
noncomputable def jI(vs:List Vr)(n:ByteArray)(ws:List (List Vr)):List Vr:=ws.foldl (fun vs w=>if dW w n then iF vs n else vs) vs
noncomputable def gC(vs:List Vr)(ns:List ByteArray)(ws:List (List Vr)):List Vr:=ns.foldl (fun vs n=>jI vs n ws) vs
theorem rN(vs:List Vr)(n:ByteArray)(ws:List (List Vr)):(jI vs n ws).map (·.name)=vs.map (·.name):=by
 induction ws generalizing vs with
 |nil=>rfl
 |cons w ws ih=>
  simp only[jI,dC]at ih⊢
  rw[ih]
  split
  ·exact pX vs n
  ·rfl
theorem tr(vs:List Vr)(n:ByteArray)(ws:List (List Vr))(w:List Vr):jI vs n (ws++[w])=if dW w n then iF (jI vs n ws) n else jI vs n ws:=by
 simp[jI]
theorem y7(vs:List Vr)(ns:List ByteArray)(n:ByteArray)(ws:List (List Vr)):gC vs (ns++[n]) ws=jI (gC vs ns ws) n ws:=by
 simp[gC]
theorem wV(vs:List Vr)(ns:List ByteArray)(ws:List (List Vr)):(gC vs ns ws).map (·.name)=vs.map (·.name):=by
 induction ns generalizing vs with
 |nil=>rfl
 |cons n ns ih=>simp only[gC,dC]at ih⊢;rw[ih,rN]
theorem rq{vs:List Vr}{n:ByteArray}(h:n∈vs.map (·.name)):∃x,vs.find? (fun x=>eqB x.name n)=some x:=by
 cases hf:vs.find? (fun x=>eqB x.name n)with
 |some x=>exact⟨x,rfl⟩
 |none=>
  rw[List.find?_eq_none]at hf
  obtain⟨x,hx,rfl⟩:=aY.1 h
  exact absurd (dE _) (by simpa using hf x hx)
def zb(F:bS)(H:aj)(s:Nat)(ORD HELD:AC)(m1 m2:Nat)(ws:List (Nat×Nat×List Vr)):Prop:=
 ∀w∈ws,(∃cs,H.get w.1=some (.cells cs)/\cs[2]?=some (.mp w.2.1))/\H.get w.2.1=some (.map (cU w.2.2))/\¬df F s ORD HELD m1 m2 w.1/\¬df F s ORD HELD m1 m2 w.2.1
section
variable {P:Program}{F:bS}{er:bW}
theorem c_kjoin(L:eC P F)(s:Nat)(v:Sc)(hl:v.vars.length<=2^30)(ws:List (Nat×Nat×List Vr))(hw:ws.length<=2^30)(H:aj)(ORD HELD:AC)(m1 m2:Nat)
(hE:cy F er H s v ORD HELD m1 m2)(hW:zb F H s ORD HELD m1 m2 ws):
 bD P F.k_join [.ptr s 0,.sl 1 none (ws.map fun w=>[.ptr w.1 0])] H fun q H'=>q=.tup []/\∃ORD' HELD',cy F er H' s {v with vars:=gC v.vars (v.vars.map (·.name)) (ws.map (·.2.2))} ORD' HELD' m1 m2/\
  ∀b o,H.get b=some o->¬df F s ORD HELD m1 m2 b->H'.get b=some o:=by
 refine L.k_join (by simp[qq]) ?_
 have ho:=hE.obj
 simp only[ScO]at ho
 have hlen:(a9 (v.vars.map (·.name))).length=v.vars.length:=by simp[a9]
 obtain⟨y,hy⟩:∃y,y=ORD:=⟨_,rfl⟩
 rcases hE.ord with⟨hnil,rfl⟩|⟨b,n,m,rfl,hb⟩
 ·have hv:v.vars=[]:=by rw[hnil]at hlen;exact bu hlen.symm
  simp only[qq,go_sem,rE,rA,rL,ho]
  refine aT 0 (fun k E' H'=>E' 12=I 0/\E' 13=I k/\H'=H) ⟨rfl,rfl,rfl⟩ ?_
  rintro k E' H' hk ⟨q12,q13,rfl⟩
  have:k=0:=by omega
  subst this
  simp only[go_sem,rE,rA,rL,q12,q13,cW,Int.lt_irrefl]
  refine di (aj.sub_refl _) ⟨rfl,NIL,HELD,?_,fun b o hb _=>hb⟩
  have:gC v.vars (v.vars.map (·.name)) (ws.map (·.2.2))=v.vars:=by rw[hv];rfl
  rw[this];exact hE
 ·simp only[qq,go_sem,rE,rA,rL,ho,hlen]
  refine aT v.vars.length (fun k E' H'=>E' 0=.ptr s 0/\E' 1=.sl 1 none (ws.map fun w=>[.ptr w.1 0])/\E' 11=.sl 1 (some (b,n,m)) (a9 (v.vars.map (·.name)))/\E' 12=I v.vars.length/\E' 13=I k/\
   ∃ORD' HELD',cy F er H' s {v with vars:=gC v.vars ((v.vars.map (·.name)).take k) (ws.map (·.2.2))} ORD' HELD' m1 m2/\zb F H' s ORD' HELD' m1 m2 ws/\
    ∀c o,H.get c=some o->¬df F s y HELD m1 m2 c->H'.get c=some o/\¬df F s ORD' HELD' m1 m2 c)
   ⟨rfl,rfl,rfl,rfl,rfl,_,HELD,by simpa[gC]using hE,hW,fun c o hc hn=>⟨hc,by rw[hy]at hn;exact hn⟩⟩ ?_
  rintro k E' H' hk ⟨q0,q1,q11,q12,q13,ORD',HELD',hS,hWs,hfr⟩
  simp only[go_sem,rE,rA,rL,q12,q13]
  refine aG (fun hlt=>?_) (fun hge=>?_)
  ·have hk1:k<v.vars.length:=by omega
   have w1:=aL (n:=(k:Int)+1) (by omega) (by omega)
   have hk2:k<(v.vars.map (·.name)).length:=by simpa using hk1
   have hg:=mf hk2
   simp only[go_sem,rE,rA,rL,q0,q1,q11,q13,hg,am]
   refine aT ws.length (fun j E2 H2=>E2 0=.ptr s 0/\E2 1=.sl 1 none (ws.map fun w=>[.ptr w.1 0])/\E2 5=S (v.vars.map (·.name))[k]/\E2 11=.sl 1 (some (b,n,m)) (a9 (v.vars.map (·.name)))/\E2 12=I v.vars.length/\E2 13=I k/\
    E2 17=.sl 1 none (ws.map fun w=>[.ptr w.1 0])/\E2 18=I ws.length/\E2 19=I j/\
    ∃ORD2 HELD2,cy F er H2 s {v with vars:=jI (gC v.vars ((v.vars.map (·.name)).take k) (ws.map (·.2.2))) (v.vars.map (·.name))[k] ((ws.map (·.2.2)).take j)} ORD2 HELD2 m1 m2/\zb F H2 s ORD2 HELD2 m1 m2 ws/\
    ∀c o,H.get c=some o->¬df F s y HELD m1 m2 c->H2.get c=some o/\¬df F s ORD2 HELD2 m1 m2 c)
    ⟨q0,q1,rfl,q11,q12,q13,rfl,(by simp only[go_sem,rE,rA,rL,am]),rfl,ORD',HELD',hS,hWs,hfr⟩ ?_
   rintro j E2 H2 hj ⟨p0,p1,p5,p11,p12,p13,p17,p18,p19,ORD2,HELD2,hS2,hW2,hfr2⟩
   simp only[go_sem,rE,rA,rL,p18,p19]
   refine aG (fun hlt2=>?_) (fun hge2=>?_)
   ·have hj1:j<ws.length:=by omega
    have w2:=aL (n:=(j:Int)+1) (by omega) (by omega)
    have hgj:(ws.map fun w=>[AC.ptr w.1 0])[j]?=some [.ptr ws[j].1 0]:=by simp[hj1]
    obtain⟨⟨cs,gw,gcs⟩,gm,nb1,nb2⟩:=hW2 ws[j] (ay hj1)
    simp only[go_sem,rE,rA,rL,p0,p1,p5,p17,p19,hgj,gw,gcs]
    refine fG (k:=(v.vars.map (·.name))[k]) (g:=cU ws[j].2.2) rfl gm trivial ?_
    obtain⟨a,b',c,e,f,he⟩:=An ws[j].2.2 (v.vars.map (·.name))[k]
    rw[he]
    have hsn:(ws.map (·.2.2)).take (j+1)=(ws.map (·.2.2)).take j++[ws[j].2.2]:=by
     rw[aA (by simpa using hj1),gX]
    cases hdw:dW ws[j].2.2 (v.vars.map (·.name))[k]
    ·simp only[go_sem,rE,rA,rL,p0,p5,p19,w2]
     refine⟨hj1,H2,aj.sub_refl _,p1,p11,p12,p13,p17,p18,rfl,ORD2,HELD2,?_,hW2,hfr2⟩
     rw[hsn,tr,hdw];exact hS2
    ·simp only[go_sem,rE,rA,rL,p0,p5,p19]
     obtain⟨x,hx⟩:=rq (vs:=jI (gC v.vars ((v.vars.map (·.name)).take k) (ws.map (·.2.2))) (v.vars.map (·.name))[k] ((ws.map (·.2.2)).take j)) (n:=(v.vars.map (·.name))[k]) (by
      rw[rN,wV];exact ay _)
     refine cR (Cp L s _ _ x hx) hS2 rfl (.refl _) (fun h=>by simp at h) trivial ?_
     rintro q v3 ORD3 HELD3 H3 fp ⟨rfl,rfl⟩ hS3 hfr3 -
     simp only[go_sem,rE,rA,rL,p0,p5,p19,w2]
     refine⟨hj1,H3,aj.sub_refl _,p1,p11,p12,p13,p17,p18,rfl,ORD3,HELD3,?_,fun w hw=>?_,fun c o hc hn=>hfr3 c o (hfr2 c o hc hn).1 (hfr2 c o hc hn).2⟩
     ·rw[hsn,tr,hdw];exact hS3
     ·obtain⟨⟨cs',g1,g2⟩,g3,g4,g5⟩:=hW2 w hw
      exact⟨⟨cs',(hfr3 _ _ g1 g4).1,g2⟩,(hfr3 _ _ g3 g5).1,(hfr3 _ _ g1 g4).2,(hfr3 _ _ g3 g5).2⟩
   ·have hjj:j=ws.length:=by omega
    subst hjj
    simp only[go_sem,rE,rA,rL,p13,w1]
    refine⟨hk1,H2,aj.sub_refl _,p0,p1,p11,p12,rfl,ORD2,HELD2,?_,hW2,hfr2⟩
    have ht:(ws.map (·.2.2)).take ws.length=ws.map (·.2.2):=cF (by simp)
    rw[ht]at hS2
    rw[aA hk2,y7]
    exact hS2
  ·have hkk:k=v.vars.length:=by omega
   subst hkk
   simp only[go_sem,rE,rA,rL]
   refine di (aj.sub_refl _) ⟨rfl,ORD',HELD',?_,fun c o hc hn=>(hfr c o hc (by rw[hy];exact hn)).1⟩
   rw[cF (by simp)]at hS
   exact hS
end
noncomputable def cz(vs:List Vr)(p:Pl):List ByteArray:=
 vs.foldl (fun r x=>if x.dead||!x.lent then r else if x.loans.any (fun q=>q.meet p||r.any fun m=>eqB m q.name)then x.name::r else r) []
noncomputable def Sc.use(v:Sc)(p:Pl):Sc×(Ty×Int):=
 if(eV v.vars p).2=0 then
  ({v with lost:=v.lost||v.held.any (fun h=>h.meet p||(cz v.vars p).any fun m=>eqB h.name m),vars:=(cz v.vars p).foldl iF v.vars},eV v.vars p)
 else(v,eV v.vars p)
noncomputable def Sc.expr(v:Sc):Ex->Sc×(Ty×Int)
 |.mk k n p ks=>if k=1 then(v,(.mk [],0))else if k=2 then v.use p else match ks with
  |a::b::_=>
   let r:=v.expr a
   if r.2.2=0 then
    let q:=r.1.expr b
    if q.2.2=0 then
     if k=6 then(q.1,if(Ty.mk [r.2.1,q.2.1]).okB then(.mk [r.2.1,q.2.1],0)else(.mk [],3))
     else(q.1,(.mk [],if decide (r.2.1.kids.length=0)&&decide (q.2.1.kids.length=0)then 0 else 3))
    else(q.1,(.mk [],q.2.2))
   else(r.1,(.mk [],r.2.2))
  |_=>(v,(.mk [],3))
termination_by x=>SizeOf.sizeOf x
noncomputable def Sc.number(v:Sc)(e:Ex):Sc×Int:=
 let r:=v.expr e
 if r.2.2=0 then(r.1,if r.2.1.kids.length=0 then 0 else 3)else(r.1,r.2.2)
theorem iq(H:aj):H.swap H H=H:=by
 ext b:1
 rw[bG]
 cases H.get b<;>rfl
section
variable {P:Program}{F:bS}{er:bW}
theorem c_kends(L:eC P F)(s:Nat)(p:Pl):bD P F.k_ends [.ptr s 0,.agg p.enc] .empty fun q H'=>
 ∃b c,b≠c/\q=.fn (.func F.k_ends_1) [] [.ptr b 0,.ptr c 0]/\H'=(aj.empty.set b (.cells [.ptr s 0])).set c (.cells p.enc):=by
 refine L.k_ends (by simp[sC]) ?_
 simp only[sC,go_sem,rE,rA,rL,Pl.enc]
 intro b hb c hc
 have d:=al (ai _ _ _) hc
 exact ak (.refl _) (aj.sub_refl _) ⟨b,c,d,rfl,rfl⟩
def eD(P:Program)(F:bS)(er:bW):Prop:=
 ∀(H:aj) (s:Nat) (v:Sc) (ORD HELD:AC) (m1 m2 b c:Nat) (p:Pl),cy F er H s v ORD HELD m1 m2->(v.vars.map (·.name)).Nodup->v.vars.length<=2^30->p.path.length<=2^30->
  (∀x∈v.vars,∀q∈x.loans,q.path.length<=2^30)->(∀x∈v.vars,x.loans.length<=2^30)->
  H.get b=some (.cells [.ptr s 0])->H.get c=some (.cells p.enc)->
  bD P F.k_Collect [.fn (.func F.k_ends_1) [] [.ptr b 0,.ptr c 0]] H fun q H'=>q=.sl 1 none (a9 (cz v.vars p))/\H'=H
end
theorem od:∀(ns:List ByteArray) (vs:List Vr),(ns.foldl iF vs).map (·.name)=vs.map (·.name)
 |[],vs=>rfl
 |n::ns,vs=>by rw[dC,od ns,pX]
section
variable {P:Program}{F:bS}{er:bW}
theorem BN(L:eC P F){s:Nat}{v:Sc}{ORD HELD:AC}{m1 m2 b4 b6:Nat}{E:Env}{H2:aj}{R:AC->aj->Prop}{ns:List ByteArray}{ty y:AC}(hS:cy F er H2 s v ORD HELD m1 m2)
(hn:∀n∈ns,n∈v.vars.map (·.name))(hl:ns.length<=2^30)
(e0:E 0=.ptr s 0)(e4:E 4=.ptr b4 0)(e6:E 6=.ptr b6 0)(e8:E 8=.sl 1 none (a9 ns))(g4:H2.get b4=some (.cells [y]))(g6:H2.get b6=some (.cells [ty]))(hty:ty.cells?=some [ty])(d46:b4≠b6)
(n4:¬df F s ORD HELD m1 m2 b4)(n6:¬df F s ORD HELD m1 m2 b6)
(hR:∀H' ORD' HELD',cy F er H' s {v with vars:=ns.foldl iF v.vars} ORD' HELD' m1 m2->R (.tup [.agg [ty],.lit .nilIface]) H'):(kg2 F).wp P (aD.post [.cell 4 (some 1),.slot 5] R) E H2:=by
 have hlen:(a9 ns).length=ns.length:=by simp[a9]
 simp only[kg2,go_sem,rE,rA,rL,e8,hlen]
 refine aT ns.length (fun k E' H'=>E' 0=.ptr s 0/\E' 4=.ptr b4 0/\E' 6=.ptr b6 0/\E' 49=.sl 1 none (a9 ns)/\E' 50=I ns.length/\E' 51=I k/\
  ∃ORD' HELD',cy F er H' s {v with vars:=(ns.take k).foldl iF v.vars} ORD' HELD' m1 m2/\H'.get b4=some (.cells [y])/\H'.get b6=some (.cells [ty])/\¬df F s ORD' HELD' m1 m2 b4/\¬df F s ORD' HELD' m1 m2 b6)
  ⟨e0,e4,e6,rfl,(by simp only[go_sem,rE,hlen]),rfl,ORD,HELD,hS,g4,g6,n4,n6⟩ ?_
 rintro k E' H' hk ⟨q0,q4,q6,q49,q50,q51,ORD',HELD',hS',h4,h6,m4,m6⟩
 simp only[go_sem,rE,rA,rL,q50,q51]
 refine aG (fun hlt=>?_) (fun hge=>?_)
 ·have hk1:k<ns.length:=by omega
  have w1:=aL (n:=(k:Int)+1) (by omega) (by omega)
  have hg:=mf hk1
  simp only[go_sem,rE,rA,rL,q0,q49,q51,hg]
  obtain⟨x,hx⟩:=rq (vs:=(ns.take k).foldl iF v.vars) (n:=ns[k]) (by rw[od];exact hn _ (ay hk1))
  refine cR (Cp L s _ _ x hx) hS' rfl (.refl _) (fun h=>by simp at h) trivial ?_
  rintro q v3 ORD3 HELD3 H3 fp ⟨rfl,rfl⟩ hS3 hfr3 -
  simp only[go_sem,rE,rA,rL,q51,w1]
  refine⟨hk1,H3,aj.sub_refl _,q0,q4,q6,q49,q50,rfl,ORD3,HELD3,?_,(hfr3 _ _ h4 m4).1,(hfr3 _ _ h6 m6).1,(hfr3 _ _ h4 m4).2,(hfr3 _ _ h6 m6).2⟩
  rw[aA hk1,List.foldl_append];exact hS3
 ·have hkk:k=ns.length:=by omega
  subst hkk
  rw[aU]at hS'
  have ho:=hS'.obj
  simp only[ScO]at ho
  simp only[go_sem,rE,rA,rL,q0,q4,q6,ho,ti,ce,h4,h6]
  refine cv (off:=0) q4 (ai _ _ _) rfl (.refl _) (aj.sub_refl _) (hR _ ORD' HELD' (hS'.mono fun b hb=>ae _ _ ?_))
  rintro rfl
  exact m4 hb
end
section
variable {P:Program}{F:bS}{er:bW}
theorem cy.setLost{H:aj}{s:Nat}{v:Sc}{ORD HELD:AC}{m1 m2:Nat}(h:cy F er H s v ORD HELD m1 m2)(l:Bool):cy F er (H.set s (ScO v.p ORD HELD m1 m2 l)) s {v with lost:=l} ORD HELD m1 m2:=by
 have ne:∀c o,H.get c=some o->o≠ScO v.p ORD HELD m1 m2 v.lost->c≠s:=fun c o hc hn=>by rintro rfl;rw[h.obj]at hc;simp at hc;exact hn hc.symm
 refine⟨ai _ _ _,?_,?_,h.ord.mono fun b hb=>?_,h.held.mono fun b hb=>?_,h.apart,h.ne,fun c hc=>?_,h.far,h.hnil,h.onil⟩
 ·rw[ae _ _ (ne _ _ h.names (by simp[ScO]))];exact h.names
 ·rw[ae _ _ (ne _ _ h.given (by simp[ScO]))];exact h.given
 ·obtain⟨n,m,e⟩:=h.ord.tok hb
  exact ae _ _ (ne _ _ e (by simp[ScO]))
 ·obtain⟨n,m,e⟩:=h.held.tok hb
  exact ae _ _ (ne _ _ e (by simp[ScO]))
 ·rw[ae _ _ (Ne.symm (h.far c hc))];exact h.errs c hc
noncomputable def qE(ns:List ByteArray)(p h:Pl):Bool:=h.meet p||ns.any fun m=>eqB h.name m
theorem kg3_wp(L:eC P F){s:Nat}{v:Sc}{ORD HELD:AC}{m1 m2 b3 b4 b6:Nat}{E:Env}{H2:aj}{R:AC->aj->Prop}{ns:List ByteArray}{ty y:AC}{p:Pl}(hS:cy F er H2 s v ORD HELD m1 m2)
(hn:∀n∈ns,n∈v.vars.map (·.name))(hl:ns.length<=2^30)(hp:p.path.length<=2^30)(hh:v.held.length<=2^30)(hhp:∀h∈v.held,h.path.length<=2^30)
(e0:E 0=.ptr s 0)(e3:E 3=.ptr b3 0)(e4:E 4=.ptr b4 0)(e6:E 6=.ptr b6 0)(e8:E 8=.sl 1 none (a9 ns))(g3:H2.get b3=some (.cells p.enc))(g4:H2.get b4=some (.cells [y]))(g6:H2.get b6=some (.cells [ty]))(hty:ty.cells?=some [ty])(d46:b4≠b6)
(n3:¬df F s ORD HELD m1 m2 b3)(n4:¬df F s ORD HELD m1 m2 b4)(n6:¬df F s ORD HELD m1 m2 b6)
(hR:∀H' ORD' HELD',cy F er H' s {v with lost:=v.lost||v.held.any (qE ns p),vars:=ns.foldl iF v.vars} ORD' HELD' m1 m2->R (.tup [.agg [ty],.lit .nilIface]) H'):(kg3 F).wp P (aD.post [.cell 4 (some 1),.slot 5] R) E H2:=by
 have ho:=hS.obj
 simp only[ScO]at ho
 rcases hS.held with⟨hnil,rfl⟩|⟨b,n,m,rfl,hb⟩
 ·have hv:v.held=[]:=by simpa using hnil
  simp only[kg3,go_sem,rE,rA,rL,e0,ho]
  refine aT 0 (fun k E' H'=>E' 0=.ptr s 0/\E' 4=.ptr b4 0/\E' 6=.ptr b6 0/\E' 8=.sl 1 none (a9 ns)/\E' 31=I 0/\E' 32=I k/\H'=H2) ⟨e0,e4,e6,e8,rfl,rfl,rfl⟩ ?_
  rintro k E' H' hk ⟨q0,q4,q6,q8,q31,q32,rfl⟩
  have:k=0:=by omega
  subst this
  simp only[go_sem,rE,rA,rL,q31,q32,cW,Int.lt_irrefl]
  refine BN L hS hn hl q0 q4 q6 q8 g4 g6 hty d46 n4 n6 fun H' ORD' HELD' h=>hR H' ORD' HELD' ?_
  simpa[hv]using h
 ·have hlen:(v.held.map Pl.enc).length=v.held.length:=by simp
  simp only[kg3,go_sem,rE,rA,rL,e0,ho,hlen]
  refine aT v.held.length (fun k E' H'=>E' 0=.ptr s 0/\E' 3=.ptr b3 0/\E' 4=.ptr b4 0/\E' 6=.ptr b6 0/\E' 8=.sl 1 none (a9 ns)/\E' 30=.sl 2 (some (b,n,m)) (v.held.map Pl.enc)/\E' 31=I v.held.length/\E' 32=I k/\
   cy F er H' s {v with lost:=v.lost||(v.held.take k).any (qE ns p)} ORD (.sl 2 (some (b,n,m)) (v.held.map Pl.enc)) m1 m2/\H'.get b3=some (.cells p.enc)/\H'.get b4=some (.cells [y])/\H'.get b6=some (.cells [ty]))
   ⟨e0,e3,e4,e6,e8,rfl,(by simp only[go_sem,rE,hlen]),rfl,by simpa using hS,g3,g4,g6⟩ ?_
  rintro k E' H' hk ⟨q0,q3,q4,q6,q8,q30,q31,q32,hS',k3,k4,k6⟩
  simp only[go_sem,rE,rA,rL,q31,q32]
  refine aG (fun hlt=>?_) (fun hge=>?_)
  ·have hk1:k<v.held.length:=by omega
   have w1:=aL (n:=(k:Int)+1) (by omega) (by omega)
   have hg:(v.held.map Pl.enc)[k]?=some [S v.held[k].name,au v.held[k].path]:=by simp[hk1,Pl.enc]
   simp only[go_sem,rE,rA,rL,q0,q3,q30,q32,hg,k3,Pl.enc]
   intro b10 hb10
   have d3:=al k3 hb10
   have d4:=al k4 hb10
   have d6:=al k6 hb10
   have ho':=hS'.obj
   simp only[ScO]at ho'
   have ds:=al ho' hb10
   have k3':H'.get b3=some (.cells [S p.name,au p.path]):=k3
   have hm:=zK L v.held[k] p (bZ (hhp _ (ay hk1)) (by decide)) (bZ hp (by decide))
   simp only[Pl.enc]at hm
   have hany:(v.held.take (k+1)).any (qE ns p)=((v.held.take k).any (qE ns p)||qE ns p v.held[k]):=by
    rw[aA hk1,fy];simp
   have hS10:∀o,cy F er (H'.set b10 o) s {v with lost:=v.lost||(v.held.take k).any (qE ns p)} ORD (.sl 2 (some (b,n,m)) (v.held.map Pl.enc)) m1 m2:=fun o=>hS'.mono fun c hc=>ae _ _ (by rintro rfl;exact hS'.mem hc hb10)
   have s3:b3≠s:=fun e=>n3 (.inl e)
   have s4:b4≠s:=fun e=>n4 (.inl e)
   have s6:b6≠s:=fun e=>n6 (.inl e)
   have yes:qE ns p v.held[k]=true->∀o,cy F er ((H'.set b10 o).set s (ScO v.p ORD (.sl 2 (some (b,n,m)) (v.held.map Pl.enc)) m1 m2 true)) s {v with lost:=v.lost||(v.held.take (k+1)).any (qE ns p)} ORD (.sl 2 (some (b,n,m)) (v.held.map Pl.enc)) m1 m2:=fun h o=>by
    rw[hany,h]
    simpa using(hS10 o).setLost true
   simp only[go_sem,rE,rA,rL,d3,k3',q3]
   refine ao hm rfl ?_
   cases hme:v.held[k].meet p
   ·simp only[go_sem,rE,rA,rL,q8,d3]
    refine ao (xA L ns v.held[k].name (bZ hl (by decide))) rfl ?_
    cases hcn:ns.any fun x=>eqB v.held[k].name x
    ·have hit:qE ns p v.held[k]=false:=by simp only[qE,hme,hcn];rfl
     simp only[go_sem,rE,rA,rL,q32,w1]
     refine⟨hk1,_,aj.sub_refl _,q0,q3,q4,q6,q8,q30,q31,rfl,?_,?_,?_,?_⟩
     ·rw[hany,hit,dI];exact hS10 _
     ·rw[ae _ _ d3];exact k3
     ·rw[ae _ _ d4];exact k4
     ·rw[ae _ _ d6];exact k6
    ·have hit:qE ns p v.held[k]=true:=by simp only[qE,hme,hcn];rfl
     simp only[go_sem,rE,rA,rL,q0,q32,w1,ds,ho']
     refine⟨hk1,_,aj.sub_refl _,q3,q4,q6,q8,q30,q31,rfl,yes hit _,?_,?_,?_⟩
     ·rw[ae _ _ s3,ae _ _ d3];exact k3
     ·rw[ae _ _ s4,ae _ _ d4];exact k4
     ·rw[ae _ _ s6,ae _ _ d6];exact k6
   ·have hit:qE ns p v.held[k]=true:=by simp only[qE,hme];rfl
    simp only[go_sem,rE,rA,rL,q0,q32,w1,ds,ho']
    refine⟨hk1,_,aj.sub_refl _,q3,q4,q6,q8,q30,q31,rfl,yes hit _,?_,?_,?_⟩
    ·rw[ae _ _ s3,ae _ _ d3];exact k3
    ·rw[ae _ _ s4,ae _ _ d4];exact k4
    ·rw[ae _ _ s6,ae _ _ d6];exact k6
  ·have hkk:k=v.held.length:=by omega
   subst hkk
   rw[aU]at hS'
   simp only[go_sem,rE,rA,rL]
   exact BN L hS' hn hl q0 q4 q6 q8 k4 k6 hty d46 n4 n6 fun H' ORD' HELD' h=>hR H' ORD' HELD' h
end
structure Sc.good(v:Sc):Prop where
 ok:v.ok
 nd:(v.vars.map (·.name)).Nodup
 len:v.vars.length<=2^30
 hl:v.held.length<=2^30
 hp:∀h∈v.held,h.path.length<=2^30
 lp:∀x∈v.vars,∀q∈x.loans,q.path.length<=2^30
 ll:∀x∈v.vars,x.loans.length<=2^30
 ty:∀x∈v.vars,x.type.okB=true
theorem Ak{vs:List Vr}{p:Pl}(h:(eV vs p).2≠0):(eV vs p).1=.mk []:=by
 unfold eV at h⊢
 split
 ·rfl
 ·split
  ·rfl
  ·split
   ·rfl
   ·rename_i x hx hd _ u hu
    simp[hx,hd,hu]at h
theorem pW(vs:List Vr)(x:Vr)(p:Pl):cz (vs++[x]) p=if x.dead||!x.lent then cz vs p else if x.loans.any (fun q=>q.meet p||(cz vs p).any fun m=>eqB m q.name)then x.name::cz vs p else cz vs p:=by
 unfold cz;rw[List.foldl_append];rfl
theorem jx(p:Pl):∀(vs:List Vr) (r:List ByteArray) (N:List ByteArray),(∀n∈r,n∈N)->(∀x∈vs,x.name∈N)->
 (∀n∈vs.foldl (fun r x=>if x.dead||!x.lent then r else if x.loans.any (fun q=>q.meet p||r.any fun m=>eqB m q.name)then x.name::r else r) r,n∈N)/\
 (vs.foldl (fun r x=>if x.dead||!x.lent then r else if x.loans.any (fun q=>q.meet p||r.any fun m=>eqB m q.name)then x.name::r else r) r).length<=r.length+vs.length
 |[],r,N,h,_=>⟨h,by simp⟩
 |x::vs,r,N,h,hx=>by
  rw[dC]
  split
  ·obtain⟨a,b⟩:=jx p vs r N h fun y hy=>hx y (dt _ hy)
   exact⟨a,by simp only[aV];omega⟩
  ·split
   ·obtain⟨a,b⟩:=jx p vs (x.name::r) N (fun n hn=>by
     rcases bf.1 hn with rfl|hn
     ·exact hx x fI
     ·exact h n hn) fun y hy=>hx y (dt _ hy)
    exact⟨a,by simp only[aV]at b⊢;omega⟩
   ·obtain⟨a,b⟩:=jx p vs r N h fun y hy=>hx y (dt _ hy)
    exact⟨a,by simp only[aV];omega⟩
theorem zS(H:aj){b c:Nat}{o o':cK}:H.swap .empty ((aj.empty.set b o).set c o')=(H.set b o).set c o':=by
 ext d:1
 rw[bG,aM,aM,aM,aM]
 by_cases h1:d=c
 ·simp[h1]
 ·by_cases h2:d=b
  ·subst h2;simp[h1]
  ·simp[h1,h2]
section
variable {P:Program}{F:bS}{er:bW}
theorem qg(L:eC P F)(hC:eD P F er)(s:Nat)(v:Sc)(p:Pl)(hv:v.good)(hp:p.path.length<=2^30):
 ScC P F er F.k_use [.ptr s 0,.agg p.enc] s v fun q v'=>q=hG er (v.use p).2/\v'=(v.use p).1:=by
 intro H ORD HELD m1 m2 hE
 refine L.k_use (by simp[uV]) ?_
 have hpart:=c_kpart (er:=er) L s v p (bZ hp (by decide))
 simp only[Pl.enc]at hpart
 simp only[uV,go_sem,rE,rA,rL,Pl.enc]
 intro b3 hb3 b4 hb4
 have d34:=al (ai _ _ _) hb4
 have hb4':H.get b4=none:=by rw[ae _ _ (Ne.symm d34)]at hb4;exact hb4
 have hS4:∀o o',cy F er ((H.set b3 o).set b4 o') s v ORD HELD m1 m2:=fun o o'=>hE.mono fun b hb=>by
  rw[ae _ _ (by rintro rfl;exact hE.mem hb hb4'),ae _ _ (by rintro rfl;exact hE.mem hb hb3)]
 have n3:¬df F s ORD HELD m1 m2 b3:=fun h=>hE.mem h hb3
 have n4:¬df F s ORD HELD m1 m2 b4:=fun h=>hE.mem h hb4'
 simp only[go_sem,rE,rA,rL,d34]
 refine cR hpart (hS4 _ _) rfl (.refl _) (fun h=>by simp at h) trivial ?_
 rintro q v1 ORD1 HELD1 H5 fp ⟨rfl,rfl⟩ hS5 hfr -
 have g3:=hfr b3 (.cells [S p.name,au p.path]) (by rw[ae _ _ d34,ai]) n3
 have g4:=hfr b4 (.cells [NIL]) (ai _ _ _) n4
 by_cases hz:(eV v1.vars p).2=0
 ·have hu:v1.use p=({v1 with lost:=v1.lost||v1.held.any (fun h=>h.meet p||(cz v1.vars p).any fun m=>eqB h.name m),vars:=(cz v1.vars p).foldl iF v1.vars},eV v1.vars p):=by simp[Sc.use,hz]
  simp only[hG,hz,dh,Ty.enc_eq]
  simp only[go_sem,rE,rA,rL,a7,aB]
  intro b6 hb6
  have d36:=al g3.1 hb6
  have d46:=al g4.1 hb6
  simp only[go_sem,rE,rA,rL,g3.1,d36]
  have hke:=c_kends (F:=F) L s p
  simp only[Pl.enc]at hke
  refine dR hke rfl (aj.sub_empty _) (fun h=>by simp at h) trivial ?_
  rintro q H7 ⟨b,c,hbc,rfl,rfl⟩ hnew
  rw[zS]
  have fb:=hnew b (by rw[ae _ _ hbc,ai];simp) rfl
  have fc:=hnew c (by rw[ai];simp) rfl
  have keep:∀(o o':cK) d x,(H5.set b6 (.cells [.sl 1 none (Ty.encs (eV v1.vars p).1.kids)])).get d=some x->(((H5.set b6 (.cells [.sl 1 none (Ty.encs (eV v1.vars p).1.kids)])).set b o).set c o').get d=some x:=fun o o' d x hx=>by
   rw[ae _ _ (al hx fc),ae _ _ (al hx fb)];exact hx
  have up6:∀d x,H5.get d=some x->(H5.set b6 (.cells [.sl 1 none (Ty.encs (eV v1.vars p).1.kids)])).get d=some x:=fun d x hx=>by
   rw[ae _ _ (al hx hb6)];exact hx
  have hS7:∀o o',cy F er (((H5.set b6 (.cells [.sl 1 none (Ty.encs (eV v1.vars p).1.kids)])).set b o).set c o') s v1 ORD1 HELD1 m1 m2:=fun o o'=>hS5.mono fun d hd=>by
   obtain⟨x,hx⟩:=aJ.1 (hS5.mem hd)
   rw[keep _ _ _ _ (up6 _ _ hx),hx]
  refine dR (hC (((H5.set b6 (.cells [.sl 1 none (Ty.encs (eV v1.vars p).1.kids)])).set b (.cells [.ptr s 0])).set c (.cells [S p.name,au p.path])) s v1 ORD1 HELD1 m1 m2 b c p (hS7 _ _) hv.nd hv.len hp hv.lp hv.ll (by rw[ae _ _ hbc,ai]) (ai _ _ _)) rfl (aj.sub_refl _) (fun h=>by simp at h) trivial ?_
  rintro q H8 ⟨rfl,rfl⟩ -
  rw[iq]
  simp only[go_sem,rE,rA,rL]
  have hsub:=jx p v1.vars [] (v1.vars.map (·.name)) (by simp) fun x hx=>aY.2 ⟨x,hx,rfl⟩
  have n6:¬df F s ORD1 HELD1 m1 m2 b6:=fun h=>hS5.mem h hb6
  refine kg3_wp L (p:=p) (ns:=cz v1.vars p) (b3:=b3) (b4:=b4) (b6:=b6) (hS7 _ _) hsub.1 (bZ hsub.2 (by simpa using hv.len)) hp hv.hl hv.hp rfl rfl rfl rfl rfl (keep _ _ _ _ (up6 _ _ g3.1)) (keep _ _ _ _ (up6 _ _ g4.1)) (keep _ _ _ _ (ai _ _ _)) rfl d46 g3.2 g4.2 n6 ?_
  intro H9 ORD9 HELD9 hS9
  refine⟨_,ORD9,HELD9,⟨?_,rfl⟩,?_⟩
  ·rw[hu];simp only[hz,dh]
  ·rw[hu];exact hS9
 ·have hu:v1.use p=(v1,eV v1.vars p):=by simp[Sc.use,hz]
  have hac:er.ac (eV v1.vars p).2=.iface (er.t (eV v1.vars p).2) (er.x (eV v1.vars p).2):=by simp[bW.ac,hz]
  have hty:=Ak hz
  simp only[hG,hac,Ty.enc_eq]
  simp only[go_sem,rE,rA,rL,a7,aB]
  intro b6 hb6
  have d46:=al g4.1 hb6
  simp only[go_sem,rE,rA,rL,g4.1,d46]
  refine cv (off:=0) rfl (ai _ _ _) rfl ff (aj.sub_refl _) ⟨v1,ORD1,HELD1,⟨?_,by rw[hu]⟩,hS5.mono fun d hd=>?_⟩
  ·rw[hu,hty,hac];rfl
  ·rw[ae _ _ (by rintro rfl;exact g4.2 hd),ae _ _ (by rintro rfl;exact hS5.mem hd hb6)]
end
def Vr.core(x:Vr):Vr:={x with dead:=false}
theorem uC(vs:List Vr)(n:ByteArray):(iF vs n).map Vr.core=vs.map Vr.core:=by
 unfold iF
 rw[List.map_map]
 apply fw
 intro x _
 simp only[Function.comp]
 split<;>rfl
theorem rp:∀(ns:List ByteArray) (vs:List Vr),(ns.foldl iF vs).map Vr.core=vs.map Vr.core
 |[],vs=>rfl
 |n::ns,vs=>by rw[dC,rp ns,uC]
theorem lv{vs vs':List Vr}(h:vs'.map Vr.core=vs.map Vr.core){y:Vr}(hy:y∈vs'):∃x∈vs,x.name=y.name/\x.loans=y.loans/\x.type=y.type/\x.lent=y.lent/\x.param=y.param:=by
 have:y.core∈vs.map Vr.core:=by rw[<-h];exact cu hy
 obtain⟨x,hx,e⟩:=aY.1 this
 cases x;cases y
 simp only[Vr.core,Vr.mk.injEq]at e
 exact⟨_,hx,e.1,e.2.2.2.2.1,e.2.2.2.1,e.2.1,e.2.2.1⟩
theorem iT{vs vs':List Vr}(h:vs'.map Vr.core=vs.map Vr.core):vs'.map (·.name)=vs.map (·.name):=by
 have:=congrArg (List.map (·.name)) h
 simp only[List.map_map]at this
 exact this
theorem gD{vs vs':List Vr}(h:vs'.map Vr.core=vs.map Vr.core):vs'.length=vs.length:=by
 have:=congrArg List.length h
 simpa using this
theorem Sc.good.core{v v':Sc}(h:v.good)(hc:v'.vars.map Vr.core=v.vars.map Vr.core)(hg:v'.given=v.given)(hh:v'.held=v.held):v'.good where
 ok:=fun y hy=>by
  obtain⟨x,hx,e,-⟩:=lv hc hy
  rw[hg,<-e];exact h.ok x hx
 nd:=by rw[iT hc];exact h.nd
 len:=by rw[gD hc];exact h.len
 hl:=by rw[hh];exact h.hl
 hp:=by rw[hh];exact h.hp
 lp:=fun y hy=>by
  obtain⟨x,hx,-,e,-⟩:=lv hc hy
  rw[<-e];exact h.lp x hx
 ll:=fun y hy=>by
  obtain⟨x,hx,-,e,-⟩:=lv hc hy
  rw[<-e];exact h.ll x hx
 ty:=fun y hy=>by
  obtain⟨x,hx,-,-,e,-⟩:=lv hc hy
  rw[<-e];exact h.ty x hx
theorem Sc.use_core(v:Sc)(p:Pl):(v.use p).1.vars.map Vr.core=v.vars.map Vr.core/\(v.use p).1.given=v.given/\(v.use p).1.held=v.held/\(v.use p).1.p=v.p:=by
 unfold Sc.use
 split
 ·exact⟨rp _ _,rfl,rfl,rfl⟩
 ·exact⟨rfl,rfl,rfl,rfl⟩
theorem lK{v:Sc}(h:v.good)(p:Pl):(v.use p).1.good:=h.core (v.use_core p).1 (v.use_core p).2.1 (v.use_core p).2.2.1
theorem Sc.expr_eq(v:Sc)(k n:Int)(p:Pl)(ks:List Ex):v.expr (.mk k n p ks)=if k=1 then(v,(.mk [],0))else if k=2 then v.use p else match ks with
 |a::b::_=>
  if(v.expr a).2.2=0 then
   if((v.expr a).1.expr b).2.2=0 then
    if k=6 then(((v.expr a).1.expr b).1,if(Ty.mk [(v.expr a).2.1,((v.expr a).1.expr b).2.1]).okB then(.mk [(v.expr a).2.1,((v.expr a).1.expr b).2.1],0)else(.mk [],3))
    else(((v.expr a).1.expr b).1,(.mk [],if decide ((v.expr a).2.1.kids.length=0)&&decide (((v.expr a).1.expr b).2.1.kids.length=0)then 0 else 3))
   else(((v.expr a).1.expr b).1,(.mk [],((v.expr a).1.expr b).2.2))
  else((v.expr a).1,(.mk [],(v.expr a).2.2))
 |_=>(v,(.mk [],3)):=by
 rw[Sc.expr.eq_def]
 all_goals rfl
theorem Sc.expr_core:∀(e:Ex) (v:Sc),(v.expr e).1.vars.map Vr.core=v.vars.map Vr.core/\(v.expr e).1.given=v.given/\(v.expr e).1.held=v.held/\(v.expr e).1.p=v.p
 |.mk k n p ks,v=>by
  rw[Sc.expr_eq]
  split
  ·exact⟨rfl,rfl,rfl,rfl⟩
  ·split
   ·exact v.use_core p
   ·split
    ·rename_i a b l
     obtain⟨a1,a2,a3,a4⟩:=Sc.expr_core a v
     obtain⟨b1,b2,b3,b4⟩:=Sc.expr_core b (v.expr a).1
     split
     ·split
      ·split
       ·exact⟨b1.trans a1,b2.trans a2,b3.trans a3,b4.trans a4⟩
       ·exact⟨b1.trans a1,b2.trans a2,b3.trans a3,b4.trans a4⟩
      ·exact⟨b1.trans a1,b2.trans a2,b3.trans a3,b4.trans a4⟩
     ·exact⟨a1,a2,a3,a4⟩
    ·exact⟨rfl,rfl,rfl,rfl⟩
termination_by e=>SizeOf.sizeOf e
theorem Sc.expr_good{v:Sc}(h:v.good)(e:Ex):(v.expr e).1.good:=h.core (Sc.expr_core e v).1 (Sc.expr_core e v).2.1 (Sc.expr_core e v).2.2.1
theorem zG:∀{n m:Nat} {t:Ty},t.deepB n=true->n<=m->t.deepB m=true
 |0,_,t,h,_=>by simp[Ty.deepB]at h
 |n+1,0,_,_,hm=>by omega
 |n+1,m+1,.mk ks,h,hm=>by
  simp only[Ty.deepB,aw,aW]at h⊢
  exact⟨h.1,fun u hu=>zG (h.2 u hu) (by omega)⟩
theorem mL:(Ty.mk []).okB=true:=by simp[Ty.okB,Ty.deepB]
theorem B9{vs:List Vr}(h:∀x∈vs,x.type.okB=true)(p:Pl):(eV vs p).1.okB=true:=by
 unfold eV
 split
 ·exact mL
 ·split
  ·exact mL
  ·split
   ·exact mL
   ·rename_i x hx hd _ u hu
    unfold Ty.atOk at hu
    split at hu
    ·rename_i ho
     obtain⟨m,hm,h2⟩:=zL ho hu
     exact zG h2 hm
    ·simp at hu
theorem ja{v:Sc}(h:v.good)(p:Pl):(v.use p).2.1.okB=true:=by
 unfold Sc.use
 split<;>exact B9 h.ty p
theorem iV:∀(e:Ex) {v:Sc},v.good->(v.expr e).2.1.okB=true
 |.mk k n p ks,v,h=>by
  rw[Sc.expr_eq]
  split
  ·exact mL
  ·split
   ·exact ja h p
   ·split
    ·split
     ·split
      ·split
       ·split
        ·assumption
        ·exact mL
       ·exact mL
      ·exact mL
     ·exact mL
    ·exact mL
section
variable {F:bS}{er:bW}{H:aj}{s:Nat}{v:Sc}{ORD HELD:AC}{m1 m2:Nat}
theorem cy.e2(h:cy F er H s v ORD HELD m1 m2):H.get F.g_errCheckName=some (.const (er.o 2) [.iface (er.t 2) (er.x 2)]):=by simpa[bS.err]using h.errs 2 (.inl rfl)
theorem cy.e3(h:cy F er H s v ORD HELD m1 m2):H.get F.g_errCheckType=some (.const (er.o 3) [.iface (er.t 3) (er.x 3)]):=by simpa[bS.err]using h.errs 3 (.inr (.inl rfl))
theorem cy.e4(h:cy F er H s v ORD HELD m1 m2):H.get F.g_errCheckLoan=some (.const (er.o 4) [.iface (er.t 4) (er.x 4)]):=by simpa[bS.err]using h.errs 4 (.inr (.inr (.inl rfl)))
theorem cy.e5(h:cy F er H s v ORD HELD m1 m2):H.get F.g_errCheckOut=some (.const (er.o 5) [.iface (er.t 5) (er.x 5)]):=by simpa[bS.err]using h.errs 5 (.inr (.inr (.inr rfl)))
theorem cy.new(h:cy F er H s v ORD HELD m1 m2){b:Nat}(hb:H.get b=none)(o:cK):cy F er (H.set b o) s v ORD HELD m1 m2:=h.mono fun c hc=>ae _ _ (by rintro rfl;exact h.mem hc hb)
theorem cy.notin(h:cy F er H s v ORD HELD m1 m2){b:Nat}(hb:H.get b=none):¬df F s ORD HELD m1 m2 b:=fun hc=>h.mem hc hb
theorem cy.put(h:cy F er H s v ORD HELD m1 m2){b:Nat}(hb:¬df F s ORD HELD m1 m2 b)(o:cK):cy F er (H.set b o) s v ORD HELD m1 m2:=h.mono fun c hc=>ae _ _ (by rintro rfl;exact hb hc)
end
theorem nb_e3{F:bS}{s:Nat}{ORD HELD:AC}{m1 m2 b:Nat}(h:¬df F s ORD HELD m1 m2 b):F.g_errCheckType≠b:=by
 rintro rfl;exact h (.inr (.inr (.inr (.inr (.inr ⟨3,.inr (.inl rfl),by simp[bS.err]⟩)))))
theorem bV(er:bW){c:Int}(h:c≠0):er.ac c=.iface (er.t c) (er.x c):=by simp[bW.ac,h]
theorem qo{α:Type}[DecidableEq α]:∀(a b:List α),((a.zip b).all fun p=>decide (p.1=p.2))=((b.zip a).all fun p=>decide (p.1=p.2))
 |[],b=>by cases b<;>simp
 |x::a,[]=>by simp
 |x::a,y::b=>by
  simp only[List.zip_cons_cons,List.all_cons]
  rw[qo a b]
  congr 1
  simp only[eq_comm]
theorem qQ(a b:Pl):a.meet b=b.meet a:=by
 unfold Pl.meet
 rw[qo]
 congr 1
 simp only[eq_comm]
structure qi(vs:List Vr):Prop where
 nd:(vs.map (·.name)).Nodup
 ne:∀x∈vs,x.name≠bl []
 up:∀i (h:i<vs.length),∀q∈vs[i].loans,∃j,j<i/\(vs[j]?).map (·.name)=some q.name
theorem qi.front{vs:List Vr}{x:Vr}(h:qi (vs++[x])):qi vs:=by
 refine⟨?_,fun y hy=>h.ne y (List.mem_append_left _ hy),fun i hi q hq=>?_⟩
 ·have:=h.nd;rw[bB,fZ]at this;exact this.1
 ·have hi':i<(vs++[x]).length:=by simp;omega
  have e:(vs++[x])[i]=vs[i]:=dv hi
  obtain⟨j,hj,hn⟩:=h.up i hi' q (by rw[e];exact hq)
  refine⟨j,hj,?_⟩
  rw[aR (by omega)]at hn
  exact hn
theorem wv{α:Type}{motive:List α->Prop}(nil:motive [])(snoc:∀l x,motive l->motive (l++[x]))(l:List α):motive l:=by
 have h:∀l:List α,motive l.reverse:=by
  intro l
  induction l with
  |nil=>exact nil
  |cons x l ih=>rw[List.reverse_cons];exact snoc _ _ ih
 have:=h l.reverse
 rwa[List.reverse_reverse]at this
theorem wK{vs:List Vr}(h:(vs.map (·.name)).Nodup){i j:Nat}(hi:i<vs.length)(hj:j<vs.length)(e:vs[i].name=vs[j].name):i=j:=by
 have hp:=List.pairwise_iff_getElem.1 h
 rcases Nat.lt_trichotomy i j with hlt|heq|hgt
 ·exact absurd (by rw[gX,gX];exact e) (hp i j (by simpa using hi) (by simpa using hj) hlt)
 ·exact heq
 ·exact absurd (by rw[gX,gX];exact e.symm) (hp j i (by simpa using hj) (by simpa using hi) hgt)
theorem rS(vs:List Vr)(p:Pl){n:ByteArray}(h:n∈cz vs p):∃i,∃hi:i<vs.length,vs[i].name=n:=by
 have:=(jx p vs [] (vs.map (·.name)) (by simp) fun x hx=>aY.2 ⟨x,hx,rfl⟩).1 n h
 obtain⟨x,hx,rfl⟩:=aY.1 this
 obtain⟨i,hi,rfl⟩:=bj.1 hx
 exact⟨i,hi,rfl⟩
theorem rt(p:Pl):∀(vs:List Vr),qi vs->∀i (h:i<vs.length),vs[i].name∈cz vs p↔(vs[i].dead=false/\vs[i].lent=true/\∃q∈vs[i].loans,q.meet p=true\/q.name∈cz vs p):=by
 intro vs
 induction vs using wv with
 |nil=>intro _ i h;simp at h
 |snoc vs x ih=>
  intro hok i hi
  have ihv:=ih hok.front
  have hx:x.name∉vs.map (·.name):=by
   have:=hok.nd
   rw[bB,fZ]at this
   intro hm
   exact this.2.2 _ hm x.name (by simp) rfl
  have hxe:x.name∉cz vs p:=fun hm=>by
   obtain⟨j,hj,e⟩:=rS vs p hm
   exact hx (aY.2 ⟨vs[j],ay hj,e⟩)
  have mem_iff:∀n,n≠x.name->(n∈cz (vs++[x]) p↔n∈cz vs p):=fun n hn=>by
   rw[pW]
   split
   ·rfl
   ·split
    ·simp[hn]
    ·rfl
  have jj:∀k (hk:k<(vs++[x]).length),∀q∈(vs++[x])[k].loans,q.name≠x.name:=fun k hk q hq e=>by
   obtain⟨j,hj,hn⟩:=hok.up k hk q hq
   simp at hk
   have hjl:j<vs.length:=by omega
   rw[aR hjl,av hjl]at hn
   simp at hn
   exact hx (aY.2 ⟨vs[j],ay hjl,hn.trans e⟩)
  by_cases hlt:i<vs.length
  ·have e:(vs++[x])[i]=vs[i]:=dv hlt
   have hne:vs[i].name≠x.name:=fun e'=>hx (aY.2 ⟨vs[i],ay hlt,e'⟩)
   rw[e,mem_iff _ hne,ihv i hlt]
   constructor
   ·rintro⟨h1,h2,q,hq,h3⟩
    exact⟨h1,h2,q,hq,h3.imp id fun h=>(mem_iff _ (jj i hi q (by rw[e];exact hq))).2 h⟩
   ·rintro⟨h1,h2,q,hq,h3⟩
    exact⟨h1,h2,q,hq,h3.imp id fun h=>(mem_iff _ (jj i hi q (by rw[e];exact hq))).1 h⟩
  ·have hil:i=vs.length:=by simp at hi;omega
   subst hil
   have e:(vs++[x])[vs.length]=x:=by simp
   rw[e]
   have any_iff:(x.loans.any fun q=>q.meet p||(cz vs p).any fun m=>eqB m q.name)=true↔∃q∈x.loans,q.meet p=true\/q.name∈cz vs p:=by
    simp only[fJ,dq]
    constructor
    ·rintro⟨q,hq,h|⟨m,hm,he⟩⟩
     ·exact⟨q,hq,.inl h⟩
     ·exact⟨q,hq,.inr (cQ.1 he▸hm)⟩
    ·rintro⟨q,hq,h|h⟩
     ·exact⟨q,hq,.inl h⟩
     ·exact⟨q,hq,.inr ⟨_,h,dE _⟩⟩
   have tail:(∃q∈x.loans,q.meet p=true\/q.name∈cz (vs++[x]) p)↔∃q∈x.loans,q.meet p=true\/q.name∈cz vs p:=by
    constructor
    ·rintro⟨q,hq,h3⟩
     exact⟨q,hq,h3.imp id fun h=>(mem_iff _ (jj vs.length hi q (by rw[e];exact hq))).1 h⟩
    ·rintro⟨q,hq,h3⟩
     exact⟨q,hq,h3.imp id fun h=>(mem_iff _ (jj vs.length hi q (by rw[e];exact hq))).2 h⟩
   rw[tail,<-any_iff]
   conv=>lhs;rw[pW]
   cases hd:x.dead
   ·cases hl:x.lent
    ·simp[hxe]
    ·simp only[Bool.not_true,gP,ap,if_false,true_and]
     split
     ·rename_i h;simp[h]
     ·rename_i h;simp[h,hxe]
   ·simp[hxe]
structure tN(vs T:List Vr)(held:List Pl):Prop where
 len:T.length=held.length
 tmp:∀i (h:i<T.length) (h':i<held.length),T[i].name=bl []/\T[i].lent=true/\T[i].loans=[held[i]]
 nm:∀h∈held,∃x∈vs,x.name=h.name
def InS(vs T:List Vr)(p:Pl)(i:Nat):Prop:=∃h:i<(vs++T).length,(vs++T)[i].dead=false/\(vs++T)[i].lent=true/\∃q∈(vs++T)[i].loans,q.meet p=true\/q.name∈cz vs p
theorem wP{vs:List Vr}{p q:Pl}{out:List Nat}(h:lm vs p out q=true):q.meet p=true\/∃n∈out,∃hn:n<vs.length,vs[n].name=q.name:=by
 simp only[lm,dq,fJ]at h
 rcases h with h|⟨n,hn,h⟩
 ·exact .inl (by rw[qQ];exact h)
 ·refine .inr ⟨n,hn,?_⟩
  unfold pP at h
  split at h
  ·rename_i v hv
   obtain⟨hl,rfl⟩:=aQ.1 hv
   exact⟨hl,by simpa using h⟩
  ·simp at h
section
variable {vs T:List Vr}{held:List Pl}{p:Pl}
theorem wX(hv:qi vs)(hT:tN vs T held){i:Nat}(hi:i<(vs++T).length)(hn:(vs++T)[i].name≠bl [])(hs:InS vs T p i):(vs++T)[i].name∈cz vs p:=by
 obtain⟨h,h1,h2,h3⟩:=hs
 by_cases hlt:i<vs.length
 ·have e:(vs++T)[i]=vs[i]:=dv hlt
  rw[e]at h1 h2 h3⊢
  exact(rt p vs hv i hlt).2 ⟨h1,h2,h3⟩
 ·exfalso
  have hl:i - vs.length<T.length:=by simp at hi;omega
  have e:(vs++T)[i]=T[i - vs.length]:=List.getElem_append_right (by omega)
  rw[e]at hn
  exact hn (hT.tmp _ hl (by rw[<-hT.len];exact hl)).1
theorem jj(hv:qi vs)(hT:tN vs T held){i:Nat}(hi:i<(vs++T).length){q:Pl}(hq:q∈(vs++T)[i].loans):∃j,∃hj:j<vs.length,vs[j].name=q.name/\j<i/\q.name≠bl []:=by
 by_cases hlt:i<vs.length
 ·have e:(vs++T)[i]=vs[i]:=dv hlt
  rw[e]at hq
  obtain⟨j,hj,hn⟩:=hv.up i hlt q hq
  have hjl:j<vs.length:=by omega
  rw[av hjl]at hn
  simp at hn
  exact⟨j,hjl,hn,hj,by rw[<-hn];exact hv.ne _ (ay hjl)⟩
 ·have hl:i - vs.length<T.length:=by simp at hi;omega
  have e:(vs++T)[i]=T[i - vs.length]:=List.getElem_append_right (by omega)
  have hl':i - vs.length<held.length:=by rw[<-hT.len];exact hl
  rw[e,(hT.tmp _ hl hl').2.2]at hq
  simp at hq
  subst hq
  obtain⟨x,hx,hn⟩:=hT.nm _ (ay hl')
  obtain⟨j,hj,rfl⟩:=bj.1 hx
  exact⟨j,hj,hn,by omega,by rw[<-hn];exact hv.ne _ hx⟩
theorem qx(hv:qi vs)(hT:tN vs T held):∀(k i:Nat),i∈bM (vs++T) p k->InS vs T p i
 |0,i,h=>by simp[bM]at h
 |k+1,i,h=>by
  simp only[bM,jJ]at h
  split at h
  ·rename_i v hvv
   obtain⟨hl,rfl⟩:=aQ.1 hvv
   split at h
   ·rename_i hc
    rcases aF.1 h with h|h
    ·exact qx hv hT k i h
    ·rw[cn]at h
     subst h
     obtain⟨h1,h2,h3⟩:=hc
     obtain⟨q,hq,hm⟩:=fJ.1 h3
     refine⟨hl,h1,h2,q,hq,?_⟩
     rcases wP hm with h|⟨n,hn,hnl,he⟩
     ·exact .inl h
     ·obtain⟨_,_,_,_,hqn⟩:=jj hv hT hl hq
      have:=wX hv hT hnl (by rw[he];exact hqn) (qx hv hT k n hn)
      rw[he]at this
      exact .inr this
   ·exact qx hv hT k i h
  ·exact qx hv hT k i h
theorem raw_mem{W:List Vr}{p:Pl}:∀(k i:Nat),i∈bM W p k->i∈bM W p (k+1)
 |k,i,h=>by
  simp only[bM,jJ]
  split
  ·split
   ·exact List.mem_append_left _ h
   ·exact h
  ·exact h
theorem B5{W:List Vr}{p:Pl}{k m i:Nat}(h:i∈bM W p k)(hm:k<=m):i∈bM W p m:=by
 induction hm with
 |refl=>exact h
 |step _ ih=>exact raw_mem _ _ ih
theorem inS_raw{W:List Vr}{p:Pl}{i:Nat}(hi:i<W.length)(h1:W[i].dead=false)(h2:W[i].lent=true){q:Pl}(hq:q∈W[i].loans)(hm:q.meet p=true):i∈bM W p W.length:=by
 have:i∈bM W p (W.length - 1 - i+1):=by
  simp only[bM,jJ]
  have e:W.length - 1 - (W.length - 1 - i)=i:=by omega
  rw[e,av hi]
  simp only
  rw[if_pos]
  ·simp
  ·refine⟨h1,h2,fJ.2 ⟨q,hq,?_⟩⟩
   simp only[lm,dq]
   exact .inl (by rw[qQ];exact hm)
 exact B5 this (by omega)
theorem As(hv:qi vs)(hT:tN vs T held)(i:Nat):rW (vs++T) (bM (vs++T) p (vs++T).length) i↔InS vs T p i:=by
 constructor
 ·intro h
  induction h with
  |base h=>exact qx hv hT _ _ h
  |step hi hd hl hq hj hjl hn ih=>
   obtain⟨_,_,_,_,hqn⟩:=jj hv hT hi hq
   have:=wX hv hT hjl (by rw[hn];exact hqn) ih
   rw[hn]at this
   exact⟨hi,hd,hl,_,hq,.inr this⟩
 ·induction i using Nat.strongRecOn with
  |_ i ih=>
   rintro⟨hi,h1,h2,q,hq,h|h⟩
   ·exact .base (inS_raw hi h1 h2 hq h)
   ·obtain⟨j,hj,hn,hji,-⟩:=jj hv hT hi hq
    have hjW:j<(vs++T).length:=by simp;omega
    have e:(vs++T)[j]=vs[j]:=dv hj
    have hin:vs[j].name∈cz vs p:=by rw[hn];exact h
    obtain⟨a1,a2,a3⟩:=(rt p vs hv j hj).1 hin
    exact .step hi h1 h2 hq (ih j hji ⟨hjW,by rw[e];exact⟨a1,a2,a3⟩⟩) hjW (by rw[e];exact hn)
theorem u5(hv:qi vs)(hT:tN vs T held)(i:Nat):i∈eW (vs++T) p↔InS vs T p i:=by
 unfold eW yr
 rw[eF]
 simp only[List.mem_reverse,eT,decide_eq_true_eq,As hv hT]
 exact⟨fun h=>h.2,fun h=>⟨h.1,h⟩⟩
end
theorem zN(ns:List ByteArray)(n:ByteArray):(ns.any fun m=>eqB m n)=true↔n∈ns:=by
 rw[fJ]
 exact⟨fun⟨m,hm,h⟩=>cQ.1 h▸hm,fun h=>⟨n,h,dE _⟩⟩
theorem oE:∀(ns:List ByteArray) (vs:List Vr),ns.foldl iF vs=vs.map fun x=>if ns.any (fun m=>eqB m x.name)then {x with dead:=true}else x
 |[],vs=>by simp
 |n::ns,vs=>by
  rw[dC,oE ns,iF,List.map_map]
  apply fw
  intro x _
  simp only[Function.comp,List.any_cons]
  by_cases h:eqB x.name n=true
  ·have e:eqB n x.name=true:=cQ.2 (cQ.1 h).symm
   simp only[h,e,if_true,dZ]
   split<;>rfl
  ·have e:eqB n x.name=false:=cE.2 fun e=>h (cQ.2 e.symm)
   simp only[h,e,dK]
   rfl
theorem tq:∀(L:List Nat) (vs:List Vr) (i:Nat),(l6 vs L)[i]?=(vs[i]?).map fun x=>if i∈L then {x with dead:=true}else x
 |[],vs,i=>by simp[l6]
 |j::L,vs,i=>by
  have:=tq L (jv vs j) i
  simp only[l6,dC]at this⊢
  rw[this]
  simp only[jv,List.getElem?_modify,Option.map_map]
  cases vs[i]? with
  |none=>rfl
  |some x=>
   by_cases h1:i∈L
   ·simp only[ce,Function.comp,h1,if_true,bf,or_true]
    split<;>rfl
   ·by_cases h2:j=i
    ·simp[h1,h2]
    ·simp[h1,h2,Ne.symm h2]
structure Rel(e:En)(u:Sc)(T:List Vr):Prop where
 vars:e.vars=u.vars++T
 names:e.names=u.given
 code:e.code=0
 p:u.p=e.p.take e.fn
 ok:qi u.vars
 tmp:tN u.vars T u.held
 lost:u.lost=T.any (·.dead)
 giv:u.ok
theorem zR(vs:List Vr)(n:ByteArray):vs.find? (fun x=>eqB x.name n)=(fW vs n).bind fun i=>vs[i]?:=by
 unfold fW
 induction vs with
 |nil=>rfl
 |cons x vs ih=>
  rw[List.find?_cons,List.findIdx?_cons]
  by_cases h:x.name=n
  ·subst h;simp[dE]
  ·have:eqB x.name n=false:=cE.2 h
   rw[this]
   simp only[decide_eq_true_eq,h,if_false,Option.bind_map,ih]
   rfl
theorem Bh{vs T:List Vr}{held:List Pl}(hT:tN vs T held){n:ByteArray}(hn:n≠bl []):fW (vs++T) n=fW vs n:=by
 unfold fW
 rw[List.findIdx?_append]
 have:T.findIdx? (fun v=>decide (v.name=n))=none:=by
  rw[iB]
  intro x hx
  obtain⟨i,hi,rfl⟩:=bj.1 hx
  have:=(hT.tmp i hi (by rw[<-hT.len];exact hi)).1
  simp only[decide_eq_false_iff_not,this]
  exact Ne.symm hn
 rw[this]
 simp
theorem qi.core{vs ws:List Vr}(h:qi vs)(hc:ws.map Vr.core=vs.map Vr.core):qi ws:=by
 have hl:=gD hc
 have hg:∀i (hi:i<ws.length) (hi':i<vs.length),ws[i].core=vs[i].core:=fun i hi hi'=>by
  have:=congrArg (·[i]?) hc
  simpa[hi,hi']using this
 refine⟨by rw[iT hc];exact h.nd,fun y hy=>?_,fun i hi q hq=>?_⟩
 ·obtain⟨x,hx,e,-⟩:=lv hc hy
  rw[<-e];exact h.ne x hx
 ·have hi':i<vs.length:=by rw[<-hl];exact hi
  have e:=hg i hi hi'
  have:ws[i].loans=vs[i].loans:=by
   have:=congrArg Vr.loans e;exact this
  rw[this]at hq
  obtain⟨j,hj,hn⟩:=h.up i hi' q hq
  refine⟨j,hj,?_⟩
  have hjv:j<vs.length:=by omega
  have hjw:j<ws.length:=by omega
  rw[av hjv]at hn
  rw[av hjw]
  have:=congrArg Vr.name (hg j hjw hjv)
  simp only[ce,Option.some.injEq]at hn⊢
  exact this.trans hn
theorem mG{e:En}{u:Sc}{T:List Vr}(h:Rel e u T){p:Pl}(hp:p.name≠bl []):
 ((u.use p).2.2=0/\(∃T',Rel (e.use p).1 (u.use p).1 T')/\(e.use p).2=(u.use p).2.1/\∃x∈u.vars,x.name=p.name)\/((u.use p).2.2≠0/\(e.use p).1.code=(u.use p).2.2):=by
 have hidx:=Bh h.tmp hp
 have hfind:=zR u.vars p.name
 unfold En.use Sc.use eV
 rw[h.vars,hidx,hfind]
 cases hi:fW u.vars p.name with
 |none=>
  right
  simp[h.code,dx]
 |some i=>
  obtain⟨hil,hname,-⟩:=bQ.1 hi
  have hname:u.vars[i].name=p.name:=by simpa using hname
  have e1:(u.vars++T)[i]?=some u.vars[i]:=by rw[aR hil,av hil]
  have e2:u.vars[i]?=some u.vars[i]:=av hil
  simp only[Option.bind_some,e1,e2]
  cases hd:u.vars[i].dead with
  |true=>
   right
   simp only[if_true,h.code,dx]
   refine⟨by simp,?_⟩
   cases(u.vars[i].type.atOk p.path).isSome<;>simp
  |false=>
   cases ht:u.vars[i].type.atOk p.path with
   |none=>
    right
    simp[h.code,dx]
   |some t=>
    left
    simp only[ap,if_false,if_true,Option.isSome_some,Option.getD_some]
    refine⟨trivial,?_,trivial,u.vars[i],ay hil,hname⟩
    have hkl:(l6 (u.vars++T) (eW (u.vars++T) p)).length=u.vars.length+T.length:=by rw[nW];simp
    have hfl:((cz u.vars p).foldl iF u.vars).length=u.vars.length:=by rw[oE];simp
    have hpre:(l6 (u.vars++T) (eW (u.vars++T) p)).take u.vars.length=(cz u.vars p).foldl iF u.vars:=by
     apply gd
     intro k
     by_cases hk:k<u.vars.length
     ·rw[dw hk,tq,aR hk,av hk,oE,cA,av hk]
      simp only[ce,Option.some.injEq]
      have hm:=u5 (p:=p) h.ok h.tmp k
      have hk':k<(u.vars++T).length:=by simp;omega
      have ek:(u.vars++T)[k]=u.vars[k]:=dv hk
      have:k∈eW (u.vars++T) p↔((cz u.vars p).any fun m=>eqB m u.vars[k].name)=true:=by
       rw[hm,zN,rt p u.vars h.ok k hk]
       constructor
       ·rintro⟨_,a,b,c⟩;rw[ek]at a b c;exact⟨a,b,c⟩
       ·intro a;exact⟨hk',by rw[ek];exact a⟩
      by_cases hin:k∈eW (u.vars++T) p
      ·rw[if_pos hin,if_pos (this.1 hin)]
      ·rw[if_neg hin,if_neg (fun h=>hin (this.2 h))]
     ·rw[fE (by rw[bk];omega),fE (by omega)]
    have hT':∀k (hk:k<T.length),(l6 (u.vars++T) (eW (u.vars++T) p))[u.vars.length+k]?=some (if u.vars.length+k∈eW (u.vars++T) p then {T[k]with dead:=true}else T[k]):=fun k hk=>by
     rw[tq,bi (by omega),Nat.add_sub_cancel_left,av hk]
     rfl
    have hdl:((l6 (u.vars++T) (eW (u.vars++T) p)).drop u.vars.length).length=T.length:=by rw[eX,hkl];omega
    have hget:∀k (hk:k<((l6 (u.vars++T) (eW (u.vars++T) p)).drop u.vars.length).length) (hk':k<T.length),((l6 (u.vars++T) (eW (u.vars++T) p)).drop u.vars.length)[k]=if u.vars.length+k∈eW (u.vars++T) p then {T[k]with dead:=true}else T[k]:=fun k hk hk'=>by
     have:=hT' k hk'
     have e:=bC (xs:=l6 (u.vars++T) (eW (u.vars++T) p)) (i:=u.vars.length) (j:=k)
     rw[this,av hk]at e
     simpa using e
    have hcore:((cz u.vars p).foldl iF u.vars).map Vr.core=u.vars.map Vr.core:=rp _ _
    refine⟨(l6 (u.vars++T) (eW (u.vars++T) p)).drop u.vars.length,?_,h.names,h.code,h.p,h.ok.core hcore,⟨hdl.trans h.tmp.len,fun k hk hk'=>?_,fun q hq=>?_⟩,?_,fun y hy=>by
     obtain⟨z,hz,ez,-⟩:=lv hcore hy
     have:=h.giv z hz
     rw[ez]at this;exact this⟩
    ·simp only
     rw[<-hpre,iw]
    ·rw[hget k hk (by rw[<-hdl];exact hk)]
     obtain⟨a,b,c⟩:=h.tmp.tmp k (by rw[<-hdl];exact hk) hk'
     split
     ·exact⟨a,b,c⟩
     ·exact⟨a,b,c⟩
    ·obtain⟨x,hx,e⟩:=h.tmp.nm q hq
     have:x.core∈((cz u.vars p).foldl iF u.vars).map Vr.core:=by rw[hcore];exact cu hx
     obtain⟨y,hy,ey⟩:=aY.1 this
     exact⟨y,hy,by have:=congrArg Vr.name ey;exact this.trans e⟩
    ·simp only
     rw[h.lost,aZ]
     simp only[dq,fJ]
     have dead_iff:∀k (hk:k<T.length),u.vars.length+k∈eW (u.vars++T) p↔(T[k].dead=false/\(u.held[k]'(by rw[<-h.tmp.len];exact hk)).meet p=true\/T[k].dead=false/\(u.held[k]'(by rw[<-h.tmp.len];exact hk)).name∈cz u.vars p):=fun k hk=>by
      have hkh:k<u.held.length:=by rw[<-h.tmp.len];exact hk
      obtain⟨a,b,c⟩:=h.tmp.tmp k hk hkh
      have hk':u.vars.length+k<(u.vars++T).length:=by simp;omega
      have ek:(u.vars++T)[u.vars.length+k]=T[k]:=by rw[List.getElem_append_right (by omega)];simp
      rw[u5 (p:=p) h.ok h.tmp]
      constructor
      ·rintro⟨_,x,y,q,hq,z⟩
       rw[ek]at x y hq
       rw[c]at hq
       simp at hq
       subst hq
       exact z.imp (fun z=>⟨x,z⟩) fun z=>⟨x,z⟩
      ·rintro(⟨x,z⟩|⟨x,z⟩)
       ·exact⟨hk',by rw[ek];exact⟨x,b,_,by rw[c];exact cn.2 rfl,.inl z⟩⟩
       ·exact⟨hk',by rw[ek];exact⟨x,b,_,by rw[c];exact cn.2 rfl,.inr z⟩⟩
     constructor
     ·rintro(⟨t,ht,hd⟩|⟨q,hq,hm⟩)
      ·obtain⟨k,hk,rfl⟩:=bj.1 ht
       refine⟨_,ay (n:=k) (by rw[hdl];exact hk),?_⟩
       rw[hget k _ hk]
       split
       ·rfl
       ·exact hd
      ·obtain⟨k,hk,rfl⟩:=bj.1 hq
       have hkT:k<T.length:=by rw[h.tmp.len];exact hk
       refine⟨_,ay (n:=k) (by rw[hdl];exact hkT),?_⟩
       rw[hget k _ hkT]
       cases hd:T[k].dead
       ·rw[if_pos]
        rw[dead_iff k hkT]
        rcases hm with hm|⟨m,hm,he⟩
        ·exact .inl ⟨hd,hm⟩
        ·exact .inr ⟨hd,by rw[cQ.1 he];exact hm⟩
       ·split
        ·rfl
        ·exact hd
     ·rintro⟨t,ht,hd⟩
      obtain⟨k,hk,rfl⟩:=bj.1 ht
      have hkT:k<T.length:=by rw[<-hdl];exact hk
      rw[hget k hk hkT]at hd
      split at hd
      ·rename_i hin
       have hkh:k<u.held.length:=by rw[<-h.tmp.len];exact hkT
       rcases(dead_iff k hkT).1 hin with⟨-,hm⟩|⟨-,hm⟩
       ·exact .inr ⟨_,ay hkh,.inl hm⟩
       ·exact .inr ⟨_,ay hkh,.inr ⟨_,hm,dE _⟩⟩
      ·exact .inl ⟨_,ay hkT,hd⟩
theorem iS{c d:Int}(h:c≠0):dx c d=c:=by simp[dx,h]
theorem fF{v:En}(h:v.code≠0)(c:Int):(v.fail c).code=v.code:=iS h
theorem gi{v:En}(h:v.code≠0)(t:Ty):(v.num t).code=v.code:=by simp only[En.num];split<;>simp[iS h]
theorem eP{v:En}(h:v.code≠0)(a t:Ty):(v.same a t).code=v.code:=by simp only[En.same];split<;>simp[iS h]
theorem eJ{v:En}(h:v.code≠0)(x:Vr):(v.add x).code=v.code:=by simp only[En.add,AW];split<;>simp[iS h]
theorem jO{v:En}(h:v.code≠0)(p:Pl):(v.use p).1.code=v.code:=by
 unfold En.use
 split
 ·simp[iS h]
 ·split
  ·rfl
  ·simp only[]
   split<;>split<;>simp[iS h]
theorem kn:∀(e:Ex) {v:En},v.code≠0->(v.expr e).1.code=v.code
 |.mk k n p ks,v,h=>by
  rw[En.expr_eq]
  split
  ·rfl
  ·split
   ·exact jO h p
   ·split
    ·rename_i a b l
     have ha:=kn a h
     have hb:=(kn b (by rw[ha];exact h)).trans ha
     have hb0:((v.expr a).1.expr b).1.code≠0:=by rw[hb];exact h
     split
     ·split
      ·exact hb
      ·exact(fF hb0 3).trans hb
     ·have h1:=gi hb0 (v.expr a).2
      exact((gi (by rw[h1];exact hb0) _).trans h1).trans hb
    ·rfl
termination_by e=>SizeOf.sizeOf e
theorem i7:∀(l:List (Pa×Ag)) {v:En} (pl:List Pl),v.code≠0->(v.args l pl).1.code=v.code
 |[],v,pl,h=>rfl
 |(p,a)::l,v,pl,h=>by
  rw[En.args]
  split
  ·exact fF h 3
  ·split
   ·have h1:=jO h a.place
    have h2:=(eP (by rw[h1];exact h) (v.use a.place).2 p.type).trans h1
    exact(i7 l _ (by show(En.same _ _ _).code≠0;rw[h2];exact h)).trans h2
   ·have h1:=kn a.expr h
    have h2:=(eP (by rw[h1];exact h) (v.expr a.expr).2 p.type).trans h1
    exact(i7 l _ (by rw[h2];exact h)).trans h2
theorem wc{v:En}(h:v.code≠0)(n:Nat):(v.gone n).code=v.code:=by unfold En.gone;split<;>simp[fF h]
theorem qA{v:En}(h:v.code=0)(t:Ty):(v.num t).code=if t.kids.length=0 then 0 else 3:=by
 simp only[En.num,cN,h,dx,if_true]
theorem jt{v:En}(h:v.code=0)(a t:Ty):(v.same a t).code=if eqB a t then 0 else 3:=by
 simp only[En.same,h,dx,if_true]
 by_cases e:a=t
 ·rw[if_pos e,if_pos (cQ.2 e)]
 ·rw[if_neg e,if_neg (fun h=>e (cQ.1 h))]
theorem Rel.code0{e e':En}{u:Sc}{T:List Vr}(h:Rel e u T)(hv:e'.vars=e.vars)(hn:e'.names=e.names)(hp:e'.p=e.p)(hf:e'.fn=e.fn)(hc:e'.code=0):Rel e' u T:=
 ⟨hv.trans h.vars,hn.trans h.names,hc,by rw[hp,hf];exact h.p,h.ok,h.tmp,h.lost,h.giv⟩
theorem Rel.num{e:En}{u:Sc}{T:List Vr}(h:Rel e u T){t:Ty}(ht:t.kids.length=0):Rel (e.num t) u T:=h.code0 rfl rfl rfl rfl (by rw[qA h.code,if_pos ht])
theorem Rel.same{e:En}{u:Sc}{T:List Vr}(h:Rel e u T){a t:Ty}(ht:eqB a t=true):Rel (e.same a t) u T:=h.code0 rfl rfl rfl rfl (by rw[jt h.code,if_pos ht])
theorem lj{p:Pl}(h:p.okB=true):p.name≠bl []:=by
 simp only[Pl.okB,aw]at h
 intro e
 rw[e]at h
 have:=h.1
 simp[bn,bl]at this
 exact absurd this.1 (by decide)
theorem oh:∀(d:Nat) (x:Ex),x.okD d=true->∀{e:En} {u:Sc} {T:List Vr},Rel e u T->
 ((u.expr x).2.2=0/\(∃T',Rel (e.expr x).1 (u.expr x).1 T')/\(e.expr x).2=(u.expr x).2.1)\/((u.expr x).2.2≠0/\(e.expr x).1.code=(u.expr x).2.2):=by
 intro d
 induction d with
 |zero=>intro x hx;simp[Ex.okD]at hx
 |succ d ih=>
  intro x hx e u T h
  by_cases k1:x.kind=1
  ·obtain⟨k,n,p,ks⟩:=x
   have k1:k=1:=k1
   simp only[En.expr_eq,Sc.expr_eq,k1,if_true]
   exact .inl ⟨trivial,⟨T,h⟩,trivial⟩
  by_cases k2:x.kind=2
  ·have ho:=tc d k2
   rw[hx]at ho
   have hp:x.place.okB=true:=by
    cases h2:x.place.okB with
    |true=>rfl
    |false=>rw[h2]at ho;simp at ho
   obtain⟨k,n,p,ks⟩:=x
   have k2:k=2:=k2
   have hp:p.okB=true:=hp
   simp only[En.expr_eq,Sc.expr_eq,k2,bp,if_true,if_false]
   rcases mG h (p:=p) (lj hp)with⟨a,b,c,-⟩|⟨a,b⟩
   ·exact .inl ⟨a,b,c⟩
   ·exact .inr ⟨a,b⟩
  have k36:3<=x.kind/\x.kind<=6:=by
   rcases Classical.em (3<=x.kind/\x.kind<=6)with h|h
   ·exact h
   ·have:=me d k1 k2 (.inl h);rw[hx]at this;simp at this
  have hl:x.kids.length=2:=by
   rcases Nat.decEq x.kids.length 2 with h|h
   ·have:=me d k1 k2 (.inr h);rw[hx]at this;simp at this
   ·exact h
  obtain⟨k,n,p,ks⟩:=x
  simp only[Ex.kids,Ex.kind]at hl k1 k2 k36
  match ks,hl with
  |[a,b],_=>
   have ho:=vp d (e:=.mk k n p [a,b]) k36 rfl
   rw[hx]at ho
   have hab:a.okD d=true/\b.okD d=true:=by
    cases h1:a.okD d<;>cases h2:b.okD d<;>simp[h1,h2]at ho⊢
   simp only[En.expr_eq,Sc.expr_eq,if_neg k1,if_neg k2]
   rcases ih a hab.1 h with⟨a1,⟨T1,a2⟩,a3⟩|⟨a1,a2⟩
   ·rw[if_pos a1]
    rcases ih b hab.2 a2 with⟨b1,⟨T2,b2⟩,b3⟩|⟨b1,b2⟩
    ·rw[if_pos b1]
     rw[a3,b3]
     by_cases k6:k=6
     ·rw[if_pos k6,if_pos k6]
      cases hok:(Ty.mk [(u.expr a).2.1,((u.expr a).1.expr b).2.1]).okB
      ·simp only[ap,if_false]
       exact .inr ⟨by decide,by simp[En.fail,dx,b2.code]⟩
      ·simp only[if_true]
       exact .inl ⟨trivial,⟨T2,b2⟩,trivial⟩
     ·rw[if_neg k6,if_neg k6]
      by_cases n1:(u.expr a).2.1.kids.length=0
      ·have r1:=b2.num n1
       by_cases n2:((u.expr a).1.expr b).2.1.kids.length=0
       ·left
        simp only[n1,n2,decide_true,fP,if_true]
        exact⟨trivial,⟨T2,r1.num n2⟩,trivial⟩
       ·right
        simp only[n1,n2,decide_true,decide_false,aO,ap,if_false]
        exact⟨by decide,by rw[qA r1.code,if_neg n2]⟩
      ·right
       simp only[n1,decide_false,aK,ap,if_false]
       have hc:=qA b2.code (u.expr a).2.1
       rw[if_neg n1]at hc
       exact⟨by decide,by rw[gi (by rw[hc];decide),hc]⟩
    ·rw[if_neg b1]
     right
     refine⟨b1,?_⟩
     have hb0:((e.expr a).1.expr b).1.code≠0:=by rw[b2];exact b1
     split
     ·split
      ·exact b2
      ·exact(fF hb0 3).trans b2
     ·have h1:=gi hb0 (e.expr a).2
      exact((gi (by rw[h1];exact hb0) _).trans h1).trans b2
   ·rw[if_neg a1]
    right
    refine⟨a1,?_⟩
    have ha0:(e.expr a).1.code≠0:=by rw[a2];exact a1
    have hb:=(kn b ha0).trans a2
    have hb0:((e.expr a).1.expr b).1.code≠0:=by rw[hb];exact a1
    split
    ·split
     ·exact hb
     ·exact(fF hb0 3).trans hb
    ·have h1:=gi hb0 (e.expr a).2
     exact((gi (by rw[h1];exact hb0) _).trans h1).trans hb
section
variable {P:Program}{F:bS}{er:bW}
theorem qK(L:eC P F)(T:Tys F.toIds)(hC:eD P F er)(s:Nat):∀(d:Nat),d<=100->∀(e:Ex),e.okD d=true->∀v:Sc,v.good->
 ScC P F er F.k_expr [.ptr s 0,.agg e.enc] s v fun q v'=>q=hG er (v.expr e).2/\v'=(v.expr e).1:=by
 intro d
 induction d with
 |zero=>intro _ e he;simp[Ex.okD]at he
 |succ d ih=>
  intro hd e he v hv H ORD HELD m1 m2 hE
  refine L.k_expr (by simp[sB]) ?_
  have hex:=xD L.toLib e
  rw[Ex.enc_eq]at hex
  obtain⟨ek,en,ep,eks⟩:=e
  rw[Ex.enc_eq]
  simp only[sB,go_sem,rE,rA,rL]
  intro b3 hb3 b4 hb4
  have d34:=al (ai _ _ _) hb4
  have hb4':H.get b4=none:=by rw[ae _ _ (Ne.symm d34)]at hb4;exact hb4
  have n4:¬df F s ORD HELD m1 m2 b4:=fun h=>hE.mem h hb4'
  simp only[go_sem,rE,rA,rL,d34]
  refine ao hex rfl ?_
  have hS4:cy F er ((H.set b3 (.cells [I (Ex.mk ek en ep eks).kind,I (Ex.mk ek en ep eks).num,S (Ex.mk ek en ep eks).place.name,au (Ex.mk ek en ep eks).place.path,.sl 5 none (Ex.encs (Ex.mk ek en ep eks).kids)])).set b4 (.cells [NIL])) s v ORD HELD m1 m2:=hE.mono fun b hb=>by
   rw[ae _ _ (by rintro rfl;exact hE.mem hb hb4'),ae _ _ (by rintro rfl;exact hE.mem hb hb3)]
  have g4:((H.set b3 (.cells [I (Ex.mk ek en ep eks).kind,I (Ex.mk ek en ep eks).num,S (Ex.mk ek en ep eks).place.name,au (Ex.mk ek en ep eks).place.path,.sl 5 none (Ex.encs (Ex.mk ek en ep eks).kids)])).set b4 (.cells [NIL])).get b4=some (.cells [NIL]):=ai _ _ _
  clear hb4 hb3 d34 hb4'
  generalize(H.set b3 (.cells [I (Ex.mk ek en ep eks).kind,I (Ex.mk ek en ep eks).num,S (Ex.mk ek en ep eks).place.name,au (Ex.mk ek en ep eks).place.path,.sl 5 none (Ex.encs (Ex.mk ek en ep eks).kids)])).set b4 (.cells [NIL])=H4 at*
  simp only[go_sem,rE,rA,rL]
  by_cases k1:ek=1
  ·have ho:=zA d (e:=.mk ek en ep eks) k1
   rw[he]at ho
   cases hc:(Ex.mk ek en ep eks).place.noneB&&decide ((Ex.mk ek en ep eks).kids.length=0)
   ·simp only[hc,aK]at ho
    simp at ho
   ·have hsh:shE F.toIds (.mk ek en ep eks)=.iface F.T_i_exprNum (.agg [I en]):=by rw[shE,if_pos (show(Ex.mk ek en ep eks).kind=1 from k1),if_pos hc];rfl
    have hx:v.expr (.mk ek en ep eks)=(v,(.mk [],0)):=by rw[Sc.expr_eq,if_pos k1]
    simp only[hsh,go_sem,rE,rA,rL,if_true,a7,aB]
    intro b6 hb6
    have d46:=al g4 hb6
    simp only[go_sem,rE,rA,rL,d46,g4]
    refine cv (off:=0) rfl (ai _ _ _) rfl ff (aj.sub_refl _) ⟨v,ORD,HELD,⟨by rw[hx];rfl,by rw[hx]⟩,hS4.mono fun c hc=>?_⟩
    rw[ae _ _ (by rintro rfl;exact n4 hc),ae _ _ (by rintro rfl;exact hS4.mem hc hb6)]
  by_cases k2:ek=2
  ·have ho:=tc d (e:=.mk ek en ep eks) k2
   rw[he]at ho
   cases hc:decide ((Ex.mk ek en ep eks).num=0)&&decide ((Ex.mk ek en ep eks).kids.length=0)
   ·simp only[hc,aK]at ho
    simp at ho
   ·have hsh:shE F.toIds (.mk ek en ep eks)=.iface F.T_i_exprRead (.agg ep.enc):=by rw[shE,if_neg (show ¬(Ex.mk ek en ep eks).kind=1 from k1),if_pos (show(Ex.mk ek en ep eks).kind=2 from k2),if_pos hc];rfl
    have hx:v.expr (.mk ek en ep eks)=v.use ep:=by rw[Sc.expr_eq,if_neg k1,if_pos k2]
    have hu:=qg L hC s v ep hv (by
     have h2:(Ex.mk ek en ep eks).place.okB=true:=by
      rw[hc]at ho
      simpa using ho.symm
     have h2:ep.okB=true:=h2
     simp only[Pl.okB,gj,aw,decide_eq_true_eq]at h2
     omega)
    simp only[Pl.enc]at hu
    rw[hx]
    simp only[hsh,go_sem,rE,rA,rL,if_true,if_false,T.e1,Pl.enc,a7,aB]
    intro b7 hb7
    have d47:=al g4 hb7
    have hS7:∀o,cy F er (H4.set b7 o) s v ORD HELD m1 m2:=fun o=>hS4.mono fun c hc=>ae _ _ (by rintro rfl;exact hS4.mem hc hb7)
    refine cR hu (hS7 _) rfl (.refl _) (fun h=>by simp at h) trivial ?_
    rintro q v1 ORD1 HELD1 H5 fp ⟨rfl,rfl⟩ hS5 hfr -
    have g5:=hfr b4 (.cells [NIL]) (by rw[ae _ _ d47];exact g4) n4
    simp only[hG,Ty.enc_eq]
    simp only[go_sem,rE,rA,rL,a7,aB,g5.1]
    refine cv (off:=0) rfl (ai _ _ _) rfl (.refl _) (aj.sub_refl _) ⟨_,ORD1,HELD1,⟨rfl,rfl⟩,hS5.mono fun c hc=>ae _ _ (by rintro rfl;exact g5.2 hc)⟩
  have k36:3<=(Ex.mk ek en ep eks).kind/\(Ex.mk ek en ep eks).kind<=6:=by
   rcases Classical.em (3<=(Ex.mk ek en ep eks).kind/\(Ex.mk ek en ep eks).kind<=6)with h|h
   ·exact h
   ·have:=me d (e:=.mk ek en ep eks) k1 k2 (.inl h);rw[he]at this;simp at this
  obtain⟨a,b,hab⟩:∃a b,eks=[a,b]:=by
   have hl:eks.length=2:=by
    rcases Nat.decEq eks.length 2 with h|h
    ·have:=me d (e:=.mk ek en ep eks) k1 k2 (.inr h);rw[he]at this;simp at this
    ·exact h
   match eks,hl with
   |[a,b],_=>exact⟨a,b,rfl⟩
  subst hab
  have ho:=vp d (e:=.mk ek en ep [a,b]) k36 rfl
  rw[he]at ho
  cases hc:decide ((Ex.mk ek en ep [a,b]).num=0)&&(Ex.mk ek en ep [a,b]).place.noneB
  ·simp only[hc,aK]at ho
   simp at ho
  have hoa:a.okD d=true:=by rw[hc]at ho;simp at ho;exact ho.1
  have hob:b.okD d=true:=by rw[hc]at ho;simp at ho;exact ho.2
  have hsh:shE F.toIds (.mk ek en ep [a,b])=.iface F.T_i_exprTwo (.agg (I ek::(a.enc++b.enc))):=by
   rw[shE,if_neg (show ¬(Ex.mk ek en ep [a,b]).kind=1 from k1),if_neg (show ¬(Ex.mk ek en ep [a,b]).kind=2 from k2),if_pos k36]
   simp only[Ex.kids,hc,if_true];rfl
  have iha:=ih (by omega) a hoa v hv
  have ihb:=ih (by omega) b hob (v.expr a).1 (Sc.expr_good hv a)
  rw[Ex.enc_eq]at iha ihb
  simp only[hsh,go_sem,rE,rA,rL,if_true,if_false,T.e2,T.e3,Ex.enc_eq a,Ex.enc_eq b,cB,dm,a7,aB]
  intro b8 hb8
  have d48:=al g4 hb8
  have hS8:∀o,cy F er (H4.set b8 o) s v ORD HELD m1 m2:=fun o=>hS4.mono fun c hc=>ae _ _ (by rintro rfl;exact hS4.mem hc hb8)
  have n8:¬df F s ORD HELD m1 m2 b8:=fun h=>hS4.mem h hb8
  refine cR iha (hS8 _) rfl (.refl _) (fun h=>by simp at h) trivial ?_
  rintro q v1 ORD1 HELD1 H5 fp ⟨rfl,rfl⟩ hS5 hfr -
  have g5:=hfr b4 (.cells [NIL]) (by rw[ae _ _ d48];exact g4) n4
  have g8:=hfr b8 _ (ai _ _ _) n8
  by_cases hza:(v.expr a).2.2=0
  ·simp only[hG,hza,dh,Ty.enc_eq]
   simp only[go_sem,rE,rA,rL,a7,aB]
   intro b9 hb9
   have d49:=al g5.1 hb9
   have d89:=al g8.1 hb9
   have hS9:∀o,cy F er (H5.set b9 o) s (v.expr a).1 ORD1 HELD1 m1 m2:=fun o=>hS5.mono fun c hc=>ae _ _ (by rintro rfl;exact hS5.mem hc hb9)
   have n9:¬df F s ORD1 HELD1 m1 m2 b9:=fun h=>hS5.mem h hb9
   simp only[go_sem,rE,rA,rL,g8.1,d89]
   refine cR ihb (hS9 _) rfl (.refl _) (fun h=>by simp at h) trivial ?_
   rintro q v2 ORD2 HELD2 H6 fp ⟨rfl,rfl⟩ hS6 hfr2 -
   have g4':=hfr2 b4 (.cells [NIL]) (by rw[ae _ _ d49];exact g5.1) g5.2
   have g9':=hfr2 b9 _ (ai _ _ _) n9
   have g8':=hfr2 b8 _ (by rw[ae _ _ d89];exact g8.1) g8.2
   by_cases hzb:((v.expr a).1.expr b).2.2=0
   ·have hty1:=iV a hv
    have hty2:=iV b (Sc.expr_good hv a)
    have hn1:=ol L.toLib (v.expr a).2.1
    have hn2:=ol L.toLib ((v.expr a).1.expr b).2.1
    have hpr:=(tF L 4).2 _ _ hty1 hty2
    have hpo:=oJ L.toLib (Ty.mk [(v.expr a).2.1,((v.expr a).1.expr b).2.1])
    rw[Ty.enc_eq]at hn1 hn2 hpo
    rw[Ty.enc_eq,Ty.enc_eq ((v.expr a).1.expr b).2.1,Ty.enc_eq (Ty.mk _)]at hpr
    simp only[hG,hzb,dh,Ty.enc_eq]
    simp only[go_sem,rE,rA,rL,a7,aB]
    intro b11 hb11
    have d4b:=al g4'.1 hb11
    have d8b:=al g8'.1 hb11
    have d9b:=al g9'.1 hb11
    simp only[go_sem,rE,rA,rL,g8'.1,d8b,a7,aB]
    have hSb:∀o,cy F er (H6.set b11 o) s ((v.expr a).1.expr b).1 ORD2 HELD2 m1 m2:=fun o=>hS6.mono fun c hc=>ae _ _ (by rintro rfl;exact hS6.mem hc hb11)
    have hSb4:∀o o',cy F er ((H6.set b11 o).set b4 o') s ((v.expr a).1.expr b).1 ORD2 HELD2 m1 m2:=fun o o'=>(hSb o).mono fun c hc=>ae _ _ (by rintro rfl;exact g4'.2 hc)
    have ge3:=hS6.e3
    have d3b:=al ge3 hb11
    have n4g:=nb_e3 g4'.2
    by_cases k6:ek=6
    ·have q6:(ek !=6)=false:=by simpa using k6
     have hx:v.expr (.mk ek en ep [a,b])=(((v.expr a).1.expr b).1,if(Ty.mk [(v.expr a).2.1,((v.expr a).1.expr b).2.1]).okB then(.mk [(v.expr a).2.1,((v.expr a).1.expr b).2.1],0)else(.mk [],3)):=by
      rw[Sc.expr_eq,if_neg k1,if_neg k2];simp only[hza,hzb,if_true,if_pos k6]
     rw[hx]
     simp only[q6,go_sem,rE,rA,rL,g9'.1,d9b]
     refine ao hpr rfl ?_
     simp only[go_sem,rE,rA,rL]
     intro b12 hb12
     have d4c:=al (H:=H6.set b11 _) (by rw[ae _ _ d4b];exact g4'.1) hb12
     have hSc:∀o o',cy F er ((H6.set b11 o).set b12 o') s ((v.expr a).1.expr b).1 ORD2 HELD2 m1 m2:=fun o o'=>(hSb o).mono fun c hc=>ae _ _ (by
      rintro rfl
      have:=(hSb (.cells [.sl 1 none (Ty.encs ((v.expr a).1.expr b).2.1.kids)])).mem hc
      exact this hb12)
     have hScb:∀o o' o'',cy F er (((H6.set b11 o).set b12 o').set b4 o'') s ((v.expr a).1.expr b).1 ORD2 HELD2 m1 m2:=fun o o' o''=>(hSc o o').mono fun c hc=>ae _ _ (by rintro rfl;exact g4'.2 hc)
     refine ao hpo rfl ?_
     cases hko:(Ty.mk [(v.expr a).2.1,((v.expr a).1.expr b).2.1]).okB
     ·simp only[go_sem,rE,rA,rL,ge3,d3b,al (H:=H6.set b11 _) (by rw[ae _ _ d3b];exact ge3) hb12,d4b,d4c,g4'.1]
      refine⟨by simp[n4g],?_⟩
      refine cv (off:=0) rfl (ai _ _ _) rfl ff (aj.sub_refl _) ⟨_,ORD2,HELD2,⟨?_,rfl⟩,hScb _ _ _⟩
      rw[bV er (by decide)];rfl
     ·simp only[go_sem,rE,rA,rL,d4b,d4c,g4'.1]
      refine cv (off:=0) rfl (ai _ _ _) rfl (.refl _) (aj.sub_refl _) ⟨_,ORD2,HELD2,⟨rfl,rfl⟩,hScb _ _ _⟩
    ·have q6:(ek !=6)=true:=by simpa using k6
     have hx:v.expr (.mk ek en ep [a,b])=(((v.expr a).1.expr b).1,(.mk [],if decide ((v.expr a).2.1.kids.length=0)&&decide (((v.expr a).1.expr b).2.1.kids.length=0)then 0 else 3)):=by
      rw[Sc.expr_eq,if_neg k1,if_neg k2];simp only[hza,hzb,if_true,if_neg k6]
     rw[hx]
     simp only[q6,go_sem,rE,rA,rL,g9'.1,d9b]
     refine ao hn1 rfl ?_
     cases hna:decide ((v.expr a).2.1.kids.length=0)
     ·simp only[go_sem,rE,rA,rL,ge3,d3b,d4b,g4'.1]
      refine⟨by simp[n4g],?_⟩
      refine cv (off:=0) rfl (ai _ _ _) rfl ff (aj.sub_refl _) ⟨_,ORD2,HELD2,⟨?_,rfl⟩,hSb4 _ _⟩
      first|rfl|(simp[bW.ac];done)
     ·simp only[go_sem,rE,rA,rL]
      refine ao hn2 rfl ?_
      cases hnb:decide (((v.expr a).1.expr b).2.1.kids.length=0)
      ·simp only[go_sem,rE,rA,rL,ge3,d3b,d4b,g4'.1]
       refine⟨by simp[n4g],?_⟩
       refine cv (off:=0) rfl (ai _ _ _) rfl ff (aj.sub_refl _) ⟨_,ORD2,HELD2,⟨?_,rfl⟩,hSb4 _ _⟩
       rw[bV er (by decide)];rfl
      ·simp only[go_sem,rE,rA,rL,d4b,g4'.1]
       refine cv (off:=0) rfl (ai _ _ _) rfl ff (aj.sub_refl _) ⟨_,ORD2,HELD2,⟨rfl,rfl⟩,hSb4 _ _⟩
   ·have hx:v.expr (.mk ek en ep [a,b])=(((v.expr a).1.expr b).1,(.mk [],((v.expr a).1.expr b).2.2)):=by rw[Sc.expr_eq,if_neg k1,if_neg k2];simp only[hza,hzb,if_true,if_false]
    have hac:er.ac ((v.expr a).1.expr b).2.2=.iface (er.t ((v.expr a).1.expr b).2.2) (er.x ((v.expr a).1.expr b).2.2):=by simp[bW.ac,hzb]
    simp only[hG,hac,Ty.enc_eq]
    simp only[go_sem,rE,rA,rL,a7,aB]
    intro b11 hb11
    have d4b:=al g4'.1 hb11
    simp only[go_sem,rE,rA,rL,g4'.1,d4b]
    refine cv (off:=0) rfl (ai _ _ _) rfl ff (aj.sub_refl _) ⟨_,ORD2,HELD2,⟨?_,by rw[hx]⟩,hS6.mono fun c hc=>?_⟩
    ·rw[hx,hac];rfl
    ·rw[ae _ _ (by rintro rfl;exact g4'.2 hc),ae _ _ (by rintro rfl;exact hS6.mem hc hb11)]
  ·have hx:v.expr (.mk ek en ep [a,b])=((v.expr a).1,(.mk [],(v.expr a).2.2)):=by rw[Sc.expr_eq,if_neg k1,if_neg k2];simp only[hza,if_false]
   have hac:er.ac (v.expr a).2.2=.iface (er.t (v.expr a).2.2) (er.x (v.expr a).2.2):=by simp[bW.ac,hza]
   simp only[hG,hac,Ty.enc_eq]
   simp only[go_sem,rE,rA,rL,a7,aB]
   intro b9 hb9
   have d49:=al g5.1 hb9
   simp only[go_sem,rE,rA,rL,g5.1,d49]
   refine cv (off:=0) rfl (ai _ _ _) rfl ff (aj.sub_refl _) ⟨_,ORD1,HELD1,⟨?_,by rw[hx]⟩,hS5.mono fun c hc=>?_⟩
   ·rw[hx,hac];rfl
   ·rw[ae _ _ (by rintro rfl;exact g5.2 hc),ae _ _ (by rintro rfl;exact hS5.mem hc hb9)]
end
theorem eB(v:Sc)(e:Ex):(v.number e).1=(v.expr e).1:=by
 simp only[Sc.number]
 split<;>rfl
noncomputable def gn(v:Sc)(n:ByteArray)(f:Fu):Sc×Int:=
 if v.lost then({v with held:=[],lost:=false},4)
 else eI {v with held:=[],lost:=false} ⟨n,f.lent,false,f.type,if f.lent then v.held else [],false⟩
section
variable {P:Program}{F:bS}{er:bW}
theorem uO(L:eC P F)(T:Tys F.toIds)(hC:eD P F er)(s:Nat)(d:Nat)(hd:d<=100)(e:Ex)(he:e.okD d=true)(v:Sc)(hv:v.good):
 ScC P F er F.k_number [.ptr s 0,.agg e.enc] s v fun q v'=>q=er.ac (v.number e).2/\v'=(v.number e).1:=by
 intro H ORD HELD m1 m2 hE
 have hex:=qK L T hC s d hd e he v hv
 refine L.k_number (by simp[py]) ?_
 rw[Ex.enc_eq]at hex⊢
 simp only[py,go_sem,rE,rA,rL]
 intro b3 hb3
 refine cR hex (hE.new hb3 _) rfl (.refl _) (fun h=>by simp at h) trivial ?_
 rintro q v1 ORD1 HELD1 H5 fp ⟨rfl,rfl⟩ hS5 hfr -
 simp only[hG,Ty.enc_eq]
 simp only[go_sem,rE,rA,rL,a7,aB]
 intro b5 hb5
 by_cases hz:(v.expr e).2.2=0
 ·have hn:=ol L.toLib (v.expr e).2.1
  rw[Ty.enc_eq]at hn
  have hx:v.number e=((v.expr e).1,if(v.expr e).2.1.kids.length=0 then 0 else 3):=by unfold Sc.number;simp only[hz,if_true]
  rw[hx,hz,dh]
  simp only[go_sem,rE,rA,rL]
  refine ao hn rfl ?_
  by_cases hk:(v.expr e).2.1.kids.length=0
  ·simp only[hk,decide_true,go_sem,rE,rA,rL,if_true]
   exact ak (.refl _) (aj.sub_refl _) ⟨_,ORD1,HELD1,⟨rfl,rfl⟩,hS5.new hb5 _⟩
  ·simp only[hk,decide_false,go_sem,rE,rA,rL,if_false,hS5.e3,al hS5.e3 hb5]
   exact ak (.refl _) (aj.sub_refl _) ⟨_,ORD1,HELD1,⟨by rw[bV er (by decide)];rfl,rfl⟩,hS5.new hb5 _⟩
 ·have hx:v.number e=((v.expr e).1,(v.expr e).2.2):=by unfold Sc.number;simp only[hz,if_false]
  rw[hx,bV er hz]
  simp only[go_sem,rE,rA,rL]
  exact ak (.refl _) (aj.sub_refl _) ⟨_,ORD1,HELD1,⟨rfl,rfl⟩,hS5.new hb5 _⟩
theorem cy.blk_s{H:aj}{s:Nat}{v:Sc}{ORD HELD:AC}{m1 m2:Nat}(h:cy F er H s v ORD HELD m1 m2):(s≠m1/\s≠m2)/\(∀b,cG ORD b->b≠s)/\∀b,cG HELD b->b≠s:=by
 refine⟨⟨?_,?_⟩,fun b hb=>?_,fun b hb=>?_⟩
 ·rintro rfl;have:=h.obj.symm.trans h.names;simp[ScO]at this
 ·rintro rfl;have:=h.obj.symm.trans h.given;simp[ScO]at this
 ·rintro rfl;obtain⟨n,m,e⟩:=h.ord.tok hb;have:=h.obj.symm.trans e;simp[ScO]at this
 ·rintro rfl;obtain⟨n,m,e⟩:=h.held.tok hb;have:=h.obj.symm.trans e;simp[ScO]at this
theorem cy.clear{H:aj}{s:Nat}{v:Sc}{ORD HELD:AC}{m1 m2:Nat}(h:cy F er H s v ORD HELD m1 m2):cy F er (H.set s (ScO v.p ORD NIL m1 m2 false)) s {v with held:=[],lost:=false} ORD NIL m1 m2 where
 obj:=ai _ _ _
 names:=(ae _ _ h.blk_s.1.1.symm).trans h.names
 given:=(ae _ _ h.blk_s.1.2.symm).trans h.given
 ord:=h.ord.mono fun b hb=>ae _ _ (h.blk_s.2.1 b hb)
 held:=.nil _ _
 apart:=fun b _ hb=>by obtain⟨_,_,_,_,e⟩:=hb;simp at e
 ne:=h.ne
 errs:=fun c hc=>(ae _ _ (Ne.symm (h.far c hc))).trans (h.errs c hc)
 far:=h.far
 hnil:=fun _=>rfl
 onil:=h.onil
theorem AO(L:eC P F)(s:Nat)(n:ByteArray)(f:Fu)(v:Sc)(hv:v.good):
 ScC P F er F.k_called [.ptr s 0,S n,.agg f.enc] s v fun q v'=>q=er.ac (gn v n f).2/\v'=(gn v n f).1:=by
 intro H ORD HELD m1 m2 hE
 refine L.k_called (by simp[pA]) ?_
 rw[Fu.enc_eq]
 simp only[pA,go_sem,rE,rA,rL]
 intro b5 hb5
 have d5s:=al hE.obj hb5
 have hS:=hE.new hb5
 have n5:=hE.notin hb5
 have ho:=hE.obj
 simp only[ScO]at ho
 simp only[go_sem,rE,rA,rL,ho,d5s]
 have hS1:=(hS (.cells [S f.name,.sl 3 none (f.params.map Pa.enc),B f.lent,.sl 1 none (Ty.encs f.type.kids),.sl 15 none (St.encs f.body),I f.says.kind,I f.says.num,S f.says.place.name,au f.says.place.path,.sl 5 none (Ex.encs f.says.kids),S f.gives.name,au f.gives.path])).clear
 simp only[ScO]at hS1
 have g5:((H.set b5 (.cells [S f.name,.sl 3 none (f.params.map Pa.enc),B f.lent,.sl 1 none (Ty.encs f.type.kids),.sl 15 none (St.encs f.body),I f.says.kind,I f.says.num,S f.says.place.name,au f.says.place.path,.sl 5 none (Ex.encs f.says.kids),S f.gives.name,au f.gives.path])).set s (.cells [.sl 12 none (v.p.map Fu.enc),ORD,.mp m1,.mp m2,NIL,B false,.lit .nilFunc])).get b5=some (.cells [S f.name,.sl 3 none (f.params.map Pa.enc),B f.lent,.sl 1 none (Ty.encs f.type.kids),.sl 15 none (St.encs f.body),I f.says.kind,I f.says.num,S f.says.place.name,au f.says.place.path,.sl 5 none (Ex.encs f.says.kids),S f.gives.name,au f.gives.path]):=by
  rw[ae _ _ (Ne.symm d5s),ai]
 have hheld:=hE.held
 have hone:=hheld.one
 clear hS hb5 n5 ho hE
 generalize((H.set b5 _).set s _)=H2 at*
 have ok2:Sc.ok {v with held:=[],lost:=false}:=hv.ok
 have ge4:=hS1.e4
 cases hlo:v.lost
 ·have hx:gn v n f=eI {v with held:=[],lost:=false} ⟨n,f.lent,false,f.type,if f.lent then v.held else [],false⟩:=by unfold gn;rw[hlo];rfl
  cases hfl:f.lent
  ·rw[hfl]at hx
   simp only[go_sem,rE,rA,rL,g5,hfl]
   refine cR (oH L s {v with held:=[],lost:=false} ok2 ⟨n,false,false,f.type,[],false⟩ rfl (by simp) hv.len) hS1 rfl ?_ (fun h=>by simp at h) trivial ?_
   ·exact⟨.refl _,.refl _,.agg ⟨⟨.refl _,rfl⟩,⟨.refl _,rfl⟩,⟨.refl _,rfl⟩,⟨.refl _,rfl⟩,⟨.refl _,rfl⟩,⟨.nil 2,rfl⟩,trivial⟩,trivial⟩
   rintro q v2 ORD2 HELD2 H3 fp ⟨rfl,rfl⟩ hS3 - -
   simp only[go_sem,rE,rA,rL]
   exact ak (.refl _) (aj.sub_refl _) ⟨_,ORD2,HELD2,⟨by rw[hx];rfl,by rw[hx];rfl⟩,hS3⟩
  ·rw[hfl]at hx
   simp only[go_sem,rE,rA,rL,g5,hfl,hone]
   refine cR (oH L s {v with held:=[],lost:=false} ok2 ⟨n,true,false,f.type,v.held,false⟩ rfl hv.hl hv.len) hS1 rfl ?_ (fun h=>by simp at h) trivial ?_
   ·exact⟨.refl _,.refl _,.agg ⟨⟨.refl _,rfl⟩,⟨.refl _,rfl⟩,⟨.refl _,rfl⟩,⟨.refl _,rfl⟩,⟨.refl _,rfl⟩,⟨hheld.le,rfl⟩,trivial⟩,trivial⟩
   rintro q v2 ORD2 HELD2 H3 fp ⟨rfl,rfl⟩ hS3 - -
   simp only[go_sem,rE,rA,rL]
   exact ak (.refl _) (aj.sub_refl _) ⟨_,ORD2,HELD2,⟨by rw[hx];rfl,by rw[hx];rfl⟩,hS3⟩
 ·have hx:gn v n f=({v with held:=[],lost:=false},4):=by unfold gn;rw[hlo];rfl
  simp only[go_sem,rE,rA,rL,ge4]
  exact ak (.refl _) (aj.sub_refl _) ⟨_,ORD,NIL,⟨by rw[hx];rfl,by rw[hx]⟩,hS1⟩
end
noncomputable def iU(v:Sc)(a:Ag)(p:Pa):Sc×Int:=
 if(a.lent !=p.lent)=true then(v,3)
 else if a.lent=true then({(v.use a.place).1 with held:=(v.use a.place).1.held++[a.place]},if(v.use a.place).2.2=0 then(if eqB (v.use a.place).2.1 p.type then 0 else 3)else(v.use a.place).2.2)
 else((v.expr a.expr).1,if(v.expr a.expr).2.2=0 then(if eqB (v.expr a.expr).2.1 p.type then 0 else 3)else(v.expr a.expr).2.2)
theorem oM(v:Sc)(a:Ag)(p:Pa):(iU v a p).1.vars.map Vr.core=v.vars.map Vr.core/\(iU v a p).1.given=v.given/\((iU v a p).1.held=v.held\/a.lent=true/\(iU v a p).1.held=v.held++[a.place])/\(iU v a p).1.p=v.p:=by
 unfold iU
 split
 ·exact⟨rfl,rfl,.inl rfl,rfl⟩
 ·split
  ·rename_i hl
   obtain⟨h1,h2,h3,h4⟩:=v.use_core a.place
   exact⟨h1,h2,.inr ⟨hl,by simp only[h3]⟩,h4⟩
  ·obtain⟨h1,h2,h3,h4⟩:=Sc.expr_core a.expr v
   exact⟨h1,h2,.inl h3,h4⟩
theorem uS{v:Sc}(h:v.good)(a:Ag)(p:Pa)(ha:a.okB=true)(hl:v.held.length+1<=2^30):(iU v a p).1.good:=by
 obtain⟨h1,h2,h3,h4⟩:=oM v a p
 have hc:(⟨v.p,(iU v a p).1.vars,v.given,v.held,v.lost⟩:Sc).good:=h.core h1 rfl rfl
 exact {
  ok:=by unfold Sc.ok;rw[h2];exact hc.ok
  nd:=hc.nd,len:=hc.len,lp:=hc.lp,ll:=hc.ll,ty:=hc.ty
  hl:=by
   rcases h3 with h3|⟨-,h3⟩
   ·rw[h3];exact h.hl
   ·rw[h3,bq];exact hl
  hp:=by
   rcases h3 with h3|⟨hlt,h3⟩
   ·rw[h3];exact h.hp
   ·rw[h3]
    intro x hx
    rcases aF.1 hx with hx|hx
    ·exact h.hp x hx
    ·rw[cn.1 hx]
     simp only[Ag.okB,hlt,if_true,aw,Pl.okB,gj,decide_eq_true_eq]at ha
     omega}
section
variable {P:Program}{F:bS}{er:bW}
theorem cy.hold{H H3:aj}{s:Nat}{v:Sc}{ORD HELD x':AC}{m1 m2:Nat}{pl:Pl}(h:cy F er H s v ORD HELD m1 m2)(hx':bR H3 2 (v.held.map Pl.enc++[pl.enc]) x')
(hkeep:∀c,H.get c≠none->¬cG HELD c->H3.get c=H.get c)(hnew:∀c,cG x' c->cG HELD c\/H.get c=none):
 cy F er (H3.set s (ScO v.p ORD x' m1 m2 v.lost)) s {v with held:=v.held++[pl]} ORD x' m1 m2/\H3.get s=some (ScO v.p ORD HELD m1 m2 v.lost):=by
 obtain⟨ho,h1,h2,h4,h5,h6,h7,h8,h9,h10,h11⟩:=id h
 have ntok:∀c,(∀n m,H.get c≠some (.tail n m))->¬cG HELD c:=fun c hc ht=>by obtain⟨n,m,e⟩:=h5.tok ht;exact hc n m e
 have keep:∀c o,H.get c=some o->(∀n m,o≠.tail n m)->H3.get c=some o:=fun c o hc hn=>by
  rw[hkeep c (by rw[hc];simp) (ntok c fun n m e=>hn n m (by rw[hc]at e;simpa using e))];exact hc
 have ko:=keep s _ ho (by simp[ScO])
 obtain⟨⟨s1,s2⟩,s3,s4⟩:=h.blk_s
 refine⟨⟨ai _ _ _,?_,?_,?_,?_,fun b hb1 hb2=>?_,h7,fun c hc=>?_,h9,fun h=>by simp at h,h11⟩,ko⟩
 ·rw[ae _ _ s1.symm];exact keep _ _ h1 (by simp)
 ·rw[ae _ _ s2.symm];exact keep _ _ h2 (by simp)
 ·refine h4.mono fun b hb=>?_
  obtain⟨n,m,e⟩:=h4.tok hb
  rw[ae _ _ (s3 b hb)]
  exact hkeep b (by rw[e];simp) (h6 b hb)
 ·have:(v.held++[pl]).map Pl.enc=v.held.map Pl.enc++[pl.enc]:=by simp
  show bR _ 2 ((v.held++[pl]).map Pl.enc) x'
  rw[this]
  refine hx'.mono fun b hb=>?_
  obtain⟨n,m,e⟩:=hx'.tok hb
  rw[ae _ _ (by rintro rfl;rw[ko]at e;simp[ScO]at e)]
 ·obtain⟨n,m,e⟩:=h4.tok hb1
  rcases hnew b hb2 with h|h
  ·exact h6 b hb1 h
  ·rw[h]at e;simp at e
 ·rw[ae _ _ (Ne.symm (h9 c hc))];exact keep _ _ (h8 c hc) (by simp)
def kg4(F:bS):aX:=.seq (.seq (rg [mv 0 42 8,pu 1 43 (.isNil false 42),mv 2 44 43,gl 3 45 44 true (some 1) 7,gp 4 46 44 true (.fieldAddr 2 5),gl 5 47 44 true (some 1) 46,⟨6,some 48,some (44,true),.eff (.call F.i_typeSame [45,47]),[]⟩,gp 7 49 44 true (.not 48),pu 8 50 (.pick 44 49 cf)]) (.cond 50 (.seq (rg [ld 0 51 none (.glob F.g_errCheckType),mv 1 6 51]) .ret) .skip)) (.seq (rg [mv 0 52 8,mv 1 6 52]) .ret)
theorem BM(L:eC P F){s:Nat}{v:Sc}{ORD HELD:AC}{m1 m2 b5 b7:Nat}{E:Env}{H:aj}{r:Ty×Int}{p:Pa}{R:AC->aj->Prop}(hE:cy F er H s v ORD HELD m1 m2)(e8:E 8=er.ac r.2)(e7:E 7=.ptr b7 0)(e5:E 5=.ptr b5 0)
(g7:H.get b7=some (.cells [.sl 1 none (Ty.encs r.1.kids)]))(g5:H.get b5=some (.cells [S p.name,B p.lent,.sl 1 none (Ty.encs p.type.kids)]))(hr:r.1.okB=true)
(hR:R (er.ac (if r.2=0 then(if eqB r.1 p.type then 0 else 3)else r.2)) H):(kg4 F).wp P (aD.post [.slot 6] R) E H:=by
 by_cases hz:r.2=0
 ·have hs:=mR L 4 r.1 p.type hr
  rw[Ty.enc_eq,Ty.enc_eq]at hs
  rw[if_pos hz]at hR
  rw[hz,dh]at e8
  simp only[kg4,go_sem,rE,rA,rL,e8,e7,e5,g7,g5]
  refine ao hs rfl ?_
  cases hq:eqB r.1 p.type
  ·rw[hq]at hR
   simp only[go_sem,rE,rA,rL,hE.e3]
   exact ak (.refl _) (aj.sub_refl _) (by rw[bV er (by decide)]at hR;exact hR)
  ·rw[hq]at hR
   simp only[go_sem,rE,rA,rL,e8]
   exact ak (.refl _) (aj.sub_refl _) hR
 ·rw[if_neg hz,bV er hz]at hR
  rw[bV er hz]at e8
  simp only[kg4,go_sem,rE,rA,rL,e8,e7,e5,g7,g5]
  exact ak (.refl _) (aj.sub_refl _) hR
theorem c_karg(L:eC P F)(T:Tys F.toIds)(hC:eD P F er)(s:Nat)(a:Ag)(p:Pa)(ha:a.okB=true)(v:Sc)(hv:v.good)(hh:v.held.length+1<=2^30):
 ScC P F er F.k_arg [.ptr s 0,.agg a.enc,.agg p.enc] s v fun q v'=>q=er.ac (iU v a p).2/\v'=(iU v a p).1:=by
 intro H ORD HELD m1 m2 hE
 refine L.k_arg (by simp[uY]) ?_
 rw[Ag.enc,Pa.enc,Ex.enc_eq,Ty.enc_eq]
 simp only[uY,go_sem,rE,rA,rL,Pl.enc,cB,dm]
 intro b4 hb4 b5 hb5
 have d45:=al (ai _ _ _) hb5
 have hS4:=hE.new hb4 (.cells [B a.lent,S a.place.name,au a.place.path,I a.expr.kind,I a.expr.num,S a.expr.place.name,au a.expr.place.path,.sl 5 none (Ex.encs a.expr.kids)])
 have hS5:=hS4.new hb5 (.cells [S p.name,B p.lent,.sl 1 none (Ty.encs p.type.kids)])
 have n4:=hE.notin hb4
 have n5:=hS4.notin hb5
 have g4:((H.set b4 (.cells [B a.lent,S a.place.name,au a.place.path,I a.expr.kind,I a.expr.num,S a.expr.place.name,au a.expr.place.path,.sl 5 none (Ex.encs a.expr.kids)])).set b5 (.cells [S p.name,B p.lent,.sl 1 none (Ty.encs p.type.kids)])).get b4=some (.cells [B a.lent,S a.place.name,au a.place.path,I a.expr.kind,I a.expr.num,S a.expr.place.name,au a.expr.place.path,.sl 5 none (Ex.encs a.expr.kids)]):=by
  rw[ae _ _ d45,ai]
 have g5:((H.set b4 (.cells [B a.lent,S a.place.name,au a.place.path,I a.expr.kind,I a.expr.num,S a.expr.place.name,au a.expr.place.path,.sl 5 none (Ex.encs a.expr.kids)])).set b5 (.cells [S p.name,B p.lent,.sl 1 none (Ty.encs p.type.kids)])).get b5=some (.cells [S p.name,B p.lent,.sl 1 none (Ty.encs p.type.kids)]):=ai _ _ _
 clear hb4 hb5 hS4 hE
 generalize((H.set b4 _).set b5 _)=H1 at*
 simp only[go_sem,rE,rA,rL,g4,g5,d45]
 generalize hkg:(aX.seq (.seq (rg [mv 0 42 8,_,_,_,_,_,_,_,_]) (.cond 50 _ .skip)) _)=KG
 have hkg':KG=kg4 F:=hkg.symm
 subst hkg'
 by_cases hne:(a.lent !=p.lent)=true
 ·have hx:iU v a p=(v,3):=by unfold iU;rw[if_pos hne]
  have hq:(a.lent==p.lent)=false:=by simpa using hne
  rw[hx]
  simp only[hq,go_sem,rE,rA,rL,hS5.e3]
  exact ak (.refl _) (aj.sub_refl _) ⟨_,ORD,HELD,⟨by rw[bV er (by decide)];rfl,rfl⟩,hS5⟩
 have hq:(a.lent==p.lent)=true:=by simpa using hne
 have hx:iU v a p=if a.lent=true then({(v.use a.place).1 with held:=(v.use a.place).1.held++[a.place]},if(v.use a.place).2.2=0 then(if eqB (v.use a.place).2.1 p.type then 0 else 3)else(v.use a.place).2.2)
  else((v.expr a.expr).1,if(v.expr a.expr).2.2=0 then(if eqB (v.expr a.expr).2.1 p.type then 0 else 3)else(v.expr a.expr).2.2):=by unfold iU;rw[if_neg hne]
 simp only[hq,go_sem,rE,rA,rL,Bool.not_true]
 intro b7 hb7
 have d47:=al g4 hb7
 have d57:=al g5 hb7
 have hS7:=hS5.new hb7 (.cells [NIL])
 have n7:=hS5.notin hb7
 have g7:(H1.set b7 (.cells [NIL])).get b7=some (.cells [NIL]):=ai _ _ _
 have g4':(H1.set b7 (.cells [NIL])).get b4=_:=(ae _ _ d47).trans g4
 have g5':(H1.set b7 (.cells [NIL])).get b5=_:=(ae _ _ d57).trans g5
 generalize H1.set b7 _=H2 at*
 by_cases hl:a.lent=true
 ·rw[if_pos hl]at hx
  have hpl:a.place.path.length<=2^30:=by
   simp only[Ag.okB,hl,if_true,aw,Pl.okB,gj,decide_eq_true_eq]at ha
   omega
  have hu:=qg L hC s v a.place hv hpl
  rw[Pl.enc]at hu
  simp only[go_sem,rE,rA,rL,g4',hl]
  refine cR hu hS7 rfl (.refl _) (fun h=>by simp at h) trivial ?_
  rintro q v1 ORD1 HELD1 H3 fp ⟨rfl,rfl⟩ hS3 hfr -
  have k4:=hfr b4 _ g4' n4
  have k5:=hfr b5 _ g5' n5
  have k7:=hfr b7 _ g7 n7
  have ho:=hS3.obj
  simp only[ScO]at ho
  have d7s:b7≠s:=fun e=>k7.2 (.inl e)
  have d74:b7≠b4:=Ne.symm d47
  simp only[hG,Ty.enc_eq]
  simp only[go_sem,rE,rA,rL,a7,aB,k7.1,k4.1,ho,d7s,d74,d47,Ne.symm d7s,ax,aq,az,cX,aV,bP,gE,ip,aC,if_true]
  have hS3':=hS3.put k7.2 (.cells [.sl 1 none (Ty.encs (v.use a.place).2.1.kids)])
  have hhl:(v.use a.place).1.held.length+1<=2^30:=by rw[(v.use_core a.place).2.2.1];exact hh
  refine eM (es:=(v.use a.place).1.held.map Pl.enc) (ys:=[a.place.enc]) (by simp only[go_sem,rE,rA,rL];exact hS3'.held) (by simp[go_sem,bh,Pl.enc]) (by simp[Pl.enc]) (by simp;omega) ?_
  intro x' H4 fp hx' hfp hkeep hnew
  simp only[go_sem,rE,rA,rL]at hkeep hnew
  obtain⟨hS4,ko⟩:=hS3'.hold hx' hkeep hnew
  simp only[ScO]at ko hS4
  simp only[go_sem,rE,rA,rL,ko,hx'.one]
  have ntok:∀c o,H3.get c=some o->¬df F s ORD1 HELD1 m1 m2 c->¬cG HELD1 c:=fun c o _ hn ht=>hn (.inr (.inr (.inr (.inr (.inl ht)))))
  have f7:H4.get b7=some (.cells [.sl 1 none (Ty.encs (v.use a.place).2.1.kids)]):=by
   rw[hkeep b7 (by rw[ai];simp) (ntok _ _ k7.1 k7.2),ai]
  have f5:H4.get b5=some (.cells [S p.name,B p.lent,.sl 1 none (Ty.encs p.type.kids)]):=by
   rw[hkeep b5 (by rw[ae _ _ d57,k5.1];simp) (ntok _ _ k5.1 k5.2),ae _ _ d57];exact k5.1
  exact BM L (r:=(v.use a.place).2) (p:=p) hS4 rfl rfl rfl (by rw[ae _ _ d7s];exact f7) (by rw[ae _ _ (fun e=>k5.2 (.inl e))];exact f5) (ja hv _) ⟨_,ORD1,x',⟨by rw[hx],by rw[hx]⟩,hS4⟩
 ·rw[if_neg hl]at hx
  have hf:a.lent=false:=by simpa using hl
  have hok:a.expr.okD 4=true:=by
   simp only[Ag.okB,hf,ap,if_false,aw]at ha
   exact ha.2
  have hu:=qK L T hC s 4 (by omega) a.expr hok v hv
  rw[Ex.enc_eq]at hu
  simp only[go_sem,rE,rA,rL,g4',hf]
  refine cR hu hS7 rfl (.refl _) (fun h=>by simp at h) trivial ?_
  rintro q v1 ORD1 HELD1 H3 fp ⟨rfl,rfl⟩ hS3 hfr -
  have k5:=hfr b5 _ g5' n5
  have k7:=hfr b7 _ g7 n7
  simp only[hG,Ty.enc_eq]
  simp only[go_sem,rE,rA,rL,a7,aB,k7.1]
  have dd:b5≠b7:=d57
  exact BM L (r:=(v.expr a.expr).2) (p:=p) (hS3.put k7.2 _) rfl rfl rfl (ai _ _ _) (by rw[ae _ _ dd];exact k5.1) (iV _ hv) ⟨_,ORD1,HELD1,⟨by rw[hx],by rw[hx]⟩,hS3.put k7.2 _⟩
end
noncomputable def dX(v:Sc):List Ag->List Pa->Sc×Int
 |a::as,p::ps=>if(iU v a p).2=0 then dX (iU v a p).1 as ps else iU v a p
 |_,_=>(v,0)
noncomputable def ie(v:Sc)(n fn:ByteArray)(as:List Ag):Sc×Int:=
 match v.p.find? (fun f=>eqB f.name fn)with
 |none=>(v,2)
 |some f=>if as.length=f.params.length then(if(dX v as f.params).2=0 then gn (dX v as f.params).1 n f else dX v as f.params)else(v,3)
theorem mT:∀(as:List Ag) (ps:List Pa) (v:Sc),(dX v as ps).1.vars.map Vr.core=v.vars.map Vr.core/\(dX v as ps).1.given=v.given/\(dX v as ps).1.held.length<=v.held.length+as.length/\(dX v as ps).1.p=v.p
 |[],_,v=>by simp[dX]
 |_::_,[],v=>by simp[dX]
 |a::as,p::ps,v=>by
  obtain⟨a1,a2,a3,a4⟩:=oM v a p
  have ah:(iU v a p).1.held.length<=v.held.length+1:=by rcases a3 with h|⟨-,h⟩<;>rw[h]<;>simp
  rw[dX]
  split
  ·obtain⟨b1,b2,b3,b4⟩:=mT as ps (iU v a p).1
   exact⟨b1.trans a1,b2.trans a2,by simp only[aV];omega,b4.trans a4⟩
  ·exact⟨a1,a2,by simp only[aV];omega,a4⟩
theorem tI:∀(as:List Ag) (ps:List Pa) {v:Sc},v.good->(∀a∈as,a.okB=true)->v.held.length+as.length<=2^30->(dX v as ps).1.good
 |[],_,v,h,_,_=>by simpa[dX]using h
 |_::_,[],v,h,_,_=>by simpa[dX]using h
 |a::as,p::ps,v,h,ha,hl=>by
  simp only[aV]at hl
  obtain⟨a1,a2,a3,a4⟩:=oM v a p
  have ah:(iU v a p).1.held.length<=v.held.length+1:=by rcases a3 with h|⟨-,h⟩<;>rw[h]<;>simp
  have g:=uS h a p (ha _ fI) (by omega)
  rw[dX]
  split
  ·exact tI as ps g (fun x hx=>ha x (dt _ hx)) (by omega)
  ·exact g
section
variable {P:Program}{F:bS}{er:bW}
theorem c_kcall(L:eC P F)(T:Tys F.toIds)(hC:eD P F er)(s:Nat)(n fn:ByteArray)(as:List Ag)(ha:∀a∈as,a.okB=true)(v:Sc)(hv:v.good)(hh:v.held.length+as.length<=2^30)(hp:v.p.length<=2^30)(hal:as.length<=2^20):
 ScC P F er F.k_call [.ptr s 0,.agg [S n,S fn,.sl 8 none (as.map Ag.enc)]] s v fun q v'=>q=er.ac (ie v n fn as).2/\v'=(ie v n fn as).1:=by
 intro H ORD HELD m1 m2 hE
 refine L.k_call (by simp[sD]) ?_
 simp only[sD,go_sem,rE,rA,rL]
 intro b3 hb3
 have hS3:=hE.new hb3 (.cells [S n,S fn,.sl 8 none (as.map Ag.enc)])
 have n3:=hE.notin hb3
 have g3:(H.set b3 (.cells [S n,S fn,.sl 8 none (as.map Ag.enc)])).get b3=some (.cells [S n,S fn,.sl 8 none (as.map Ag.enc)]):=ai _ _ _
 clear hE hb3
 generalize H.set b3 _=H1 at*
 refine cR (uP L s v fn hp) hS3 (by simp only[go_sem,rE,aS,bv]) (.refl _) (fun h=>by simp at h) trivial ?_
 rintro q v1 ORD1 HELD1 H2 fp ⟨rfl,rfl⟩ hS2 hfr -
 have k3:=hfr b3 _ g3 n3
 cases hf:v1.p.find? (fun f=>eqB f.name fn)with
 |none=>
  have hx:ie v1 n fn as=(v1,2):=by unfold ie;rw[hf]
  rw[hx]
  simp only[mQ,hf]
  simp only[go_sem,pV,rE,rA,rL,a7,aB]
  intro b5 hb5
  simp only[go_sem,rE,rA,rL,hS2.e2,al hS2.e2 hb5]
  exact ak (.refl _) (aj.sub_refl _) ⟨_,ORD1,HELD1,⟨by rw[bV er (by decide)];rfl,rfl⟩,hS2.new hb5 _⟩
 |some f=>
  simp only[mQ,hf,Fu.enc_eq]
  simp only[go_sem,pV,rE,rA,rL,a7,aB]
  intro b5 hb5
  have d35:=al k3.1 hb5
  have hS5:=hS2.new hb5 (.cells [S f.name,.sl 3 none (f.params.map Pa.enc),B f.lent,.sl 1 none (Ty.encs f.type.kids),.sl 15 none (St.encs f.body),I f.says.kind,I f.says.num,S f.says.place.name,au f.says.place.path,.sl 5 none (Ex.encs f.says.kids),S f.gives.name,au f.gives.path])
  have n5:=hS2.notin hb5
  have g5:(H2.set b5 (.cells [S f.name,.sl 3 none (f.params.map Pa.enc),B f.lent,.sl 1 none (Ty.encs f.type.kids),.sl 15 none (St.encs f.body),I f.says.kind,I f.says.num,S f.says.place.name,au f.says.place.path,.sl 5 none (Ex.encs f.says.kids),S f.gives.name,au f.gives.path])).get b5=some (.cells [S f.name,.sl 3 none (f.params.map Pa.enc),B f.lent,.sl 1 none (Ty.encs f.type.kids),.sl 15 none (St.encs f.body),I f.says.kind,I f.says.num,S f.says.place.name,au f.says.place.path,.sl 5 none (Ex.encs f.says.kids),S f.gives.name,au f.gives.path]):=ai _ _ _
  have g3':(H2.set b5 (.cells [S f.name,.sl 3 none (f.params.map Pa.enc),B f.lent,.sl 1 none (Ty.encs f.type.kids),.sl 15 none (St.encs f.body),I f.says.kind,I f.says.num,S f.says.place.name,au f.says.place.path,.sl 5 none (Ex.encs f.says.kids),S f.gives.name,au f.gives.path])).get b3=_:=(ae _ _ d35).trans k3.1
  have n3':=k3.2
  simp only[go_sem,rE,rA,rL,k3.1,d35,am]
  clear hb5 hS2 k3
  generalize H2.set b5 _=H3 at*
  by_cases hlen:as.length=f.params.length
  ·have hx:ie v1 n fn as=if(dX v1 as f.params).2=0 then gn (dX v1 as f.params).1 n f else dX v1 as f.params:=by unfold ie;rw[hf];simp only[hlen,if_true]
   have hne:((as.length:Int) !=(f.params.length:Int))=false:=by simp[hlen]
   simp only[hne,go_sem,rE,rA,rL,g3']
   refine aT as.length (fun k E' H'=>E' 0=.ptr s 0/\E' 3=.ptr b3 0/\E' 5=.ptr b5 0/\E' 29=.sl 8 none (as.map Ag.enc)/\E' 30=I as.length/\E' 31=I k/\
    ∃w ORD' HELD',cy F er H' s w ORD' HELD' m1 m2/\dX v1 as f.params=dX w (as.drop k) (f.params.drop k)/\w.good/\w.held.length<=v1.held.length+k/\
     (H'.get b3=some (.cells [S n,S fn,.sl 8 none (as.map Ag.enc)])/\¬df F s ORD' HELD' m1 m2 b3)/\
     (H'.get b5=some (.cells [S f.name,.sl 3 none (f.params.map Pa.enc),B f.lent,.sl 1 none (Ty.encs f.type.kids),.sl 15 none (St.encs f.body),I f.says.kind,I f.says.num,S f.says.place.name,au f.says.place.path,.sl 5 none (Ex.encs f.says.kids),S f.gives.name,au f.gives.path])/\¬df F s ORD' HELD' m1 m2 b5))
    ⟨rfl,rfl,rfl,rfl,by simp only[go_sem,rE,am],rfl,v1,ORD1,HELD1,hS5,rfl,hv,by omega,⟨g3',n3'⟩,⟨g5,n5⟩⟩ ?_
   rintro k E' H' hk ⟨q0,q3,q5,q29,q30,q31,w,ORD',HELD',hS,hgv,hw,hwl,⟨h3,m3⟩,⟨h5,m5⟩⟩
   simp only[go_sem,rE,rA,rL,q30,q31]
   refine aG (fun hlt=>?_) (fun hge=>?_)
   ·have hk1:k<as.length:=by omega
    have hk2:k<f.params.length:=by omega
    have w1:=aL (n:=(k:Int)+1) (by omega) (by omega)
    have hga:(as.map Ag.enc)[k]?=some [B as[k].lent,S as[k].place.name,au as[k].place.path,I as[k].expr.kind,I as[k].expr.num,S as[k].expr.place.name,au as[k].expr.place.path,.sl 5 none (Ex.encs as[k].expr.kids)]:=by simp[hk1,Ag.enc,Pl.enc,Ex.enc_eq]
    have hgp:(f.params.map Pa.enc)[k]?=some [S f.params[k].name,B f.params[k].lent,.sl 1 none (Ty.encs f.params[k].type.kids)]:=by simp[hk2,Pa.enc,Ty.enc_eq]
    rw[bU hk1,bU hk2,dX]at hgv
    have hka:=c_karg (er:=er) L T hC s as[k] f.params[k] (ha _ (ay hk1)) w hw (by omega)
    simp only[Ag.enc,Pa.enc,Ex.enc_eq,Ty.enc_eq,Pl.enc,cB,dm]at hka
    simp only[go_sem,rE,rA,rL,q0,q5,q29,q31,hga]
    intro b8 hb8
    have d58:=al h5 hb8
    have d38:=al h3 hb8
    simp only[go_sem,rE,rA,rL,q0,q5,h5,d58,Ne.symm d58,hgp]
    have hS8:=hS.new hb8 (.cells [B as[k].lent,S as[k].place.name,au as[k].place.path,I as[k].expr.kind,I as[k].expr.num,S as[k].expr.place.name,au as[k].expr.place.path,.sl 5 none (Ex.encs as[k].expr.kids)])
    refine cR hka hS8 rfl (.refl _) (fun _=>⟨_,_,rfl,rfl⟩) trivial ?_
    rintro q w2 ORD2 HELD2 H4 fp2 ⟨rfl,rfl⟩ hS4 hfr2 -
    have k3:=hfr2 b3 _ ((ae _ _ d38).trans h3) m3
    have k5:=hfr2 b5 _ ((ae _ _ d58).trans h5) m5
    by_cases hz:(iU w as[k] f.params[k]).2=0
    ·rw[if_pos hz]at hgv
     rw[hz,dh]
     have hc:=oM w as[k] f.params[k]
     have hg:=uS hw as[k] f.params[k] (ha _ (ay hk1)) (by omega)
     simp only[go_sem,rE,rA,rL,q0,q31,w1]
     refine⟨hk1,H4,aj.sub_refl _,q3,q5,q29,q30,rfl,_,ORD2,HELD2,hS4,hgv,hg,?_,k3,k5⟩
     rcases hc.2.2.1 with h|⟨-,h⟩
     ·rw[h];omega
     ·rw[h,bq,List.length_singleton];omega
    ·rw[if_neg hz]at hgv
     rw[bV er hz]
     simp only[go_sem,rE,rA,rL,q0,q31,w1]
     refine ak (.refl _) (aj.sub_refl _) ⟨_,ORD2,HELD2,⟨?_,rfl⟩,?_⟩
     ·rw[hx,hgv,if_neg hz,bV er hz];rfl
     ·rw[hx,hgv,if_neg hz];exact hS4
   ·have hkk:k=as.length:=by omega
    subst hkk
    have h00:dX w [] (f.params.drop as.length)=(w,0):=by simp[dX]
    rw[l8,h00]at hgv
    rw[hgv,if_pos rfl]at hx
    have hcd:=AO (er:=er) L s n f w hw
    rw[Fu.enc_eq]at hcd
    rw[hx]
    simp only[go_sem,rE,rA,rL,q0,q3,q5,h3,h5]
    refine cR hcd hS (by simp only[go_sem,rE,aS,bv,q0]) (.refl _) (fun h=>by simp at h) trivial ?_
    rintro q w2 ORD2 HELD2 H4 fp2 ⟨rfl,rfl⟩ hS4 - -
    simp only[go_sem,rE,rA,rL]
    exact ak (.refl _) (aj.sub_refl _) ⟨_,ORD2,HELD2,⟨rfl,rfl⟩,hS4⟩
  ·have hx:ie v1 n fn as=(v1,3):=by unfold ie;rw[hf];simp only[hlen,if_false]
   have hne:((as.length:Int) !=(f.params.length:Int))=true:=by simp;omega
   rw[hx]
   simp only[hne,go_sem,rE,rA,rL,hS5.e3]
   exact ak (.refl _) (aj.sub_refl _) ⟨_,ORD1,HELD1,⟨by rw[bV er (by decide)];rfl,rfl⟩,hS5⟩
end
def Sc.clear(v:Sc):Sc:={v with held:=[],lost:=false}
def Sc.hold1(v:Sc)(p:Pl):Sc:={v with held:=[p],lost:=false}
noncomputable def qz(t:Ty)(q:Sc×(Ty×Int))(n:ByteArray)(p o:Pl):Sc×Int:=
 if q.2.2=0 then if eqB t q.2.1 then if q.1.lost then(q.1.clear,4)else eI q.1.clear ⟨n,true,false,t,[p,o],false⟩else(q.1.clear,3)else(q.1.clear,q.2.2)
noncomputable def jh(v:Sc)(n:ByteArray)(p o:Pl):Sc×Int:=
 if(v.use p).2.2=0 then qz (v.use p).2.1 (((v.use p).1.hold1 p).use o) n p o else((v.use p).1,(v.use p).2.2)
noncomputable def iD(v:Sc)(n:ByteArray)(p o:Pl)(e:Ex):Sc×Int:=
 if(v.number e).2=0 then jh (v.number e).1 n p o else v.number e
theorem oT{v:Sc}(h:v.good):v.clear.good:=⟨h.ok,h.nd,h.len,by simp[Sc.clear],by simp[Sc.clear],h.lp,h.ll,h.ty⟩
theorem jB{v:Sc}(h:v.good){p:Pl}(hp:p.path.length<=2^30):(v.hold1 p).good:=⟨h.ok,h.nd,h.len,by simp[Sc.hold1],by simpa[Sc.hold1]using hp,h.lp,h.ll,h.ty⟩
section
variable {P:Program}{F:bS}{er:bW}
theorem cy.hold1{H:aj}{s:Nat}{v:Sc}{ORD HELD:AC}{m1 m2:Nat}(h:cy F er H s v ORD HELD m1 m2){b n m:Nat}(hb:H.get b=none)(p:Pl):
 cy F er ((H.set b (.tail n m)).set s (ScO v.p ORD (.sl 2 (some (b,n,m)) [p.enc]) m1 m2 false)) s (v.hold1 p) ORD (.sl 2 (some (b,n,m)) [p.enc]) m1 m2:=by
 have h1:=(h.new hb (.tail n m)).clear
 have hbs:b≠s:=by rintro rfl;rw[h.obj]at hb;simp at hb
 refine⟨ai _ _ _,?_,?_,?_,.inr ⟨b,n,m,rfl,by rw[ae _ _ hbs,ai]⟩,fun c hc hc2=>?_,h.ne,fun c hc=>?_,h.far,fun h=>by simp[Sc.hold1]at h,h.onil⟩
 ·rw[ae _ _ h.blk_s.1.1.symm];exact(h.new hb (.tail n m)).names
 ·rw[ae _ _ h.blk_s.1.2.symm];exact(h.new hb (.tail n m)).given
 ·exact(h.new hb (.tail n m)).ord.mono fun c hc=>ae _ _ (h.blk_s.2.1 c hc)
 ·obtain⟨_,_,_,_,e⟩:=hc2
  simp at e
  obtain⟨-,⟨rfl,-⟩,-⟩:=e
  exact h.mem (.inr (.inr (.inr (.inl hc)))) hb
 ·rw[ae _ _ (Ne.symm (h.far c hc))];exact(h.new hb (.tail n m)).errs c hc
theorem AM(L:eC P F)(hC:eD P F er)(s:Nat)(n:ByteArray)(p o:Pl)(e:Ex)(hp:p.path.length<=2^30)(ho:o.path.length<=2^30)(v:Sc)(hv:v.good):
 ScC P F er F.k_picked [.ptr s 0,.agg (S n::(p.enc++(o.enc++e.enc)))] s v fun q v'=>q=er.ac (jh v n p o).2/\v'=(jh v n p o).1:=by
 intro H ORD HELD m1 m2 hE
 refine L.k_picked (by simp[pt]) ?_
 rw[Ex.enc_eq]
 simp only[pt,go_sem,rE,rA,rL,Pl.enc,cB,dm]
 intro b3 hb3
 have hS3:=hE.new hb3 (.cells [S n,S p.name,au p.path,S o.name,au o.path,I e.kind,I e.num,S e.place.name,au e.place.path,.sl 5 none (Ex.encs e.kids)])
 have n3:=hE.notin hb3
 have g3:(H.set b3 (.cells [S n,S p.name,au p.path,S o.name,au o.path,I e.kind,I e.num,S e.place.name,au e.place.path,.sl 5 none (Ex.encs e.kids)])).get b3=some (.cells [S n,S p.name,au p.path,S o.name,au o.path,I e.kind,I e.num,S e.place.name,au e.place.path,.sl 5 none (Ex.encs e.kids)]):=ai _ _ _
 clear hE hb3
 generalize H.set b3 _=H1 at*
 have hu:=qg L hC s v p hv hp
 rw[Pl.enc]at hu
 refine cR hu hS3 rfl (.refl _) (fun h=>by simp at h) trivial ?_
 rintro q v1 ORD1 HELD1 H2 fp ⟨rfl,rfl⟩ hS2 hfr -
 have k3:=hfr b3 _ g3 n3
 have hv1:(v.use p).1.good:=lK hv p
 have hty:(v.use p).2.1.okB=true:=ja hv p
 have hpick:jh v n p o=if(v.use p).2.2=0 then qz (v.use p).2.1 (((v.use p).1.hold1 p).use o) n p o else((v.use p).1,(v.use p).2.2):=by unfold jh;rfl
 simp only[hG,Ty.enc_eq]
 generalize hrd:v.use p=r at*
 simp only[go_sem,rE,rA,rL,a7,aB]
 intro b5 hb5
 have d35:=al k3.1 hb5
 have hS5:=hS2.new hb5 (.cells [.sl 1 none (Ty.encs r.2.1.kids)])
 have n5:=hS2.notin hb5
 have g5:(H2.set b5 (.cells [.sl 1 none (Ty.encs r.2.1.kids)])).get b5=some (.cells [.sl 1 none (Ty.encs r.2.1.kids)]):=ai _ _ _
 have g3':(H2.set b5 (.cells [.sl 1 none (Ty.encs r.2.1.kids)])).get b3=_:=(ae _ _ d35).trans k3.1
 have n3':=k3.2
 clear hb5 hS2 k3
 generalize H2.set b5 _=H3 at*
 by_cases hz:r.2.2=0
 ·rw[if_pos hz]at hpick
  rw[hz,dh]
  have ho5:=hS5.obj
  simp only[ScO]at ho5
  simp only[go_sem,rE,rA,rL,g3',ho5,ax,aq,az,cX,aV,bP,gE,ip,aC,if_true]
  intro bt hbt
  have dts:=al ho5 hbt
  have hSt:=hS5.hold1 (n:=1*2) (m:=1*2) hbt p
  simp only[ScO]at hSt
  have d3t:=al g3' hbt
  have d5t:=al g5 hbt
  have d3s:b3≠s:=fun e=>n3' (.inl e)
  have d5s:b5≠s:=fun e=>n5 (.inl e)
  have nt:∀b,b≠bt->¬df F s ORD1 HELD1 m1 m2 b->¬df F s ORD1 (.sl 2 (some (bt,1*2,1*2)) [p.enc]) m1 m2 b:=by
   rintro b hb hn (h|h|h|h|h|h)
   ·exact hn (.inl h)
   ·exact hn (.inr (.inl h))
   ·exact hn (.inr (.inr (.inl h)))
   ·exact hn (.inr (.inr (.inr (.inl h))))
   ·obtain⟨_,_,_,_,e⟩:=h
    simp at e
    exact hb e.2.1.1.symm
   ·exact hn (.inr (.inr (.inr (.inr (.inr h)))))
  have hch:bh 2 1 [S p.name,au p.path]=[p.enc]:=by simp[bh,Pl.enc]
  simp only[go_sem,rE,rA,rL,ho5,dts,Ne.symm dts,d3t,d3s,g3',hch]
  have hu2:=qg L hC s (r.1.hold1 p) o (jB hv1 hp) ho
  rw[Pl.enc]at hu2
  refine cR hu2 hSt rfl (.refl _) (fun h=>by simp at h) trivial ?_
  rintro q v2 ORD2 HELD2 H6 fp2 ⟨rfl,rfl⟩ hS6 hfr2 -
  have k3:=hfr2 b3 _ (by rw[ae _ _ d3s,ae _ _ d3t];exact g3') (nt _ d3t n3')
  have k5:=hfr2 b5 _ (by rw[ae _ _ d5s,ae _ _ d5t];exact g5) (nt _ d5t n5)
  have hv2:((r.1.hold1 p).use o).1.good:=lK (jB hv1 hp) o
  have hty2:((r.1.hold1 p).use o).2.1.okB=true:=ja (jB hv1 hp) o
  simp only[hG,Ty.enc_eq]
  clear hfr2 hSt
  generalize(r.1.hold1 p).use o=w at*
  simp only[go_sem,rE,rA,rL,a7,aB]
  intro b7 hb7
  have d57:=al k5.1 hb7
  have d37:=al k3.1 hb7
  have d7s:s≠b7:=al hS6.obj hb7
  have hS7:=(hS6.new hb7 (.cells [.sl 1 none (Ty.encs w.2.1.kids)])).clear
  have ho6:=hS6.obj
  simp only[ScO]at ho6 hS7
  simp only[go_sem,rE,rA,rL,ho6,d7s,Ne.symm d7s]
  have g7:((H6.set b7 (.cells [.sl 1 none (Ty.encs w.2.1.kids)])).set s (.cells [.sl 12 none (w.1.p.map Fu.enc),ORD2,.mp m1,.mp m2,NIL,B false,.lit .nilFunc])).get b7=some (.cells [.sl 1 none (Ty.encs w.2.1.kids)]):=by
   rw[ae _ _ (Ne.symm d7s),ai]
  have g5':((H6.set b7 (.cells [.sl 1 none (Ty.encs w.2.1.kids)])).set s (.cells [.sl 12 none (w.1.p.map Fu.enc),ORD2,.mp m1,.mp m2,NIL,B false,.lit .nilFunc])).get b5=_:=(ae _ _ d5s).trans ((ae _ _ d57).trans k5.1)
  have g3'':((H6.set b7 (.cells [.sl 1 none (Ty.encs w.2.1.kids)])).set s (.cells [.sl 12 none (w.1.p.map Fu.enc),ORD2,.mp m1,.mp m2,NIL,B false,.lit .nilFunc])).get b3=_:=(ae _ _ d3s).trans ((ae _ _ d37).trans k3.1)
  clear hb7 hS6 ho6 k3 k5
  change cy F er _ s w.1.clear ORD2 NIL m1 m2 at hS7
  generalize((H6.set b7 _).set s _)=H8 at*
  rw[hpick,qz]
  by_cases hz2:w.2.2=0
  ·rw[if_pos hz2,hz2,dh]
   have hsm:=mR L 4 r.2.1 w.2.1 hty
   rw[Ty.enc_eq,Ty.enc_eq]at hsm
   simp only[go_sem,rE,rA,rL,g5',g7]
   refine ao hsm rfl ?_
   cases hq:eqB r.2.1 w.2.1
   ·simp only[go_sem,rE,rA,rL,hS7.e3,ap,if_false]
    exact ak (.refl _) (aj.sub_refl _) ⟨_,ORD2,NIL,⟨by rw[bV er (by decide)];rfl,rfl⟩,hS7⟩
   cases hlo:w.1.lost
   ·simp only[go_sem,rE,rA,rL,ap,if_false,if_true,g3'',g5',ax,aq,az,cX,aV,bP,gE,ip,aC,cB,dm,bq]
    intro b9 hb9
    have hch2:bh 2 2 [S p.name,au p.path,S o.name,au o.path]=[p.enc,o.enc]:=by simp[bh,Pl.enc]
    rw[hch2]
    refine cR (oH L s w.1.clear (oT hv2).ok ⟨n,true,false,r.2.1,[p,o],false⟩ rfl (by simp) hv2.len) (hS7.new hb9 _) rfl ?_ (fun h=>by simp at h) trivial ?_
    ·exact⟨.refl _,.refl _,.agg ⟨⟨.refl _,rfl⟩,⟨.refl _,rfl⟩,⟨.refl _,rfl⟩,⟨.refl _,rfl⟩,⟨.refl _,rfl⟩,⟨.tok _ _ _,rfl⟩,trivial⟩,trivial⟩
    rintro q v3 ORD3 HELD3 H9 fp3 ⟨rfl,rfl⟩ hS9 - -
    simp only[go_sem,rE,rA,rL]
    exact ak (.refl _) (aj.sub_refl _) ⟨_,ORD3,HELD3,⟨rfl,rfl⟩,hS9⟩
   ·simp only[go_sem,rE,rA,rL,hS7.e4,ap,if_false,if_true]
    exact ak (.refl _) (aj.sub_refl _) ⟨_,ORD2,NIL,⟨by rw[bV er (by decide)];rfl,rfl⟩,hS7⟩
  ·rw[if_neg hz2,bV er hz2]
   simp only[go_sem,rE,rA,rL]
   exact ak (.refl _) (aj.sub_refl _) ⟨_,ORD2,NIL,⟨rfl,rfl⟩,hS7⟩
 ·rw[if_neg hz]at hpick
  rw[bV er hz,hpick]
  simp only[go_sem,rE,rA,rL]
  exact ak (.refl _) (aj.sub_refl _) ⟨_,ORD1,HELD1,⟨by rw[bV er hz];rfl,rfl⟩,hS5⟩
theorem c_kpick(L:eC P F)(T:Tys F.toIds)(hC:eD P F er)(s:Nat)(n:ByteArray)(p o:Pl)(e:Ex)(hp:p.path.length<=2^30)(ho:o.path.length<=2^30)(d:Nat)(hd:d<=100)(he:e.okD d=true)(v:Sc)(hv:v.good):
 ScC P F er F.k_pick [.ptr s 0,.agg (S n::(p.enc++(o.enc++e.enc)))] s v fun q v'=>q=er.ac (iD v n p o e).2/\v'=(iD v n p o e).1:=by
 intro H ORD HELD m1 m2 hE
 refine L.k_pick (by simp[s8]) ?_
 have hn:=uO (er:=er) L T hC s d hd e he v hv
 have hvn:(v.number e).1.good:=by rw[eB];exact Sc.expr_good hv e
 have hpk:=AM (er:=er) L hC s n p o e hp ho (v.number e).1 hvn
 rw[Ex.enc_eq]at hn hpk⊢
 simp only[Pl.enc,cB,dm]at hpk
 simp only[s8,go_sem,rE,rA,rL,Pl.enc,cB,dm]
 intro b3 hb3
 have hS3:=hE.new hb3 (.cells [S n,S p.name,au p.path,S o.name,au o.path,I e.kind,I e.num,S e.place.name,au e.place.path,.sl 5 none (Ex.encs e.kids)])
 have n3:=hE.notin hb3
 have g3:(H.set b3 (.cells [S n,S p.name,au p.path,S o.name,au o.path,I e.kind,I e.num,S e.place.name,au e.place.path,.sl 5 none (Ex.encs e.kids)])).get b3=some (.cells [S n,S p.name,au p.path,S o.name,au o.path,I e.kind,I e.num,S e.place.name,au e.place.path,.sl 5 none (Ex.encs e.kids)]):=ai _ _ _
 clear hE hb3
 generalize H.set b3 _=H1 at*
 refine cR hn hS3 rfl (.refl _) (fun h=>by simp at h) trivial ?_
 rintro q v1 ORD1 HELD1 H2 fp ⟨rfl,rfl⟩ hS2 hfr -
 have k3:=hfr b3 _ g3 n3
 by_cases hz:(v.number e).2=0
 ·have hx:iD v n p o e=jh (v.number e).1 n p o:=by unfold iD;rw[if_pos hz]
  rw[hx,hz,dh]
  simp only[go_sem,rE,rA,rL,k3.1]
  refine cR hpk hS2 (by simp only[go_sem,rE,aS,bv]) (.refl _) (fun h=>by simp at h) trivial ?_
  rintro q v2 ORD2 HELD2 H4 fp2 ⟨rfl,rfl⟩ hS4 - -
  simp only[go_sem,rE,rA,rL]
  exact ak (.refl _) (aj.sub_refl _) ⟨_,ORD2,HELD2,⟨rfl,rfl⟩,hS4⟩
 ·have hx:iD v n p o e=v.number e:=by unfold iD;rw[if_neg hz]
  rw[hx,bV er hz]
  simp only[go_sem,rE,rA,rL,k3.1]
  exact ak (.refl _) (aj.sub_refl _) ⟨_,ORD1,HELD1,⟨rfl,rfl⟩,hS2⟩
end
noncomputable def sc(v:Sc)(f:Fu):Sc×(Ty×Int):=if f.lent then v.use f.gives else v.expr f.says
noncomputable def vk(r:Sc×(Ty×Int))(f:Fu):Int:=
 if r.2.2=0 then if eqB r.2.1 f.type then if(f.lent&&!fC r.1.vars f.gives.name)=true then 5 else 0 else 3 else r.2.2
section
variable {P:Program}{F:bS}{er:bW}
def ko2(F:bS):aX:=.seq (.seq (rg [mv 0 23 6,pu 1 24 (.isNil true 23)]) (.cond 24 (.seq (rg [mv 0 25 6,mv 1 4 25]) .ret) .skip)) (.seq (.seq (rg [ld 0 26 (some 1) 5,fa 1 27 3 3,ld 2 28 (some 1) 27,ca 3 29 F.i_typeSame [26,28],pu 4 30 (.not 29)]) (.cond 30 (.seq (rg [ld 0 31 none (.glob F.g_errCheckType),mv 1 4 31]) .ret) .skip)) (.seq (.seq (.region true [fa 0 32 2 3,ld 1 33 none 32,mv 2 34 33,gp 3 35 34 true (.move 0),gp 4 36 34 true (.nilCheck 35),gp 5 37 34 true (.fieldAddr 2 36),gl 6 38 34 true none 37,gp 7 39 34 true (.fieldAddr 10 3),gp 8 40 34 true (.fieldAddr 0 39),gl 9 41 34 true none 40,⟨10,some 42,some (34,true),.eff (.callX (.lookup (.agg [.lit (.slice none 0 0),.lit (.bool false),.lit (.bool false),.lit (.bool false),.lit (.bool false),.lit (.slice none 0 0)]) false) [38,41]),[]⟩,gp 11 43 34 true (.field 4 none 42),gp 12 44 34 true (.not 43),pu 13 45 (.pick 34 44 cf)]) (.cond 45 (.seq (rg [ld 0 46 none (.glob F.g_errCheckOut),mv 1 4 46]) .ret) .skip)) (.seq (rg [mv 0 4 (.const .nilIface)]) .ret)))
theorem BL(L:eC P F){s:Nat}{r:Sc×(Ty×Int)}{ORD HELD:AC}{m1 m2 b3 b5:Nat}{E:Env}{H:aj}{f:Fu}{R:AC->aj->Prop}(hE:cy F er H s r.1 ORD HELD m1 m2)(e6:E 6=er.ac r.2.2)(e5:E 5=.ptr b5 0)(e3:E 3=.ptr b3 0)(e0:E 0=.ptr s 0)
(g5:H.get b5=some (.cells [.sl 1 none (Ty.encs r.2.1.kids)]))(g3:H.get b3=some (.cells f.enc))(hr:r.2.1.okB=true)
(hR:R (er.ac (vk r f)) H):(ko2 F).wp P (aD.post [.slot 4] R) E H:=by
 rw[Fu.enc_eq]at g3
 unfold vk at hR
 by_cases hz:r.2.2=0
 ·have hs:=mR L 4 r.2.1 f.type hr
  rw[Ty.enc_eq,Ty.enc_eq]at hs
  rw[if_pos hz]at hR
  rw[hz,dh]at e6
  simp only[ko2,go_sem,rE,rA,rL,e6,e5,e3,g5,g3]
  refine ao hs rfl ?_
  cases hq:eqB r.2.1 f.type
  ·rw[hq]at hR
   simp only[ap,if_false]at hR
   simp only[go_sem,rE,rA,rL,hE.e3]
   exact ak (.refl _) (aj.sub_refl _) (by rw[bV er (by decide)]at hR;exact hR)
  ·rw[hq,if_pos rfl]at hR
   have ho:=hE.obj
   simp only[ScO]at ho
   cases hl:f.lent
   ·simp only[go_sem,rE,rA,rL,e0,e3,g3,hl,ho]
    simp only[hl,aK,ap,if_false]at hR
    exact ak (.refl _) (aj.sub_refl _) hR
   ·simp only[go_sem,rE,rA,rL,e0,e3,g3,hl,ho]
    refine fG (k:=f.gives.name) (g:=cU r.1.vars) rfl hE.names trivial ?_
    obtain⟨x1,x2,x3,x4,x5,hlk⟩:=wS r.1.vars f.gives.name
    rw[hlk]
    simp only[go_sem,rE,rA,rL,a7,aB]
    cases ho:fC r.1.vars f.gives.name
    ·simp only[hl,ho,Bool.not_false,fP,if_true]at hR
     simp only[go_sem,rE,rA,rL,hE.e5]
     exact ak (.refl _) (aj.sub_refl _) (by rw[bV er (by decide)]at hR;exact hR)
    ·simp only[hl,ho,Bool.not_true,aO,ap,if_false]at hR
     simp only[go_sem,rE,rA,rL]
     exact ak (.refl _) (aj.sub_refl _) hR
 ·rw[if_neg hz,bV er hz]at hR
  rw[bV er hz]at e6
  simp only[ko2,go_sem,rE,rA,rL,e6,e5,e3,g5,g3]
  exact ak (.refl _) (aj.sub_refl _) hR
theorem c_kout(L:eC P F)(T:Tys F.toIds)(hC:eD P F er)(s:Nat)(f:Fu)(hf:if f.lent then f.gives.path.length<=2^30 else f.says.okD 4=true)(v:Sc)(hv:v.good):
 ScC P F er F.k_out [.ptr s 0,.agg f.enc] s v fun q v'=>q=er.ac (vk (sc v f) f)/\v'=(sc v f).1:=by
 intro H ORD HELD m1 m2 hE
 refine L.k_out (by simp[uW]) ?_
 have hfe:=Fu.enc_eq f
 rw[hfe]
 simp only[uW,go_sem,rE,rA,rL]
 intro b3 hb3 b5 hb5
 rw[<-hfe]at hb5⊢
 have d35:=al (ai _ _ _) hb5
 have hS3:=hE.new hb3 (.cells f.enc)
 have hS5:=hS3.new hb5 (.cells [NIL])
 have n3:=hE.notin hb3
 have n5:=hS3.notin hb5
 have g3:((H.set b3 (.cells f.enc)).set b5 (.cells [NIL])).get b3=some (.cells f.enc):=by rw[ae _ _ d35,ai]
 have g5:((H.set b3 (.cells f.enc)).set b5 (.cells [NIL])).get b5=some (.cells [NIL]):=ai _ _ _
 clear hb3 hb5 hS3 hE
 generalize(H.set b3 _).set b5 _=H1 at*
 generalize hkg:(aX.seq (.seq (rg [mv 0 23 6,_]) (.cond 24 _ .skip)) _)=KG
 have hkg':KG=ko2 F:=hkg.symm
 subst hkg'
 have g3o:=g3
 rw[hfe]at g3
 cases hl:f.lent
 ·rw[hl]at hf
  simp only[ap,if_false]at hf
  have hx:sc v f=v.expr f.says:=by unfold sc;rw[hl];rfl
  rw[hx]
  have hu:=qK (er:=er) L T hC s 4 (by omega) f.says hf v hv
  rw[Ex.enc_eq]at hu
  simp only[go_sem,rE,rA,rL,g3,hl]
  refine cR hu hS5 rfl (.refl _) (fun h=>by simp at h) trivial ?_
  rintro q v1 ORD1 HELD1 H3 fp ⟨rfl,rfl⟩ hS3 hfr -
  have k3:=hfr b3 _ g3o n3
  have k5:=hfr b5 _ g5 n5
  simp only[hG,Ty.enc_eq]
  simp only[go_sem,rE,rA,rL,a7,aB,k5.1]
  exact BL L (r:=v.expr f.says) (f:=f) (hS3.put k5.2 _) rfl rfl rfl rfl (ai _ _ _) (by rw[ae _ _ d35];exact k3.1) (iV _ hv) ⟨_,ORD1,HELD1,⟨rfl,rfl⟩,hS3.put k5.2 _⟩
 ·rw[hl]at hf
  simp only[if_true]at hf
  have hx:sc v f=v.use f.gives:=by unfold sc;rw[hl];rfl
  rw[hx]
  have hu:=qg L hC s v f.gives hv hf
  rw[Pl.enc]at hu
  simp only[go_sem,rE,rA,rL,g3,hl]
  refine cR hu hS5 rfl (.refl _) (fun h=>by simp at h) trivial ?_
  rintro q v1 ORD1 HELD1 H3 fp ⟨rfl,rfl⟩ hS3 hfr -
  have k3:=hfr b3 _ g3o n3
  have k5:=hfr b5 _ g5 n5
  simp only[hG,Ty.enc_eq]
  simp only[go_sem,rE,rA,rL,a7,aB,k5.1]
  exact BL L (r:=v.use f.gives) (f:=f) (hS3.put k5.2 _) rfl rfl rfl rfl (ai _ _ _) (by rw[ae _ _ d35];exact k3.1) (ja hv _) ⟨_,ORD1,HELD1,⟨rfl,rfl⟩,hS3.put k5.2 _⟩
end
noncomputable def nJ(v:Sc)(a:Sc×Int)(b:Sc->Sc×Int):Sc×Int:=
 if a.2=0 then
  if(b {v with given:=a.1.given}).2=0 then({v with vars:=gC v.vars (v.vars.map (·.name)) [a.1.vars,(b {v with given:=a.1.given}).1.vars],given:=(b {v with given:=a.1.given}).1.given},0)
  else({v with given:=(b {v with given:=a.1.given}).1.given},(b {v with given:=a.1.given}).2)
 else({v with given:=a.1.given},a.2)
mutual
noncomputable def Sc.stmt (v:Sc):St->Sc×Int
 |.mk k n p o e f as t l=>
  if k=1 then if(v.expr e).2.2=0 then eI (v.expr e).1 ⟨n,false,false,(v.expr e).2.1,[],false⟩else((v.expr e).1,(v.expr e).2.2)
  else if k=2 then if(v.use p).2.2=0 then eI (v.use p).1 ⟨n,true,false,(v.use p).2.1,[p],false⟩else((v.use p).1,(v.use p).2.2)
  else if k=3 then if(v.expr e).2.2=0 then(((v.expr e).1.use p).1,if((v.expr e).1.use p).2.2=0 then(if eqB (v.expr e).2.1 ((v.expr e).1.use p).2.1 then 0 else 3)else((v.expr e).1.use p).2.2)else((v.expr e).1,(v.expr e).2.2)
  else if k=4 then ie v n f as
  else if k=6 then iD v n p o e
  else if(v.number e).2=0 then
   if((v.number e).1.stmts t).2=0 then
    if(({(v.number e).1 with given:=((v.number e).1.stmts t).1.given}:Sc).stmts l).2=0 then({(v.number e).1 with vars:=gC (v.number e).1.vars ((v.number e).1.vars.map (·.name)) [((v.number e).1.stmts t).1.vars,(({(v.number e).1 with given:=((v.number e).1.stmts t).1.given}:Sc).stmts l).1.vars],given:=(({(v.number e).1 with given:=((v.number e).1.stmts t).1.given}:Sc).stmts l).1.given},0)
    else({(v.number e).1 with given:=(({(v.number e).1 with given:=((v.number e).1.stmts t).1.given}:Sc).stmts l).1.given},(({(v.number e).1 with given:=((v.number e).1.stmts t).1.given}:Sc).stmts l).2)
   else({(v.number e).1 with given:=((v.number e).1.stmts t).1.given},((v.number e).1.stmts t).2)
  else v.number e
termination_by x=>SizeOf.sizeOf x
noncomputable def Sc.stmts (v:Sc):List St->Sc×Int
 |[]=>(v,0)
 |s::l=>if(v.stmt s).2=0 then(v.stmt s).1.stmts l else v.stmt s
termination_by x=>SizeOf.sizeOf x
end
noncomputable def Sc.ways(v:Sc)(t l:List St):Sc×Int:=nJ v (v.stmts t) fun w=>w.stmts l
theorem Sc.stmt_eq(v:Sc)(s:St):v.stmt s=if s.kind=1 then if(v.expr s.expr).2.2=0 then eI (v.expr s.expr).1 ⟨s.name,false,false,(v.expr s.expr).2.1,[],false⟩else((v.expr s.expr).1,(v.expr s.expr).2.2)
 else if s.kind=2 then if(v.use s.place).2.2=0 then eI (v.use s.place).1 ⟨s.name,true,false,(v.use s.place).2.1,[s.place],false⟩else((v.use s.place).1,(v.use s.place).2.2)
 else if s.kind=3 then if(v.expr s.expr).2.2=0 then(((v.expr s.expr).1.use s.place).1,if((v.expr s.expr).1.use s.place).2.2=0 then(if eqB (v.expr s.expr).2.1 ((v.expr s.expr).1.use s.place).2.1 then 0 else 3)else((v.expr s.expr).1.use s.place).2.2)else((v.expr s.expr).1,(v.expr s.expr).2.2)
 else if s.kind=4 then ie v s.name s.fn s.args
 else if s.kind=6 then iD v s.name s.place s.other s.expr
 else if(v.number s.expr).2=0 then(v.number s.expr).1.ways s.thn s.els else v.number s.expr:=by
 obtain⟨k,n,p,o,e,f,as,t,l⟩:=s
 rw[Sc.stmt.eq_def];rfl
theorem eA(v:Sc):v.stmts []=(v,0):=by rw[Sc.stmts.eq_def]
theorem dG(v:Sc)(s:St)(l:List St):v.stmts (s::l)=if(v.stmt s).2=0 then(v.stmt s).1.stmts l else v.stmt s:=by rw[Sc.stmts.eq_def]
structure Sc.step(v w:Sc)(n:Nat):Prop where
 p:w.p=v.p
 good:w.good
 held:w.held=[]
 lost:w.lost=v.lost
 hi:w.vars.length<=v.vars.length+n
 lo:v.vars.length<=w.vars.length
 pre:(w.vars.take v.vars.length).map Vr.core=v.vars.map Vr.core
 giv:∃g,w.given=v.given++g
theorem Sc.step.refl{v:Sc}(h:v.good)(hh:v.held=[]):v.step v 0:=⟨rfl,h,hh,rfl,aC _,aC _,by rw[aU],[],by simp⟩
theorem Sc.step.mono{v w:Sc}{n m:Nat}(h:v.step w n)(hm:n<=m):v.step w m:=⟨h.p,h.good,h.held,h.lost,by have:=h.hi;omega,h.lo,h.pre,h.giv⟩
theorem Sc.step.trans{u v w:Sc}{n m:Nat}(h:u.step v n)(h':v.step w m):u.step w (n+m):=by
 refine⟨h'.p.trans h.p,h'.good,h'.held,h'.lost.trans h.lost,by have:=h.hi;have:=h'.hi;omega,bZ h.lo h'.lo,?_,?_⟩
 ·rw[<-h.pre]
  have e:=h'.pre
  have:w.vars.take u.vars.length=(w.vars.take v.vars.length).take u.vars.length:=by rw[List.take_take,eE h.lo]
  rw[this,gU,e,<-gU]
 ·obtain⟨g,hg⟩:=h.giv
  obtain⟨g',hg'⟩:=h'.giv
  exact⟨g++g',by rw[hg',hg,dY]⟩
theorem Sc.step.of_core{v w:Sc}(h:v.good)(hh:v.held=[])(hc:w.vars.map Vr.core=v.vars.map Vr.core)(hg:w.given=v.given)(hd:w.held=v.held)(hp:w.p=v.p)(hl:w.lost=v.lost):v.step w 0:=
 ⟨hp,h.core hc hg hd,hd.trans hh,hl,by rw[gD hc];omega,by rw[gD hc];omega,by rw[<-gD hc,aU];exact hc,[],by simp[hg]⟩
theorem ow{v:Sc}(h:v.good)(hh:v.held=[])(p:Pl):v.step (v.use p).1 0:=
 .of_core h hh (v.use_core p).1 (v.use_core p).2.1 (v.use_core p).2.2.1 (v.use_core p).2.2.2 (by unfold Sc.use;split<;>simp[hh])
theorem mV:∀(e:Ex) (v:Sc),v.held=[]->(v.expr e).1.lost=v.lost
 |.mk k n p ks,v,hh=>by
  rw[Sc.expr_eq]
  split
  ·rfl
  ·split
   ·unfold Sc.use;split<;>simp[hh]
   ·split
    ·rename_i a b l
     have ha:=mV a v hh
     have hb:=mV b (v.expr a).1 ((Sc.expr_core a v).2.2.1.trans hh)
     split
     ·split
      ·split
       ·exact hb.trans ha
       ·exact hb.trans ha
      ·exact hb.trans ha
     ·exact ha
    ·rfl
termination_by e=>SizeOf.sizeOf e
theorem kl{v:Sc}(h:v.good)(hh:v.held=[])(e:Ex):v.step (v.expr e).1 0:=
 .of_core h hh (Sc.expr_core e v).1 (Sc.expr_core e v).2.1 (Sc.expr_core e v).2.2.1 (Sc.expr_core e v).2.2.2 (mV e v hh)
theorem rQ{v:Sc}(h:v.ok){n:ByteArray}(hn:(v.given.any fun m=>eqB m n)=false):n∉v.vars.map (·.name):=by
 intro hm
 obtain⟨x,hx⟩:=rq hm
 rw[h.fresh hn]at hx
 simp at hx
theorem ls{v:Sc}(h:v.good)(hh:v.held=[]){x:Vr}(ht:x.type.okB=true)(hl:x.loans.length<=2^30)(hp:∀q∈x.loans,q.path.length<=2^30)(hn:v.vars.length+1<=2^30)(hz:(eI v x).2=0):v.step (eI v x).1 1:=by
 have hok:=tw h.ok x
 unfold eI at hz hok⊢
 split at hz
 ·simp at hz
 rename_i hg
 rw[if_neg hg]at hok⊢
 refine⟨rfl,⟨hok,?_,by simp;omega,h.hl,h.hp,?_,?_,?_⟩,hh,rfl,by simp,by simp,by simp,[x.name],rfl⟩
 ·simp only[bB,aS,bv]
  rw[fZ]
  refine⟨h.nd,by simp,?_⟩
  intro a ha b hb
  simp at hb
  subst hb
  rintro rfl
  exact rQ h.ok (by simpa using hg) ha
 ·intro y hy
  rcases aF.1 hy with hy|hy
  ·exact h.lp y hy
  ·rw[cn.1 hy];exact hp
 ·intro y hy
  rcases aF.1 hy with hy|hy
  ·exact h.ll y hy
  ·rw[cn.1 hy];exact hl
 ·intro y hy
  rcases aF.1 hy with hy|hy
  ·exact h.ty y hy
  ·rw[cn.1 hy];exact ht
theorem y6(vs:List Vr)(n:ByteArray)(ws:List (List Vr)):(jI vs n ws).map Vr.core=vs.map Vr.core:=by
 unfold jI
 induction ws generalizing vs with
 |nil=>rfl
 |cons w ws ihw=>
  rw[dC,ihw]
  split
  ·exact uC _ _
  ·rfl
theorem pR(vs:List Vr)(ns:List ByteArray)(ws:List (List Vr)):(gC vs ns ws).map Vr.core=vs.map Vr.core:=by
 unfold gC
 induction ns generalizing vs with
 |nil=>rfl
 |cons n ns ih=>rw[dC,ih,y6]
theorem vJ{v:Sc}(h:v.good){n:ByteArray}{f:Fu}(hf:f.type.okB=true)(hn:v.vars.length+1<=2^30)(hz:(gn v n f).2=0):v.lost=false/\v.clear.step (gn v n f).1 1:=by
 unfold gn at hz⊢
 split at hz
 ·simp at hz
 rename_i hl
 rw[if_neg hl]
 refine⟨by simpa using hl,ls (v:=v.clear) (oT h) rfl (x:=⟨n,f.lent,false,f.type,if f.lent then v.held else [],false⟩) hf ?_ ?_ hn hz⟩
 ·simp only;split
  ·exact h.hl
  ·simp
 ·simp only;split
  ·exact h.hp
  ·simp
theorem yN{v:Sc}(h:v.good)(hh:v.held=[])(hlo:v.lost=false){n fn:ByteArray}{as:List Ag}(ha:∀a∈as,a.okB=true)(hal:as.length<=2^20)(hp:∀f∈v.p,f.type.okB=true)(hn:v.vars.length+1<=2^30)(hz:(ie v n fn as).2=0):v.step (ie v n fn as).1 1:=by
 unfold ie at hz⊢
 split at hz
 ·simp at hz
 rename_i f hf
 split at hz
 ·rename_i hl
  rw[if_pos hl]
  split at hz
  ·rename_i h0
   rw[if_pos h0]
   obtain⟨c1,c2,c3,c4⟩:=mT as f.params v
   have g:=tI as f.params h ha (by rw[hh];simp;omega)
   have hl1:=gD c1
   obtain⟨s1,s2⟩:=vJ g (hp f (List.mem_of_find?_eq_some hf)) (by rw[hl1];exact hn) hz
   have s0:v.step (dX v as f.params).1.clear 0:=.of_core h hh c1 c2 (by simp[Sc.clear,hh]) c4 (by simp[Sc.clear,hlo])
   exact(s0.trans s2).mono (by omega)
  ·rename_i h0
   exact absurd hz h0
 ·simp at hz
theorem yn{v:Sc}(h:v.good)(hh:v.held=[])(hlo:v.lost=false){n:ByteArray}{p o:Pl}{e:Ex}(hp:p.path.length<=2^30)(ho:o.path.length<=2^30)(hn:v.vars.length+1<=2^30)(hz:(iD v n p o e).2=0):v.step (iD v n p o e).1 1:=by
 unfold iD at hz⊢
 split at hz
 ·rename_i h0
  rw[if_pos h0]
  have s1:=kl h hh e
  rw[<-eB]at s1
  generalize(v.number e).1=u at*
  unfold jh at hz⊢
  split at hz
  ·rename_i h1
   rw[if_pos h1]
   have s2:=ow s1.good s1.held p
   have t2:=ja s1.good p
   generalize u.use p=r at*
   obtain⟨c1,c2,c3,c4⟩:=Sc.use_core (r.1.hold1 p) o
   have g2:=lK (jB s2.good hp) o
   generalize(r.1.hold1 p).use o=w at*
   unfold qz at hz⊢
   split at hz
   ·rename_i h2
    rw[if_pos h2]
    split at hz
    ·rename_i h3
     rw[if_pos h3]
     split at hz
     ·simp at hz
     ·rename_i h4
      rw[if_neg h4]
      have hl1:w.1.vars.length=r.1.vars.length:=gD c1
      have s3:r.1.step w.1.clear 0:=.of_core s2.good s2.held c1 c2 (by simp[Sc.clear,s2.held]) c4 (by simp[Sc.clear,s2.lost,s1.lost,hlo])
      have b1:=s1.hi;have b2:=s2.hi;have b3:=s3.hi
      have s4:=ls s3.good s3.held (x:=⟨n,true,false,r.2.1,[p,o],false⟩) t2 (by simp) (by simp;exact⟨hp,ho⟩) (by omega) hz
      exact(((s1.trans s2).trans s3).trans s4).mono (by omega)
    ·simp at hz
   ·rename_i h2;exact absurd hz h2
  ·rename_i h1;exact absurd hz h1
 ·rename_i h0;exact absurd hz h0
theorem Rel.nil{e:En}{u:Sc}{T:List Vr}(h:Rel e u T)(hh:u.held=[]):T=[]:=by
 have:=h.tmp.len
 rw[hh]at this
 exact bu this
theorem te{d:Nat}{x:Ex}(hx:x.okD d=true){e:En}{u:Sc}{T:List Vr}(h:Rel e u T):
 ((u.number x).2=0/\∃T',Rel ((e.expr x).1.num (e.expr x).2) (u.number x).1 T')\/((u.number x).2≠0/\((e.expr x).1.num (e.expr x).2).code=(u.number x).2):=by
 simp only[Sc.number]
 rcases oh d x hx h with⟨a,⟨T',b⟩,c⟩|⟨a,b⟩
 ·rw[if_pos a,c]
  by_cases hk:(u.expr x).2.1.kids.length=0
  ·left;simp only[hk,if_true];exact⟨trivial,T',b.num hk⟩
  ·right;simp only[hk,if_false];exact⟨by decide,by rw[qA b.code,if_neg hk]⟩
 ·rw[if_neg a]
  right
  exact⟨a,by rw[gi (by rw[b];exact a)];exact b⟩
theorem Rel.push{e:En}{u:Sc}{T:List Vr}(h:Rel e u T){p:Pl}(hp:∃x∈u.vars,x.name=p.name):Rel (e.push (cP p)) {u with held:=u.held++[p]} (T++[cP p])where
 vars:=by simp only[En.push,h.vars,dY]
 names:=h.names
 code:=h.code
 p:=h.p
 ok:=h.ok
 tmp:=by
  refine⟨by simp[h.tmp.len],fun i hi hi'=>?_,fun q hq=>?_⟩
  ·by_cases hlt:i<T.length
   ·have hlt':i<u.held.length:=by rw[<-h.tmp.len];exact hlt
    have:=h.tmp.tmp i hlt hlt'
    simp only[dv hlt,dv hlt']
    exact this
   ·have e1:i=T.length:=by simp at hi;omega
    subst e1
    simp only[h.tmp.len]
    simp[cP,h.tmp.len]
  ·rcases aF.1 hq with hq|hq
   ·exact h.tmp.nm q hq
   ·rw[cn.1 hq];exact hp
 lost:=by simp[h.lost,cP]
 giv:=h.giv
theorem Rel.pop{e:En}{u:Sc}{T:List Vr}(h:Rel e u T):Rel (e.pop u.vars.length) {u with held:=[],lost:=false} []where
 vars:=by simp[En.pop,h.vars]
 names:=h.names
 code:=h.code
 p:=h.p
 ok:=h.ok
 tmp:=⟨rfl,fun i hi=>by simp at hi,fun q hq=>by simp at hq⟩
 lost:=rfl
 giv:=h.giv
theorem tH:∀(as:List Ag) (ps:List Pa),(∀a∈as,a.okB=true)->as.length=ps.length->∀{e:En} {u:Sc} {T:List Vr},Rel e u T->
 ((dX u as ps).2=0/\∃w T',e.args (ps.zip as) u.held=(w,some (dX u as ps).1.held)/\Rel w (dX u as ps).1 T')\/((dX u as ps).2≠0/\(e.args (ps.zip as) u.held).1.code=(dX u as ps).2)
 |[],[],_,_,e,u,T,h=>.inl ⟨rfl,e,T,rfl,h⟩
 |[],p::ps,_,hl,e,u,T,h=>by simp at hl
 |a::as,[],_,hl,e,u,T,h=>by simp at hl
 |a::as,p::ps,ha,hl,e,u,T,h=>by
  have hao:=ha a fI
  have hrest:∀x∈as,x.okB=true:=fun x hx=>ha x (dt _ hx)
  simp only[aV,Nat.add_right_cancel_iff]at hl
  rw[List.zip_cons_cons,En.args,dX]
  by_cases hne:a.lent=p.lent
  ·have hb:¬(a.lent !=p.lent)=true:=by simp[hne]
   simp only[hne,ne_eq,not_true_eq_false,if_false]
   by_cases hlt:a.lent=true
   ·have hpl:p.lent=true:=by rw[<-hne];exact hlt
    have hA:iU u a p=({(u.use a.place).1 with held:=(u.use a.place).1.held++[a.place]},if(u.use a.place).2.2=0 then(if eqB (u.use a.place).2.1 p.type then 0 else 3)else(u.use a.place).2.2):=by
     unfold iU;rw[if_neg hb,if_pos hlt]
    rw[hA]
    simp only[hpl,if_true]
    have hpok:a.place.okB=true:=by
     simp only[Ag.okB,hlt,if_true,aw]at hao;exact hao.1
    have hheld:=(u.use_core a.place).2.2.1
    rcases mG h (p:=a.place) (lj hpok)with⟨a1,⟨T1,a2⟩,a3,a4⟩|⟨a1,a2⟩
    ·have hin:∃x∈(u.use a.place).1.vars,x.name=a.place.name:=by
      obtain⟨x,hx,hn⟩:=a4
      have:x.core∈(u.use a.place).1.vars.map Vr.core:=by rw[(u.use_core a.place).1];exact cu hx
      obtain⟨y,hy,ey⟩:=aY.1 this
      exact⟨y,hy,by have:=congrArg Vr.name ey;exact this.trans hn⟩
     rw[if_pos a1,a3]
     by_cases hq:eqB (u.use a.place).2.1 p.type=true
     ·rw[if_pos hq]
      simp only[if_true]
      have r:=(a2.same hq).push hin
      have:=tH as ps hrest hl r
      simp only[hheld]at this⊢
      exact this
     ·have hq':eqB (u.use a.place).2.1 p.type=false:=by simpa using hq
      simp only[hq',ap,if_false]
      right
      refine⟨by simp,?_⟩
      have hc:=jt a2.code (u.use a.place).2.1 p.type
      rw[hq',if_neg (by simp)]at hc
      rw[i7 _ _ (by show(En.same _ _ _).code≠0;rw[hc];decide)]
      exact hc
    ·rw[if_neg a1,if_neg a1]
     right
     refine⟨a1,?_⟩
     have h1:((e.use a.place).1.same (e.use a.place).2 p.type).code=(u.use a.place).2.2:=(eP (by rw[a2];exact a1) _ _).trans a2
     rw[i7 _ _ (by show(En.same _ _ _).code≠0;rw[h1];exact a1)]
     exact h1
   ·have hpl:¬p.lent=true:=by rw[<-hne];exact hlt
    have hA:iU u a p=((u.expr a.expr).1,if(u.expr a.expr).2.2=0 then(if eqB (u.expr a.expr).2.1 p.type then 0 else 3)else(u.expr a.expr).2.2):=by
     unfold iU;rw[if_neg hb,if_neg hlt]
    rw[hA]
    simp only[hpl,ap,if_false]
    have hx:a.expr.okD 4=true:=by
     have hf:a.lent=false:=by simpa using hlt
     simp only[Ag.okB,hf,ap,if_false,aw]at hao;exact hao.2
    have hheld:=(Sc.expr_core a.expr u).2.2.1
    rcases oh 4 a.expr hx h with⟨a1,⟨T1,a2⟩,a3⟩|⟨a1,a2⟩
    ·rw[if_pos a1,a3]
     by_cases hq:eqB (u.expr a.expr).2.1 p.type=true
     ·rw[if_pos hq]
      simp only[if_true]
      have:=tH as ps hrest hl (a2.same hq)
      rw[hheld]at this
      exact this
     ·have hq':eqB (u.expr a.expr).2.1 p.type=false:=by simpa using hq
      simp only[hq',ap,if_false]
      right
      refine⟨by simp,?_⟩
      have hc:=jt a2.code (u.expr a.expr).2.1 p.type
      rw[hq',if_neg (by simp)]at hc
      rw[i7 _ _ (by rw[hc];decide)]
      exact hc
    ·rw[if_neg a1,if_neg a1]
     right
     refine⟨a1,?_⟩
     have h1:((e.expr a.expr).1.same (e.expr a.expr).2 p.type).code=(u.expr a.expr).2.2:=(eP (by rw[a2];exact a1) _ _).trans a2
     rw[i7 _ _ (by rw[h1];exact a1)]
     exact h1
  ·have hb:(a.lent !=p.lent)=true:=by simpa using hne
   have hA:iU u a p=(u,3):=by unfold iU;rw[if_pos hb]
   rw[hA]
   simp only[ne_eq,hne,not_false_eq_true,if_true]
   right
   exact⟨by simp,by simp[En.fail,dx,h.code]⟩
theorem qN{e:En}{u:Sc}(h:Rel e u []){x:Vr}(hn:x.name≠bl [])(hl:∀q∈x.loans,∃y∈u.vars,y.name=q.name)(hh:u.held=[]):
 ((eI u x).2=0/\Rel (e.add x) (eI u x).1 [])\/((eI u x).2≠0/\(e.add x).code=(eI u x).2):=by
 have hany:(e.names.any fun m=>decide (m=x.name))=u.given.any fun m=>eqB m x.name:=by
  rw[h.names]
  congr 1
  funext m
  rw[aZ,cQ,decide_eq_true_eq]
 have hok:=tw h.giv x
 unfold eI at hok⊢
 by_cases hg:(u.given.any fun m=>eqB m x.name)=true
 ·rw[if_pos hg]
  right
  refine⟨by simp,?_⟩
  simp only[En.add,AW,hany,hg,if_true,dx,h.code]
 ·rw[if_neg hg]at hok⊢
  left
  refine⟨rfl,?_,?_,?_,h.p,⟨?_,fun y hy=>?_,fun i hi q hq=>?_⟩,⟨?_,?_,?_⟩,?_,hok⟩
  ·simp[En.add,h.vars]
  ·simp[En.add,h.names]
  ·simp only[En.add,AW,hany,if_neg hg,h.code]
  ·simp only[bB,aS,bv]
   rw[fZ]
   refine⟨h.ok.nd,by simp,?_⟩
   intro a ha b hb
   simp at hb
   subst hb
   rintro rfl
   exact rQ h.giv (by simpa using hg) ha
  ·rcases aF.1 hy with hy|hy
   ·exact h.ok.ne y hy
   ·rw[cn.1 hy];exact hn
  ·by_cases hlt:i<u.vars.length
   ·simp only[dv hlt]at hq
    obtain⟨j,hj,e⟩:=h.ok.up i hlt q hq
    exact⟨j,hj,by rw[aR (by omega)];exact e⟩
   ·have:i=u.vars.length:=by simp at hi;omega
    subst this
    simp at hq
    obtain⟨y,hy,e⟩:=hl q hq
    obtain⟨j,hj,rfl⟩:=bj.1 hy
    exact⟨j,hj,by rw[aR hj,av hj];simp[e]⟩
  ·simp[hh]
  ·intro i hi;simp at hi
  ·simp[hh]
  ·have:=h.lost;simpa using this
theorem zD(fs:List Fu)(n:ByteArray)(m:Nat):(fs.take m).find? (fun f=>eqB f.name n)=(jY fs n m).bind fun i=>fs[i]?:=by
 unfold jY
 have key:∀l:List Fu,l.find? (fun f=>eqB f.name n)=(l.findIdx? fun f=>decide (f.name=n)).bind fun i=>l[i]?:=by
  intro l
  induction l with
  |nil=>rfl
  |cons x l ih=>
   rw[List.find?_cons,List.findIdx?_cons]
   by_cases h:x.name=n
   ·subst h;simp[dE]
   ·have:eqB x.name n=false:=cE.2 h
    rw[this]
    simp only[decide_eq_true_eq,h,if_false,Option.bind_map,ih]
    rfl
 rw[key]
 cases hi:(fs.take m).findIdx? (fun f=>decide (f.name=n))with
 |none=>rfl
 |some i=>
  obtain⟨hl,-⟩:=bQ.1 hi
  have:i<m:=by rw[bk]at hl;omega
  simp only[Option.bind_some,dw this]
theorem argsS_p(as:List Ag)(ps:List Pa)(v:Sc):(dX v as ps).1.vars.length=v.vars.length:=gD (mT as ps v).1
theorem Cb{s:St}(hn:bn s.name=true)(ha:∀a∈s.args,a.okB=true){e:En}{u:Sc}(h:Rel e u [])(hh:u.held=[]):
 ((ie u s.name s.fn s.args).2=0/\Rel (e.call s) (ie u s.name s.fn s.args).1 [])\/((ie u s.name s.fn s.args).2≠0/\(e.call s).code=(ie u s.name s.fn s.args).2):=by
 have hname:s.name≠bl []:=by
  intro e;rw[e]at hn;simp[bn,bl]at hn;exact absurd hn.1 (by decide)
 have hf:=zD e.p s.fn e.fn
 rw[<-h.p]at hf
 unfold ie En.call
 rw[hf]
 cases hi:jY e.p s.fn e.fn with
 |none=>
  right
  simp only[Option.bind_none]
  exact⟨by simp,by simp[En.fail,dx,h.code]⟩
 |some k=>
  simp only[Option.bind_some]
  cases hk:e.p[k]? with
  |none=>
   exfalso
   unfold jY at hi
   obtain⟨hl,-⟩:=bQ.1 hi
   rw[bk]at hl
   rw[List.getElem?_eq_none_iff]at hk
   omega
  |some f=>
   simp only
   by_cases hlen:s.args.length=f.params.length
   ·have hl2:¬(f.params.length≠s.args.length):=by simp[hlen]
    rw[if_pos hlen,if_neg hl2]
    have hsim:=tH s.args f.params ha hlen h
    rw[hh]at hsim
    have hvl:e.vars.length=u.vars.length:=by rw[h.vars];simp
    have hvu:=argsS_p s.args f.params u
    rcases hsim with⟨a1,w,T',a2,a3⟩|⟨a1,a2⟩
    ·rw[if_pos a1,a2]
     simp only
     generalize dX u s.args f.params=r at*
     unfold gn
     have hgone:((w.vars.drop e.vars.length).any fun x=>x.dead)=r.1.lost:=by
      rw[a3.vars,hvl,<-hvu,List.drop_left,a3.lost]
     cases hlo:r.1.lost
     ·have hg:w.gone e.vars.length=w:=by unfold En.gone;rw[hgone,hlo];rfl
      rw[hg,hvl,<-hvu]
      simp only[ap,if_false]
      refine qN a3.pop hname ?_ rfl
      intro q hq
      simp only at hq
      split at hq
      ·exact a3.tmp.nm q hq
      ·simp at hq
     ·have hg:w.gone e.vars.length=w.fail 4:=by unfold En.gone;rw[hgone,hlo];rfl
      rw[hg]
      simp only[if_true]
      right
      refine⟨by simp,?_⟩
      have hc:(w.fail 4).code=4:=by simp[En.fail,dx,a3.code]
      rw[eJ (by show(w.fail 4).code≠0;rw[hc];decide)]
      exact hc
    ·rw[if_neg a1]
     right
     refine⟨a1,?_⟩
     rcases hw:e.args (f.params.zip s.args) []with⟨w,o⟩
     rw[hw]at a2
     cases o with
     |none=>exact a2
     |some pl=>
      simp only at a2⊢
      have h1:(w.gone e.vars.length).code=w.code:=wc (by rw[a2];exact a1) _
      rw[eJ (by show(w.gone _).code≠0;rw[h1,a2];exact a1)]
      exact h1.trans a2
   ·have hl2:f.params.length≠s.args.length:=fun e=>hlen e.symm
    rw[if_neg hlen,if_pos hl2]
    right
    exact⟨by simp,by simp[En.fail,dx,h.code]⟩
theorem B7{s:St}(hn:bn s.name=true)(hp:s.place.okB=true)(ho:s.other.okB=true)(hx:s.expr.okD 4=true){e:En}{u:Sc}(h:Rel e u [])(hh:u.held=[]):
 ((iD u s.name s.place s.other s.expr).2=0/\Rel (e.pick s) (iD u s.name s.place s.other s.expr).1 [])\/((iD u s.name s.place s.other s.expr).2≠0/\(e.pick s).code=(iD u s.name s.place s.other s.expr).2):=by
 have hname:s.name≠bl []:=by
  intro e;rw[e]at hn;simp[bn,bl]at hn;exact absurd hn.1 (by decide)
 have hheld1:(u.number s.expr).1.held=[]:=by rw[eB,(Sc.expr_core s.expr u).2.2.1];exact hh
 have keep:∀{c:Int},c≠0->∀{v:En},v.code=c->∀(T:Ty) (n:Nat) (x:Vr),(((if dj (((v.push (cP s.place)).use s.other).1.same ((v.push (cP s.place)).use s.other).2 T).vars n then(((v.push (cP s.place)).use s.other).1.same ((v.push (cP s.place)).use s.other).2 T).fail 4 else(((v.push (cP s.place)).use s.other).1.same ((v.push (cP s.place)).use s.other).2 T)).pop n).add x).code=c:=by
  intro c hc v hv T n x
  have h1:((v.push (cP s.place)).use s.other).1.code=c:=(jO (by show v.code≠0;rw[hv];exact hc) _).trans hv
  have h2:(((v.push (cP s.place)).use s.other).1.same ((v.push (cP s.place)).use s.other).2 T).code=c:=(eP (by rw[h1];exact hc) _ _).trans h1
  split
  ·have h3:=(fF (v:=((v.push (cP s.place)).use s.other).1.same ((v.push (cP s.place)).use s.other).2 T) (by rw[h2];exact hc) 4).trans h2
   rw[eJ (by show(En.fail _ 4).code≠0;rw[h3];exact hc)]
   exact h3
  ·rw[eJ (by show(En.same _ _ _).code≠0;rw[h2];exact hc)]
   exact h2
 unfold iD
 simp only[En.pick]
 rcases te hx h with⟨a1,T1,a2⟩|⟨a1,a2⟩
 ·rw[if_pos a1]
  obtain rfl:=a2.nil hheld1
  generalize(u.number s.expr).1=u1 at*
  generalize(e.expr s.expr).1.num (e.expr s.expr).2=e1 at*
  unfold jh
  have hheld2:(u1.use s.place).1.held=[]:=by rw[(u1.use_core s.place).2.2.1];exact hheld1
  rcases mG a2 (p:=s.place) (lj hp)with⟨b1,⟨T2,b2⟩,b3,b4⟩|⟨b1,b2⟩
  ·rw[if_pos b1,b3]
   obtain rfl:=b2.nil hheld2
   have hin:∃x∈(u1.use s.place).1.vars,x.name=s.place.name:=by
    obtain⟨x,hx,hn⟩:=b4
    have:x.core∈(u1.use s.place).1.vars.map Vr.core:=by rw[(u1.use_core s.place).1];exact cu hx
    obtain⟨y,hy,ey⟩:=aY.1 this
    exact⟨y,hy,by have:=congrArg Vr.name ey;exact this.trans hn⟩
   have hvl:(e1.use s.place).1.vars.length=(u1.use s.place).1.vars.length:=by rw[b2.vars];simp
   rw[hvl]
   have r:=b2.push hin
   rw[hheld2]at r
   have hr1:({(u1.use s.place).1 with held:=[]++[s.place]}:Sc)=(u1.use s.place).1.hold1 s.place:=by
    have hl:(u1.use s.place).1.lost=false:=by have:=b2.lost;simpa using this
    generalize(u1.use s.place).1=z at*
    obtain⟨z1,z2,z3,z4,z5⟩:=z
    simp only at hl
    subst hl
    rfl
   rw[hr1]at r
   generalize(u1.use s.place).2.1=t at*
   have hcore:=Sc.use_core ((u1.use s.place).1.hold1 s.place) s.other
   have hinv:∀x,x.name=s.place.name->x∈(u1.use s.place).1.vars->∃y∈(((u1.use s.place).1.hold1 s.place).use s.other).1.vars,y.name=s.place.name:=by
    intro x hn hx
    have:x.core∈(((u1.use s.place).1.hold1 s.place).use s.other).1.vars.map Vr.core:=by rw[hcore.1];exact cu hx
    obtain⟨y,hy,ey⟩:=aY.1 this
    exact⟨y,hy,by have:=congrArg Vr.name ey;exact this.trans hn⟩
   obtain⟨x0,hx0,hn0⟩:=hin
   have hp1:=hinv x0 hn0 hx0
   have hlen1:(((u1.use s.place).1.hold1 s.place).use s.other).1.vars.length=(u1.use s.place).1.vars.length:=gD hcore.1
   have hheld3:(((u1.use s.place).1.hold1 s.place).use s.other).1.held=[s.place]:=hcore.2.2.1
   rcases mG r (p:=s.other) (lj ho)with⟨c1,⟨T3,c2⟩,c3,c4⟩|⟨c1,c2⟩
   ·have ho1:∃y∈(((u1.use s.place).1.hold1 s.place).use s.other).1.vars,y.name=s.other.name:=by
     obtain⟨x,hx,hn⟩:=c4
     have:x.core∈(((u1.use s.place).1.hold1 s.place).use s.other).1.vars.map Vr.core:=by rw[hcore.1];exact cu hx
     obtain⟨y,hy,ey⟩:=aY.1 this
     exact⟨y,hy,by have:=congrArg Vr.name ey;exact this.trans hn⟩
    rw[c3]
    unfold qz
    rw[if_pos c1]
    rw[<-hlen1]
    generalize((u1.use s.place).1.hold1 s.place).use s.other=q at*
    generalize((e1.use s.place).1.push (cP s.place)).use s.other=w at*
    have hT3:T3.length=1:=by rw[c2.tmp.len,hheld3];rfl
    by_cases hq:eqB t q.2.1=true
    ·rw[if_pos hq]
     have hq2:eqB q.2.1 t=true:=cQ.2 (cQ.1 hq).symm
     have r2:=c2.same hq2
     have hdead:dj (w.1.same q.2.1 t).vars q.1.vars.length=q.1.lost:=by
      rw[r2.vars,r2.lost]
      match T3,hT3 with
      |[y],_=>simp[dj]
     rw[hdead]
     cases hlo:q.1.lost
     ·simp only[ap,if_false]
      refine qN r2.pop hname ?_ rfl
      intro z hz
      simp only[bf,cq,or_false]at hz
      rcases hz with rfl|rfl
      ·exact hp1
      ·exact ho1
     ·simp only[if_true]
      right
      refine⟨by simp,?_⟩
      have hc:((w.1.same q.2.1 t).fail 4).code=4:=by simp[En.fail,dx,r2.code]
      rw[eJ (by show(En.fail _ 4).code≠0;rw[hc];decide)]
      exact hc
    ·have hq':eqB t q.2.1=false:=by simpa using hq
     have hq2:eqB q.2.1 t=false:=cE.2 fun e=>cE.1 hq' e.symm
     simp only[hq',ap,if_false]
     right
     refine⟨by simp,?_⟩
     have hc:=jt c2.code q.2.1 t
     rw[hq2,if_neg (by simp)]at hc
     split
     ·have h3:=(fF (v:=w.1.same q.2.1 t) (by rw[hc];decide) 4).trans hc
      rw[eJ (by show(En.fail _ 4).code≠0;rw[h3];decide)]
      exact h3
     ·rw[eJ (by show(En.same _ _ _).code≠0;rw[hc];decide)]
      exact hc
   ·right
    unfold qz
    rw[if_neg c1]
    refine⟨c1,?_⟩
    generalize((u1.use s.place).1.hold1 s.place).use s.other=q at*
    generalize((e1.use s.place).1.push (cP s.place)).use s.other=w at*
    have hc:(w.1.same w.2 t).code=q.2.2:=(eP (by rw[c2];exact c1) _ _).trans c2
    split
    ·have h3:=(fF (v:=w.1.same w.2 t) (by rw[hc];exact c1) 4).trans hc
     rw[eJ (by show(En.fail _ 4).code≠0;rw[h3];exact c1)]
     exact h3
    ·rw[eJ (by show(En.same _ _ _).code≠0;rw[hc];exact c1)]
     exact hc
  ·rw[if_neg b1]
   right
   exact⟨b1,keep b1 b2 _ _ _⟩
 ·rw[if_neg a1]
  right
  refine⟨a1,?_⟩
  have h1:(((e.expr s.expr).1.num (e.expr s.expr).2).use s.place).1.code=(u.number s.expr).2:=(jO (by rw[a2];exact a1) _).trans a2
  exact keep a1 h1 _ _ _
def iSt(f:List St->Int->Bool×Int)(s:St)(n:Int):Bool×Int:=
 if s.kind=1 then(s.rest1.noneB&&(bn s.name&&s.expr.okD 4),n)
 else if s.kind=2 then(s.rest2.noneB&&(bn s.name&&s.place.okB),n)
 else if s.kind=3 then(s.rest3.noneB&&(s.place.okB&&s.expr.okD 4),n)
 else if s.kind=4 then(s.rest4.noneB&&(bn s.name&&(bn s.fn&&eL s.args)),n)
 else if s.kind=5 then(if s.rest5.noneB&&s.expr.okD 4 then(if(f s.thn n).1 then f s.els (f s.thn n).2 else(false,(f s.thn n).2))else(false,n))
 else if s.kind=6 then(s.rest6.noneB&&(bn s.name&&(s.place.okB&&(s.other.okB&&s.expr.okD 4))),n)
 else(false,n)
def fT(ok:Bool)(f:St->Int->Bool×Int):List St->Int->Bool×Int
 |[],n=>(true,n)
 |s::l,n=>if ok&&decide (0<=n - 1)then(if(f s (n - 1)).1 then fT ok f l (f s (n - 1)).2 else(false,(f s (n - 1)).2))else(false,n - 1)
def fm:Nat->List St->Int->Bool×Int
 |0,l,n=>fT false (fun _ n=>(false,n)) l n
 |d+1,l,n=>fT true (iSt (fm d)) l n
theorem xd{ok:Bool}{f:St->Int->Bool×Int}:∀(l:List St) (n:Int),(∀s∈l,∀n,n - s.cnt+1<=(f s n).2/\(f s n).2<=n)->n - bx l<=(fT ok f l n).2/\(fT ok f l n).2<=n
 |[],n,_=>by simp[fT];omega
 |s::l,n,h=>by
  have hs:=h s (by simp) (n - 1)
  have hl:=xd (ok:=ok) l (f s (n - 1)).2 fun x hx=>h x (by simp[hx])
  have hc:1<=s.cnt:=by rw[dy];omega
  rw[fT,cY]
  split
  ·split
   ·omega
   ·simp only;omega
  ·simp only;omega
theorem BQ{f:List St->Int->Bool×Int}{s:St}(h:∀l n,l=s.thn\/l=s.els->n - bx l<=(f l n).2/\(f l n).2<=n)(n:Int):n - s.cnt+1<=(iSt f s n).2/\(iSt f s n).2<=n:=by
 have h1:=h s.thn n (.inl rfl)
 have h2:=h s.els (f s.thn n).2 (.inr rfl)
 have hc:=dy s
 have q:∀b:Bool,n - s.cnt+1<=((b,n):Bool×Int).2/\((b,n):Bool×Int).2<=n:=fun b=>by simp only;omega
 rw[iSt]
 split
 ·exact q _
 split
 ·exact q _
 split
 ·exact q _
 split
 ·exact q _
 split
 ·split
  ·split
   ·omega
   ·simp only;omega
  ·exact q _
 split
 ·exact q _
 ·exact q _
theorem xg:∀(d:Nat) (l:List St) (n:Int),n - bx l<=(fm d l n).2/\(fm d l n).2<=n
 |0,l,n=>by
  cases l with
  |nil=>simp[fm,fT];omega
  |cons s l=>
   have hc:1<=s.cnt:=by rw[dy];omega
   simp[fm,fT,cY];omega
 |d+1,l,n=>xd l n fun s _ n=>BQ (fun l n _=>xg d l n) n
theorem uE:∀(l:List St) (k:Nat),bx (l.drop k)<=bx l
 |_,0=>aC _
 |[],_+1=>aC _
 |s::l,k+1=>by rw[gE,cY];have:=uE l k;omega
theorem iSt_nil{F:Ids}{f:List St->Int->Bool×Int}{s:St}{n:Int}(h:shS F s=gW):iSt f s n=(false,n):=by
 rw[iSt]
 by_cases k1:s.kind=1
 ·rw[zw k1]at h
  cases hc:s.rest1.noneB<;>simp[hc,k1]at h⊢
 by_cases k2:s.kind=2
 ·rw[zu k2]at h
  cases hc:s.rest2.noneB<;>simp[hc,k2]at h⊢
 by_cases k3:s.kind=3
 ·rw[zt k3]at h
  cases hc:s.rest3.noneB<;>simp[hc,k3]at h⊢
 by_cases k4:s.kind=4
 ·rw[zr k4]at h
  cases hc:s.rest4.noneB<;>simp[hc,k4]at h⊢
 by_cases k5:s.kind=5
 ·rw[zq k5]at h
  cases hc:s.rest5.noneB<;>simp[hc,k5]at h⊢
 by_cases k6:s.kind=6
 ·rw[zp k6]at h
  cases hc:s.rest6.noneB<;>simp[hc,k6]at h⊢
 simp[k1,k2,k3,k4,k5,k6]
theorem wp_nrm{P:Program}{c:aX}{K:cL->Env->aj->Prop}{E:Env}{H:aj}(Q:Env->aj->Prop)(hc:c.wp P (fun e E' H'=>e=.normal/\Q E' H') E H)(hk:∀E' H',Q E' H'->K .normal E' H'):c.wp P K E H:=
 aX.wp_mono (fun e E' H' ⟨he,hq⟩=>he▸hk E' H' hq) hc
theorem vg{P:Program}{dr:Bool}{K:Env->aj->Prop}{xs:List aN}{E:Env}{H:aj}{l:Lds}{f:Fps}{i:Nat}{g:FuncId}{args:List aI}{d:Option Nat}{inc:List Nat}{as:List AC}{r:Nat}{o o':cK}{q0:AC}
(hc:bD P g as (one r o) fun q H'=>q=q0/\H'=one r o')(ha:args.map (aI.ev E)=as)(hr:H.get r=some o)(hlive:dr=true->False)(hchk:dS inc l (·=r))
(h:bw P dr K xs (E.put d q0) (H.set r o') l ((i,fun b=>b=r\/H.get b=none)::f)):
 bw P dr K (⟨i,d,none,.eff (.call g args),inc⟩::xs) E H l f:=by
 refine rj (R:=fun q H'=>q=q0/\H'=one r o') (hc.mono fun q H' ⟨h1,h2⟩=>⟨o',⟨h1,rfl⟩,h2⟩) ha hr (fun h=>(hlive h).elim) hchk ?_
 rintro q o2 ⟨rfl,h2⟩
 have:o2=o':=by have:=congrArg (fun H=>H.get r) h2;simp only[bE]at this;exact Option.some.inj this
 rw[this];exact h
def formQ(r0:Bool×Int)(d b:Nat)(l:List St)(k:Nat)(E':Env)(H':aj):Prop:=∃r:Bool×Int,r=r0/\E' 9=B r.1/\H'.get b=some (.cells [I r.2])/\E' 1=I d/\E' 2=.ptr b 0/\E' 16=.sl 15 none (l.map St.enc)/\E' 17=I l.length/\E' 18=I k
section
variable {P:Program}{F:Ids}
theorem qI(L:Lib P F)(T:Tys F)(d:Nat)(hd:d<=100)(f:List St->Int->Bool×Int)(hf:∀l n,n - bx l<=(f l n).2/\(f l n).2<=n)
(ih:1<=d->∀l n b,bx l<=2^20->-(2^29)<=n->n<=2^20->bD P F.i_stmtsForm [.sl 15 none (St.encs l),I (d - 1:Nat),.ptr b 0] (one b (.cells [I n])) fun q H'=>q=B (f l n).1/\H'=one b (.cells [I (f l n).2]))
(l:List St)(n:Int)(b:Nat)(hl:bx l<=2^20)(hn:-(2^29)<=n)(hn2:n<=2^20):
 bD P F.i_stmtsForm [.sl 15 none (St.encs l),I d,.ptr b 0] (one b (.cells [I n])) fun q H'=>q=B (fT (decide (1<=d)) (iSt f) l n).1/\H'=one b (.cells [I (fT (decide (1<=d)) (iSt f) l n).2]):=by
 refine L.i_stmtsForm (by simp[lT]) ?_
 have fin:∀(E':Env) (H':aj) (q:Bool×Int),E' 6=B q.1->H'.get b=some (.cells [I q.2])->q=fT (decide (1<=d)) (iSt f) l n->aD.post [.slot 6] (fun q H'=>q=B (fT (decide (1<=d)) (iSt f) l n).1/\H'=one b (.cells [I (fT (decide (1<=d)) (iSt f) l n).2])) .ret E' H':=fun E' H' q h1 h2 h3=>ak (by rw[h1,h3];exact .refl _) (eO h2) ⟨rfl,by rw[h3]⟩
 have hb0:=bE b (.cells [I n])
 simp only[lT,go_sem,rE,rA,St.encs_map,am]
 refine aT l.length (fun k E H=>∃m,H.get b=some (.cells [I m])/\E 1=I d/\E 2=.ptr b 0/\E 16=.sl 15 none (l.map St.enc)/\E 17=I l.length/\E 18=I k/\-(2^29) - 2^20+bx (l.drop k)<=m/\m<=2^20/\fT (decide (1<=d)) (iSt f) (l.drop k) m=fT (decide (1<=d)) (iSt f) l n)
  ⟨n,hb0,rfl,rfl,rfl,rfl,rfl,by simp;omega,hn2,rfl⟩ ?_
 clear hb0
 rintro k E H hk ⟨m,hb,e1,e2,e16,e17,e18,hm1,hm2,hit⟩
 simp only[wp_seq,go_sem,rE,e17,e18]
 refine aG (fun hlt=>?_) (fun hge=>?_)
 ·have hk1:k<l.length:=by omega
  have hll:=iZ l
  have w1:=aL (n:=(k:Int)+1) (by omega) (by omega)
  have wm:=aL (n:=m - 1) (by omega) (by omega)
  have hdr:l.drop k=l[k]::l.drop (k+1):=bU hk1
  have hcl:=uE l k
  rw[hdr,cY]at hm1 hcl
  have hcnt:=dy l[k]
  rw[hdr,fT]at hit
  have dl:(d:Int)<1↔¬1<=d:=by omega
  have hg:(l.map St.enc)[k]?=some l[k].enc:=yf hk1
  rw[St.enc_eq]at hg
  generalize l[k]=s at*
  simp only[go_sem,rE,rA,rL,e16,e18,hg]
  intro b8 hb8
  have d8:b≠b8:=al hb hb8
  simp only[go_sem,rE,rA,rL,hb,d8,Ne.symm d8,e2,e1,wm]
  have ret:∀(E':Env) (H':aj),H'.get b=some (.cells [I (m - 1)])->(fT (decide (1<=d)) (iSt f) l n)=(false,m - 1)->E' 6=B false->aD.post [.slot 6] (fun q H'=>q=B (fT (decide (1<=d)) (iSt f) l n).1/\H'=one b (.cells [I (fT (decide (1<=d)) (iSt f) l n).2])) .ret E' H':=fun E' H' h1 h2 h3=>fin E' H' (false,m - 1) h3 h1 h2.symm
  by_cases h1:(d:Int)<1
  ·simp only[go_sem,rE,rA,rL,h1,decide_true]
   exact ret _ _ (by simp only[go_sem,rE,rA,rL,d8,Ne.symm d8]) (by rw[<-hit,show decide (1<=d)=false from decide_eq_false (dl.1 h1)];rfl) (rfl)
  by_cases h0:m - 1<0
  ·simp only[go_sem,rE,rA,rL,h1,h0,decide_false,decide_true,e2,hb,d8,Ne.symm d8]
   exact ret _ _ (by simp only[go_sem,rE,rA,rL,d8,Ne.symm d8]) (by rw[<-hit,show decide (0<=m - 1)=false from decide_eq_false (by omega),aO];rfl) (rfl)
  have hd1:1<=d:=by omega
  rw[decide_eq_true hd1,decide_eq_true (show 0<=m - 1 by omega)]at hit
  simp only[fP,if_true]at hit
  have wd:=aL (n:=((d - 1:Nat):Int)) (by omega) (by omega)
  have hdd:(d:Int) - 1=(d - 1:Nat):=by omega
  have hdt:=decide_eq_true hd1
  simp only[go_sem,rE,rA,rL,h1,h0,decide_false,e2,hb,d8,Ne.symm d8]
  refine ao (xw L s) (by simp only[go_sem,rE,rA,rL,St.enc_eq s]) ?_
  have hb2:((H.set b8 (.cells [I s.kind,S s.name,S s.place.name,au s.place.path,S s.other.name,au s.other.path,I s.expr.kind,I s.expr.num,S s.expr.place.name,au s.expr.place.path,.sl 5 none (Ex.encs s.expr.kids),S s.fn,.sl 8 none (s.args.map Ag.enc),.sl 15 none (St.encs s.thn),.sl 15 none (St.encs s.els)])).set b (.cells [I (m - 1)])).get b=some (.cells [I (m - 1)]):=ai _ _ _
  generalize((H.set b8 (.cells [I s.kind,S s.name,S s.place.name,au s.place.path,S s.other.name,au s.other.path,I s.expr.kind,I s.expr.num,S s.expr.place.name,au s.expr.place.path,.sl 5 none (Ex.encs s.expr.kids),S s.fn,.sl 8 none (s.args.map Ag.enc),.sl 15 none (St.encs s.thn),.sl 15 none (St.encs s.els)])).set b (.cells [I (m - 1)]))=H2 at*
  rw[lF,cC]
  refine wp_nrm (formQ (iSt f s (m - 1)) d b l k) ?_ ?_
  ·clear hb
   have out:∀(E':Env) (H':aj) (r:Bool×Int),E' 9=B r.1->H'.get b=some (.cells [I r.2])->r=iSt f s (m - 1)->(E' 1=I d/\E' 2=.ptr b 0/\E' 16=.sl 15 none (l.map St.enc)/\E' 17=I l.length/\E' 18=I k)->
    formQ (iSt f s (m - 1)) d b l k E' H':=fun E' H' r h1 h2 h3 h4=>⟨r,h3,h1,h2,h4⟩
   by_cases hn:shS F s=gW
   ·rw[hn]
    simp only[go_sem,rE,rA,rL]
    exact out _ _ (false,m - 1) (rfl) hb2 (iSt_nil hn).symm (⟨e1,e2,e16,e17,e18⟩)
   by_cases k1:s.kind=1
   ·have q:∀i:Int,i≠1->¬s.kind=i:=fun i hi=>by rw[k1];exact Ne.symm hi
    rw[zw k1]at hn⊢
    cases hc:s.rest1.noneB
    ·rw[hc]at hn;exact absurd rfl hn
    have hi:iSt f s (m - 1)=(bn s.name&&(s.expr.okD 4),m - 1):=by rw[iSt,if_pos k1,hc];rfl
    simp only[go_sem,rE,rA,rL,if_true]
    intro b9 hb9
    have hb9':=(ae H2 (.cells []) (al hb2 hb9)).trans hb2
    have d9:=al hb2 hb9
    refine ao (ij L s.name) (rfl) ?_
    cases h0:bn s.name
    ·simp only[go_sem,rE,rA,rL]
     exact out _ _ (false,m - 1) (rfl) (by simp only[go_sem,rE,rA,rL,d9,hb2]) (by rw[hi,h0];rfl) (⟨e1,e2,e16,e17,e18⟩)
    simp only[go_sem,rE,rA,rL]
    refine ao (j3 L T 4 (by omega) s.expr) (by simp only[go_sem,rE,rA,rL,Ex.enc_eq s.expr];rfl) ?_
    simp only[go_sem,rE,rA,rL]
    exact out _ _ (s.expr.okD 4,m - 1) (rfl) (by simp only[go_sem,rE,rA,rL,d9,hb2]) (by rw[hi,h0];rfl) (⟨e1,e2,e16,e17,e18⟩)
   by_cases k2:s.kind=2
   ·have q:∀i:Int,i≠2->¬s.kind=i:=fun i hi=>by rw[k2];exact Ne.symm hi
    rw[zu k2]at hn⊢
    cases hc:s.rest2.noneB
    ·rw[hc]at hn;exact absurd rfl hn
    have hi:iSt f s (m - 1)=(bn s.name&&(s.place.okB),m - 1):=by rw[iSt,if_neg (q 1 (by decide)),if_pos k2,hc];rfl
    simp only[go_sem,rE,rA,rL,if_true,T.s12,if_false]
    intro b9 hb9
    have hb9':=(ae H2 (.cells []) (al hb2 hb9)).trans hb2
    have d9:=al hb2 hb9
    refine ao (ij L s.name) (rfl) ?_
    cases h0:bn s.name
    ·simp only[go_sem,rE,rA,rL]
     exact out _ _ (false,m - 1) (rfl) (by simp only[go_sem,rE,rA,rL,d9,hb2]) (by rw[hi,h0];rfl) (⟨e1,e2,e16,e17,e18⟩)
    simp only[go_sem,rE,rA,rL]
    refine ao (ii L s.place) (by simp only[go_sem,rE,rA,rL,Pl.enc]) ?_
    simp only[go_sem,rE,rA,rL]
    exact out _ _ (s.place.okB,m - 1) (rfl) (by simp only[go_sem,rE,rA,rL,d9,hb2]) (by rw[hi,h0];rfl) (⟨e1,e2,e16,e17,e18⟩)
   by_cases k3:s.kind=3
   ·have q:∀i:Int,i≠3->¬s.kind=i:=fun i hi=>by rw[k3];exact Ne.symm hi
    rw[zt k3]at hn⊢
    cases hc:s.rest3.noneB
    ·rw[hc]at hn;exact absurd rfl hn
    have hi:iSt f s (m - 1)=(s.place.okB&&(s.expr.okD 4),m - 1):=by rw[iSt,if_neg (q 1 (by decide)),if_neg (q 2 (by decide)),if_pos k3,hc];rfl
    simp only[go_sem,rE,rA,rL,if_true,T.s13,T.s23,if_false]
    intro b9 hb9
    have hb9':=(ae H2 (.cells []) (al hb2 hb9)).trans hb2
    have d9:=al hb2 hb9
    refine ao (ii L s.place) (by simp only[go_sem,rE,rA,rL,Pl.enc]) ?_
    cases h0:s.place.okB
    ·simp only[go_sem,rE,rA,rL]
     exact out _ _ (false,m - 1) (rfl) (by simp only[go_sem,rE,rA,rL,d9,hb2]) (by rw[hi,h0];rfl) (⟨e1,e2,e16,e17,e18⟩)
    simp only[go_sem,rE,rA,rL]
    refine ao (j3 L T 4 (by omega) s.expr) (by simp only[go_sem,rE,rA,rL,Ex.enc_eq s.expr];rfl) ?_
    simp only[go_sem,rE,rA,rL]
    exact out _ _ (s.expr.okD 4,m - 1) (rfl) (by simp only[go_sem,rE,rA,rL,d9,hb2]) (by rw[hi,h0];rfl) (⟨e1,e2,e16,e17,e18⟩)
   by_cases k4:s.kind=4
   ·have q:∀i:Int,i≠4->¬s.kind=i:=fun i hi=>by rw[k4];exact Ne.symm hi
    rw[zr k4]at hn⊢
    cases hc:s.rest4.noneB
    ·rw[hc]at hn;exact absurd rfl hn
    have hi:iSt f s (m - 1)=(bn s.name&&(bn s.fn&&(eL s.args)),m - 1):=by rw[iSt,if_neg (q 1 (by decide)),if_neg (q 2 (by decide)),if_neg (q 3 (by decide)),if_pos k4,hc];rfl
    simp only[go_sem,rE,rA,rL,if_true,T.s14,T.s24,T.s34,if_false]
    intro b9 hb9
    have hb9':=(ae H2 (.cells []) (al hb2 hb9)).trans hb2
    have d9:=al hb2 hb9
    refine ao (ij L s.name) (rfl) ?_
    cases h0:bn s.name
    ·simp only[go_sem,rE,rA,rL]
     exact out _ _ (false,m - 1) (rfl) (by simp only[go_sem,rE,rA,rL,d9,hb2]) (by rw[hi,h0];rfl) (⟨e1,e2,e16,e17,e18⟩)
    simp only[go_sem,rE,rA,rL]
    refine ao (ij L s.fn) (rfl) ?_
    cases h1:bn s.fn
    ·simp only[go_sem,rE,rA,rL]
     exact out _ _ (false,m - 1) (rfl) (by simp only[go_sem,rE,rA,rL,d9,hb2]) (by rw[hi,h0,h1];rfl) (⟨e1,e2,e16,e17,e18⟩)
    simp only[go_sem,rE,rA,rL]
    refine ao (yU L T s.args) (rfl) ?_
    simp only[go_sem,rE,rA,rL]
    exact out _ _ (eL s.args,m - 1) (rfl) (by simp only[go_sem,rE,rA,rL,d9,hb2]) (by rw[hi,h0,h1];rfl) (⟨e1,e2,e16,e17,e18⟩)
   by_cases k5:s.kind=5
   ·have q:∀i:Int,i≠5->¬s.kind=i:=fun i hi=>by rw[k5];exact Ne.symm hi
    rw[zq k5]at hn⊢
    cases hc:s.rest5.noneB
    ·rw[hc]at hn;exact absurd rfl hn
    simp only[go_sem,rE,rA,rL,if_true,T.s15,T.s25,T.s35,T.s45,if_false]
    intro b9 hb9
    have d9:=al hb2 hb9
    refine ao (j3 L T 4 (by omega) s.expr) (by simp only[go_sem,rE,rA,rL,Ex.enc_eq s.expr];rfl) ?_
    cases h0:s.expr.okD 4
    ·simp only[go_sem,rE,rA,rL]
     exact out _ _ (false,m - 1) (rfl) (by simp only[go_sem,rE,rA,rL,d9,hb2]) (by rw[iSt,if_neg (q 1 (by decide)),if_neg (q 2 (by decide)),if_neg (q 3 (by decide)),if_neg (q 4 (by decide)),if_pos k5,hc,h0];rfl) (⟨e1,e2,e16,e17,e18⟩)
    have hb9':=(ae H2 (.cells [I s.expr.kind,I s.expr.num,S s.expr.place.name,au s.expr.place.path,.sl 5 none (Ex.encs s.expr.kids),.sl 15 none (St.encs s.thn),.sl 15 none (St.encs s.els)]) d9).trans hb2
    have g9:=ai H2 b9 (.cells [I s.expr.kind,I s.expr.num,S s.expr.place.name,au s.expr.place.path,.sl 5 none (Ex.encs s.expr.kids),.sl 15 none (St.encs s.thn),.sl 15 none (St.encs s.els)])
    simp only[go_sem,rE,rA,rL,e1,e2,wd,hdd]
    have ht:=hf s.thn (m - 1)
    refine vg (ih hd1 s.thn (m - 1) b (by omega) (by omega) (by omega)) (by simp only[go_sem,rE,rA,rL,hdd,wd]) hb9' (by simp) trivial ?_
    have hi:iSt f s (m - 1)=if(f s.thn (m - 1)).1 then f s.els (f s.thn (m - 1)).2 else(false,(f s.thn (m - 1)).2):=by rw[iSt,if_neg (q 1 (by decide)),if_neg (q 2 (by decide)),if_neg (q 3 (by decide)),if_neg (q 4 (by decide)),if_pos k5,hc,h0];rfl
    generalize f s.thn (m - 1)=r1 at*
    obtain⟨ok1,m1⟩:=r1
    simp only at hi ht
    cases ok1
    ·simp only[go_sem,rE,rA,rL]
     exact out _ _ (false,m1) (by simp only[go_sem,rE,rA,rL]) (by simp only[go_sem,rE,rA,rL]) (by rw[hi];rfl) (by simp only[go_sem,rE,rA,rL,e1,e2,e16,e17,e18,and_self])
    simp only[go_sem,rE,rA,rL,e1,e2,wd,hdd,d9,Ne.symm d9,g9]
    refine vg (ih hd1 s.els m1 b (by omega) (by omega) (by omega)) (by simp only[go_sem,rE,rA,rL,hdd,wd]) (ai _ _ _) (by simp) trivial ?_
    simp only[go_sem,rE,rA,rL]
    exact out _ _ (f s.els m1) (by simp only[go_sem,rE,rA,rL]) (by simp only[go_sem,rE,rA,rL]) (by rw[hi];rfl) (by simp only[go_sem,rE,rA,rL,e1,e2,e16,e17,e18,and_self])
   by_cases k6:s.kind=6
   ·have q:∀i:Int,i≠6->¬s.kind=i:=fun i hi=>by rw[k6];exact Ne.symm hi
    rw[zp k6]at hn⊢
    cases hc:s.rest6.noneB
    ·rw[hc]at hn;exact absurd rfl hn
    have hi:iSt f s (m - 1)=(bn s.name&&(s.place.okB&&(s.other.okB&&(s.expr.okD 4))),m - 1):=by rw[iSt,if_neg (q 1 (by decide)),if_neg (q 2 (by decide)),if_neg (q 3 (by decide)),if_neg (q 4 (by decide)),if_neg (q 5 (by decide)),if_pos k6,hc];rfl
    simp only[go_sem,rE,rA,rL,if_true,T.s16,T.s26,T.s36,T.s46,T.s56,if_false]
    intro b9 hb9
    have hb9':=(ae H2 (.cells []) (al hb2 hb9)).trans hb2
    have d9:=al hb2 hb9
    refine ao (ij L s.name) (rfl) ?_
    cases h0:bn s.name
    ·simp only[go_sem,rE,rA,rL]
     exact out _ _ (false,m - 1) (rfl) (by simp only[go_sem,rE,rA,rL,d9,hb2]) (by rw[hi,h0];rfl) (⟨e1,e2,e16,e17,e18⟩)
    simp only[go_sem,rE,rA,rL]
    refine ao (ii L s.place) (by simp only[go_sem,rE,rA,rL,Pl.enc]) ?_
    cases h1:s.place.okB
    ·simp only[go_sem,rE,rA,rL]
     exact out _ _ (false,m - 1) (rfl) (by simp only[go_sem,rE,rA,rL,d9,hb2]) (by rw[hi,h0,h1];rfl) (⟨e1,e2,e16,e17,e18⟩)
    simp only[go_sem,rE,rA,rL]
    refine ao (ii L s.other) (by simp only[go_sem,rE,rA,rL,Pl.enc]) ?_
    cases h2:s.other.okB
    ·simp only[go_sem,rE,rA,rL]
     exact out _ _ (false,m - 1) (rfl) (by simp only[go_sem,rE,rA,rL,d9,hb2]) (by rw[hi,h0,h1,h2];rfl) (⟨e1,e2,e16,e17,e18⟩)
    simp only[go_sem,rE,rA,rL]
    refine ao (j3 L T 4 (by omega) s.expr) (by simp only[go_sem,rE,rA,rL,Ex.enc_eq s.expr];rfl) ?_
    simp only[go_sem,rE,rA,rL]
    exact out _ _ (s.expr.okD 4,m - 1) (rfl) (by simp only[go_sem,rE,rA,rL,d9,hb2]) (by rw[hi,h0,h1,h2];rfl) (⟨e1,e2,e16,e17,e18⟩)
   exact absurd (shS_0 (by omega)) hn
  ·rintro E' H' ⟨r,hr,f9,hb',f1,f2,f16,f17,f18⟩
   rw[<-hr]at hit
   have hbd:=BQ (f:=f) (s:=s) (fun l n _=>hf l n) (m - 1)
   rw[<-hr]at hbd
   obtain⟨ok,m2⟩:=r
   simp only at f9 hb' hit hbd
   cases ok
   ·simp only[go_sem,rE,rA,rL,f9]
    exact fin _ _ (false,m2) (rfl) hb' (by rw[hdt];simpa using hit)
   ·simp only[go_sem,rE,rA,rL,f9,f18,w1]
    refine⟨hk1,H',aj.sub_refl _,m2,hb',f1,f2,f16,f17,rfl,by omega,by omega,by rw[hdt];simpa using hit⟩
 ·have hkk:k=l.length:=by omega
  subst hkk
  simp only[go_sem,rE]
  rw[l8]at hit
  exact fin _ _ (true,m) (rfl) hb hit
theorem rU(L:Lib P F)(T:Tys F):∀(d:Nat),d<=100->∀(l:List St) (n:Int) (b:Nat),bx l<=2^20->-(2^29)<=n->n<=2^20->
 bD P F.i_stmtsForm [.sl 15 none (St.encs l),I d,.ptr b 0] (one b (.cells [I n])) fun q H'=>q=B (fm d l n).1/\H'=one b (.cells [I (fm d l n).2])
 |0,hd,l,n,b,h1,h2,h3=>by
  have e:∀(l:List St) (n:Int),fm 0 l n=fT (decide (1<=0)) (iSt fun _ n=>(false,n)) l n:=fun l n=>by cases l<;>simp[fm,fT]
  rw[e]
  exact qI L T 0 hd (fun _ n=>(false,n)) (fun l n=>by simp only;omega) (fun h=>by omega) l n b h1 h2 h3
 |d+1,hd,l,n,b,h1,h2,h3=>
  qI L T (d+1) hd (fm d) (xg d) (fun _=>rU L T d (by omega)) l n b h1 h2 h3
end
theorem wH:bn (bl [])=false:=rfl
theorem xM{l:List Ag}(h:l.length=0):eL l=true:=by
 rw[bu h];rfl
theorem iSt_1{f:List St->Int->Bool×Int}{s:St}{n:Int}(h:s.kind=1):iSt f s n=(s.rest1.noneB&&(bn s.name&&s.expr.okD 4),n):=by
 have q:∀i:Int,i≠1->¬s.kind=i:=fun i hi=>by rw[h];exact Ne.symm hi
 rw[iSt,if_pos h]
theorem iSt_2{f:List St->Int->Bool×Int}{s:St}{n:Int}(h:s.kind=2):iSt f s n=(s.rest2.noneB&&(bn s.name&&s.place.okB),n):=by
 have q:∀i:Int,i≠2->¬s.kind=i:=fun i hi=>by rw[h];exact Ne.symm hi
 rw[iSt,if_neg (q 1 (by decide)),if_pos h]
theorem iSt_3{f:List St->Int->Bool×Int}{s:St}{n:Int}(h:s.kind=3):iSt f s n=(s.rest3.noneB&&(s.place.okB&&s.expr.okD 4),n):=by
 have q:∀i:Int,i≠3->¬s.kind=i:=fun i hi=>by rw[h];exact Ne.symm hi
 rw[iSt,if_neg (q 1 (by decide)),if_neg (q 2 (by decide)),if_pos h]
theorem iSt_4{f:List St->Int->Bool×Int}{s:St}{n:Int}(h:s.kind=4):iSt f s n=(s.rest4.noneB&&(bn s.name&&(bn s.fn&&eL s.args)),n):=by
 have q:∀i:Int,i≠4->¬s.kind=i:=fun i hi=>by rw[h];exact Ne.symm hi
 rw[iSt,if_neg (q 1 (by decide)),if_neg (q 2 (by decide)),if_neg (q 3 (by decide)),if_pos h]
theorem iSt_5{f:List St->Int->Bool×Int}{s:St}{n:Int}(h:s.kind=5):iSt f s n=if s.rest5.noneB&&s.expr.okD 4 then(if(f s.thn n).1 then f s.els (f s.thn n).2 else(false,(f s.thn n).2))else(false,n):=by
 have q:∀i:Int,i≠5->¬s.kind=i:=fun i hi=>by rw[h];exact Ne.symm hi
 rw[iSt,if_neg (q 1 (by decide)),if_neg (q 2 (by decide)),if_neg (q 3 (by decide)),if_neg (q 4 (by decide)),if_pos h]
theorem iSt_6{f:List St->Int->Bool×Int}{s:St}{n:Int}(h:s.kind=6):iSt f s n=(s.rest6.noneB&&(bn s.name&&(s.place.okB&&(s.other.okB&&s.expr.okD 4))),n):=by
 have q:∀i:Int,i≠6->¬s.kind=i:=fun i hi=>by rw[h];exact Ne.symm hi
 rw[iSt,if_neg (q 1 (by decide)),if_neg (q 2 (by decide)),if_neg (q 3 (by decide)),if_neg (q 4 (by decide)),if_neg (q 5 (by decide)),if_pos h]
theorem gB(k:Int)(n:ByteArray)(p o:Pl)(e:Ex)(f:ByteArray)(as:List Ag)(t l:List St):(St.mk k n p o e f as t l).noneB=(decide (k=0)&&(decide (n=bl [])&&(p.noneB&&(o.noneB&&(e.noneB&&(decide (f=bl [])&&(decide (as.length=0)&&(decide (t.length=0)&&decide (l.length=0))))))))):=rfl
theorem nN{Bd:List St->Bool}{s:St}{x:Bool}(h5:s.kind≠5)(n:Int)(hn:0<=n)(h:x=de Bd s)(hs:bN s.thn+bN s.els+1=s.num):
 ((x,n):Bool×Int).1=(de Bd s&&decide ((s.num:Int) - 1<=n))/\(((x,n):Bool×Int).1=true->((x,n):Bool×Int).2=n - ((s.num:Int) - 1)):=by
 subst h
 have key:de Bd s=true->s.num=1:=by
  intro h
  simp only[de,stD,if_neg h5,aw,decide_eq_true_eq]at h
  have h1:s.thn=[]:=bu (by omega)
  have h2:s.els=[]:=bu (by omega)
  rw[h1,h2,fY]at hs;omega
 cases ho:de Bd s
 ·simp
 ·have:=key ho
  simp[this,hn]
theorem BP(d:Nat)(s:St)(n:Int)(hn:0<=n)(h:∀l n,(l=s.thn\/l=s.els)->s.kind=5->0<=n->n<=40->(fm d l n).1=(cb d l&&decide ((bN l:Int)<=n))/\((fm d l n).1=true->(fm d l n).2=n - bN l))(hn2:n<=40):
 (iSt (fm d) s n).1=(de (cb d) s&&decide ((s.num:Int) - 1<=n))/\((iSt (fm d) s n).1=true->(iSt (fm d) s n).2=n - ((s.num:Int) - 1)):=by
 have hs:bN s.thn+bN s.els+1=s.num:=by have:=ml s;omega
 have an:=@xM s.args
 have p0:P0.noneB=true:=rfl
 have e0:E0.noneB=true:=rfl
 by_cases k1:s.kind=1
 ·rw[iSt_1 k1]
  refine nN (by rw[k1];decide) n hn ?_ hs
  clear hs h
  rw[aZ]
  simp only[de,stA,stB,kZ,stD,isN,isP,isE,St.rest1,gB,k1,bp,dO,decide_true,decide_false,dK,dZ,dI,gP,if_true,if_false,reduceIte,ap,aw,decide_eq_true_eq]
  simp only[p0,e0,true_and,and_self,cN,dT,dJ]at an⊢
  constructor
  ·rintro⟨⟨h1,h2,h3,h4,h5,h6⟩,h7,h8⟩;simp_all
  ·rintro⟨h1,h2,h3,h4⟩;simp_all
 by_cases k2:s.kind=2
 ·rw[iSt_2 k2]
  refine nN (by rw[k2];decide) n hn ?_ hs
  clear hs h
  rw[aZ]
  simp only[de,stA,stB,kZ,stD,isN,isP,isE,St.rest2,gB,k2,bp,dO,decide_true,decide_false,dK,dZ,dI,gP,if_true,if_false,reduceIte,ap,aw,decide_eq_true_eq]
  simp only[p0,e0,true_and,and_self,cN,dT,dJ]at an⊢
  constructor
  ·rintro⟨⟨h1,h2,h3,h4,h5,h6⟩,h7,h8⟩;simp_all
  ·rintro⟨h1,h2,h3,h4⟩;simp_all
 by_cases k3:s.kind=3
 ·rw[iSt_3 k3]
  refine nN (by rw[k3];decide) n hn ?_ hs
  clear hs h
  rw[aZ]
  simp only[de,stA,stB,kZ,stD,isN,isP,isE,St.rest3,gB,k3,bp,dO,decide_true,decide_false,dK,dZ,dI,gP,if_true,if_false,reduceIte,ap,aw,decide_eq_true_eq]
  simp only[p0,e0,true_and,and_self,cN,dT,dJ]at an⊢
  constructor
  ·rintro⟨⟨h1,h2,h3,h4,h5,h6⟩,h7,h8⟩;simp_all [wH]
  ·rintro⟨h1,h2,h3,h4⟩;simp_all
 by_cases k4:s.kind=4
 ·rw[iSt_4 k4]
  refine nN (by rw[k4];decide) n hn ?_ hs
  clear hs h
  rw[aZ]
  simp only[de,stA,stB,kZ,stD,isN,isP,isE,St.rest4,gB,k4,bp,dO,decide_true,decide_false,dK,dZ,dI,gP,if_true,if_false,reduceIte,ap,aw,decide_eq_true_eq]
  simp only[p0,e0,true_and,and_self,cN,dT,dJ]at an⊢
  constructor
  ·rintro⟨⟨h1,h2,h3,h4,h5⟩,h6,h7,h8⟩;simp_all
  ·rintro⟨h1,h2,h3,h4⟩;simp_all
 by_cases k6:s.kind=6
 ·rw[iSt_6 k6]
  refine nN (by rw[k6];decide) n hn ?_ hs
  clear hs h
  rw[aZ]
  simp only[de,stA,stB,kZ,stD,isN,isP,isE,St.rest6,gB,k6,bp,dO,decide_true,decide_false,dK,dZ,dI,gP,if_true,if_false,reduceIte,ap,aw,decide_eq_true_eq]
  simp only[p0,e0,true_and,and_self,cN,dT,dJ]at an⊢
  constructor
  ·rintro⟨⟨h1,h2,h3,h4⟩,h5,h6,h7,h8⟩;simp_all
  ·rintro⟨h1,h2,h3,h4⟩;simp_all
 by_cases k5:s.kind=5
 ·have hg:de (cb d) s=((s.rest5.noneB&&s.expr.okD 4)&&(cb d s.thn&&cb d s.els)):=by
   clear hs h
   rw[aZ]
   simp only[de,stA,stB,kZ,stD,isN,isP,isE,St.rest5,gB,k5,bp,dO,decide_true,decide_false,dK,dZ,dI,gP,if_true,if_false,reduceIte,ap,aw,decide_eq_true_eq]
   simp only[p0,e0,true_and,and_self,cN,dT,dJ]at an⊢
   constructor
   ·rintro⟨h1,h2,h3,h4⟩;simp_all
   ·intro h;simp_all [wH]
  rw[iSt_5 k5,hg]
  generalize(s.rest5.noneB&&s.expr.okD 4)=c at*
  generalize s.thn=t at*
  generalize s.els=l at*
  generalize s.num=N at*
  have ht:=h t n (.inl rfl) k5 hn hn2
  cases c
  ·simp
  ·simp only[if_true,bX]
   rw[ht.1]
   cases hb:cb d t&&decide ((bN t:Int)<=n)
   ·simp only[ap,if_false]
    refine⟨?_,by simp⟩
    rw[cO]at hb
    rcases hb with hb|hb
    ·rw[hb];simp
    ·simp only[decide_eq_false_iff_not]at hb
     rw[show decide ((N:Int) - 1<=n)=false from decide_eq_false (by omega),aO]
   ·simp only[aw,decide_eq_true_eq]at hb
    rw[ht.2 (by rw[ht.1,hb.1];simpa using hb.2)]
    have hl:=h l (n - bN t) (.inr rfl) k5 (by omega) (by omega)
    simp only[if_true]
    refine⟨?_,fun ho=>?_⟩
    ·rw[hl.1,hb.1,bX]
     congr 1
     rw[decide_eq_decide];omega
    ·rw[hl.2 ho];omega
 ·have hi:iSt (fm d) s n=(false,n):=by
   rw[iSt,if_neg k1,if_neg k2,if_neg k3,if_neg k4,if_neg k5,if_neg k6]
  have hg:de (cb d) s=false:=by
   have hk:¬(1<=s.kind/\s.kind<=6):=by omega
   simp only[de,stD,if_neg k5,decide_eq_false hk,aK,aO]
  rw[hi,hg];simp
theorem tt{d:Nat}:∀(l:List St) (n:Int),0<=n->n<=40->(∀s∈l,∀n,0<=n->n<=40->(iSt (fm d) s n).1=(de (cb d) s&&decide ((s.num:Int) - 1<=n))/\((iSt (fm d) s n).1=true->(iSt (fm d) s n).2=n - ((s.num:Int) - 1)))->
 (fT true (iSt (fm d)) l n).1=(l.all (de (cb d))&&decide ((bN l:Int)<=n))/\((fT true (iSt (fm d)) l n).1=true->(fT true (iSt (fm d)) l n).2=n - bN l)
 |[],n,hn,_,_=>by simp[fT,fY,hn]
 |s::l,n,hn,hn2,h=>by
  have h1:1<=s.num:=by rw[ml];omega
  rw[fT,gq,List.all_cons,bX]
  by_cases h0:0<=n - 1
  ·have hs:=h s (by simp) (n - 1) h0 (by omega)
   rw[decide_eq_true h0]
   simp only[if_true]
   cases ho:(iSt (fm d) s (n - 1)).1
   ·simp only[ap,if_false]
    refine⟨?_,by simp⟩
    rw[ho]at hs
    have hs1:=hs.1.symm
    rw[cO]at hs1
    rcases hs1 with h2|h2
    ·rw[h2];simp
    ·simp only[decide_eq_false_iff_not]at h2
     rw[show decide (((s.num+bN l:Nat):Int)<=n)=false from decide_eq_false (by omega),aO]
   ·have h2:=hs.2 ho
    have h3:=hs.1
    rw[ho]at h3
    have h3:=h3.symm
    simp only[aw,decide_eq_true_eq]at h3
    have hl:=tt l (iSt (fm d) s (n - 1)).2 (by omega) (by omega) fun x hx=>h x (by simp[hx])
    rw[h2]at hl⊢
    simp only[if_true]
    refine⟨?_,fun ho=>?_⟩
    ·rw[hl.1,h3.1,bX]
     congr 1
     rw[decide_eq_decide];omega
    ·rw[hl.2 ho];omega
  ·rw[decide_eq_false h0]
   simp only[ap,if_false]
   refine⟨?_,by simp⟩
   rw[show decide (((s.num+bN l:Nat):Int)<=n)=false from decide_eq_false (by omega),aO]
theorem St.sm.kids{i:Nat}{s:St}(h:s.sm (i+1)):(∀x∈s.thn,x.sm i)/\∀x∈s.els,x.sm i:=by
 cases h with|mk he ha ht hl=>exact⟨ht,hl⟩
theorem tu:∀(d i:Nat) (l:List St) (n:Int),i+1<=d->(∀s∈l,s.sm i)->0<=n->n<=40->
 (fm d l n).1=(cb d l&&decide ((bN l:Int)<=n))/\((fm d l n).1=true->(fm d l n).2=n - bN l)
 |0,i,l,n,h,_,_,_=>by omega
 |d+1,i,l,n,hd,hs,hn,hn2=>by
  have key:=tt (d:=d) l n hn hn2 fun s hx n hn hn2=>BP d s n hn (fun l' n hl _ hn hn2=>by
   have h:=hs s hx
   cases i with
   |zero=>cases h
   |succ i=>
    have hk:=h.kids
    exact tu d i l' n (by omega) (by rcases hl with rfl|rfl;exact hk.1;exact hk.2) hn hn2) hn2
  refine⟨?_,key.2⟩
  rw[fm,key.1,cb]
  have hlen:=tO l
  by_cases h40:(bN l:Int)<=n
  ·rw[show decide (l.length<=40)=true from decide_eq_true (by omega),bX]
  ·rw[decide_eq_false h40,aO,aO]
theorem iBody4{l:List St}(h:∀s∈l,s.sm 3):(fm 4 l 40).1=(cb 4 l&&decide (bN l<=40)):=by
 rw[(tu 4 3 l 40 (by omega) h (by omega) (by omega)).1]
 congr 1
 rw[decide_eq_decide];omega
inductive StW(Bd:List St->Bool)(s:St):Prop
 |k1 (h:s.kind=1) (r:s.rest1.noneB=true) (n:bn s.name=true) (e:s.expr.okD 4=true)
 |k2 (h:s.kind=2) (r:s.rest2.noneB=true) (n:bn s.name=true) (p:s.place.okB=true)
 |k3 (h:s.kind=3) (r:s.rest3.noneB=true) (p:s.place.okB=true) (e:s.expr.okD 4=true)
 |k4 (h:s.kind=4) (r:s.rest4.noneB=true) (n:bn s.name=true) (f:bn s.fn=true) (a:eL s.args=true)
 |k5 (h:s.kind=5) (r:s.rest5.noneB=true) (e:s.expr.okD 4=true) (t:Bd s.thn=true) (l:Bd s.els=true)
 |k6 (h:s.kind=6) (r:s.rest6.noneB=true) (n:bn s.name=true) (p:s.place.okB=true) (o:s.other.okB=true) (e:s.expr.okD 4=true)
theorem stW{Bd:List St->Bool}{s:St}(h:de Bd s=true):StW Bd s:=by
 have an:=@xM s.args
 have p0:P0.noneB=true:=rfl
 have e0:E0.noneB=true:=rfl
 by_cases k1:s.kind=1
 ·simp only[de,stA,stB,kZ,stD,isN,isP,isE,k1,bp,dO,decide_true,decide_false,dK,dZ,dI,gP,if_true,if_false,reduceIte,ap,aw,decide_eq_true_eq]at h
  have hr:s.rest1.noneB=true/\bn s.name=true/\s.expr.okD 4=true:=by
   simp only[St.rest1,gB,aw,decide_eq_true_eq]
   simp only[p0,e0,true_and,and_self,cN,dT,dJ]at an h⊢
   simp_all
  exact .k1 k1 hr.1 hr.2.1 hr.2.2
 by_cases k2:s.kind=2
 ·simp only[de,stA,stB,kZ,stD,isN,isP,isE,k2,bp,dO,decide_true,decide_false,dK,dZ,dI,gP,if_true,if_false,reduceIte,ap,aw,decide_eq_true_eq]at h
  have hr:s.rest2.noneB=true/\bn s.name=true/\s.place.okB=true:=by
   simp only[St.rest2,gB,aw,decide_eq_true_eq]
   simp only[p0,e0,true_and,and_self,cN,dT,dJ]at an h⊢
   simp_all
  exact .k2 k2 hr.1 hr.2.1 hr.2.2
 by_cases k3:s.kind=3
 ·simp only[de,stA,stB,kZ,stD,isN,isP,isE,k3,bp,dO,decide_true,decide_false,dK,dZ,dI,gP,if_true,if_false,reduceIte,ap,aw,decide_eq_true_eq]at h
  have hr:s.rest3.noneB=true/\s.place.okB=true/\s.expr.okD 4=true:=by
   simp only[St.rest3,gB,aw,decide_eq_true_eq]
   simp only[p0,e0,true_and,and_self,cN,dT,dJ]at an h⊢
   simp_all
  exact .k3 k3 hr.1 hr.2.1 hr.2.2
 by_cases k4:s.kind=4
 ·simp only[de,stA,stB,kZ,stD,isN,isP,isE,k4,bp,dO,decide_true,decide_false,dK,dZ,dI,gP,if_true,if_false,reduceIte,ap,aw,decide_eq_true_eq]at h
  have hr:s.rest4.noneB=true/\bn s.name=true/\bn s.fn=true/\eL s.args=true:=by
   simp only[St.rest4,gB,aw,decide_eq_true_eq]
   simp only[p0,e0,true_and,and_self,cN,dT,dJ]at an h⊢
   simp_all
  exact .k4 k4 hr.1 hr.2.1 hr.2.2.1 hr.2.2.2
 by_cases k6:s.kind=6
 ·simp only[de,stA,stB,kZ,stD,isN,isP,isE,k6,bp,dO,decide_true,decide_false,dK,dZ,dI,gP,if_true,if_false,reduceIte,ap,aw,decide_eq_true_eq]at h
  have hr:s.rest6.noneB=true/\bn s.name=true/\s.place.okB=true/\s.other.okB=true/\s.expr.okD 4=true:=by
   simp only[St.rest6,gB,aw,decide_eq_true_eq]
   simp only[p0,e0,true_and,and_self,cN,dT,dJ]at an h⊢
   simp_all
  exact .k6 k6 hr.1 hr.2.1 hr.2.2.1 hr.2.2.2.1 hr.2.2.2.2
 by_cases k5:s.kind=5
 ·simp only[de,stA,stB,kZ,stD,isN,isP,isE,k5,bp,dO,decide_true,decide_false,dK,dZ,dI,gP,if_true,if_false,reduceIte,ap,aw,decide_eq_true_eq]at h
  have hr:s.rest5.noneB=true/\s.expr.okD 4=true/\Bd s.thn=true/\Bd s.els=true:=by
   simp only[St.rest5,gB,aw,decide_eq_true_eq]
   simp only[p0,e0,true_and,and_self,cN,dT,dJ]at an h⊢
   simp_all
  exact .k5 k5 hr.1 hr.2.1 hr.2.2.1 hr.2.2.2
 ·simp only[de,stD,if_neg k5,aw,decide_eq_true_eq]at h
  omega
theorem jG{p:Pl}(h:p.okB=true):p.path.length<=2^30:=by
 simp only[Pl.okB,gj,aw,decide_eq_true_eq]at h
 omega
theorem qh{as:List Ag}(h:eL as=true):(∀a∈as,a.okB=true)/\as.length<=4:=by
 simp only[eL,aw,decide_eq_true_eq,aW]at h
 exact⟨h.2,h.1⟩
theorem xZ{v:Sc}(h:v.good)(hh:v.held=[]){a:Sc×Int}{b:Sc->Sc×Int}{n m:Nat}(ha:a.2=0->v.step a.1 n)
(hb:∀w:Sc,w.good->w.held=[]->w.lost=v.lost->w.p=v.p->w.vars=v.vars->(b w).2=0->w.step (b w).1 m)(hz:(nJ v a b).2=0):v.step (nJ v a b).1 0:=by
 unfold nJ at hz⊢
 split at hz
 ·rename_i h0
  rw[if_pos h0]
  have s1:=ha h0
  split at hz
  ·rename_i h1
   rw[if_pos h1]
   obtain⟨g,hg⟩:=s1.giv
   have gg:∀(ns:List ByteArray),Sc.good {v with given:=v.given++ns}:=fun ns=>⟨fun y hy=>by simp only[fy,h.ok y hy,dZ],h.nd,h.len,h.hl,h.hp,h.lp,h.ll,h.ty⟩
   have s2:=hb {v with given:=a.1.given} (by rw[hg];exact gg g) hh rfl rfl rfl h1
   obtain⟨g',hg'⟩:=s2.giv
   have hgv:(b {v with given:=a.1.given}).1.given=v.given++(g++g'):=by rw[hg'];simp only;rw[hg,dY]
   have hc:(gC v.vars (v.vars.map (·.name)) [a.1.vars,(b {v with given:=a.1.given}).1.vars]).map Vr.core=v.vars.map Vr.core:=pR _ _ _
   refine⟨rfl,?_,hh,rfl,by simp only;rw[gD hc];omega,by simp only;rw[gD hc];omega,by simp only;rw[<-gD hc,aU];exact hc,g++g',hgv⟩
   exact(gg (g++g')).core hc hgv rfl
  ·rename_i h1;exact absurd hz h1
 ·rename_i h0;exact absurd hz h0
theorem hU:∀(d:Nat) (l:List St),cb d l=true->∀v:Sc,v.good->v.held=[]->v.lost=false->(∀f∈v.p,f.type.okB=true)->v.vars.length+100*d<=2^30->(v.stmts l).2=0->v.step (v.stmts l).1 l.length:=by
 intro d
 induction d with
 |zero=>intro l h;simp[cb]at h
 |succ d ih=>
  have one:∀s:St,de (cb d) s=true->∀v:Sc,v.good->v.held=[]->v.lost=false->(∀f∈v.p,f.type.okB=true)->v.vars.length+1+100*d<=2^30->(v.stmt s).2=0->v.step (v.stmt s).1 1:=by
   intro s hs v hv hh hl hp hn hz
   have se:=kl hv hh s.expr
   have su:=ow hv hh s.place
   rw[Sc.stmt_eq]at hz⊢
   rcases stW hs with⟨k,r,n,e⟩|⟨k,r,n,p⟩|⟨k,r,p,e⟩|⟨k,r,n,f,a⟩|⟨k,r,e,t,l⟩|⟨k,r,n,p,o,e⟩
   ·simp only[k,bp,if_true,if_false]at hz⊢
    split at hz
    ·rename_i h0
     rw[if_pos h0]
     have:=se.hi
     exact(se.trans (ls se.good se.held (x:=⟨s.name,false,false,(v.expr s.expr).2.1,[],false⟩) (iV _ hv) (by simp) (by simp) (by omega) hz)).mono (by omega)
    ·rename_i h0;exact absurd hz h0
   ·simp only[k,bp,if_true,if_false]at hz⊢
    split at hz
    ·rename_i h0
     rw[if_pos h0]
     have:=su.hi
     exact(su.trans (ls su.good su.held (x:=⟨s.name,true,false,(v.use s.place).2.1,[s.place],false⟩) (ja hv _) (by simp) (by simp;exact jG p) (by omega) hz)).mono (by omega)
    ·rename_i h0;exact absurd hz h0
   ·simp only[k,bp,if_true,if_false]at hz⊢
    split at hz
    ·rename_i h0
     rw[if_pos h0]
     exact(se.trans (ow se.good se.held s.place)).mono (by omega)
    ·rename_i h0;exact absurd hz h0
   ·simp only[k,bp,if_true,if_false]at hz⊢
    obtain⟨a1,a2⟩:=qh a
    exact yN hv hh hl a1 (by omega) hp (by omega) hz
   ·simp only[k,bp,if_true,if_false]at hz⊢
    rw[<-eB]at se
    split at hz
    ·rename_i h0
     rw[if_pos h0]
     have:=se.hi
     refine(se.trans (xZ se.good se.held (n:=s.thn.length) (m:=s.els.length) (fun hz'=>ih s.thn t _ se.good se.held (by rw[se.lost];exact hl) (by rw[se.p];exact hp) (by omega) hz') (fun w hw hwh hwl hwp hwv hwz=>?_) hz)).mono (by omega)
     exact ih s.els l w hw hwh (by rw[hwl,se.lost];exact hl) (by rw[hwp,se.p];exact hp) (by rw[hwv];omega) hwz
    ·rename_i h0;exact absurd hz h0
   ·simp only[k,bp,if_true,if_false]at hz⊢
    exact yn hv hh hl (jG p) (jG o) (by omega) hz
  have many:∀l:List St,(∀s∈l,de (cb d) s=true)->∀v:Sc,v.good->v.held=[]->v.lost=false->(∀f∈v.p,f.type.okB=true)->v.vars.length+l.length+100*d<=2^30->(v.stmts l).2=0->v.step (v.stmts l).1 l.length:=by
   intro l
   induction l with
   |nil=>intro _ v hv hh _ _ _ _;rw[eA];exact .refl hv hh
   |cons s l ihl=>
    intro hs v hv hh hl hp hn hz
    simp only[aV]at hn⊢
    rw[dG]at hz⊢
    split at hz
    ·rename_i h0
     rw[if_pos h0]
     have s1:=one s (hs s fI) v hv hh hl hp (by omega) h0
     have:=s1.hi
     exact(s1.trans (ihl (fun x hx=>hs x (dt _ hx)) _ s1.good s1.held (by rw[s1.lost];exact hl) (by rw[s1.p];exact hp) (by omega) hz)).mono (by omega)
    ·rename_i h0;exact absurd hz h0
  intro l hl v hv hh hlo hp hn hz
  simp only[cb,aw,decide_eq_true_eq,aW]at hl
  exact many l hl.2 v hv hh hlo hp (by omega) hz
def Mon(vs ws:List Vr):Prop:=∀i,dj vs i=true->dj ws i=true
theorem Mon.refl(vs:List Vr):Mon vs vs:=fun _ h=>h
theorem Mon.trans{a b c:List Vr}(h:Mon a b)(h':Mon b c):Mon a c:=fun i hi=>h' i (h i hi)
theorem Mon.map{vs:List Vr}{f:Vr->Vr}(hf:∀x,x.dead=true->(f x).dead=true):Mon vs (vs.map f):=fun i h=>by
 unfold dj at h⊢
 rw[cA]
 cases hx:vs[i]? with
 |none=>rw[hx]at h;simp at h
 |some x=>rw[hx]at h;exact hf x h
theorem Mon.append(vs ws:List Vr):Mon vs (vs++ws):=fun i h=>by
 unfold dj at h⊢
 cases hx:vs[i]? with
 |none=>rw[hx]at h;simp at h
 |some x=>
  obtain⟨hl,-⟩:=aQ.1 hx
  rw[aR hl,hx];rw[hx]at h;exact h
theorem Mon.endN(vs:List Vr)(n:ByteArray):Mon vs (iF vs n):=Mon.map fun x h=>by split<;>simp[h]
theorem xS:∀(ns:List ByteArray) (vs:List Vr),Mon vs (ns.foldl Go.Xl.iF vs)
 |[],vs=>.refl vs
 |n::ns,vs=>by rw[dC];exact(Mon.endN vs n).trans (xS ns _)
theorem Mon.use(v:Sc)(p:Pl):Mon v.vars (v.use p).1.vars:=by
 unfold Sc.use
 split
 ·exact xS _ _
 ·exact .refl _
theorem Mon.expr:∀(e:Ex) (v:Sc),Mon v.vars (v.expr e).1.vars
 |.mk k n p ks,v=>by
  rw[Sc.expr_eq]
  split
  ·exact .refl _
  ·split
   ·exact Mon.use v p
   ·split
    ·rename_i a b l
     have ha:=Mon.expr a v
     have hb:=ha.trans (Mon.expr b (v.expr a).1)
     split
     ·split
      ·split
       ·exact hb
       ·exact hb
      ·exact hb
     ·exact ha
    ·exact .refl _
termination_by e=>SizeOf.sizeOf e
theorem qR(v:Sc)(x:Vr):Mon v.vars (eI v x).1.vars:=by
 unfold eI
 split
 ·exact .refl _
 ·exact Mon.append _ _
theorem Mon.arg(v:Sc)(a:Ag)(p:Pa):Mon v.vars (iU v a p).1.vars:=by
 unfold iU
 split
 ·exact .refl _
 ·split
  ·exact Mon.use v a.place
  ·exact Mon.expr a.expr v
theorem Mon.args:∀(as:List Ag) (ps:List Pa) (v:Sc),Mon v.vars (dX v as ps).1.vars
 |[],_,v=>by simp only[dX];exact .refl _
 |_::_,[],v=>by simp only[dX];exact .refl _
 |a::as,p::ps,v=>by
  rw[dX]
  split
  ·exact(Mon.arg v a p).trans (Mon.args as ps _)
  ·exact Mon.arg v a p
theorem Mon.call(v:Sc)(n fn:ByteArray)(as:List Ag):Mon v.vars (ie v n fn as).1.vars:=by
 unfold ie
 split
 ·exact .refl _
 ·rename_i f hf
  split
  ·split
   ·refine(Mon.args as f.params v).trans ?_
    unfold gn
    split
    ·exact .refl _
    ·exact qR {(dX v as f.params).1 with held:=[],lost:=false} _
   ·exact Mon.args as f.params v
  ·exact .refl _
theorem Mon.pick(v:Sc)(n:ByteArray)(p o:Pl)(e:Ex):Mon v.vars (iD v n p o e).1.vars:=by
 have h0:Mon v.vars (v.number e).1.vars:=by rw[eB];exact Mon.expr e v
 unfold iD
 split
 ·refine h0.trans ?_
  unfold jh
  split
  ·refine(Mon.use _ p).trans ?_
   have h2:=Mon.use (((v.number e).1.use p).1.hold1 p) o
   unfold qz
   split
   ·split
    ·split
     ·exact h2
     ·exact h2.trans (qR ((((v.number e).1.use p).1.hold1 p).use o).1.clear _)
    ·exact h2
   ·exact h2
  ·exact Mon.use _ p
 ·exact h0
theorem Mon.joinW(n:ByteArray):∀(ws:List (List Vr)) (vs:List Vr),Mon vs (Go.Xl.jI vs n ws)
 |[],vs=>.refl _
 |w::ws,vs=>by
  have e:Go.Xl.jI vs n (w::ws)=Go.Xl.jI (if dW w n then Go.Xl.iF vs n else vs) n ws:=rfl
  rw[e]
  refine Mon.trans ?_ (Mon.joinW n ws _)
  split
  ·exact Mon.endN _ _
  ·exact .refl _
theorem Mon.join:∀(ns:List ByteArray) (vs:List Vr) (ws:List (List Vr)),Mon vs (gC vs ns ws)
 |[],vs,ws=>.refl _
 |n::ns,vs,ws=>by
  have e:gC vs (n::ns) ws=gC (Go.Xl.jI vs n ws) ns ws:=rfl
  rw[e]
  exact(Mon.joinW n ws vs).trans (Mon.join ns _ ws)
theorem Mon.ways(v:Sc)(t l:List St):Mon v.vars (v.ways t l).1.vars:=by
 unfold Sc.ways nJ
 split
 ·split
  ·exact Mon.join _ _ _
  ·exact .refl _
 ·exact .refl _
theorem Mon.stmt(v:Sc)(s:St):Mon v.vars (v.stmt s).1.vars:=by
 rw[Sc.stmt_eq]
 split
 ·split
  ·exact(Mon.expr _ v).trans (qR _ _)
  ·exact Mon.expr _ v
 split
 ·split
  ·exact(Mon.use v _).trans (qR _ _)
  ·exact Mon.use v _
 split
 ·split
  ·exact(Mon.expr _ v).trans (Mon.use _ _)
  ·exact Mon.expr _ v
 split
 ·exact Mon.call _ _ _ _
 split
 ·exact Mon.pick _ _ _ _ _
 have h0:Mon v.vars (v.number s.expr).1.vars:=by rw[eB];exact Mon.expr _ v
 split
 ·exact h0.trans (Mon.ways _ _ _)
 ·exact h0
theorem Mon.stmts:∀(l:List St) (v:Sc),Mon v.vars (v.stmts l).1.vars
 |[],v=>by rw[eA];exact .refl _
 |s::l,v=>by
  rw[dG]
  split
  ·exact(Mon.stmt v s).trans (Mon.stmts l _)
  ·exact Mon.stmt v s
theorem mH(v:Sc)(p:Pl):0<=(v.use p).2.2:=by
 unfold Sc.use
 have:0<=(eV v.vars p).2:=by
  unfold eV
  split
  ·simp
  ·split
   ·simp
   ·split<;>simp
 split<;>exact this
theorem lu:∀(e:Ex) (v:Sc),0<=(v.expr e).2.2
 |.mk k n p ks,v=>by
  rw[Sc.expr_eq]
  split
  ·simp
  ·split
   ·exact mH v p
   ·split
    ·rename_i a b l
     split
     ·split
      ·split
       ·split<;>simp
       ·simp only;split<;>simp
      ·exact lu b _
     ·exact lu a v
    ·simp
termination_by e=>SizeOf.sizeOf e
theorem tf(v:Sc)(e:Ex):0<=(v.number e).2:=by
 simp only[Sc.number]
 split
 ·simp only;split<;>simp
 ·exact lu e v
theorem oa(v:Sc)(x:Vr):0<=(eI v x).2:=by unfold eI;split<;>simp
theorem arg_pos(v:Sc)(a:Ag)(p:Pa):0<=(iU v a p).2:=by
 unfold iU
 split
 ·simp
 ·split
  ·simp only;split
   ·split<;>simp
   ·exact mH _ _
  ·simp only;split
   ·split<;>simp
   ·exact lu _ _
theorem xL:∀(as:List Ag) (ps:List Pa) (v:Sc),0<=(dX v as ps).2
 |[],_,v=>by simp[dX]
 |_::_,[],v=>by simp[dX]
 |a::as,p::ps,v=>by
  rw[dX]
  split
  ·exact xL as ps _
  ·exact arg_pos v a p
theorem Cc(v:Sc)(n fn:ByteArray)(as:List Ag):0<=(ie v n fn as).2:=by
 unfold ie
 split
 ·simp
 ·split
  ·split
   ·unfold gn
    split
    ·simp
    ·exact oa _ _
   ·exact xL _ _ _
  ·simp
theorem B8(v:Sc)(n:ByteArray)(p o:Pl)(e:Ex):0<=(iD v n p o e).2:=by
 unfold iD
 split
 ·unfold jh
  split
  ·unfold qz
   split
   ·split
    ·split
     ·simp
     ·exact oa _ _
    ·simp
   ·exact mH _ _
  ·exact mH _ _
 ·exact tf _ _
mutual
theorem Bq:∀(s:St) (v:Sc),0<=(v.stmt s).2
 |.mk k n p o e f as t l,v=>by
  rw[Sc.stmt_eq]
  split
  ·split
   ·exact oa _ _
   ·exact lu _ _
  split
  ·split
   ·exact oa _ _
   ·exact mH _ _
  split
  ·split
   ·simp only;split
    ·split<;>simp
    ·exact mH _ _
   ·exact lu _ _
  split
  ·exact Cc _ _ _ _
  split
  ·exact B8 _ _ _ _ _
  split
  ·unfold Sc.ways nJ
   split
   ·split
    ·simp
    ·exact kr l _
   ·exact kr t _
  ·exact tf _ _
termination_by s=>SizeOf.sizeOf s
theorem kr:∀(l:List St) (v:Sc),0<=(v.stmts l).2
 |[],v=>by rw[eA];simp
 |s::l,v=>by
  rw[dG]
  split
  ·exact kr l _
  ·exact Bq s v
termination_by l=>SizeOf.sizeOf l
end
theorem jC{v:En}(h:v.code≠0)(c:Int):(v.fail0 c).code=v.code:=by simp only[En.fail0];split<;>simp[iS h]
theorem oV{v a b:En}(h:v.code=0)(ha:0<=a.code)(hb:0<=b.code):(v.join a b).code=if a.code=0 then b.code else a.code:=by
 simp only[En.join,En.fail0,h,dx]
 by_cases h1:a.code=0
 ·simp only[h1,if_true]
  by_cases h2:b.code=0
  ·simp[h2]
  ·have:0<b.code:=by omega
   simp[this]
 ·have:0<a.code:=by omega
  simp[this,h1]
theorem y8(ws:List (List Vr)):∀(ns:List ByteArray) (vs:List Vr),∃L:List ByteArray,gC vs ns ws=L.foldl iF vs/\∀n,n∈L↔n∈ns/\∃w∈ws,dW w n=true:=by
 have one:∀(n:ByteArray) (ws:List (List Vr)) (vs:List Vr),∃L:List ByteArray,jI vs n ws=L.foldl iF vs/\∀m,m∈L↔m=n/\∃w∈ws,dW w n=true:=by
  intro n ws
  induction ws with
  |nil=>intro vs;exact⟨[],rfl,by simp⟩
  |cons w ws ih=>
   intro vs
   have e:jI vs n (w::ws)=jI (if dW w n then iF vs n else vs) n ws:=rfl
   obtain⟨L,h1,h2⟩:=ih (if dW w n then iF vs n else vs)
   by_cases hd:dW w n=true
   ·refine⟨n::L,by rw[e,h1,if_pos hd];rfl,fun m=>?_⟩
    simp only[bf,h2]
    constructor
    ·rintro(rfl|⟨rfl,w',hw',h⟩)
     ·exact⟨rfl,w,.inl rfl,hd⟩
     ·exact⟨rfl,w',.inr hw',h⟩
    ·rintro⟨rfl,-⟩;exact .inl rfl
   ·refine⟨L,by rw[e,h1,if_neg hd],fun m=>?_⟩
    simp only[bf,h2]
    constructor
    ·rintro⟨rfl,w',hw',h⟩;exact⟨rfl,w',.inr hw',h⟩
    ·rintro⟨rfl,w',rfl|hw',h⟩
     ·exact absurd h hd
     ·exact⟨rfl,w',hw',h⟩
 intro ns
 induction ns with
 |nil=>intro vs;exact⟨[],rfl,by simp⟩
 |cons n ns ih=>
  intro vs
  have e:gC vs (n::ns) ws=gC (jI vs n ws) ns ws:=rfl
  obtain⟨L1,a1,a2⟩:=one n ws vs
  obtain⟨L2,b1,b2⟩:=ih (jI vs n ws)
  refine⟨L1++L2,by rw[e,b1,a1,List.foldl_append],fun m=>?_⟩
  simp only[aF,a2,b2,bf]
  constructor
  ·rintro(⟨rfl,h⟩|⟨h,h'⟩)
   ·exact⟨.inl rfl,h⟩
   ·exact⟨.inr h,h'⟩
  ·rintro⟨rfl|h,h'⟩
   ·exact .inl ⟨rfl,h'⟩
   ·exact .inr ⟨h,h'⟩
theorem dW_at{vs ws:List Vr}(hnd:(ws.map (·.name)).Nodup)(hpre:(ws.take vs.length).map Vr.core=vs.map Vr.core){i:Nat}(hi:i<vs.length):dW ws vs[i].name=dj ws i:=by
 have hl:vs.length<=ws.length:=by
  have:=congrArg List.length hpre
  simp at this;omega
 have hiw:i<ws.length:=by omega
 have hn:ws[i].name=vs[i].name:=by
  have:=congrArg (·[i]?) hpre
  simp only[cA,dw hi,av hi,av hiw,ce,Option.some.injEq]at this
  have h:=congrArg Vr.name this
  exact h
 unfold dW dj
 rw[<-hn,vD hnd hiw,av hiw]
theorem yz{vs as bs:List Vr}(hva:(as.map (·.name)).Nodup)(hvb:(bs.map (·.name)).Nodup)(ha:(as.take vs.length).map Vr.core=vs.map Vr.core)(hb:(bs.take vs.length).map Vr.core=vs.map Vr.core)(hm:Mon vs as):
 fS vs as bs=gC vs (vs.map (·.name)) [as,bs]:=by
 obtain⟨L,h1,h2⟩:=y8 [as,bs] (vs.map (·.name)) vs
 rw[h1,oE]
 apply List.ext_getElem (by simp[fS])
 intro i h3 h4
 have hi:i<vs.length:=by simpa[fS]using h3
 simp only[fS,List.getElem_mapIdx,gX]
 have da:=dW_at hva ha hi
 have db:=dW_at hvb hb hi
 have hin:(L.any fun m=>eqB m vs[i].name)=true↔(dj as i=true\/dj bs i=true):=by
  rw[zN,h2,<-da,<-db]
  constructor
  ·rintro⟨-,w,hw,h⟩
   simp only[bf,cq,or_false]at hw
   rcases hw with rfl|rfl
   ·exact .inl h
   ·exact .inr h
  ·intro h
   refine⟨aY.2 ⟨vs[i],ay hi,rfl⟩,?_⟩
   rcases h with h|h
   ·exact⟨as,by simp,h⟩
   ·exact⟨bs,by simp,h⟩
 by_cases hc:(L.any fun m=>eqB m vs[i].name)=true
 ·rw[if_pos hc]
  have:=hin.1 hc
  have e:(dj as i||dj bs i)=true:=by simpa using this
  rw[e]
 ·rw[if_neg hc]
  have hn:¬(dj as i=true\/dj bs i=true):=fun h=>hc (hin.2 h)
  have e:(dj as i||dj bs i)=false:=by
   cases h1:dj as i<;>cases h2:dj bs i<;>simp[h1,h2]at hn⊢
  rw[e]
  have hd:vs[i].dead=false:=by
   cases hd:vs[i].dead with
   |false=>rfl
   |true=>
    have:=hm i (by unfold dj;rw[av hi];exact hd)
    simp[this]at e
  generalize vs[i]=x at*
  cases x
  simp only at hd
  subst hd
  rfl
end Go.Xl
