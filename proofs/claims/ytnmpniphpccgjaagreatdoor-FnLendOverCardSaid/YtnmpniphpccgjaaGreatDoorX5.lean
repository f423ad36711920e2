/- FnLendOver: a part of the proof. -/
import Derived.Test.YtnmpniphpccgjaaGreatDoorX4
set_option linter.unusedVariables false
set_option linter.unusedSimpArgs false
namespace Go.Xl
open _root_.Array renaming getD_eq_getD_getElem? -> ii, getElem?_eq_some_iff -> dt
open _root_.Bool renaming and_eq_true -> a6, eq_iff_iff -> bg, false_eq_true -> av, false_or -> df, not_eq_true' -> dC, not_false -> kT, true_and -> cb, true_or -> dY
open _root_.Int renaming eq_ofNat_of_zero_le -> cx, le_refl -> cX, natCast_zero -> cU, reduceBEq -> aG, reduceEq -> bw, reduceLE -> dX, toNat_natCast -> dj
open _root_.List renaming all_eq_true -> aV, any_append -> fj, any_eq_true -> fo, append_assoc -> eE, append_nil -> cB, eq_nil_of_length_eq_zero -> bu, ext_getElem? -> gB, flatten_cons -> aq, flatten_nil -> ay, getElem?_append_left -> aL, getElem?_append_right -> bn, getElem?_cons_succ -> aC, getElem?_cons_zero -> a7, getElem?_drop -> bW, getElem?_eq_getElem -> aw, getElem?_eq_none -> fU, getElem?_eq_some_iff -> aT, getElem?_take -> fl, getElem_map -> fW, getElem_mem -> ax, length_append -> bx, length_cons -> aU, length_filter_le -> eA, length_map -> am, length_nil -> bR, length_take -> bp, map_append -> bf, map_congr_left -> ew, map_cons -> aS, map_nil -> bD, map_take -> ip, mem_append -> aF, mem_cons -> be, mem_cons_of_mem -> dV, mem_cons_self -> eO, mem_filter -> bQ, mem_iff_getElem -> aZ, mem_map -> aY, mem_map_of_mem -> cu, mem_of_getElem? -> bj, mem_of_mem_drop -> gn, mem_of_mem_take -> bC, mem_or_eq_of_mem_set -> lx, mem_range -> eN, nil_append -> di, nodup_append -> eD, not_mem_nil -> ce, range -> dy, replicate -> az, take_append_drop -> iH, take_length -> aO, take_of_length_le -> cM, take_succ_eq_append_getElem -> aA
open _root_.Nat renaming reduceEqDiff -> rE, reduceAdd -> rA, reduceLeDiff -> rL, le_refl -> aD, le_trans -> bV, mul_le_mul_right -> bH, strongRecOn -> lM, zero_add -> cy, zero_le -> fN
open _root_.Option renaming map_some -> bK, ne_none_iff_exists' -> aH
open Go.Proofs
theorem qk(ns:List ByteArray)(n:ByteArray):mE (cR ns) n (I 1)=cR (n::ns):=by
 funext k
 by_cases hk:k=n
 ·subst hk;rw[jc];simp[cR,dH]
 ·rw[lc _ _ hk]
  have:eqB n k=false:=cL.2 (Ne.symm hk)
  simp[cR,this]
theorem xh(ns:List ByteArray)(n:ByteArray):cR (n::n::ns)=cR (n::ns):=by
 funext k
 simp only[cR,List.any_cons]
 by_cases h:eqB n k=true<;>simp[h]
theorem rp(ns:List ByteArray)(n:ByteArray):iO (.lit (.int .i64 0)) false (cR ns n)=I (if ns.any (fun m=>eqB m n)then 1 else 0):=by
 unfold cR
 cases ns.any fun m=>eqB m n<;>simp[iO]
def ken1(F:Ids):aW:=.loop (.seq (rg [pu 0 41 (.bin .lss 40 39)]) (.seq (.cond 41 .skip (.exit 2)) (.seq (.block 3 (.seq (rg [ia 0 42 2 38 40,ld 1 43 (some 2) 42,ef 2 10 (.alloc [.string (bl []),.slice none 0 0]),en 3 (.store 2 10 43)]) (.seq (rg [ld 0 44 (some 2) 10,ld 1 45 (some 2) 2,ca 2 46 33 [44,45],mv 3 47 46,gp 4 48 47 false (.move 4),gp 5 49 47 false (.fieldAddr 0 10),gl 6 50 47 false none 49,⟨7,some 51,some (47,false),.eff (.callX (.lookup (.lit (.int .i64 0)) false) [48,50]),[]⟩,gp 8 52 47 false (.bin .gtr 51 (ci 0)),pu 9 53 (.pick 47 ct 52)]) (.cond 53 (rg [mv 0 54 4,mv 1 55 7,en 2 (.callX .mapSet [54,55,ci 1])]) .skip)))) (rg [pu 0 56 (.bin .add 40 (ci 1)),mv 1 40 56]))))
def uz(F:Ids):aW:=.seq (rg [ld 0 14 none 1,nc 1 15 14,fa 2 16 1 15,ld 3 17 none 16,pu 4 18 (.lenSl 17),mv 5 19 (ci 0)]) (.block 0 (.loop (.seq (rg [pu 0 20 (.bin .lss 19 18)]) (.seq (.cond 20 .skip (.exit 0)) (.seq (.block 1 (.seq (rg [ia 0 21 1 17 19,ld 1 22 none 21,mv 2 7 22]) (.seq (rg [ld 0 23 none 1,nc 1 24 23,fa 2 25 2 24,ld 3 26 none 25,mv 4 27 7,ef 5 28 (.callX (.lookup (.agg [.lit (.slice none 0 0),.lit (.bool false),.lit (.bool false),.lit (.bool false),.lit (.bool false),.lit (.slice none 0 0)]) false) [26,27]),ef 6 8 (.alloc [.slice none 0 0,.bool false,.bool false,.bool false,.bool false,.slice none 0 0]),en 7 (.store 6 8 28)]) (.seq (.seq (rg [fa 0 29 3 8,ld 1 30 none 29,pu 2 31 (.not 30),mv 3 32 31,gp 4 33 32 false (.fieldAddr 2 8),gl 5 34 32 false none 33,gp 6 35 32 false (.not 34),pu 7 36 (.pick 32 ct 35)]) (.cond 36 (.exit 1) .skip)) (.seq (.seq (rg [fa 0 37 5 8,ld 1 38 none 37,pu 2 39 (.lenSl 38),mv 3 40 (ci 0)]) (.block 2 (ken1 F))) (.seq (rg [mv 0 57 4,mv 1 58 7,ef 2 59 (.callX (.lookup (.lit (.int .i64 0)) false) [57,58]),pu 3 60 (.bin .gtr 59 (ci 0))]) (.cond 60 (rg [mv 0 61 5,mv 1 62 7,⟨2,some 63,none,.lits 1 1 [.string (bl [])] [(0,(1,62))],[]⟩,ef 3 64 (.appendM 1 16 61 63),mv 4 5 64]) .skip))))))) (rg [pu 0 65 (.bin .add 19 (ci 1)),mv 1 19 65]))))))
section
variable {P:Program}{F:Ids}{er:bZ}
noncomputable def kL(p:Pl)(Es:List ByteArray)(qs:List Pl):Bool:=qs.any fun q=>q.meet p||Es.any fun m=>eqB m q.name
theorem ken1_wp(L:Lib P F){K:cS->Env->aj->Prop}{E:Env}{H:aj}{p:Pl}{qs:List Pl}{nm:ByteArray}{Es:List ByteArray}{mo c:Nat}(hp:p.path.length<=2^30)(hq:∀q∈qs,q.path.length<=2^30)(hql:qs.length<=2^30)
(e2:E 2=.ptr c 0)(e4:E 4=.mp mo)(e7:E 7=S nm)(e38:E 38=.sl 2 none (qs.map Pl.enc))(e39:E 39=I qs.length)(e40:E 40=I 0)(gc:H.get c=some (.cells [S p.name,au p.path]))(gm:H.get mo=some (.map (cR Es)))
(hK:∀E' H',E' 0=E 0->E' 1=E 1->E' 2=E 2->E' 3=E 3->E' 4=E 4->E' 5=E 5->E' 7=E 7->E' 17=E 17->E' 18=E 18->E' 19=E 19->H'.get mo=some (.map (cR (if kL p Es qs then nm::Es else Es)))->
  (∀d o,H.get d=some o->d≠mo->H'.get d=some o)->K (.exit 2) E' H'):(ken1 F).wp P K E H:=by
 unfold ken1
 have dcm:c≠mo:=by rintro rfl;rw[gc]at gm;simp at gm
 refine aQ qs.length (fun j E' H'=>(E' 0=E 0/\E' 1=E 1/\E' 2=.ptr c 0/\E' 3=E 3/\E' 4=.mp mo/\E' 5=E 5/\E' 7=S nm/\E' 17=E 17/\E' 18=E 18/\E' 19=E 19)/\E' 38=.sl 2 none (qs.map Pl.enc)/\E' 39=I qs.length/\E' 40=I j/\
  H'.get mo=some (.map (cR (if kL p Es (qs.take j)then nm::Es else Es)))/\∀d o,H.get d=some o->d≠mo->H'.get d=some o)
  ⟨⟨rfl,rfl,e2,rfl,e4,rfl,e7,rfl,rfl,rfl⟩,e38,e39,e40,by simp only[List.take_zero,kL,List.any_nil,av,if_false];exact gm,fun _ _ h _=>h⟩ ?_
 rintro j E' H' hj ⟨⟨q0,q1,q2,q3,q4,q5,q7,q17,q18,q19⟩,q38,q39,q40,gmo,kk⟩
 simp only[go_sem,rE,rA,rL,q39,q40]
 refine aE (fun hlt=>?_) (fun hge=>?_)
 ·have hj1:j<qs.length:=by omega
  have w1:=aJ (n:=(j:Int)+1) (by omega) (by omega)
  have hg:=oU (ps:=qs) (k:=j) hj1
  have gc':=kk c _ gc dcm
  have hmt:=y5 L qs[j] p (bV (hq _ (ax hj1)) (by decide)) (bV hp (by decide))
  rw[Pl.enc,Pl.enc]at hmt
  have hsnoc:kL p Es (qs.take (j+1))=(kL p Es (qs.take j)||(qs[j].meet p||Es.any fun m=>eqB m qs[j].name)):=by
   unfold kL
   rw[aA hj1,fj]
   simp
  simp only[go_sem,rE,rA,rL,q38,q40,hg]
  intro b10 hb10
  have d10:=al gc' hb10
  have d10m:=al gmo hb10
  have kk10:∀(o':cQ) d o,H.get d=some o->d≠mo->(H'.set b10 o').get d=some o:=fun o' d o hd hdm=>by
   have:=kk d o hd hdm
   rw[ae _ _ (al this hb10)];exact this
  simp only[go_sem,rE,rA,rL,q2,gc',d10]
  refine ao hmt rfl ?_
  have gmb:∀o',(H'.set b10 o').get mo=some (.map (cR (if kL p Es (qs.take j)then nm::Es else Es))):=fun o'=>(ae _ _ d10m).trans gmo
  have hset:cR (nm::if kL p Es (qs.take j)then nm::Es else Es)=cR (nm::Es):=by
   cases kL p Es (qs.take j)
   ·rfl
   ·exact xh Es nm
  have h10:decide ((1:Int)>0)=true:=by decide
  have h00:decide ((0:Int)>0)=false:=by decide
  cases hm:qs[j].meet p
  ·simp only[go_sem,rE,rA,rL,q4]
   refine fF (k:=qs[j].name) (g:=cR (if kL p Es (qs.take j)then nm::Es else Es)) (by simp only[go_sem,rE,aS,bD,q4]) (gmb _) trivial ?_
   rw[rp]
   by_cases hx:((if kL p Es (qs.take j)then nm::Es else Es).any fun m=>eqB m qs[j].name)=true
   ·have hh:kL p Es (qs.take (j+1))=true:=by
     rw[hsnoc,hm]
     cases hc:kL p Es (qs.take j)
     ·rw[hc]at hx
      simpa using hx
     ·rfl
    rw[hh,if_pos rfl]
    simp only[hx,if_true]
    simp only[go_sem,rE,rA,rL,q4,q7,h10]
    refine kB (k:=nm) (v:=I 1) (v':=I 1) (g:=cR (if kL p Es (qs.take j)then nm::Es else Es)) (by simp only[go_sem,rE,aS,bD,q4,q7]) (.refl _) (gmb _) trivial ?_
    rw[qk,hset]
    simp only[go_sem,rE,rA,rL,q40,w1]
    exact⟨hj1,_,aj.sub_refl _,⟨q0,q1,q2,q3,q4,q5,q7,q17,q18,q19⟩,q38,q39,rfl,ai _ _ _,fun d o hd hdm=>by rw[ae _ _ hdm];exact kk10 _ d o hd hdm⟩
   ·have hh:kL p Es (qs.take (j+1))=kL p Es (qs.take j):=by
     rw[hsnoc,hm]
     cases hc:kL p Es (qs.take j)
     ·rw[hc]at hx
      simpa using hx
     ·rfl
    rw[hh]
    have hx':((if kL p Es (qs.take j)then nm::Es else Es).any fun m=>eqB m qs[j].name)=false:=by simpa using hx
    simp only[hx',av,if_false]
    simp only[go_sem,rE,rA,rL,q4,q7,q40,w1,h00]
    exact⟨hj1,_,aj.sub_refl _,⟨q0,q1,q2,q3,q5,q17,q18,q19⟩,q38,q39,rfl,gmb _,kk10 _⟩
  ·have hh:kL p Es (qs.take (j+1))=true:=by rw[hsnoc,hm];simp
   rw[hh,if_pos rfl]
   simp only[go_sem,rE,rA,rL,q4,q7]
   refine kB (k:=nm) (v:=I 1) (v':=I 1) (g:=cR (if kL p Es (qs.take j)then nm::Es else Es)) (by simp only[go_sem,rE,aS,bD,q4,q7]) (.refl _) (gmb _) trivial ?_
   rw[qk,hset]
   simp only[go_sem,rE,rA,rL,q40,w1]
   exact⟨hj1,_,aj.sub_refl _,⟨q0,q1,q2,q3,q4,q5,q7,q17,q18,q19⟩,q38,q39,rfl,ai _ _ _,fun d o hd hdm=>by rw[ae _ _ hdm];exact kk10 _ d o hd hdm⟩
 ·have hjj:j=qs.length:=by omega
  subst hjj
  rw[aO]at gmo
  simp only[go_sem,rE,rA,rL]
  exact hK _ _ (by simp only[go_sem,rE,q0]) (by simp only[go_sem,rE,q1]) (by simp only[go_sem,rE,q2,e2]) (by simp only[go_sem,rE,q3]) (by simp only[go_sem,rE,q4,e4]) (by simp only[go_sem,rE,q5]) (by simp only[go_sem,rE,q7,e7]) (by simp only[go_sem,rE,q17]) (by simp only[go_sem,rE,q18]) (by simp only[go_sem,rE,q19]) gmo kk
end
section
variable {P:Program}{F:Ids}{er:bZ}
theorem ea3_wp(L:Lib P F){K:Env->aj->Prop}{E:Env}{H:aj}{s:Nat}{v:Sc}{ORD HELD:AC}{m1 m2 b c mo:Nat}{p:Pl}(hE:cF F er H s v ORD HELD m1 m2)(hnd:(v.vars.map (·.name)).Nodup)(hvl:v.vars.length<=2^30)(hp:p.path.length<=2^30)
(hqp:∀x∈v.vars,∀q∈x.loans,q.path.length<=2^30)(hql:∀x∈v.vars,x.loans.length<=2^30)(gb:H.get b=some (.cells [.ptr s 0]))(gc:H.get c=some (.cells [S p.name,au p.path]))(gm:H.get mo=some (.map fun _=>none))(hms:mo≠m1)
(e1:E 1=.ptr b 0)(e2:E 2=.ptr c 0)(e4:E 4=.mp mo)(e5:E 5=NIL)
(hK:∀E' H',E' 0=E 0->E' 3=E 3->bM H' 1 (aB (bJ v.vars p).reverse) (E' 5)->(∀d o,H.get d=some o->d≠mo->H'.get d=some o)->(∀d,co (E' 5) d->H.get d=none)->K E' H'):
 (uz F).wp P (fun ex E' H'=>ex=.normal/\K E' H') E H:=by
 have ho:=hE.obj
 simp only[ScO]at ho
 have hlen:(aB (v.vars.map (·.name))).length=v.vars.length:=by simp[aB]
 rcases hE.ord with⟨hnil,hO⟩|⟨ob,on,om,hO,hob⟩
 ·have hv:v.vars=[]:=by rw[hnil]at hlen;exact bu hlen.symm
  subst hO
  simp only[uz,go_sem,rE,rA,rL,e1,gb,ho,a7]
  refine aQ 0 (fun k E' H'=>E' 0=E 0/\E' 3=E 3/\E' 5=NIL/\E' 18=I 0/\E' 19=I k/\H'=H) ⟨rfl,rfl,e5,rfl,rfl,rfl⟩ ?_
  rintro k E' H' hk ⟨q0,q3,q5,q18,q19,rfl⟩
  have:k=0:=by omega
  subst this
  simp only[go_sem,rE,rA,rL,q18,q19,cU,Int.lt_irrefl]
  refine hK _ _ (by simp only[go_sem,rE,q0]) (by simp only[go_sem,rE,q3]) ?_ (fun d o hd _=>hd) ?_
  ·simp only[go_sem,rE,q5,hv];exact .inl ⟨rfl,rfl⟩
  ·simp only[go_sem,rE,q5];rintro d ⟨_,_,_,_,e⟩;simp at e
 ·subst hO
  have hms':∀d o,H.get d=some o->(∀f,o≠.map f)->d≠mo:=fun d o hd hn=>by rintro rfl;rw[gm]at hd;simp at hd;exact hn _ hd.symm
  have dbm:=hms' b _ gb (by simp)
  have dcm:=hms' c _ gc (by simp)
  have dsm:=hms' s _ ho (by simp)
  simp only[uz,go_sem,rE,rA,rL,e1,gb,ho,a7,hlen]
  refine aQ v.vars.length (fun k E' H'=>(E' 0=E 0/\E' 3=E 3)/\E' 1=.ptr b 0/\E' 2=.ptr c 0/\E' 4=.mp mo/\E' 17=.sl 1 (some (ob,on,om)) (aB (v.vars.map (·.name)))/\E' 18=I v.vars.length/\E' 19=I k/\
   bM H' 1 (aB (bJ (v.vars.take k) p).reverse) (E' 5)/\H'.get mo=some (.map (cR (bJ (v.vars.take k) p)))/\(∀d o,H.get d=some o->d≠mo->H'.get d=some o)/\∀d,co (E' 5) d->H.get d=none)
   ⟨⟨rfl,rfl⟩,e1,e2,e4,rfl,rfl,rfl,by simp only[go_sem,rE,e5];exact .inl ⟨rfl,rfl⟩,by rw[gm];simp only[List.take_zero,bJ,List.foldl_nil,rD],fun d o hd _=>hd,by simp only[go_sem,rE,e5];rintro d ⟨_,_,_,_,e⟩;simp at e⟩ ?_
  rintro k E' H' hk ⟨⟨q0,q3⟩,q1,q2,q4,q17,q18,q19,qa,qm,kk,kt⟩
  simp only[go_sem,rE,rA,rL,q18,q19]
  refine aE (fun hlt=>?_) (fun hge=>?_)
  ·have hk1:k<v.vars.length:=by omega
   have w1:=aJ (n:=(k:Int)+1) (by omega) (by omega)
   have hg:=kx (ns:=v.vars.map (·.name)) (k:=k) (by simpa using hk1)
   rw[fW]at hg
   have hnm:cW v.vars v.vars[k].name=some (v.vars[k].ent (fi v.vars v.vars[k].name)):=by simp only[cW,pd hnd hk1,bK]
   have hsn:=iz (v.vars.take k) v.vars[k] p
   rw[<-aA hk1]at hsn
   have hbg:=kk b _ gb dbm
   have hsg:=kk s _ ho dsm
   have hcg:=kk c _ gc dcm
   have hmg:=kk m1 _ hE.names (Ne.symm hms)
   simp only[go_sem,rE,rA,rL,q1,q17,q19,hg,hbg,hsg,a7]
   refine fF (k:=v.vars[k].name) (g:=cW v.vars) rfl hmg trivial ?_
   simp only[hnm,iO,av,if_false,Vr.ent]
   simp only[go_sem,rE,rA,rL]
   intro b8 hb8
   have kk8:∀(o':cQ) d o,H.get d=some o->d≠mo->(H'.set b8 o').get d=some o:=fun o' d o hd hdm=>by
    have:=kk d o hd hdm
    rw[ae _ _ (al this hb8)];exact this
   have d8m:=al qm hb8
   have qm8:∀o',(H'.set b8 o').get mo=some (.map (cR (bJ (v.vars.take k) p))):=fun o'=>(ae _ _ d8m).trans qm
   have qa8:∀o',bM (H'.set b8 o') 1 (aB (bJ (v.vars.take k) p).reverse) (E' 5):=fun o'=>qa.new hb8 o'
   have hnin:v.vars[k].name∉bJ (v.vars.take k) p:=fun hm=>by
    obtain⟨i,hi,e⟩:=ls _ p hm
    have hik:i<k:=by rw[bp]at hi;omega
    have hi2:i<v.vars.length:=by omega
    rw[List.getElem_take]at e
    have:=rm hnd hi2 hk1 e
    omega
   cases hdd:v.vars[k].dead
   ·cases hll:v.vars[k].lent
    ·have hsame:bJ (v.vars.take (k+1)) p=bJ (v.vars.take k) p:=by rw[hsn,hdd,hll];rfl
     simp only[go_sem,rE,rA,rL,q19,w1]
     exact⟨hk1,_,aj.sub_refl _,⟨q0,q3⟩,q1,q2,q4,q17,q18,rfl,by rw[hsame];exact qa8 _,by rw[hsame];exact qm8 _,kk8 _,kt⟩
    ·have hcg8:=kk8 (.cells [.sl 1 none (Ty.encs v.vars[k].type.kids),B v.vars[k].param,B true,B (!false),B (fi v.vars v.vars[k].name),.sl 2 none (v.vars[k].loans.map Pl.enc)]) c _ gc dcm
     have hxm:v.vars[k]∈v.vars:=ax hk1
     simp only[go_sem,rE,rA,rL,am]
     refine ken1_wp L (p:=p) (qs:=v.vars[k].loans) (nm:=v.vars[k].name) (Es:=bJ (v.vars.take k) p) (mo:=mo) (c:=c) hp (hqp _ hxm) (hql _ hxm) (by simp only[go_sem,rE,q2]) (by simp only[go_sem,rE,q4]) (by simp only[go_sem,rE]) (by simp only[go_sem,rE]) (by simp only[go_sem,rE,am]) (by simp only[go_sem,rE]) hcg8 (qm8 _) ?_
     intro E2 H2 f0 f1 f2 f3 f4 f5 f7 f17 f18 f19 gm2 kk2
     simp only[go_sem,rE,rA]at f0 f1 f2 f3 f4 f5 f7 f17 f18 f19
     have hh:kL p (bJ (v.vars.take k) p) v.vars[k].loans=(v.vars[k].loans.any fun q=>q.meet p||(bJ (v.vars.take k) p).any fun m=>eqB m q.name):=rfl
     rw[<-hh]at hsn
     have kkH:∀d o,H.get d=some o->d≠mo->H2.get d=some o:=fun d o hd hdm=>kk2 d o (kk8 _ d o hd hdm) hdm
     have qa2:bM H2 1 (aB (bJ (v.vars.take k) p).reverse) (E' 5):=(qa8 (.cells [.sl 1 none (Ty.encs v.vars[k].type.kids),B v.vars[k].param,B true,B (!false),B (fi v.vars v.vars[k].name),.sl 2 none (v.vars[k].loans.map Pl.enc)])).mono fun d hd=>by
      obtain⟨n,m,e⟩:=(qa8 (.cells [.sl 1 none (Ty.encs v.vars[k].type.kids),B v.vars[k].param,B true,B (!false),B (fi v.vars v.vars[k].name),.sl 2 none (v.vars[k].loans.map Pl.enc)])).tok hd
      have hdm:d≠mo:=by rintro rfl;rw[qm8]at e;simp at e
      rw[e];exact kk2 d _ e hdm
     simp only[go_sem,rE,rA,rL,f4,f7,q4]
     refine fF (k:=v.vars[k].name) (g:=cR (if kL p (bJ (v.vars.take k) p) v.vars[k].loans then v.vars[k].name::bJ (v.vars.take k) p else bJ (v.vars.take k) p)) (by simp only[go_sem,rE,aS,bD,f4,f7,q4]) gm2 trivial ?_
     rw[rp]
     cases hhit:kL p (bJ (v.vars.take k) p) v.vars[k].loans
     ·have hsame:bJ (v.vars.take (k+1)) p=bJ (v.vars.take k) p:=by rw[hsn,hdd,hll,hhit];rfl
      rw[hhit]at gm2
      have hany:((bJ (v.vars.take k) p).any fun m=>eqB m v.vars[k].name)=false:=by
       cases h:(bJ (v.vars.take k) p).any fun m=>eqB m v.vars[k].name with
       |false=>rfl
       |true=>
        obtain⟨m,hm,he⟩:=fo.1 h
        exact absurd (cN.1 he▸hm) hnin
      have h00:decide ((0:Int)>0)=false:=by decide
      simp only[av,if_false,hany]
      simp only[go_sem,rE,rA,rL,h00,f19,q19,w1]
      refine⟨hk1,H2,aj.sub_refl _,⟨f0.trans q0,f3.trans q3⟩,f1.trans q1,f2.trans q2,f4.trans q4,f17.trans q17,f18.trans q18,rfl,?_,?_,kkH,?_⟩
      ·rw[hsame,f5];exact qa2
      ·rw[hsame];exact gm2
      ·rw[f5];exact kt
     ·have hsame:bJ (v.vars.take (k+1)) p=v.vars[k].name::bJ (v.vars.take k) p:=by rw[hsn,hdd,hll,hhit];rfl
      rw[hhit,if_pos rfl]at gm2
      have h10:decide ((1:Int)>0)=true:=by decide
      simp only[if_true,List.any_cons,dH,dY]
      simp only[go_sem,rE,rA,rL,h10,f5,f7,az,aq,ay]
      have hel:(bJ (v.vars.take k) p).length<=v.vars.length:=by
       have:=(jf p (v.vars.take k) [] (v.vars.map (·.name)) (by simp) fun x hx=>aY.2 ⟨x,bC hx,rfl⟩).2
       rw[bp]at this
       simp only[bR,cy]at this
       exact bV this (Nat.min_le_right _ _)
      refine dD (es:=aB (bJ (v.vars.take k) p).reverse) (ys:=[[S v.vars[k].name]]) (by simp only[go_sem,rE,rA,rL];exact qa2) (by simp[go_sem,bh]) (by simp) (by simp[aB];omega) ?_
      intro x' H3 fp hx' hfp hkeep hnew
      simp only[go_sem,rE,rA,rL]at hkeep hnew
      have hmt:¬co (E' 5) mo:=fun ht=>by obtain⟨n,m,e⟩:=qa2.tok ht;rw[gm2]at e;simp at e
      have hrow:aB (v.vars[k].name::bJ (v.vars.take k) p).reverse=aB (bJ (v.vars.take k) p).reverse++[[S v.vars[k].name]]:=by simp[aB]
      simp only[go_sem,rE,rA,rL,f19,q19,w1]
      refine⟨hk1,H3,aj.sub_refl _,⟨f0.trans q0,f3.trans q3⟩,f1.trans q1,f2.trans q2,f4.trans q4,f17.trans q17,f18.trans q18,rfl,?_,?_,?_,?_⟩
      ·rw[hsame,hrow];exact hx'
      ·rw[hsame,hkeep mo (by rw[gm2];simp) hmt];exact gm2
      ·intro d o hd hdm
       rw[hkeep d (by rw[kkH d o hd hdm];simp) (fun ht=>by rw[kt d ht]at hd;simp at hd)]
       exact kkH d o hd hdm
      ·intro d hd
       rcases hnew d hd with h|h
       ·exact kt d h
       ·cases hq:H.get d with
        |none=>rfl
        |some o=>
         by_cases hdm:d=mo
         ·subst hdm;rw[gm2]at h;simp at h
         ·rw[kkH d o hq hdm]at h;simp at h
   ·have hsame:bJ (v.vars.take (k+1)) p=bJ (v.vars.take k) p:=by rw[hsn,hdd];rfl
    simp only[go_sem,rE,rA,rL,q19,w1]
    exact⟨hk1,_,aj.sub_refl _,⟨q0,q3⟩,q1,q2,q4,q17,q18,rfl,by rw[hsame];exact qa8 _,by rw[hsame];exact qm8 _,kk8 _,kt⟩
  ·have hkk:k=v.vars.length:=by omega
   subst hkk
   rw[aO]at qa qm
   simp only[go_sem,rE,rA,rL]
   exact hK _ _ (by simp only[go_sem,rE,q0]) (by simp only[go_sem,rE,q3]) (by simp only[go_sem,rE];exact qa) kk (by simp only[go_sem,rE];exact kt)
end
def x_ea0:aW:=rg [ef 0 3 (.box 0)]
def x_ea1:aW:=rg [ef 0 13 (.callX .mkMap []),mv 1 4 13]
def x_ea2:aW:=rg [mv 0 5 (.const (.slice none 0 0))]
def x_ea4(F:Ids):aW:=rg [mv 0 66 5,ca 1 67 61 [66]]
def x_ea5:aW:=rg [mv 0 12 69]
def x_ea6:aW:=rg ([ld 0 70 none 3,mv 1 71 12]++ef 2 72 (.callX .clos [70,71])::[pu 3 73 (.not 72)])
def xQ(P:Program)(F:Ids):Prop:=∃fn i0 i1 i2 i4 i5 i6 b4 b5 o0 o1 o2 c3 o4 o5 o6,P.funcs[60]?=some fn/\fn.ntmps=74/\fn.results=#[]/\
 fn.body=some (.seq (.region i0 o0 false) (.seq (.region i1 o1 false) (.seq (.region i2 o2 false) (.seq c3 (.seq (.region i4 o4 false) (.block b4 (.rangeFunc (.tmp 67) #[68,69] (.region i5 o5 false) (.block b5 (.seq (.region i6 o6 false) (.cond (.tmp 73) .ret .skip))))))))))/\
 dc P 74 o0 false=some x_ea0/\dc P 74 o1 false=some x_ea1/\dc P 74 o2 false=some x_ea2/\eK P 74 c3=some (uz F)/\gW P c3 (uz F)=true/\dc P 74 o4 false=some (x_ea4 F)/\dc P 74 o5 false=some x_ea5/\dc P 74 o6 false=some x_ea6
section
variable {P:Program}{F:Ids}{er:bZ}
theorem uc(L:Lib P F){x:AC}(hx:x.cells?=some [x]):bz P 61 [x] .empty fun q H'=>∃b,q=.fn (.func 75) [] [.ptr b 0]/\H'=aj.empty.set b (.cells [x]):=by
 refine(L.a Tryz.func61 y61) (by simp[y61]) ?_
 simp only[y61,go_sem,rE,rA,hx]
 intro b hb
 exact ak (.refl _) (aj.sub_refl _) ⟨b,rfl,rfl⟩
theorem yJ(H:aj){b:Nat}{o:cQ}:H.swap .empty (aj.empty.set b o)=H.set b o:=by
 ext d:1
 rw[bA,aN,aN]
 by_cases h1:d=b
 ·simp[h1]
 ·simp[h1]
structure EndJ(Hr:aj)(B l l2:Nat)(pre:List ByteArray)(H':aj):Prop where
 l2n:H'.get l2=none
 l2B:l2≠B
 ln:H'.get l=none
 box:∃x',H'.get B=some (.cells [x'])/\bM H' 1 (aB pre) x'/\∀d,co x' d->Hr.get d=none
 rest:∀d o,Hr.get d=some o->d≠B->H'.get d=some o
theorem BC(L:Lib P F)(hC:xQ P F)(hB1:mu P 75)(hgB:iZ P 75=true){H:aj}{s:Nat}{v:Sc}{ORD HELD:AC}{m1 m2 b c B:Nat}{p:Pl}(hS:cF F er H s v ORD HELD m1 m2)(hnd:(v.vars.map (·.name)).Nodup)(hvl:v.vars.length<=2^30)(hp:p.path.length<=2^30)
(hqp:∀x∈v.vars,∀q∈x.loans,q.path.length<=2^30)(hql:∀x∈v.vars,x.loans.length<=2^30)(gb:H.get b=some (.cells [.ptr s 0]))(gc:H.get c=some (.cells p.enc))(hB:H.get B=none):
 ItC P 60 [.ptr b 0,.ptr c 0] (H.set B (.cells [NIL])) (fun _=>True) (BX B) (oJ B) (AsEnd B (bJ v.vars p) (H.set B (.cells [NIL]))):=by
 obtain⟨fn,i0,i1,i2,i4,i5,i6,b4,b5,o0,o1,o2,c3,o4,o5,o6,hf,hN,hres,hb,r0,r1,r2,r3,r3ok,r4,r5,r6⟩:=hC
 intro l o M w us hnc s0 hlo hln hcap _ hY
 refine callsIn_of_wp_marks hf hb trivial ?_ rfl
 rw[hN]
 have hr:ic M [.lit (.func (.yield l) #[] #[]),.ptr b 0,.ptr c 0] ((#[.func (.yield l) #[] #[]]++us.toArray:Array Value).toList):=by
  refine⟨by simp[<-hcap.1],fun j y v hy hv=>?_⟩
  match j,hy,hv with
  |0,hy,hv=>simp at hy hv;subst hy hv;exact .lit trivial
  |j+1,hy,hv=>exact hcap.2 j _ _ (by simpa using hy) (by simpa using hv)
 have hE:=mS (N:=74) hr (by simp)
 simp only[Array.toArray_toList]at hE
 have hS0:cF F er (H.set B (.cells [NIL])) s v ORD HELD m1 m2:=hS.new hB _
 have gb0:(H.set B (.cells [NIL])).get b=some (.cells [.ptr s 0]):=by rw[ae _ _ (al gb hB)];exact gb
 have gc0:(H.set B (.cells [NIL])).get c=some (.cells p.enc):=by rw[ae _ _ (al gc hB)];exact gc
 have gB0:(H.set B (.cells [NIL])).get B=some (.cells [NIL]):=ai _ _ _
 generalize H.set B (.cells [NIL])=H0 at*
 refine oQ (cE r0).1 (cE r0).2 hE s0 (K:=fun E' H'=>∃b3,H0.get b3=none/\E' 1=.ptr b 0/\E' 2=.ptr c 0/\E' 3=.ptr b3 0/\H'=H0.set b3 (.cells [.lit (.func (.yield l) #[] #[])])) ?_ ?_
 ·simp only[x_ea0,go_sem,rE,rA,show(AC.lit (Value.func (Fn.yield l) #[] #[])).cells?=some [.lit (.func (.yield l) #[] #[])]from rfl]
  intro b3 hb3
  exact⟨b3,hb3,rfl,rfl⟩
 rintro E1 H1 M1 a1 w1 ⟨b3,hb3,e1,e2,e3,rfl⟩ hE1 s1 t1 hd1
 refine oQ (cE r1).1 (cE r1).2 hE1 s1 (K:=fun E' H'=>∃mo,(H0.set b3 (.cells [.lit (.func (.yield l) #[] #[])])).get mo=none/\E' 1=.ptr b 0/\E' 2=.ptr c 0/\E' 3=.ptr b3 0/\E' 4=.mp mo/\H'=(H0.set b3 (.cells [.lit (.func (.yield l) #[] #[])])).set mo (.map fun _=>none)) ?_ ?_
 ·simp only[x_ea1,go_sem,rE,rA]
  refine pI fun mo hmo=>?_
  simp only[go_sem,rE,rA,e1,e2,e3]
  exact⟨mo,hmo,rfl,rfl⟩
 rintro E2 H2 M2 a2 w2 ⟨mo,hmo,f1,f2,f3,f4,rfl⟩ hE2 s2 t2 hd2
 refine oQ (cE r2).1 (cE r2).2 hE2 s2 (K:=fun E' H'=>E' 1=.ptr b 0/\E' 2=.ptr c 0/\E' 3=.ptr b3 0/\E' 4=.mp mo/\E' 5=NIL/\H'=(H0.set b3 (.cells [.lit (.func (.yield l) #[] #[])])).set mo (.map fun _=>none)) ?_ ?_
 ·simp only[x_ea2,go_sem,rE,rA,f1,f2,f3,f4,and_self]
 rintro E3 H3 M3 a3 w3 ⟨g1,g2,g3,g4,g5,rfl⟩ hE3 s3 t3 hd3
 have hb3m:b3≠mo:=al (ai _ _ _) hmo
 have hmo0:H0.get mo=none:=by rw[ae _ _ (Ne.symm hb3m)]at hmo;exact hmo
 have up:∀d o,H0.get d=some o->((H0.set b3 (.cells [.lit (.func (.yield l) #[] #[])])).set mo (.map fun _=>none)).get d=some o:=fun d o hd=>by
  rw[ae _ _ (al hd hmo0),ae _ _ (al hd hb3)];exact hd
 have gy:((H0.set b3 (.cells [.lit (.func (.yield l) #[] #[])])).set mo (.map fun _=>none)).get b3=some (.cells [.lit (.func (.yield l) #[] #[])]):=by rw[ae _ _ hb3m,ai]
 have gmo:((H0.set b3 (.cells [.lit (.func (.yield l) #[] #[])])).set mo (.map fun _=>none)).get mo=some (.map fun _=>none):=ai _ _ _
 have hm1:mo≠m1:=by rintro rfl;rw[hS0.names]at hmo0;simp at hmo0
 have hsz:=(dt.1 hlo).1
 have hfr:∀{M':bY} {H':aj} {w':World},bO M H0 w M' H' w'->H'.get l=none:=fun t=>by
  rename_i M' H' w'
  cases h:H'.get l with
  |none=>rfl
  |some o'=>
   rcases t.fresh l (by rw[h];simp)with h'|h'
   ·exact absurd hln h'
   ·omega
 have hS3:=hS0.sub up
 have gb3:=up _ _ gb0
 have gc3:=up _ _ gc0
 have gB3:=up _ _ gB0
 generalize hH3:((H0.set b3 (.cells [.lit (.func (.yield l) #[] #[])])).set mo (.map fun _=>none))=H3 at*
 have hBmo:B≠mo:=al gB0 hmo0
 refine oQ r3 r3ok hE3 s3 (K:=fun E' H'=>E' 3=.ptr b3 0/\bM H' 1 (aB (bJ v.vars p).reverse) (E' 5)/\(∀d o,H3.get d=some o->d≠mo->H'.get d=some o)/\∀d,co (E' 5) d->H3.get d=none) ?_ ?_
 ·exact ea3_wp L hS3 hnd hvl hp hqp hql gb3 (by rw[gc3,Pl.enc]) gmo hm1 g1 g2 g4 g5 fun E' H' h0 h3 h5 hk ht=>⟨h3.trans g3,h5,hk,ht⟩
 rintro E4 H4 M4 a4 w4 ⟨k3,k5,kk,kt⟩ hE4 s4 t4 hd4
 refine oQ (cE r4).1 (cE r4).2 hE4 s4 (K:=fun E' H'=>∃bs,H4.get bs=none/\E' 3=.ptr b3 0/\E' 67=.fn (.func 75) [] [.ptr bs 0]/\H'=H4.set bs (.cells [E4 5])) ?_ ?_
 ·simp only[x_ea4,go_sem,rE,rA,k3]
  refine dq (uc L (x:=E4 5) k5.one) (by simp only[go_sem,rE,aS,bD]) (aj.sub_empty _) (fun h=>by simp at h) trivial ?_
  rintro q H5 ⟨bs,rfl,rfl⟩ hnew
  rw[yJ]
  have hbs:=hnew bs (by rw[ai];simp) rfl
  simp only[go_sem,rE,rA,k3]
  exact⟨bs,hbs,rfl,rfl⟩
 rintro E5 H5 M5 a5 w5 ⟨bs,hbs,n3,n67,rfl⟩ hE5 s5 t5 hd5
 have t05:bO M H0 w M5 (H4.set bs (.cells [E4 5])) w5:=(((t1.trans t2).trans t3).trans t4).trans t5
 have hd5':a5.defers=[]:=by rw[hd5,hd4,hd3,hd2,hd1]
 have hx5:bM (H4.set bs (.cells [E4 5])) 1 (aB (bJ v.vars p).reverse) (E4 5):=k5.new hbs _
 have keep4:∀d o,H4.get d=some o->(H4.set bs (.cells [E4 5])).get d=some o:=fun d o hd=>by rw[ae _ _ (al hd hbs)];exact hd
 have gyr:(H4.set bs (.cells [E4 5])).get b3=some (.cells [.lit (.func (.yield l) #[] #[])]):=keep4 _ _ (kk _ _ gy hb3m)
 have gBr:(H4.set bs (.cells [E4 5])).get B=some (.cells [NIL]):=keep4 _ _ (kk _ _ gB3 hBmo)
 have gbs:(H4.set bs (.cells [E4 5])).get bs=some (.cells [E4 5]):=ai _ _ _
 have hbsB:bs≠B:=by rintro rfl;have:=keep4 bs _ (kk _ _ gB3 hBmo);have h4:=kk _ _ gB3 hBmo;rw[h4]at hbs;simp at hbs
 have hb3B:b3≠B:=by rintro rfl;rw[gB0]at hb3;simp at hb3
 have restR:∀d o,H0.get d=some o->d≠B->(H4.set bs (.cells [E4 5])).get d=some o:=fun d o hd _=>keep4 _ _ (kk _ _ (up _ _ hd) (al hd hmo0))
 have hlB:l≠B:=by rintro rfl;rw[hln]at gB0;simp at gB0
 have hlr:(H4.set bs (.cells [E4 5])).get l=none:=hfr t05
 have hsz5:l<w5.heap.size:=Nat.lt_of_lt_of_le hsz t05.size
 have hlo5:w5.heap[l]?=some o:=by rw[(t05.same l hsz hln).1];exact hlo
 generalize hHr:H4.set bs (.cells [E4 5])=Hr at*
 refine wpIn_block ?_
 have hrep:=hE5.rep 67
 rw[n67]at hrep
 obtain⟨us2,hus,hcap2⟩:=AA hrep
 have hE5':cD 74 M5 E5 {tmps:=a5.tmps,defers:=[]}:=⟨hE5.size,hE5.rep⟩
 have hLl:(bJ v.vars p).reverse.length<=2^30:=by
  have:=(jf p v.vars [] (v.vars.map (·.name)) (by simp) fun x hx=>aY.2 ⟨x,hx,rfl⟩).2
  rw[List.length_reverse]
  simp only[bR,cy]at this
  exact bV this hvl
 refine ym (ps:=[68,69]) (us:=us2) (cap:=[.ptr bs 0]) (Pre:=fun l2 xs H'=>∃pre i n,xs=[I i,S n]/\EndJ Hr B l l2 pre H'/\pre.length<=2^30)
  (l8:=fun l2 xs H' H''=>(∀i n,xs=[I i,S n]->oJ B l [S n] H' H'')/\H''.get l2=none/\H''.get l=none) hE5 s5 (by simpa[Act.eval]using hus) hgB hcap2
  (vQ hB1 (bs:=bs) (x:=E4 5) (L:=(bJ v.vars p).reverse) hx5 hLl (J:=EndJ Hr B l) ?_ ?_ ?_ ?_ ?_) (Sx:=fun w'=>w'.heap[l]?=some o) ?_ ?_ ?_
 ·intro l2 h
  exact⟨h,by rintro rfl;rw[gBr]at h;simp at h,hlr,⟨NIL,gBr,.inl ⟨rfl,rfl⟩,fun d ⟨_,_,_,_,e⟩=>by simp at e⟩,fun d o hd _=>hd⟩
 ·intro l2 pre H' hj
  exact hj.rest _ _ gbs hbsB
 ·intro l2 pre n i H' hj hl
  exact⟨pre,i,n,rfl,hj,by omega⟩
 ·rintro l2 pre n i H' H'' hj hl ⟨hP,h1,h2⟩
  obtain⟨x',hx1,hx2,hx3⟩:=hj.box
  obtain⟨x2,y1,y2,y3,y4⟩:=hP i n rfl n pre x' rfl hx1 hx2
  have nt:∀d o,Hr.get d=some o->¬co x' d:=fun d o hd ht=>by rw[hx3 d ht]at hd;simp at hd
  refine⟨h1,hj.l2B,h2,⟨x2,y1,y2,fun d hd=>?_⟩,fun d o hd hdB=>y3 d o (hj.rest d o hd hdB) hdB (nt d o hd)⟩
  rcases y4 d hd with h|h
  ·exact hx3 d h
  ·cases hq:Hr.get d with
   |none=>rfl
   |some o'=>
    by_cases hdB:d=B
    ·subst hdB;rw[hx1]at h;simp at h
    ·rw[hj.rest d o' hq hdB]at h;simp at h
 ·intro l2 pre H' hj;exact hj.l2n
 ·intro M' H' w' t
  show w'.heap[l]?=some o
  rw[(t.same l hsz5 hlr).1];exact hlo5
 ·
  intro l2 D fid hl2 ro n xs H' hpre
  have hl2l:l≠l2:=by omega
  refine(qH (N:=74) (Sx:=fun w'=>w'.heap[l]?=some o) (Pre:=fun xs H'=>∃pre i n,xs=[I i,S n]/\EndJ Hr B l l2 pre H'/\pre.length<=2^30)
   (l8:=fun xs H' H''=>(∀i n,xs=[I i,S n]->oJ B l [S n] H' H'')/\H''.get l2=none/\H''.get l=none)
   (EA:=fun xs=>(E5.puts [68,69] xs).put (some 12) ((E5.puts [68,69] xs) 69)) hE5' (by simp) ?_ ?_ ?_ ?_ ?_ ro n xs H' hpre)
  ·intro w' r h
   rw[World.putObj_heap_other hl2l];exact h
  ·rintro M' H' w' M'' H'' w'' - h t ⟨xs',pre',i',n',-,hj,-⟩
   rw[(t.same l (dt.1 h).1 hj.ln).1];exact h
  ·rintro xs' H' ⟨pre',i',n',rfl,hj,-⟩
   exact⟨rfl,hj.l2n⟩
  ·rintro n xs' H' M1 w1 a1 hle hE1 s1 -
   refine mN r5 hE1 s1 ?_
   simp only[x_ea5,go_sem,rE,rA,and_self]
  ·rintro n xs' H' M1 w1 a1 hle hE1 s1 ⟨pre',i',n',rfl,hj,hpl⟩ hx hlw
   have hyl:=hj.rest _ _ gyr hb3B
   have hlw1:l<w1.heap.size:=(dt.1 hx).1
   obtain⟨x',hbx1,hbx2,hbx3⟩:=hj.box
   refine wpIn_block (wpIn_seq (wpIn_mono (uJ (ro:=some l2) (Sd:=fun w=>w.heap[l]?=some o) (K:=fun e E' H''=>e=.normal/\E' 73=.lit (.bool false)/\oJ B l [S n'] H' H'') r6 hE1 s1 (by simp) (fun M' H'' w' t=>?_) ?_) ?_))
   ·rw[(t.same l hlw1 hj.ln).1];exact hx
   ·have hYC:=hY (some l2) (n - 1) [S n'] H' ⟨hj.ln,hlB,n',pre',x',rfl,hbx1,hbx2,hpl⟩
    simp only[Env.puts,go_sem,rE,rA,n3,hyl,a7]
    exact⟨l,[S n'],_,rfl,(hYC.later (bY.le_trans t05.le hle)).side fun _ h=>⟨h,trivial⟩,fun _ h=>h⟩
   ·rintro e a2 w2 ⟨xe,E2,H2,M2,he,⟨rfl,q73,hpost⟩,hE2,s2,t2,hd2⟩
    cases e<;>simp[dT]at he
    have hr73:=hE2.rep 73
    rw[q73]at hr73
    have hfr2:∀d,d<w1.heap.size->H'.get d=none->H2.get d=none:=fun d hd hn=>by
     cases h:H2.get d with
     |none=>rfl
     |some o'=>
      rcases t2.fresh d (by rw[h];simp)with h'|h'
      ·exact absurd hn h'
      ·omega
    refine wpIn_cond_false (by rw[<-lj hr73];rfl) (wpIn_skip ?_)
    refine⟨.normal,E2,H2,M2,rfl,⟨rfl,fun i n e=>?_,hfr2 l2 hlw hj.l2n,hfr2 l hlw1 hj.ln⟩,hE2,s2,t2,hd2⟩
    simp only[List.cons.injEq,AC.lit.injEq,Value.string.injEq,and_true]at e
    rw[<-e.2];exact hpost
 ·rintro D M6 H6 w6 hD ⟨l2,hj⟩ s6 t6 hDn hDr
  rw[List.reverse_reverse]at hj
  have s7:=s6.putRec hDr (fun a b c h=>by cases h) hDn (.deferred none)
  have hE6:cD 74 M6 E5 {a5 with defers:={target:=.collected D,args:=#[]}::a5.defers}:=⟨hE5.size,fun n=>(hE5.rep n).mono t6.le⟩
  obtain⟨v,hv,hrv⟩:=jH (P:=P) (fn:=fn) (rs:=[]) (by rw[hres];rfl) hE6 s7 (q:=.tup []) rfl
  show LeavesInM _ _ _ _ _ _ _ .returning w6
  refine rq (a:={a5 with defers:={target:=.collected D,args:=#[]}::a5.defers}) (by rw[hd5']) hDr hv ?_
  obtain⟨x',y1,y2,y3⟩:=hj.box
  have t:=t05.trans t6
  refine⟨⟨v,rfl⟩,M6,H6,s7,⟨t.le,by rw[World.putObj_size];exact t.size,fun b hb' hn=>?_,t.fresh,t.io.trans (vh _ _ _)⟩,x',y1,y2,fun d o hd hdB=>hj.rest d o (restR d o hd hdB) hdB⟩
  have:w.heap.size<=w5.heap.size:=t05.size
  rw[World.putObj_heap_other (by omega)]
  exact t.same b hb' hn
end
section
variable {P:Program}{F:Ids}{er:bZ}
theorem xD(L:Lib P F)(hA:ny P 59)(hE:xQ P F)(hB:mu P 75)(g1:iZ P 75=true)(g2:iZ P 60=true):eF P F er:=by
 intro H s v ORD HELD m1 m2 b c p hS hnd hvl hp hqp hql gb gc
 refine(L.a Tryz.func38 y38) (by simp[y38]) ?_
 simp only[y38,go_sem,rE,rA]
 refine dq (ud hA (gf:=60) (cap:=[.ptr b 0,.ptr c 0]) g2 (bJ v.vars p) H fun B hB0=>BC L hE hB g1 hS hnd hvl hp hqp hql gb gc hB0) ?_ (aj.sub_refl _) (fun h=>by simp at h) trivial ?_
 ·simp only[go_sem,rE,aS,bD]
 rintro q H' ⟨rfl,rfl⟩ -
 simp only[go_sem,rE,rA,fJ]
 exact ak (.refl _) (aj.sub_refl _) ⟨rfl,rfl⟩
end
theorem sN{P:Program}{f:FuncId}{sz:Nat}{H:aj}{R:AC->aj->Prop}(h:∀a c,bz P f [.lit (.slice a 0 c)] H R):bz P f [.sl sz none []] H R:=by
 intro M w vs s r
 match vs,r with
 |[v],r=>
  have h0:=r.2 0 _ v rfl rfl
  have:∃a c,v=.slice a 0 c:=by cases h0<;>exact⟨_,_,rfl⟩
  obtain⟨a,c,rfl⟩:=this
  exact h a c M w _ s (ic.cons (.lit trivial) (ic.nil _))
 |[],r=>exact absurd r.1 (by simp)
 |_::_::_,r=>exact absurd r.1 (by simp)
section
variable {P:Program}{F:Ids}{er:bZ}
theorem vT(L:Lib P F)(p:List Int)(hl:p.length<=2^31):cO P 51 [au p] (au p):=by
 have key:∀(x:AC) (b:Bool),qB (.slice none 0 0) x=some b->(b=true->p=[])->(∀H,gZ H 1 x=some (p.map fun i=>[I i]))->bz P 51 [x] .empty fun q H'=>q=au p/\H'=.empty:=by
  intro x b h0 hb hx
  refine(L.a Tryz.func51 y51) (by simp[y51]) ?_
  simp only[y51,go_sem,rE,rA,rL,h0,bK]
  cases b with
  |true=>
   obtain rfl:=hb rfl
   simp only[go_sem,rE,rA,rL,av]
   exact ak (.nil 1) (aj.sub_refl _) ⟨rfl,rfl⟩
  |false=>
   simp only[go_sem,rE,rA,rL,av,az,ay]
   intro c hc
   refine dD (es:=[]) (ys:=p.map fun i=>[I i]) (.inr ⟨c,0,0,rfl,ai _ _ _⟩) (by simp only[go_sem,rE];exact hx _) (by simp) (by simp;omega) ?_
   intro x' H3 fp hx' hfp hkeep hnew
   simp only[go_sem,rE,rA,rL]
   exact ak (q':=au p) hx'.le (aj.sub_empty _) ⟨rfl,rfl⟩
 cases p with
 |nil=>
  refine sN fun a c=>?_
  cases a with
  |none=>exact key _ true rfl (fun _=>rfl) fun H=>qq _ _ _ _
  |some a=>exact key _ false rfl (fun h=>by simp at h) fun H=>qq _ _ _ _
 |cons i p=>exact key _ false rfl (fun h=>by simp at h) fun H=>rfl
theorem vI(L:Lib P F)(p:Pl)(hl:p.path.length<=2^31):cO P 31 [.agg p.enc] (.agg p.enc):=by
 refine(L.a Tryz.func31 y31) (by simp[y31]) ?_
 simp only[y31,go_sem,rE,rA,rL,Pl.enc]
 intro b1 hb1 b2 hb2
 have d12:=al (ai _ _ _) hb2
 simp only[go_sem,rE,rA,rL,d12]
 refine ao (vT L p.path hl) rfl ?_
 simp only[go_sem,rE,rA,rL,d12,au]
 exact bT (off:=0) rfl (ai _ _ _) rfl (.refl _) (aj.sub_empty _) ⟨rfl,rfl⟩
end
theorem LeR.append:∀{a b c d:List (List AC)},LeR a b->LeR c d->LeR (a++c) (b++d)
 |[],[],_,_,_,h=>h
 |x::a,y::b,_,_,h,h'=>⟨h.1,LeR.append h.2 h'⟩
def fR(vs:List Vr):List (List AC):=(tc vs).map iJ
noncomputable def oV(p:Pg)(fn n:Int):List Vr:=match atS p fn n with|none=>[]|some v=>tc v.vars
def mw(l:List Vr):List (List AC):=(l.filter fun x=>x.lent&&!x.param).map iJ
theorem wW(l:List Vr)(x:Vr):mw (l++[x])=if x.lent=true/\x.param=false then mw l++[iJ x]else mw l:=by
 unfold mw
 rw[List.filter_append,bf]
 cases h:x.lent<;>cases h':x.param<;>simp[h,h']
theorem zk(vs:List Vr):mw (vs.filter fun x=>!x.dead)=fR vs:=by
 unfold mw fR tc
 rw[List.filter_filter]
 congr 1
 apply List.filter_congr
 intro x _
 cases h:x.lent<;>cases h':x.param<;>cases h2:x.dead<;>simp[kJ,h,h',h2]
section
variable {P:Program}{F:Ids}{er:bZ}
theorem zQ(L:Lib P F)(T:Tys F)(hC:eF P F er)(p:Pg)(hc:p.small)(fn n:Int)(H:aj)(he:eW F er H):
 bz P 13 [.agg (Pg.enc p),I fn,I n] H fun q H'=>q=.sl 2 none ((oV p fn n).map iJ)/\H'=H:=by
 refine(L.a Tryz.func13 y13) (by simp[y13]) ?_
 have hat:=fun H1 he1=>c_kAt (er:=er) L T hC p hc fn n H1 he1
 simp only[Pg.enc]at hat
 simp only[y13,go_sem,rE,rA,rL,Pg.enc]
 intro b3 hb3
 have k3:∀c o,H.get c=some o->(H.set b3 (.cells [.sl 12 none (p.map Fu.enc)])).get c=some o:=fun c o hc=>by rw[ae _ _ (al hc hb3)];exact hc
 have he3:eW F er (H.set b3 (.cells [.sl 12 none (p.map Fu.enc)])):=fun c hc=>k3 _ _ (he c hc)
 generalize H.set b3 _=H3 at*
 refine dq (hat H3 he3) rfl (aj.sub_refl _) (fun h=>by simp at h) trivial ?_
 intro q H4 hr _
 rw[fB]
 cases ha:atS p fn n with
 |none=>
  rw[ha]at hr
  obtain⟨rfl,rfl⟩:=hr
  simp only[go_sem,rE,rA,rL,a7,aC]
  exact ak (.nil 2) (fun b o hb=>k3 b o hb) ⟨by simp only[oV,ha];rfl,rfl⟩
 |some v=>
  rw[ha]at hr
  obtain⟨s,ORD,HELD,m1,m2,rfl,hS,hR⟩:=hr
  obtain⟨pi,st⟩:=pq ha
  have hg:=st.good
  simp only[go_sem,rE,rA,rL,a7,aC]
  refine cZ (ub L s v st.good.nd st.good.len) hS (by simp only[go_sem,rE,aS,bD]) (.refl _) (fun h=>by simp at h) trivial ?_
  rintro q w ORD2 HELD2 H5 fp ⟨rfl,hwv⟩ hS5 hfr -
  rw[hwv]at hS5
  clear hwv
  have hsub:H.sub H5:=fun b o hb=>(hR.step hfr).sub he3 hS5 b o (k3 b o hb)
  have hls:(oV p fn n).map iJ=mw (v.vars.filter fun x=>!x.dead):=by rw[zk];simp only[oV,ha,fR]
  rw[hls]
  have hws:∀x∈v.vars.filter (fun x=>!x.dead),x∈v.vars:=fun x hx=>(bQ.1 hx).1
  have hlw:(v.vars.filter fun x=>!x.dead).length<=v.vars.length:=eA _ _
  have hln:jP v.vars=(v.vars.filter fun x=>!x.dead).map (·.name):=rfl
  rw[hln]
  have hfind:∀x∈v.vars,v.vars.find? (fun y=>eqB y.name x.name)=some x:=fun x hx=>by
   obtain⟨k,hk,rfl⟩:=aZ.1 hx
   exact pd hg.nd hk
  have ho:=hS5.obj
  have h1:=hS5.names
  simp only[ScO]at ho
  clear hS hR hat
  have hdead:∀x∈v.vars.filter (fun x=>!x.dead),x.dead=false:=fun x hx=>by have:=(bQ.1 hx).2;simpa using this
  generalize(v.vars.filter fun x=>!x.dead)=ws at*
  have hlen:(aB (ws.map (·.name))).length=ws.length:=by simp[aB]
  simp only[go_sem,rE,rA,rL,hlen]
  refine aQ ws.length (fun k E' H'=>E' 7=.ptr s 0/\E' 26=.sl 1 none (aB (ws.map (·.name)))/\E' 27=I ws.length/\E' 28=I k/\(∃rs,bM H' 2 rs (E' 9)/\LeR rs (mw (ws.take k)))/\
   (∀c,H5.get c≠none->H'.get c=H5.get c)/\∀c,co (E' 9) c->H5.get c=none) ⟨rfl,rfl,rfl,rfl,⟨[],.inl ⟨rfl,rfl⟩,trivial⟩,fun _ _=>rfl,fun c ⟨_,_,_,_,e⟩=>by simp[fQ,ku]at e⟩ ?_
  rintro k E' H' hk ⟨q7,q26,q27,q28,⟨rs,qa,ql⟩,kk,kt⟩
  have gs:H'.get s=_:=(kk s (by rw[ho];simp)).trans ho
  have gm:H'.get m1=_:=(kk m1 (by rw[h1];simp)).trans h1
  simp only[go_sem,rE,rA,rL,q27,q28]
  refine aE (fun hlt=>?_) (fun hge=>?_)
  ·have hk1:k<ws.length:=by omega
   have w1:=aJ (n:=(k:Int)+1) (by omega) (by have:=hg.len;omega)
   have hgn:=kx (ns:=ws.map (·.name)) (k:=k) (by simpa using hk1)
   rw[fW]at hgn
   have hx:=hws _ (ax hk1)
   have hsn:=wW (ws.take k) ws[k]
   rw[<-aA hk1]at hsn
   have hnm:cW v.vars ws[k].name=some (ws[k].ent (fi v.vars ws[k].name)):=by simp only[cW,hfind _ hx,bK]
   have hnd:=hdead _ (ax hk1)
   have hll:=hg.ll _ hx
   have hlp:=hg.lp _ hx
   generalize ws[k]=x at*
   simp only[go_sem,rE,rA,rL,q7,q26,q28,hgn,gs]
   refine fF (k:=x.name) (g:=cW v.vars) rfl gm trivial ?_
   simp only[hnm,iO,av,if_false,Vr.ent,hnd,kT]
   simp only[go_sem,rE,rA,rL]
   intro b12 hb12
   have k12:∀c,H5.get c≠none->c≠b12:=fun c hc e=>by subst e;rw[kk c hc]at hb12;exact hc hb12
   have qa12:∀o,bM (H'.set b12 o) 2 rs (E' 9):=fun o=>qa.new hb12 o
   have t12:¬co (E' 9) b12:=fun ht=>by obtain⟨n,m,e⟩:=qa.tok ht;rw[hb12]at e;simp at e
   have g12:=ai H' b12 (.cells [.sl 1 none (Ty.encs x.type.kids),B x.param,B x.lent,B true,B (fi v.vars x.name),.sl 2 none (x.loans.map Pl.enc)])
   have kk12:∀c,H5.get c≠none->(H'.set b12 (.cells [.sl 1 none (Ty.encs x.type.kids),B x.param,B x.lent,B true,B (fi v.vars x.name),.sl 2 none (x.loans.map Pl.enc)])).get c=H5.get c:=fun c hc=>by rw[ae _ _ (k12 c hc)];exact kk c hc
   have qa:=qa12 (.cells [.sl 1 none (Ty.encs x.type.kids),B x.param,B x.lent,B true,B (fi v.vars x.name),.sl 2 none (x.loans.map Pl.enc)])
   generalize(H'.set b12 (.cells [.sl 1 none (Ty.encs x.type.kids),B x.param,B x.lent,B true,B (fi v.vars x.name),.sl 2 none (x.loans.map Pl.enc)]))=H6 at*
   have skip:¬(x.lent=true/\x.param=false)->mw (ws.take (k+1))=mw (ws.take k):=fun h=>by rw[hsn,if_neg h]
   cases hle:x.lent with
   |false=>
    rw[hle]at g12
    simp only[go_sem,rE,rA,rL,q7,q26,q28,g12,w1]
    exact⟨hk1,H6,aj.sub_refl _,q27,rfl,⟨rs,qa,by rw[skip (by simp[hle])];exact ql⟩,kk12,kt⟩
   |true=>
   rw[hle]at g12
   cases hpa:x.param with
   |true=>
    rw[hpa]at g12
    simp only[go_sem,rE,rA,rL,q7,q26,q28,g12,w1]
    exact⟨hk1,H6,aj.sub_refl _,q27,rfl,⟨rs,qa,by rw[skip (by simp[hpa])];exact ql⟩,kk12,kt⟩
   |false=>
   rw[hpa]at g12
   simp only[go_sem,rE,rA,rL,q7,q26,q28,g12]
   intro b13 hb13
   have d1213:=al g12 hb13
   have hn13:H5.get b13=none:=by
    cases h:H5.get b13 with
    |none=>rfl
    |some o=>have:=kk12 b13 (by rw[h];simp);rw[hb13,h]at this;simp at this
   have qa:=qa.new hb13 (.cells [S x.name,NIL])
   have t13:¬co (E' 9) b13:=fun ht=>by obtain⟨n,m,e⟩:=qa.tok ht;rw[ai]at e;simp at e
   have g12:(H6.set b13 (.cells [S x.name,NIL])).get b12=_:=(ae _ _ d1213).trans g12
   have g13:(H6.set b13 (.cells [S x.name,NIL])).get b13=_:=ai _ _ _
   have kk13:∀c,H5.get c≠none->(H6.set b13 (.cells [S x.name,NIL])).get c=H5.get c:=fun c hc=>by rw[ae _ _ (by rintro rfl;exact hc hn13)];exact kk12 c hc
   generalize(H6.set b13 (.cells [S x.name,NIL]))=H7 at*
   simp only[go_sem,rE,rA,rL,g12,am]
   refine aQ x.loans.length (fun j E2 H2=>E2 7=.ptr s 0/\E2 9=E' 9/\E2 13=.ptr b13 0/\E2 26=.sl 1 none (aB (ws.map (·.name)))/\E2 27=I ws.length/\E2 28=I k/\E2 48=.sl 2 none (x.loans.map Pl.enc)/\E2 49=I x.loans.length/\E2 50=I j/\
    (∃X,H2.get b13=some (.cells [S x.name,X])/\bM H2 2 ((x.loans.take j).map Pl.enc) X/\∀c,co X c->H7.get c=none)/\∀c,H7.get c≠none->c≠b13->H2.get c=H7.get c)
    ⟨q7,rfl,rfl,q26,q27,q28,rfl,rfl,rfl,⟨NIL,g13,.inl ⟨rfl,rfl⟩,fun c ⟨_,_,_,_,e⟩=>by simp at e⟩,fun _ _ _=>rfl⟩ ?_
   rintro j E2 H2 hj ⟨r7,r9,r13,r26,r27,r28,r48,r49,r50,⟨X,gX,aX,tX⟩,kX⟩
   simp only[go_sem,rE,rA,rL,r49,r50]
   have qa2:bM H2 2 rs (E' 9):=qa.mono fun c hc=>kX c (by obtain⟨n,m,e⟩:=qa.tok hc;rw[e];simp) (by rintro rfl;exact t13 hc)
   refine aE (fun hlt2=>?_) (fun hge2=>?_)
   ·have hj1:j<x.loans.length:=by omega
    have w2:=aJ (n:=(j:Int)+1) (by omega) (by omega)
    have hgp:(x.loans.map Pl.enc)[j]?=some [S x.loans[j].name,au x.loans[j].path]:=by simp[hj1,Pl.enc]
    have hcp:=vI L x.loans[j] (by have:=hlp _ (ax hj1);omega)
    simp only[Pl.enc]at hcp
    have htk:(x.loans.take (j+1)).map Pl.enc=(x.loans.take j).map Pl.enc++[x.loans[j].enc]:=by rw[aA hj1,bf];rfl
    simp only[Pl.enc]at htk
    generalize x.loans[j]=y at*
    simp only[go_sem,rE,rA,rL,r48,r50,hgp]
    intro b15 hb15
    have d1315:=al gX hb15
    have gX2:=fun o=>(ae H2 o d1315).trans gX
    simp only[go_sem,rE,rA,rL,r13,gX2]
    refine ao hcp rfl ?_
    simp only[go_sem,rE,rA,rL,r13,gX2,az,aq,ay]
    refine dD (es:=(x.loans.take j).map Pl.enc) (ys:=[[S y.name,au y.path]]) (by simp only[go_sem,rE,rA,rL];exact aX.new hb15 _) (by simp[go_sem,bh]) (by simp) (by simp;omega) ?_
    intro x' H8 fp hx' hfp hkeep hnew
    simp only[go_sem,rE,rA,rL]at hkeep hnew
    have nX:∀c,H7.get c≠none->¬co X c:=fun c hc h=>hc (tX c h)
    have g8:H8.get b13=some (.cells [S x.name,X]):=by rw[hkeep b13 (by rw[gX2];simp) (nX b13 (by rw[g13];simp))];exact gX2 _
    have hx8:∀c,co x' c->H7.get c=none/\c≠b13:=fun c hc=>by
     have e0:H7.get c=none:=by
      rcases hnew c hc with h|h
      ·exact tX c h
      ·cases hq:H7.get c with
       |none=>rfl
       |some o=>
        exfalso
        by_cases hcb:c=b13
        ·subst hcb;rw[gX2]at h;simp at h
        have hc2:=kX c (by rw[hq];simp) hcb
        have hne:c≠b15:=by rintro rfl;rw[hb15,hq]at hc2;simp at hc2
        rw[ae _ _ hne,hc2,hq]at h;simp at h
     exact⟨e0,by rintro rfl;rw[g13]at e0;simp at e0⟩
    simp only[go_sem,rE,rA,rL,r13,g8,hx'.one,r50,w2]
    have nb:¬co x' b13:=fun h=>(hx8 b13 h).2 rfl
    have hx9:∀o,bM (H8.set b13 o) 2 ((x.loans.take (j+1)).map Pl.enc) x':=fun o=>by
     rw[htk]
     exact hx'.mono fun c hc=>ae _ _ (hx8 c hc).2
    refine⟨hj1,_,aj.sub_refl _,r7,r9,r26,r27,r28,r48,r49,rfl,⟨x',ai _ _ _,hx9 _,fun c hc=>(hx8 c hc).1⟩,fun c hc hne=>?_⟩
    rw[ae _ _ hne,hkeep c ?_ (nX c hc),ae _ _ ?_]
    ·exact kX c hc hne
    ·rintro rfl;rw[kX c hc hne]at hb15;exact hc hb15
    ·rw[ae _ _ (by rintro rfl;rw[kX c hc hne]at hb15;exact hc hb15),kX c hc hne];exact hc
   ·have hjj:j=x.loans.length:=by omega
    subst hjj
    rw[aO]at aX
    simp only[go_sem,rE,rA,rL,r7,r9,r13,r26,r28,gX,az,aq,ay]
    refine dD (es:=rs) (ys:=[[S x.name,X]]) (by simp only[go_sem,rE,rA,rL];exact qa2) (by simp[go_sem,bh]) (by simp) (by
     have h1:=ql.length
     have h2:(mw (ws.take k)).length<=ws.length:=by
      unfold mw
      rw[am]
      exact bV (eA _ _) (by rw[bp];omega)
     have:=hg.len
     simp;omega) ?_
    intro x' H8 fp hx' hfp hkeep hnew
    simp only[go_sem,rE,rA,rL]at hkeep hnew
    simp only[go_sem,rE,rA,rL,r28,w1]
    have k2:∀c,H5.get c≠none->H2.get c=H5.get c:=fun c hc=>by
     have:=kk13 c hc
     rw[kX c (by rw[this];exact hc) (by rintro rfl;exact hc hn13),this]
    refine⟨hk1,H8,aj.sub_refl _,r7,r26,r27,rfl,⟨_,hx',by rw[hsn,if_pos ⟨hle,hpa⟩];exact ql.append ⟨⟨⟨.refl _,rfl⟩,⟨aX.le,rfl⟩,trivial⟩,trivial⟩⟩,fun c hc=>?_,fun c hc=>?_⟩
    ·rw[hkeep c (by rw[k2 c hc];exact hc) (fun h=>hc (kt c h))];exact k2 c hc
    ·rcases hnew c hc with h|h
     ·exact kt c h
     ·cases hq:H5.get c with
      |none=>rfl
      |some o=>rw[k2 c (by rw[hq];simp),hq]at h;simp at h
  ·have hkk:k=ws.length:=by omega
   subst hkk
   rw[aO]at ql
   simp only[go_sem,rE,rA,rL]
   refine ak (Le.trans qa.le (.slR ql)) (fun b o hb=>?_) ⟨rfl,rfl⟩
   have:=hsub b o hb
   rw[kk b (by rw[this];simp)];exact this
end
theorem sD(l:List Vr)(x:Vr):fR (l++[x])=if kJ x then fR l++[iJ x]else fR l:=by
 unfold fR tc
 rw[List.filter_append,bf]
 cases h:kJ x<;>simp[h]
section
variable {P:Program}{F:Ids}
theorem z9(L:Lib P F){p:Pg}(hf:p.fit)(hpl:p.length<=2^20)(fn n:Int):bz P 12 [.agg (Pg.enc p),I fn,I n] .empty fun q H'=>q=.sl 2 none (match iQ p fn n with|none=>[]|some e=>fR e.vars)/\H'=.empty:=by
 refine(L.a Tryz.func12 y12) (by simp[y12]) ?_
 have h4:=B5 L hf hpl fn n
 simp only[Pg.enc]at h4
 simp only[y12,go_sem,rE,rA,rL,Pg.enc,az,ay,bh]
 intro b3 hb3 b14 hb14
 have d3:=al (ai _ _ _) hb14
 have g3:((aj.empty.set b3 (.cells [.sl 12 none (p.map Fu.enc)])).set b14 (.tail 0 0)).get b3=some (.cells [.sl 12 none (p.map Fu.enc)]):=by rw[ae _ _ d3,ai]
 have gt:=ai (aj.empty.set b3 (.cells [.sl 12 none (p.map Fu.enc)])) b14 (.tail 0 0)
 generalize(aj.empty.set b3 (.cells [.sl 12 none (p.map Fu.enc)])).set b14 (.tail 0 0)=H0 at*
 clear hb3 hb14
 simp only[go_sem,rE,rA,rL,g3]
 refine dq h4 rfl (aj.sub_empty _) (by simp) trivial ?_
 intro q H1 hq hnew
 have hn1:∀c,H1.get c≠none->H0.get c=none:=fun c hc=>hnew c hc rfl
 have gt1:(H0.swap .empty H1).get b14=some (.tail 0 0):=by
  rw[bA]
  cases h:H1.get b14 with
  |none=>exact gt
  |some o=>have:=hn1 b14 (by rw[h];simp);rw[gt]at this;simp at this
 have up:∀c,H1.get c≠none->(H0.swap .empty H1).get c=H1.get c:=fun c hc=>by
  rw[bA]
  cases h:H1.get c with
  |none=>exact absurd h hc
  |some o=>rfl
 have n14:H1.get b14=none:=by
  cases h:H1.get b14 with
  |none=>rfl
  |some o=>have:=hn1 b14 (by rw[h];simp);rw[gt]at this;simp at this
 cases hs:iQ p fn n with
 |none=>
  rw[hs]at hq
  obtain⟨a,rfl,ga⟩:=hq
  have ga1:=(up a (by rw[ga];simp)).trans ga
  generalize H0.swap .empty H1=H2 at*
  simp only[go_sem,rE,rA,rL,ga1]
  refine aQ 0 (fun k E' H'=>E' 7=.sl 2 (some (b14,0,0)) []/\E' 8=.ptr a 0/\E' 10=I k/\H'.get a=some (.cells [NIL,I 0,NIL,NIL,I 0])) ⟨rfl,rfl,rfl,ga1⟩ ?_
  rintro k E' H' hk ⟨q7,q8,q10,ga⟩
  obtain rfl:k=0:=by omega
  simp only[go_sem,rE,rA,rL,q7,q8,q10,ga,cU,Int.lt_irrefl]
  exact ak (.tok 2 _ _) (aj.sub_empty _) ⟨rfl,rfl⟩
 |some v=>
  rw[hs]at hq
  obtain⟨a,VS,NS,rfl,hE1,hok,hlo⟩:=hq
  have hE0:bE (H0.swap .empty H1) a v VS NS:=hE1.mono fun d hd=>up d (hE1.mem hd)
  have nt0:¬aP a VS NS b14:=fun h=>hE1.mem h n14
  generalize H0.swap .empty H1=H2 at*
  clear hE1 hn1 up n14 hnew h4
  simp only[go_sem,rE,rA,rL]
  refine aQ v.vars.length (fun k E' H'=>bE H' a v VS NS/\E' 8=.ptr a 0/\E' 9=B true/\E' 10=I k/\(∃rs,bM H' 2 rs (E' 7)/\LeR rs (fR (v.vars.take k)))/\∀c,co (E' 7) c->¬aP a VS NS c)
   ⟨hE0,rfl,rfl,rfl,⟨[],.inr ⟨b14,0,0,rfl,gt1⟩,trivial⟩,fun c ⟨_,_,_,_,e⟩=>by simp[fQ,ku]at e;obtain⟨-,⟨rfl,-⟩,-⟩:=e;exact nt0⟩ ?_
  rintro k E' H' hk ⟨hE,q8,q9,q10,⟨rs,qa,ql⟩,qt⟩
  have ho:=hE.obj
  simp only[dg]at ho
  obtain⟨vb,vc,cs,rfl,hr0⟩:=hE.vars.row (i:=0) (by omega)
  have hlim:v.vars.length<=LIM:=by have:=hok.len;simp[LIM];omega
  simp only[go_sem,rE,rA,rL,q8,q9,q10,ho,hlim]
  by_cases hlt:(k:Int)<v.vars.length
  ·have hk1:k<v.vars.length:=by omega
   have w1:=aJ (n:=(k:Int)+1) (by omega) (by have:=hok.len;omega)
   obtain⟨vb',vc',cs',e',hr⟩:=hE.vars.row hk1
   simp at e'
   obtain⟨rfl,rfl⟩:=e'
   have h6:=hr.row6
   have hg:=hr.get
   have hsn:=sD (v.vars.take k) v.vars[k]
   rw[<-aA hk1]at hsn
   have hvo:=(hok.all _ (ax hk1)).1
   have hll:=hvo.loans
   have hlp:=hvo.paths
   clear hr
   generalize v.vars[k]=x at*
   have h61:=h6.1
   have h62:=h6.2
   simp only[Vr.enc]at h61
   simp only[go_sem,rE,rA,rL,hlt,q8,q9,q10,ho,hg,h61,h62]
   intro b11 hb11
   have e11:¬aP a (.lit (.slice (some ⟨vb,0,none⟩) v.vars.length vc)) NS b11:=fun h=>hE.mem h hb11
   have hE6:bE (H'.set b11 (.cells [S x.name,B x.lent,B x.param,.sl 1 none (Ty.encs x.type.kids),.sl 2 none (x.loans.map Pl.enc),B x.dead])) a v (.lit (.slice (some ⟨vb,0,none⟩) v.vars.length vc)) NS:=
    hE.mono fun d hd=>ae _ _ (by rintro rfl;exact e11 hd)
   have qa6:=qa.new hb11 (.cells [S x.name,B x.lent,B x.param,.sl 1 none (Ty.encs x.type.kids),.sl 2 none (x.loans.map Pl.enc),B x.dead])
   have g11:=ai H' b11 (.cells [S x.name,B x.lent,B x.param,.sl 1 none (Ty.encs x.type.kids),.sl 2 none (x.loans.map Pl.enc),B x.dead])
   generalize(H'.set b11 (.cells [S x.name,B x.lent,B x.param,.sl 1 none (Ty.encs x.type.kids),.sl 2 none (x.loans.map Pl.enc),B x.dead]))=H6 at*
   have skip:kJ x=false->fR (v.vars.take (k+1))=fR (v.vars.take k):=fun h=>by rw[hsn,h];rfl
   cases hle:x.lent with
   |false=>
    rw[hle]at g11
    simp only[go_sem,rE,rA,rL,q8,q9,q10,g11,w1]
    exact⟨hk1,H6,aj.sub_refl _,hE6,rfl,⟨rs,qa6,by rw[skip (by simp[kJ,hle])];exact ql⟩,qt⟩
   |true=>
   rw[hle]at g11
   cases hde:x.dead with
   |true=>
    rw[hde]at g11
    simp only[go_sem,rE,rA,rL,q8,q9,q10,g11,w1]
    exact⟨hk1,H6,aj.sub_refl _,hE6,rfl,⟨rs,qa6,by rw[skip (by simp[kJ,hde])];exact ql⟩,qt⟩
   |false=>
   rw[hde]at g11
   cases hpa:x.param with
   |true=>
    rw[hpa]at g11
    simp only[go_sem,rE,rA,rL,q8,q9,q10,g11,w1]
    exact⟨hk1,H6,aj.sub_refl _,hE6,rfl,⟨rs,qa6,by rw[skip (by simp[kJ,hpa])];exact ql⟩,qt⟩
   |false=>
   rw[hpa]at g11
   have hil:kJ x=true:=by simp[kJ,hle,hde,hpa]
   clear hE hg ho hb11 skip qa e11
   simp only[go_sem,rE,rA,rL,q8,q9,q10,g11]
   intro b12 hb12
   have d1112:=al g11 hb12
   have e12:¬aP a (.lit (.slice (some ⟨vb,0,none⟩) v.vars.length vc)) NS b12:=fun h=>hE6.mem h hb12
   have hE7:bE (H6.set b12 (.cells [S x.name,NIL])) a v (.lit (.slice (some ⟨vb,0,none⟩) v.vars.length vc)) NS:=
    hE6.mono fun d hd=>ae _ _ (by rintro rfl;exact e12 hd)
   have qa7:=qa6.new hb12 (.cells [S x.name,NIL])
   have t12:¬co (E' 7) b12:=fun ht=>by obtain⟨n,m,e⟩:=qa7.tok ht;rw[ai]at e;simp at e
   have g11:(H6.set b12 (.cells [S x.name,NIL])).get b11=_:=(ae _ _ d1112).trans g11
   have g12:(H6.set b12 (.cells [S x.name,NIL])).get b12=_:=ai _ _ _
   generalize(H6.set b12 (.cells [S x.name,NIL]))=H7 at*
   clear hE6 qa6 hb12
   refine aQ x.loans.length (fun j E2 H2=>E2 7=E' 7/\E2 8=.ptr a 0/\E2 9=B true/\E2 10=I k/\E2 11=.ptr b11 0/\E2 12=.ptr b12 0/\E2 13=I j/\
    (∃X,H2.get b12=some (.cells [S x.name,X])/\(∃ys,bM H2 2 ys X/\LeR ys ((x.loans.take j).map Pl.enc))/\∀c,co X c->H7.get c=none)/\∀c,H7.get c≠none->c≠b12->H2.get c=H7.get c)
    ⟨rfl,q8,q9,q10,rfl,rfl,rfl,⟨NIL,g12,⟨[],.inl ⟨rfl,rfl⟩,trivial⟩,fun c ⟨_,_,_,_,e⟩=>by simp at e⟩,fun _ _ _=>rfl⟩ ?_
   rintro j E2 H2 hj ⟨r7,r8,r9,r10,r11,r12,r13,⟨X,gX,⟨ys,aX,lX⟩,tX⟩,kX⟩
   have g11':=(kX b11 (by rw[g11];simp) d1112).trans g11
   simp only[go_sem,rE,rA,rL,r11,r13,g11',am]
   have qa2:bM H2 2 rs (E' 7):=qa7.mono fun c hc=>kX c (by obtain⟨n,m,e⟩:=qa7.tok hc;rw[e];simp) (by rintro rfl;exact t12 hc)
   refine aE (fun hlt2=>?_) (fun hge2=>?_)
   ·have hj1:j<x.loans.length:=by omega
    have w2:=aJ (n:=(j:Int)+1) (by omega) (by omega)
    have hgp:(x.loans.map Pl.enc)[j]?=some [S x.loans[j].name,au x.loans[j].path]:=by simp[hj1,Pl.enc]
    have htk:(x.loans.take (j+1)).map Pl.enc=(x.loans.take j).map Pl.enc++[x.loans[j].enc]:=by rw[aA hj1,bf];rfl
    simp only[Pl.enc]at htk
    have hpl:=hlp _ (ax hj1)
    generalize x.loans[j]=y at*
    simp only[go_sem,rE,rA,rL,r11,r12,r13,g11',gX,hgp,au,az,ay,bh]
    intro bq hbq
    have d12q:=al gX hbq
    have d11q:=al g11' hbq
    have gXq:(H2.set bq (.tail 0 0)).get b12=_:=(ae _ _ d12q).trans gX
    have g11q:(H2.set bq (.tail 0 0)).get b11=_:=(ae _ _ d11q).trans g11'
    have aXq:bM (H2.set bq (.tail 0 0)) 2 ys X:=aX.new hbq _
    have tXq:¬co X bq:=fun h=>by obtain⟨n,m,e⟩:=aX.tok h;rw[hbq]at e;simp at e
    simp only[go_sem,rE,rA,rL,r11,r13,g11q,hgp,au]
    refine dD (es:=[]) (ys:=y.path.map fun i=>[I i]) (.inr ⟨bq,0,0,rfl,ai _ _ _⟩) (by simp only[go_sem,rE]) (by simp) (by simp;omega) ?_
    intro x1 H8 fp1 hx1 hfp1 hkeep1 hnew1
    simp only[go_sem,rE,rA,rL,az,aq,ay,hx1.one]at hkeep1 hnew1⊢
    have k1:∀c,H2.get c≠none->H8.get c=H2.get c:=fun c hc=>by
     have hcq:c≠bq:=by rintro rfl;exact hc hbq
     rw[hkeep1 c (by rw[ae _ _ hcq];exact hc) (fun⟨_,_,_,_,e⟩=>by simp at e;exact hcq e.2.1.1.symm),ae _ _ hcq]
    have aX8:bM H8 2 ys X:=aX.mono fun c hc=>k1 c (by obtain⟨n,m,e⟩:=aX.tok hc;rw[e];simp)
    have gX8:H8.get b12=_:=(k1 b12 (by rw[gX];simp)).trans gX
    refine dD (es:=ys) (ys:=[[S y.name,x1]]) (by simp only[go_sem,rE,rA,rL];exact aX8) (by simp[go_sem,bh]) (by simp) (by have:=lX.length;simp at this⊢;omega) ?_
    intro x' H9 fp2 hx' hfp2 hkeep2 hnew2
    simp only[go_sem,rE,rA,rL]at hkeep2 hnew2
    have nX:∀c,H7.get c≠none->¬co X c:=fun c hc h=>hc (tX c h)
    have g9:H9.get b12=some (.cells [S x.name,X]):=by rw[hkeep2 b12 (by rw[gX8];simp) (nX b12 (by rw[g12];simp))];exact gX8
    have k27:∀c,H7.get c≠none->H8.get c≠none:=fun c hc=>by
     by_cases hcb:c=b12
     ·subst hcb;rw[gX8];simp
     ·rw[k1 c (by rw[kX c hc hcb];exact hc),kX c hc hcb];exact hc
    have hx9:∀c,co x' c->H7.get c=none/\c≠b12:=fun c hc=>by
     have e0:H7.get c=none:=by
      rcases hnew2 c hc with h|h
      ·exact tX c h
      ·cases hq:H7.get c with
       |none=>rfl
       |some o=>exact absurd h (k27 c (by rw[hq];simp))
     exact⟨e0,by rintro rfl;rw[g12]at e0;simp at e0⟩
    simp only[go_sem,rE,rA,rL,r12,g9,hx'.one,r13,w2]
    refine⟨hj1,_,aj.sub_refl _,r7,r8,r9,r10,r11,rfl,⟨x',ai _ _ _,⟨_,hx'.mono fun c hc=>ae _ _ (hx9 c hc).2,by rw[htk];exact lX.append ⟨⟨⟨.refl _,rfl⟩,⟨hx1.le,rfl⟩,trivial⟩,trivial⟩⟩,fun c hc=>(hx9 c hc).1⟩,fun c hc hne=>?_⟩
    rw[ae _ _ hne,hkeep2 c (k27 c hc) (nX c hc),k1 c (by rw[kX c hc hne];exact hc)]
    exact kX c hc hne
   ·have hjj:j=x.loans.length:=by omega
    subst hjj
    rw[aO]at lX
    simp only[go_sem,rE,rA,rL,r7,r8,r9,r10,r12,gX,az,aq,ay]
    refine dD (es:=rs) (ys:=[[S x.name,X]]) (by simp only[go_sem,rE,rA,rL];exact qa2) (by simp[go_sem,bh]) (by simp) (by
     have h1:=ql.length
     have h2:(fR (v.vars.take k)).length<=v.vars.length:=by
      unfold fR tc
      rw[am]
      exact bV (eA _ _) (by rw[bp];omega)
     have:=hok.len
     simp;omega) ?_
    intro x' H8 fp hx' hfp hkeep hnew
    simp only[go_sem,rE,rA,rL]at hkeep hnew
    simp only[go_sem,rE,rA,rL,r8,r9,r10,w1]
    have k2:∀c,aP a (.lit (.slice (some ⟨vb,0,none⟩) v.vars.length vc)) NS c->H2.get c=H7.get c:=fun c hc=>kX c (hE7.mem hc) (by rintro rfl;exact e12 hc)
    refine⟨hk1,H8,aj.sub_refl _,hE7.mono fun d hd=>?_,rfl,⟨_,hx',by rw[hsn,hil,if_pos rfl];exact ql.append ⟨⟨⟨.refl _,rfl⟩,⟨Le.trans aX.le (.slR lX),rfl⟩,trivial⟩,trivial⟩⟩,fun c hc hb=>?_⟩
    ·rw[hkeep d (by rw[k2 d hd];exact hE7.mem hd) (fun h=>qt d h hd)];exact k2 d hd
    ·rcases hnew c hc with h|h
     ·exact qt c h hb
     ·rw[k2 c hb]at h;exact hE7.mem hb h
  ·have hkk:k=v.vars.length:=by omega
   subst hkk
   rw[aO]at ql
   simp only[go_sem,rE,rA,rL,hlt]
   exact ak (Le.trans qa.le (.slR ql)) (aj.sub_empty _) ⟨rfl,rfl⟩
end
theorem Bh:(⟨bl [],[⟨bl [],false,.mk []⟩],false,.mk [],[],E0,P0⟩:Fu).good:=⟨⟨by simp;exact⟨dU⟩,dU⟩,by simp,by simp,by simp[fh],by simp,wq⟩
section
variable {P:Program}{F:Ids}
theorem zF(L:Lib P F)(r:Nat)(bs:List UInt8)(hbs:bs.length<=2000)(p:Int)(hp:0<=p)(hp2:p+5*FC<=2^50):
 bz P 66 [.ptr r 0] (one r (RdO bs p)) (RdR r bs p (5*FC) fun q=>∃pr:Pg,q=.agg (Pg.enc pr)/\(∀f∈pr,f.good)/\1<=pr.length/\pr.length<=4):=by
 simp only[FC]at hp2
 refine(L.a Tryz.func66 y66) (by simp[y66]) ?_
 simp only[y66,go_sem,rE,rA]
 intro b2 hb2 b3 hb3
 have hr2:r≠b2:=by rintro rfl;rw[bI]at hb2;simp at hb2
 have d23:b2≠b3:=ot hb3
 have hr3:r≠b3:=by rintro rfl;rw[ae _ _ hr2,bI]at hb3;simp at hb3
 have gr:(((one r (RdO bs p)).set b2 (.cells [NIL])).set b3 (.cells [NIL])).get r=some (RdO bs p):=by rw[ae _ _ hr3,ae _ _ hr2,bI]
 have g2:(((one r (RdO bs p)).set b2 (.cells [NIL])).set b3 (.cells [NIL])).get b2=some (.cells [NIL]):=by rw[ae _ _ d23,ai]
 have g3:(((one r (RdO bs p)).set b2 (.cells [NIL])).set b3 (.cells [NIL])).get b3=some (.cells [NIL]):=ai _ _ _
 generalize(((one r (RdO bs p)).set b2 (.cells [NIL])).set b3 (.cells [NIL]))=H0 at*
 clear hb2 hb3
 refine ba (cv L r bs p 4 hbs hp (by omega)) (rfl) gr (by simp) trivial ?_
 rintro q p1 hp1 hp1' ⟨k0,rfl,hk00,hk01⟩
 have g2:(H0.set r (RdO bs p1)).get b2=_:=(ae _ _ (Ne.symm hr2)).trans g2
 have g3:(H0.set r (RdO bs p1)).get b3=_:=(ae _ _ (Ne.symm hr3)).trans g3
 have gr:(H0.set r (RdO bs p1)).get r=_:=ai _ _ _
 generalize H0.set r (RdO bs p1)=H1 at*
 have w1:=aJ (n:=1+k0) (by omega) (by omega)
 obtain⟨n,hn⟩:∃n:Nat,1+k0=(n:Int):=⟨(1+k0).toNat,by omega⟩
 rw[hn]at w1
 simp only[go_sem,rE,rA,w1,hn]
 let J:Nat->Env->aj->Prop:=fun k E H=>∃(p':Int) (X:AC) (pr:Pg),H.get r=some (RdO bs p')/\H.get b2=some (.cells [NIL])/\H.get b3=some (.cells [X])/\p<=p'/\p'<=p+1+FC*k/\pr.length=k/\(∀f∈pr,f.good)/\bM H 12 (pr.map Fu.enc) X/\
  E 0=.ptr r 0/\E 2=.ptr b2 0/\E 3=.ptr b3 0/\E 4=I ((n:Int) - k)
 refine aQ n J ⟨p1,NIL,[],gr,g2,g3,hp1,by simp;omega,rfl,by simp,.nil _ _,rfl,rfl,rfl,rfl⟩ ?_
 clear gr g2 g3
 rintro k E H hk ⟨p',X,pr,gr,g2,g3,hq1,hq2,hpr,hgood,hX,e0,e2,e3,e4⟩
 simp only[FC]at hq2
 simp only[wp_seq,go_sem,rE,rA,e4]
 refine aE (fun hlt=>?_) (fun hge=>?_)
 ·have w2:=aJ (n:=(n:Int) - k - 1) (by omega) (by omega)
  simp only[go_sem,rE,rA,e0,e3,g3,rL]
  refine ba (zas:=[.ptr r 0,.agg [X]]) ((c_l71Fn L r bs hbs pr (fun g hg=>⟨(hgood g hg).okS,(hgood g hg).pars.2⟩) (by omega) p' (by omega) (by simp only[FC];omega)).args ⟨.refl _,.agg ⟨⟨hX.le,rfl⟩,trivial⟩,trivial⟩) (rfl) gr (fun _=>⟨by simp[FC],_,_,rfl,Bh⟩) (by simp[dQ];exact Ne.symm hr3) ?_
  rintro q p2 hp2 hp2' ⟨f,rfl,hf⟩
  simp only[FC]at hp2'
  have g2:(H.set r (RdO bs p2)).get b2=_:=(ae _ _ (Ne.symm hr2)).trans g2
  have g3:(H.set r (RdO bs p2)).get b3=_:=(ae _ _ (Ne.symm hr3)).trans g3
  have hX2:bM (H.set r (RdO bs p2)) 12 (pr.map Fu.enc) X:=hX.keepF fun d hd=>ae _ _ (by rintro rfl;obtain⟨n,m,h⟩:=hX.mem hd;rw[gr]at h;simp[RdO]at h)
  have gr:(H.set r (RdO bs p2)).get r=_:=ai _ _ _
  generalize H.set r (RdO bs p2)=Ha at*
  clear hX
  obtain⟨cf,hcf,CF⟩:=fuC f
  simp only[hcf,go_sem,rE,rA,CF.len,CF.all,az,aq,ay,rL,bh]
  refine dD (es:=pr.map Fu.enc) (ys:=[cf]) (by simp only[go_sem,rE];exact hX2) (rfl) (by simp[CF.len]) (by simp;omega) ?_
  intro x' Hc fpc hx' _ keep new
  simp only[go_sem,rE]at keep new
  have hx1:=hx'.one
  have in1:∀{d cs},Ha.get d=some (.cells cs)->Hc.get d=some (.cells cs):=fun {d cs} hd=>by
   rw[keep d (by rw[hd];simp) fun ht=>by obtain⟨n,m,h⟩:=hX2.mem ht;rw[hd]at h;simp at h];exact hd
  have g2:=in1 g2
  have g3:=in1 g3
  have gr:=in1 gr
  simp only[go_sem,rE,rA,e3,e4,g3,hx1,w2,rL]
  refine⟨by omega,_,aj.sub_refl _,p2,x',pr++[f],(ae _ _ hr3).trans gr,(ae _ _ d23).trans g2,ai _ _ _,by omega,by simp only[FC];omega,by simp;exact hpr,fun x hx=>?_,?_,e0,e2,e3,by simp only[go_sem,rE];congr 2;omega⟩
  ·rcases aF.1 hx with h|h
   ·exact hgood x h
   ·simp at h;subst h;exact hf
  ·rw[bf,aS,bD,hcf]
   exact hx'.set g3 _
 ·simp only[go_sem,rE,rA,e2,e3,g2,g3,rL]
  exact bT (q':=.agg (Pg.enc pr)) (off:=0) (e2) (ai _ _ _) rfl (.agg ⟨⟨hX.le,rfl⟩,trivial⟩) (eU (by rw[ae _ _ hr2];exact gr)) ⟨p',hq1,by simp only[FC];omega,rfl,pr,rfl,hgood,by omega,by omega⟩
end
def jl(ss:List ByteArray):List (List AC):=ss.map fun s=>[S s]
theorem txt_get{ss:List ByteArray}{k:Nat}(h:k<ss.length):(jl ss)[k]?=some [S ss[k]]:=by simp[jl,h]
theorem txt_len(ss:List ByteArray):(jl ss).length=ss.length:=by simp[jl]
def Ty.lo(t:Ty):Prop:=∃D,D<=12/\t.le D
section
variable {P:Program}{F:Ids}
theorem zA(L:Lib P F)(r:Nat)(bs:List UInt8)(hbs:bs.length<=2000)(ss:List ByteArray)(hne:0<ss.length)(hl:ss.length<=1000)(p:Int)(hp:0<=p)(hp2:p+1<=2^50):
 bz P 55 [.ptr r 0,.sl 1 none (jl ss)] (one r (RdO bs p)) (RdR r bs p 1 fun q=>∃s,q=S s):=by
 refine(L.a Tryz.func55 y55) (by simp[y55]) ?_
 simp only[y55,go_sem,rE,rA,txt_len]
 refine ba (cv L r bs p ss.length hbs hp (by omega)) (rfl) (bI _ _) (by simp) trivial ?_
 rintro q p1 hp1 hp1' ⟨k,rfl,hk0,hk1⟩
 have hkl:k.toNat<ss.length:=by omega
 rw[ij]
 simp only[go_sem,rE,rA,hk0,txt_get hkl]
 exact gT ⟨p1,hp1,hp1',rfl,_,rfl⟩
def TyT(r:Nat)(bs:List UInt8)(p c:Int)(d:Nat)(q:AC)(H':aj):Prop:=∃(p':Int) (X:AC) (t:Ty),p<=p'/\p'<=p+c/\q=.agg [X]/\H'.get r=some (RdO bs p')/\bM H' 1 (Ty.encs t.kids) X/\t.le d/\¬co X r/\t.kids.length<=2
theorem xB(L:Lib P F)(r:Nat)(bs:List UInt8)(hb:bs.length<=2000)(d:Nat)(dp:Int)(hd:dp<=d+1)(hd':d+1<=100)(hdp:-10<=dp)(p:Int)(hp:0<=p)(hp':p+ff (d+1)<=2^50):
 bz P 113 [.ptr r 0,I dp] (one r (RdO bs p)) (TyT r bs p (ff (d+1)) (d+1)):=by
 have tn:=lR d
 simp only[ff]at hp'
 refine(L.a Tryz.func113 t8) (by simp[t8]) ?_
 simp only[t8,go_sem,rE]
 intro b hb'
 have hrb:r≠b:=by rintro rfl;rw[bI]at hb';simp at hb'
 have hbr:b≠r:=Ne.symm hrb
 have leaf:∀(E:Env) p',p<=p'->p'<=p+ff (d+1)->E 4=.ptr b 0->
  bm.post [jz.cell 4 (some 1)] (TyT r bs p (ff (d+1)) (d+1)) .ret E ((one r (RdO bs p')).set b (.cells [AC.lit (.slice none 0 0)])):=by
  intro E p' h1 h2 hE
  exact bT (q':=.agg [NIL]) hE (ai _ _ _) rfl (.refl _) (nA (gG _ hbr)) ⟨p',NIL,.mk [],h1,h2,rfl,bI _ _,.nil _ _,kz _,by rintro⟨_,_,_,_,h⟩;simp at h,by simp[Ty.kids]⟩
 by_cases h2:dp<2
 ·simp only[go_sem,rE,h2,aD,rA]
  exact leaf _ p (cX _) (by simp only[ff];omega) (rfl)
 ·simp only[go_sem,rE,h2]
  refine ba (cv L r bs p 3 hb hp (by omega)) (rfl) (by simp only[go_sem,hrb,bI]) (by simp) trivial ?_
  rintro q p1 hp1 hp1' ⟨k,rfl,hk0,hk3⟩
  simp only[go_sem,rE]
  rw[fC hbr,ij]
  refine aE (fun hgt=>?_) (fun hle=>?_)
  ·simp only[go_sem,rE,aD,rA]
   exact leaf _ p1 hp1 (by simp only[ff];omega) (rfl)
  ·have w1:=aJ (n:=dp - 1) (by omega) (by omega)
   simp only[go_sem,rE,w1]
   refine ba (ky L r bs hb d (dp - 1) (by omega) (by omega) p1 (by omega) (by omega)) (rfl) (by simp only[go_sem,hrb,bI]) (by simp) trivial ?_
   rintro q p2 hp2 hp2' ⟨t1,rfl,ht1⟩
   rw[fC hbr,ij]
   simp only[go_sem,rE,w1]
   refine ba (ky L r bs hb d (dp - 1) (by omega) (by omega) p2 (by omega) (by omega)) (rfl) (by simp only[go_sem,hrb,bI]) (by simp) trivial ?_
   rintro q p3 hp3 hp3' ⟨t2,rfl,ht2⟩
   rw[fC hbr,ij]
   obtain⟨k1⟩:=t1
   obtain⟨k2⟩:=t2
   simp only[go_sem,rE,Ty.enc,az,aq,ay,rA,rL,aD,Nat.reduceMul]
   intro b2 hb2
   have h2b:b≠b2:=by rintro rfl;simp at hb2
   have h2r:r≠b2:=by rintro rfl;rw[ae _ _ hrb,bI]at hb2;simp at hb2
   simp only[go_sem,h2b,bh,aD,rA]
   refine bT (q':=.agg [.sl 1 (some (b2,2,2)) (Ty.encs [.mk k1,.mk k2])]) (off:=0) (rfl) (ai _ _ _) rfl (.refl _) (aj.sub_refl _)
    ⟨p3,_,.mk [.mk k1,.mk k2],by omega,by simp only[ff];omega,rfl,by rw[ae _ _ hrb,ae _ _ h2r,ae _ _ hrb,bI],.inr ⟨b2,2,2,rfl,by rw[ae _ _ (Ne.symm h2b),ai]⟩,?_,?_,by simp[Ty.kids]⟩
   ·simp only[Ty.le,aU,bR,be,ce,or_false,forall_eq_or_imp,forall_eq]
    exact⟨by omega,ht1,ht2⟩
   ·rintro⟨_,_,_,_,h⟩;simp at h;exact h2r h.2.1.1.symm
end
theorem LeR.tys:∀p:List Ty,LeR (p.map Ty.enc) (p.map Ty.enc)
 |[]=>trivial
 |f::p=>⟨by rw[Ty.enc_eq f];exact⟨⟨.refl _,rfl⟩,trivial⟩,LeR.tys p⟩
theorem AO{H:aj}{r:Nat}{o:cQ}(h:H.get r=some o):H.only (fun d=>d=r)=one r o:=by
 apply aj.ext
 intro b
 by_cases hb:b=r
 ·subst hb;rw[bv (S:=fun d=>d=b) rfl,bI];exact h
 ·rw[cq (S:=fun d=>d=r) hb,gG _ hb]
section
variable {P:Program}{F:Ids}
theorem yO(L:Lib P F){K:Env->aj->Prop}{xs:List aM}{E:Env}{H:aj}{l:Lds}{f:Fps}{i:Nat}{args:List aI}{d:Option Nat}(r:Nat)(bs:List UInt8)(hb:bs.length<=2000)(dn:Nat)(dp:Int)(hd:dp<=dn+1)(hd':dn+1<=100)(hdp:-10<=dp)(p:Int)(hp:0<=p)(hp':p+ff (dn+1)<=2^50)
(hr:H.get r=some (RdO bs p))(ha:args.map (aI.ev E)=[.ptr r 0,I dp])
(h:∀p' X t H1 fp,p<=p'->p'<=p+ff (dn+1)->H1.get r=some (RdO bs p')->bM H1 1 (Ty.encs t.kids) X->Ty.le (dn+1) t->t.kids.length<=2->(∀c,H.get c≠none->c≠r->H1.get c=H.get c)->bF P false K xs (E.put d (.agg [X])) H1 l ((i,fp)::f)):
 bF P false K (⟨i,d,none,.eff (.call 113 args),[]⟩::xs) E H l f:=by
 have hc:=xB L r bs hb dn dp hd hd' hdp p hp hp'
 rw[<-AO hr]at hc
 refine gQ (fun d=>d=r) hc ha (.refl _) (by simp) trivial ?_
 rintro q H' H1 ⟨p',X,t,h1,h2,rfl,h3,h4,h5,h6,h7⟩ hsub hafter hnew -
 refine h p' X t H1 _ h1 h2 (hsub _ _ h3) ?_ h5 h7 (fun c hc hn=>hafter.out c hn hc)
 rcases h4 with h|⟨b,n,m,rfl,hb⟩
 ·exact .inl h
 ·exact .inr ⟨b,n,m,rfl,hsub _ _ hb⟩
theorem tp(L:Lib P F)(r:Nat)(bs:List UInt8)(hbs:bs.length<=2000)(p:Int)(hp:0<=p)(hp2:p+40<=2^50):
 bz P 85 [.ptr r 0] (one r (RdO bs p)) (RdR r bs p 40 fun q=>∃t:Ty,q=.agg t.enc/\t.lo):=by
 refine(L.a Tryz.func85 y85) (by simp[y85]) ?_
 simp only[y85,go_sem,rE,rA]
 intro b2 hb2
 have hr2:r≠b2:=by rintro rfl;rw[bI]at hb2;simp at hb2
 have gr:((one r (RdO bs p)).set b2 (.cells [NIL])).get r=some (RdO bs p):=by rw[ae _ _ hr2,bI]
 have g2:((one r (RdO bs p)).set b2 (.cells [NIL])).get b2=some (.cells [NIL]):=ai _ _ _
 generalize((one r (RdO bs p)).set b2 (.cells [NIL]))=H0 at*
 clear hb2
 refine ba (cv L r bs p 4 hbs hp (by omega)) (rfl) gr (by simp) trivial ?_
 rintro q p1 hp1 hp1' ⟨k0,rfl,hk00,hk01⟩
 have g2:(H0.set r (RdO bs p1)).get b2=_:=(ae _ _ (Ne.symm hr2)).trans g2
 have gr:(H0.set r (RdO bs p1)).get r=_:=ai _ _ _
 generalize H0.set r (RdO bs p1)=H1 at*
 have w1:=aJ (n:=1+k0) (by omega) (by omega)
 simp only[go_sem,rE,rA,w1]
 refine yO L r bs hbs 3 (1+k0) (by omega) (by omega) (by omega) p1 (by omega) (by simp[ff];omega) gr (rfl) ?_
 intro p2 X t H2 fp2 hp2 hp2' gr2 hX ht htk keep
 simp only[ff]at hp2'
 have g2:H2.get b2=_:=(keep b2 (by rw[g2];simp) (Ne.symm hr2)).trans g2
 simp only[go_sem,rE,rA]
 intro b3 hb3
 have hr3:=al gr2 hb3
 have d23:=al g2 hb3
 have hx1:=hX.one
 have gr:(H2.set b3 (.cells [X])).get r=_:=(ae _ _ hr3).trans gr2
 have g2:(H2.set b3 (.cells [X])).get b2=_:=(ae _ _ d23).trans g2
 have g3:(H2.set b3 (.cells [X])).get b3=_:=ai _ _ _
 have hX:=hX.new hb3 (.cells [X])
 generalize H2.set b3 (.cells [X])=H3 at*
 clear gr2 keep hb3
 refine ba (cv L r bs p2 12 hbs (by omega) (by omega)) (rfl) gr (by simp) trivial ?_
 rintro q p3 hp3 hp3' ⟨k1,rfl,hk10,hk11⟩
 have g2:(H3.set r (RdO bs p3)).get b2=_:=(ae _ _ (Ne.symm hr2)).trans g2
 have g3:(H3.set r (RdO bs p3)).get b3=_:=(ae _ _ (Ne.symm hr3)).trans g3
 have hX:bM (H3.set r (RdO bs p3)) 1 (Ty.encs t.kids) X:=hX.keepF fun d hd=>ae _ _ (by rintro rfl;obtain⟨n,m,h⟩:=hX.mem hd;rw[gr]at h;simp[RdO]at h)
 have gr:(H3.set r (RdO bs p3)).get r=_:=ai _ _ _
 generalize H3.set r (RdO bs p3)=H4 at*
 have fin:∀(E:Env) (H:aj) (Y:AC) (t:Ty) (p':Int),H.get r=some (RdO bs p')->H.get b2=some (.cells [NIL])->H.get b3=some (.cells [Y])->Le Y (.sl 1 none (Ty.encs t.kids))->t.lo->p<=p'->p'<=p+40->E 2=.ptr b2 0->E 3=.ptr b3 0->
  aW.wp P (.seq (rg [ld 0 30 (some 1) 3,en 1 (.store 1 2 30)]) .ret) (bm.post [.cell 2 (some 1)] (RdR r bs p 40 fun q=>∃t:Ty,q=.agg t.enc/\t.lo)) E H:=by
  intro E H Y t p' gr g2 g3 hY ht h1 h2 e2 e3
  simp only[go_sem,rE,rA,e2,e3,g2,g3,rL]
  exact bT (q':=.agg t.enc) (off:=0) (e2) (ai _ _ _) rfl (by rw[Ty.enc_eq t];exact .agg ⟨⟨hY,rfl⟩,trivial⟩) (eU (by rw[ae _ _ hr2];exact gr)) ⟨p',h1,h2,rfl,t,rfl,ht⟩
 generalize((.seq (rg [ld 0 30 (some 1) 3,en 1 (.store 1 2 30)]) .ret):aW)=RF at fin⊢
 by_cases hk0:k1=0
 ·simp only[hk0,go_sem,rE,rA,aG]
  let J:Nat->Env->aj->Prop:=fun k E H=>∃(Y:AC) (t:Ty),H.get r=some (RdO bs p3)/\H.get b2=some (.cells [NIL])/\H.get b3=some (.cells [Y])/\Le Y (.sl 1 none (Ty.encs t.kids))/\Y.cells?=some [Y]/\t.le (4+k)/\E 0=.ptr r 0/\E 2=.ptr b2 0/\E 3=.ptr b3 0/\E 4=I k
  refine aQ 5 J ⟨X,t,gr,g2,g3,hX.le,hx1,ht,rfl,rfl,rfl,rfl⟩ ?_
  clear gr g2 g3 hX
  rintro k E H hk ⟨Y,t,gr,g2,g3,hY,hY1,ht,e0,e2,e3,e4⟩
  simp only[wp_seq,go_sem,rE,rA,e4]
  refine aE (fun hlt=>?_) (fun hge=>?_)
  ·have w2:=aJ (n:=(k:Int)+1) (by omega) (by omega)
   simp only[go_sem,rE,rA,e3,g3,hY1,az,aq,ay,rL,bh]
   intro b5 hb5
   have hr5:=al gr hb5
   have d25:=al g2 hb5
   have d35:=al g3 hb5
   simp only[go_sem,rE,rA,e3,e4,g3,d35,w2,rL]
   refine⟨by omega,_,aj.sub_refl _,_,.mk [t,.mk []],by rw[ae _ _ hr3,ae _ _ hr5];exact gr,by rw[ae _ _ d23,ae _ _ d25];exact g2,ai _ _ _,?_,rfl,?_,e0,e2,e3,rfl⟩
   ·simp only[Ty.kids,Ty.encs,Ty.enc_eq t,Ty.enc]
    exact .slR ⟨⟨⟨hY,rfl⟩,trivial⟩,⟨⟨.nil 1,rfl⟩,trivial⟩,trivial⟩
   ·show Ty.le ((4+k)+1) _
    simp only[Ty.le,aU,bR,be,ce,or_false,forall_eq_or_imp,forall_eq]
    exact⟨by omega,ht,kz _⟩
  ·simp only[go_sem,rE,rA]
   exact fin _ _ Y t p3 gr g2 g3 hY ⟨4+k,by omega,ht⟩ (by omega) (by omega) (e2) (e3)
 have hk0':(k1==0)=false:=by simpa using hk0
 by_cases hk1:k1=1
 ·have hk1':(k1==1)=true:=by simpa using hk1
  simp only[hk0',hk1',go_sem,rE,rA,g3,az,aq,ay,rL,bh]
  refine dD (es:=Ty.encs t.kids) (ys:=[[NIL]]) (by simp only[go_sem,rE];exact hX) (rfl) (by simp) (by rw[Ty.encs_map];simp;omega) ?_
  intro x' Hc fpc hx' _ keep new
  simp only[go_sem,rE]at keep new
  have hx1':=hx'.one
  have in1:∀{d cs},H4.get d=some (.cells cs)->Hc.get d=some (.cells cs):=fun {d cs} hd=>by
   rw[keep d (by rw[hd];simp) fun ht=>by obtain⟨n,m,h⟩:=hX.mem ht;rw[hd]at h;simp at h];exact hd
  have g2:=in1 g2
  have g3:=in1 g3
  have gr:=in1 gr
  simp only[go_sem,rE,rA,g3,hx1',rL]
  refine fin _ _ x' (.mk (t.kids++[.mk []])) p3 ((ae _ _ hr3).trans gr) ((ae _ _ d23).trans g2) (ai _ _ _) ?_ ⟨4,by omega,?_⟩ (by omega) (by omega) (rfl) (rfl)
  ·refine hx'.le.trans ?_
   simp only[Ty.kids,Ty.encs_map,bf,aS,bD,Ty.enc]
   exact .slR (LeR.snoc (LeR.tys t.kids) ⟨⟨.nil 1,rfl⟩,trivial⟩)
  ·obtain⟨ks⟩:=t
   simp only[Ty.kids]at htk⊢
   simp only[Ty.le,bx,aU,bR]at ht⊢
   refine⟨by omega,fun k hk=>?_⟩
   rcases aF.1 hk with h|h
   ·exact ht.2 k h
   ·simp at h;subst h;exact kz _
 ·have hk1':(k1==1)=false:=by simpa using hk1
  simp only[hk0',hk1',go_sem,rE,rA]
  exact fin _ _ X t p3 gr g2 g3 hX.le ⟨4,by omega,ht⟩ (by omega) (by omega) (rfl) (rfl)
end
def FZ(b c sz:Nat)(rows:List (List AC))(x y:AC):Prop:=x=y\/(x=.lit (.slice (some ⟨b,0,none⟩) rows.length c)/\y=.sl sz none rows)
def FZL(b c sz:Nat)(rows:List (List AC)):List AC->List AC->Prop
 |[],[]=>True
 |x::xs,y::ys=>FZ b c sz rows x y/\FZL b c sz rows xs ys
 |_,_=>False
theorem FZL.refl(b c sz:Nat)(rows:List (List AC)):∀xs,FZL b c sz rows xs xs
 |[]=>trivial
 |x::xs=>⟨.inl rfl,FZL.refl b c sz rows xs⟩
theorem FZL.length{b c sz:Nat}{rows:List (List AC)}:∀{xs ys},FZL b c sz rows xs ys->xs.length=ys.length
 |[],[],_=>rfl
 |x::xs,y::ys,h=>by simp[FZL.length h.2]
theorem FZL.get{b c sz:Nat}{rows:List (List AC)}:∀{xs ys},FZL b c sz rows xs ys->∀(j:Nat) {y},ys[j]?=some y->∃x,xs[j]?=some x/\FZ b c sz rows x y
 |[],[],_,j,y,hy=>by simp at hy
 |x::xs,y::ys,h,0,z,hz=>by simp at hz;subst hz;exact⟨x,by simp,h.1⟩
 |x::xs,y::ys,h,j+1,z,hz=>by simpa using FZL.get h.2 j (by simpa using hz)
theorem FZL.append{b c sz:Nat}{rows:List (List AC)}:∀{xs ys us vs},FZL b c sz rows xs ys->FZL b c sz rows us vs->FZL b c sz rows (xs++us) (ys++vs)
 |[],[],_,_,_,h=>h
 |x::xs,y::ys,_,_,h,h'=>⟨h.1,FZL.append h.2 h'⟩
structure xO(H H':aj)(b c sz:Nat)(rows:List (List AC)):Prop where
 gone:H'.get b=none
 keep:∀d o',H'.get d=some o'->H.get d=some o'\/∃xs ys,H.get d=some (.cells xs)/\o'=.cells ys/\FZL b c sz rows xs ys
theorem yu{sz:Nat}:∀{rows:List (List AC)},(∀e∈rows,e.length=sz)->∀{i j:Nat} {e:List AC} {x:AC},rows[i]?=some e->e[j]?=some x->rows.flatten[i*sz+j]?=some x
 |[],_,i,j,e,x,h,_=>by simp at h
 |r::rows,hs,0,j,e,x,h,hx=>by
  simp at h;subst h
  have:=hs r (by simp)
  have hj:j<r.length:=by
   rcases Nat.lt_or_ge j r.length with h|h
   ·exact h
   ·rw[fU h]at hx;simp at hx
  simp only[aq,Nat.zero_mul,cy]
  rw[aL hj];exact hx
 |r::rows,hs,i+1,j,e,x,h,hx=>by
  have hr:=hs r (by simp)
  simp only[aq]
  rw[bn (by rw[hr,Nat.succ_mul];omega),hr,Nat.succ_mul]
  have:i*sz+sz+j - sz=i*sz+j:=by omega
  rw[this]
  exact yu (fun e he=>hs e (by simp[he])) (by simpa using h) hx
theorem pY{H H':aj}{b c sz:Nat}{cs:List AC}{rows:List (List AC)}(hb:H.get b=some (.cells cs))(hrows:cs.take (rows.length*sz)=rows.flatten)(hsz:∀e∈rows,e.length=sz)(hc:rows.length<=c)(hlim:rows.length<=LIM)
(fr:xO H H' b c sz rows){xs ys:List AC}(hxy:FZL b c sz rows xs ys):nS (.agg xs) H (.agg ys) H':=by
 intro M w v s r
 obtain⟨vs,el,hw,hone,hlen,hrep,hM⟩:=s.obj b _ hb
 let M':bY:=fun d o=>if d=b then(if o<rows.length*sz then vs[o]? else none)else M d o
 have hle:M.le M':=by
  intro d o u hu
  by_cases hd:d=b
  ·subst hd;rw[hM]at hu;simp at hu
  ·simp only[M',if_neg hd];exact hu
 have hcs:∀{i j e x},rows[i]?=some e->e[j]?=some x->∃u,vs[i*sz+j]?=some u/\i*sz+j<rows.length*sz/\Rep M x u/\x.one=true:=by
  intro i j e x he hx
  have h1:=yu hsz he hx
  rw[<-hrows,fl]at h1
  split at h1
  ·rename_i hlt
   obtain⟨hl,h2⟩:=aT.1 h1
   have hl2:i*sz+j<vs.size:=hlen▸hl
   exact⟨vs[i*sz+j],by simp[hl2],hlt,hrep _ _ _ h1 (by simp[hl2]),hone _ (bj h1)⟩
  ·simp at h1
 have key:Rep M' (.sl sz none rows) (.slice (some ⟨b,0,none⟩) rows.length c):=by
  refine .sl (fun i j=>vs.getD (i*sz+j) undef) hlim hc (fun e he=>⟨hsz e he,fun x hx=>?_⟩) (fun i j e x he hx=>?_) (fun i j e x he hx=>?_) (fun t ht=>by simp at ht)
  ·obtain⟨i,hi⟩:=List.getElem?_of_mem he
   obtain⟨j,hj⟩:=List.getElem?_of_mem hx
   obtain⟨u,-,-,-,h⟩:=hcs hi hj
   exact h
  ·obtain⟨u,h1,h2,-⟩:=hcs he hx
   simp only[M',if_true,cy,if_pos h2,h1]
   simp only[ii,h1,Option.getD_some]
  ·obtain⟨u,h1,h2,h3,-⟩:=hcs he hx
   simp only[ii,h1,Option.getD_some]
   exact h3.mono hle
 have rep:∀{x y u},FZ b c sz rows x y->Rep M x u->Rep M' y u:=by
  intro x y u h hr
  rcases h with rfl|⟨rfl,rfl⟩
  ·exact hr.mono hle
  ·obtain⟨rfl,-⟩:=hr.lit_inv
   exact key
 have one:∀{x y},FZ b c sz rows x y->x.one=true->y.one=true:=by
  intro x y h hx
  rcases h with rfl|⟨rfl,rfl⟩
  ·exact hx
  ·rfl
 have hne:∀d o',H'.get d=some o'->d≠b:=fun d o' hd e=>by subst e;rw[fr.gone]at hd;simp at hd
 have hMd:∀d,d≠b->∀o,M' d o=M d o:=fun d hd o=>by simp only[M',if_neg hd]
 refine⟨M',⟨fun d o u hu=>?_,fun d o' hd=>?_⟩,⟨hle,aD _,fun d _ hd=>⟨rfl,hMd d (by rintro rfl;rw[hb]at hd;simp at hd)⟩,fun d hd=>?_,rfl,rfl⟩,?_⟩
 ·by_cases hd:d=b
  ·subst hd
   simp only[M',if_true]at hu
   split at hu
   ·rw[fH,hw];exact hu
   ·simp at hu
  ·rw[hMd d hd]at hu;exact s.mem d o u hu
 ·have hdb:=hne d o' hd
  rcases fr.keep d o' hd with h|⟨xs,ys,h,rfl,hz⟩
  ·have:=s.obj d o' h
   cases o' with
   |cells zs=>
    obtain⟨us,el',q1,q2,q3,q4,q5⟩:=this
    exact⟨us,el',q1,q2,q3,fun j x v hx hv=>(q4 j x v hx hv).mono hle,fun o=>by rw[hMd d hdb];exact q5 o⟩
   |tail n m=>
    obtain⟨us,el',q1,q2,q3,q4⟩:=this
    exact⟨us,el',q1,q2,q3,fun o ho=>by rw[hMd d hdb];exact q4 o ho⟩
   |typed ty zs=>
    obtain⟨us,q1,q3,q4,q5⟩:=this
    exact⟨us,q1,q3,fun j x v hx hv=>(q4 j x v hx hv).mono hle,fun o=>by rw[hMd d hdb];exact q5 o⟩
   |map g=>
    obtain⟨es,cl,q1,q2,q3⟩:=this
    exact⟨es,cl,q1,q2.mono hle,fun o=>by rw[hMd d hdb];exact q3 o⟩
   |const ob zs=>
    obtain⟨q1,us,q2,q3,q4⟩:=this
    exact⟨q1,us,q2,fun j hj=>by rw[hMd d hdb];exact q3 j hj,fun j x hx=>(q4 j x hx).mono hle⟩
  ·obtain⟨us,el',q1,q2,q3,q4,q5⟩:=s.obj d _ h
   refine⟨us,el',q1,fun y hy=>?_,hz.length▸q3,fun j y v hy hv=>?_,fun o=>by rw[hMd d hdb];exact q5 o⟩
   ·obtain⟨j,hj⟩:=List.getElem?_of_mem hy
    obtain⟨x,hx,hf⟩:=hz.get j hj
    exact one hf (q2 x (bj hx))
   ·obtain⟨x,hx,hf⟩:=hz.get j hy
    exact rep hf (q4 j x v hx hv)
 ·left
  obtain⟨o',ho⟩:=aH.1 hd
  rcases fr.keep d o' ho with h|⟨xs,ys,h,-⟩<;>rw[h]<;>simp
 ·cases r with
  |agg h1 h2 h3=>
   refine .agg (fun y hy=>?_) (hxy.length▸h2) (fun j y u hy hu=>?_)
   ·obtain⟨j,hj⟩:=List.getElem?_of_mem hy
    obtain⟨x,hx,hf⟩:=hxy.get j hj
    exact one hf (h1 x (bj hx))
   ·obtain⟨x,hx,hf⟩:=hxy.get j hy
    exact rep hf (h3 j x u hx hu)
theorem pZ{sz:Nat}(us d:List AC)(hu:us.length=sz):∀(rows:List (List AC)) (k:Nat),(∀e∈rows,e.length=sz)->k<rows.length->
 (rows.flatten++d).take (k*sz)++us++(rows.flatten++d).drop (k*sz+us.length)=(rows.set k us).flatten++d
 |[],k,_,h=>by simp at h
 |e::rows,0,hs,_=>by
  have he:=hs e (by simp)
  simp only[aq,Nat.zero_mul,List.take_zero,di,cy,List.set_cons_zero,eE]
  rw[hu,<-he,List.drop_left]
 |e::rows,k+1,hs,h=>by
  have he:=hs e (by simp)
  have ih:=pZ us d hu rows k (fun e he=>hs e (by simp[he])) (by simpa using h)
  have e1:(k+1)*sz=e.length+k*sz:=by rw[Nat.succ_mul,he,Nat.add_comm]
  simp only[aq,List.set_cons_succ,eE]
  rw[e1,Nat.add_assoc,List.take_length_add_append,List.drop_length_add_append,eE,<-eE (List.take _ _),ih]
theorem mJ{sz:Nat}{rows:List (List AC)}{us cs:List AC}{k:Nat}(hs:∀e∈rows,e.length=sz)(hu:us.length=sz)(hk:k<rows.length)(h:cs.take (rows.length*sz)=rows.flatten):
 (bL cs (k*sz) us).take ((rows.set k us).length*sz)=(rows.set k us).flatten:=by
 have hl:(rows.set k us).flatten.length=(rows.set k us).length*sz:=dN fun e he=>by
  rcases lx he with h|h
  ·exact hs e h
  ·rw[h];exact hu
 have hcs:cs=rows.flatten++cs.drop (rows.length*sz):=by rw[<-h,iH]
 have:=pZ us (cs.drop (rows.length*sz)) hu rows k hs hk
 rw[<-hcs]at this
 unfold bL
 rw[this,<-hl,List.take_left]
theorem rG(f:Fu):f.enc=[S f.name,.sl 3 none (f.params.map Pa.enc),B f.lent,.sl 1 none (Ty.encs f.type.kids),.sl 15 none (f.body.map St.enc),I f.says.kind,I f.says.num,S f.says.place.name,au f.says.place.path,.sl 5 none (Ex.encs f.says.kids),S f.gives.name,au f.gives.path]:=by
 rw[Fu.enc,Ty.enc_eq,Ex.enc_eq,St.encs_map];rfl
structure Fu.lo(m:Nat)(f:Fu):Prop where
 pars:0<f.params.length/\f.params.length<=4+m
 ptys:∀x∈f.params,x.type.lo
 ty:f.type.lo
 blen:f.body.length<=6+m
 bcnt:∀s∈f.body,s.cnt<=1000
 bsm:∀s∈f.body,s.sm 3
 says:f.says.sm
theorem Ty.wf.lo{t:Ty}(h:t.wf):t.lo:=by
 obtain⟨D,h1,h2⟩:=h
 exact⟨D,by omega,h2⟩
theorem Fu.good.lo{f:Fu}(h:f.good):f.lo 0:=
 ⟨by have:=h.pars;omega,fun x hx=>(h.okS.params x hx).type.lo,h.okS.type.lo,by have:=h.blen;omega,fun s hs=>by have:=tV hs;have:=h.body;omega,h.sms,h.says⟩
theorem Fu.lo.up{m:Nat}{f:Fu}(h:f.lo m):f.lo (m+1):=⟨by have:=h.pars;omega,h.ptys,h.ty,by have:=h.blen;omega,h.bcnt,h.bsm,h.says⟩
def FuAt(H:aj)(ex:Nat->Prop)(c6:List AC)(f:Fu):Prop:=c6.length=12/\(LeC c6 f.enc\/
 ∃(b c:Nat) (cs:List AC) (rows:List (List AC)) (c6':List AC),H.get b=some (.cells cs)/\cs.take (rows.length*15)=rows.flatten/\(∀e∈rows,e.length=15)/\rows.length<=c/\rows.length<=LIM/\FZL b c 15 rows c6 c6'/\LeC c6' f.enc/\¬ex b)
theorem LeR.set:∀{xs ys:List (List AC)} (k:Nat) {x y:List AC},LeR xs ys->LeC x y->LeR (xs.set k x) (ys.set k y)
 |[],[],_,_,_,_,_=>trivial
 |a::xs,b::ys,0,_,_,h,h'=>⟨h',h.2⟩
 |a::xs,b::ys,k+1,_,_,h,h'=>⟨h.1,LeR.set k h.2 h'⟩
theorem FZL.splice{b c sz:Nat}{rows:List (List AC)}{u u':List AC}(h:FZL b c sz rows u u')(cs:List AC)(o:Nat):FZL b c sz rows (bL cs o u) (bL cs o u'):=by
 unfold bL
 rw[h.length]
 exact((FZL.refl _ _ _ _ _).append h).append (FZL.refl _ _ _ _ _)
theorem rb{E:Env}{H:aj}{n r off:Nat}{g:Option Nat}{cs:List AC}{q q':AC}{R:AC->aj->Prop}(hE:E n=.ptr r off)(hg:H.get r=some (.cells cs))(hq:fM g cs off=some q)
{H':aj}(ht:nS q H q' H')(h:R q' H'):bm.post [.cell n g] R .ret E H:=
 ⟨q,by simp only[kD,iI,jz.val,hE,hg,hq],q',H',ht,h⟩
section
variable {P:Program}{F:Ids}
def t7(m:Nat)(r:Nat)(bs:List UInt8)(p c:Int):AC->aj->Prop:=RdR r bs p c fun q=>∃pr:Pg,q=.agg (Pg.enc pr)/\(∀f∈pr,f.lo m)/\1<=pr.length/\pr.length<=4+m
theorem rV(L:Lib P F){m:Nat}(hm:m<=9)(r:Nat)(bs:List UInt8)(p c:Int)(E:Env)(H:aj)(p':Int)(pr:Pg)(k:Nat)(hk:k<pr.length)(hpl:pr.length<=4+m)(hpr:∀f∈pr,f.lo m)(X:AC)(c6:List AC)(f:Fu)(hf:f.lo m)(b3 b4 b6:Nat)
(gr:H.get r=some (RdO bs p'))(g3:H.get b3=some (.cells [X]))(g4:H.get b4=some (.cells [NIL]))(g6:H.get b6=some (.cells c6))(hX:∀H',gZ H' 12 X=some (pr.map Fu.enc))(hf6:FuAt H (fun d=>d=r\/d=b3\/d=b4\/d=b6) c6 f)
(hr3:r≠b3)(hr4:r≠b4)(d34:b3≠b4)(d36:b3≠b6)(d46:b4≠b6)(hr6:r≠b6)(e3:E 3=.ptr b3 0)(e4:E 4=.ptr b4 0)(e5:E 5=I k)(e6:E 6=.ptr b6 0)(h1:p<=p')(h2:p'<=p+c):
 aW.wp P (.seq (.region false [ef 0 185 (.buildSlice 12 0 [.string (bl []),.slice none 0 0,.bool false,.slice none 0 0,.slice none 0 0,.int .i64 0,.int .i64 0,.string (bl []),.slice none 0 0,.slice none 0 0,.string (bl []),.slice none 0 0] []),pu 1 186 (.fieldAddr 0 (sl 3)),ld 2 187 none (sl 186),ef 3 188 (.appendM 12 216 (sl 185) (sl 187)),pu 4 189 (.fieldAddr 0 (sl 3)),en 5 (.store 1 (sl 189) (sl 188))]) (.seq (.region false [pu 0 190 (.fieldAddr 0 (sl 3)),ld 1 191 none (sl 190),mv 2 192 (sl 5),ld 3 193 (some 12) (sl 6),pu 4 194 (.indexAddr 12 (sl 191) (sl 192)),en 5 (.store 12 (sl 194) (sl 193))]) (.seq (.region false [ld 0 195 (some 1) (sl 3),en 1 (.store 1 (sl 4) (sl 195))]) .ret))) (bm.post [.cell 4 (some 1)] (t7 m r bs p c)) E H:=by
 obtain⟨hlen6,hf6⟩:=hf6
 simp only[go_sem,rE,rA,e3,az,aq,ay,bh]
 intro b0 hb0
 have hr0:=al gr hb0
 have d30:=al g3 hb0
 have d40:=al g4 hb0
 have d60:=al g6 hb0
 simp only[go_sem,rE,rA,e3,d30,g3,rL]
 have hsz:∀e∈pr.map Fu.enc,e.length=12:=fun e he=>by obtain⟨g,-,rfl⟩:=aY.1 he;exact oy g
 refine qW (b:=b0) (ys:=pr.map Fu.enc) (rfl) (ai _ _ _) (by simp only[go_sem,rE];exact hX _) hsz (by simp;omega) trivial ?_
 intro x' H1 fp1 hR _ keep new
 rcases hR with⟨h0,-⟩|⟨pp,pc,cs,rfl,gp,hcl,hcc,hct⟩
 ·have:pr=[]:=by simpa using h0
  rw[this]at hk;simp at hk
 have in1:∀{d o},H.get d=some o->H1.get d=some o/\d≠pp:=by
  intro d o hd
  have hd0:=al hd hb0
  refine⟨by rw[keep d (by rw[ae _ _ hd0,hd];simp) hd0,ae _ _ hd0];exact hd,?_⟩
  rintro rfl
  rcases new d ⟨_,_,rfl⟩with h|h
  ·exact hd0 h
  ·rw[ae _ _ hd0,hd]at h;simp at h
 obtain⟨gr,dpr⟩:=in1 gr
 obtain⟨g3,dp3⟩:=in1 g3
 obtain⟨g4,dp4⟩:=in1 g4
 obtain⟨g6,dp6⟩:=in1 g6
 have hlim:pr.length<=LIM:=by simp only[LIM];omega
 have hkl:(k:Int)<pr.length:=by omega
 have hko:k*12+12<=cs.length:=by
  rw[am]at hcc
  have:(k+1)*12<=pc*12:=bH _ (by omega)
  omega
 simp only[am]at hct hcc⊢
 simp only[go_sem,rE,rA,e3,e4,e5,e6,g3,g4,g6,d36,Ne.symm d36,d34,Ne.symm d34,d46,dp3,Ne.symm dp3,dp4,Ne.symm dp4,dp6,Ne.symm dp6,gp,hlim,hkl,hlen6,hko,aD,cM,rL]
 have hspl:∀u:List AC,u.length=12->cs.take (k*12)++u++cs.drop (k*12+12)=bL cs (k*12) u:=fun u hu=>by rw[bL,hu]
 rw[hspl c6 hlen6]
 have hlenR:∀u,((pr.map Fu.enc).set k u).length=pr.length:=fun u=>by simp
 have hszR:∀u:List AC,u.length=12->∀e∈(pr.map Fu.enc).set k u,e.length=12:=fun u hu e he=>by
  rcases lx he with h|h
  ·exact hsz e h
  ·rw[h];exact hu
 have hrow:∀u:List AC,u.length=12->(bL cs (k*12) u).take (((pr.map Fu.enc).set k u).length*12)=((pr.map Fu.enc).set k u).flatten:=fun u hu=>
  mJ hsz hu (by simp;exact hk) (by simpa using hct)
 have hlo:∀g∈pr.set k f,g.lo m:=fun g hg=>by
  rcases lx hg with h|h
  ·exact hpr g h
  ·rw[h];exact hf
 have hR:∀{q},q=.agg (Pg.enc (pr.set k f))->t7 m r bs p c q (one r (RdO bs p')):=fun hq=>⟨p',h1,h2,rfl,pr.set k f,hq,hlo,by simp;omega,by simp;omega⟩
 have last:∀(G:aj) (u:List AC),u.length=12->LeC u f.enc->G.get pp=some (.cells (bL cs (k*12) u))->G.get r=some (RdO bs p')->nS (.agg [.lit (.slice (some ⟨pp,0,none⟩) pr.length pc)]) G (.agg (Pg.enc (pr.set k f))) (one r (RdO bs p')):=by
  intro G u hu hle gp gr
  have fr:xO G (one r (RdO bs p')) pp pc 12 ((pr.map Fu.enc).set k u):=⟨gG _ (Ne.symm dpr),fun d o' hd=>.inl (eU gr d o' hd)⟩
  refine(pY gp (hrow u hu) (hszR u hu) (by rw[hlenR];exact hcc) (by rw[hlenR];exact hlim) fr (xs:=[.lit (.slice (some ⟨pp,0,none⟩) pr.length pc)]) (ys:=[.sl 12 none ((pr.map Fu.enc).set k u)]) ⟨.inr ⟨by rw[hlenR],rfl⟩,trivial⟩).trans_le ?_
  refine .agg ⟨⟨.slR ?_,rfl⟩,trivial⟩
  rw[List.map_set]
  exact(um pr).set k hle
 refine rb (off:=0) (e4) (ai _ _ _) rfl ?_ (hR rfl)
 have gpE:(((H1.set b3 (.cells [.lit (.slice (some ⟨pp,0,none⟩) pr.length pc)])).set pp (.cells (bL cs (k*12) c6))).set b4 (.cells [.lit (.slice (some ⟨pp,0,none⟩) pr.length pc)])).get pp=some (.cells (bL cs (k*12) c6)):=by
  rw[ae _ _ (Ne.symm dp4),ai]
 have grE:(((H1.set b3 (.cells [.lit (.slice (some ⟨pp,0,none⟩) pr.length pc)])).set pp (.cells (bL cs (k*12) c6))).set b4 (.cells [.lit (.slice (some ⟨pp,0,none⟩) pr.length pc)])).get r=some (RdO bs p'):=by
  rw[ae _ _ hr4,ae _ _ dpr,ae _ _ hr3];exact gr
 rcases hf6 with hle|⟨bb,bc,bcs,rows,c6',gb,hb1,hb2,hb3,hb4,hfz,hle,hex⟩
 ·exact last _ c6 hlen6 hle gpE grE
 ·obtain⟨gb,dpb⟩:=in1 gb
  have n3:bb≠b3:=fun h=>hex (.inr (.inl h))
  have n4:bb≠b4:=fun h=>hex (.inr (.inr (.inl h)))
  have nr:bb≠r:=fun h=>hex (.inl h)
  have gbE:(((H1.set b3 (.cells [.lit (.slice (some ⟨pp,0,none⟩) pr.length pc)])).set pp (.cells (bL cs (k*12) c6))).set b4 (.cells [.lit (.slice (some ⟨pp,0,none⟩) pr.length pc)])).get bb=some (.cells bcs):=by
   rw[ae _ _ n4,ae _ _ dpb,ae _ _ n3];exact gb
  have hlen6':c6'.length=12:=hfz.length▸hlen6
  let G:aj:=(one r (RdO bs p')).set pp (.cells (bL cs (k*12) c6'))
  have fr:xO (((H1.set b3 (.cells [.lit (.slice (some ⟨pp,0,none⟩) pr.length pc)])).set pp (.cells (bL cs (k*12) c6))).set b4 (.cells [.lit (.slice (some ⟨pp,0,none⟩) pr.length pc)])) G bb bc 15 rows:=by
   refine⟨by simp only[G];rw[ae _ _ dpb,gG _ nr],fun d o' hd=>?_⟩
   simp only[G]at hd
   by_cases hdp:d=pp
   ·subst hdp
    rw[ai]at hd
    simp at hd;subst hd
    exact .inr ⟨_,_,gpE,rfl,hfz.splice _ _⟩
   ·rw[ae _ _ hdp]at hd
    exact .inl (eU grE d o' hd)
  refine(pY gbE hb1 hb2 hb3 hb4 fr (xs:=[.lit (.slice (some ⟨pp,0,none⟩) pr.length pc)]) (ys:=[.lit (.slice (some ⟨pp,0,none⟩) pr.length pc)]) (FZL.refl _ _ _ _ _)).trans (last G c6' hlen6' hle (ai _ _ _) ?_)
  simp only[G];rw[ae _ _ dpr,bI]
end
structure BAt(H:aj)(r:Nat)(bs:List UInt8)(p:Int)(b3 b4 b6:Nat)(c3 c6:List AC):Prop where
 gr:H.get r=some (RdO bs p)
 g3:H.get b3=some (.cells c3)
 g4:H.get b4=some (.cells [NIL])
 g6:H.get b6=some (.cells c6)
 hr3:r≠b3
 hr4:r≠b4
 hr6:r≠b6
 d34:b3≠b4
 d36:b3≠b6
 d46:b4≠b6
section
variable {H H':aj}{r:Nat}{bs:List UInt8}{p:Int}{b3 b4 b6:Nat}{c3 c6:List AC}
theorem BAt.draw(h:BAt H r bs p b3 b4 b6 c3 c6)(p':Int):BAt (H.set r (RdO bs p')) r bs p' b3 b4 b6 c3 c6:=
 ⟨ai _ _ _,(ae _ _ (Ne.symm h.hr3)).trans h.g3,(ae _ _ (Ne.symm h.hr4)).trans h.g4,(ae _ _ (Ne.symm h.hr6)).trans h.g6,h.hr3,h.hr4,h.hr6,h.d34,h.d36,h.d46⟩
theorem BAt.put(h:BAt H r bs p b3 b4 b6 c3 c6)(c:List AC):BAt (H.set b6 (.cells c)) r bs p b3 b4 b6 c3 c:=
 ⟨(ae _ _ h.hr6).trans h.gr,(ae _ _ h.d36).trans h.g3,(ae _ _ h.d46).trans h.g4,ai _ _ _,h.hr3,h.hr4,h.hr6,h.d34,h.d36,h.d46⟩
theorem BAt.put3(h:BAt H r bs p b3 b4 b6 c3 c6)(c:List AC):BAt (H.set b3 (.cells c)) r bs p b3 b4 b6 c c6:=
 ⟨(ae _ _ h.hr3).trans h.gr,ai _ _ _,(ae _ _ (Ne.symm h.d34)).trans h.g4,(ae _ _ (Ne.symm h.d36)).trans h.g6,h.hr3,h.hr4,h.hr6,h.d34,h.d36,h.d46⟩
theorem BAt.keep(h:BAt H r bs p b3 b4 b6 c3 c6)(hk:∀d cs,H.get d=some (.cells cs)->H'.get d=some (.cells cs)):BAt H' r bs p b3 b4 b6 c3 c6:=
 ⟨hk _ _ h.gr,hk _ _ h.g3,hk _ _ h.g4,hk _ _ h.g6,h.hr3,h.hr4,h.hr6,h.d34,h.d36,h.d46⟩
theorem BAt.new(h:BAt H r bs p b3 b4 b6 c3 c6){b:Nat}(hb:H.get b=none)(o:cQ):BAt (H.set b o) r bs p b3 b4 b6 c3 c6:=
 h.keep fun d cs hd=>by rw[ae _ _ (al hd hb)];exact hd
end
theorem jq{H H':aj}{b n m:Nat}(g:H.get b=some (.tail n m))(keep:∀c,H.get c≠none->c≠b->H'.get c=H.get c):∀d cs,H.get d=some (.cells cs)->H'.get d=some (.cells cs):=
 fun d cs hd=>by rw[keep d (by rw[hd];simp) (by rintro rfl;rw[g]at hd;simp at hd)];exact hd
theorem kh(l:List St):∀e∈l.map St.enc,e.length=15:=fun e he=>by obtain⟨s,-,rfl⟩:=aY.1 he;exact Au s
theorem st_one(s:St):∀x∈s.enc,x.one=true:=by
 rw[St.enc_eq];simp[AC.one,au]
theorem y9:∀p:List St,LeR (p.map St.enc) (p.map St.enc)
 |[]=>trivial
 |f::p=>⟨.refl (st_one f),y9 p⟩
theorem pa_len(s:Pa):s.enc.length=3:=by
 rw[Pa.enc,Ty.enc_eq];rfl
theorem row_at{sz:Nat}{rows:List (List AC)}{cs:List AC}(hs:∀e∈rows,e.length=sz)(h:cs.take (rows.length*sz)=rows.flatten){k:Nat}(hk:k<rows.length):(cs.drop (k*sz)).take sz=rows[k]:=by
 have hl:=hs _ (ax hk)
 apply gB
 intro j
 rw[fl]
 split
 ·rename_i hj
  rw[bW]
  exact eY.cell hs h hk hj
 ·rename_i hj
  rw[fU (by omega)]
theorem lC(f':Fu){X T Bd s1 s2 s3 s4 s5 g1 g2:AC}(hX:Le X (.sl 3 none (f'.params.map Pa.enc)))(hT:Le T (.sl 1 none (Ty.encs f'.type.kids)))(hB:Le Bd (.sl 15 none (f'.body.map St.enc)))(hs:LeC [s1,s2,s3,s4,s5] f'.says.enc)(hg:LeC [g1,g2] f'.gives.enc):
 LeC [S f'.name,X,B f'.lent,T,Bd,s1,s2,s3,s4,s5,g1,g2] f'.enc:=AU f' hX hT (by rw[St.encs_map];exact hB) hs hg
section
variable {P:Program}{F:Ids}
theorem zS(L:Lib P F)(r:Nat)(bs:List UInt8)(hbs:bs.length<=2000)(p2:Int)(hp:0<=p2)(hp2:p2+1<=2^50)(f:Fu){m:Nat}(hm:m<=9)(hlo:f.lo m)(hbl:f.body.length<=6+m)(b3 b4 b6:Nat)(c3:List AC)(H3:aj)
(hB:BAt H3 r bs p2 b3 b4 b6 c3 [S f.name,.sl 3 none (f.params.map Pa.enc),B f.lent,.sl 1 none (Ty.encs f.type.kids),.sl 15 none (f.body.map St.enc),I f.says.kind,I f.says.num,S f.says.place.name,au f.says.place.path,.sl 5 none (Ex.encs f.says.kids),S f.gives.name,au f.gives.path])
(K:cS->Env->aj->Prop)(E:Env)(e0:E 0=.ptr r 0)(e6:E 6=.ptr b6 0)
(jn8:∀(E':Env) (H:aj) (p':Int) (c6:List AC) (f':Fu),f'.lo m->BAt H r bs p' b3 b4 b6 c3 c6->FuAt H (fun d=>d=r\/d=b3\/d=b4\/d=b6) c6 f'->(∀i,(i=0\/i=3\/i=4\/i=5\/i=6)->E' i=E i)->p2<=p'->p'<=p2+1->K .normal E' H):
 aW.wp P (kd30) K E H3:=by
 rw[kd30,fd30]
 have g6:=hB.g6
 have lesays:LeC [I f.says.kind,I f.says.num,S f.says.place.name,au f.says.place.path,.sl 5 none (Ex.encs f.says.kids)] f.says.enc:=by rw[Ex.enc_eq];exact⟨⟨.refl _,rfl⟩,⟨.refl _,rfl⟩,⟨.refl _,rfl⟩,⟨.refl _,rfl⟩,⟨.refl _,rfl⟩,trivial⟩
 have legives:LeC [S f.gives.name,au f.gives.path] f.gives.enc:=⟨⟨.refl _,rfl⟩,⟨.refl _,rfl⟩,trivial⟩
 simp only[go_sem,rE,rA,aG,az,aq,ay,rL,bh,e0,e6,g6,am]
 by_cases hb:(1:Int)<f.body.length
 ·have w0:=aJ (n:=(f.body.length:Int) - 1) (by omega) (by omega)
  simp only[hb,decide_true,go_sem,rE,rA,aG,az,aq,ay,rL,bh,e0,e6,g6,am,w0]
  refine ba (cv L r bs p2 (f.body.length - 1) hbs (by omega) (by omega)) (rfl) hB.gr (by simp) trivial ?_
  rintro q p3 hp3 hp3' ⟨n0,rfl,hn0,hn1⟩
  have hB1:=hB.draw p3
  generalize H3.set r (RdO bs p3)=H4 at*
  obtain⟨n,rfl⟩:∃n:Nat,n0=(n:Int):=⟨n0.toNat,by omega⟩
  have hnl:n+1<f.body.length:=by omega
  simp only[go_sem,rE,rA,aG,az,aq,ay,rL,bh,e0,e6]
  intro b58 hb58
  have hB2:=hB1.new hb58 (.tail 0 0)
  have g58:(H4.set b58 (.tail 0 0)).get b58=_:=ai _ _ _
  have g6:=hB2.g6
  generalize H4.set b58 (.tail 0 0)=H5 at*
  simp only[go_sem,rE,rA,aG,az,aq,ay,rL,bh,e0,e6,g6]
  refine qW (b:=b58) (ys:=f.body.map St.enc) (rfl) g58 (rfl) (kh _) (by simp;omega) trivial ?_
  intro x' H6 fp6 hR _ keep new
  rcases hR with⟨h0,-⟩|⟨bb,bc,cs,rfl,gb,hcl,hcc,hct⟩
  ·have:f.body=[]:=by simpa using h0
   rw[this]at hnl;simp at hnl
  have hB3:=hB2.keep (jq g58 keep)
  have hex:∀d o,H5.get d=some (.cells o)->d≠bb:=by
   intro d o hd e
   subst e
   rcases new _ ⟨_,_,rfl⟩with h|h
   ·subst h;rw[g58]at hd;simp at hd
   ·rw[hd]at h;simp at h
  have hb6:=hex _ _ hB2.g6
  have hb3:=hex _ _ hB2.g3
  have hb4:=hex _ _ hB2.g4
  have hbr:=hex _ _ hB2.gr
  have g6:=hB3.g6
  simp only[am]at hcc hct
  have hlim:f.body.length<=LIM:=by simp only[LIM];omega
  have hni:(n:Int)<f.body.length:=by omega
  have hni1:(n:Int)+1<f.body.length:=by omega
  have w1:=aJ (n:=(n:Int)+1) (by omega) (by omega)
  have hn1':(0:Int)<=n+1:=by omega
  have hnt:((n:Int)+1).toNat=n+1:=by omega
  have hmul:(n+2)*15<=bc*15:=bH _ (by omega)
  have hof0:n*15+15<=cs.length:=by omega
  have hof1:(n+1)*15+15<=cs.length:=by omega
  have row:∀j (hj:j<f.body.length),(cs.drop (j*15)).take 15=f.body[j].enc:=fun j hj=>by
   have:=row_at (kh f.body) (by simpa using hct) (k:=j) (by simpa using hj)
   simpa using this
  have r0:=row n (by omega)
  have r1:=row (n+1) hnl
  obtain⟨c0,hc0,C0'⟩:=stC f.body[n]
  obtain⟨c1,hc1,C1'⟩:=stC f.body[n+1]
  rw[hc0]at r0
  rw[hc1]at r1
  simp only[go_sem,rE,rA,aG,az,aq,ay,rL,bh,e0,e6,g6,am,hb6,Ne.symm hb6,gb,hlim,hni,hof0,r0,C0'.len,C0'.all]
  have hB4:=hB3.put [S f.name,.sl 3 none (f.params.map Pa.enc),B f.lent,.sl 1 none (Ty.encs f.type.kids),.lit (.slice (some ⟨bb,0,none⟩) f.body.length bc),I f.says.kind,I f.says.num,S f.says.place.name,au f.says.place.path,.sl 5 none (Ex.encs f.says.kids),S f.gives.name,au f.gives.path]
  have gb:(H6.set b6 (.cells [S f.name,.sl 3 none (f.params.map Pa.enc),B f.lent,.sl 1 none (Ty.encs f.type.kids),.lit (.slice (some ⟨bb,0,none⟩) f.body.length bc),I f.says.kind,I f.says.num,S f.says.place.name,au f.says.place.path,.sl 5 none (Ex.encs f.says.kids),S f.gives.name,au f.gives.path])).get bb=_:=(ae _ _ (Ne.symm hb6)).trans gb
  generalize(H6.set b6 (.cells [S f.name,.sl 3 none (f.params.map Pa.enc),B f.lent,.sl 1 none (Ty.encs f.type.kids),.lit (.slice (some ⟨bb,0,none⟩) f.body.length bc),I f.says.kind,I f.says.num,S f.says.place.name,au f.says.place.path,.sl 5 none (Ex.encs f.says.kids),S f.gives.name,au f.gives.path]))=H7 at*
  intro b9 hb9
  have hB5:=hB4.new hb9 (.cells c0)
  have db9:=al gb hb9
  have gb:(H7.set b9 (.cells c0)).get bb=_:=(ae _ _ db9).trans gb
  have g9:(H7.set b9 (.cells c0)).get b9=_:=ai _ _ _
  have g6:=hB5.g6
  generalize H7.set b9 (.cells c0)=H8 at*
  simp only[go_sem,rE,rA,aG,az,aq,ay,rL,bh,e0,e6,g6,gb,w1,hn1',hnt,hlim,hni,hni1,hof0,hof1,r1,C1'.len,C1'.all]
  have hs0:cs.take (n*15)++c1++cs.drop (n*15+15)=bL cs (n*15) c1:=by rw[bL,C1'.len]
  rw[hs0]
  have hl1:(bL cs (n*15) c1).length=cs.length:=fy _ _ _ (by rw[C1'.len];exact hof0)
  have hrow1:=mJ (kh f.body) (us:=c1) C1'.len (k:=n) (by simp;omega) (by simpa using hct)
  generalize bL cs (n*15) c1=cs1 at*
  have hB6:BAt (H8.set bb (.cells (cs1))) r bs p3 b3 b4 b6 _ _:=⟨(ae _ _ hbr).trans hB5.gr,(ae _ _ hb3).trans hB5.g3,(ae _ _ hb4).trans hB5.g4,(ae _ _ hb6).trans hB5.g6,hB.hr3,hB.hr4,hB.hr6,hB.d34,hB.d36,hB.d46⟩
  have gb1:(H8.set bb (.cells (cs1))).get bb=_:=ai _ _ _
  have g9:(H8.set bb (.cells (cs1))).get b9=_:=(ae _ _ (Ne.symm db9)).trans g9
  have g6:=hB6.g6
  generalize H8.set bb (.cells (cs1))=H9 at*
  rw[<-hl1]at hof1
  simp only[go_sem,rE,rA,aG,az,aq,ay,rL,bh,e0,e6,g6,gb1,g9,w1,hn1',hnt,hlim,hni,hni1,hof1,C0'.len,C0'.all]
  have hs1:cs1.take ((n+1)*15)++c0++cs1.drop ((n+1)*15+15)=bL cs1 ((n+1)*15) c0:=by rw[bL,C0'.len]
  rw[hs1]
  have hsz1:∀e∈(f.body.map St.enc).set n c1,e.length=15:=fun e he=>by
   rcases lx he with h|h
   ·exact kh _ e h
   ·rw[h];exact C1'.len
  have hrow2:=mJ hsz1 (us:=c0) C0'.len (k:=n+1) (by simp;omega) hrow1
  have hmap:((f.body.map St.enc).set n c1).set (n+1) c0=((f.body.set n f.body[n+1]).set (n+1) f.body[n]).map St.enc:=by rw[List.map_set,List.map_set,hc0,hc1]
  rw[hmap]at hrow2
  have hmem:∀s∈(f.body.set n f.body[n+1]).set (n+1) f.body[n],s∈f.body:=fun s hs=>by
   rcases lx hs with h|h
   ·rcases lx h with h|h
    ·exact h
    ·rw[h];exact ax _
   ·rw[h];exact ax _
  have hB7:BAt (H9.set bb (.cells (bL cs1 ((n+1)*15) c0))) r bs p3 b3 b4 b6 _ _:=⟨(ae _ _ hbr).trans hB6.gr,(ae _ _ hb3).trans hB6.g3,(ae _ _ hb4).trans hB6.g4,(ae _ _ hb6).trans hB6.g6,hB.hr3,hB.hr4,hB.hr6,hB.d34,hB.d36,hB.d46⟩
  refine jn8 _ _ p3 _ {f with body:=(f.body.set n f.body[n+1]).set (n+1) f.body[n]} ⟨hlo.pars,hlo.ptys,hlo.ty,by simp;omega,fun s hs=>hlo.bcnt s (hmem s hs),fun s hs=>hlo.bsm s (hmem s hs),hlo.says⟩ hB7 ⟨rfl,.inr ⟨bb,bc,_,((f.body.set n f.body[n+1]).set (n+1) f.body[n]).map St.enc,[S f.name,.sl 3 none (f.params.map Pa.enc),B f.lent,.sl 1 none (Ty.encs f.type.kids),.sl 15 none (((f.body.set n f.body[n+1]).set (n+1) f.body[n]).map St.enc),I f.says.kind,I f.says.num,S f.says.place.name,au f.says.place.path,.sl 5 none (Ex.encs f.says.kids),S f.gives.name,au f.gives.path],
   ai _ _ _,hrow2,kh _,by simp;omega,by simp;exact hlim,⟨.inl rfl,.inl rfl,.inl rfl,.inl rfl,.inr ⟨by simp,rfl⟩,.inl rfl,.inl rfl,.inl rfl,.inl rfl,.inl rfl,.inl rfl,.inl rfl,trivial⟩,
   lC {f with body:=(f.body.set n f.body[n+1]).set (n+1) f.body[n]} (.refl _) (.refl _) (.refl _) lesays legives,?_⟩⟩ (fun i hi=>by rcases hi with rfl|rfl|rfl|rfl|rfl<;>simp only[go_sem,rE]) (by omega) (by omega)
  rintro(h|h|h|h)
  ·exact hbr h.symm
  ·exact hb3 h.symm
  ·exact hb4 h.symm
  ·exact hb6 h.symm
 ·simp only[hb,decide_false,go_sem,rE,rA,aG,az,aq,ay,rL,bh,e0,e6]
  exact jn8 _ _ p2 _ f hlo hB ⟨rfl,.inl (lC f (.refl _) (.refl _) (.refl _) lesays legives)⟩ (fun i hi=>by rcases hi with rfl|rfl|rfl|rfl|rfl<;>simp only[go_sem,rE]) (by omega) (by omega)
theorem zH(L:Lib P F)(r:Nat)(bs:List UInt8)(hbs:bs.length<=2000)(pr:Pg){m:Nat}(hm:m<=8)(hpr:∀f∈pr,f.lo m)(hl1:1<=pr.length)(hl2:pr.length<=4+m)(p:Int)(hp:0<=p)(hp2:p+200<=2^50):
 bz P 67 [.ptr r 0,.agg (Pg.enc pr)] (one r (RdO bs p)) (t7 (m+1) r bs p 200):=by
 refine(L.a Tryz.func67 y67) (by simp[y67,f67]) ?_
 simp only[y67,f67,go_sem,rE,rA,Pg.enc]
 intro b3 hb3 b4 hb4
 have hr3:r≠b3:=by rintro rfl;rw[bI]at hb3;simp at hb3
 have d34:b3≠b4:=ot hb4
 have hr4:r≠b4:=by rintro rfl;rw[ae _ _ hr3,bI]at hb4;simp at hb4
 have gr:(((one r (RdO bs p)).set b3 (.cells [.sl 12 none (pr.map Fu.enc)])).set b4 (.cells [NIL])).get r=some (RdO bs p):=by rw[ae _ _ hr4,ae _ _ hr3,bI]
 have g3:(((one r (RdO bs p)).set b3 (.cells [.sl 12 none (pr.map Fu.enc)])).set b4 (.cells [NIL])).get b3=some (.cells [.sl 12 none (pr.map Fu.enc)]):=by rw[ae _ _ d34,ai]
 have g4:(((one r (RdO bs p)).set b3 (.cells [.sl 12 none (pr.map Fu.enc)])).set b4 (.cells [NIL])).get b4=some (.cells [NIL]):=ai _ _ _
 generalize(((one r (RdO bs p)).set b3 (.cells [.sl 12 none (pr.map Fu.enc)])).set b4 (.cells [NIL]))=H0 at*
 clear hb3 hb4
 simp only[go_sem,rE,rA,g3,am]
 refine ba (cv L r bs p pr.length hbs hp (by omega)) (rfl) gr (by simp) trivial ?_
 rintro q p1 hp1 hp1' ⟨k,rfl,hk0,hk1⟩
 have g3:(H0.set r (RdO bs p1)).get b3=_:=(ae _ _ (Ne.symm hr3)).trans g3
 have g4:(H0.set r (RdO bs p1)).get b4=_:=(ae _ _ (Ne.symm hr4)).trans g4
 have gr:(H0.set r (RdO bs p1)).get r=_:=ai _ _ _
 generalize H0.set r (RdO bs p1)=H1 at*
 have hkl:k.toNat<pr.length:=by omega
 obtain⟨f,hf⟩:∃f,f=pr[k.toNat]:=⟨_,rfl⟩
 have hgood:f.lo m:=hf▸hpr _ (ax hkl)
 have hget:(pr.map Fu.enc)[k.toNat]?=some [S f.name,.sl 3 none (f.params.map Pa.enc),B f.lent,.sl 1 none (Ty.encs f.type.kids),.sl 15 none (f.body.map St.enc),I f.says.kind,I f.says.num,S f.says.place.name,au f.says.place.path,.sl 5 none (Ex.encs f.says.kids),S f.gives.name,au f.gives.path]:=by
  rw[<-rG,hf];simp[hkl]
 simp only[go_sem,rE,rA,g3,hk0,hget,rL]
 intro b6 hb6
 have hr6:=al gr hb6
 have d36:=al g3 hb6
 have d46:=al g4 hb6
 let C:ByteArray->AC->Bool->AC->AC->AC->AC->AC->AC->AC->AC->AC->List AC:=fun nm X ln T Bd s1 s2 s3 s4 s5 g1 g2=>[S nm,X,B ln,T,Bd,s1,s2,s3,s4,s5,g1,g2]
 let C0:List AC:=[S f.name,.sl 3 none (f.params.map Pa.enc),B f.lent,.sl 1 none (Ty.encs f.type.kids),.sl 15 none (f.body.map St.enc),I f.says.kind,I f.says.num,S f.says.place.name,au f.says.place.path,.sl 5 none (Ex.encs f.says.kids),S f.gives.name,au f.gives.path]
 have gr:(H1.set b6 (.cells C0)).get r=_:=(ae _ _ hr6).trans gr
 have g3:(H1.set b6 (.cells C0)).get b3=_:=(ae _ _ d36).trans g3
 have g4:(H1.set b6 (.cells C0)).get b4=_:=(ae _ _ d46).trans g4
 have g6:(H1.set b6 (.cells C0)).get b6=some (.cells C0):=ai _ _ _
 simp only[C0]at gr g3 g4 g6
 generalize(H1.set b6 (.cells [S f.name,.sl 3 none (f.params.map Pa.enc),B f.lent,.sl 1 none (Ty.encs f.type.kids),.sl 15 none (f.body.map St.enc),I f.says.kind,I f.says.num,S f.says.place.name,au f.says.place.path,.sl 5 none (Ex.encs f.says.kids),S f.gives.name,au f.gives.path]))=H2 at*
 clear hb6
 refine ba (cv L r bs p1 12 hbs (by omega) (by omega)) (rfl) gr (by simp) trivial ?_
 rintro q p2 hp2' hp2'' ⟨k2,rfl,hk20,hk21⟩
 have hB:BAt (H2.set r (RdO bs p2)) r bs p2 b3 b4 b6 _ _:=(BAt.mk gr g3 g4 g6 hr3 hr4 hr6 d34 d36 d46).draw p2
 generalize H2.set r (RdO bs p2)=H3 at*
 clear gr g3 g4 g6
 have hlo:=hgood.up
 have hbl:=hgood.blen
 have hplo:∀g∈pr,g.lo (m+1):=fun g hg=>(hpr g hg).up
 have jn:∀(E:Env) (H:aj) (p':Int) (c6:List AC) (f':Fu),f'.lo (m+1)->BAt H r bs p' b3 b4 b6 [.sl 12 none (pr.map Fu.enc)] c6->LeC c6 f'.enc->
  E 3=.ptr b3 0->E 4=.ptr b4 0->E 5=I k->E 6=.ptr b6 0->p<=p'->p'<=p+200->aW.wp P (.seq (rg [ef 0 185 (.buildSlice 12 0 [.string (bl []),.slice none 0 0,.bool false,.slice none 0 0,.slice none 0 0,.int .i64 0,.int .i64 0,.string (bl []),.slice none 0 0,.slice none 0 0,.string (bl []),.slice none 0 0] []),fa 1 186 0 3,ld 2 187 none 186,ef 3 188 (.appendM 12 216 185 187),fa 4 189 0 3,en 5 (.store 1 189 188)]) (.seq (rg [fa 0 190 0 3,ld 1 191 none 190,mv 2 192 5,ld 3 193 (some 12) 6,ia 4 194 12 191 192,en 5 (.store 12 194 193)]) (.seq (rg [ld 0 195 (some 1) 3,en 1 (.store 1 4 195)]) .ret))) (bm.post [.cell 4 (some 1)] (t7 (m+1) r bs p 200)) E H:=by
  intro E H p' c6 f' hf' h hle e3 e4 e5 e6 h1 h2
  exact rV L (m:=m+1) (by omega) r bs p 200 E H p' pr k.toNat hkl (by omega) hplo _ c6 f' hf' b3 b4 b6 h.gr h.g3 h.g4 h.g6 (fun H'=>rfl) ⟨by rw[hle.length,oy],.inl hle⟩ h.hr3 h.hr4 h.d34 h.d36 h.d46 h.hr6 e3 e4 (by rw[e5];congr 2;omega) e6 h1 h2
 have jn8:∀(E:Env) (H:aj) (p':Int) (c6:List AC) (f':Fu),f'.lo (m+1)->BAt H r bs p' b3 b4 b6 [.sl 12 none (pr.map Fu.enc)] c6->FuAt H (fun d=>d=r\/d=b3\/d=b4\/d=b6) c6 f'->
  E 3=.ptr b3 0->E 4=.ptr b4 0->E 5=I k->E 6=.ptr b6 0->p<=p'->p'<=p+200->aW.wp P (.seq (rg [ef 0 185 (.buildSlice 12 0 [.string (bl []),.slice none 0 0,.bool false,.slice none 0 0,.slice none 0 0,.int .i64 0,.int .i64 0,.string (bl []),.slice none 0 0,.slice none 0 0,.string (bl []),.slice none 0 0] []),fa 1 186 0 3,ld 2 187 none 186,ef 3 188 (.appendM 12 216 185 187),fa 4 189 0 3,en 5 (.store 1 189 188)]) (.seq (rg [fa 0 190 0 3,ld 1 191 none 190,mv 2 192 5,ld 3 193 (some 12) 6,ia 4 194 12 191 192,en 5 (.store 12 194 193)]) (.seq (rg [ld 0 195 (some 1) 3,en 1 (.store 1 4 195)]) .ret))) (bm.post [.cell 4 (some 1)] (t7 (m+1) r bs p 200)) E H:=by
  intro E H p' c6 f' hf' h hle e3 e4 e5 e6 h1 h2
  exact rV L (m:=m+1) (by omega) r bs p 200 E H p' pr k.toNat hkl (by omega) hplo _ c6 f' hf' b3 b4 b6 h.gr h.g3 h.g4 h.g6 (fun H'=>rfl) hle h.hr3 h.hr4 h.d34 h.d36 h.d46 h.hr6 e3 e4 (by rw[e5];congr 2;omega) e6 h1 h2
 have jn11:∀(E:Env) (H:aj) (tok:Option (Nat×Nat×Nat)) (pr':Pg),k.toNat<pr'.length->pr'.length<=4+(m+1)->(∀g∈pr',g.lo (m+1))->BAt H r bs p2 b3 b4 b6 [.sl 12 tok (pr'.map Fu.enc)] f.enc->
  E 3=.ptr b3 0->E 4=.ptr b4 0->E 5=I k->E 6=.ptr b6 0->aW.wp P (kd29) (bm.post [.cell 4 (some 1)] (t7 (m+1) r bs p 200)) E H:=by
  intro E H tok pr' h1 h2 h3 h e3 e4 e5 e6
  rw[kd29,fd29]
  exact rV L (m:=m+1) (by omega) r bs p 200 E H p2 pr' k.toNat h1 h2 h3 _ f.enc f hlo b3 b4 b6 h.gr h.g3 h.g4 h.g6 (fun H'=>rfl) ⟨oy f,.inl (.refl (Bg f))⟩ h.hr3 h.hr4 h.d34 h.d36 h.d46 h.hr6 e3 e4 (by rw[e5];congr 2;omega) e6 (by omega) (by omega)
 have lesays:LeC [I f.says.kind,I f.says.num,S f.says.place.name,au f.says.place.path,.sl 5 none (Ex.encs f.says.kids)] f.says.enc:=by rw[Ex.enc_eq];exact⟨⟨.refl _,rfl⟩,⟨.refl _,rfl⟩,⟨.refl _,rfl⟩,⟨.refl _,rfl⟩,⟨.refl _,rfl⟩,trivial⟩
 have legives:LeC [S f.gives.name,au f.gives.path] f.gives.enc:=⟨⟨.refl _,rfl⟩,⟨.refl _,rfl⟩,trivial⟩
 have g3:=hB.g3
 have g6:=hB.g6
 have sw:=fun K E e0 e6=>zS (F:=F) L r bs hbs p2 (by omega) (by omega) f (m:=m+1) (by omega) hlo (by omega) b3 b4 b6 _ H3 hB K E e0 e6
 have hk:k2=0\/k2=1\/k2=2\/k2=3\/k2=4\/k2=5\/k2=6\/k2=7\/k2=8\/k2=9\/k2=10\/k2=11:=by omega
 rcases hk with rfl|rfl|rfl|rfl|rfl|rfl|rfl|rfl|rfl|rfl|rfl|rfl
 all_goals simp only[go_sem,rE,rA,aG,az,aq,ay,rL,bh,g3,g6,am]
 ·
  intro b0 hb0
  have hB1:=hB.new hb0 (.tail 5 5)
  generalize H3.set b0 (.tail 5 5)=H4 at*
  refine ba (zas:=[.ptr r 0,.sl 1 (some (b0,5,5)) (jl [bl [],bl [102,97],bl [70],bl [116,111,111,108,111,110,103],bl [122,122]])]) ((zA L r bs hbs [bl [],bl [102,97],bl [70],bl [116,111,111,108,111,110,103],bl [122,122]] (by simp) (by simp) p2 (by omega) (by omega)).args ⟨.refl _,.tok _ _ _,trivial⟩) (rfl) hB1.gr (by simp) trivial ?_
  rintro q p3 hp3 hp3' ⟨s,rfl⟩
  have hB2:=hB1.draw p3
  have g6:=hB2.g6
  generalize H4.set r (RdO bs p3)=H5 at*
  simp only[go_sem,rE,rA,aG,az,aq,ay,rL,bh,g6]
  exact jn _ _ p3 _ {f with name:=s} ⟨hlo.pars,hlo.ptys,hlo.ty,hlo.blen,hlo.bcnt,hlo.bsm,hlo.says⟩ (hB2.put _) (lC {f with name:=s} (.refl _) (.refl _) (.refl _) lesays legives) (by first|rfl|simp only[go_sem,rE]) (by first|rfl|simp only[go_sem,rE]) (by first|rfl|simp only[go_sem,rE]) (by first|rfl|simp only[go_sem,rE]) (by omega) (by omega)
 ·
  refine ba (tp L r bs hbs p2 (by omega) (by omega)) (rfl) hB.gr (by simp) trivial ?_
  rintro q p3 hp3 hp3' ⟨t,rfl,ht⟩
  have hB1:=hB.draw p3
  have g6:=hB1.g6
  generalize H3.set r (RdO bs p3)=H4 at*
  simp only[go_sem,rE,rA,aG,az,aq,ay,rL,bh,Ty.enc_eq t,g6]
  exact jn _ _ p3 _ {f with type:=t} ⟨hlo.pars,hlo.ptys,ht,hlo.blen,hlo.bcnt,hlo.bsm,hlo.says⟩ (hB1.put _) (lC {f with type:=t} (.refl _) (.refl _) (.refl _) lesays legives) (by first|rfl|simp only[go_sem,rE]) (by first|rfl|simp only[go_sem,rE]) (by first|rfl|simp only[go_sem,rE]) (by first|rfl|simp only[go_sem,rE]) (by omega) (by omega)
 ·
  exact jn _ _ p2 _ {f with lent:=!f.lent} ⟨hlo.pars,hlo.ptys,hlo.ty,hlo.blen,hlo.bcnt,hlo.bsm,hlo.says⟩ (hB.put _) (lC {f with lent:=!f.lent} (.refl _) (.refl _) (.refl _) lesays legives) (by first|rfl|simp only[go_sem,rE]) (by first|rfl|simp only[go_sem,rE]) (by first|rfl|simp only[go_sem,rE]) (by first|rfl|simp only[go_sem,rE]) (by omega) (by omega)
 ·
  by_cases hb:(0:Int)<f.body.length
  ·simp only[hb,decide_true,go_sem,rE,rA,aG,az,aq,ay,rL,bh,g6,am]
   refine ba (cv L r bs p2 f.body.length hbs (by omega) (by omega)) (rfl) hB.gr (by simp) trivial ?_
   rintro q p3 hp3 hp3' ⟨n,rfl,hn0,hn1⟩
   have hB1:=hB.draw p3
   have g6:=hB1.g6
   generalize H3.set r (RdO bs p3)=H4 at*
   simp only[go_sem,rE,rA,aG,az,aq,ay,rL,bh,g6]
   intro b58 hb58
   have hB2:=hB1.new hb58 (.tail 0 0)
   have g58:(H4.set b58 (.tail 0 0)).get b58=_:=ai _ _ _
   have g6:=hB2.g6
   generalize H4.set b58 (.tail 0 0)=H5 at*
   have hnl:n.toNat<f.body.length:=by omega
   have w1:=aJ (n:=n+1) (by omega) (by omega)
   have hn2:n<=f.body.length:=by omega
   have hnl':n.toNat<=f.body.length:=by omega
   have hn1':(0:Int)<=n+1:=by omega
   have hnt:(n+1).toNat<=f.body.length:=by omega
   simp only[go_sem,rE,rA,aG,az,aq,ay,rL,bh,g6,am,hn0,hn2,hnl',fN]
   refine eB (es:=[]) (ys:=(f.body.map St.enc).take n.toNat) (rfl) g58 (rfl) (fun e he=>kh _ e (bC he)) (by simp;omega) ?_
   intro bt nt mt H6 fp6 gt keep hbt hfb
   have hB3:=hB2.keep (jq g58 keep)
   have nf6:¬fp6 b6:=fun h=>by have:=hfb _ h;rw[g6]at this;simp at this
   have g6:=hB3.g6
   simp only[go_sem,rE,rA,aG,az,aq,ay,rL,bh,g6,am,w1,hn1',hnt,aD]
   refine⟨by simp;exact nf6,?_⟩
   refine eB (es:=(f.body.map St.enc).take n.toNat) (ys:=((f.body.map St.enc).take f.body.length).drop (n+1).toNat) (rfl) gt (rfl) (fun e he=>kh _ e (bC (gn he))) (by simp;omega) ?_
   intro bt2 nt2 mt2 H7 fp7 gt2 keep2 hbt2 hfb2
   have hB4:=hB3.keep (jq gt keep2)
   have g6:=hB4.g6
   simp only[go_sem,rE,rA,aG,az,aq,ay,rL,bh,g6]
   have hmem:∀s∈f.body.take n.toNat++f.body.drop (n+1).toNat,s∈f.body:=fun s hs=>by
    rcases aF.1 hs with h|h
    ·exact bC h
    ·exact gn h
   refine jn _ _ p3 _ {f with body:=f.body.take n.toNat++f.body.drop (n+1).toNat} ⟨hlo.pars,hlo.ptys,hlo.ty,by simp;omega,fun s hs=>hlo.bcnt s (hmem s hs),fun s hs=>hlo.bsm s (hmem s hs),hlo.says⟩ (hB4.put _) (lC {f with body:=f.body.take n.toNat++f.body.drop (n+1).toNat} (.refl _) (.refl _) ?_ lesays legives) (by first|rfl|simp only[go_sem,rE]) (by first|rfl|simp only[go_sem,rE]) (by first|rfl|simp only[go_sem,rE]) (by first|rfl|simp only[go_sem,rE]) (by omega) (by omega)
   rw[bf,ip,List.map_drop]
   have:(f.body.map St.enc).take f.body.length=f.body.map St.enc:=by rw[cM (by simp)]
   rw[this]
   exact .tok _ _ _
  ·simp only[hb,decide_false,go_sem,rE,rA,aG,az,aq,ay,rL,bh]
   exact jn _ _ p2 _ f hlo hB (lC f (.refl _) (.refl _) (.refl _) lesays legives) (by first|rfl|simp only[go_sem,rE]) (by first|rfl|simp only[go_sem,rE]) (by first|rfl|simp only[go_sem,rE]) (by first|rfl|simp only[go_sem,rE]) (by omega) (by omega)
 ·
  by_cases hb:(0:Int)<f.body.length
  ·simp only[hb,decide_true,go_sem,rE,rA,aG,az,aq,ay,rL,bh,g6,am]
   intro b58 hb58
   have hB2:=hB.new hb58 (.tail 0 0)
   have g58:(H3.set b58 (.tail 0 0)).get b58=_:=ai _ _ _
   have g6:=hB2.g6
   generalize H3.set b58 (.tail 0 0)=H5 at*
   simp only[go_sem,rE,rA,aG,az,aq,ay,rL,bh,g6]
   refine eB (es:=[]) (ys:=f.body.map St.enc) (rfl) g58 (rfl) (kh _) (by simp;omega) ?_
   intro bt nt mt H6 fp6 gt keep hbt hfb
   have hB3:=hB2.keep (jq g58 keep)
   have nf6:¬fp6 b6:=fun h=>by have:=hfb _ h;rw[g6]at this;simp at this
   have g6:=hB3.g6
   simp only[go_sem,rE,rA,aG,az,aq,ay,rL,bh,g6,am]
   refine⟨by simp;exact nf6,by simp;exact nf6,?_⟩
   refine ba (cv L r bs p2 f.body.length hbs (by omega) (by omega)) (rfl) hB3.gr (fun _=>⟨by omega,I 0,0,rfl,by omega,.inr rfl⟩) (by simp[dQ];exact Ne.symm hr6) ?_
   rintro q p3 hp3 hp3' ⟨m,rfl,hm0,hm1⟩
   have hB4:=hB3.draw p3
   have hnt:bt≠r:=by rintro rfl;rw[hB3.gr]at gt;simp[RdO]at gt
   have gt:(H6.set r (RdO bs p3)).get bt=_:=(ae _ _ hnt).trans gt
   generalize H6.set r (RdO bs p3)=H7 at*
   have hml:m.toNat<f.body.length:=by omega
   obtain⟨cs,hcs,Cs⟩:=stC f.body[m.toNat]
   have hgm:(f.body.map St.enc)[m.toNat]?=some cs:=by rw[<-hcs];simp[hml]
   simp only[go_sem,rE,rA,aG,az,aq,ay,rL,bh,hm0,hgm,Cs.len,Cs.all]
   refine eB (es:=f.body.map St.enc) (ys:=[cs]) (rfl) gt (rfl) (by simp[Cs.len]) (by simp;omega) ?_
   intro bt2 nt2 mt2 H8 fp8 gt2 keep2 hbt2 hfb2
   have hB5:=hB4.keep (jq gt keep2)
   have g6:=hB5.g6
   simp only[go_sem,rE,rA,aG,az,aq,ay,rL,bh,g6]
   have hmem:∀s∈f.body++[f.body[m.toNat]],s∈f.body:=fun s hs=>by
    rcases aF.1 hs with h|h
    ·exact h
    ·simp at h;rw[h];exact ax hml
   refine jn _ _ p3 _ {f with body:=f.body++[f.body[m.toNat]]} ⟨hlo.pars,hlo.ptys,hlo.ty,by simp;omega,fun s hs=>hlo.bcnt s (hmem s hs),fun s hs=>hlo.bsm s (hmem s hs),hlo.says⟩ (hB5.put _) (lC {f with body:=f.body++[f.body[m.toNat]]} (.refl _) (.refl _) ?_ lesays legives) (by first|rfl|simp only[go_sem,rE]) (by first|rfl|simp only[go_sem,rE]) (by first|rfl|simp only[go_sem,rE]) (by first|rfl|simp only[go_sem,rE]) (by omega) (by omega)
   rw[bf,aS,bD,hcs]
   exact .tok _ _ _
  ·simp only[hb,decide_false,go_sem,rE,rA,aG,az,aq,ay,rL,bh]
   exact jn _ _ p2 _ f hlo hB (lC f (.refl _) (.refl _) (.refl _) lesays legives) (by first|rfl|simp only[go_sem,rE]) (by first|rfl|simp only[go_sem,rE]) (by first|rfl|simp only[go_sem,rE]) (by first|rfl|simp only[go_sem,rE]) (by omega) (by omega)
 ·
  intro b58 hb58
  have hB2:=hB.new hb58 (.tail 0 0)
  have g58:(H3.set b58 (.tail 0 0)).get b58=_:=ai _ _ _
  have g6:=hB2.g6
  generalize H3.set b58 (.tail 0 0)=H5 at*
  simp only[go_sem,rE,rA,aG,az,aq,ay,rL,bh,g6]
  refine eB (es:=[]) (ys:=f.params.map Pa.enc) (rfl) g58 (rfl) (by simp;intro s _;exact pa_len s) (by have:=hgood.pars;simp;omega) ?_
  intro bt nt mt H6 fp6 gt keep hbt hfb
  have hB3:=hB2.keep (jq g58 keep)
  simp only[go_sem,rE,rA,aG,az,aq,ay,rL,bh]
  intro b0 hb0
  have d0t:=al gt hb0
  have hB4:=hB3.new hb0 (.tail 3 3)
  have gt:(H6.set b0 (.tail 3 3)).get bt=_:=(ae _ _ d0t).trans gt
  generalize H6.set b0 (.tail 3 3)=H7 at*
  refine ba (zas:=[.ptr r 0,.sl 1 (some (b0,3,3)) (jl [bl [112],bl [122],bl [90]])]) ((zA L r bs hbs [bl [112],bl [122],bl [90]] (by simp) (by simp) p2 (by omega) (by omega)).args ⟨.refl _,.tok _ _ _,trivial⟩) (rfl) hB4.gr (by simp) trivial ?_
  rintro q p3 hp3 hp3' ⟨s,rfl⟩
  have hB5:=hB4.draw p3
  have hnt:bt≠r:=by rintro rfl;rw[hB4.gr]at gt;simp[RdO]at gt
  have gt:(H7.set r (RdO bs p3)).get bt=_:=(ae _ _ hnt).trans gt
  generalize H7.set r (RdO bs p3)=H8 at*
  simp only[go_sem,rE,rA,aG,az,aq,ay,rL,bh]
  refine ba (tp L r bs hbs p3 (by omega) (by omega)) (rfl) hB5.gr (by simp) trivial ?_
  rintro q p4 hp4 hp4' ⟨t,rfl,ht⟩
  have hB6:=hB5.draw p4
  have gt:(H8.set r (RdO bs p4)).get bt=_:=(ae _ _ hnt).trans gt
  generalize H8.set r (RdO bs p4)=H9 at*
  simp only[go_sem,rE,rA,aG,az,aq,ay,rL,bh,Ty.enc_eq t]
  refine eB (es:=f.params.map Pa.enc) (ys:=[[S s,B false,.sl 1 none (Ty.encs t.kids)]]) (rfl) gt (rfl) (by simp) (by have:=hgood.pars;simp;omega) ?_
  intro bt2 nt2 mt2 H10 fp10 gt2 keep2 hbt2 hfb2
  have hB7:=hB6.keep (jq gt keep2)
  have g6:=hB7.g6
  simp only[go_sem,rE,rA,aG,az,aq,ay,rL,bh,g6]
  refine jn _ _ p4 _ {f with params:=f.params++[⟨s,false,t⟩]} ⟨by have:=hgood.pars;simp;omega,fun x hx=>?_,hlo.ty,hlo.blen,hlo.bcnt,hlo.bsm,hlo.says⟩ (hB7.put _) (lC {f with params:=f.params++[⟨s,false,t⟩]} ?_ (.refl _) (.refl _) lesays legives) (by first|rfl|simp only[go_sem,rE]) (by first|rfl|simp only[go_sem,rE]) (by first|rfl|simp only[go_sem,rE]) (by first|rfl|simp only[go_sem,rE]) (by omega) (by omega)
  ·rcases aF.1 hx with h|h
   ·exact hlo.ptys x h
   ·simp at h;subst h;exact ht
  ·rw[bf,aS,bD,Pa.enc,Ty.enc_eq t]
   exact .tok _ _ _
 ·
  intro b0 hb0
  have hB4:=hB.new hb0 (.tail 3 3)
  generalize H3.set b0 (.tail 3 3)=H7 at*
  refine ba (zas:=[.ptr r 0,.sl 1 (some (b0,3,3)) (jl [bl [112],bl [113],bl [122,122]])]) ((zA L r bs hbs [bl [112],bl [113],bl [122,122]] (by simp) (by simp) p2 (by omega) (by omega)).args ⟨.refl _,.tok _ _ _,trivial⟩) (rfl) hB4.gr (by simp) trivial ?_
  rintro q p3 hp3 hp3' ⟨s,rfl⟩
  have hB5:=hB4.draw p3
  generalize H7.set r (RdO bs p3)=H8 at*
  simp only[go_sem,rE,rA,aG,az,aq,ay,rL,bh]
  refine ba (cv L r bs p3 3 hbs (by omega) (by omega)) (rfl) hB5.gr (by simp) trivial ?_
  rintro q p4 hp4 hp4' ⟨m,rfl,hm0,hm1⟩
  have hB6:=hB5.draw p4
  generalize H8.set r (RdO bs p4)=H9 at*
  have w1:=aJ (n:=m - 1) (by omega) (by omega)
  simp only[go_sem,rE,rA,aG,az,aq,ay,rL,bh,w1]
  intro b1 hb1
  have hB7:=hB6.new hb1 (.tail 1 1)
  generalize H9.set b1 (.tail 1 1)=H10 at*
  refine ba (cv L r bs p4 2 hbs (by omega) (by omega)) (rfl) hB7.gr (by simp) trivial ?_
  rintro q p5 hp5 hp5' ⟨n,rfl,hn0,hn1⟩
  have hB8:=hB7.draw p5
  have g6:=hB8.g6
  generalize H10.set r (RdO bs p5)=H11 at*
  have hn01:n=0\/n=1:=by omega
  have hn1':n.toNat<=1:=by omega
  simp only[go_sem,rE,rA,aG,az,aq,ay,rL,bh,g6,hn0,hn1',fN]
  refine jn _ _ p5 _ {f with gives:=⟨s,[m - 1].take n.toNat⟩} ⟨hlo.pars,hlo.ptys,hlo.ty,hlo.blen,hlo.bcnt,hlo.bsm,hlo.says⟩ (hB8.put _) (lC {f with gives:=⟨s,[m - 1].take n.toNat⟩} (.refl _) (.refl _) (.refl _) lesays ⟨⟨.refl _,rfl⟩,⟨?_,rfl⟩,trivial⟩) (by first|rfl|simp only[go_sem,rE]) (by first|rfl|simp only[go_sem,rE]) (by first|rfl|simp only[go_sem,rE]) (by first|rfl|simp only[go_sem,rE]) (by omega) (by omega)
  rcases hn01 with rfl|rfl
  ·exact .refl _
  ·exact .refl _
 ·
  refine ba (cv L r bs p2 8 hbs (by omega) (by omega)) (rfl) hB.gr (by simp) trivial ?_
  rintro q p3 hp3 hp3' ⟨n,rfl,hn0,hn1⟩
  have hB1:=hB.draw p3
  generalize H3.set r (RdO bs p3)=H4 at*
  simp only[go_sem,rE,rA,aG,az,aq,ay,rL,bh]
  refine ba (cv L r bs p3 3 hbs (by omega) (by omega)) (rfl) hB1.gr (by simp) trivial ?_
  rintro q p4 hp4 hp4' ⟨m,rfl,hm0,hm1⟩
  have hB2:=hB1.draw p4
  have g6:=hB2.g6
  generalize H4.set r (RdO bs p4)=H5 at*
  simp only[go_sem,rE,rA,aG,az,aq,ay,rL,bh,g6]
  refine jn _ _ p4 _ {f with says:=.mk n m ⟨bl [112],[]⟩ []} ⟨hlo.pars,hlo.ptys,hlo.ty,hlo.blen,hlo.bcnt,hlo.bsm,.mk (by omega) (by simp)⟩ (hB2.put _) (lC {f with says:=.mk n m ⟨bl [112],[]⟩ []} (.refl _) (.refl _) (.refl _) ?_ legives) (by first|rfl|simp only[go_sem,rE]) (by first|rfl|simp only[go_sem,rE]) (by first|rfl|simp only[go_sem,rE]) (by first|rfl|simp only[go_sem,rE]) (by omega) (by omega)
  rw[Ex.enc]
  exact⟨⟨.refl _,rfl⟩,⟨.refl _,rfl⟩,⟨.refl _,rfl⟩,⟨.nil 1,rfl⟩,⟨.nil 5,rfl⟩,trivial⟩
 ·
  exact sw _ _ (by first|rfl|simp only[go_sem,rE]) (by first|rfl|simp only[go_sem,rE]) fun E' H' p' c6 f' hf' hB' hA he h1 h2=>jn8 E' H' p' c6 f' hf' hB' hA ((he 3 (by decide)).trans (by first|rfl|simp only[go_sem,rE])) ((he 4 (by decide)).trans (by first|rfl|simp only[go_sem,rE])) ((he 5 (by decide)).trans (by first|rfl|simp only[go_sem,rE])) ((he 6 (by decide)).trans (by first|rfl|simp only[go_sem,rE])) (by omega) (by omega)
 ·
  exact sw _ _ (by first|rfl|simp only[go_sem,rE]) (by first|rfl|simp only[go_sem,rE]) fun E' H' p' c6 f' hf' hB' hA he h1 h2=>jn8 E' H' p' c6 f' hf' hB' hA ((he 3 (by decide)).trans (by first|rfl|simp only[go_sem,rE])) ((he 4 (by decide)).trans (by first|rfl|simp only[go_sem,rE])) ((he 5 (by decide)).trans (by first|rfl|simp only[go_sem,rE])) ((he 6 (by decide)).trans (by first|rfl|simp only[go_sem,rE])) (by omega) (by omega)
 ·
  intro b58 hb58
  have hB2:=hB.new hb58 (.tail 0 0)
  have g58:(H3.set b58 (.tail 0 0)).get b58=_:=ai _ _ _
  have g6:=hB2.g6
  generalize H3.set b58 (.tail 0 0)=H5 at*
  simp only[go_sem,rE,rA,aG,az,aq,ay,rL,bh,g6]
  refine eB (es:=[]) (ys:=f.body.map St.enc) (rfl) g58 (rfl) (kh _) (by simp;omega) ?_
  intro bt nt mt H6 fp6 gt keep hbt hfb
  have hB3:=hB2.keep (jq g58 keep)
  simp only[go_sem,rE,rA,aG,az,aq,ay,rL,bh]
  intro b0 hb0
  have d0t:=al gt hb0
  have hB4:=hB3.new hb0 (.tail 6 6)
  have gt:(H6.set b0 (.tail 6 6)).get bt=_:=(ae _ _ d0t).trans gt
  generalize H6.set b0 (.tail 6 6)=H7 at*
  refine ba (zas:=[.ptr r 0,.sl 1 (some (b0,6,6)) (jl [bl [112],bl [113],bl [97,98],bl [97,99],bl [97,100],bl [97,101]])]) ((zA L r bs hbs [bl [112],bl [113],bl [97,98],bl [97,99],bl [97,100],bl [97,101]] (by simp) (by simp) p2 (by omega) (by omega)).args ⟨.refl _,.tok _ _ _,trivial⟩) (rfl) hB4.gr (by simp) trivial ?_
  rintro q p3 hp3 hp3' ⟨s,rfl⟩
  have hB5:=hB4.draw p3
  have hnt:bt≠r:=by rintro rfl;rw[hB4.gr]at gt;simp[RdO]at gt
  have gt:(H7.set r (RdO bs p3)).get bt=_:=(ae _ _ hnt).trans gt
  generalize H7.set r (RdO bs p3)=H8 at*
  simp only[go_sem,rE,rA,aG,az,aq,ay,rL,bh]
  refine eB (es:=f.body.map St.enc) (ys:=[[I 1,S (bl [122,122]),S (bl []),NIL,S (bl []),NIL,I 2,I 0,S s,NIL,NIL,S (bl []),NIL,NIL,NIL]]) (rfl) gt (rfl) (by simp) (by simp;omega) ?_
  intro bt2 nt2 mt2 H10 fp10 gt2 keep2 hbt2 hfb2
  have hB7:=hB5.keep (jq gt keep2)
  have g6:=hB7.g6
  simp only[go_sem,rE,rA,aG,az,aq,ay,rL,bh,g6]
  have hxs:(Ex.mk 2 0 ⟨s,[]⟩ []).sm:=.mk (by decide) (by simp)
  obtain⟨c1,c2⟩:=lS 1 (bl [122,122]) P0 P0 (.mk 2 0 ⟨s,[]⟩ []) hxs
  refine jn _ _ p3 _ {f with body:=f.body++[.mk 1 (bl [122,122]) P0 P0 (.mk 2 0 ⟨s,[]⟩ []) (bl []) [] [] []]} ⟨hlo.pars,hlo.ptys,hlo.ty,by simp;omega,fun x hx=>?_,fun x hx=>?_,hlo.says⟩ (hB7.put _) (lC {f with body:=f.body++[.mk 1 (bl [122,122]) P0 P0 (.mk 2 0 ⟨s,[]⟩ []) (bl []) [] [] []]} (.refl _) (.refl _) ?_ lesays legives) (by first|rfl|simp only[go_sem,rE]) (by first|rfl|simp only[go_sem,rE]) (by first|rfl|simp only[go_sem,rE]) (by first|rfl|simp only[go_sem,rE]) (by omega) (by omega)
  ·rcases aF.1 hx with h|h
   ·exact hlo.bcnt x h
   ·simp at h;subst h;omega
  ·rcases aF.1 hx with h|h
   ·exact hlo.bsm x h
   ·simp at h;subst h;exact c2.up (by omega)
  ·rw[bf,aS,bD]
   refine .slR ((y9 f.body).snoc ?_)
   rw[St.enc_eq]
   exact⟨⟨.refl _,rfl⟩,⟨.refl _,rfl⟩,⟨.refl _,rfl⟩,⟨.nil 1,rfl⟩,⟨.refl _,rfl⟩,⟨.nil 1,rfl⟩,⟨.refl _,rfl⟩,⟨.refl _,rfl⟩,⟨.refl _,rfl⟩,⟨.nil 1,rfl⟩,⟨.nil 5,rfl⟩,⟨.refl _,rfl⟩,⟨.nil 8,rfl⟩,⟨.nil 15,rfl⟩,⟨.nil 15,rfl⟩,trivial⟩
 ·
  intro b58 hb58
  have hB2:=hB.new hb58 (.tail 0 0)
  have g58:(H3.set b58 (.tail 0 0)).get b58=_:=ai _ _ _
  have g3:=hB2.g3
  generalize H3.set b58 (.tail 0 0)=H5 at*
  simp only[go_sem,rE,rA,aG,az,aq,ay,rL,bh,g3]
  refine eB (es:=[]) (ys:=pr.map Fu.enc) (rfl) g58 (rfl) (by simp;intro g _;exact oy g) (by simp;omega) ?_
  intro bt nt mt H6 fp6 gt keep hbt hfb
  have nf6:¬fp6 b6:=fun h=>by have:=hfb _ h;rw[hB2.g6]at this;simp at this
  have hB3:=hB2.keep (jq g58 keep)
  have g6:=hB3.g6
  simp only[go_sem,rE,rA,aG,az,aq,ay,rL,bh,g6]
  refine⟨by simp;exact nf6,?_⟩
  refine eB (es:=pr.map Fu.enc) (ys:=[f.enc]) (rfl) gt (by simp only[go_sem,rE];rw[rG]) (by simp[oy]) (by simp;omega) ?_
  intro bt2 nt2 mt2 H8 fp8 gt2 keep2 hbt2 hfb2
  have hB5:=hB3.keep (jq gt keep2)
  have g3:=hB5.g3
  simp only[go_sem,rE,rA,aG,az,aq,ay,rL,bh,g3]
  have hB6:=hB5.put3 [.sl 12 (some (bt2,nt2,mt2)) (pr.map Fu.enc++[f.enc])]
  rw[<-rG]at hB6
  have e1:pr.map Fu.enc++[f.enc]=(pr++[f]).map Fu.enc:=by simp
  rw[e1]at hB6⊢
  exact jn11 _ _ _ (pr++[f]) (by simp;omega) (by simp;omega) (fun g hg=>by rcases aF.1 hg with h|h;exact hplo g h;simp at h;rw[h];exact hlo) hB6 (by first|rfl|simp only[go_sem,rE]) (by first|rfl|simp only[go_sem,rE]) (by first|rfl|simp only[go_sem,rE]) (by first|rfl|simp only[go_sem,rE])
end
section
variable {P:Program}{F:Ids}
def drawn(m:Nat)(pr:Pg):Prop:=(∀f∈pr,f.lo m)/\1<=pr.length/\pr.length<=4+m
theorem zE(L:Lib P F)(r:Nat)(bs:List UInt8)(hbs:bs.length<=2000)(p:Int)(hp:0<=p)(hp2:p+6*FC<=2^50):
 bz P 42 [.ptr r 0] (one r (RdO bs p)) (RdR r bs p (6*FC) fun q=>∃pr:Pg,q=.agg (Pg.enc pr)/\drawn 1 pr):=by
 simp only[FC]at hp2
 refine(L.a Tryz.func42 y42) (by simp[y42]) ?_
 simp only[y42,go_sem,rE,rA]
 intro b2 hb2
 have hr2:r≠b2:=by rintro rfl;rw[bI]at hb2;simp at hb2
 have gr:((one r (RdO bs p)).set b2 (.cells [NIL])).get r=some (RdO bs p):=by rw[ae _ _ hr2,bI]
 have g2:((one r (RdO bs p)).set b2 (.cells [NIL])).get b2=some (.cells [NIL]):=ai _ _ _
 generalize((one r (RdO bs p)).set b2 (.cells [NIL]))=H0 at*
 clear hb2
 refine ba (zF L r bs hbs p hp (by simp only[FC];omega)) (rfl) gr (by simp) trivial ?_
 rintro q p1 hp1 hp1' ⟨pr,rfl,hgood,hl1,hl2⟩
 simp only[FC]at hp1'
 have g2:(H0.set r (RdO bs p1)).get b2=_:=(ae _ _ (Ne.symm hr2)).trans g2
 have gr:(H0.set r (RdO bs p1)).get r=_:=ai _ _ _
 generalize H0.set r (RdO bs p1)=H1 at*
 simp only[go_sem,rE,rA,Pg.enc]
 intro b3 hb3
 have hr3:=al gr hb3
 have d23:=al g2 hb3
 have gr:(H1.set b3 (.cells [.sl 12 none (pr.map Fu.enc)])).get r=_:=(ae _ _ hr3).trans gr
 have g2:(H1.set b3 (.cells [.sl 12 none (pr.map Fu.enc)])).get b2=_:=(ae _ _ d23).trans g2
 have g3:(H1.set b3 (.cells [.sl 12 none (pr.map Fu.enc)])).get b3=_:=ai _ _ _
 generalize H1.set b3 (.cells [.sl 12 none (pr.map Fu.enc)])=H2 at*
 clear hb3
 refine ba (cv L r bs p1 5 hbs (by omega) (by omega)) (rfl) gr (by simp) trivial ?_
 rintro q p2 hp2 hp2' ⟨k,rfl,hk0,hk1⟩
 have g2:(H2.set r (RdO bs p2)).get b2=_:=(ae _ _ (Ne.symm hr2)).trans g2
 have g3:(H2.set r (RdO bs p2)).get b3=_:=(ae _ _ (Ne.symm hr3)).trans g3
 have gr:(H2.set r (RdO bs p2)).get r=_:=ai _ _ _
 generalize H2.set r (RdO bs p2)=H3 at*
 by_cases hk:k=0
 ·simp only[hk,go_sem,rE,rA,aG,g3,rL]
  refine ba (zH L r bs hbs pr (m:=0) (by omega) (fun f hf=>(hgood f hf).lo) hl1 hl2 p2 (by omega) (by omega)) (by simp only[go_sem,rE,Pg.enc]) gr (by simp) trivial ?_
  rintro q p3 hp3 hp3' ⟨pr',rfl,hlo,hl1',hl2'⟩
  have g2:(H3.set r (RdO bs p3)).get b2=_:=(ae _ _ (Ne.symm hr2)).trans g2
  have gr:(H3.set r (RdO bs p3)).get r=_:=ai _ _ _
  generalize H3.set r (RdO bs p3)=H4 at*
  simp only[go_sem,rE,rA,g2,Pg.enc,rL]
  exact bT (q':=.agg (Pg.enc pr')) (off:=0) (rfl) (ai _ _ _) rfl (.refl _) (eU (by rw[ae _ _ hr2];exact gr)) ⟨p3,by omega,by simp only[FC];omega,rfl,pr',rfl,hlo,hl1',hl2'⟩
 ·have hk':(k==0)=false:=by simpa using hk
  simp only[hk',go_sem,rE,rA,g2,g3,rL]
  exact bT (q':=.agg (Pg.enc pr)) (off:=0) (rfl) (ai _ _ _) rfl (.refl _) (eU (by rw[ae _ _ hr2];exact gr)) ⟨p2,by omega,by simp only[FC];omega,rfl,pr,rfl,fun f hf=>(hgood f hf).lo.up,hl1,by omega⟩
def fI(bs:List UInt8):List (List AC):=bs.map fun b=>[AC.lit (.int .u8 (b.toNat:Int))]
theorem B4(L:Lib P F)(bs:List UInt8)(hl:bs.length<=2^30):bz P 27 [.sl 1 none (fI bs)] .empty fun q H'=>∃r bs',q=.ptr r 0/\H'=one r (RdO bs' 0)/\bs'.length<=2000:=by
 refine(L.a Tryz.func27 y27) (by simp[y27]) ?_
 have hlen:(fI bs).length=bs.length:=by simp[fI]
 by_cases h:(2000:Int)<bs.length
 ·have h2:2000<=bs.length:=by omega
  have h3:(0:Int)<=2000:=by decide
  have h4:(2000:Int).toNat=2000:=rfl
  simp only[y27,go_sem,rE,rA,hlen,h,h2,h3,h4,decide_true,fN,dX,Int.reduceToNat]
  intro r hr
  refine ak (q':=.ptr r 0) (by simp only[go_sem,rE];exact .refl _) (aj.sub_refl _) ⟨r,bs.take 2000,rfl,?_,by simp;omega⟩
  simp only[RdO,fI,ip]
  rfl
 ·simp only[y27,go_sem,rE,rA,hlen,h,decide_false]
  intro r hr
  exact ak (q':=.ptr r 0) (by simp only[go_sem,rE];exact .refl _) (aj.sub_refl _) ⟨r,bs,rfl,rfl,by omega⟩
end
theorem kF{E:Env}{H:aj}{n m k r off:Nat}{g:Option Nat}{cs:List AC}{q q1:AC}{R:AC->aj->Prop}(hE:E n=.ptr r off)(hg:H.get r=some (.cells cs))(hq:fM g cs off=some q)
(hl:Le q q1){H':aj}(hs:H'.sub H)(h:R (.tup [q1,E m,E k]) H'):bm.post [.cell n g,.slot m,.slot k] R .ret E H:=
 ⟨.tup [q,E m,E k],by simp only[kD,iI,jz.val,hE,hg,hq],_,H',.of (Le.tup (show LeA [q,E m,E k] [q1,E m,E k]from⟨hl,.refl _,.refl _,trivial⟩)) hs,h⟩
section
variable {P:Program}{F:Ids}
theorem zD(L:Lib P F)(r:Nat)(bs:List UInt8)(hbs:bs.length<=2000)(p:Int)(hp:0<=p)(hp2:p+7*FC<=2^50):
 bz P 26 [.ptr r 0] (one r (RdO bs p)) (RdR r bs p (7*FC) fun q=>∃(pr:Pg) (fn n:Int),q=.tup [.agg (Pg.enc pr),I fn,I n]/\drawn 1 pr):=by
 simp only[FC]at hp2
 refine(L.a Tryz.func26 y26) (by simp[y26]) ?_
 simp only[y26,go_sem,rE,rA]
 intro b2 hb2
 have hr2:r≠b2:=by rintro rfl;rw[bI]at hb2;simp at hb2
 have gr:((one r (RdO bs p)).set b2 (.cells [NIL])).get r=some (RdO bs p):=by rw[ae _ _ hr2,bI]
 have g2:((one r (RdO bs p)).set b2 (.cells [NIL])).get b2=some (.cells [NIL]):=ai _ _ _
 generalize((one r (RdO bs p)).set b2 (.cells [NIL]))=H0 at*
 clear hb2
 refine ba (zE L r bs hbs p hp (by simp only[FC];omega)) (rfl) gr (by simp) trivial ?_
 rintro q p1 hp1 hp1' ⟨pr,rfl,hd⟩
 simp only[FC]at hp1'
 have g2:(H0.set r (RdO bs p1)).get b2=_:=(ae _ _ (Ne.symm hr2)).trans g2
 have gr:(H0.set r (RdO bs p1)).get r=_:=ai _ _ _
 generalize H0.set r (RdO bs p1)=H1 at*
 simp only[go_sem,rE,rA,Pg.enc]
 intro b5 hb5
 have hr5:=al gr hb5
 have d25:=al g2 hb5
 have hdl:=hd.2.2
 have hd1:=hd.2.1
 have gr:(H1.set b5 (.cells [.sl 12 none (pr.map Fu.enc)])).get r=_:=(ae _ _ hr5).trans gr
 have g2:(H1.set b5 (.cells [.sl 12 none (pr.map Fu.enc)])).get b2=_:=(ae _ _ d25).trans g2
 have g5:(H1.set b5 (.cells [.sl 12 none (pr.map Fu.enc)])).get b5=_:=ai _ _ _
 generalize H1.set b5 (.cells [.sl 12 none (pr.map Fu.enc)])=H2 at*
 clear hb5
 refine ba (cv L r bs p1 pr.length hbs (by omega) (by omega)) (by simp only[go_sem,rE,am]) gr (by simp) trivial ?_
 rintro q p2 hp2 hp2' ⟨k,rfl,hk0,hk1⟩
 have g2:(H2.set r (RdO bs p2)).get b2=_:=(ae _ _ (Ne.symm hr2)).trans g2
 have g5:(H2.set r (RdO bs p2)).get b5=_:=(ae _ _ (Ne.symm hr5)).trans g5
 have gr:(H2.set r (RdO bs p2)).get r=_:=ai _ _ _
 generalize H2.set r (RdO bs p2)=H3 at*
 obtain⟨k,rfl⟩:=cx hk0
 have hkl:k<pr.length:=by omega
 obtain⟨cf,hcf,CF⟩:=fuC pr[k]
 have hgf:(pr.map Fu.enc)[k]?=some cf:=by rw[<-hcf];simp[hkl]
 have cfb:(cf.drop 4)[0]?=some (.sl 15 none (St.encs pr[k].body)):=by rw[bW];exact CF.body
 have hel:(St.encs pr[k].body).length=pr[k].body.length:=by rw[St.encs_map,am]
 have hbl:=(hd.1 pr[k] (ax hkl)).blen
 have w1:=aJ (n:=(pr[k].body.length:Int)+1) (by omega) (by omega)
 simp only[go_sem,rE,rA,rL,g5,hgf,CF.len,CF.body,cfb,hel,w1]
 refine ba (cv L r bs p2 (pr[k].body.length+1) hbs (by omega) (by omega)) (by simp only[go_sem,rE]) gr (by simp) trivial ?_
 rintro q p3 hp3 hp3' ⟨m,rfl,hm0,hm1⟩
 have g2:(H3.set r (RdO bs p3)).get b2=_:=(ae _ _ (Ne.symm hr2)).trans g2
 have g5:(H3.set r (RdO bs p3)).get b5=_:=(ae _ _ (Ne.symm hr5)).trans g5
 have gr:(H3.set r (RdO bs p3)).get r=_:=ai _ _ _
 generalize H3.set r (RdO bs p3)=H4 at*
 simp only[go_sem,rE,rA,rL]
 refine ba (cv L r bs p3 20 hbs (by omega) (by omega)) (by simp only[go_sem,rE]) gr (by simp) trivial ?_
 rintro q p4 hp4 hp4' ⟨j,rfl,hj0,hj1⟩
 have g2:(H4.set r (RdO bs p4)).get b2=_:=(ae _ _ (Ne.symm hr2)).trans g2
 have g5:(H4.set r (RdO bs p4)).get b5=_:=(ae _ _ (Ne.symm hr5)).trans g5
 have gr:(H4.set r (RdO bs p4)).get r=_:=ai _ _ _
 generalize H4.set r (RdO bs p4)=H5 at*
 simp only[go_sem,rE,rA,rL]
 have hch:∀a b:AC,bh 1 2 [a,b]=[[a],[b]]:=fun _ _=>rfl
 have hg0:∀a b:List AC,[a,b][Int.toNat 0]?=some a:=fun _ _=>rfl
 have hg1:∀a b:List AC,[a,b][Int.toNat 1]?=some b:=fun _ _=>rfl
 have h00:(0:Int)<=0:=cX _
 have h01:(0:Int)<=1:=by decide
 by_cases h0:j=0
 ·have h0':(j==0)=true:=by simpa using h0
  simp only[go_sem,rE,rA,rL,h0',g5,am,az,aq,ay,hch,jB,be,ce,or_false,forall_eq]
  refine ba (cv L r bs p4 2 hbs (by omega) (by omega)) (rfl) gr (fun _=>⟨by omega,I 0,0,rfl,cX _,.inr rfl⟩) (by simp[dQ];exact fun h=>hr5 h.symm) ?_
  rintro q p5 hp5 hp5' ⟨x,rfl,hx0,hx1⟩
  have g2:(H5.set r (RdO bs p5)).get b2=_:=(ae _ _ (Ne.symm hr2)).trans g2
  have g5:(H5.set r (RdO bs p5)).get b5=_:=(ae _ _ (Ne.symm hr5)).trans g5
  have gr:(H5.set r (RdO bs p5)).get r=_:=ai _ _ _
  generalize H5.set r (RdO bs p5)=H6 at*
  have hx:x=0\/x=1:=by omega
  rcases hx with rfl|rfl
  ·simp only[go_sem,rE,rA,rL,hg0,h00,g5,g2]
   exact kF (q1:=.agg (Pg.enc pr)) (off:=0) rfl (ai _ _ _) rfl (.refl _) (eU (by rw[ae _ _ hr2];exact gr)) ⟨p5,by omega,by simp only[FC];omega,rfl,pr,_,_,rfl,hd⟩
  ·simp only[go_sem,rE,rA,rL,hg1,h01,g5,g2]
   exact kF (q1:=.agg (Pg.enc pr)) (off:=0) rfl (ai _ _ _) rfl (.refl _) (eU (by rw[ae _ _ hr2];exact gr)) ⟨p5,by omega,by simp only[FC];omega,rfl,pr,_,_,rfl,hd⟩
 have h0':(j==0)=false:=by simpa using h0
 by_cases h1:j=1
 ·have h1':(j==1)=true:=by simpa using h1
  simp only[go_sem,rE,rA,rL,h0',h1',g5,hgf,CF.len,CF.body,cfb,hel,w1,am,az,aq,ay,hch,jB,be,ce,or_false,forall_eq]
  refine ba (cv L r bs p4 2 hbs (by omega) (by omega)) (rfl) gr (fun _=>⟨by omega,I 0,0,rfl,cX _,.inr rfl⟩) (by simp[dQ];exact fun h=>hr5 h.symm) ?_
  rintro q p5 hp5 hp5' ⟨x,rfl,hx0,hx1⟩
  have g2:(H5.set r (RdO bs p5)).get b2=_:=(ae _ _ (Ne.symm hr2)).trans g2
  have g5:(H5.set r (RdO bs p5)).get b5=_:=(ae _ _ (Ne.symm hr5)).trans g5
  have gr:(H5.set r (RdO bs p5)).get r=_:=ai _ _ _
  generalize H5.set r (RdO bs p5)=H6 at*
  have hx:x=0\/x=1:=by omega
  rcases hx with rfl|rfl
  ·simp only[go_sem,rE,rA,rL,hg0,h00,g5,g2]
   exact kF (q1:=.agg (Pg.enc pr)) (off:=0) rfl (ai _ _ _) rfl (.refl _) (eU (by rw[ae _ _ hr2];exact gr)) ⟨p5,by omega,by simp only[FC];omega,rfl,pr,_,_,rfl,hd⟩
  ·simp only[go_sem,rE,rA,rL,hg1,h01,g5,g2]
   exact kF (q1:=.agg (Pg.enc pr)) (off:=0) rfl (ai _ _ _) rfl (.refl _) (eU (by rw[ae _ _ hr2];exact gr)) ⟨p5,by omega,by simp only[FC];omega,rfl,pr,_,_,rfl,hd⟩
 have h1':(j==1)=false:=by simpa using h1
 simp only[go_sem,rE,rA,rL,h0',h1',g5,g2]
 exact kF (q1:=.agg (Pg.enc pr)) (off:=0) rfl (ai _ _ _) rfl (.refl _) (eU (by rw[ae _ _ hr2];exact gr)) ⟨p4,by omega,by simp only[FC];omega,rfl,pr,_,_,rfl,hd⟩
end

section
variable {P:Program}{F:Ids}
theorem lV{a:List ByteArray}{k:Nat}(h:k<a.length):(aB a)[k]?=some [S a[k]]:=by simp[aB,h]
theorem zC(L:Lib P F)(a:List ByteArray)(hl:a.length<=2^30):cO P 21 [.sl 1 none (aB a),.sl 1 none (aB a)] (B true):=by
 refine(L.a Tryz.func21 y21) (by simp[y21]) ?_
 have hlen:(aB a).length=a.length:=by simp[aB]
 simp only[y21,go_sem,rE,rA,rL,hlen,fw,ft,dH]
 refine aQ a.length (fun k E' H'=>E' 0=.sl 1 none (aB a)/\E' 1=.sl 1 none (aB a)/\E' 5=I k) ⟨rfl,rfl,rfl⟩ ?_
 rintro k E H hk ⟨q0,q1,q5⟩
 simp only[go_sem,rE,rA,rL,q0,q5,hlen]
 refine aE (fun hlt=>?_) (fun hge=>?_)
 ·have hk1:k<a.length:=by omega
  have w1:=aJ (n:=(k:Int)+1) (by omega) (by omega)
  simp only[go_sem,rE,rA,rL,q0,q1,q5,lV hk1,dH,w1]
  exact⟨hk1,H,aj.sub_refl _,by simp⟩
 ·have hkk:k=a.length:=by omega
  subst hkk
  simp only[go_sem,rE,rA,rL]
  exact ak (.refl _) (aj.sub_empty _) ⟨rfl,rfl⟩
theorem c_lhHas(L:Lib P F)(a:List ByteArray)(s:ByteArray)(hl:a.length<=2^30):cO P 17 [.sl 1 none (aB a),S s] (B (a.any fun m=>eqB m s)):=by
 refine(L.a Tryz.func17 y17) (by simp[y17]) ?_
 have hlen:(aB a).length=a.length:=by simp[aB]
 simp only[y17,go_sem,rE,rA,rL]
 refine aQ a.length (fun k E' H'=>E' 0=.sl 1 none (aB a)/\E' 1=S s/\E' 5=I k/\(a.take k).any (fun m=>eqB m s)=false) ⟨rfl,rfl,rfl,by simp⟩ ?_
 rintro k E H hk ⟨q0,q1,q5,hall⟩
 simp only[go_sem,rE,rA,rL,q0,q5,hlen]
 refine aE (fun hlt=>?_) (fun hge=>?_)
 ·have hk1:k<a.length:=by omega
  have w1:=aJ (n:=(k:Int)+1) (by omega) (by omega)
  simp only[go_sem,rE,rA,rL,q0,q1,q5,lV hk1,dk]
  cases h:eqB a[k] s with
  |true=>
   simp only[go_sem,rE,rA,rL]
   refine ak (.refl _) (aj.sub_empty _) ⟨?_,rfl⟩
   have:a.any (fun m=>eqB m s)=true:=fo.2 ⟨a[k],ax hk1,h⟩
   rw[this];rfl
  |false=>
   simp only[go_sem,rE,rA,rL,q0,q1,q5,w1]
   refine⟨hk1,H,aj.sub_refl _,by simp,?_⟩
   rw[aA hk1,fj,hall]
   simp[h]
 ·have hkk:k=a.length:=by omega
  subst hkk
  rw[aO]at hall
  simp only[go_sem,rE,rA,rL]
  exact ak (.refl _) (aj.sub_empty _) ⟨by rw[hall];rfl,rfl⟩
end
theorem AS{f:Fu}{m:Nat}(h:f.lo m):bG f.body<=1000*(6+m):=by
 have key:∀l:List St,(∀s∈l,s.cnt<=1000)->bG l<=1000*l.length:=by
  intro l
  induction l with
  |nil=>intro _;rw[fh];omega
  |cons s l ih=>
   intro h
   have h1:=h s (by simp)
   have h2:=ih fun x hx=>h x (by simp[hx])
   rw[dm,aU];omega
 have:=key f.body h.bcnt
 have:=h.blen
 omega
theorem drawn.fit{m:Nat}{p:Pg}(h:drawn m p)(hm:m<=4):p.fit:=by
 refine⟨fun f hf=>⟨?_,(h.1 f hf).bsm⟩,fun f hf=>⟨(h.1 f hf).pars.1,?_⟩⟩
 ·have:=AS (h.1 f hf);omega
 ·have:=AS (h.1 f hf);omega
section
variable {P:Program}{F:Ids}{er:bZ}
end
noncomputable def wsS(p:Pg)(fn n:Int):List Vr:=match atS p fn n with|none=>[]|some v=>v.vars.filter fun x=>!x.dead
def lq(x:Vr):Bool:=x.lent&&!x.param
theorem vd(p:Pg)(fn n:Int):oV p fn n=(wsS p fn n).filter lq:=by
 unfold oV wsS
 cases atS p fn n with
 |none=>rfl
 |some v=>
  simp only[tc,List.filter_filter]
  apply List.filter_congr
  intro x _
  cases h:x.lent<;>cases h':x.param<;>cases h2:x.dead<;>simp[kJ,lq,h,h',h2]
theorem yM(p:Pg)(fn n:Int):(match iQ p fn n with|none=>[]|some e=>fR e.vars)=(oV p fn n).map iJ:=by
 unfold oV
 rcases xG p fn n with⟨h1,h2⟩|⟨v,e,h1,h2,hr⟩
 ·rw[h1,h2];rfl
 ·rw[h1,h2]
  simp only
  rw[hr.vars,cB];rfl
theorem wu(p:Pg)(fn n:Int):(wsS p fn n).length<=2^30/\((wsS p fn n).map (·.name)).Nodup/\(∀x∈wsS p fn n,x.loans.length<=2^30)/\∀x∈wsS p fn n,∀q∈x.loans,q.path.length<=2^30:=by
 unfold wsS
 cases ha:atS p fn n with
 |none=>simp
 |some v=>
  obtain⟨pi,st⟩:=pq ha
  have hg:=st.good
  exact⟨bV (eA _ _) hg.len,(List.filter_sublist.map _).nodup hg.nd,fun x hx=>hg.ll x (bQ.1 hx).1,fun x hx=>hg.lp x (bQ.1 hx).1⟩
theorem oW{a:List Vr}{k:Nat}(h:k<a.length):(a.map iJ)[k]?=some [S a[k].name,.sl 2 none (a[k].loans.map Pl.enc)]:=by simp[h,iJ]
section
variable {P:Program}{F:Ids}
theorem By(L:Lib P F){p:Pg}(hf:p.fit)(hpl:p.length<=2^20)(fn n:Int):bz P 12 [.agg (Pg.enc p),I fn,I n] .empty fun q H'=>q=.sl 2 none ((oV p fn n).map iJ)/\H'=.empty:=
 (z9 L hf hpl fn n).mono fun q H' h=>by rw[<-yM];exact h
end
structure lK(Q:Prop)(vs:List Vr):Prop where
 cl:∀x∈vs,x.dead=false->x.lent=true->∀q∈x.loans,dW vs q.name=false
 ap:∀x∈vs,∀y∈vs,x.name≠y.name->x.dead=false->x.lent=true->y.dead=false->y.lent=true->∀q∈x.loans,∀r∈y.loans,q.meet r=false
 pl:∀x∈vs,x.param=true->x.loans=[]/\x.dead=false/\(x.lent=true->Q)
 ne:∀x∈vs,x.lent=true->x.param=false->x.loans≠[]
def HInv(vs:List Vr)(held:List Pl):Prop:=∀h∈held,dW vs h.name=false/\∀x∈vs,x.dead=false->x.lent=true->∀q∈x.loans,q.meet h=false
structure Sc.G(Q:Prop)(v:Sc):Prop where
 ok:jU v.vars
 inv:lK Q v.vars
 held:v.lost=false->HInv v.vars v.held
theorem zh{a b:Pl}(h:a.meet b=true):a.name=b.name:=by
 unfold Pl.meet at h
 simp only[a6]at h
 exact of_decide_eq_true h.1
theorem yx(K:List ByteArray)(vs:List Vr)(n:ByteArray):dW (K.foldl gY vs) n=(dW vs n||K.any fun m=>eqB m n):=by
 rw[je]
 unfold dW
 rw[List.find?_map]
 have:((fun x:Vr=>eqB x.name n)∘fun x:Vr=>if K.any (fun m=>eqB m x.name)then {x with dead:=true}else x)=fun x=>eqB x.name n:=by
  funext x
  simp only[Function.comp]
  split<;>rfl
 rw[this]
 cases h:vs.find? (fun x=>eqB x.name n)with
 |none=>simp
 |some x=>
  have hx:x.name=n:=by have:=List.find?_some h;exact cN.1 this
  subst hx
  simp only[bK]
  cases hk:K.any (fun m=>eqB m x.name)<;>simp
theorem Bs{vs:List Vr}{n:ByteArray}(h:dW vs n=false):∃x∈vs,x.name=n/\x.dead=false:=by
 unfold dW at h
 split at h
 ·rename_i x hf
  exact⟨x,List.mem_of_find?_eq_some hf,by have:=List.find?_some hf;exact cN.1 this,h⟩
 ·simp at h
theorem Br{vs:List Vr}(hnd:(vs.map (·.name)).Nodup){x:Vr}(hx:x∈vs):dW vs x.name=x.dead:=by
 obtain⟨k,hk,rfl⟩:=aZ.1 hx
 unfold dW
 rw[pd hnd hk]
theorem xl{vs:List Vr}(hok:jU vs){p:Pl}:∀(i:Nat) (h:i<vs.length),vs[i].name∈bJ vs p->∀k (hk:k<vs.length),vs[k].name=p.name->k<i:=by
 intro i
 induction i using lM with
 |_ i ih=>
  intro h hm k hk hn
  obtain⟨-,-,q,hq,hq2⟩:=(j9 p vs hok i h).1 hm
  obtain⟨j,hj,e⟩:=hok.up i h q hq
  have hjl:j<vs.length:=by omega
  rw[aw hjl]at e
  simp at e
  rcases hq2 with h1|h1
  ·have h2:=zh h1
   have:j=k:=rm hok.nd hjl hk (by rw[e,h2,hn])
   omega
  ·rw[<-e]at h1
   have:=ih j hj hjl h1 k hk hn
   omega
theorem Bn{vs:List Vr}(hok:jU vs)(p:Pl):p.name∉bJ vs p:=by
 intro h
 obtain⟨i,hi,e⟩:=ls vs p h
 have:=xl hok i hi (by rw[e];exact h) i hi e
 omega
theorem wL{vs:List Vr}{p:Pl}(h:(eX vs p).2=0):dW vs p.name=false:=by
 unfold eX at h
 unfold dW
 cases hx:vs.find? (fun x=>eqB x.name p.name)with
 |none=>rw[hx]at h;simp at h
 |some x=>
  rw[hx]at h
  cases hd:x.dead with
  |false=>exact hd
  |true=>simp[hd]at h
theorem jO{K:List ByteArray}{vs:List Vr}{y:Vr}(h:y∈K.foldl gY vs)(hd:y.dead=false):y∈vs/\y.name∉K:=by
 rw[je]at h
 obtain⟨x,hx,e⟩:=aY.1 h
 split at e
 ·subst e;simp at hd
 ·rename_i hk
  subst e
  exact⟨hx,fun hm=>hk ((iW K x.name).2 hm)⟩
theorem pX{Q:Prop}{v:Sc}(h:v.G Q)(p:Pl):(v.use p).1.G Q/\((v.use p).2.2=0->HInv (v.use p).1.vars [p])/\((v.use p).1.lost=false->v.lost=false):=by
 unfold Sc.use
 by_cases hz:(eX v.vars p).2=0
 ·rw[if_pos hz]
  simp only
  have hp:=wL hz
  have hok':jU ((bJ v.vars p).foldl gY v.vars):=h.ok.core (lE _ _)
  have hdW:∀n,dW ((bJ v.vars p).foldl gY v.vars) n=(dW v.vars n||(bJ v.vars p).any fun m=>eqB m n):=yx _ _
  have keep:∀n,dW v.vars n=false->n∉bJ v.vars p->dW ((bJ v.vars p).foldl gY v.vars) n=false:=fun n h1 h2=>by
   rw[hdW,h1,df]
   cases hh:(bJ v.vars p).any fun m=>eqB m n with
   |false=>rfl
   |true=>exact absurd ((iW _ _).1 hh) h2
  have idx:∀x∈v.vars,x.dead=false->x.lent=true->x.name∉bJ v.vars p->∀q∈x.loans,q.meet p=false/\q.name∉bJ v.vars p:=by
   intro x hx hd hl hn q hq
   obtain⟨i,hi,rfl⟩:=aZ.1 hx
   have hno:¬_:=fun hc=>hn ((j9 p v.vars h.ok i hi).2 hc)
   refine⟨?_,fun hm=>hno ⟨hd,hl,q,hq,.inr hm⟩⟩
   cases hm:q.meet p with
   |false=>rfl
   |true=>exact absurd ⟨hd,hl,q,hq,.inl hm⟩ hno
  refine⟨⟨hok',⟨?_,?_,?_,?_⟩,?_⟩,fun _=>?_,fun hl=>?_⟩
  ·intro x hx hd hl q hq
   obtain⟨hx0,hn⟩:=jO hx hd
   exact keep _ (h.inv.cl x hx0 hd hl q hq) (idx x hx0 hd hl hn q hq).2
  ·intro x hx y hy hne hd hl hd2 hl2
   exact h.inv.ap x (jO hx hd).1 y (jO hy hd2).1 hne hd hl hd2 hl2
  ·intro x hx hpa
   have hx2:=hx
   rw[je]at hx
   obtain⟨y,hy,e⟩:=aY.1 hx
   split at e
   ·rename_i hk
    have hm:=(iW _ _).1 hk
    obtain⟨i,hi,rfl⟩:=aZ.1 hy
    obtain⟨-,-,q,hq,-⟩:=(j9 p v.vars h.ok i hi).1 hm
    subst e
    have:=(h.inv.pl _ hy hpa).1
    rw[this]at hq;simp at hq
   ·subst e;exact h.inv.pl _ hy hpa
  ·intro x hx hl hpa
   obtain⟨y,hy,-,e2,-,e4,e5⟩:=jt (lE _ _) hx
   rw[<-e2];exact h.inv.ne y hy (e4.trans hl) (e5.trans hpa)
  ·intro hlo q hq
   simp only[Bool.or_eq_false_iff]at hlo
   have hh:=h.held hlo.1 q hq
   have h2:=List.any_eq_false.1 hlo.2 q hq
   simp only[Bool.not_eq_true,Bool.or_eq_false_iff]at h2
   refine⟨keep _ hh.1 fun hm=>?_,fun x hx hd hl=>hh.2 x (jO hx hd).1 hd hl⟩
   have:=List.any_eq_false.1 h2.2 _ hm
   rw[dH]at this;simp at this
  ·intro q hq
   simp at hq;subst hq
   refine⟨keep _ hp (Bn h.ok _),fun x hx hd hl r hr=>?_⟩
   obtain⟨hx0,hn⟩:=jO hx hd
   exact(idx x hx0 hd hl hn r hr).1
  ·simp only[Bool.or_eq_false_iff]at hl
   exact hl.1
 ·rw[if_neg hz]
  exact⟨h,fun h0=>absurd h0 hz,id⟩
theorem rK{Q:Prop}:∀(e:Ex) {v:Sc},v.G Q->(v.expr e).1.G Q/\((v.expr e).1.lost=false->v.lost=false)
 |.mk k n p ks,v,h=>by
  rw[Sc.expr_eq]
  split
  ·exact⟨h,id⟩
  split
  ·exact⟨(pX h p).1,(pX h p).2.2⟩
  split
  ·rename_i a b r
   have h1:=rK a h
   have h2:=rK b h1.1
   split
   ·split
    ·split<;>exact⟨h2.1,fun hl=>h1.2 (h2.2 hl)⟩
    ·exact⟨h2.1,fun hl=>h1.2 (h2.2 hl)⟩
   ·exact h1
  ·exact⟨h,id⟩
termination_by x=>SizeOf.sizeOf x
theorem uO{Q:Prop}{v:Sc}(h:v.G Q)(e:Ex):(v.number e).1.G Q:=by rw[ee];exact(rK e h).1
theorem Be{Q:Prop}{vs:List Vr}{x:Vr}(h:lK Q vs)(hok:jU (vs++[x]))(hh:HInv vs x.loans)(hd:x.dead=false)(hp:x.param=false)(hne:x.lent=true->x.loans≠[]):lK Q (vs++[x]):=by
 have hnew:x.name∉vs.map (·.name):=by
  have:=hok.nd
  rw[bf,eD]at this
  intro hm
  exact this.2.2 _ hm x.name (by simp) rfl
 have hdW:∀n,dW vs n=false->dW (vs++[x]) n=false:=fun n hn=>by
  obtain⟨y,hy,rfl,hyd⟩:=Bs hn
  rw[Br hok.nd (List.mem_append_left _ hy)];exact hyd
 have split:∀y∈vs++[x],y∈vs\/y=x:=fun y hy=>by simpa using hy
 refine⟨fun y hy hyd hyl q hq=>?_,fun y hy z hz hn h1 h2 h3 h4 q hq r hr=>?_,fun y hy hyp=>?_,fun y hy hyl hyp=>?_⟩
 ·rcases split y hy with hy1|rfl
  ·exact hdW _ (h.cl y hy1 hyd hyl q hq)
  ·exact hdW _ (hh q hq).1
 ·rcases split y hy with hy1|rfl
  ·rcases split z hz with hz1|rfl
   ·exact h.ap y hy1 z hz1 hn h1 h2 h3 h4 q hq r hr
   ·exact(hh r hr).2 y hy1 h1 h2 q hq
  ·rcases split z hz with hz1|rfl
   ·rw[mj];exact(hh q hq).2 z hz1 h3 h4 r hr
   ·exact absurd rfl hn
 ·rcases split y hy with hy1|rfl
  ·exact h.pl y hy1 hyp
  ·rw[hp]at hyp;simp at hyp
 ·rcases split y hy with hy1|rfl
  ·exact h.ne y hy1 hyl hyp
  ·exact hne hyl
theorem nG{Q:Prop}{v:Sc}{x:Vr}(h:lK Q v.vars)(hz:(eC v x).2=0)(hok:jU (eC v x).1.vars)(hh:HInv v.vars x.loans)(hd:x.dead=false)(hp:x.param=false)(hne:x.lent=true->x.loans≠[]):lK Q (eC v x).1.vars:=by
 unfold eC at hz hok⊢
 split at hz
 ·simp at hz
 ·rename_i hc
  rw[if_neg hc]at hok⊢
  exact Be h hok hh hd hp hne
theorem BM{Q:Prop}:∀(zas:List Ag) (ps:List Pa) {v:Sc},v.G Q->zas.length=ps.length->(dO v zas ps).2=0->(dO v zas ps).1.G Q/\((v.held≠[]\/∃p∈ps,p.lent=true)->(dO v zas ps).1.held≠[])
 |[],[],v,h,_,_=>⟨h,fun hc=>by simpa[dO]using hc⟩
 |a::zas,p::ps,v,h,hl,hz=>by
  rw[dO]at hz⊢
  split at hz
  ·rename_i h0
   rw[if_pos h0]
   have key:(iL v a p).1.G Q/\((v.held≠[]\/p.lent=true)->(iL v a p).1.held≠[]):=by
    unfold iL at h0⊢
    split at h0
    ·simp at h0
    rename_i hc
    rw[if_neg hc]
    have hap:a.lent=p.lent:=by simpa using hc
    split at h0
    ·rename_i hal
     rw[if_pos hal]
     simp only at h0⊢
     have hu:=pX h a.place
     have hu0:(v.use a.place).2.2=0:=by
      split at h0
      ·assumption
      ·exact h0
     refine⟨⟨hu.1.ok,hu.1.inv,fun hlo q hq=>?_⟩,fun _=>by simp⟩
     rcases aF.1 hq with hq|hq
     ·exact hu.1.held hlo q hq
     ·exact hu.2.1 hu0 q hq
    ·rename_i hal
     rw[if_neg hal]
     refine⟨(rK a.expr h).1,fun hc=>?_⟩
     rcases hc with hc|hc
     ·rw[(Sc.expr_core a.expr v).2.2.1];exact hc
     ·rw[<-hap]at hc;exact absurd hc hal
   have ih:=BM zas ps key.1 (by simpa using hl) hz
   refine⟨ih.1,fun hc=>ih.2 ?_⟩
   rcases hc with hc|⟨q,hq,hql⟩
   ·exact .inl (key.2 (.inl hc))
   ·rcases be.1 hq with rfl|hq
    ·exact .inl (key.2 (.inr hql))
    ·exact .inr ⟨q,hq,hql⟩
  ·rename_i h0;exact absurd hz h0
 |[],p::ps,v,h,hl,_=>by simp at hl
 |a::zas,[],v,h,hl,_=>by simp at hl
def ml(p:List Fu):Prop:=∀f∈p,f.lent=true->∃x∈f.params,x.lent=true
theorem Bx{Q:Prop}{v:Sc}(h:v.G Q){n fn:ByteArray}{zas:List Ag}(hp:ml v.p)(hz:(gv v n fn zas).2=0)(hok:jU (gv v n fn zas).1.vars):lK Q (gv v n fn zas).1.vars:=by
 unfold gv at hz hok⊢
 split at hz
 ·simp at hz
 ·rename_i f hf
  rw[hf]at hok
  simp only at hok⊢
  split at hz
  ·rename_i hl
   rw[if_pos hl]at hok⊢
   split at hz
   ·rename_i h0
    rw[if_pos h0]at hok⊢
    have ha:=BM zas f.params h hl h0
    unfold gH at hz hok⊢
    split at hz
    ·simp at hz
    ·rename_i hlo
     rw[if_neg hlo]at hok⊢
     have hlo':(dO v zas f.params).1.lost=false:=by simpa using hlo
     refine nG ha.1.inv hz hok ?_ rfl rfl ?_
     ·intro q hq
      simp only at hq
      split at hq
      ·exact ha.1.held hlo' q hq
      ·simp at hq
     ·intro hfl
      simp only at hfl⊢
      rw[if_pos hfl]
      exact ha.2 (.inr (hp f (List.mem_of_find?_eq_some hf) hfl))
   ·rename_i h0;exact absurd hz h0
  ·simp at hz
theorem AI{Q:Prop}{v:Sc}(h:v.G Q){n:ByteArray}{p o:Pl}{e:Ex}(hz:(il v n p o e).2=0)(hok:jU (il v n p o e).1.vars):lK Q (il v n p o e).1.vars:=by
 unfold il at hz hok⊢
 split at hz
 ·rename_i h0
  rw[if_pos h0]at hok⊢
  have h1:=uO h e
  generalize(v.number e).1=v1 at*
  unfold jm at hz hok⊢
  split at hz
  ·rename_i h2
   rw[if_pos h2]at hok⊢
   have h3:=pX h1 p
   have h4:((v1.use p).1.hold1 p).G Q:=⟨h3.1.ok,h3.1.inv,fun _=>h3.2.1 h2⟩
   have h5:=pX h4 o
   unfold oR at hz hok⊢
   split at hz
   ·rename_i h6
    rw[if_pos h6]at hok⊢
    split at hz
    ·rename_i h7
     rw[if_pos h7]at hok⊢
     split at hz
     ·simp at hz
     ·rename_i h8
      rw[if_neg h8]at hok⊢
      have h8':(((v1.use p).1.hold1 p).use o).1.lost=false:=by simpa using h8
      refine nG (v:=(((v1.use p).1.hold1 p).use o).1.clear) h5.1.inv hz hok ?_ rfl rfl (fun _=>by simp)
      have hH:=h5.1.held h8'
      rw[(((v1.use p).1.hold1 p).use_core o).2.2.1]at hH
      intro q hq
      simp only[be,ce,or_false]at hq
      rcases hq with rfl|rfl
      ·exact hH q (by simp[Sc.hold1])
      ·exact h5.2.1 h6 q (by simp)
    ·simp at hz
   ·rename_i h6;exact absurd hz h6
  ·rename_i h2;exact absurd hz h2
 ·rename_i h0;exact absurd hz h0
theorem yn{vs ws:List Vr}(h:(ws.take vs.length).map Vr.core=vs.map Vr.core){x:Vr}(hx:x∈vs):∃y∈ws,y.core=x.core:=by
 have:x.core∈(ws.take vs.length).map Vr.core:=by rw[h];exact cu hx
 obtain⟨y,hy,e⟩:=aY.1 this
 exact⟨y,bC hy,e⟩
theorem Ba{Q:Prop}{vs zas bs:List Vr}(hv:lK Q vs)(hnd:(vs.map (·.name)).Nodup)(ha:lK Q zas)(na:(zas.map (·.name)).Nodup)(hb:lK Q bs)(nb:(bs.map (·.name)).Nodup)
(pa:(zas.take vs.length).map Vr.core=vs.map Vr.core)(pb:(bs.take vs.length).map Vr.core=vs.map Vr.core):lK Q (gu vs (vs.map (·.name)) [zas,bs]):=by
 have hcore:=ow vs (vs.map (·.name)) [zas,bs]
 obtain⟨L,e,hL⟩:=rx [zas,bs] (vs.map (·.name)) vs
 rw[e]at hcore⊢
 have one:∀ws,lK Q ws->(ws.map (·.name)).Nodup->(ws.take vs.length).map Vr.core=vs.map Vr.core->∀x∈vs,x.lent=true->dW ws x.name=false->∀q∈x.loans,dW ws q.name=false:=by
  intro ws hw nw pw x hx hl hd q hq
  obtain⟨y,hy,ey⟩:=yn pw hx
  have e1:y.name=x.name:=(congrArg Vr.name ey:y.core.name=x.core.name)
  have e2:y.lent=x.lent:=(congrArg Vr.lent ey:y.core.lent=x.core.lent)
  have e3:y.loans=x.loans:=(congrArg Vr.loans ey:y.core.loans=x.core.loans)
  rw[<-e1,Br nw hy]at hd
  exact hw.cl y hy hd (e2.trans hl) q (by rw[e3];exact hq)
 refine⟨fun x hx hd hl q hq=>?_,fun x hx y hy hne h1 h2 h3 h4=>hv.ap x (jO hx h1).1 y (jO hy h3).1 hne h1 h2 h3 h4,fun x hx hp=>?_,fun x hx hl hp=>?_⟩
 ·obtain⟨hx0,hn⟩:=jO hx hd
  have hno:∀w∈[zas,bs],dW w x.name=false:=fun w hw=>by
   cases h:dW w x.name with
   |false=>rfl
   |true=>exact absurd ((hL _).2 ⟨aY.2 ⟨x,hx0,rfl⟩,w,hw,h⟩) hn
  rw[yx,hv.cl x hx0 hd hl q hq,df]
  cases h:L.any fun m=>eqB m q.name with
  |false=>rfl
  |true=>
   exfalso
   obtain⟨-,w,hw,hd2⟩:=(hL _).1 ((iW _ _).1 h)
   have hxw:=hno w hw
   simp only[be,ce,or_false]at hw
   rcases hw with rfl|rfl
   ·rw[one _ ha na pa x hx0 hl hxw q hq]at hd2;simp at hd2
   ·rw[one _ hb nb pb x hx0 hl hxw q hq]at hd2;simp at hd2
 ·have hx2:=hx
  rw[je]at hx
  obtain⟨y,hy,e⟩:=aY.1 hx
  have hyp:y.param=true:=by split at e<;>subst e<;>exact hp
  have hvp:=hv.pl y hy hyp
  split at e
  ·rename_i hk
   exfalso
   obtain⟨-,w,hw,hd2⟩:=(hL _).1 ((iW _ _).1 hk)
   have two:∀ws,lK Q ws->(ws.map (·.name)).Nodup->(ws.take vs.length).map Vr.core=vs.map Vr.core->dW ws y.name=false:=by
    intro ws hw nw pw
    obtain⟨z,hz,ez⟩:=yn pw hy
    have e1:z.name=y.name:=(congrArg Vr.name ez:z.core.name=y.core.name)
    have e2:z.param=y.param:=(congrArg Vr.param ez:z.core.param=y.core.param)
    rw[<-e1,Br nw hz]
    exact(hw.pl z hz (e2.trans hyp)).2.1
   simp only[be,ce,or_false]at hw
   rcases hw with rfl|rfl
   ·rw[two _ ha na pa]at hd2;simp at hd2
   ·rw[two _ hb nb pb]at hd2;simp at hd2
  ·subst e;exact hvp
 ·obtain⟨y,hy,-,e2,-,e4,e5⟩:=jt hcore hx
  rw[<-e2];exact hv.ne y hy (e4.trans hl) (e5.trans hp)
def wi(Q:Prop)(d:Nat):Prop:=∀(l:List St),cd d l=true->∀{e:En} {u:Sc},Rel e u []->u.good->u.held=[]->(∀f∈u.p,f.type.okB=true)->ml u.p->u.vars.length+200*d<=2^30->lK Q u.vars->
 (u.stmts l).2=0->lK Q (u.stmts l).1.vars
theorem Ar{Q:Prop}{d:Nat}(ih:wi Q d){s:St}(hs:dh (cd d) s=true){e:En}{u:Sc}(h:Rel e u [])(hu:u.good)(hh:u.held=[])(hp:∀f∈u.p,f.type.okB=true)(hg:ml u.p)(hn:u.vars.length+200*d<=2^30)
(hi:lK Q u.vars)(hz:(u.stmt s).2=0):lK Q (u.stmt s).1.vars:=by
 have hr:jU (u.stmt s).1.vars:=by
  rcases qM (j3 d) hs h hu hh hp hn with⟨-,r⟩|⟨r,-⟩
  ·exact r.ok
  ·exact absurd hz r
 have hG:u.G Q:=⟨h.ok,hi,fun _ q hq=>by rw[hh]at hq;simp at hq⟩
 have hE:=rK s.expr hG
 rw[Sc.stmt_eq]at hz hr⊢
 rcases stW hs with⟨k,r,n,x⟩|⟨k,r,n,p⟩|⟨k,r,p,x⟩|⟨k,r,n,f,a⟩|⟨k,r,x,t,l⟩|⟨k,r,n,p,o,x⟩<;>simp only[k,bw,if_true,if_false]at hz hr⊢
 ·split at hz
  ·rename_i h0
   rw[if_pos h0]at hr⊢
   exact nG hE.1.inv hz hr (fun q hq=>by simp at hq) rfl rfl (fun h=>by simp at h)
  ·rename_i h0;exact absurd hz h0
 ·have hU:=pX hG s.place
  split at hz
  ·rename_i h0
   rw[if_pos h0]at hr⊢
   exact nG hU.1.inv hz hr (hU.2.1 h0) rfl rfl (fun _=>by simp)
  ·rename_i h0;exact absurd hz h0
 ·have hU:=pX hE.1 s.place
  split at hz
  ·rename_i h0
   rw[if_pos h0]
   exact hU.1.inv
  ·rename_i h0;exact absurd hz h0
 ·exact Bx hG hg hz hr
 ·rcases oq x h with⟨a1,T1,a2⟩|⟨a1,a2⟩
  ·rw[if_pos a1]at hz hr⊢
   have se:=jv hu hh s.expr
   have hN:=(uO hG s.expr).inv
   rw[<-ee]at se
   obtain rfl:=a2.nil se.held
   have hhi:=se.hi
   generalize(u.number s.expr).1=v at*
   generalize(e.expr s.expr).1.num (e.expr s.expr).2=w at*
   have hvp:∀f∈v.p,f.type.okB=true:=by rw[se.p];exact hp
   have hvg:ml v.p:=by rw[se.p];exact hg
   unfold Sc.ways mD at hz hr⊢
   have hA:=j3 d s.thn t a2 se.good se.held hvp (by omega)
   split at hz
   ·rename_i b1
    rw[if_pos b1]at hr⊢
    rcases hA with⟨-,b2⟩|⟨b2,-⟩
    ·have iA:=ih s.thn t a2 se.good se.held hvp hvg (by omega) hN b1
     have st:=fE d s.thn t v se.good se.held a2.lost0 hvp (by omega) b1
     obtain⟨g,hg'⟩:=st.giv
     have gg:Sc.good {v with given:=(v.stmts s.thn).1.given}:=by
      rw[hg']
      exact⟨fun y hy=>by simp only[fj,se.good.ok y hy,dY],se.good.nd,se.good.len,se.good.hl,se.good.hp,se.good.lp,se.good.ll,se.good.ty⟩
     have rB:Rel {w with names:=(w.body s.thn).names} {v with given:=(v.stmts s.thn).1.given} []:=⟨a2.vars,b2.names,a2.code,a2.p,a2.ok,a2.tmp,a2.lost,gg.ok⟩
     have hB:=j3 d s.els l rB gg se.held hvp (by show v.vars.length+_<=_;omega)
     split at hz
     ·rename_i c1
      rw[if_pos c1]at hr⊢
      rcases hB with⟨-,c2⟩|⟨c2,-⟩
      ·have iB:=ih s.els l rB gg se.held hvp hvg (by show v.vars.length+_<=_;omega) hN c1
       have st2:=fE d s.els l {v with given:=(v.stmts s.thn).1.given} gg se.held a2.lost0 hvp (by show v.vars.length+_<=_;omega) c1
       exact Ba hN a2.ok.nd iA b2.ok.nd iB c2.ok.nd st.pre st2.pre
      ·exact absurd c1 c2
     ·rename_i c1;exact absurd hz c1
    ·exact absurd b1 b2
   ·rename_i b1;exact absurd hz b1
  ·rw[if_neg a1]at hz;exact absurd hz a1
 ·exact AI hG hz hr
theorem yL(Q:Prop):∀d,wi Q d:=by
 intro d
 induction d with
 |zero=>intro l h;simp[cd]at h
 |succ d ih=>
  have many:∀l:List St,(∀s∈l,dh (cd d) s=true)->∀{e:En} {u:Sc},Rel e u []->u.good->u.held=[]->(∀f∈u.p,f.type.okB=true)->ml u.p->u.vars.length+l.length+200*d+150<=2^30->lK Q u.vars->
   (u.stmts l).2=0->lK Q (u.stmts l).1.vars:=by
   intro l
   induction l with
   |nil=>intro _ e u h _ _ _ _ _ hi _;rw[eM];exact hi
   |cons s l ihl=>
    intro hs e u h hu hh hp hg hn hi hz
    simp only[aU]at hn
    rw[dP]at hz⊢
    split at hz
    ·rename_i h0
     rw[if_pos h0]
     have hss:=hs s eO
     rcases qM (j3 d) hss h hu hh hp (by omega)with⟨-,r⟩|⟨r,-⟩
     ·have s1:=sV (d:=d) hss hu hh h.lost0 hp (by omega) h0
      have hhi:=s1.hi
      exact ihl (fun x hx=>hs x (dV _ hx)) r s1.good s1.held (by rw[s1.p];exact hp) (by rw[s1.p];exact hg) (by omega) (Ar ih hss h hu hh hp hg (by omega) hi h0) hz
     ·exact absurd h0 r
    ·rename_i h0;exact absurd hz h0
  intro l hl e u h hu hh hp hg hn hi hz
  simp only[cd,a6,decide_eq_true_eq,aV]at hl
  exact many l hl.2 h hu hh hp hg (by omega) hi hz
theorem rC:∀(ps:List Pa) (v:Sc),(cK v ps).2=0->(cK v ps).1.vars=v.vars++ps.map Pa.vr
 |[],v,_=>by simp[cK]
 |p::ps,v,hz=>by
  rw[cK]at hz⊢
  split at hz
  ·rename_i h0
   rw[if_pos h0,rC ps _ hz]
   have:(eC v p.vr).1.vars=v.vars++[p.vr]:=by
    unfold eC at h0⊢
    split at h0
    ·simp at h0
    ·rename_i hc;rw[if_neg hc]
   rw[this];simp
  ·rename_i h0;exact absurd hz h0
theorem wM(p:List Fu)(ps:List Pa)(hz:(cK (bi p) ps).2=0):lK (∃x∈ps,x.lent=true) (cK (bi p) ps).1.vars:=by
 have h:=rC ps _ hz
 simp only[bi,di]at h
 have key:∀x∈(cK (bi p) ps).1.vars,x.loans=[]/\x.dead=false/\x.param=true/\(x.lent=true->∃x∈ps,x.lent=true):=by
  intro x hx
  simp only[bi]at hx
  rw[h]at hx
  obtain⟨y,hy,rfl⟩:=aY.1 hx
  exact⟨rfl,rfl,rfl,fun hl=>⟨y,hy,hl⟩⟩
 exact⟨fun x hx _ _ q hq=>by rw[(key x hx).1]at hq;simp at hq,fun x hx y hy _ _ _ _ _ q hq=>by rw[(key x hx).1]at hq;simp at hq,fun x hx _=>⟨(key x hx).1,(key x hx).2.1,(key x hx).2.2.2⟩,fun x hx _ hp=>by rw[(key x hx).2.2.1]at hp;simp at hp⟩
theorem AK:∀(vs:List Vr),(∀x∈vs,x.lent=true->x.param=false->x.loans≠[])->∀n,fi vs n=true->∃x∈vs,x.param=true/\x.lent=true:=by
 intro vs
 induction vs using mK with
 |nil=>intro _ n h;simp[AL]at h
 |snoc vs x ih=>
  intro hne n h
  have ih':=ih fun y hy=>hne y (List.mem_append_left _ hy)
  rw[j5]at h
  split at h
  ·split at h
   ·rename_i hp
    exact⟨x,by simp,hp,h⟩
   ·rename_i hp
    have hp':x.param=false:=by simpa using hp
    simp only[a6,aV]at h
    obtain⟨q,hq⟩:=List.exists_mem_of_ne_nil _ (hne x (by simp) h.1 hp')
    obtain⟨y,hy,h2⟩:=ih' _ (h.2 q hq)
    exact⟨y,List.mem_append_left _ hy,h2⟩
  ·obtain⟨y,hy,h2⟩:=ih' _ h
   exact⟨y,List.mem_append_left _ hy,h2⟩
theorem vq{p:Pg}(hfine:iP p=true){i:Nat}(hi:i<p.length):jr (p.take i) p[i]=0:=by
 simp only[iP,a6]at hfine
 have h2:=hfine.2
 rw[Option.isNone_iff_eq_none]at h2
 unfold my at h2
 rw[List.find?_eq_none]at h2
 have:=h2 i (eN.2 hi)
 simp only[hZ,aw hi]at this
 simpa using this
theorem BK{p:Pg}(hfine:iP p=true){i:Nat}(hi:i<p.length)(hg:ml (p.take i))(m:Nat)(hz:(jg (p.take i) p[i] (p[i].body.take m)).2=0):(jg (p.take i) p[i] (p[i].body.take m)).1.G (∃x∈p[i].params,x.lent=true):=by
 have hfo:=nI hfine
 obtain⟨hpl,hpf⟩:=fk hfo
 have W:=hpf p[i] (ax hi)
 have hti:∀f∈p.take i,f.type.okB=true:=fun f hf=>(hpf f (bC hf)).type
 have hr0:Rel (⟨p,i,[],[],0⟩:En) (bi (p.take i)) []:=⟨rfl,rfl,rfl,rfl,⟨by simp[bi],by simp[bi],fun j hj=>by simp[bi]at hj⟩,⟨rfl,fun j hj=>by simp at hj,fun q hq=>by simp[bi]at hq⟩,rfl,fun y hy=>by simp[bi]at hy⟩
 unfold jg at hz⊢
 split at hz
 ·rename_i a1
  rw[if_pos a1]
  rcases ma p[i].params hr0 rfl W.params with⟨-,a2⟩|⟨a2,-⟩
  ·have st:=ix p[i].params (fT (p.take i)) rfl W.params (by have:=W.plen;simp[bi];omega) a1
   have hhi:=st.hi
   have hpl4:=W.plen
   have h00:(bi (p.take i)).vars.length=0:=rfl
   have hb:=lv W.body m
   have hiv:=yL _ 4 (p[i].body.take m) hb a2 st.good st.held (by rw[st.p];exact hti) (by rw[st.p];exact hg) (by omega) (wM _ _ a1) hz
   have s2:=fE 4 (p[i].body.take m) hb _ st.good st.held a2.lost0 (by rw[st.p];exact hti) (by omega) hz
   rcases j3 4 (p[i].body.take m) hb a2 st.good st.held (by rw[st.p];exact hti) (by omega)with⟨-,b2⟩|⟨b2,-⟩
   ·exact⟨b2.ok,hiv,fun _ q hq=>by rw[s2.held]at hq;simp at hq⟩
   ·exact absurd hz b2
  ·exact absurd a1 a2
 ·rename_i a1;exact absurd hz a1
theorem Bi{p:Pg}(hfine:iP p=true):∀i,i<=p.length->ml (p.take i):=by
 intro i
 induction i with
 |zero=>intro _ f hf;simp at hf
 |succ i ih=>
  intro hi
  have hi':i<p.length:=by omega
  have ih:=ih (by omega)
  rw[aA hi']
  intro f hf hl
  rcases aF.1 hf with hf|hf
  ·exact ih f hf hl
  ·simp at hf;subst hf
   have hc:=vq hfine hi'
   unfold jr at hc
   split at hc
   ·simp at hc
   split at hc
   ·rename_i a1
    split at hc
    ·rename_i b0
     have hb:jg (p.take i) p[i] (p[i].body.take p[i].body.length)=(cK (bi (p.take i)) p[i].params).1.stmts p[i].body:=by
      rw[aO];unfold jg;rw[if_pos a1]
     have hG:=BK hfine hi' ih p[i].body.length (by rw[hb];exact b0)
     rw[hb]at hG
     generalize((cK (bi (p.take i)) p[i].params).1.stmts p[i].body).1=v at*
     unfold sB pM at hc
     rw[if_pos hl]at hc
     have hU:=(pX hG p[i].gives).1
     split at hc
     ·split at hc
      ·split at hc
       ·simp at hc
       ·rename_i ho
        rw[hl,cb]at ho
        have ho':fi (v.use p[i].gives).1.vars p[i].gives.name=true:=by simpa using ho
        obtain⟨x,hx,hp,hxl⟩:=AK _ hU.inv.ne _ ho'
        exact(hU.inv.pl x hx hp).2.2 hxl
      ·simp at hc
     ·rename_i hc2;exact absurd hc hc2
    ·rename_i b0;exact absurd hc b0
   ·rename_i a1;exact absurd hc a1
theorem at_G{p:Pg}{fn n:Int}{v:Sc}(h:atS p fn n=some v):∃Q,v.G Q:=by
 obtain⟨i,m,hi,rfl,rfl,hm,hf,hz,rfl⟩:=y8 h
 exact⟨_,BK hf hi (Bi hf i (by omega)) m hz⟩
noncomputable def eV(p:Pg)(fn n:Int)(pl:Pl):List ByteArray:=match atS p fn n with|none=>[]|some v=>if pl.okB then bJ v.vars pl else []
theorem vz(p:Pl)(vs:List Vr)(hok:jU vs):(ej vs p).map (fun i=>((vs[i]?).map (·.name)).getD (bl []))=bJ vs p:=by
 have hT:qw vs [] []:=⟨rfl,fun i hi=>by simp at hi,fun q hq=>by simp at hq⟩
 have hmem:∀i,i<vs.length->(i∈ej vs p↔((vs[i]?).map (·.name)).getD (bl [])∈bJ vs p):=by
  intro i hi
  have h1:=pO (p:=p) hok hT i
  rw[cB]at h1
  rw[h1,aw hi]
  simp only[bK,Option.getD_some]
  rw[j9 p vs hok i hi]
  unfold InS
  simp only[cB]
  exact⟨fun⟨_,h⟩=>h,fun h=>⟨hi,h⟩⟩
 have e1:ej vs p=(dy vs.length).reverse.filter fun i=>(bJ vs p).any fun m=>eqB m (((vs[i]?).map (·.name)).getD (bl [])):=by
  classical
  unfold ej sC
  apply List.filter_congr
  intro i hi
  have hi':i<vs.length:=by simpa using hi
  have h2:=hmem i hi'
  unfold ej sC at h2
  rw[bQ]at h2
  simp only[hi,true_and,decide_eq_true_eq]at h2
  refine bg.2 ⟨fun h=>(iW _ _).2 (h2.1 (of_decide_eq_true h)),fun h=>decide_eq_true (h2.2 ((iW _ _).1 h))⟩
 rw[e1]
 clear e1 hmem hT
 induction vs using mK with
 |nil=>rfl
 |snoc vs x ih=>
  have ih:=ih hok.front
  have hnew:x.name∉vs.map (·.name):=by
   have:=hok.nd
   rw[bf,eD]at this
   intro hm
   exact this.2.2 _ hm x.name (by simp) rfl
  have hlast:(((vs++[x])[vs.length]?).map (·.name)).getD (bl [])=x.name:=by simp
  have hpre:∀i,i<vs.length->(vs++[x])[i]?=vs[i]?:=fun i hi=>by rw[aL hi]
  have hns:x.name∉bJ vs p:=fun h=>by
   obtain⟨i,hi,e⟩:=ls vs p h
   exact hnew (aY.2 ⟨vs[i],ax hi,e⟩)
  rw[bx,List.length_singleton,List.range_succ,List.reverse_append,List.reverse_singleton,List.singleton_append,List.filter_cons,hlast]
  have hrest:∀E:List ByteArray,(∀i,i<vs.length->(E.any fun m=>eqB m (((vs[i]?).map (·.name)).getD (bl [])))=((bJ vs p).any fun m=>eqB m (((vs[i]?).map (·.name)).getD (bl []))))->
   (((dy vs.length).reverse.filter fun i=>E.any fun m=>eqB m ((((vs++[x])[i]?).map (·.name)).getD (bl []))).map fun i=>(((vs++[x])[i]?).map (·.name)).getD (bl []))=bJ vs p:=by
   intro E hE
   have h1:((dy vs.length).reverse.filter fun i=>E.any fun m=>eqB m ((((vs++[x])[i]?).map (·.name)).getD (bl [])))=((dy vs.length).reverse.filter fun i=>(bJ vs p).any fun m=>eqB m (((vs[i]?).map (·.name)).getD (bl []))):=by
    apply List.filter_congr
    intro i hi
    have hi':i<vs.length:=by simpa using hi
    rw[hpre i hi',hE i hi']
   rw[h1]
   refine Eq.trans (ew fun i hi=>?_) ih
   have hi':i<vs.length:=by simpa using(bQ.1 hi).1
   rw[hpre i hi']
  by_cases hx:x.name∈bJ (vs++[x]) p
  ·rw[if_pos ((iW _ _).2 hx),aS,hlast]
   have he:bJ (vs++[x]) p=x.name::bJ vs p:=by
    have h2:=hx
    rw[iz]at h2⊢
    split at h2
    ·exact absurd h2 hns
    ·rename_i h0
     rw[if_neg h0]
     split at h2
     ·rename_i h1;rw[if_pos h1]
     ·exact absurd h2 hns
   rw[he]
   congr 1
   refine hrest _ fun i hi=>?_
   rw[List.any_cons,aw hi]
   simp only[bK,Option.getD_some]
   rw[cL.2 (fun e=>hnew (aY.2 ⟨vs[i],ax hi,e.symm⟩)),df]
  ·have hna:((bJ (vs++[x]) p).any fun m=>eqB m x.name)=false:=by
    cases ha:(bJ (vs++[x]) p).any fun m=>eqB m x.name with
    |false=>rfl
    |true=>exact absurd ((iW _ _).1 ha) hx
   rw[hna]
   simp only[av,if_false]
   have he:bJ (vs++[x]) p=bJ vs p:=by
    rw[iz]at hx⊢
    split
    ·rfl
    ·rename_i h0
     rw[if_neg h0]at hx
     split
     ·rename_i h1
      rw[if_pos h1]at hx
      exact absurd (eO) hx
     ·rfl
   rw[he]
   exact hrest _ fun i hi=>rfl
section
variable {P:Program}{F:Ids}{er:bZ}
theorem vR(L:Lib P F)(T:Tys F)(hC:eF P F er)(p:Pg)(hc:p.small)(fn n:Int)(pl:Pl)(hp:pl.path.length<=2^30)(H:aj)(he:eW F er H):
 bz P 20 [.agg (Pg.enc p),I fn,I n,.agg pl.enc] H fun q H'=>q=.sl 1 none (aB (eV p fn n pl))/\H'=H:=by
 refine(L.a Tryz.func20 y20) (by simp[y20]) ?_
 have hat:=fun H1 he1=>c_kAt (er:=er) L T hC p hc fn n H1 he1
 have hpf:=gx L pl
 simp only[Pg.enc]at hat
 simp only[Pl.enc]at hpf
 simp only[y20,go_sem,rE,rA,rL,Pg.enc,Pl.enc]
 intro b4 hb4 b7 hb7
 have d47:=al (ai _ _ _) hb7
 have hb7':H.get b7=none:=by rw[ae _ _ (Ne.symm d47)]at hb7;exact hb7
 have k3:∀c o,H.get c=some o->((H.set b4 (.cells [.sl 12 none (p.map Fu.enc)])).set b7 (.cells [S pl.name,au pl.path])).get c=some o:=fun c o hc=>by rw[ae _ _ (al hc hb7'),ae _ _ (al hc hb4)];exact hc
 have he3:eW F er ((H.set b4 (.cells [.sl 12 none (p.map Fu.enc)])).set b7 (.cells [S pl.name,au pl.path])):=fun c hc=>k3 _ _ (he c hc)
 have g4:((H.set b4 (.cells [.sl 12 none (p.map Fu.enc)])).set b7 (.cells [S pl.name,au pl.path])).get b4=_:=(ae _ _ d47).trans (ai _ _ _)
 have g7:=ai (H.set b4 (.cells [.sl 12 none (p.map Fu.enc)])) b7 (.cells [S pl.name,au pl.path])
 have e7:∀c,(c=2\/c=3\/c=4\/c=5)->b7≠F.err c:=fun c hc=>Ne.symm (al (he c hc) hb7')
 generalize(H.set b4 (.cells [.sl 12 none (p.map Fu.enc)])).set b7 (.cells [S pl.name,au pl.path])=H3 at*
 simp only[go_sem,rE,rA,rL,g4]
 refine dq (hat H3 he3) rfl (aj.sub_refl _) (fun h=>by simp at h) trivial ?_
 intro q H4 hr _
 rw[fB]
 cases ha:atS p fn n with
 |none=>
  rw[ha]at hr
  obtain⟨rfl,rfl⟩:=hr
  simp only[go_sem,rE,rA,rL,a7,aC]
  exact ak (.nil 1) (fun b o hb=>k3 b o hb) ⟨by simp only[eV,ha];rfl,rfl⟩
 |some v=>
  rw[ha]at hr
  obtain⟨s,ORD,HELD,m1,m2,rfl,hS,hR⟩:=hr
  obtain⟨pi,st⟩:=pq ha
  have hg:=st.good
  have g74:=(hR b7 _ g7 e7).1
  have hsub:H.sub H4:=fun b o hb=>hR.sub he3 hS b o (k3 b o hb)
  simp only[go_sem,rE,rA,rL,a7,aC,g74]
  refine ao hpf rfl ?_
  cases hok:pl.okB with
  |false=>
   simp only[go_sem,rE,rA,rL]
   exact ak (.nil 1) hsub ⟨by simp only[eV,ha,hok];rfl,rfl⟩
  |true=>
   simp only[go_sem,rE,rA,rL,g74]
   have hke:=y0 (F:=F) L s pl
   simp only[Pl.enc]at hke
   refine dq hke rfl (aj.sub_empty _) (fun h=>by simp at h) trivial ?_
   rintro q H7 ⟨b,c,hbc,rfl,rfl⟩ hnew
   rw[sU]
   have fb:=hnew b (by rw[ae _ _ hbc,ai];simp) rfl
   have fc:=hnew c (by rw[ai];simp) rfl
   have keep:∀(o o':cQ) d x,H4.get d=some x->((H4.set b o).set c o').get d=some x:=fun o o' d x hx=>by
    rw[ae _ _ (al hx fc),ae _ _ (al hx fb)];exact hx
   have hS7:∀o o',cF F er ((H4.set b o).set c o') s v ORD HELD m1 m2:=fun o o'=>hS.mono fun d hd=>by
    obtain⟨x,hx⟩:=aH.1 (hS.mem hd)
    rw[keep _ _ _ _ hx,hx]
   simp only[go_sem,rE,rA,rL]
   refine dq (hC ((H4.set b (.cells [.ptr s 0])).set c (.cells [S pl.name,au pl.path])) s v ORD HELD m1 m2 b c pl (hS7 _ _) hg.nd hg.len hp hg.lp hg.ll (by rw[ae _ _ hbc,ai]) (ai _ _ _)) rfl (aj.sub_refl _) (fun h=>by simp at h) trivial ?_
   rintro q H8 ⟨rfl,rfl⟩ -
   rw[fJ]
   simp only[go_sem,rE,rA,rL]
   exact ak (.refl _) (fun d o hd=>keep _ _ _ _ (hsub d o hd)) ⟨by simp only[eV,ha,hok];rfl,rfl⟩
theorem vH(L:Lib P F){p:Pg}(hf:p.fit)(hpl:p.length<=2^20)(fn n:Int)(pl:Pl)(hp:pl.path.length<=2^20):bz P 19 [.agg (Pg.enc p),I fn,I n,.agg pl.enc] .empty fun q H'=>q=.sl 1 none (aB (eV p fn n pl))/\H'=.empty:=by
 refine(L.a Tryz.func19 y19) (by simp[y19]) ?_
 have h4:=B5 L hf hpl fn n
 have hpf:=jC L pl
 simp only[Pg.enc]at h4
 simp only[Pl.enc]at hpf
 simp only[y19,go_sem,rE,rA,rL,Pg.enc,Pl.enc,az,ay,bh]
 intro b4 hb4 b7 hb7 b14 hb14
 have d47:=al (ai _ _ _) hb7
 have g4:((aj.empty.set b4 (.cells [.sl 12 none (p.map Fu.enc)])).set b7 (.cells [S pl.name,au pl.path])).get b4=_:=(ae _ _ d47).trans (ai _ _ _)
 have g7:=ai (aj.empty.set b4 (.cells [.sl 12 none (p.map Fu.enc)])) b7 (.cells [S pl.name,au pl.path])
 generalize(aj.empty.set b4 (.cells [.sl 12 none (p.map Fu.enc)])).set b7 (.cells [S pl.name,au pl.path])=H00 at*
 have g4:(H00.set b14 (.tail 0 0)).get b4=_:=(ae _ _ (al g4 hb14)).trans g4
 have g7:(H00.set b14 (.tail 0 0)).get b7=_:=(ae _ _ (al g7 hb14)).trans g7
 have gt:=ai H00 b14 (.tail 0 0)
 generalize H00.set b14 (.tail 0 0)=H0 at*
 clear hb4 hb7 hb14
 simp only[go_sem,rE,rA,rL,g4]
 refine dq h4 rfl (aj.sub_empty _) (by simp) trivial ?_
 intro q H1 hq hnew
 have hn1:∀c,H1.get c≠none->H0.get c=none:=fun c hc=>hnew c hc rfl
 have down:∀c o,H0.get c=some o->(H0.swap .empty H1).get c=some o/\H1.get c=none:=fun c o hc=>by
  have h1:H1.get c=none:=by
   cases h:H1.get c with
   |none=>rfl
   |some o=>have:=hn1 c (by rw[h];simp);rw[hc]at this;simp at this
  refine⟨?_,h1⟩
  rw[bA,h1];exact hc
 have up:∀c,H1.get c≠none->(H0.swap .empty H1).get c=H1.get c:=fun c hc=>by
  rw[bA]
  cases h:H1.get c with
  |none=>exact absurd h hc
  |some o=>rfl
 obtain⟨gt1,nt1⟩:=down _ _ gt
 obtain⟨g71,n71⟩:=down _ _ g7
 rcases xG p fn n with⟨ha,hs⟩|⟨u,v,ha,hs,hrel⟩
 ·rw[hs]at hq
  obtain⟨a,rfl,ga⟩:=hq
  generalize H0.swap .empty H1=H2 at*
  simp only[go_sem,rE,rA,rL]
  exact ak (.tok 1 _ _) (aj.sub_empty _) ⟨by simp only[eV,ha];rfl,rfl⟩
 ·rw[hs]at hq
  obtain⟨a,VS,NS,rfl,hE1,hok,hlo⟩:=hq
  have hE0:bE (H0.swap .empty H1) a v VS NS:=hE1.mono fun d hd=>up d (hE1.mem hd)
  have nt0:¬aP a VS NS b14:=fun h=>hE1.mem h nt1
  have n70:¬aP a VS NS b7:=fun h=>hE1.mem h n71
  have hvu:v.vars=u.vars:=by rw[hrel.vars,cB]
  have hnm:=vz pl v.vars (by rw[hvu];exact hrel.ok)
  generalize H0.swap .empty H1=H2 at*
  clear hE1 hn1 up down nt1 n71 hnew h4 hs
  simp only[go_sem,rE,rA,rL,g71]
  refine ao hpf rfl ?_
  cases hplo:pl.okB with
  |false=>
   simp only[go_sem,rE,rA,rL]
   exact ak (.tok 1 _ _) (aj.sub_empty _) ⟨by simp only[eV,ha,hplo];rfl,rfl⟩
  |true=>
  have hres:eV p fn n pl=(ej v.vars pl).map (fun i=>((v.vars[i]?).map (·.name)).getD (bl [])):=by simp only[eV,ha,hplo,if_true];rw[hnm,hvu]
  rw[hres]
  simp only[go_sem,rE,rA,rL,g71]
  refine bP (Bo L a v hok.len (fun x hx=>(hok.all x hx).1) pl hp) hE0 (by simp only[go_sem,rE,Pl.enc]) (.refl _) (fun h=>by simp at h) trivial ?_
  rintro q v1 VS1 NS1 H3 fp ⟨rfl,hv1⟩ hE3 hk3 -
  subst hv1
  obtain⟨gt3,nt3⟩:=hk3 _ _ gt1 nt0
  have hlt:=vA v1.vars pl
  have hle:(ej v1.vars pl).length<=v1.vars.length:=by
   unfold ej sC
   exact bV (eA _ _) (by simp)
  generalize ej v1.vars pl=LS at*
  have hlim:v1.vars.length<=LIM:=by have:=hok.len;simp[LIM];omega
  have hl20:=hok.len
  clear hE0 hk3 hres hnm
  simp only[go_sem,rE,rA,rL,fz]
  refine aQ LS.length (fun k E' H'=>bE H' a v1 VS1 NS1/\E' 10=.ptr a 0/\E' 12=.sl 1 none (bN LS)/\E' 13=I k/\bM H' 1 (aB ((LS.take k).map fun i=>((v1.vars[i]?).map (·.name)).getD (bl []))) (E' 9)/\∀c,co (E' 9) c->¬aP a VS1 NS1 c)
   ⟨hE3,rfl,rfl,rfl,.inr ⟨b14,0,0,rfl,gt3⟩,fun c ⟨_,_,_,_,e⟩=>by simp[fQ,ku]at e;obtain⟨-,⟨rfl,-⟩,-⟩:=e;exact nt3⟩ ?_
  rintro k E' H' hk ⟨hE,q10,q12,q13,qa,qt⟩
  have ho:=hE.obj
  simp only[dg]at ho
  simp only[go_sem,rE,rA,rL,q12,q13,fz]
  refine aE (fun hlt2=>?_) (fun hge=>?_)
  ·have hk1:k<LS.length:=by omega
   have w1:=aJ (n:=(k:Int)+1) (by omega) (by omega)
   have hi:=hlt _ (ax hk1)
   obtain⟨vb,vc,cs,rfl,hr⟩:=hE.vars.row hi
   have hsn:(LS.take (k+1)).map (fun i=>((v1.vars[i]?).map (·.name)).getD (bl []))=(LS.take k).map (fun i=>((v1.vars[i]?).map (·.name)).getD (bl []))++[v1.vars[LS[k]].name]:=by
    rw[aA hk1,bf,List.map_singleton,aw hi];rfl
   have hgk:=jd hk1
   have hin:(0:Int)<=(LS[k]:Int):=by omega
   have hg:=hr.get
   have hn:=hr.name
   clear hr
   generalize LS[k]=i at*
   have hii:(i:Int)<v1.vars.length:=by omega
   simp only[go_sem,rE,rA,rL,q10,q12,q13,ho,hgk,hlim,hii,hg,hn,az,aq,ay]
   refine dD (es:=aB ((LS.take k).map fun i=>((v1.vars[i]?).map (·.name)).getD (bl []))) (ys:=[[S v1.vars[i].name]]) (by simp only[go_sem,rE,rA,rL];exact qa) (by simp[go_sem,bh]) (by simp) (by simp[aB];omega) ?_
   intro x' H4 fp hx' hfp hkeep hnew
   simp only[go_sem,rE,rA,rL,q10,q12,q13,w1]at hkeep hnew⊢
   refine⟨hk1,H4,aj.sub_refl _,hE.mono fun d hd=>hkeep d (hE.mem hd) fun h=>qt d h hd,rfl,?_,fun c hc hb=>?_⟩
   ·rw[hsn,aB,bf];exact hx'
   ·rcases hnew c hc with h|h
    ·exact qt c h hb
    ·exact hE.mem hb h
  ·have hkk:k=LS.length:=by omega
   subst hkk
   rw[aO]at qa
   simp only[go_sem,rE,rA,rL]
   exact ak qa.le (aj.sub_empty _) ⟨rfl,rfl⟩
end
section
variable {P:Program}{F:Ids}
theorem xC(L:Lib P F)(r:Nat)(bs:List UInt8)(hbs:bs.length<=2000)(p:Int)(hp:0<=p)(hp2:p+20<=2^50):
 bz P 35 [.ptr r 0] (one r (RdO bs p)) (RdR r bs p 20 fun q=>∃pl:Pl,q=.agg pl.enc/\pl.path.length<=10):=by
 refine(L.a Tryz.func35 y35) (by simp[y35]) ?_
 simp only[y35,go_sem,rE,rA,rL,az,aq,ay,bh]
 intro b2 hb2 b6 hb6
 have hr2:r≠b2:=al (bI r (RdO bs p)) hb2
 have gr:((one r (RdO bs p)).set b2 (.cells [S (bl []),NIL])).get r=some (RdO bs p):=by rw[ae _ _ hr2,bI]
 have g2:((one r (RdO bs p)).set b2 (.cells [S (bl []),NIL])).get b2=some (.cells [S (bl []),NIL]):=ai _ _ _
 generalize(one r (RdO bs p)).set b2 (.cells [S (bl []),NIL])=H0 at*
 have gr:(H0.set b6 (.tail 6 6)).get r=_:=(ae _ _ (al gr hb6)).trans gr
 have g2:(H0.set b6 (.tail 6 6)).get b2=_:=(ae _ _ (al g2 hb6)).trans g2
 generalize H0.set b6 (.tail 6 6)=H1 at*
 clear hb2 hb6
 refine ba (zas:=[.ptr r 0,.sl 1 (some (b6,6,6)) (jl [bl [112],bl [113],bl [114],bl [97,98],bl [97,99],bl [97,100]])]) ((zA L r bs hbs [bl [112],bl [113],bl [114],bl [97,98],bl [97,99],bl [97,100]] (by simp) (by simp) p hp (by omega)).args ⟨.refl _,.tok _ _ _,trivial⟩) (rfl) gr (by simp) trivial ?_
 rintro q p1 hp1 hp1' ⟨s0,rfl⟩
 have g2:(H1.set r (RdO bs p1)).get b2=_:=(ae _ _ (Ne.symm hr2)).trans g2
 have gr:(H1.set r (RdO bs p1)).get r=_:=ai _ _ _
 generalize H1.set r (RdO bs p1)=H2 at*
 simp only[go_sem,rE,rA,rL]
 intro b3 hb3
 have hr3:=al gr hb3
 have d23:=al g2 hb3
 have gr:(H2.set b3 (.cells [S s0,NIL])).get r=_:=(ae _ _ hr3).trans gr
 have g2:(H2.set b3 (.cells [S s0,NIL])).get b2=_:=(ae _ _ d23).trans g2
 have g3:(H2.set b3 (.cells [S s0,NIL])).get b3=_:=ai _ _ _
 generalize H2.set b3 (.cells [S s0,NIL])=H3 at*
 clear hb3
 refine ba (cv L r bs p1 4 hbs (by omega) (by omega)) (rfl) gr (by simp) trivial ?_
 rintro q p2 hp12 hp12' ⟨m,rfl,hm0,hm4⟩
 have g2:(H3.set r (RdO bs p2)).get b2=_:=(ae _ _ (Ne.symm hr2)).trans g2
 have g3:(H3.set r (RdO bs p2)).get b3=_:=(ae _ _ (Ne.symm hr3)).trans g3
 have gr:(H3.set r (RdO bs p2)).get r=_:=ai _ _ _
 generalize H3.set r (RdO bs p2)=H4 at*
 have hch:∀a b:AC,bh 1 2 [a,b]=[[a],[b]]:=fun _ _=>rfl
 have hg0:∀a b:List AC,[a,b][Int.toNat 0]?=some a:=fun _ _=>rfl
 have hg1:∀a b:List AC,[a,b][Int.toNat 1]?=some b:=fun _ _=>rfl
 have h00:(0:Int)<=0:=cX _
 have h01:(0:Int)<=1:=by decide
 have fin:∀(E':Env) (H':aj) (s:ByteArray) (X:AC) (path:List Int) (p':Int),E' 2=.ptr b2 0->H'.get r=some (RdO bs p')->Le X (.sl 1 none (fK path))->path.length<=4->p<=p'->p'<=p+20->
  bm.post [.cell 2 (some 2)] (RdR r bs p 20 fun q=>∃pl:Pl,q=.agg pl.enc/\pl.path.length<=10) .ret E' (H'.set b2 (.cells [S s,X])):=by
  intro E' H' s X path p' e2 gr hX hpl h1 h2
  exact bT (off:=0) (q':=.agg (Pl.enc ⟨s,path⟩)) e2 (ai _ _ _) rfl (.agg ⟨⟨.refl _,rfl⟩,⟨hX,rfl⟩,trivial⟩) (eU (o:=RdO bs p') (by rw[ae _ _ hr2];exact gr)) ⟨p',h1,h2,rfl,⟨s,path⟩,rfl,by simp;omega⟩
 have d2r:=Ne.symm hr2
 simp only[go_sem,rE,rA,rL]
 refine wp_loop (fun n E H=>∃(k:Nat) (X:AC) (path:List Int) (p':Int),n=k/\path.length+k<=3/\E 0=.ptr r 0/\E 2=.ptr b2 0/\E 3=.ptr b3 0/\E 4=I k/\H.get r=some (RdO bs p')/\H.get b2=some (.cells [S (bl []),NIL])/\H.get b3=some (.cells [S s0,X])/\bM H 1 (fK path) X/\p<=p'/\p'+k<=p+10)
  m.toNat ⟨m.toNat,NIL,[],p2,rfl,by simp;omega,rfl,rfl,rfl,by simp only[go_sem,rE];rw[Int.toNat_of_nonneg hm0],gr,g2,g3,.inl ⟨rfl,rfl⟩,by omega,by omega⟩ ?_
 rintro k E H ⟨k',X,path,p',rfl,hpk,e0,e2,e3,e4,gr,g2,g3,hX,h1,h2⟩
 have bX:∀c cs,H.get c=some (.cells cs)->¬co X c:=fun c cs hc ht=>by obtain⟨n,m,e⟩:=hX.tok ht;rw[hc]at e;simp at e
 simp only[go_sem,rE,rA,rL,e4]
 refine aE (fun hgt=>?_) (fun hle=>?_)
 ·have hk0:0<k:=by omega
  have w1:=aJ (n:=(k:Int) - 1) (by omega) (by omega)
  simp only[go_sem,rE,rA,rL,e0,e3,g3]
  refine ba (cv L r bs p' 2 hbs (by omega) (by omega)) (rfl) gr (fun _=>⟨by omega,I 0,0,rfl,cX _,.inr rfl⟩) (by simp[dQ];exact fun h=>hr3 h.symm) ?_
  rintro q p3 hp3 hp3' ⟨j,rfl,hj0,hj1⟩
  have hXr:bM (H.set r (RdO bs p3)) 1 (fK path) X:=hX.mono fun c hc=>ae _ _ (by rintro rfl;exact bX _ _ gr hc)
  have g2r:(H.set r (RdO bs p3)).get b2=_:=(ae _ _ (Ne.symm hr2)).trans g2
  have g3r:(H.set r (RdO bs p3)).get b3=_:=(ae _ _ (Ne.symm hr3)).trans g3
  have grr:(H.set r (RdO bs p3)).get r=_:=ai _ _ _
  simp only[go_sem,rE,rA,rL,az,aq,ay]
  refine dD (es:=fK path) (ys:=[[I j]]) (by simp only[go_sem,rE,rA,rL];exact hXr) (by simp[go_sem,bh]) (by simp) (by simp[fK];omega) ?_
  intro x' H5 fp hx' hfp hkeep hnew
  simp only[go_sem,rE,rA,rL]at hkeep hnew
  have k2:=(hkeep b2 (by rw[g2r];simp) (bX _ _ g2)).trans g2r
  have k3:=(hkeep b3 (by rw[g3r];simp) (bX _ _ g3)).trans g3r
  have kr:=(hkeep r (by rw[grr];simp) (bX _ _ gr)).trans grr
  have nx:¬co x' b3:=fun h=>by
   rcases hnew b3 h with h|h
   ·exact bX _ _ g3 h
   ·rw[g3r]at h;simp at h
  simp only[go_sem,rE,rA,rL,e3,k3,hx'.one,e4,w1]
  refine⟨k - 1,by omega,_,aj.sub_refl _,k - 1,x',path++[j],p3,rfl,by simp;omega,e0,e2,by rw[show((k - 1:Nat):Int)=(k:Int) - 1 by omega],(ae _ _ hr3).trans kr,(ae _ _ d23).trans k2,ai _ _ _,?_,by omega,by omega⟩
  rw[<-lY]
  exact hx'.mono fun c hc=>ae _ _ (by rintro rfl;exact nx hc)
 ·have hk0:k=0:=by omega
  subst hk0
  simp only[go_sem,rE,rA,rL,e0]
  refine ba (cv L r bs p' 20 hbs (by omega) (by omega)) (rfl) gr (by simp) trivial ?_
  rintro q p3 hp3 hp3' ⟨j,rfl,hj0,hj1⟩
  have hXr:bM (H.set r (RdO bs p3)) 1 (fK path) X:=hX.mono fun c hc=>ae _ _ (by rintro rfl;exact bX _ _ gr hc)
  have g2:(H.set r (RdO bs p3)).get b2=_:=(ae _ _ (Ne.symm hr2)).trans g2
  have g3:(H.set r (RdO bs p3)).get b3=_:=(ae _ _ (Ne.symm hr3)).trans g3
  have gr:(H.set r (RdO bs p3)).get r=_:=ai _ _ _
  generalize H.set r (RdO bs p3)=H5 at*
  have bX:∀c cs,H5.get c=some (.cells cs)->¬co X c:=fun c cs hc ht=>by obtain⟨n,m,e⟩:=hXr.tok ht;rw[hc]at e;simp at e
  simp only[go_sem,rE,rA,rL]
  by_cases hj:j=0
  ·have hj':(j==0)=true:=by simpa using hj
   simp only[go_sem,rE,rA,rL,hj',e0,az,aq,ay,hch]
   intro b0 hb0
   have gr0:(H5.set b0 (.tail 2 2)).get r=_:=(ae _ _ (al gr hb0)).trans gr
   have g20:(H5.set b0 (.tail 2 2)).get b2=_:=(ae _ _ (al g2 hb0)).trans g2
   have g30:(H5.set b0 (.tail 2 2)).get b3=_:=(ae _ _ (al g3 hb0)).trans g3
   have hX0:=hXr.new hb0 (.tail 2 2)
   generalize H5.set b0 (.tail 2 2)=H6 at*
   have bX:∀c cs,H6.get c=some (.cells cs)->¬co X c:=fun c cs hc ht=>by obtain⟨n,m,e⟩:=hX0.tok ht;rw[hc]at e;simp at e
   refine ba (zas:=[.ptr r 0,.sl 1 (some (b0,2,2)) (jl [bl [],bl [80]])]) ((zA L r bs hbs [bl [],bl [80]] (by simp) (by simp) p3 (by omega) (by omega)).args ⟨.refl _,.tok _ _ _,trivial⟩) (rfl) gr0 (by simp) trivial ?_
   rintro q p4 hp4 hp4' ⟨s1,rfl⟩
   have g34:(H6.set r (RdO bs p4)).get b3=_:=(ae _ _ (Ne.symm hr3)).trans g30
   simp only[go_sem,rE,rA,rL,e2,e3,g34,g20,d23,d2r]
   exact fin _ _ s1 X path p4 e2 (by rw[ae _ _ hr3,ai]) hX0.le (by omega) (by omega) (by omega)
  have hj':(j==0)=false:=by simpa using hj
  by_cases hj2:j=1
  ·have hj2':(j==1)=true:=by simpa using hj2
   simp only[go_sem,rE,rA,rL,hj',hj2',e0,e3,g3,az,aq,ay,hch]
   refine ba (cv L r bs p3 2 hbs (by omega) (by omega)) (rfl) gr (fun _=>⟨by omega,I 0,0,rfl,cX _,.inr rfl⟩) (by simp[dQ];exact fun h=>hr3 h.symm) ?_
   rintro q p4 hp4 hp4' ⟨i,rfl,hi0,hi1⟩
   have hX4:bM (H5.set r (RdO bs p4)) 1 (fK path) X:=hXr.mono fun c hc=>ae _ _ (by rintro rfl;exact bX _ _ gr hc)
   have g24:(H5.set r (RdO bs p4)).get b2=_:=(ae _ _ (Ne.symm hr2)).trans g2
   have g34:(H5.set r (RdO bs p4)).get b3=_:=(ae _ _ (Ne.symm hr3)).trans g3
   have gr4:(H5.set r (RdO bs p4)).get r=_:=ai _ _ _
   obtain⟨z,hz⟩:∃z:Int,([[I (-1)],[I 2]]:List (List AC))[i.toNat]?=some [I z]:=by
    have:i=0\/i=1:=by omega
    rcases this with rfl|rfl
    ·exact⟨-1,rfl⟩
    ·exact⟨2,rfl⟩
   generalize H5.set r (RdO bs p4)=H6 at*
   have bX:∀c cs,H6.get c=some (.cells cs)->¬co X c:=fun c cs hc ht=>by obtain⟨n,m,e⟩:=hX4.tok ht;rw[hc]at e;simp at e
   simp only[go_sem,rE,rA,rL,hz,hi0,az,aq,ay]
   refine dD (es:=fK path) (ys:=[[I z]]) (by simp only[go_sem,rE,rA,rL];exact hX4) (by simp[go_sem,bh]) (by simp) (by simp[fK];omega) ?_
   intro x' H7 fp hx' hfp hkeep hnew
   simp only[go_sem,rE,rA,rL]at hkeep hnew
   have k2:=(hkeep b2 (by rw[g24];simp) (bX _ _ g24)).trans g24
   have k3:=(hkeep b3 (by rw[g34];simp) (bX _ _ g34)).trans g34
   have kr:=(hkeep r (by rw[gr4];simp) (bX _ _ gr4)).trans gr4
   have nx:¬co x' b3:=fun h=>by
    rcases hnew b3 h with h|h
    ·exact bX _ _ g34 h
    ·rw[g34]at h;simp at h
   simp only[go_sem,rE,rA,rL,e2,e3,k2,k3,d23,hx'.one]
   exact fin _ _ s0 x' (path++[z]) p4 e2 ((ae _ _ hr3).trans kr) (by rw[<-lY];exact hx'.le) (by simp;omega) (by omega) (by omega)
  have hj2':(j==1)=false:=by simpa using hj2
  simp only[go_sem,rE,rA,rL,hj',hj2',e2,e3,g2,g3]
  exact fin _ _ s0 X path p3 e2 gr hXr.le (by omega) (by omega) (by omega)
end
theorem zj(p:Pg)(fn n:Int):∀x∈(wsS p fn n).filter lq,x.loans≠[]/\∀q∈x.loans,q.name∈(wsS p fn n).map (·.name):=by
 intro x hx
 obtain⟨hx,hq⟩:=bQ.1 hx
 simp only[lq,a6,dC]at hq
 unfold wsS at hx⊢
 cases ha:atS p fn n with
 |none=>rw[ha]at hx;simp at hx
 |some v=>
  rw[ha]at hx
  simp only at hx⊢
  obtain⟨Q,hG⟩:=at_G ha
  obtain⟨hx,hd⟩:=bQ.1 hx
  have hd:x.dead=false:=by simpa using hd
  refine⟨hG.inv.ne x hx hq.1 hq.2,fun q hq2=>?_⟩
  obtain⟨y,hy,e,hyd⟩:=Bs (hG.inv.cl x hx hd hq.1 q hq2)
  exact aY.2 ⟨y,bQ.2 ⟨hy,by simp[hyd]⟩,e⟩
section
variable {P:Program}{F:Ids}{er:bZ}
end
theorem wI{E:Env}{H:aj}{n m k j r off r' off':Nat}{g g':Option Nat}{cs cs':List AC}{q q1 q' q1':AC}{R:AC->aj->Prop}(hE:E n=.ptr r off)(hg:H.get r=some (.cells cs))(hq:fM g cs off=some q)
(hl:Le q q1)(hE':E j=.ptr r' off')(hg':H.get r'=some (.cells cs'))(hq':fM g' cs' off'=some q')(hl':Le q' q1'){H':aj}(hs:H'.sub H)(h:R (.tup [q1,E m,E k,q1']) H'):bm.post [.cell n g,.slot m,.slot k,.cell j g'] R .ret E H:=
 ⟨.tup [q,E m,E k,q'],by simp only[kD,iI,jz.val,hE,hg,hq,hE',hg',hq'],_,H',.of (Le.tup (show LeA [q,E m,E k,q'] [q1,E m,E k,q1']from⟨hl,.refl _,.refl _,hl',trivial⟩)) hs,h⟩
theorem yN{p:Pg}(hf:p.fit){fn n:Int}{e:En}(h:iQ p fn n=some e):e.ok:=by
 unfold iQ at h
 split at h
 ·rename_i hc
  obtain⟨hfine,h0,h1⟩:=hc
  obtain⟨i,rfl⟩:=cx h0
  have hi:i<p.length:=by omega
  rw[dj,aw hi]at h
  simp only at h
  split at h
  ·rename_i hn
   obtain⟨m,rfl⟩:=cx hn.1
   rw[dj]at h
   simp only[Option.some.injEq]at h
   subst h
   have hfo:=nI hfine
   obtain⟨-,hw⟩:=fk hfo
   have W:=hw p[i] (ax hi)
   obtain⟨hp1,hcnt⟩:=hf.2 p[i] (ax hi)
   obtain⟨s1,s2,s3,s4,s5⟩:=pE hfo hi
   have hwp:=W.plen
   have hokS:∀f∈p,f.okS:=fun f hf=>(hw f hf).okS
   have hst:=lH 4 _ W.body
   have htk:=jA p[i].body m
   exact((En.stmt_step _).2 (p[i].body.take m) (aD _) (fun s hs=>(hst s (bC hs)).1) (cz p i) s1 (by omega) (by rw[s2];exact hokS)).ok
  ·simp at h
 ·simp at h
theorem ws_ok{p:Pg}(hf:p.fit)(fn n:Int):∀x∈wsS p fn n,x.loans.length<=2^20/\∀q∈x.loans,q.path.length<=2^20:=by
 intro x hx
 unfold wsS at hx
 rcases xG p fn n with⟨h1,h2⟩|⟨v,e,h1,h2,hr⟩
 ·rw[h1]at hx;simp at hx
 ·rw[h1]at hx
  have hm:=(bQ.1 hx).1
  have hok:=((yN hf h2).all x (by rw[hr.vars,cB];exact hm)).1
  exact⟨hok.loans,hok.paths⟩
theorem rU{P:Program}{F:Ids}(L:Lib P F)(bs:List UInt8)(hl:bs.length<=2^30):bz P 18 [.sl 1 none (fI bs)] .empty fun q H'=>H'=.empty/\∃(pr:Pg) (fn n:Int) (pl:Pl),q=.tup [.agg (Pg.enc pr),I fn,I n,.agg pl.enc]/\drawn 1 pr/\pl.path.length<=2^20:=by
 refine(L.a Tryz.func18 y18) (by simp[y18]) ?_
 simp only[y18,go_sem,rE,rA,rL]
 intro b2 hb2 b5 hb5
 have d25:=al (ai _ _ _) hb5
 have g2:((aj.empty.set b2 (.cells [NIL])).set b5 (.cells [S (bl []),NIL])).get b2=_:=(ae _ _ d25).trans (ai _ _ _)
 have g5:=ai (aj.empty.set b2 (.cells [NIL])) b5 (.cells [S (bl []),NIL])
 generalize(aj.empty.set b2 (.cells [NIL])).set b5 (.cells [S (bl []),NIL])=H0 at*
 clear hb2 hb5
 have h0:H0.only (fun _=>False)=.empty:=aj.ext fun b=>by rw[cq (by simp)];rfl
 have hc:=B4 L bs hl
 rw[<-h0]at hc
 refine gQ (fun _=>False) hc (rfl) (.refl _) (by simp) trivial ?_
 rintro q H' H1 ⟨r,bs',rfl,rfl,hbs'⟩ hsub hafter hnew -
 have gr:H1.get r=some (RdO bs' 0):=hsub _ _ (bI _ _)
 have g2:H1.get b2=some (.cells [NIL]):=by rw[hafter.out b2 (by simp) (by rw[g2];simp),g2]
 have g5:H1.get b5=some (.cells [S (bl []),NIL]):=by rw[hafter.out b5 (by simp) (by rw[g5];simp),g5]
 have hr2:r≠b2:=by rintro rfl;rw[gr]at g2;simp[RdO]at g2
 have hr5:r≠b5:=by rintro rfl;rw[gr]at g5;simp[RdO]at g5
 simp only[go_sem,rE,rA,rL]
 refine ba (zD L r bs' hbs' 0 (by omega) (by simp[FC])) (rfl) gr (by simp) trivial ?_
 rintro q p1 hp1 hp1' ⟨pr,fn,n,rfl,hd⟩
 simp only[FC]at hp1'
 have hfi:=hd.fit (by omega)
 have hpl:pr.length<=2^20:=by have:=hd.2.2;omega
 have g2:(H1.set r (RdO bs' p1)).get b2=_:=(ae _ _ (Ne.symm hr2)).trans g2
 have g5:(H1.set r (RdO bs' p1)).get b5=_:=(ae _ _ (Ne.symm hr5)).trans g5
 have gr:(H1.set r (RdO bs' p1)).get r=_:=ai _ _ _
 generalize H1.set r (RdO bs' p1)=H2 at*
 simp only[go_sem,rE,rA,rL,Pg.enc]
 intro b7 hb7
 have hr7:=al gr hb7
 have d27:=al g2 hb7
 have d57:=al g5 hb7
 have gr:(H2.set b7 (.cells [.sl 12 none (pr.map Fu.enc)])).get r=_:=(ae _ _ hr7).trans gr
 have g2:(H2.set b7 (.cells [.sl 12 none (pr.map Fu.enc)])).get b2=_:=(ae _ _ d27).trans g2
 have g5:(H2.set b7 (.cells [.sl 12 none (pr.map Fu.enc)])).get b5=_:=(ae _ _ d57).trans g5
 have g7:(H2.set b7 (.cells [.sl 12 none (pr.map Fu.enc)])).get b7=_:=ai _ _ _
 generalize H2.set b7 (.cells [.sl 12 none (pr.map Fu.enc)])=H3 at*
 clear hb7
 have hs:=By L hfi hpl fn n
 have hlv:=zj pr fn n
 have o1:=(wu pr fn n).1
 have ok:=ws_ok hfi fn n
 rw[vd]at hs
 simp only[Pg.enc]at hs
 have hll:=eA lq (wsS pr fn n)
 have hLl:((wsS pr fn n).filter lq).length<=2^30:=by omega
 have hL3:∀x∈(wsS pr fn n).filter lq,x.loans≠[]/\x.loans.length<=2^20/\∀q∈x.loans,q.path.length<=2^20:=fun x hx=>by
  have h1:=ok x (bQ.1 hx).1
  exact⟨(hlv x hx).1,h1.1,h1.2⟩
 generalize(wsS pr fn n).filter lq=LS at*
 clear hlv o1 ok hll
 refine dq hs (rfl) (aj.sub_empty _) (by simp) trivial ?_
 rintro q H' ⟨rfl,rfl⟩ -
 rw[gP]
 simp only[go_sem,rE,rA,rL,g7,am]
 have d72:=Ne.symm d27
 have d75:=Ne.symm d57
 have d52:=Ne.symm d25
 have fin:∀(E':Env) (H':aj) (pl:Pl) (X:AC),E' 2=.ptr b2 0->E' 3=I fn->E' 4=I n->E' 5=.ptr b5 0->Le X (au pl.path)->pl.path.length<=2^20->
  bm.post [.cell 2 (some 1),.slot 3,.slot 4,.cell 5 (some 2)] (fun q H'=>H'=.empty/\∃(pr:Pg) (fn n:Int) (pl:Pl),q=.tup [.agg [.sl 12 none (pr.map Fu.enc)],I fn,I n,.agg pl.enc]/\drawn 1 pr/\pl.path.length<=2^20) .ret E' ((H'.set b2 (.cells [.sl 12 none (pr.map Fu.enc)])).set b5 (.cells [S pl.name,X])):=by
  intro E' H' pl X e2 e3 e4 e5 hX hp
  exact wI (q1:=.agg [.sl 12 none (pr.map Fu.enc)]) (off:=0) (q1':=.agg pl.enc) (off':=0) e2 ((ae _ _ d25).trans (ai _ _ _)) rfl (.refl _) e5 (ai _ _ _) rfl (.agg ⟨⟨.refl _,rfl⟩,⟨hX,rfl⟩,trivial⟩) (aj.sub_empty _) ⟨rfl,pr,fn,n,pl,by rw[e3,e4],hd,hp⟩
 have d2r:=Ne.symm hr2
 have d5r:=Ne.symm hr5
 have d7r:=Ne.symm hr7
 have hlp:∀p':Int,0<=p'->p'+20<=2^50->bz P 35 [.ptr r 0] (one r (RdO bs' p')) (RdR r bs' p' 20 fun q=>∃pl:Pl,q=.agg pl.enc/\pl.path.length<=10):=fun p' h1 h2=>xC L r bs' hbs' p' h1 h2
 by_cases hL0:¬(LS.length:Int)>0
 ·simp only[go_sem,rE,rA,rL,hL0,decide_false]
  simp only[go_sem,rE,rA,rL,g7]
  refine ba (hlp p1 (by omega) (by omega)) (rfl) gr (fun _=>⟨by omega,_,⟨bl [],[]⟩,rfl,by simp⟩) (by simp[dQ];exact fun h=>hr7 h.symm) ?_
  rintro q p2 hp2 hp2' ⟨pl,rfl,hpp⟩
  simp only[go_sem,rE,rA,rL,g2,g5,d25,d52,d2r,d5r,Pl.enc]
  exact fin _ _ pl _ rfl rfl rfl rfl (.refl _) (by omega)
 have hL0:=Decidable.not_not.1 hL0
 have w0:=hL0
 simp only[go_sem,rE,rA,rL,hL0,decide_true]
 refine ba (cv L r bs' p1 5 hbs' (by omega) (by omega)) (rfl) gr (by simp) trivial ?_
 rintro q p2 hp2 hp2' ⟨k,rfl,hk0,hk1⟩
 have g2:(H3.set r (RdO bs' p2)).get b2=_:=(ae _ _ d2r).trans g2
 have g5:(H3.set r (RdO bs' p2)).get b5=_:=(ae _ _ d5r).trans g5
 have g7:(H3.set r (RdO bs' p2)).get b7=_:=(ae _ _ d7r).trans g7
 have gr:(H3.set r (RdO bs' p2)).get r=_:=ai _ _ _
 generalize H3.set r (RdO bs' p2)=H4 at*
 by_cases hk:¬k>0
 ·simp only[go_sem,rE,rA,rL,hk,decide_false,g7]
  refine ba (hlp p2 (by omega) (by omega)) (rfl) gr (fun _=>⟨by omega,_,⟨bl [],[]⟩,rfl,by simp⟩) (by simp[dQ];exact fun h=>hr7 h.symm) ?_
  rintro q p3 hp3 hp3' ⟨pl,rfl,hpp⟩
  simp only[go_sem,rE,rA,rL,g2,g5,d25,d52,d2r,d5r,Pl.enc]
  exact fin _ _ pl _ rfl rfl rfl rfl (.refl _) (by omega)
 have hk:=Decidable.not_not.1 hk
 simp only[go_sem,rE,rA,rL,hk,decide_true,am]
 refine ba (cv L r bs' p2 LS.length hbs' (by omega) (by omega)) (rfl) gr (by simp) trivial ?_
 rintro q p3 hp3 hp3' ⟨i,rfl,hi0,hi1⟩
 obtain⟨i,rfl⟩:=cx hi0
 have hi:i<LS.length:=by omega
 have hgx:=oW hi
 obtain⟨hne,hln,hlpath⟩:=hL3 _ (ax hi)
 generalize LS[i]=x at*
 have g2:(H4.set r (RdO bs' p3)).get b2=_:=(ae _ _ d2r).trans g2
 have g5:(H4.set r (RdO bs' p3)).get b5=_:=(ae _ _ d5r).trans g5
 have g7:(H4.set r (RdO bs' p3)).get b7=_:=(ae _ _ d7r).trans g7
 have gr:(H4.set r (RdO bs' p3)).get r=_:=ai _ _ _
 generalize H4.set r (RdO bs' p3)=H5 at*
 simp only[go_sem,rE,rA,rL,hgx]
 intro b11 hb11
 have d11r:=Ne.symm (al gr hb11)
 have g2:=fun o=>(ae H5 o (al g2 hb11)).trans g2
 have g5:=fun o=>(ae H5 o (al g5 hb11)).trans g5
 have g7:=fun o=>(ae H5 o (al g7 hb11)).trans g7
 have gr:=fun o=>(ae H5 o (al gr hb11)).trans gr
 simp only[go_sem,rE,rA,rL,am]
 have g2:=g2 (.cells [S x.name,.sl 2 none (x.loans.map Pl.enc)])
 have g5:=g5 (.cells [S x.name,.sl 2 none (x.loans.map Pl.enc)])
 have g7:=g7 (.cells [S x.name,.sl 2 none (x.loans.map Pl.enc)])
 have gr:=gr (.cells [S x.name,.sl 2 none (x.loans.map Pl.enc)])
 have g11:=ai H5 b11 (.cells [S x.name,.sl 2 none (x.loans.map Pl.enc)])
 generalize H5.set b11 (.cells [S x.name,.sl 2 none (x.loans.map Pl.enc)])=H6 at*
 refine ba (cv L r bs' p3 x.loans.length hbs' (by omega) (by omega)) (rfl) gr (fun _=>⟨by omega,I 0,0,rfl,cX _,.inr rfl⟩) (by simp[dQ];exact d11r) ?_
 rintro q p4 hp4 hp4' ⟨j,rfl,hj0,hj1⟩
 obtain⟨j,rfl⟩:=cx hj0
 have hxl:0<x.loans.length:=List.length_pos_iff.2 hne
 have hj:j<x.loans.length:=by omega
 have hgy:(x.loans.map Pl.enc)[j]?=some [S x.loans[j].name,au x.loans[j].path]:=by simp[hj,Pl.enc]
 have hyp:=hlpath _ (ax hj)
 generalize x.loans[j]=y at*
 have g2:(H6.set r (RdO bs' p4)).get b2=_:=(ae _ _ d2r).trans g2
 have g5:(H6.set r (RdO bs' p4)).get b5=_:=(ae _ _ d5r).trans g5
 have g7:(H6.set r (RdO bs' p4)).get b7=_:=(ae _ _ d7r).trans g7
 have gr:(H6.set r (RdO bs' p4)).get r=_:=ai _ _ _
 generalize H6.set r (RdO bs' p4)=H7 at*
 clear g11 hb11 d11r
 simp only[go_sem,rE,rA,rL,hgy]
 intro b12 hb12
 have d2:=al g2 hb12
 have d5:=al g5 hb12
 have d7:=al g7 hb12
 have dr:=al gr hb12
 have g2:=fun o=>(ae H7 o d2).trans g2
 have g5:=fun o=>(ae H7 o d5).trans g5
 have g7:=fun o=>(ae H7 o d7).trans g7
 have gr:=fun o=>(ae H7 o dr).trans gr
 have g2:=g2 (.cells [S y.name,au y.path])
 have g5:=g5 (.cells [S y.name,au y.path])
 have g7:=g7 (.cells [S y.name,au y.path])
 have gr:=gr (.cells [S y.name,au y.path])
 have g12:=ai H7 b12 (.cells [S y.name,au y.path])
 generalize H7.set b12 (.cells [S y.name,au y.path])=H8 at*
 refine ba (cv L r bs' p4 3 hbs' (by omega) (by omega)) (rfl) gr (by simp) trivial ?_
 rintro q p5 hp5 hp5' ⟨z,rfl,hz0,hz1⟩
 have g2:(H8.set r (RdO bs' p5)).get b2=_:=(ae _ _ d2r).trans g2
 have g5:(H8.set r (RdO bs' p5)).get b5=_:=(ae _ _ d5r).trans g5
 have g7:(H8.set r (RdO bs' p5)).get b7=_:=(ae _ _ d7r).trans g7
 have g12:(H8.set r (RdO bs' p5)).get b12=_:=(ae _ _ (Ne.symm dr)).trans g12
 generalize H8.set r (RdO bs' p5)=H9 at*
 simp only[go_sem,rE,rA,rL]
 have d12:=Ne.symm d2
 by_cases hz:z=0
 ·have hz':(z==0)=true:=by simpa using hz
  simp only[go_sem,rE,rA,rL,hz',g12,g2,g5,g7,d2,d5,d7,d25,d52,d12]
  exact⟨by simp[d12],fin _ _ ⟨y.name,[]⟩ NIL rfl rfl rfl rfl (.nil 1) (by simp)⟩
 ·have hz':(z==0)=false:=by simpa using hz
  simp only[go_sem,rE,rA,rL,hz',g12,g2,g5,g7,d25,d52,d12]
  exact⟨by simp[d12],fin _ _ y _ rfl rfl rfl rfl (.refl _) hyp⟩
theorem xk(p:Pl):∀vs:List Vr,jU vs->∀x∈vs,x.dead=false->x.lent=true->∀q∈x.loans,∀m,(h:m<(bJ vs p).length)->(bJ vs p)[m]=q.name->x.name∈(bJ vs p).take m:=by
 intro vs
 induction vs using mK with
 |nil=>intro _ x hx;simp at hx
 |snoc vs y ih=>
  intro hok x hx hd hl q hq m h he
  have ih:=ih hok.front
  have hnd:=hok.nd
  rw[bf,eD]at hnd
  have hynew:y.name∉vs.map (·.name):=fun hm=>hnd.2.2 _ hm y.name (by simp) rfl
  have hqin:q.name∈vs.map (·.name):=by
   obtain⟨i,hi,rfl⟩:=aZ.1 hx
   obtain⟨j,hj,e⟩:=hok.up i hi q hq
   rw[bx,List.length_singleton]at hi
   have hjl:j<vs.length:=by omega
   rw[aL hjl,aw hjl]at e
   simp at e
   exact aY.2 ⟨vs[j],ax hjl,e⟩
  have hqy:q.name≠y.name:=fun e=>hynew (e▸hqin)
  have old:∀m',(h':m'<(bJ vs p).length)->(bJ vs p)[m']=q.name->x∈vs->x.name∈(bJ vs p).take m':=fun m' h' e' hxv=>ih x hxv hd hl q hq m' h' e'
  have hmem:=ax h
  rw[he]at hmem
  rcases aF.1 hx with hxv|hxy
  ·by_cases hc:bJ (vs++[y]) p=bJ vs p
   ·simp only[hc]at h he⊢
    exact old m h he hxv
   ·have hc2:bJ (vs++[y]) p=y.name::bJ vs p:=by
     rw[iz]at hc⊢
     split
     ·rename_i h1;rw[if_pos h1]at hc;exact absurd rfl hc
     ·rename_i h1
      rw[if_neg h1]at hc
      split
      ·rfl
      ·rename_i h2;rw[if_neg h2]at hc;exact absurd rfl hc
    simp only[hc2]at h he⊢
    cases m with
    |zero=>simp at he;exact absurd he.symm hqy
    |succ m=>
     simp at he h⊢
     exact .inr (old m h he hxv)
  ·simp at hxy
   subst hxy
   have hqe:q.name∈bJ vs p:=by
    rw[iz]at hmem
    split at hmem
    ·exact hmem
    ·split at hmem
     ·rcases be.1 hmem with e|e
      ·exact absurd e hqy
      ·exact e
     ·exact hmem
   have hc2:bJ (vs++[x]) p=x.name::bJ vs p:=by
    rw[iz,if_neg (by simp[hd,hl]),if_pos]
    refine fo.2 ⟨q,hq,?_⟩
    rw[(iW _ _).2 hqe,Bool.or_true]
   simp only[hc2]at h he⊢
   cases m with
   |zero=>simp at he;exact absurd he.symm hqy
   |succ m=>simp
theorem zo(p:Pg)(fn n:Int)(pl:Pl):(eV p fn n pl).length<=2^30/\∀x∈(wsS p fn n).filter lq,∀q∈x.loans,∀m,(h:m<(eV p fn n pl).length)->(eV p fn n pl)[m]=q.name->x.name∈(eV p fn n pl).take m:=by
 unfold eV wsS
 cases ha:atS p fn n with
 |none=>simp
 |some v=>
  simp only
  obtain⟨Q,hG⟩:=at_G ha
  obtain⟨pi,st⟩:=pq ha
  split
  ·refine⟨?_,fun x hx q hq m h he=>?_⟩
   ·have:=(jf pl v.vars [] (v.vars.map (·.name)) (by simp) fun x hx=>aY.2 ⟨x,hx,rfl⟩).2
    simp only[bR,cy]at this
    exact bV this st.good.len
   ·obtain⟨hx,hlq⟩:=bQ.1 hx
    obtain⟨hx,hd⟩:=bQ.1 hx
    simp only[lq,a6]at hlq
    exact xk pl v.vars hG.ok x hx (by simpa using hd) hlq.1 q hq m h he
  ·simp
section
variable {P:Program}{F:Ids}{er:bZ}
theorem ue(L:Lib P F)(T:Tys F)(hC:eF P F er){n:FuncId}(hfit:Fits P n (y7.1))(a:List UInt8)(H:aj)(he:eW F er H):bz P n [.sl 1 none (fI a)] H fun q H'=>q=B true/\eW F er H':=by
 refine hfit (by simp[y7]) ?_
 have fin:∀(E':Env) (H':aj),E' 2=B true->eW F er H'->bm.post [.slot 2] (fun q H'=>q=B true/\eW F er H') .ret E' H':=fun E' H' h1 h2=>ak (by rw[h1];exact .refl _) (aj.sub_refl _) ⟨rfl,h2⟩
 have la:(fI a).length=a.length:=by simp[fI]
 simp only[y7,go_sem,rE,rA,rL,la]
 by_cases h1:(a.length:Int)>1048576
 ·simp only[go_sem,rE,rA,rL,h1,decide_true]
  exact fin _ _ (rfl) he
 simp only[go_sem,rE,rA,rL,h1,decide_false]
 refine dq (rU L a (by omega)) (rfl) (aj.sub_empty _) (by simp) trivial ?_
 rintro q H' ⟨rfl,p,fn,m,pl,rfl,hd,hplp⟩ -
 rw[gP]
 have hfi:=hd.fit (by omega)
 have hpl:p.length<=2^20:=by have:=hd.2.2;omega
 simp only[go_sem,rE,rA,rL,Pg.enc,Pl.enc]
 intro b3 hb3 b6 hb6
 have d36:=al (ai _ _ _) hb6
 have hb6':H.get b6=none:=by rw[ae _ _ (Ne.symm d36)]at hb6;exact hb6
 have g3:((((H.set b3 (.cells [NIL])).set b6 (.cells [S (bl []),NIL])).set b3 (.cells [.sl 12 none (p.map Fu.enc)])).set b6 (.cells [S pl.name,au pl.path])).get b3=_:=(ae _ _ d36).trans (ai _ _ _)
 have g6:((((H.set b3 (.cells [NIL])).set b6 (.cells [S (bl []),NIL])).set b3 (.cells [.sl 12 none (p.map Fu.enc)])).set b6 (.cells [S pl.name,au pl.path])).get b6=_:=ai _ _ _
 have he3:eW F er ((((H.set b3 (.cells [NIL])).set b6 (.cells [S (bl []),NIL])).set b3 (.cells [.sl 12 none (p.map Fu.enc)])).set b6 (.cells [S pl.name,au pl.path])):=fun c hc=>by
  have h3:=al (he c hc) hb3
  have h6:=al (he c hc) hb6'
  rw[ae _ _ h6,ae _ _ h3,ae _ _ h6,ae _ _ h3];exact he c hc
 simp only[go_sem,rE,rA,rL,d36,Ne.symm d36]
 generalize((((H.set b3 (.cells [NIL])).set b6 (.cells [S (bl []),NIL])).set b3 (.cells [.sl 12 none (p.map Fu.enc)])).set b6 (.cells [S pl.name,au pl.path]))=H1 at*
 have hs:=vH L hfi hpl fn m pl hplp
 have hi:=vR L T hC p hfi.1 fn m pl (by omega) H1 he3
 have hv:=zQ L T hC p hfi.1 fn m H1 he3
 simp only[Pg.enc,Pl.enc]at hs hi hv
 rw[vd]at hv
 obtain⟨f2,f3⟩:=zo p fn m pl
 have o1:=(wu p fn m).1
 have o3:∀x∈(wsS p fn m).filter lq,x.loans.length<=2^30:=fun x hx=>(wu p fn m).2.2.1 x (bQ.1 hx).1
 have hll:=eA lq (wsS p fn m)
 have hLl:((wsS p fn m).filter lq).length<=2^30:=by omega
 clear hll o1
 generalize(wsS p fn m).filter lq=LS at*
 generalize eV p fn m pl=EN at*
 refine dq hs (rfl) (aj.sub_empty _) (by simp) trivial ?_
 rintro q H' ⟨rfl,rfl⟩ -
 rw[gP]
 simp only[go_sem,rE,rA,rL,g3,g6]
 refine dq hi (rfl) (aj.sub_refl _) (by simp) trivial ?_
 rintro q H' ⟨rfl,rfl⟩ -
 rw[fJ]
 simp only[go_sem,rE,rA,rL]
 refine ao (zC L EN f2) (rfl) ?_
 simp only[go_sem,rE,rA,rL,g3]
 refine dq hv (rfl) (aj.sub_refl _) (by simp) trivial ?_
 rintro q H' ⟨rfl,rfl⟩ -
 rw[fJ]
 have hlen:(aB EN).length=EN.length:=by simp[aB]
 simp only[go_sem,rE,rA,rL]
 refine aQ LS.length (fun k E' H'=>E' 8=.sl 1 none (aB EN)/\E' 9=.sl 2 none (LS.map iJ)/\E' 10=I k/\eW F er H') ⟨rfl,rfl,rfl,he3⟩ ?_
 rintro i E1 H2 hil ⟨q8,q9,q10,he4⟩
 simp only[go_sem,rE,rA,rL,q9,q10,am]
 refine aE (fun hlt=>?_) (fun hge=>?_)
 ·have hi1:i<LS.length:=by omega
  have w1:=aJ (n:=(i:Int)+1) (by omega) (by omega)
  have hgx:=oW hi1
  have hx3:=o3 _ (ax hi1)
  have hf:=f3 _ (ax hi1)
  generalize LS[i]=x at*
  simp only[go_sem,rE,rA,rL]
  refine aQ x.loans.length (fun k E' H'=>E' 8=.sl 1 none (aB EN)/\E' 9=.sl 2 none (LS.map iJ)/\E' 10=I i/\E' 11=I k/\eW F er H') ⟨q8,q9,q10,rfl,he4⟩ ?_
  clear q8 q9 q10 he4
  rintro k E2 H2 hkl ⟨q8,q9,q10,q11,he4⟩
  simp only[go_sem,rE,rA,rL,q9,q10,q11,hgx,am]
  refine aE (fun hlt2=>?_) (fun hge2=>?_)
  ·have hk1:k<x.loans.length:=by omega
   have w2:=aJ (n:=(k:Int)+1) (by omega) (by omega)
   have hgp:(x.loans.map Pl.enc)[k]?=some [S x.loans[k].name,au x.loans[k].path]:=by simp[hk1,Pl.enc]
   have hf:=hf _ (ax hk1)
   generalize x.loans[k]=y at*
   simp only[go_sem,rE,rA,rL]
   refine aQ EN.length (fun m E' H'=>E' 8=.sl 1 none (aB EN)/\E' 9=.sl 2 none (LS.map iJ)/\E' 10=I i/\E' 11=I k/\E' 12=I m/\eW F er H') ⟨q8,q9,q10,q11,rfl,he4⟩ ?_
   clear q8 q9 q10 q11 he4
   rintro m E3 H3 hml ⟨q8,q9,q10,q11,q12,he4⟩
   simp only[go_sem,rE,rA,rL,q8,q12,hlen]
   refine aE (fun hlt3=>?_) (fun hge3=>?_)
   ·have hm1:m<EN.length:=by omega
    have w3:=aJ (n:=(m:Int)+1) (by omega) (by omega)
    have hge:=lV hm1
    have hf:=hf m hm1
    cases hq:eqB y.name EN[m]with
    |false=>
     simp only[go_sem,rE,rA,rL,q8,q9,q10,q11,q12,hgx,hgp,hge,dk,hq,w3]
     exact⟨hm1,H3,aj.sub_refl _,rfl,he4⟩
    |true=>
     have hin:=hf (cN.1 hq).symm
     have hfo:((EN.take m).any fun n=>eqB n x.name)=true:=fo.2 ⟨_,hin,dH _⟩
     have hsl:0<=m/\m<=EN.length:=⟨by omega,by omega⟩
     have htk:(aB EN).take m=aB (EN.take m):=by simp[aB]
     simp only[go_sem,rE,rA,rL,q8,q9,q10,q11,q12,hgx,hgp,hge,dk,hq,hlen,hsl,and_self,htk]
     refine ao (c_lhHas L (EN.take m) x.name (by rw[bp];omega)) (rfl) ?_
     simp only[go_sem,rE,rA,rL,q8,q9,q10,q11,q12,hfo,w3]
     exact⟨hm1,H3,aj.sub_refl _,rfl,he4⟩
   ·simp only[go_sem,rE,rA,rL,q8,q9,q10,q11,w2]
    exact⟨hk1,H3,aj.sub_refl _,rfl,he4⟩
  ·simp only[go_sem,rE,rA,rL,q8,q9,q10,w1]
   exact⟨hi1,H2,aj.sub_refl _,rfl,he4⟩
 ·simp only[go_sem,rE,rA,rL]
  exact fin _ _ (rfl) he4
end
end Go.Xl
