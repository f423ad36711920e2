/- FnCheckLive: a part of the proof. -/
import Derived.Test.YtemecjmcicmnbaaGreatDoorX5
set_option linter.unusedVariables false
set_option linter.unusedSimpArgs false
namespace Go.Xl
open _root_.Array renaming getElem?_eq_some_iff -> dc
open _root_.Bool renaming false_eq_true -> ap, true_or -> dZ
open _root_.Int renaming natCast_zero -> cW
open _root_.List renaming any_append -> fy, any_eq_true -> fJ, eq_nil_of_length_eq_zero -> bu, flatten_cons -> aq, flatten_nil -> az, getElem?_cons_zero -> a7, getElem_map -> gX, getElem_mem -> ay, length_append -> bq, length_cons -> aV, length_filter_le -> ix, length_map -> am, length_nil -> bP, length_take -> bk, map_cons -> aS, map_nil -> bv, mem_iff_getElem -> bj, mem_map -> aY, mem_of_mem_take -> bJ, replicate -> ax, take_length -> aU, take_succ_eq_append_getElem -> aA
open _root_.Nat renaming reduceEqDiff -> rE, reduceAdd -> rA, reduceLeDiff -> rL, le_trans -> bZ, zero_add -> cj
open _root_.Option renaming map_some -> ce
theorem rP(ns:List ByteArray)(n:ByteArray):nK (cJ ns) n (I 1)=cJ (n::ns):=by
 funext k
 by_cases hk:k=n
 ·subst hk;rw[iW];simp[cJ,dE]
 ·rw[lC _ _ hk]
  have:eqB n k=false:=cE.2 (Ne.symm hk)
  simp[cJ,this]
theorem yC(ns:List ByteArray)(n:ByteArray):cJ (n::n::ns)=cJ (n::ns):=by
 funext k
 simp only[cJ,List.any_cons]
 by_cases h:eqB n k=true<;>simp[h]
theorem tk(ns:List ByteArray)(n:ByteArray):iE (.lit (.int .i64 0)) false (cJ ns n)=I (if ns.any (fun m=>eqB m n)then 1 else 0):=by
 unfold cJ
 cases ns.any fun m=>eqB m n<;>simp[iE]
def ken1(F:bS):aX:=.loop (.seq (rg [pu 0 41 (.bin .lss 40 39)]) (.seq (.cond 41 .skip (.exit 2)) (.seq (.block 3 (.seq (rg [ia 0 42 2 38 40,ld 1 43 (some 2) 42,ef 2 10 (.alloc [.string (bl []),.slice none 0 0]),en 3 (.store 2 10 43)]) (.seq (rg [ld 0 44 (some 2) 10,ld 1 45 (some 2) 2,ca 2 46 F.i_placesMeet [44,45],mv 3 47 46,gp 4 48 47 false (.move 4),gp 5 49 47 false (.fieldAddr 0 10),gl 6 50 47 false none 49,⟨7,some 51,some (47,false),.eff (.callX (.lookup (.lit (.int .i64 0)) false) [48,50]),[]⟩,gp 8 52 47 false (.bin .gtr 51 (ci 0)),pu 9 53 (.pick 47 ct 52)]) (.cond 53 (rg [mv 0 54 4,mv 1 55 7,en 2 (.callX .mapSet [54,55,ci 1])]) .skip)))) (rg [pu 0 56 (.bin .add 40 (ci 1)),mv 1 40 56]))))
def wi(F:bS):aX:=.seq (rg [ld 0 14 none 1,nc 1 15 14,fa 2 16 1 15,ld 3 17 none 16,pu 4 18 (.lenSl 17),mv 5 19 (ci 0)]) (.block 0 (.loop (.seq (rg [pu 0 20 (.bin .lss 19 18)]) (.seq (.cond 20 .skip (.exit 0)) (.seq (.block 1 (.seq (rg [ia 0 21 1 17 19,ld 1 22 none 21,mv 2 7 22]) (.seq (rg [ld 0 23 none 1,nc 1 24 23,fa 2 25 2 24,ld 3 26 none 25,mv 4 27 7,ef 5 28 (.callX (.lookup (.agg [.lit (.slice none 0 0),.lit (.bool false),.lit (.bool false),.lit (.bool false),.lit (.bool false),.lit (.slice none 0 0)]) false) [26,27]),ef 6 8 (.alloc [.slice none 0 0,.bool false,.bool false,.bool false,.bool false,.slice none 0 0]),en 7 (.store 6 8 28)]) (.seq (.seq (rg [fa 0 29 3 8,ld 1 30 none 29,pu 2 31 (.not 30),mv 3 32 31,gp 4 33 32 false (.fieldAddr 2 8),gl 5 34 32 false none 33,gp 6 35 32 false (.not 34),pu 7 36 (.pick 32 ct 35)]) (.cond 36 (.exit 1) .skip)) (.seq (.seq (rg [fa 0 37 5 8,ld 1 38 none 37,pu 2 39 (.lenSl 38),mv 3 40 (ci 0)]) (.block 2 (ken1 F))) (.seq (rg [mv 0 57 4,mv 1 58 7,ef 2 59 (.callX (.lookup (.lit (.int .i64 0)) false) [57,58]),pu 3 60 (.bin .gtr 59 (ci 0))]) (.cond 60 (rg [mv 0 61 5,mv 1 62 7,⟨2,some 63,none,.lits 1 1 [.string (bl [])] [(0,(1,62))],[]⟩,ef 3 64 (.appendM 1 16 61 63),mv 4 5 64]) .skip))))))) (rg [pu 0 65 (.bin .add 19 (ci 1)),mv 1 19 65]))))))
section
variable {P:Program}{F:bS}{er:bW}
noncomputable def lr(p:Pl)(Es:List ByteArray)(qs:List Pl):Bool:=qs.any fun q=>q.meet p||Es.any fun m=>eqB m q.name
theorem ken1_wp(L:eC P F){K:cL->Env->aj->Prop}{E:Env}{H:aj}{p:Pl}{qs:List Pl}{nm:ByteArray}{Es:List ByteArray}{mo c:Nat}(hp:p.path.length<=2^30)(hq:∀q∈qs,q.path.length<=2^30)(hql:qs.length<=2^30)
(e2:E 2=.ptr c 0)(e4:E 4=.mp mo)(e7:E 7=S nm)(e38:E 38=.sl 2 none (qs.map Pl.enc))(e39:E 39=I qs.length)(e40:E 40=I 0)(gc:H.get c=some (.cells [S p.name,au p.path]))(gm:H.get mo=some (.map (cJ Es)))
(hK:∀E' H',E' 0=E 0->E' 1=E 1->E' 2=E 2->E' 3=E 3->E' 4=E 4->E' 5=E 5->E' 7=E 7->E' 17=E 17->E' 18=E 18->E' 19=E 19->H'.get mo=some (.map (cJ (if lr p Es qs then nm::Es else Es)))->
  (∀d o,H.get d=some o->d≠mo->H'.get d=some o)->K (.exit 2) E' H'):(ken1 F).wp P K E H:=by
 unfold ken1
 have dcm:c≠mo:=by rintro rfl;rw[gc]at gm;simp at gm
 refine aT qs.length (fun j E' H'=>(E' 0=E 0/\E' 1=E 1/\E' 2=.ptr c 0/\E' 3=E 3/\E' 4=.mp mo/\E' 5=E 5/\E' 7=S nm/\E' 17=E 17/\E' 18=E 18/\E' 19=E 19)/\E' 38=.sl 2 none (qs.map Pl.enc)/\E' 39=I qs.length/\E' 40=I j/\
  H'.get mo=some (.map (cJ (if lr p Es (qs.take j)then nm::Es else Es)))/\∀d o,H.get d=some o->d≠mo->H'.get d=some o)
  ⟨⟨rfl,rfl,e2,rfl,e4,rfl,e7,rfl,rfl,rfl⟩,e38,e39,e40,by simp only[List.take_zero,lr,List.any_nil,ap,if_false];exact gm,fun _ _ h _=>h⟩ ?_
 rintro j E' H' hj ⟨⟨q0,q1,q2,q3,q4,q5,q7,q17,q18,q19⟩,q38,q39,q40,gmo,kk⟩
 simp only[go_sem,rE,rA,rL,q39,q40]
 refine aG (fun hlt=>?_) (fun hge=>?_)
 ·have hj1:j<qs.length:=by omega
  have w1:=aL (n:=(j:Int)+1) (by omega) (by omega)
  have hg:=qC (ps:=qs) (k:=j) hj1
  have gc':=kk c _ gc dcm
  have hmt:=zK L qs[j] p (bZ (hq _ (ay hj1)) (by decide)) (bZ hp (by decide))
  rw[Pl.enc,Pl.enc]at hmt
  have hsnoc:lr p Es (qs.take (j+1))=(lr p Es (qs.take j)||(qs[j].meet p||Es.any fun m=>eqB m qs[j].name)):=by
   unfold lr
   rw[aA hj1,fy]
   simp
  simp only[go_sem,rE,rA,rL,q38,q40,hg]
  intro b10 hb10
  have d10:=al gc' hb10
  have d10m:=al gmo hb10
  have kk10:∀(o':cK) d o,H.get d=some o->d≠mo->(H'.set b10 o').get d=some o:=fun o' d o hd hdm=>by
   have:=kk d o hd hdm
   rw[ae _ _ (al this hb10)];exact this
  simp only[go_sem,rE,rA,rL,q2,gc',d10]
  refine ao hmt rfl ?_
  have gmb:∀o',(H'.set b10 o').get mo=some (.map (cJ (if lr p Es (qs.take j)then nm::Es else Es))):=fun o'=>(ae _ _ d10m).trans gmo
  have hset:cJ (nm::if lr p Es (qs.take j)then nm::Es else Es)=cJ (nm::Es):=by
   cases lr p Es (qs.take j)
   ·rfl
   ·exact yC Es nm
  have h10:decide ((1:Int)>0)=true:=by decide
  have h00:decide ((0:Int)>0)=false:=by decide
  cases hm:qs[j].meet p
  ·simp only[go_sem,rE,rA,rL,q4]
   refine fG (k:=qs[j].name) (g:=cJ (if lr p Es (qs.take j)then nm::Es else Es)) (by simp only[go_sem,rE,aS,bv,q4]) (gmb _) trivial ?_
   rw[tk]
   by_cases hx:((if lr p Es (qs.take j)then nm::Es else Es).any fun m=>eqB m qs[j].name)=true
   ·have hh:lr p Es (qs.take (j+1))=true:=by
     rw[hsnoc,hm]
     cases hc:lr p Es (qs.take j)
     ·rw[hc]at hx
      simpa using hx
     ·rfl
    rw[hh,if_pos rfl]
    simp only[hx,if_true]
    simp only[go_sem,rE,rA,rL,q4,q7,h10]
    refine lg (k:=nm) (v:=I 1) (v':=I 1) (g:=cJ (if lr p Es (qs.take j)then nm::Es else Es)) (by simp only[go_sem,rE,aS,bv,q4,q7]) (.refl _) (gmb _) trivial ?_
    rw[rP,hset]
    simp only[go_sem,rE,rA,rL,q40,w1]
    exact⟨hj1,_,aj.sub_refl _,⟨q0,q1,q2,q3,q4,q5,q7,q17,q18,q19⟩,q38,q39,rfl,ai _ _ _,fun d o hd hdm=>by rw[ae _ _ hdm];exact kk10 _ d o hd hdm⟩
   ·have hh:lr p Es (qs.take (j+1))=lr p Es (qs.take j):=by
     rw[hsnoc,hm]
     cases hc:lr p Es (qs.take j)
     ·rw[hc]at hx
      simpa using hx
     ·rfl
    rw[hh]
    have hx':((if lr p Es (qs.take j)then nm::Es else Es).any fun m=>eqB m qs[j].name)=false:=by simpa using hx
    simp only[hx',ap,if_false]
    simp only[go_sem,rE,rA,rL,q4,q7,q40,w1,h00]
    exact⟨hj1,_,aj.sub_refl _,⟨q0,q1,q2,q3,q5,q17,q18,q19⟩,q38,q39,rfl,gmb _,kk10 _⟩
  ·have hh:lr p Es (qs.take (j+1))=true:=by rw[hsnoc,hm];simp
   rw[hh,if_pos rfl]
   simp only[go_sem,rE,rA,rL,q4,q7]
   refine lg (k:=nm) (v:=I 1) (v':=I 1) (g:=cJ (if lr p Es (qs.take j)then nm::Es else Es)) (by simp only[go_sem,rE,aS,bv,q4,q7]) (.refl _) (gmb _) trivial ?_
   rw[rP,hset]
   simp only[go_sem,rE,rA,rL,q40,w1]
   exact⟨hj1,_,aj.sub_refl _,⟨q0,q1,q2,q3,q4,q5,q7,q17,q18,q19⟩,q38,q39,rfl,ai _ _ _,fun d o hd hdm=>by rw[ae _ _ hdm];exact kk10 _ d o hd hdm⟩
 ·have hjj:j=qs.length:=by omega
  subst hjj
  rw[aU]at gmo
  simp only[go_sem,rE,rA,rL]
  exact hK _ _ (by simp only[go_sem,rE,q0]) (by simp only[go_sem,rE,q1]) (by simp only[go_sem,rE,q2,e2]) (by simp only[go_sem,rE,q3]) (by simp only[go_sem,rE,q4,e4]) (by simp only[go_sem,rE,q5]) (by simp only[go_sem,rE,q7,e7]) (by simp only[go_sem,rE,q17]) (by simp only[go_sem,rE,q18]) (by simp only[go_sem,rE,q19]) gmo kk
end
section
variable {P:Program}{F:bS}{er:bW}
theorem ea3_wp(L:eC P F){K:Env->aj->Prop}{E:Env}{H:aj}{s:Nat}{v:Sc}{ORD HELD:AC}{m1 m2 b c mo:Nat}{p:Pl}(hE:cy F er H s v ORD HELD m1 m2)(hnd:(v.vars.map (·.name)).Nodup)(hvl:v.vars.length<=2^30)(hp:p.path.length<=2^30)
(hqp:∀x∈v.vars,∀q∈x.loans,q.path.length<=2^30)(hql:∀x∈v.vars,x.loans.length<=2^30)(gb:H.get b=some (.cells [.ptr s 0]))(gc:H.get c=some (.cells [S p.name,au p.path]))(gm:H.get mo=some (.map fun _=>none))(hms:mo≠m1)
(e1:E 1=.ptr b 0)(e2:E 2=.ptr c 0)(e4:E 4=.mp mo)(e5:E 5=NIL)
(hK:∀E' H',E' 0=E 0->E' 3=E 3->bR H' 1 (a9 (cz v.vars p).reverse) (E' 5)->(∀d o,H.get d=some o->d≠mo->H'.get d=some o)->(∀d,cG (E' 5) d->H.get d=none)->K E' H'):
 (wi F).wp P (fun ex E' H'=>ex=.normal/\K E' H') E H:=by
 have ho:=hE.obj
 simp only[ScO]at ho
 have hlen:(a9 (v.vars.map (·.name))).length=v.vars.length:=by simp[a9]
 rcases hE.ord with⟨hnil,hO⟩|⟨ob,on,om,hO,hob⟩
 ·have hv:v.vars=[]:=by rw[hnil]at hlen;exact bu hlen.symm
  subst hO
  simp only[wi,go_sem,rE,rA,rL,e1,gb,ho,a7]
  refine aT 0 (fun k E' H'=>E' 0=E 0/\E' 3=E 3/\E' 5=NIL/\E' 18=I 0/\E' 19=I k/\H'=H) ⟨rfl,rfl,e5,rfl,rfl,rfl⟩ ?_
  rintro k E' H' hk ⟨q0,q3,q5,q18,q19,rfl⟩
  have:k=0:=by omega
  subst this
  simp only[go_sem,rE,rA,rL,q18,q19,cW,Int.lt_irrefl]
  refine hK _ _ (by simp only[go_sem,rE,q0]) (by simp only[go_sem,rE,q3]) ?_ (fun d o hd _=>hd) ?_
  ·simp only[go_sem,rE,q5,hv];exact .inl ⟨rfl,rfl⟩
  ·simp only[go_sem,rE,q5];rintro d ⟨_,_,_,_,e⟩;simp at e
 ·subst hO
  have hms':∀d o,H.get d=some o->(∀f,o≠.map f)->d≠mo:=fun d o hd hn=>by rintro rfl;rw[gm]at hd;simp at hd;exact hn _ hd.symm
  have dbm:=hms' b _ gb (by simp)
  have dcm:=hms' c _ gc (by simp)
  have dsm:=hms' s _ ho (by simp)
  simp only[wi,go_sem,rE,rA,rL,e1,gb,ho,a7,hlen]
  refine aT v.vars.length (fun k E' H'=>(E' 0=E 0/\E' 3=E 3)/\E' 1=.ptr b 0/\E' 2=.ptr c 0/\E' 4=.mp mo/\E' 17=.sl 1 (some (ob,on,om)) (a9 (v.vars.map (·.name)))/\E' 18=I v.vars.length/\E' 19=I k/\
   bR H' 1 (a9 (cz (v.vars.take k) p).reverse) (E' 5)/\H'.get mo=some (.map (cJ (cz (v.vars.take k) p)))/\(∀d o,H.get d=some o->d≠mo->H'.get d=some o)/\∀d,cG (E' 5) d->H.get d=none)
   ⟨⟨rfl,rfl⟩,e1,e2,e4,rfl,rfl,rfl,by simp only[go_sem,rE,e5];exact .inl ⟨rfl,rfl⟩,by rw[gm];simp only[List.take_zero,cz,List.foldl_nil,tv],fun d o hd _=>hd,by simp only[go_sem,rE,e5];rintro d ⟨_,_,_,_,e⟩;simp at e⟩ ?_
  rintro k E' H' hk ⟨⟨q0,q3⟩,q1,q2,q4,q17,q18,q19,qa,qm,kk,kt⟩
  simp only[go_sem,rE,rA,rL,q18,q19]
  refine aG (fun hlt=>?_) (fun hge=>?_)
  ·have hk1:k<v.vars.length:=by omega
   have w1:=aL (n:=(k:Int)+1) (by omega) (by omega)
   have hg:=mf (ns:=v.vars.map (·.name)) (k:=k) (by simpa using hk1)
   rw[gX]at hg
   have hnm:cU v.vars v.vars[k].name=some (v.vars[k].ent (fC v.vars v.vars[k].name)):=by simp only[cU,vD hnd hk1,ce]
   have hsn:=pW (v.vars.take k) v.vars[k] p
   rw[<-aA hk1]at hsn
   have hbg:=kk b _ gb dbm
   have hsg:=kk s _ ho dsm
   have hcg:=kk c _ gc dcm
   have hmg:=kk m1 _ hE.names (Ne.symm hms)
   simp only[go_sem,rE,rA,rL,q1,q17,q19,hg,hbg,hsg,a7]
   refine fG (k:=v.vars[k].name) (g:=cU v.vars) rfl hmg trivial ?_
   simp only[hnm,iE,ap,if_false,Vr.ent]
   simp only[go_sem,rE,rA,rL]
   intro b8 hb8
   have kk8:∀(o':cK) d o,H.get d=some o->d≠mo->(H'.set b8 o').get d=some o:=fun o' d o hd hdm=>by
    have:=kk d o hd hdm
    rw[ae _ _ (al this hb8)];exact this
   have d8m:=al qm hb8
   have qm8:∀o',(H'.set b8 o').get mo=some (.map (cJ (cz (v.vars.take k) p))):=fun o'=>(ae _ _ d8m).trans qm
   have qa8:∀o',bR (H'.set b8 o') 1 (a9 (cz (v.vars.take k) p).reverse) (E' 5):=fun o'=>qa.new hb8 o'
   have hnin:v.vars[k].name∉cz (v.vars.take k) p:=fun hm=>by
    obtain⟨i,hi,e⟩:=rS _ p hm
    have hik:i<k:=by rw[bk]at hi;omega
    have hi2:i<v.vars.length:=by omega
    rw[List.getElem_take]at e
    have:=wK hnd hi2 hk1 e
    omega
   cases hdd:v.vars[k].dead
   ·cases hll:v.vars[k].lent
    ·have hsame:cz (v.vars.take (k+1)) p=cz (v.vars.take k) p:=by rw[hsn,hdd,hll];rfl
     simp only[go_sem,rE,rA,rL,q19,w1]
     exact⟨hk1,_,aj.sub_refl _,⟨q0,q3⟩,q1,q2,q4,q17,q18,rfl,by rw[hsame];exact qa8 _,by rw[hsame];exact qm8 _,kk8 _,kt⟩
    ·have hcg8:=kk8 (.cells [.sl 1 none (Ty.encs v.vars[k].type.kids),B v.vars[k].param,B true,B (!false),B (fC v.vars v.vars[k].name),.sl 2 none (v.vars[k].loans.map Pl.enc)]) c _ gc dcm
     have hxm:v.vars[k]∈v.vars:=ay hk1
     simp only[go_sem,rE,rA,rL,am]
     refine ken1_wp L (p:=p) (qs:=v.vars[k].loans) (nm:=v.vars[k].name) (Es:=cz (v.vars.take k) p) (mo:=mo) (c:=c) hp (hqp _ hxm) (hql _ hxm) (by simp only[go_sem,rE,q2]) (by simp only[go_sem,rE,q4]) (by simp only[go_sem,rE]) (by simp only[go_sem,rE]) (by simp only[go_sem,rE,am]) (by simp only[go_sem,rE]) hcg8 (qm8 _) ?_
     intro E2 H2 f0 f1 f2 f3 f4 f5 f7 f17 f18 f19 gm2 kk2
     simp only[go_sem,rE,rA]at f0 f1 f2 f3 f4 f5 f7 f17 f18 f19
     have hh:lr p (cz (v.vars.take k) p) v.vars[k].loans=(v.vars[k].loans.any fun q=>q.meet p||(cz (v.vars.take k) p).any fun m=>eqB m q.name):=rfl
     rw[<-hh]at hsn
     have kkH:∀d o,H.get d=some o->d≠mo->H2.get d=some o:=fun d o hd hdm=>kk2 d o (kk8 _ d o hd hdm) hdm
     have qa2:bR H2 1 (a9 (cz (v.vars.take k) p).reverse) (E' 5):=(qa8 (.cells [.sl 1 none (Ty.encs v.vars[k].type.kids),B v.vars[k].param,B true,B (!false),B (fC v.vars v.vars[k].name),.sl 2 none (v.vars[k].loans.map Pl.enc)])).mono fun d hd=>by
      obtain⟨n,m,e⟩:=(qa8 (.cells [.sl 1 none (Ty.encs v.vars[k].type.kids),B v.vars[k].param,B true,B (!false),B (fC v.vars v.vars[k].name),.sl 2 none (v.vars[k].loans.map Pl.enc)])).tok hd
      have hdm:d≠mo:=by rintro rfl;rw[qm8]at e;simp at e
      rw[e];exact kk2 d _ e hdm
     simp only[go_sem,rE,rA,rL,f4,f7,q4]
     refine fG (k:=v.vars[k].name) (g:=cJ (if lr p (cz (v.vars.take k) p) v.vars[k].loans then v.vars[k].name::cz (v.vars.take k) p else cz (v.vars.take k) p)) (by simp only[go_sem,rE,aS,bv,f4,f7,q4]) gm2 trivial ?_
     rw[tk]
     cases hhit:lr p (cz (v.vars.take k) p) v.vars[k].loans
     ·have hsame:cz (v.vars.take (k+1)) p=cz (v.vars.take k) p:=by rw[hsn,hdd,hll,hhit];rfl
      rw[hhit]at gm2
      have hany:((cz (v.vars.take k) p).any fun m=>eqB m v.vars[k].name)=false:=by
       cases h:(cz (v.vars.take k) p).any fun m=>eqB m v.vars[k].name with
       |false=>rfl
       |true=>
        obtain⟨m,hm,he⟩:=fJ.1 h
        exact absurd (cQ.1 he▸hm) hnin
      have h00:decide ((0:Int)>0)=false:=by decide
      simp only[ap,if_false,hany]
      simp only[go_sem,rE,rA,rL,h00,f19,q19,w1]
      refine⟨hk1,H2,aj.sub_refl _,⟨f0.trans q0,f3.trans q3⟩,f1.trans q1,f2.trans q2,f4.trans q4,f17.trans q17,f18.trans q18,rfl,?_,?_,kkH,?_⟩
      ·rw[hsame,f5];exact qa2
      ·rw[hsame];exact gm2
      ·rw[f5];exact kt
     ·have hsame:cz (v.vars.take (k+1)) p=v.vars[k].name::cz (v.vars.take k) p:=by rw[hsn,hdd,hll,hhit];rfl
      rw[hhit,if_pos rfl]at gm2
      have h10:decide ((1:Int)>0)=true:=by decide
      simp only[if_true,List.any_cons,dE,dZ]
      simp only[go_sem,rE,rA,rL,h10,f5,f7,ax,aq,az]
      have hel:(cz (v.vars.take k) p).length<=v.vars.length:=by
       have:=(jx p (v.vars.take k) [] (v.vars.map (·.name)) (by simp) fun x hx=>aY.2 ⟨x,bJ hx,rfl⟩).2
       rw[bk]at this
       simp only[bP,cj]at this
       exact bZ this (Nat.min_le_right _ _)
      refine eM (es:=a9 (cz (v.vars.take k) p).reverse) (ys:=[[S v.vars[k].name]]) (by simp only[go_sem,rE,rA,rL];exact qa2) (by simp[go_sem,bh]) (by simp) (by simp[a9];omega) ?_
      intro x' H3 fp hx' hfp hkeep hnew
      simp only[go_sem,rE,rA,rL]at hkeep hnew
      have hmt:¬cG (E' 5) mo:=fun ht=>by obtain⟨n,m,e⟩:=qa2.tok ht;rw[gm2]at e;simp at e
      have hrow:a9 (v.vars[k].name::cz (v.vars.take k) p).reverse=a9 (cz (v.vars.take k) p).reverse++[[S v.vars[k].name]]:=by simp[a9]
      simp only[go_sem,rE,rA,rL,f19,q19,w1]
      refine⟨hk1,H3,aj.sub_refl _,⟨f0.trans q0,f3.trans q3⟩,f1.trans q1,f2.trans q2,f4.trans q4,f17.trans q17,f18.trans q18,rfl,?_,?_,?_,?_⟩
      ·rw[hsame,hrow];exact hx'
      ·rw[hsame,hkeep mo (by rw[gm2];simp) hmt];exact gm2
      ·intro d o hd hdm
       rw[hkeep d (by rw[kkH d o hd hdm];simp) (fun ht=>by rw[kt d ht]at hd;simp at hd)]
       exact kkH d o hd hdm
      ·intro d hd
       rcases hnew d hd with h|h
       ·exact kt d h
       ·cases hq:H.get d with
        |none=>rfl
        |some o=>
         by_cases hdm:d=mo
         ·subst hdm;rw[gm2]at h;simp at h
         ·rw[kkH d o hq hdm]at h;simp at h
   ·have hsame:cz (v.vars.take (k+1)) p=cz (v.vars.take k) p:=by rw[hsn,hdd];rfl
    simp only[go_sem,rE,rA,rL,q19,w1]
    exact⟨hk1,_,aj.sub_refl _,⟨q0,q3⟩,q1,q2,q4,q17,q18,rfl,by rw[hsame];exact qa8 _,by rw[hsame];exact qm8 _,kk8 _,kt⟩
  ·have hkk:k=v.vars.length:=by omega
   subst hkk
   rw[aU]at qa qm
   simp only[go_sem,rE,rA,rL]
   exact hK _ _ (by simp only[go_sem,rE,q0]) (by simp only[go_sem,rE,q3]) (by simp only[go_sem,rE];exact qa) kk (by simp only[go_sem,rE];exact kt)
end
def x_ea0:aX:=rg [ef 0 3 (.box 0)]
def x_ea1:aX:=rg [ef 0 13 (.callX .mkMap []),mv 1 4 13]
def x_ea2:aX:=rg [mv 0 5 (.const (.slice none 0 0))]
def x_ea4(F:bS):aX:=rg [mv 0 66 5,ca 1 67 F.k_Backward [66]]
def x_ea5:aX:=rg [mv 0 12 69]
def x_ea6:aX:=rg ([ld 0 70 none 3,mv 1 71 12]++ef 2 72 (.callX .clos [70,71])::[pu 3 73 (.not 72)])
def zh(P:Program)(F:bS):Prop:=∃fn i0 i1 i2 i4 i5 i6 b4 b5 o0 o1 o2 c3 o4 o5 o6,P.funcs[F.k_ends_1]?=some fn/\fn.ntmps=74/\fn.results=#[]/\
 fn.body=some (.seq (.region i0 o0 false) (.seq (.region i1 o1 false) (.seq (.region i2 o2 false) (.seq c3 (.seq (.region i4 o4 false) (.block b4 (.rangeFunc (.tmp 67) #[68,69] (.region i5 o5 false) (.block b5 (.seq (.region i6 o6 false) (.cond (.tmp 73) .ret .skip))))))))))/\
 cS P 74 o0 false=some x_ea0/\cS P 74 o1 false=some x_ea1/\cS P 74 o2 false=some x_ea2/\eo P 74 c3=some (wi F)/\gN P c3 (wi F)=true/\cS P 74 o4 false=some (x_ea4 F)/\cS P 74 o5 false=some x_ea5/\cS P 74 o6 false=some x_ea6
section
variable {P:Program}{F:bS}{er:bW}
theorem vN(L:eC P F){x:AC}(hx:x.cells?=some [x]):bD P F.k_Backward [x] .empty fun q H'=>∃b,q=.fn (.func F.k_Backward_1) [] [.ptr b 0]/\H'=aj.empty.set b (.cells [x]):=by
 refine L.k_Backward (by simp[m7]) ?_
 simp only[m7,go_sem,rE,rA,hx]
 intro b hb
 exact ak (.refl _) (aj.sub_refl _) ⟨b,rfl,rfl⟩
theorem zT(H:aj){b:Nat}{o:cK}:H.swap .empty (aj.empty.set b o)=H.set b o:=by
 ext d:1
 rw[bG,aM,aM]
 by_cases h1:d=b
 ·simp[h1]
 ·simp[h1]
structure EndJ(Hr:aj)(B l l2:Nat)(pre:List ByteArray)(H':aj):Prop where
 l2n:H'.get l2=none
 l2B:l2≠B
 ln:H'.get l=none
 box:∃x',H'.get B=some (.cells [x'])/\bR H' 1 (a9 pre) x'/\∀d,cG x' d->Hr.get d=none
 rest:∀d o,Hr.get d=some o->d≠B->H'.get d=some o
theorem Co(L:eC P F)(hC:zh P F)(hB1:mZ P F.k_Backward_1)(hgB:iQ P F.k_Backward_1=true){H:aj}{s:Nat}{v:Sc}{ORD HELD:AC}{m1 m2 b c B:Nat}{p:Pl}(hS:cy F er H s v ORD HELD m1 m2)(hnd:(v.vars.map (·.name)).Nodup)(hvl:v.vars.length<=2^30)(hp:p.path.length<=2^30)
(hqp:∀x∈v.vars,∀q∈x.loans,q.path.length<=2^30)(hql:∀x∈v.vars,x.loans.length<=2^30)(gb:H.get b=some (.cells [.ptr s 0]))(gc:H.get c=some (.cells p.enc))(hB:H.get B=none):
 ItC P F.k_ends_1 [.ptr b 0,.ptr c 0] (H.set B (.cells [NIL])) (fun _=>True) (CC B) (ql B) (AsEnd B (cz v.vars p) (H.set B (.cells [NIL]))):=by
 obtain⟨fn,i0,i1,i2,i4,i5,i6,b4,b5,o0,o1,o2,c3,o4,o5,o6,hf,hN,hres,hb,r0,r1,r2,r3,r3ok,r4,r5,r6⟩:=hC
 intro l o M w us hnc s0 hlo hln hcap _ hY
 refine callsIn_of_wp_marks hf hb trivial ?_ rfl
 rw[hN]
 have hr:il M [.lit (.func (.yield l) #[] #[]),.ptr b 0,.ptr c 0] ((#[.func (.yield l) #[] #[]]++us.toArray:Array Value).toList):=by
  refine⟨by simp[<-hcap.1],fun j y v hy hv=>?_⟩
  match j,hy,hv with
  |0,hy,hv=>simp at hy hv;subst hy hv;exact .lit trivial
  |j+1,hy,hv=>exact hcap.2 j _ _ (by simpa using hy) (by simpa using hv)
 have hE:=nY (N:=74) hr (by simp)
 simp only[Array.toArray_toList]at hE
 have hS0:cy F er (H.set B (.cells [NIL])) s v ORD HELD m1 m2:=hS.new hB _
 have gb0:(H.set B (.cells [NIL])).get b=some (.cells [.ptr s 0]):=by rw[ae _ _ (al gb hB)];exact gb
 have gc0:(H.set B (.cells [NIL])).get c=some (.cells p.enc):=by rw[ae _ _ (al gc hB)];exact gc
 have gB0:(H.set B (.cells [NIL])).get B=some (.cells [NIL]):=ai _ _ _
 generalize H.set B (.cells [NIL])=H0 at*
 refine qy (cx r0).1 (cx r0).2 hE s0 (K:=fun E' H'=>∃b3,H0.get b3=none/\E' 1=.ptr b 0/\E' 2=.ptr c 0/\E' 3=.ptr b3 0/\H'=H0.set b3 (.cells [.lit (.func (.yield l) #[] #[])])) ?_ ?_
 ·simp only[x_ea0,go_sem,rE,rA,show(AC.lit (Value.func (Fn.yield l) #[] #[])).cells?=some [.lit (.func (.yield l) #[] #[])]from rfl]
  intro b3 hb3
  exact⟨b3,hb3,rfl,rfl⟩
 rintro E1 H1 M1 a1 w1 ⟨b3,hb3,e1,e2,e3,rfl⟩ hE1 s1 t1 hd1
 refine qy (cx r1).1 (cx r1).2 hE1 s1 (K:=fun E' H'=>∃mo,(H0.set b3 (.cells [.lit (.func (.yield l) #[] #[])])).get mo=none/\E' 1=.ptr b 0/\E' 2=.ptr c 0/\E' 3=.ptr b3 0/\E' 4=.mp mo/\H'=(H0.set b3 (.cells [.lit (.func (.yield l) #[] #[])])).set mo (.map fun _=>none)) ?_ ?_
 ·simp only[x_ea1,go_sem,rE,rA]
  refine ri fun mo hmo=>?_
  simp only[go_sem,rE,rA,e1,e2,e3]
  exact⟨mo,hmo,rfl,rfl⟩
 rintro E2 H2 M2 a2 w2 ⟨mo,hmo,f1,f2,f3,f4,rfl⟩ hE2 s2 t2 hd2
 refine qy (cx r2).1 (cx r2).2 hE2 s2 (K:=fun E' H'=>E' 1=.ptr b 0/\E' 2=.ptr c 0/\E' 3=.ptr b3 0/\E' 4=.mp mo/\E' 5=NIL/\H'=(H0.set b3 (.cells [.lit (.func (.yield l) #[] #[])])).set mo (.map fun _=>none)) ?_ ?_
 ·simp only[x_ea2,go_sem,rE,rA,f1,f2,f3,f4,and_self]
 rintro E3 H3 M3 a3 w3 ⟨g1,g2,g3,g4,g5,rfl⟩ hE3 s3 t3 hd3
 have hb3m:b3≠mo:=al (ai _ _ _) hmo
 have hmo0:H0.get mo=none:=by rw[ae _ _ (Ne.symm hb3m)]at hmo;exact hmo
 have up:∀d o,H0.get d=some o->((H0.set b3 (.cells [.lit (.func (.yield l) #[] #[])])).set mo (.map fun _=>none)).get d=some o:=fun d o hd=>by
  rw[ae _ _ (al hd hmo0),ae _ _ (al hd hb3)];exact hd
 have gy:((H0.set b3 (.cells [.lit (.func (.yield l) #[] #[])])).set mo (.map fun _=>none)).get b3=some (.cells [.lit (.func (.yield l) #[] #[])]):=by rw[ae _ _ hb3m,ai]
 have gmo:((H0.set b3 (.cells [.lit (.func (.yield l) #[] #[])])).set mo (.map fun _=>none)).get mo=some (.map fun _=>none):=ai _ _ _
 have hm1:mo≠m1:=by rintro rfl;rw[hS0.names]at hmo0;simp at hmo0
 have hsz:=(dc.1 hlo).1
 have hfr:∀{M':bO} {H':aj} {w':World},bI M H0 w M' H' w'->H'.get l=none:=fun t=>by
  rename_i M' H' w'
  cases h:H'.get l with
  |none=>rfl
  |some o'=>
   rcases t.fresh l (by rw[h];simp)with h'|h'
   ·exact absurd hln h'
   ·omega
 have hS3:=hS0.sub up
 have gb3:=up _ _ gb0
 have gc3:=up _ _ gc0
 have gB3:=up _ _ gB0
 generalize hH3:((H0.set b3 (.cells [.lit (.func (.yield l) #[] #[])])).set mo (.map fun _=>none))=H3 at*
 have hBmo:B≠mo:=al gB0 hmo0
 refine qy r3 r3ok hE3 s3 (K:=fun E' H'=>E' 3=.ptr b3 0/\bR H' 1 (a9 (cz v.vars p).reverse) (E' 5)/\(∀d o,H3.get d=some o->d≠mo->H'.get d=some o)/\∀d,cG (E' 5) d->H3.get d=none) ?_ ?_
 ·exact ea3_wp L hS3 hnd hvl hp hqp hql gb3 (by rw[gc3,Pl.enc]) gmo hm1 g1 g2 g4 g5 fun E' H' h0 h3 h5 hk ht=>⟨h3.trans g3,h5,hk,ht⟩
 rintro E4 H4 M4 a4 w4 ⟨k3,k5,kk,kt⟩ hE4 s4 t4 hd4
 refine qy (cx r4).1 (cx r4).2 hE4 s4 (K:=fun E' H'=>∃bs,H4.get bs=none/\E' 3=.ptr b3 0/\E' 67=.fn (.func F.k_Backward_1) [] [.ptr bs 0]/\H'=H4.set bs (.cells [E4 5])) ?_ ?_
 ·simp only[x_ea4,go_sem,rE,rA,k3]
  refine dR (vN L (x:=E4 5) k5.one) (by simp only[go_sem,rE,aS,bv]) (aj.sub_empty _) (fun h=>by simp at h) trivial ?_
  rintro q H5 ⟨bs,rfl,rfl⟩ hnew
  rw[zT]
  have hbs:=hnew bs (by rw[ai];simp) rfl
  simp only[go_sem,rE,rA,k3]
  exact⟨bs,hbs,rfl,rfl⟩
 rintro E5 H5 M5 a5 w5 ⟨bs,hbs,n3,n67,rfl⟩ hE5 s5 t5 hd5
 have t05:bI M H0 w M5 (H4.set bs (.cells [E4 5])) w5:=(((t1.trans t2).trans t3).trans t4).trans t5
 have hd5':a5.defers=[]:=by rw[hd5,hd4,hd3,hd2,hd1]
 have hx5:bR (H4.set bs (.cells [E4 5])) 1 (a9 (cz v.vars p).reverse) (E4 5):=k5.new hbs _
 have keep4:∀d o,H4.get d=some o->(H4.set bs (.cells [E4 5])).get d=some o:=fun d o hd=>by rw[ae _ _ (al hd hbs)];exact hd
 have gyr:(H4.set bs (.cells [E4 5])).get b3=some (.cells [.lit (.func (.yield l) #[] #[])]):=keep4 _ _ (kk _ _ gy hb3m)
 have gBr:(H4.set bs (.cells [E4 5])).get B=some (.cells [NIL]):=keep4 _ _ (kk _ _ gB3 hBmo)
 have gbs:(H4.set bs (.cells [E4 5])).get bs=some (.cells [E4 5]):=ai _ _ _
 have hbsB:bs≠B:=by rintro rfl;have:=keep4 bs _ (kk _ _ gB3 hBmo);have h4:=kk _ _ gB3 hBmo;rw[h4]at hbs;simp at hbs
 have hb3B:b3≠B:=by rintro rfl;rw[gB0]at hb3;simp at hb3
 have restR:∀d o,H0.get d=some o->d≠B->(H4.set bs (.cells [E4 5])).get d=some o:=fun d o hd _=>keep4 _ _ (kk _ _ (up _ _ hd) (al hd hmo0))
 have hlB:l≠B:=by rintro rfl;rw[hln]at gB0;simp at gB0
 have hlr:(H4.set bs (.cells [E4 5])).get l=none:=hfr t05
 have hsz5:l<w5.heap.size:=Nat.lt_of_lt_of_le hsz t05.size
 have hlo5:w5.heap[l]?=some o:=by rw[(t05.same l hsz hln).1];exact hlo
 generalize hHr:H4.set bs (.cells [E4 5])=Hr at*
 refine wpIn_block ?_
 have hrep:=hE5.rep 67
 rw[n67]at hrep
 obtain⟨us2,hus,hcap2⟩:=B1 hrep
 have hE5':cw 74 M5 E5 {tmps:=a5.tmps,defers:=[]}:=⟨hE5.size,hE5.rep⟩
 have hLl:(cz v.vars p).reverse.length<=2^30:=by
  have:=(jx p v.vars [] (v.vars.map (·.name)) (by simp) fun x hx=>aY.2 ⟨x,hx,rfl⟩).2
  rw[List.length_reverse]
  simp only[bP,cj]at this
  exact bZ this hvl
 refine z9 (ps:=[68,69]) (us:=us2) (cap:=[.ptr bs 0]) (Pre:=fun l2 xs H'=>∃pre i n,xs=[I i,S n]/\EndJ Hr B l l2 pre H'/\pre.length<=2^30)
  (ma:=fun l2 xs H' H''=>(∀i n,xs=[I i,S n]->ql B l [S n] H' H'')/\H''.get l2=none/\H''.get l=none) hE5 s5 (by simpa[Act.eval]using hus) hgB hcap2
  (xC hB1 (bs:=bs) (x:=E4 5) (L:=(cz v.vars p).reverse) hx5 hLl (J:=EndJ Hr B l) ?_ ?_ ?_ ?_ ?_) (Sx:=fun w'=>w'.heap[l]?=some o) ?_ ?_ ?_
 ·intro l2 h
  exact⟨h,by rintro rfl;rw[gBr]at h;simp at h,hlr,⟨NIL,gBr,.inl ⟨rfl,rfl⟩,fun d ⟨_,_,_,_,e⟩=>by simp at e⟩,fun d o hd _=>hd⟩
 ·intro l2 pre H' hj
  exact hj.rest _ _ gbs hbsB
 ·intro l2 pre n i H' hj hl
  exact⟨pre,i,n,rfl,hj,by omega⟩
 ·rintro l2 pre n i H' H'' hj hl ⟨hP,h1,h2⟩
  obtain⟨x',hx1,hx2,hx3⟩:=hj.box
  obtain⟨x2,y1,y2,y3,y4⟩:=hP i n rfl n pre x' rfl hx1 hx2
  have nt:∀d o,Hr.get d=some o->¬cG x' d:=fun d o hd ht=>by rw[hx3 d ht]at hd;simp at hd
  refine⟨h1,hj.l2B,h2,⟨x2,y1,y2,fun d hd=>?_⟩,fun d o hd hdB=>y3 d o (hj.rest d o hd hdB) hdB (nt d o hd)⟩
  rcases y4 d hd with h|h
  ·exact hx3 d h
  ·cases hq:Hr.get d with
   |none=>rfl
   |some o'=>
    by_cases hdB:d=B
    ·subst hdB;rw[hx1]at h;simp at h
    ·rw[hj.rest d o' hq hdB]at h;simp at h
 ·intro l2 pre H' hj;exact hj.l2n
 ·intro M' H' w' t
  show w'.heap[l]?=some o
  rw[(t.same l hsz5 hlr).1];exact hlo5
 ·
  intro l2 D fid hl2 ro n xs H' hpre
  have hl2l:l≠l2:=by omega
  refine(sk (N:=74) (Sx:=fun w'=>w'.heap[l]?=some o) (Pre:=fun xs H'=>∃pre i n,xs=[I i,S n]/\EndJ Hr B l l2 pre H'/\pre.length<=2^30)
   (ma:=fun xs H' H''=>(∀i n,xs=[I i,S n]->ql B l [S n] H' H'')/\H''.get l2=none/\H''.get l=none)
   (EA:=fun xs=>(E5.puts [68,69] xs).put (some 12) ((E5.puts [68,69] xs) 69)) hE5' (by simp) ?_ ?_ ?_ ?_ ?_ ro n xs H' hpre)
  ·intro w' r h
   rw[World.putObj_heap_other hl2l];exact h
  ·rintro M' H' w' M'' H'' w'' - h t ⟨xs',pre',i',n',-,hj,-⟩
   rw[(t.same l (dc.1 h).1 hj.ln).1];exact h
  ·rintro xs' H' ⟨pre',i',n',rfl,hj,-⟩
   exact⟨rfl,hj.l2n⟩
  ·rintro n xs' H' M1 w1 a1 hle hE1 s1 -
   refine nR r5 hE1 s1 ?_
   simp only[x_ea5,go_sem,rE,rA,and_self]
  ·rintro n xs' H' M1 w1 a1 hle hE1 s1 ⟨pre',i',n',rfl,hj,hpl⟩ hx hlw
   have hyl:=hj.rest _ _ gyr hb3B
   have hlw1:l<w1.heap.size:=(dc.1 hx).1
   obtain⟨x',hbx1,hbx2,hbx3⟩:=hj.box
   refine wpIn_block (wpIn_seq (wpIn_mono (wD (ro:=some l2) (Sd:=fun w=>w.heap[l]?=some o) (K:=fun e E' H''=>e=.normal/\E' 73=.lit (.bool false)/\ql B l [S n'] H' H'') r6 hE1 s1 (by simp) (fun M' H'' w' t=>?_) ?_) ?_))
   ·rw[(t.same l hlw1 hj.ln).1];exact hx
   ·have hYC:=hY (some l2) (n - 1) [S n'] H' ⟨hj.ln,hlB,n',pre',x',rfl,hbx1,hbx2,hpl⟩
    simp only[Env.puts,go_sem,rE,rA,n3,hyl,a7]
    exact⟨l,[S n'],_,rfl,(hYC.later (bO.le_trans t05.le hle)).side fun _ h=>⟨h,trivial⟩,fun _ h=>h⟩
   ·rintro e a2 w2 ⟨xe,E2,H2,M2,he,⟨rfl,q73,hpost⟩,hE2,s2,t2,hd2⟩
    cases e<;>simp[dM]at he
    have hr73:=hE2.rep 73
    rw[q73]at hr73
    have hfr2:∀d,d<w1.heap.size->H'.get d=none->H2.get d=none:=fun d hd hn=>by
     cases h:H2.get d with
     |none=>rfl
     |some o'=>
      rcases t2.fresh d (by rw[h];simp)with h'|h'
      ·exact absurd hn h'
      ·omega
    refine wpIn_cond_false (by rw[<-lG hr73];rfl) (wpIn_skip ?_)
    refine⟨.normal,E2,H2,M2,rfl,⟨rfl,fun i n e=>?_,hfr2 l2 hlw hj.l2n,hfr2 l hlw1 hj.ln⟩,hE2,s2,t2,hd2⟩
    simp only[List.cons.injEq,AC.lit.injEq,Value.string.injEq,and_true]at e
    rw[<-e.2];exact hpost
 ·rintro D M6 H6 w6 hD ⟨l2,hj⟩ s6 t6 hDn hDr
  rw[List.reverse_reverse]at hj
  have s7:=s6.putRec hDr (fun a b c h=>by cases h) hDn (.deferred none)
  have hE6:cw 74 M6 E5 {a5 with defers:={target:=.collected D,args:=#[]}::a5.defers}:=⟨hE5.size,fun n=>(hE5.rep n).mono t6.le⟩
  obtain⟨v,hv,hrv⟩:=j9 (P:=P) (fn:=fn) (rs:=[]) (by rw[hres];rfl) hE6 s7 (q:=.tup []) rfl
  show LeavesInM _ _ _ _ _ _ _ .returning w6
  refine to (a:={a5 with defers:={target:=.collected D,args:=#[]}::a5.defers}) (by rw[hd5']) hDr hv ?_
  obtain⟨x',y1,y2,y3⟩:=hj.box
  have t:=t05.trans t6
  refine⟨⟨v,rfl⟩,M6,H6,s7,⟨t.le,by rw[World.putObj_size];exact t.size,fun b hb' hn=>?_,t.fresh,t.io.trans (wW _ _ _)⟩,x',y1,y2,fun d o hd hdB=>hj.rest d o (restR d o hd hdB) hdB⟩
  have:w.heap.size<=w5.heap.size:=t05.size
  rw[World.putObj_heap_other (by omega)]
  exact t.same b hb' hn
end
section
variable {P:Program}{F:bS}{er:bW}
theorem yT(L:eC P F)(hA:oz P F.k_AppendSeq)(hE:zh P F)(hB:mZ P F.k_Backward_1)(g1:iQ P F.k_Backward_1=true)(g2:iQ P F.k_ends_1=true):eD P F er:=by
 intro H s v ORD HELD m1 m2 b c p hS hnd hvl hp hqp hql gb gc
 refine L.k_Collect (by simp[nF]) ?_
 simp only[nF,go_sem,rE,rA]
 refine dR (vO hA (gf:=F.k_ends_1) (cap:=[.ptr b 0,.ptr c 0]) g2 (cz v.vars p) H fun B hB0=>Co L hE hB g1 hS hnd hvl hp hqp hql gb gc hB0) ?_ (aj.sub_refl _) (fun h=>by simp at h) trivial ?_
 ·simp only[go_sem,rE,aS,bv]
 rintro q H' ⟨rfl,rfl⟩ -
 simp only[go_sem,rE,rA,iq]
 exact ak (.refl _) (aj.sub_refl _) ⟨rfl,rfl⟩
end
def iI(F:bS):aD:=⟨69,[.slot 2],.seq (rg [mv 0 2 cf]) (.seq (.seq (rg [mv 0 10 0,pu 1 11 (.lenSl 10),pu 2 12 (.bin .gtr 11 (ci 1048576))]) (.cond 12 (.seq (rg [mv 0 2 ct]) .ret) .skip)) (.seq (rg [mv 0 14 0,ca 1 15 F.s_DrawCheckLive [14],mv 2 13 15,pu 3 16 (.extract 13 0),pu 4 17 (.extract 13 1),pu 5 18 (.extract 13 2),ef 6 3 (.alloc [.slice none 0 0]),en 7 (.store 1 3 16),mv 8 4 17,mv 9 5 18]) (.seq (rg [ld 0 19 (some 1) 3,mv 1 20 4,mv 2 21 5,ca 3 22 F.s_CheckLive [19,20,21],mv 4 6 22]) (.seq (rg [ld 0 23 (some 1) 3,mv 1 24 4,mv 2 25 5,ca 3 26 F.i_CheckLive [23,24,25],mv 4 7 26]) (.seq (.seq (rg [mv 0 27 7,mv 1 28 6,ca 2 29 F.l_lhTexts [27,28],pu 3 30 (.not 29),mv 4 31 30,gp 5 32 31 false (.move 7),gp 6 33 31 false (.lenSl 32),gp 7 34 31 false (.bin .eql 33 (ci 0)),pu 8 35 (.pick 31 ct 34)]) (.cond 35 (.seq (rg [mv 0 36 7,mv 1 37 6,ca 2 38 F.l_lhTexts [36,37],mv 3 2 38]) .ret) .skip)) (.seq (rg [fa 0 39 0 3,ld 1 40 none 39,mv 2 41 4,ia 3 42 12 40 41,ld 4 43 (some 12) 42,mv 5 44 5,ca 6 45 F.l_lhGiven [43,44],mv 7 8 45]) (.seq (.seq (rg [mv 0 9 (ci 0)]) (.block 0 (.loop (.seq (.seq (rg [mv 0 46 9,mv 1 47 7,pu 2 48 (.lenSl 47),pu 3 49 (.bin .lss 46 48)]) (.cond 49 .skip (.exit 0))) (.seq (.block 1 (.seq (.region true [mv 0 52 8,mv 1 53 7,mv 2 54 9,ia 3 55 1 53 54,ld 4 56 none 55,ca 5 57 F.l_lhHas [52,56],pu 6 58 (.not 57),mv 7 59 58,gp 8 60 59 false (.move 7),gp 9 61 59 false (.move 9),gp 10 62 59 false (.slice 1 60 none (some 61)),gp 11 63 59 false (.move 7),gp 12 64 59 false (.move 9),gp 13 65 59 false (.indexAddr 1 63 64),gl 14 66 59 false none 65,⟨15,some 67,some (59,false),.eff (.call F.l_lhHas [62,66]),[]⟩,pu 16 68 (.pick 59 ct 67)]) (.cond 68 (.seq (rg [mv 0 2 cf]) .ret) .skip))) (rg [mv 0 50 9,pu 1 51 (.bin .add 50 (ci 1)),mv 2 9 51])))))) (.seq (rg [mv 0 2 ct]) .ret))))))))⟩
theorem BG{f:Fu}{m:Nat}(h:f.lo m):bx f.body<=1000*(6+m):=by
 have key:∀l:List St,(∀s∈l,s.cnt<=1000)->bx l<=1000*l.length:=by
  intro l
  induction l with
  |nil=>intro _;rw[eS];omega
  |cons s l ih=>
   intro h
   have h1:=h s (by simp)
   have h2:=ih fun x hx=>h x (by simp[hx])
   rw[cY,aV];omega
 have:=key f.body h.bcnt
 have:=h.blen
 omega
theorem drawn.fit{m:Nat}{p:Pg}(h:drawn m p)(hm:m<=4):p.fit:=by
 refine⟨fun f hf=>⟨?_,(h.1 f hf).bsm⟩,fun f hf=>⟨(h.1 f hf).pars.1,?_⟩⟩
 ·have:=BG (h.1 f hf);omega
 ·have:=BG (h.1 f hf);omega
section
variable {P:Program}{F:bS}{er:bW}
theorem Ao(p:Pg)(fn n:Int):(iX p fn n).length<=2^30:=by
 unfold iX
 cases ha:atS p fn n with
 |none=>simp
 |some v=>
  obtain⟨pi,st⟩:=xI ha
  have:=st.good.len
  unfold fN
  simp only[am]
  exact bZ (ix _ _) this
theorem ud(L:eC P F)(T:Tys F.toIds)(hC:eD P F er){n:FuncId}(hfit:bT P n (iI F))(a:List UInt8)(H:aj)(he:ft F er H):bD P n [.sl 1 none (fq a)] H fun q H'=>q=B true/\ft F er H':=by
 refine hfit (by simp[iI]) ?_
 have fin:∀(E':Env) (H':aj),E' 2=B true->ft F er H'->aD.post [.slot 2] (fun q H'=>q=B true/\ft F er H') .ret E' H':=fun E' H' h1 h2=>ak (by rw[h1];exact .refl _) (aj.sub_refl _) ⟨rfl,h2⟩
 have la:(fq a).length=a.length:=by simp[fq]
 simp only[iI,go_sem,rE,rA,rL,la]
 by_cases h1:(a.length:Int)>1048576
 ·simp only[go_sem,rE,rA,rL,h1,decide_true]
  exact fin _ _ (rfl) he
 simp only[go_sem,rE,rA,rL,h1,decide_false]
 refine dR (sg L a (by omega)) (rfl) (aj.sub_empty _) (by simp) trivial ?_
 rintro q H' ⟨rfl,p,fn,m,rfl,hd⟩ -
 rw[gF]
 have hfi:=hd.fit (by omega)
 have hpl:p.length<=2^20:=by have:=hd.2.2;omega
 simp only[go_sem,rE,rA,rL,Pg.enc]
 intro b3 hb3
 have g3:=ai H b3 (.cells [.sl 12 none (p.map Fu.enc)])
 have he3:ft F er (H.set b3 (.cells [.sl 12 none (p.map Fu.enc)])):=fun c hc=>by rw[ae _ _ (al (he c hc) hb3)];exact he c hc
 generalize H.set b3 (.cells [.sl 12 none (p.map Fu.enc)])=H1 at*
 have hs:bD P F.s_CheckLive [.agg (Pg.enc p),I fn,I m] .empty fun q H'=>q=.sl 1 none (a9 (iX p fn m))/\H'=.empty:=(vK L hfi hpl fn m).mono fun q H' h=>by rw[<-BH];exact h
 have hi:=vP L T hC p hfi.1 fn m H1 he3
 simp only[Pg.enc]at hs hi
 refine dR hs (rfl) (aj.sub_empty _) (by simp) trivial ?_
 rintro q H' ⟨rfl,rfl⟩ -
 rw[gF]
 simp only[go_sem,rE,rA,rL,g3]
 refine dR hi (rfl) (aj.sub_refl _) (by simp) trivial ?_
 rintro q H' ⟨rfl,rfl⟩ -
 rw[iq]
 have hll:=Ao p fn m
 have hlen:(a9 (iX p fn m)).length=(iX p fn m).length:=by simp[a9]
 simp only[go_sem,rE,rA,rL,g3]
 refine ao (uJ L (iX p fn m) hll) (rfl) ?_
 simp only[go_sem,rE,rA,rL,hlen]
 by_cases hem:iX p fn m=[]
 ·have e0:((iX p fn m).length:Int)=0:=by rw[hem];rfl
  have e1:((0:Int)==0)=true:=rfl
  simp only[go_sem,rE,rA,rL,e0,e1]
  refine ao (uJ L (iX p fn m) hll) (rfl) ?_
  simp only[go_sem,rE,rA,rL]
  exact fin _ _ (rfl) he3
 clear hs hi
 obtain⟨i,m,hi,rfl,rfl,hm,hnd,hgv⟩:=y0 hem
 have e0:(((iX p i m).length:Int)==0)=false:=by simp;exact hem
 generalize iX p i m=LV at*
 obtain⟨cf,hcf,CF⟩:=fuC p[i]
 have hgf:(p.map Fu.enc)[i]?=some cf:=by rw[<-hcf];simp[hi]
 have hlo:=hd.1 p[i] (ay hi)
 have hb1:=hlo.blen
 have hb2:=hlo.pars
 simp only[go_sem,rE,rA,rL,e0,g3,hgf,CF.len,CF.all]
 have hgc:=AD L p[i] m hm (by omega) (by omega)
 rw[hcf]at hgc
 refine dR hgc (rfl) (aj.sub_empty _) (by simp) trivial ?_
 rintro q H' ⟨rfl,rfl⟩ -
 rw[gF]
 have hgl:(nZ p[i] m).length<=2^30:=by
  unfold nZ
  rw[bq,am]
  have:=ix (fun m=>!eqB m (bl [])) ((p[i].body.take m).map (·.name))
  simp at this⊢;omega
 simp only[go_sem,rE,rA,rL]
 refine aT LV.length (fun k E' H'=>E' 7=.sl 1 none (a9 LV)/\E' 8=.sl 1 none (a9 (nZ p[i] m))/\E' 9=I k/\ft F er H') ⟨rfl,rfl,rfl,he3⟩ ?_
 rintro k E' H' hk ⟨q7,q8,q9,he4⟩
 simp only[go_sem,rE,rA,rL,q7,q9,hlen]
 refine aG (fun hlt=>?_) (fun hge=>?_)
 ·have hk1:k<LV.length:=by omega
  have w1:=aL (n:=(k:Int)+1) (by omega) (by omega)
  simp only[go_sem,rE,rA,rL,q7,q8,q9,ki hk1]
  refine ao (zJ L (nZ p[i] m) LV[k] hgl) (rfl) ?_
  have hin:(nZ p[i] m).any (fun x=>eqB x LV[k])=true:=fJ.2 ⟨LV[k],hgv _ (ay hk1),dE _⟩
  have hsl:0<=k/\k<=LV.length:=⟨by omega,by omega⟩
  have htk:(a9 LV).take k=a9 (LV.take k):=by simp[a9]
  simp only[go_sem,rE,rA,rL,q7,q8,q9,hin,ki hk1,hlen,hsl,and_self,htk]
  refine ao (zJ L (LV.take k) LV[k] (by rw[bk];omega)) (rfl) ?_
  have hno:(LV.take k).any (fun x=>eqB x LV[k])=false:=by
   rw[List.any_eq_false]
   intro x hx he
   have hxk:=cQ.1 he
   obtain⟨j,hj,rfl⟩:=bj.1 hx
   rw[bk]at hj
   rw[List.getElem_take]at hxk
   exact List.pairwise_iff_getElem.1 hnd j k (by omega) hk1 (by omega) hxk
  simp only[go_sem,rE,rA,rL,q7,q8,q9,hno,w1]
  exact⟨hk1,H',aj.sub_refl _,by simp,he4⟩
 ·simp only[go_sem,rE,rA,rL]
  exact fin _ _ (rfl) he4
end
end Go.Xl
