/- FnCheckForm: a part of the proof. -/
import Derived.Test.YtghekniakencpaaGreatDoorX2
set_option linter.unusedVariables false
set_option linter.unusedSimpArgs false
namespace Go.Xl
open _root_.Bool renaming and_eq_false_iff -> cH, and_eq_true -> aw, and_false -> aM, and_self -> fD, and_true -> fC, eq_iff_iff -> aX, false_and -> aL, false_eq_true -> aq, false_ne_true -> fB, false_or -> dG, or_eq_true -> dh, or_false -> dE, or_self -> gG, true_and -> bT, true_or -> dV
open _root_.Int renaming le_refl -> eA, natCast_zero -> dg, reduceBEq -> aF, reduceEq -> bm, reduceLE -> dN
open _root_.List renaming all_append -> eD, all_eq_false -> dj, all_eq_true -> aS, any_append -> fY, any_eq_true -> iP, append_nil -> dA, cons_append -> cq, drop_eq_getElem_cons -> bO, drop_length -> kl, drop_succ_cons -> gq, drop_zero -> gZ, eq_nil_of_length_eq_zero -> bn, ext_getElem? -> fQ, findIdx?_eq_none_iff -> ip, findIdx?_eq_some_iff_getElem -> bN, flatten_cons -> av, flatten_nil -> ay, foldl_cons -> d7, getElem?_append_left -> aO, getElem?_append_right -> be, getElem?_cons_succ -> aB, getElem?_cons_zero -> a9, getElem?_drop -> bU, getElem?_eq_getElem -> a6, getElem?_eq_none -> fx, getElem?_eq_some_iff -> aN, getElem?_map -> co, getElem?_take -> eT, getElem?_take_of_lt -> dq, getElem_append_left -> dm, getElem_map -> iO, getElem_mem -> az, length_append -> bv, length_cons -> aR, length_drop -> eV, length_eq_zero_iff -> cG, length_map -> ao, length_nil -> bM, length_take -> bI, map_append -> bL, map_congr_left -> eJ, map_cons -> aU, map_nil -> bB, map_take -> kR, mem_append -> aE, mem_cons -> bi, mem_cons_of_mem -> ew, mem_cons_self -> fA, mem_filter -> eR, mem_iff_getElem -> bk, mem_map -> aZ, mem_map_of_mem -> bZ, mem_of_getElem? -> aY, mem_range -> fk, mem_singleton -> bQ, nil_append -> df, nodup_append -> fP, not_mem_nil -> cF, replicate -> ax, take_append_drop -> ic, take_length -> aW, take_of_length_le -> cy, take_succ_eq_append_getElem -> aC
open _root_.Nat renaming reduceEqDiff -> rE, reduceAdd -> rA, reduceLeDiff -> rL, le_refl -> aA, le_trans -> cg, reduceSub -> kQ, zero_add -> bY, zero_le -> gN
open _root_.Option renaming eq_none_or_eq_some -> bV, map_some -> bW, ne_none_iff_exists' -> aI
open Go.Proofs
def isN(k:Int):Bool:=decide (k=1)||(decide (k=2)||(decide (k=4)||decide (k=6)))
def isP(k:Int):Bool:=decide (k=2)||(decide (k=3)||decide (k=6))
def isE(k:Int):Bool:=decide (k=1)||(decide (k=3)||(decide (k=5)||decide (k=6)))
def stD(Bd:List St->Bool)(s:St):Bool:=if s.kind=5 then Bd s.thn&&Bd s.els else decide (1<=s.kind/\s.kind<=6)&&decide (s.thn.length+s.els.length=0)
def jN(s:St):Bool:=(if s.kind=4 then bj s.fn else decide (s.fn=bl [])&&decide (s.args.length=0))&&eG s.args
def stB(s:St):Bool:=(if isN s.kind then bj s.name else !bj s.name&&decide (s.name=bl []))&&((if isP s.kind then s.place.okB else s.place.noneB)&&(if isE s.kind then s.expr.okD 4 else s.expr.noneB))
def stA(s:St):Bool:=if s.kind=6 then s.other.okB else s.other.noneB
def cU(Bd:List St->Bool)(s:St):Bool:=stA s&&(stB s&&(jN s&&stD Bd s))
def bX:Nat->List St->Bool
 |0,_=>false
 |d+1,l=>decide (l.length<=40)&&l.all (cU (bX d))
def St.okB(d:Nat)(s:St):Bool:=cU (bX (d - 1)) s
section
variable {P:Program}{F:Ids}
theorem sD(L:Lib P F)(d:Nat)(hd:1<=d)(hd2:d<=100)(Bd:List St->Bool)(s:St)(hc:s.thn.length+s.els.length<=2^40)
(hB:∀l,(l=s.thn\/l=s.els)->cI P 159 [.sl 15 none (St.encs l),I ((d - 1:Nat):Int)] (B (Bd l))):cI P 149 [.agg s.enc,I d] (B (cU Bd s)):=by
 refine(L.a Tryz.func149 y149) (by simp[y149,f149]) ?_
 obtain⟨cs,hcs,C⟩:=stC s
 have w0:=aP (n:=(d:Int) - 1) (by omega) (by omega)
 have hd1:(d:Int) - 1=((d - 1:Nat):Int):=by omega
 rw[hd1]at w0
 have wl:=aP (n:=(s.thn.length:Int)+s.els.length) (by omega) (by omega)
 rw[hcs]
 simp only[y149,f149,go_sem,rE]
 intro b hb
 have g1:(aj.empty.set b (.cells cs)).get b=some (.cells cs):=ai _ _ _
 generalize aj.empty.set b (.cells cs)=H1 at*
 have back:∀(E:Env) (H:aj) (c:Bool),E 4=B c->c=cU Bd s->bh.post [.slot 4] (fun q H'=>q=B (cU Bd s)/\H'=aj.empty) .ret E H:=by
  rintro E H c e4 rfl
  exact ak (.refl _) (aj.sub_empty _) ⟨e4,rfl⟩
 have bad:∀(E:Env) (H:aj),cU Bd s=false->aT.wp P (.seq (rg [mv 0 4 cf]) .ret) (bh.post [.slot 4] fun q H'=>q=B (cU Bd s)/\H'=aj.empty) E H:=by
  intro E H h
  simp only[go_sem,rE]
  exact back _ _ false (rfl) h.symm
 have stepD:∀(E:Env) (H:aj),stA s=true->stB s=true->jN s=true->E 1=I d->E 2=.ptr b 0->H.get b=some (.cells cs)->
  aT.wp P (kd6) (bh.post [.slot 4] fun q H'=>q=B (cU Bd s)/\H'=aj.empty) E H:=by
  intro E H hA hB' hC e1 e2 g
  rw[kd6,fd6]
  have hres:cU Bd s=stD Bd s:=by simp only[cU,hA,hB',hC,bT]
  by_cases k5:s.kind=5
  ·have k5':(s.kind !=5)=false:=by simp[k5]
   simp only[go_sem,rE,rA,e1,e2,g,C.kind,k5',C.thn,w0,hd1]
   refine am (hB s.thn (.inl rfl)) (rfl) ?_
   cases ht:Bd s.thn
   ·simp only[go_sem,rE,rA]
    exact back _ _ false (rfl) (by rw[hres];simp[stD,k5,ht])
   ·simp only[go_sem,rE,rA,e1,e2,g,C.els,w0,hd1]
    refine am (hB s.els (.inr rfl)) (rfl) ?_
    simp only[go_sem,rE,rA]
    exact back _ _ (Bd s.els) (rfl) (by rw[hres];simp[stD,k5,ht])
  ·have k5':(s.kind !=5)=true:=by simpa using k5
   simp only[go_sem,rE,rA,e1,e2,g,C.kind,k5']
   refine am (qW L s.kind 1 6) (rfl) ?_
   by_cases hi:1<=s.kind/\s.kind<=6
   ·simp only[go_sem,rE,rA,hi,e2,g,C.thn,C.els,St.encs_map,ao,wl]
    refine back _ _ (((s.thn.length:Int)+s.els.length)==0) (rfl) ?_
    rw[hres];simp only[stD,k5,if_false,hi,and_self,decide_true,bT]
    rw[aX,beq_iff_eq,decide_eq_true_eq];omega
   ·simp only[go_sem,rE,rA,hi]
    exact back _ _ false (rfl) (by rw[hres];simp only[stD,k5,if_false,hi,decide_false,aL])
 have stepC:∀(E:Env) (H:aj),stA s=true->stB s=true->E 1=I d->E 2=.ptr b 0->H.get b=some (.cells cs)->
  aT.wp P (kd7) (bh.post [.slot 4] fun q H'=>q=B (cU Bd s)/\H'=aj.empty) E H:=by
  intro E H hA hB' e1 e2 g
  rw[kd7,fd7]
  have no:jN s=false->cU Bd s=false:=fun h=>by simp only[cU,h,aL,aM]
  by_cases k4:s.kind=4
  ·have k4':(s.kind==4)=true:=by simp[k4]
   have k4a:(s.kind !=4)=false:=by simp[k4]
   simp only[go_sem,rE,rA,e1,e2,g,C.kind,k4',C.fn]
   refine am (mf L s.fn) (rfl) ?_
   cases hn:bj s.fn
   ·simp only[go_sem,rE,rA]
    exact back _ _ false (rfl) (by rw[no (by simp[jN,k4,hn])])
   ·simp only[go_sem,rE,rA,e2,g,C.kind,k4a,C.args]
    refine am (ve L s.args) (rfl) ?_
    cases ha:eG s.args
    ·simp only[go_sem,rE,rA]
     exact back _ _ false (rfl) (by rw[no (by simp[jN,ha])])
    ·simp only[go_sem,rE,rA]
     exact stepD _ _ hA hB' (by simp[jN,k4,hn,ha]) (e1) (e2) g
  ·have k4':(s.kind==4)=false:=by simpa using k4
   have k4a:(s.kind !=4)=true:=by simpa using k4
   simp only[go_sem,rE,rA,e1,e2,g,C.kind,k4',k4a,C.fn]
   by_cases hf:s.fn=bl []
   ·simp only[go_sem,rE,rA,hf,e2,g,C.args,ao]
    by_cases hz:(s.args.length:Int)>0
    ·simp only[go_sem,rE,rA,hz]
     exact back _ _ false (rfl) (by rw[no (by simp only[jN,k4,if_false,hf,decide_true,bT,cH,decide_eq_false_iff_not];exact .inl (by omega))])
    ·simp only[go_sem,rE,rA,hz,e2,g,C.args]
     refine am (ve L s.args) (rfl) ?_
     cases ha:eG s.args
     ·simp only[go_sem,rE,rA]
      exact back _ _ false (rfl) (by rw[no (by simp[jN,ha])])
     ·simp only[go_sem,rE,rA]
      exact stepD _ _ hA hB' (by simp only[jN,k4,if_false,hf,decide_true,bT,ha,fC,decide_eq_true_eq];omega) (e1) (e2) g
   ·simp only[go_sem,rE,rA,hf]
    exact back _ _ false (rfl) (by rw[no (by simp[jN,k4,hf])])
 have stepB:∀(E:Env) (H:aj),stA s=true->E 1=I d->E 2=.ptr b 0->E 6=B (isN s.kind)->E 7=B (isP s.kind)->E 8=B (isE s.kind)->H.get b=some (.cells cs)->
  aT.wp P (kd8) (bh.post [.slot 4] fun q H'=>q=B (cU Bd s)/\H'=aj.empty) E H:=by
  intro E H hA e1 e2 e6 e7 e8 g
  rw[kd8,fd8]
  have no:stB s=false->cU Bd s=false:=fun h=>by simp only[cU,h,aL,aM]
  have last:∀(K:cE->Env->aj->Prop),True:=fun _=>trivial
  simp only[go_sem,rE,rA,e2,e6,g,C.name]
  refine am (mf L s.name) (rfl) ?_
  cases hN:isN s.kind<;>cases hn:bj s.name
  ·
   rw[hN]at e6
   by_cases hs:s.name=bl []
   ·have hpre:(if isN s.kind then bj s.name else !bj s.name&&decide (s.name=bl []))=true:=by rw[hN,hn,hs];simp
    cases hP:isP s.kind<;>rw[hP]at e7
    ·simp only[go_sem,rE,rA,e2,e6,e7,e8,g,C.name,hs,C.len,rL,C.place,C.expr]
     refine am (jp L s.place) (by simp only[go_sem,rE,Pl.enc]) ?_
     cases hp:s.place.noneB
     ·simp only[go_sem,rE,rA]
      exact back _ _ false (rfl) (by rw[no (by simp only[stB,hpre,hP,hp,if_true,if_false,aq,aL,aM])])
     ·cases hE:isE s.kind<;>rw[hE]at e8
      ·simp only[go_sem,rE,rA,e2,e6,e7,e8,g,C.name,hs,C.len,rL,C.place,C.expr]
       refine am (iZ L s.expr) (rfl) ?_
       cases hx:s.expr.noneB
       ·simp only[go_sem,rE,rA]
        exact back _ _ false (rfl) (by rw[no (by simp only[stB,hpre,hP,hp,hE,hx,if_true,if_false,aq,aL,aM])])
       ·simp only[go_sem,rE,rA,e8]
        exact stepC _ _ hA (by simp only[stB,hpre,hP,hp,hE,hx,if_true,if_false,aq,fD]) (e1) (e2) g
      ·simp only[go_sem,rE,rA,e2,e6,e7,e8,g,C.name,hs,C.len,rL,C.place,C.expr]
       refine am (kO L 4 (by omega) s.expr) (rfl) ?_
       cases hx:s.expr.okD 4
       ·simp only[go_sem,rE,rA]
        exact back _ _ false (rfl) (by rw[no (by simp only[stB,hpre,hP,hp,hE,hx,if_true,if_false,aq,aL,aM])])
       ·simp only[go_sem,rE,rA,e8]
        exact stepC _ _ hA (by simp only[stB,hpre,hP,hp,hE,hx,if_true,if_false,aq,fD]) (e1) (e2) g
    ·simp only[go_sem,rE,rA,e2,e6,e7,e8,g,C.name,hs,C.len,rL,C.place,C.expr]
     refine am (jL L s.place) (by simp only[go_sem,rE,Pl.enc]) ?_
     cases hp:s.place.okB
     ·simp only[go_sem,rE,rA]
      exact back _ _ false (rfl) (by rw[no (by simp only[stB,hpre,hP,hp,if_true,if_false,aq,aL,aM])])
     ·cases hE:isE s.kind<;>rw[hE]at e8
      ·simp only[go_sem,rE,rA,e2,e6,e7,e8,g,C.name,hs,C.len,rL,C.place,C.expr]
       refine am (iZ L s.expr) (rfl) ?_
       cases hx:s.expr.noneB
       ·simp only[go_sem,rE,rA]
        exact back _ _ false (rfl) (by rw[no (by simp only[stB,hpre,hP,hp,hE,hx,if_true,if_false,aq,aL,aM])])
       ·simp only[go_sem,rE,rA,e8]
        exact stepC _ _ hA (by simp only[stB,hpre,hP,hp,hE,hx,if_true,if_false,aq,fD]) (e1) (e2) g
      ·simp only[go_sem,rE,rA,e2,e6,e7,e8,g,C.name,hs,C.len,rL,C.place,C.expr]
       refine am (kO L 4 (by omega) s.expr) (rfl) ?_
       cases hx:s.expr.okD 4
       ·simp only[go_sem,rE,rA]
        exact back _ _ false (rfl) (by rw[no (by simp only[stB,hpre,hP,hp,hE,hx,if_true,if_false,aq,aL,aM])])
       ·simp only[go_sem,rE,rA,e8]
        exact stepC _ _ hA (by simp only[stB,hpre,hP,hp,hE,hx,if_true,if_false,aq,fD]) (e1) (e2) g
   ·simp only[go_sem,rE,rA,e2,e6,g,C.name,hs]
    exact back _ _ false (rfl) (by rw[no (by simp[stB,hN,hs])])
  ·simp only[go_sem,rE,rA]
   exact back _ _ false (rfl) (by rw[no (by simp[stB,hN,hn])])
  ·simp only[go_sem,rE,rA]
   exact back _ _ false (rfl) (by rw[no (by simp[stB,hN,hn])])
  ·rw[hN]at e6
   have hpre:(if isN s.kind then bj s.name else !bj s.name&&decide (s.name=bl []))=true:=by rw[hN,hn];rfl
   cases hP:isP s.kind<;>rw[hP]at e7
   ·simp only[go_sem,rE,rA,e2,e6,e7,e8,g,C.name,C.len,rL,C.place,C.expr]
    refine am (jp L s.place) (by simp only[go_sem,rE,Pl.enc]) ?_
    cases hp:s.place.noneB
    ·simp only[go_sem,rE,rA]
     exact back _ _ false (rfl) (by rw[no (by simp only[stB,hpre,hP,hp,if_true,if_false,aq,aL,aM])])
    ·cases hE:isE s.kind<;>rw[hE]at e8
     ·simp only[go_sem,rE,rA,e2,e6,e7,e8,g,C.name,C.len,rL,C.place,C.expr]
      refine am (iZ L s.expr) (rfl) ?_
      cases hx:s.expr.noneB
      ·simp only[go_sem,rE,rA]
       exact back _ _ false (rfl) (by rw[no (by simp only[stB,hpre,hP,hp,hE,hx,if_true,if_false,aq,aL,aM])])
      ·simp only[go_sem,rE,rA,e8]
       exact stepC _ _ hA (by simp only[stB,hpre,hP,hp,hE,hx,if_true,if_false,aq,fD]) (e1) (e2) g
     ·simp only[go_sem,rE,rA,e2,e6,e7,e8,g,C.name,C.len,rL,C.place,C.expr]
      refine am (kO L 4 (by omega) s.expr) (rfl) ?_
      cases hx:s.expr.okD 4
      ·simp only[go_sem,rE,rA]
       exact back _ _ false (rfl) (by rw[no (by simp only[stB,hpre,hP,hp,hE,hx,if_true,if_false,aq,aL,aM])])
      ·simp only[go_sem,rE,rA,e8]
       exact stepC _ _ hA (by simp only[stB,hpre,hP,hp,hE,hx,if_true,if_false,aq,fD]) (e1) (e2) g
   ·simp only[go_sem,rE,rA,e2,e6,e7,e8,g,C.name,C.len,rL,C.place,C.expr]
    refine am (jL L s.place) (by simp only[go_sem,rE,Pl.enc]) ?_
    cases hp:s.place.okB
    ·simp only[go_sem,rE,rA]
     exact back _ _ false (rfl) (by rw[no (by simp only[stB,hpre,hP,hp,if_true,if_false,aq,aL,aM])])
    ·cases hE:isE s.kind<;>rw[hE]at e8
     ·simp only[go_sem,rE,rA,e2,e6,e7,e8,g,C.name,C.len,rL,C.place,C.expr]
      refine am (iZ L s.expr) (rfl) ?_
      cases hx:s.expr.noneB
      ·simp only[go_sem,rE,rA]
       exact back _ _ false (rfl) (by rw[no (by simp only[stB,hpre,hP,hp,hE,hx,if_true,if_false,aq,aL,aM])])
      ·simp only[go_sem,rE,rA,e8]
       exact stepC _ _ hA (by simp only[stB,hpre,hP,hp,hE,hx,if_true,if_false,aq,fD]) (e1) (e2) g
     ·simp only[go_sem,rE,rA,e2,e6,e7,e8,g,C.name,C.len,rL,C.place,C.expr]
      refine am (kO L 4 (by omega) s.expr) (rfl) ?_
      cases hx:s.expr.okD 4
      ·simp only[go_sem,rE,rA]
       exact back _ _ false (rfl) (by rw[no (by simp only[stB,hpre,hP,hp,hE,hx,if_true,if_false,aq,aL,aM])])
      ·simp only[go_sem,rE,rA,e8]
       exact stepC _ _ hA (by simp only[stB,hpre,hP,hp,hE,hx,if_true,if_false,aq,fD]) (e1) (e2) g
 have stepA:∀(E:Env) (H:aj),E 1=I d->E 2=.ptr b 0->E 5=B (decide (s.kind=6))->E 6=B (isN s.kind)->E 7=B (isP s.kind)->E 8=B (isE s.kind)->H.get b=some (.cells cs)->
  aT.wp P (kd9) (bh.post [.slot 4] fun q H'=>q=B (cU Bd s)/\H'=aj.empty) E H:=by
  intro E H e1 e2 e5 e6 e7 e8 g
  rw[kd9,fd9]
  have no:stA s=false->cU Bd s=false:=fun h=>by simp only[cU,h,aL]
  by_cases k6:s.kind=6
  ·simp only[k6,decide_true]at e5
   simp only[go_sem,rE,rA,e2,e5,g,C.len,rL,C.other]
   refine am (jL L s.other) (by simp only[go_sem,rE,Pl.enc]) ?_
   cases hp:s.other.okB
   ·simp only[go_sem,rE,rA,e5]
    exact back _ _ false (rfl) (by rw[no (by simp only[stA,k6,hp,if_true])])
   ·simp only[go_sem,rE,rA,e5]
    exact stepB _ _ (by simp only[stA,k6,hp,if_true]) (e1) (e2) (e6) (e7) (e8) g
  ·simp only[k6,decide_false]at e5
   simp only[go_sem,rE,rA,e2,e5,g,C.len,rL,C.other]
   refine am (jp L s.other) (by simp only[go_sem,rE,Pl.enc]) ?_
   cases hp:s.other.noneB
   ·simp only[go_sem,rE,rA,e5]
    exact back _ _ false (rfl) (by rw[no (by simp only[stA,k6,hp,if_false])])
   ·simp only[go_sem,rE,rA,e5]
    exact stepB _ _ (by simp only[stA,k6,hp,if_false]) (e1) (e2) (e6) (e7) (e8) g
 have k1:(s.kind==1)=decide (s.kind=1):=by rw[aX,beq_iff_eq,decide_eq_true_eq]
 have k2:(s.kind==2)=decide (s.kind=2):=by rw[aX,beq_iff_eq,decide_eq_true_eq]
 have k3:(s.kind==3)=decide (s.kind=3):=by rw[aX,beq_iff_eq,decide_eq_true_eq]
 have k4:(s.kind==4)=decide (s.kind=4):=by rw[aX,beq_iff_eq,decide_eq_true_eq]
 have k5:(s.kind==5)=decide (s.kind=5):=by rw[aX,beq_iff_eq,decide_eq_true_eq]
 have k6:(s.kind==6)=decide (s.kind=6):=by rw[aX,beq_iff_eq,decide_eq_true_eq]
 have all:∀k:Int,(k=1\/k=2\/k=3\/k=4\/k=5\/k=6\/(¬k=1/\¬k=2/\¬k=3/\¬k=4/\¬k=5/\¬k=6)):=by intro k;omega
 have ck:=C.kind
 rcases all s.kind with h|h|h|h|h|h|⟨h1,h2,h3,h4,h5,h6⟩
 ·rw[h]at k1 k2 k3 k4 k5 k6 stepA ck
  simp only[aF,bm,decide_true,decide_false]at k1 k2 k3 k4 k5 k6
  simp only[go_sem,rE,rA,g1,ck,aF]
  exact stepA _ _ (by simp[go_sem]) (by simp[go_sem]) (by simp[go_sem]) (by simp[go_sem,isN]) (by simp[go_sem,isP]) (by simp[go_sem,isE]) g1
 ·rw[h]at k1 k2 k3 k4 k5 k6 stepA ck
  simp only[aF,bm,decide_true,decide_false]at k1 k2 k3 k4 k5 k6
  simp only[go_sem,rE,rA,g1,ck,aF]
  exact stepA _ _ (by simp[go_sem]) (by simp[go_sem]) (by simp[go_sem]) (by simp[go_sem,isN]) (by simp[go_sem,isP]) (by simp[go_sem,isE]) g1
 ·rw[h]at k1 k2 k3 k4 k5 k6 stepA ck
  simp only[aF,bm,decide_true,decide_false]at k1 k2 k3 k4 k5 k6
  simp only[go_sem,rE,rA,g1,ck,aF]
  exact stepA _ _ (by simp[go_sem]) (by simp[go_sem]) (by simp[go_sem]) (by simp[go_sem,isN]) (by simp[go_sem,isP]) (by simp[go_sem,isE]) g1
 ·rw[h]at k1 k2 k3 k4 k5 k6 stepA ck
  simp only[aF,bm,decide_true,decide_false]at k1 k2 k3 k4 k5 k6
  simp only[go_sem,rE,rA,g1,ck,aF]
  exact stepA _ _ (by simp[go_sem]) (by simp[go_sem]) (by simp[go_sem]) (by simp[go_sem,isN]) (by simp[go_sem,isP]) (by simp[go_sem,isE]) g1
 ·rw[h]at k1 k2 k3 k4 k5 k6 stepA ck
  simp only[aF,bm,decide_true,decide_false]at k1 k2 k3 k4 k5 k6
  simp only[go_sem,rE,rA,g1,ck,aF]
  exact stepA _ _ (by simp[go_sem]) (by simp[go_sem]) (by simp[go_sem]) (by simp[go_sem,isN]) (by simp[go_sem,isP]) (by simp[go_sem,isE]) g1
 ·rw[h]at k1 k2 k3 k4 k5 k6 stepA ck
  simp only[aF,bm,decide_true,decide_false]at k1 k2 k3 k4 k5 k6
  simp only[go_sem,rE,rA,g1,ck,aF]
  exact stepA _ _ (by simp[go_sem]) (by simp[go_sem]) (by simp[go_sem]) (by simp[go_sem,isN]) (by simp[go_sem,isP]) (by simp[go_sem,isE]) g1
 ·simp only[h1,h2,h3,h4,h5,h6,decide_false]at k1 k2 k3 k4 k5 k6
  simp only[go_sem,rE,rA,g1,ck,k1,k2,k3,k4,k5,k6]
  exact stepA _ _ (by simp[go_sem]) (by simp[go_sem]) (by simp[go_sem,h6]) (by simp[go_sem,isN,h1,h2,h4,h6]) (by simp[go_sem,isP,h2,h3,h6]) (by simp[go_sem,isE,h1,h3,h5,h6]) g1
end
mutual
def St.num:St->Nat
 |.mk _ _ _ _ _ _ _ t l=>1+bH t+bH l
def bH:List St->Nat
 |[]=>0
 |s::l=>s.num+bH l
end
theorem kP(s:St):s.num=1+bH s.thn+bH s.els:=by cases s;rw[St.num];rfl
theorem fO:bH []=0:=by rw[bH]
theorem fX(s:St)(l:List St):bH (s::l)=s.num+bH l:=by rw[bH]
theorem mh(a b:List St):bH (a++b)=bH a+bH b:=by
 induction a with
 |nil=>simp[fO]
 |cons s a ih=>rw[cq,fX,fX,ih];omega
theorem sJ:∀(n:Nat),(∀s:St,s.cnt<=n->s.num<=s.cnt)/\∀l:List St,bq l<=n->bH l<=bq l:=by
 intro n
 induction n with
 |zero=>
  refine⟨fun s h=>by rw[dx]at h;omega,fun l h=>?_⟩
  cases l with
  |nil=>rw[fO];omega
  |cons s l=>rw[cQ,dx]at h;omega
 |succ n ih=>
  have stm:∀s:St,s.cnt<=n+1->s.num<=s.cnt:=by
   intro s h
   rw[dx]at h⊢
   rw[kP]
   have:=ih.2 s.thn (by omega)
   have:=ih.2 s.els (by omega)
   omega
  refine⟨stm,fun l=>?_⟩
  induction l with
  |nil=>intro h;rw[fO];omega
  |cons s l ihl=>
   intro h
   rw[cQ]at h⊢
   rw[fX]
   have:=stm s (by omega)
   have:=ihl (by omega)
   omega
theorem rk(l:List St):l.length<=bH l:=by
 induction l with
 |nil=>simp
 |cons s l ih=>rw[fX,kP,aR];omega
def Pa.okB(p:Pa):Bool:=bj p.name&&p.type.okB
def Fu.okB(f:Fu):Bool:=bj f.name&&(decide (f.params.length<=4)&&(f.type.okB&&(bX 4 f.body&&(decide (bH f.body<=40)&&(f.params.all Pa.okB&&
 (if f.lent then f.gives.okB&&f.says.noneB else f.gives.noneB&&f.says.okD 4))))))
def eS(p:Pg):Bool:=decide (p.length<=5)&&p.all Fu.okB
theorem tt{l:List St}{s:St}(h:s∈l):s.cnt<=bq l:=by
 induction l with
 |nil=>simp at h
 |cons x l ih=>
  rw[cQ]
  rcases bi.1 h with rfl|h
  ·omega
  ·have:=ih h;omega
theorem vN{l:List St}{k:Nat}(h:k<l.length):(l.map St.enc)[k]?=some l[k].enc:=by simp[h]
theorem zN(s:St):s.enc.length=15:=by rw[St.enc_eq];rfl
theorem st_take(s:St):s.enc.take 15=s.enc:=by rw[St.enc_eq];rfl
section
variable {P:Program}{F:Ids}
theorem qX(L:Lib P F):∀(d:Nat),d<=100->∀(l:List St),bq l<=2^30->cI P 159 [.sl 15 none (St.encs l),I d] (B (bX d l)):=by
 intro d
 induction d with
 |zero=>
  intro _ l hl
  refine(L.a Tryz.func159 xS) (by simp[xS]) ?_
  simp only[xS,go_sem,rE,dg,Int.reduceLT]
  exact ak (.refl _) (aj.sub_empty _) ⟨by simp only[go_sem,bX],rfl⟩
 |succ d ih=>
  intro hd l hl
  have ih:=ih (by omega)
  refine(L.a Tryz.func159 xS) (by simp[xS]) ?_
  have h1:¬((d+1:Nat):Int)<1:=by omega
  simp only[xS,go_sem,rE,h1,St.encs_map,ao]
  refine aH (fun hgt=>?_) (fun hle=>?_)
  ·simp only[go_sem,rE]
   refine ak (.refl _) (aj.sub_empty _) ⟨?_,rfl⟩
   have:bX (d+1) l=false:=by simp only[bX,cH,decide_eq_false_iff_not];exact .inl (by omega)
   simp only[go_sem,this]
  ·simp only[go_sem,rE]
   refine aV l.length (fun k E H=>E 0=.sl 15 none (l.map St.enc)/\E 1=I (d+1:Nat)/\E 5=I k/\(l.take k).all (cU (bX d))=true) ⟨rfl,rfl,rfl,by simp⟩ ?_
   rintro k E H hk ⟨e0,e1,e5,hall⟩
   simp only[go_sem,rE,e0,e5,ao]
   refine aH (fun hlt=>?_) (fun hge=>?_)
   ·have hk1:k<l.length:=by omega
    have w1:=aP (n:=(k:Int)+1) (by omega) (by omega)
    have hm:=tt (az hk1)
    rw[dx]at hm
    have ht:=iD l[k].thn
    have hel:=iD l[k].els
    simp only[go_sem,rE,e0,e1,e5,vN hk1,zN,st_take]
    refine am (sD L (d+1) (by omega) hd (bX d) l[k] (by omega) ?_) (rfl) ?_
    ·intro x hx
     rw[Nat.add_sub_cancel]
     rcases hx with rfl|rfl
     ·exact ih _ (by omega)
     ·exact ih _ (by omega)
    ·cases ho:cU (bX d) l[k]
     ·simp only[go_sem,rE]
      refine ak (.refl _) (aj.sub_empty _) ⟨?_,rfl⟩
      have:l.all (cU (bX d))=false:=by rw[dj];exact⟨_,az hk1,by rw[ho];exact fB⟩
      simp only[go_sem,bX,this,aM]
     ·simp only[go_sem,rE,e5,w1]
      refine⟨hk1,H,aj.sub_refl _,e0,e1,by simp,?_⟩
      rw[aC hk1,eD,hall]
      simp[ho]
   ·have hkk:k=l.length:=by omega
    subst hkk
    rw[aW]at hall
    simp only[go_sem,rE]
    refine ak (.refl _) (aj.sub_empty _) ⟨?_,rfl⟩
    have:bX (d+1) l=true:=by simp only[bX,hall,fC,decide_eq_true_eq];omega
    simp only[go_sem,this]
theorem AT(L:Lib P F)(d:Nat)(hd:1<=d)(hd2:d<=100)(s:St)(hc:s.cnt<=2^30):cI P 149 [.agg s.enc,I d] (B (s.okB d)):=by
 rw[dx]at hc
 have ht:=iD s.thn
 have hel:=iD s.els
 refine sD L d hd hd2 (bX (d - 1)) s (by omega) ?_
 rintro l (rfl|rfl)
 ·exact qX L _ (by omega) _ (by omega)
 ·exact qX L _ (by omega) _ (by omega)
theorem yZ(L:Lib P F):∀(n:Nat),n<=2^30->∀(l:List St),bq l<=n->cI P 160 [.sl 15 none (St.encs l)] (I (bH l)):=by
 intro n
 induction n with
 |zero=>
  intro _ l hl
  have:l=[]:=by
   cases l with
   |nil=>rfl
   |cons s l=>rw[cQ,dx]at hl;omega
  subst this
  refine(L.a Tryz.func160 xR) (by simp[xR]) ?_
  simp only[xR,go_sem,rE,St.encs_map,ao]
  refine aV 0 (fun k E H=>E 0=.sl 15 none []/\E 3=I 0/\E 4=I 0) ⟨rfl,rfl,rfl⟩ ?_
  rintro k E H - ⟨e0,e3,e4⟩
  simp only[go_sem,rE,e0,e4]
  refine aH (fun h=>absurd h (by decide)) (fun _=>?_)
  simp only[go_sem,rE,e3]
  exact ak (.refl _) (aj.sub_empty _) ⟨by simp only[go_sem,fO];rfl,rfl⟩
 |succ n ih=>
  intro hn l hl
  have ih:=ih (by omega)
  have hlen:=iD l
  refine(L.a Tryz.func160 xR) (by simp[xR]) ?_
  simp only[xR,go_sem,rE,St.encs_map,ao]
  have hnl:=(sJ (n+1)).2 l hl
  refine aV l.length (fun k E H=>E 0=.sl 15 none (l.map St.enc)/\E 3=I ((l.length - k+bH (l.take k):Nat):Int)/\E 4=I k) ⟨rfl,by simp[go_sem,fO],rfl⟩ ?_
  rintro k E H hk ⟨e0,e3,e4⟩
  simp only[go_sem,rE,e0,e4,ao]
  refine aH (fun hlt=>?_) (fun hge=>?_)
  ·have hk1:k<l.length:=by omega
   have w1:=aP (n:=(k:Int)+1) (by omega) (by omega)
   have hm:=tt (az hk1)
   rw[dx]at hm
   obtain⟨cs,hcs,C⟩:=stC l[k]
   have hg:(l.map St.enc)[k]?=some cs:=by rw[<-hcs];exact vN hk1
   have hsplit:bH l=bH (l.take k)+(l[k].num+bH (l.drop (k+1))):=by
    conv=>lhs;rw[<-ic k l]
    rw[mh,bO hk1,fX]
   have htk:bH (l.take (k+1))=bH (l.take k)+l[k].num:=by
    rw[aC hk1,mh,fX,fO];omega
   have hld:=rk (l.drop (k+1))
   rw[eV]at hld
   rw[kP]at hsplit htk
   have w2:=aP (n:=((l.length - k+bH (l.take k):Nat):Int)+(bH l[k].thn:Nat)) (by omega) (by omega)
   have w3:=aP (n:=((l.length - k+bH (l.take k):Nat):Int)+(bH l[k].thn:Nat)+(bH l[k].els:Nat)) (by omega) (by omega)
   have c13:(cs.drop 13)[0]?=some (.sl 15 none (St.encs l[k].thn)):=by rw[bU];exact C.thn
   have c14:(cs.drop 14)[0]?=some (.sl 15 none (St.encs l[k].els)):=by rw[bU];exact C.els
   simp only[go_sem,rE,e0,e3,e4,hg,c13]
   refine am (ih l[k].thn (by omega)) (rfl) ?_
   simp only[go_sem,rE,e0,e3,e4,hg,c14,w2]
   refine am (ih l[k].els (by omega)) (rfl) ?_
   simp only[go_sem,rE,e0,e3,e4,w2,w3,w1]
   exact⟨hk1,H,aj.sub_refl _,congrArg (fun z:Int=>I z) (by rw[htk];omega),rfl⟩
  ·have hkk:k=l.length:=by omega
   subst hkk
   rw[aW]at e3
   simp only[go_sem,rE,e3]
   exact ak (.refl _) (aj.sub_empty _) ⟨by simp only[go_sem];exact congrArg (fun z:Int=>I z) (by omega),rfl⟩
end
section
variable {P:Program}{F:Ids}
theorem c_l2Fn(L:Lib P F)(f:Fu)(hc:bq f.body<=2^30):cI P 100 [.agg f.enc] (B f.okB):=by
 refine(L.a Tryz.func100 y100) (by simp[y100]) ?_
 obtain⟨cs,hcs,C⟩:=fuC f
 rw[hcs]
 simp only[y100,go_sem,rE,C.name]
 intro b hb
 have g1:(aj.empty.set b (.cells cs)).get b=some (.cells cs):=ai _ _ _
 generalize aj.empty.set b (.cells cs)=H1 at*
 have back:∀(E:Env) (H:aj) (c:Bool),E 2=B c->c=f.okB->bh.post [.slot 2] (fun q H'=>q=B f.okB/\H'=aj.empty) .ret E H:=by
  rintro E H c e4 rfl
  exact ak (.refl _) (aj.sub_empty _) ⟨e4,rfl⟩
 have cp1:cs[1]?=some (.sl 3 none (f.params.map Pa.enc)):=C.params
 have hnum:=(sJ _).2 f.body (aA _)
 refine am (mf L f.name) (rfl) ?_
 cases hn:bj f.name
 ·simp only[go_sem,rE,rA]
  exact back _ _ false (rfl) (by simp only[Fu.okB,hn,aL])
 ·by_cases h4:(f.params.length:Int)>4
  ·simp only[go_sem,rE,rA,g1,cp1,ao,h4]
   refine back _ _ false (rfl) ?_
   have:decide (f.params.length<=4)=false:=by simp;omega
   simp only[Fu.okB,this,aL,aM]
  ·have h4':decide (f.params.length<=4)=true:=by simp;omega
   simp only[go_sem,rE,rA,g1,cp1,ao,h4,C.len,C.type,rL]
   refine am (ox L f.type) (rfl) ?_
   cases ht:f.type.okB
   ·simp only[go_sem,rE,rA]
    exact back _ _ false (rfl) (by simp only[Fu.okB,ht,aL,aM])
   ·simp only[go_sem,rE,rA,g1,C.body]
    refine am (qX L 4 (by omega) f.body hc) (rfl) ?_
    cases hbd:bX 4 f.body
    ·simp only[go_sem,rE,rA]
     exact back _ _ false (rfl) (by simp only[Fu.okB,hbd,aL,aM])
    ·simp only[go_sem,rE,rA,g1,C.body]
     refine am (yZ L _ hc f.body (aA _)) (rfl) ?_
     by_cases h40:(bH f.body:Int)>40
     ·simp only[go_sem,rE,rA,h40]
      refine back _ _ false (rfl) ?_
      have:decide (bH f.body<=40)=false:=by simp;omega
      simp only[Fu.okB,this,aL,aM]
     ·have h40':decide (bH f.body<=40)=true:=by simp;omega
      have hpre:f.okB=(f.params.all Pa.okB&&(if f.lent then f.gives.okB&&f.says.noneB else f.gives.noneB&&f.says.okD 4)):=by simp only[Fu.okB,hn,h4',ht,hbd,h40',bT]
      simp only[go_sem,rE,rA,h40]
      refine aV f.params.length (fun k E H=>E 1=.ptr b 0/\E 3=I k/\H.get b=some (.cells cs)/\(f.params.take k).all Pa.okB=true) ⟨rfl,rfl,g1,by simp⟩ ?_
      rintro k E H hk ⟨e1,e3,g1,hall⟩
      simp only[wp_seq,go_sem,rE,rA,e1,e3,g1,cp1,ao]
      refine aH (fun hlt=>?_) (fun hge=>?_)
      ·have hk1:k<f.params.length:=by omega
       have w1:=aP (n:=(k:Int)+1) (by omega) (by omega)
       obtain⟨cp,hcp,CP⟩:=paC f.params[k]
       have hgp:(f.params.map Pa.enc)[k]?=some cp:=by rw[<-hcp];simp[hk1]
       have no:f.params[k].okB=false->f.okB=false:=by
        intro h
        have:f.params.all Pa.okB=false:=by rw[dj];exact⟨_,az hk1,by rw[h];exact fB⟩
        rw[hpre,this,aL]
       have yes:f.params[k].okB=true->(f.params.take (k+1)).all Pa.okB=true:=by
        intro h
        rw[aC hk1,eD,hall];simp[h]
       have goE:f.params[k].okB=(bj f.params[k].name&&f.params[k].type.okB):=rfl
       generalize f.params[k]=p at*
       simp only[go_sem,rE,rA,e1,e3,g1,cp1,hgp,CP.name]
       refine am (mf L p.name) (rfl) ?_
       cases hpn:bj p.name
       ·simp only[go_sem,rE,rA]
        exact back _ _ false (rfl) (by rw[no (by rw[goE,hpn];rfl)])
       ·simp only[go_sem,rE,rA,e1,e3,g1,cp1,hgp,CP.len,CP.type,eV,kQ,rL]
        refine am (ox L p.type) (rfl) ?_
        cases hpt:p.type.okB
        ·simp only[go_sem,rE,rA]
         exact back _ _ false (rfl) (by rw[no (by rw[goE,hpn,hpt];rfl)])
        ·simp only[go_sem,rE,rA,e3,w1]
         exact⟨hk1,H,aj.sub_refl _,e1,by simp,g1,yes (by rw[goE,hpn,hpt];rfl)⟩
      ·have hkk:k=f.params.length:=by omega
       subst hkk
       rw[aW]at hall
       rw[hall,bT]at hpre
       have cl:=C.lent
       cases hl:f.lent
       ·rw[hl]at cl hpre
        simp only[go_sem,rE,rA,e1,g1,cl,C.len,C.gives,rL]
        refine am (jp L f.gives) (by simp only[go_sem,rE,Pl.enc]) ?_
        cases hg:f.gives.noneB
        ·simp only[go_sem,rE,rA]
         exact back _ _ false (rfl) (by rw[hpre,hg];rfl)
        ·simp only[go_sem,rE,rA,e1,g1,C.len,C.says,rL]
         refine am (kO L 4 (by omega) f.says) (rfl) ?_
         simp only[go_sem,rE,rA]
         exact back _ _ (f.says.okD 4) (rfl) (by rw[hpre,hg];rfl)
       ·rw[hl]at cl hpre
        simp only[go_sem,rE,rA,e1,g1,cl,C.len,C.gives,rL]
        refine am (jL L f.gives) (by simp only[go_sem,rE,Pl.enc]) ?_
        cases hg:f.gives.okB
        ·simp only[go_sem,rE,rA]
         exact back _ _ false (rfl) (by rw[hpre,hg];rfl)
        ·simp only[go_sem,rE,rA,e1,g1,C.len,C.says,rL]
         refine am (iZ L f.says) (rfl) ?_
         simp only[go_sem,rE,rA]
         exact back _ _ f.says.noneB (rfl) (by rw[hpre,hg];rfl)
theorem nC(f:Fu):f.enc.length=12:=by rw[Fu.enc_eq];rfl
theorem fu_take(f:Fu):f.enc.take 12=f.enc:=by rw[Fu.enc_eq];rfl
theorem AU(L:Lib P F)(p:Pg)(hc:∀f∈p,bq f.body<=2^30):cI P 56 [.agg (Pg.enc p)] (B (eS p)):=by
 refine(L.a Tryz.func56 y56) (by simp[y56]) ?_
 simp only[y56,go_sem,rE,Pg.enc,ao]
 intro b hb
 have g1:(aj.empty.set b (.cells [.sl 12 none (p.map Fu.enc)])).get b=some (.cells [.sl 12 none (p.map Fu.enc)]):=ai _ _ _
 refine aH (fun hgt=>?_) (fun hle=>?_)
 ·simp only[go_sem,rE]
  refine ak (.refl _) (aj.sub_empty _) ⟨?_,rfl⟩
  have:eS p=false:=by simp only[eS,cH,decide_eq_false_iff_not];exact .inl (by omega)
  simp only[go_sem,this]
 ·simp only[go_sem,rE]
  refine aV p.length (fun k E H=>E 1=.ptr b 0/\E 3=I k/\H.get b=some (.cells [.sl 12 none (p.map Fu.enc)])/\(p.take k).all Fu.okB=true) ⟨rfl,rfl,g1,by simp⟩ ?_
  rintro k E H hk ⟨e1,e3,g1,hall⟩
  simp only[go_sem,rE,rA,e1,e3,g1,ao]
  refine aH (fun hlt=>?_) (fun hge=>?_)
  ·have hk1:k<p.length:=by omega
   have w1:=aP (n:=(k:Int)+1) (by omega) (by omega)
   simp only[go_sem,rE,rA,e1,e3,g1,tp hk1,nC,fu_take]
   refine am (c_l2Fn L p[k] (hc _ (az hk1))) (rfl) ?_
   cases ho:p[k].okB
   ·simp only[go_sem,rE]
    refine ak (.refl _) (aj.sub_empty _) ⟨?_,rfl⟩
    have:p.all Fu.okB=false:=by rw[dj];exact⟨_,az hk1,by rw[ho];exact fB⟩
    simp only[go_sem,eS,this,aM]
   ·simp only[go_sem,rE,e3,w1]
    refine⟨hk1,H,aj.sub_refl _,e1,by simp,g1,?_⟩
    rw[aC hk1,eD,hall]
    simp[ho]
  ·have hkk:k=p.length:=by omega
   subst hkk
   rw[aW]at hall
   simp only[go_sem,rE]
   refine ak (.refl _) (aj.sub_empty _) ⟨?_,rfl⟩
   have:eS p=true:=by simp only[eS,hall,fC,decide_eq_true_eq];omega
   simp only[go_sem,this]
end
section
variable {P:Program}{F:Ids}
theorem gW(L:Lib P F)(s:ByteArray):cI P 103 [S s] (B (bj s)):=by
 refine(L.a Tryz.func103 zw) (by simp[zw]) ?_
 have hsz:s.data.toList.length=s.size:=rfl
 by_cases h1:s.size<1
 ·have h1':(s.size:Int)<1:=by omega
  simp only[zw,go_sem,rE,h1',decide_true]
  exact ak (.refl _) (aj.sub_empty _) ⟨by simp only[go_sem,bj];simp;omega,rfl⟩
 ·have h1':¬(s.size:Int)<1:=by omega
  by_cases h6:s.size>6
  ·have h6':(s.size:Int)>6:=by omega
   simp only[zw,go_sem,rE,h1',h6',decide_true,decide_false]
   refine ak (.refl _) (aj.sub_empty _) ⟨?_,rfl⟩
   have:bj s=false:=by
    simp only[bj,cH,decide_eq_false_iff_not];exact .inr (.inl (by omega))
   simp only[go_sem,this]
  ·have h6':¬(s.size:Int)>6:=by omega
   simp only[zw,go_sem,rE,h1',h6',decide_false]
   refine aV s.size (fun k E H=>E 0=S s/\E 13=I s.size/\E 14=I k/\(s.data.toList.take k).all iU=true) ⟨rfl,rfl,rfl,by simp⟩ ?_
   rintro k E H hk ⟨e0,e13,e14,hall⟩
   simp only[wp_seq,go_sem,rE,e0,e13,e14]
   refine aH (fun hlt=>?_) (fun hge=>?_)
   ·have hk1:k<s.size:=by omega
    have w1:=aP (n:=(k:Int)+1) (by omega) (by omega)
    have hb:=vj hk1
    have htk:s.data.toList.take (k+1)=s.data.toList.take k++[s.data.toList[k]]:=aC hk1
    have no:iU s.data.toList[k]=false->bj s=false:=by
     intro h
     have:s.data.toList.all iU=false:=by rw[dj];exact⟨_,az hk1,by rw[h];exact fB⟩
     simp only[bj,this,aM]
    generalize s.data.toList[k]=c at*
    simp only[go_sem,rE,e0,e14,hb]
    by_cases ha:(c.toNat:Int)<97
    ·simp only[go_sem,rE,ha,decide_true]
     exact ak (.refl _) (aj.sub_empty _) ⟨by simp only[go_sem];rw[no (by simp[iU];omega)],rfl⟩
    ·simp only[go_sem,rE,ha,e0,e14,hb,decide_false]
     by_cases hz:(c.toNat:Int)>122
     ·simp only[go_sem,rE,hz,decide_true]
      exact ak (.refl _) (aj.sub_empty _) ⟨by simp only[go_sem];rw[no (by simp[iU];omega)],rfl⟩
     ·simp only[go_sem,rE,hz,e14,w1,decide_false]
      refine⟨hk1,H,aj.sub_refl _,e0,e13,by simp,?_⟩
      rw[htk,eD,hall]
      simp[iU];omega
   ·have hkk:k=s.size:=by omega
    subst hkk
    simp only[go_sem,rE]
    rw[<-hsz,aW]at hall
    refine ak (.refl _) (aj.sub_empty _) ⟨?_,rfl⟩
    have:bj s=true:=by simp only[bj,hall,fC,aw,decide_eq_true_eq];omega
    simp only[go_sem,this]
theorem wL(L:Lib P F)(p:List Int):cI P 167 [au p] (B (fU p)):=by
 refine(L.a Tryz.func167 y167) (by simp[y167]) ?_
 simp only[y167,go_sem,rE,au,ao]
 by_cases h4:(p.length:Int)>4
 ·simp only[go_sem,rE,h4,decide_true]
  refine ak (.refl _) (aj.sub_empty _) ⟨?_,rfl⟩
  have:fU p=false:=by simp only[fU,cH,decide_eq_false_iff_not];exact .inl (by omega)
  simp only[go_sem,this]
 ·simp only[go_sem,rE,h4,decide_false]
  refine aV p.length (fun k E H=>E 8=.sl 1 none (p.map fun i=>[I i])/\E 9=I p.length/\E 10=I k/\((p.take k).all fun i=>decide (0<=i/\i<=1))=true) ⟨by simp[go_sem],by simp[go_sem],by simp[go_sem],by simp⟩ ?_
  rintro k E H hk ⟨e8,e9,e10,hall⟩
  simp only[wp_seq,go_sem,rE,e9,e10]
  refine aH (fun hlt=>?_) (fun hge=>?_)
  ·have hk1:k<p.length:=by omega
   have w1:=aP (n:=(k:Int)+1) (by omega) (by omega)
   have no:¬(0<=p[k]/\p[k]<=1)->fU p=false:=by
    intro hi
    have:(p.all fun i=>decide (0<=i/\i<=1))=false:=by rw[dj];exact⟨_,az hk1,by simpa using hi⟩
    simp only[fU,this,aM]
   have htk:p.take (k+1)=p.take k++[p[k]]:=aC hk1
   simp only[go_sem,rE,e8,e10,iJ hk1]
   by_cases ha:p[k]<0
   ·simp only[go_sem,rE,ha,decide_true]
    exact ak (.refl _) (aj.sub_empty _) ⟨by simp only[go_sem];rw[no (by omega)],rfl⟩
   ·simp only[go_sem,rE,ha,decide_false]
    by_cases hz:p[k]>1
    ·simp only[go_sem,rE,hz,decide_true]
     exact ak (.refl _) (aj.sub_empty _) ⟨by simp only[go_sem];rw[no (by omega)],rfl⟩
    ·simp only[go_sem,rE,hz,e10,w1,decide_false]
     refine⟨hk1,H,aj.sub_refl _,e8,e9,by simp,?_⟩
     rw[htk,eD,hall]
     simp;omega
  ·have hkk:k=p.length:=by omega
   subst hkk
   rw[aW]at hall
   simp only[go_sem,rE]
   refine ak (.refl _) (aj.sub_empty _) ⟨?_,rfl⟩
   have:fU p=true:=by simp only[fU,hall,fC,decide_eq_true_eq];omega
   simp only[go_sem,this]
theorem gV(L:Lib P F)(p:Pl):cI P 106 [.agg p.enc] (B p.okB):=by
 refine(L.a Tryz.func106 y106) (by simp[y106]) ?_
 simp only[y106,go_sem,rE,Pl.enc]
 intro b hb
 refine am (gW L p.name) (rfl) ?_
 cases hn:bj p.name
 ·simp only[go_sem,rE]
  exact ak (.refl _) (aj.sub_empty _) ⟨by simp only[go_sem,Pl.okB,hn,aL],rfl⟩
 ·simp only[go_sem,rE]
  refine am (wL L p.path) (rfl) ?_
  simp only[go_sem,rE]
  exact ak (.refl _) (aj.sub_empty _) ⟨by simp only[go_sem,Pl.okB,hn,bT],rfl⟩
theorem gU(L:Lib P F)(p:Pl):cI P 109 [.agg p.enc] (B p.noneB):=by
 refine(L.a Tryz.func109 y109) (by simp[y109]) ?_
 simp only[y109,go_sem,rE,Pl.enc,au]
 intro b hb
 by_cases h:p.name=bl []
 ·simp only[go_sem,rE,h,ao]
  refine ak (.refl _) (aj.sub_empty _) ⟨?_,rfl⟩
  simp only[go_sem,rE,Pl.noneB,h]
  congr 2
  rw[aX];simp
 ·simp only[go_sem,rE,h]
  exact ak (.refl _) (aj.sub_empty _) ⟨by simp only[go_sem,Pl.noneB,h,aL],rfl⟩
theorem gC(L:Lib P F)(e:Ex):cI P 107 [.agg e.enc] (B e.noneB):=by
 refine(L.a Tryz.func107 y107) (by simp[y107]) ?_
 rw[Ex.enc_eq]
 simp only[y107,go_sem,rE]
 intro b hb
 by_cases h1:e.kind=0
 ·by_cases h2:e.num=0
  ·simp only[go_sem,rE,h1,h2,beq_self_eq_true,rL,rA]
   refine am (gU L e.place) (by simp only[go_sem,rE,Pl.enc]) ?_
   cases h3:e.place.noneB
   ·simp only[go_sem,rE]
    exact ak (.refl _) (aj.sub_empty _) ⟨by simp only[go_sem,Ex.noneB,h3,aL,aM],rfl⟩
   ·simp only[go_sem,rE,Ex.encs_map,ao]
    refine ak (.refl _) (aj.sub_empty _) ⟨?_,rfl⟩
    simp only[go_sem,rE,Ex.noneB,h1,h2,h3,bT]
    congr 2
    rw[aX];simp
  ·have h2':(e.num==0)=false:=by simpa using h2
   simp only[go_sem,rE,h1,h2',beq_self_eq_true]
   exact ak (.refl _) (aj.sub_empty _) ⟨by simp only[go_sem,Ex.noneB,h2,aL,aM],rfl⟩
 ·have h1':(e.kind==0)=false:=by simpa using h1
  simp only[go_sem,rE,h1']
  exact ak (.refl _) (aj.sub_empty _) ⟨by simp only[go_sem,Ex.noneB,h1,aL],rfl⟩
theorem me(L:Lib P F)(t:Ty):cI P 141 [.agg t.enc] (B (decide (t.kids.length=0))):=by
 refine(L.a Tryz.func141 y141) (by simp[y141]) ?_
 rw[Ty.enc_eq]
 simp only[y141,go_sem,rE,Ty.encs_map,ao]
 intro b hb
 refine ak (.refl _) (aj.sub_empty _) ⟨?_,rfl⟩
 simp only[go_sem,rE]
 congr 2
 rw[aX];simp
theorem o8{n:Nat}{a b:Ty}:(Ty.mk [a,b]).deepB (n+1)=(a.deepB n&&b.deepB n):=by
 simp[Ty.deepB]
theorem wJ(L:Lib P F):∀(n:Nat) (t:Ty),n<=100->cI P 165 [.agg t.enc,I n] (B (t.deepB n)):=by
 intro n
 induction n with
 |zero=>
  rintro⟨ks⟩ -
  refine(L.a Tryz.func165 xP) (by simp[xP]) ?_
  simp only[xP,go_sem,rE,Ty.enc]
  intro b1 hb1
  simp only[go_sem,rE,dg,show(0:Int)<1 from by decide]
  exact ak (.refl _) (aj.sub_empty _) ⟨by simp only[go_sem,Ty.deepB],rfl⟩
 |succ n ih=>
  rintro⟨ks⟩ hn
  refine(L.a Tryz.func165 xP) (by simp[xP]) ?_
  simp only[xP,go_sem,rE,Ty.enc]
  intro b1 hb1
  have h1:¬((n+1:Nat):Int)<1:=by omega
  have w1:=aP (n:=((n+1:Nat):Int) - 1) (by omega) (by omega)
  have hd:((n+1:Nat):Int) - 1=n:=by omega
  rw[hd]at w1
  simp only[go_sem,rE,h1,Ty.encs_map,ao]
  by_cases hl0:ks.length=0
  ·have hks:ks=[]:=bn hl0
   subst hks
   simp only[go_sem,rE,dg,beq_self_eq_true]
   exact ak (.refl _) (aj.sub_empty _) ⟨by simp[iq,Ty.deepB],rfl⟩
  ·have hb0:((ks.length:Int)==0)=false:=by simpa using hl0
   by_cases hl2:ks.length=2
   ·obtain⟨a,c,rfl⟩:∃a c,ks=[a,c]:=by
     match ks,hl2 with
     |[a,c],_=>exact⟨a,c,rfl⟩
    have hb2:(((2:Nat):Int)==2)=true:=by decide
    have hb0':(((2:Nat):Int)==0)=false:=by decide
    simp only[go_sem,rE,rA,hb0',hb2,hd,w1,aU,bB,Ty.enc_eq a,Ty.enc_eq c,rL,dN,Int.reduceToNat,eA]
    have hb1g:(aj.empty.set b1 (.cells [.sl 1 none [[.sl 1 none (Ty.encs a.kids)],[.sl 1 none (Ty.encs c.kids)]]])).get b1=some (.cells [.sl 1 none [[.sl 1 none (Ty.encs a.kids)],[.sl 1 none (Ty.encs c.kids)]]]):=ai _ _ _
    refine am (ih a (by omega)) (by simp only[go_sem,rE,Ty.enc_eq a]) ?_
    cases ha:a.deepB n
    ·simp only[go_sem,rE]
     exact ak (.refl _) (aj.sub_empty _) ⟨by simp only[go_sem,o8,ha,aL],rfl⟩
    ·simp only[go_sem,rE,rA,hb1g,hd,w1,rL,dN,Int.reduceToNat,eA]
     refine am (ih c (by omega)) (by simp only[go_sem,rE,Ty.enc_eq c]) ?_
     simp only[go_sem,rE]
     exact ak (.refl _) (aj.sub_empty _) ⟨by simp only[go_sem,o8,ha,bT],rfl⟩
   ·have hb2:((ks.length:Int)==2)=false:=by rw[beq_eq_false_iff_ne];omega
    simp only[go_sem,rE,hb0,hb2,ao]
    refine ak (.refl _) (aj.sub_empty _) ⟨?_,rfl⟩
    simp[go_sem,Ty.deepB,hl0,hl2]
theorem mL(L:Lib P F)(t:Ty):cI P 104 [.agg t.enc] (B t.okB):=by
 refine(L.a Tryz.func104 y104) (by simp[y104]) ?_
 have h:=wJ L 4 t (by omega)
 rw[Ty.enc_eq]at h⊢
 simp only[y104,go_sem,rE]
 intro b hb
 refine am h (rfl) ?_
 simp only[go_sem,rE]
 exact ak (.refl _) (aj.sub_empty _) ⟨rfl,rfl⟩
end
structure Tys(F:Ids):Prop where
 e1:¬266=263
 e2:¬268=263
 e3:¬268=266
 s12:¬247=245
 s13:¬249=245
 s14:¬251=245
 s15:¬255=245
 s16:¬257=245
 s23:¬249=247
 s24:¬251=247
 s25:¬255=247
 s26:¬257=247
 s34:¬251=249
 s35:¬255=249
 s36:¬257=249
 s45:¬255=251
 s46:¬257=251
 s56:¬257=255
abbrev gE:AC:=.lit .nilIface
def shE(F:Ids)(e:Ex):AC:=
 if e.kind=1 then(if e.place.noneB&&decide (e.kids.length=0)then .iface 263 (.agg [I e.num])else gE)
 else if e.kind=2 then(if decide (e.num=0)&&decide (e.kids.length=0)then .iface 266 (.agg e.place.enc)else gE)
 else if 3<=e.kind/\e.kind<=6 then(match e.kids with
  |[a,b]=>if decide (e.num=0)&&e.place.noneB then .iface 268 (.agg (I e.kind::(a.enc++b.enc)))else gE
  |_=>gE)
 else gE
section
variable {P:Program}{F:Ids}
theorem vh(L:Lib P F)(e:Ex):cI P 144 [.agg e.enc] (shE F e):=by
 refine(L.a Tryz.func144 y144) (by simp[y144,f144]) ?_
 rw[Ex.enc_eq]
 simp only[y144,f144,go_sem,rE]
 intro b1 hb1
 simp only[go_sem,rE,rA,rL]
 intro b3 hb3
 have d13:b1≠b3:=al (ai _ _ _) hb3
 simp only[go_sem,rE,rA,d13,Ne.symm d13,rL]
 have fin:∀(E':Env) (H':aj) (q:AC),E' 2=q->q=shE F e->bh.post [.slot 2] (fun q H'=>q=shE F e/\H'=.empty) .ret E' H':=fun E' H' q h1 h2=>ak (by rw[h1,h2];exact .refl _) (aj.sub_empty _) ⟨rfl,rfl⟩
 by_cases k1:e.kind=1
 ·have k1':(e.kind==1)=true:=by simpa using k1
  simp only[yD,A8,k1',go_sem,rE,rA,d13,Ne.symm d13,rL]
  refine am (gC L (.mk 0 0 e.place e.kids)) (by simp only[go_sem,rE,Ex.enc,au]) ?_
  have hn:(Ex.mk 0 0 e.place e.kids).noneB=(e.place.noneB&&decide (e.kids.length=0)):=by simp[Ex.noneB,Ex.kind,Ex.num,Ex.place,Ex.kids]
  rw[hn]
  cases hc:e.place.noneB&&decide (e.kids.length=0)
  ·simp only[go_sem,rE]
   exact fin _ _ gE (rfl) (by rw[shE,if_pos k1,hc];rfl)
  ·simp only[go_sem,rE]
   exact fin _ _ (.iface 263 (.agg [I e.num])) (rfl) (by rw[shE,if_pos k1,hc];rfl)
 have k1':(e.kind==1)=false:=by simpa using k1
 by_cases k2:e.kind=2
 ·have k2':(e.kind==2)=true:=by simpa using k2
  simp only[yD,A8,k1',k2',go_sem,rE,rA,d13,Ne.symm d13,rL]
  refine gv (as':=[.agg [I 0,I e.num,S (bl []),NIL,.sl 5 none (Ex.encs e.kids)]]) (gC L (.mk 0 e.num ⟨bl [],[]⟩ e.kids)) (rfl) ⟨.agg ?_,trivial⟩ ?_
  ·rw[Ex.enc];exact⟨⟨.refl _,rfl⟩,⟨.refl _,rfl⟩,⟨.refl _,rfl⟩,⟨.nil 1,rfl⟩,⟨.refl _,rfl⟩,trivial⟩
  have hn:(Ex.mk 0 e.num ⟨bl [],[]⟩ e.kids).noneB=(decide (e.num=0)&&decide (e.kids.length=0)):=by
   show(decide ((0:Int)=0)&&(decide (e.num=0)&&((decide (bl []=bl [])&&decide (([]:List Int).length=0))&&decide (e.kids.length=0))))=_
   simp
  rw[hn]
  cases hc:decide (e.num=0)&&decide (e.kids.length=0)
  ·simp only[go_sem,rE]
   exact fin _ _ gE (rfl) (by rw[shE,if_neg k1,if_pos k2,hc];rfl)
  ·simp only[go_sem,rE]
   exact fin _ _ (.iface 266 (.agg e.place.enc)) (by simp only[go_sem,rE,Pl.enc]) (by rw[shE,if_neg k1,if_pos k2,hc];rfl)
 have k2':(e.kind==2)=false:=by simpa using k2
 by_cases k36:3<=e.kind/\e.kind<=6
 ·
  have two:∀(E:Env) (A:Env->aj->Prop) (H:aj),E 1=.ptr b1 0->E 3=.ptr b3 0->H.get b1=some (.cells [I e.kind,I e.num,S e.place.name,au e.place.path,.sl 5 none (Ex.encs e.kids)])->H.get b3=some (.cells [I 0,I e.num,S e.place.name,au e.place.path,.sl 5 none (Ex.encs e.kids)])->
   (∀E' H',E' 3=.ptr b3 0->H'.get b3=some (.cells [I 0,I e.num,S e.place.name,au e.place.path,NIL])->(∃a b,e.kids=[a,b]/\E' 4=.iface 268 (.agg (I e.kind::(a.enc++b.enc))))->A E' H')->
   aT.wp P (kd31) (cE.inBlock 0 (cE.then A (bh.post [.slot 2] (fun q H'=>q=shE F e/\H'=.empty)))) E H:=by
   intro E A H e1 e3 g1 g3 hA
   rw[kd31,fd31]
   simp only[go_sem,rE,rA,d13,Ne.symm d13,rL,e1,g1,Ex.encs_map,ao]
   by_cases hl:e.kids.length=2
   ·obtain⟨a,c,hks⟩:∃a c,e.kids=[a,c]:=by
     match e.kids,hl with
     |[a,c],_=>exact⟨a,c,rfl⟩
    have hb2:(((2:Nat):Int) !=2)=false:=by decide
    simp only[go_sem,rE,rA,d13,Ne.symm d13,rL,hks,hb2,e1,e3,g1,g3,Ex.encs_map,aU,bB,Ex.enc_eq a,Ex.enc_eq c,dN,Int.reduceToNat,eA]
    exact hA _ _ (e3) (ai _ _ _) ⟨a,c,hks,by simp only[go_sem,rE,Ex.enc_eq a,Ex.enc_eq c,Ex.encs_map]⟩
   ·have hb2:((e.kids.length:Int) !=2)=true:=by rw[bne_iff_ne];omega
    simp only[go_sem,rE,rA,d13,Ne.symm d13,rL,hb2]
    refine fin _ _ gE (rfl) ?_
    rw[shE,if_neg k1,if_neg k2,if_pos k36]
    split
    ·rename_i h;rw[h]at hl;simp at hl
    ·rfl
  have b6:e.kind=3\/e.kind=4\/e.kind=5\/e.kind=6:=by omega
  have rest:∀(E:Env) (H:aj) (a b:Ex),e.kids=[a,b]->E 3=.ptr b3 0->H.get b3=some (.cells [I 0,I e.num,S e.place.name,au e.place.path,NIL])->E 4=.iface 268 (.agg (I e.kind::(a.enc++b.enc)))->
   aT.wp P (yD) (bh.post [.slot 2] (fun q H'=>q=shE F e/\H'=.empty)) E H:=by
   intro E H a b hks e3 g3 e4
   rw[yD,A8]
   simp only[go_sem,rE,rA,d13,Ne.symm d13,rL,e3,e4,g3]
   refine gv (as':=[.agg [I 0,I e.num,S e.place.name,au e.place.path,NIL]]) (gC L (.mk 0 e.num e.place [])) (rfl) ⟨.agg ?_,trivial⟩ ?_
   ·rw[Ex.enc];exact⟨⟨.refl _,rfl⟩,⟨.refl _,rfl⟩,⟨.refl _,rfl⟩,⟨.refl _,rfl⟩,⟨.nil 5,rfl⟩,trivial⟩
   have hn:(Ex.mk 0 e.num e.place []).noneB=(decide (e.num=0)&&e.place.noneB):=by
    show(decide ((0:Int)=0)&&(decide (e.num=0)&&(e.place.noneB&&decide (([]:List Ex).length=0))))=_
    simp
   rw[hn]
   cases hc:decide (e.num=0)&&e.place.noneB
   ·simp only[go_sem,rE]
    exact fin _ _ gE (rfl) (by rw[shE,if_neg k1,if_neg k2,if_pos k36,hks];simp only[hc];rfl)
   ·simp only[go_sem,rE,e4]
    exact fin _ _ (.iface 268 (.agg (I e.kind::(a.enc++b.enc)))) (by simp only[go_sem,rE,e4]) (by rw[shE,if_neg k1,if_neg k2,if_pos k36,hks];simp only[hc];rfl)
  have g1E:((aj.empty.set b1 (.cells [I e.kind,I e.num,S e.place.name,au e.place.path,.sl 5 none (Ex.encs e.kids)])).set b3 (.cells [I 0,I e.num,S e.place.name,au e.place.path,.sl 5 none (Ex.encs e.kids)])).get b1=some (.cells [I e.kind,I e.num,S e.place.name,au e.place.path,.sl 5 none (Ex.encs e.kids)]):=by rw[ae _ _ d13,ai]
  rcases b6 with h|h|h|h
  ·have q3:(e.kind==3)=true:=by rw[h];rfl
   simp only[k1',k2',q3,go_sem,rE,rA,d13,Ne.symm d13,rL]
   exact two _ _ _ (rfl) (rfl) g1E (ai _ _ _) fun E' H' h3 hg ⟨a,b,hk,h4⟩=>rest E' H' a b hk h3 hg h4
  ·have q3:(e.kind==3)=false:=by rw[h];rfl
   have q4:(e.kind==4)=true:=by rw[h];rfl
   simp only[k1',k2',q3,q4,go_sem,rE,rA,d13,Ne.symm d13,rL]
   exact two _ _ _ (rfl) (rfl) g1E (ai _ _ _) fun E' H' h3 hg ⟨a,b,hk,h4⟩=>rest E' H' a b hk h3 hg h4
  ·have q3:(e.kind==3)=false:=by rw[h];rfl
   have q4:(e.kind==4)=false:=by rw[h];rfl
   have q5:(e.kind==5)=true:=by rw[h];rfl
   simp only[k1',k2',q3,q4,q5,go_sem,rE,rA,d13,Ne.symm d13,rL]
   exact two _ _ _ (rfl) (rfl) g1E (ai _ _ _) fun E' H' h3 hg ⟨a,b,hk,h4⟩=>rest E' H' a b hk h3 hg h4
  ·have q3:(e.kind==3)=false:=by rw[h];rfl
   have q4:(e.kind==4)=false:=by rw[h];rfl
   have q5:(e.kind==5)=false:=by rw[h];rfl
   have q6:(e.kind==6)=true:=by rw[h];rfl
   simp only[k1',k2',q3,q4,q5,q6,go_sem,rE,rA,d13,Ne.symm d13,rL]
   exact two _ _ _ (rfl) (rfl) g1E (ai _ _ _) fun E' H' h3 hg ⟨a,b,hk,h4⟩=>rest E' H' a b hk h3 hg h4
 ·have q3:(e.kind==3)=false:=beq_eq_false_iff_ne.2 (by omega)
  have q4:(e.kind==4)=false:=beq_eq_false_iff_ne.2 (by omega)
  have q5:(e.kind==5)=false:=beq_eq_false_iff_ne.2 (by omega)
  have q6:(e.kind==6)=false:=beq_eq_false_iff_ne.2 (by omega)
  simp only[yD,A8,k1',k2',q3,q4,q5,q6,go_sem,rE,rA,d13,Ne.symm d13,rL]
  exact fin _ _ gE (rfl) (by rw[shE,if_neg k1,if_neg k2,if_neg k36])
theorem xB{e:Ex}(d:Nat)(h:e.kind=1):e.okD (d+1)=((e.place.noneB&&decide (e.kids.length=0))&&decide (0<=e.num/\e.num<=9999)):=by
 simp only[Ex.okD,fq,iX,h,if_pos]
 rw[aX]
 simp only[aw,dh,decide_eq_true_eq,aS]
 constructor
 ·rintro⟨⟨-,h2,h3⟩,h4,h5,h6⟩
  exact⟨⟨by simpa using h2,h6⟩,h5⟩
 ·rintro⟨⟨h1,h2⟩,h3⟩
  exact⟨⟨by simp,by simp[h1],by omega⟩,fun x hx=>by rw[bn h2]at hx;simp at hx,h3,h2⟩
theorem ql{e:Ex}(d:Nat)(h:e.kind=2):e.okD (d+1)=((decide (e.num=0)&&decide (e.kids.length=0))&&e.place.okB):=by
 have h1:¬(2:Int)=1:=by decide
 simp only[Ex.okD,fq,iX,h,if_pos,if_neg h1]
 rw[aX]
 simp only[aw,dh,decide_eq_true_eq,aS]
 constructor
 ·rintro⟨⟨h1,-,-⟩,h4,h5,h6⟩
  exact⟨⟨by omega,h6⟩,h5⟩
 ·rintro⟨⟨h1,h2⟩,h3⟩
  exact⟨⟨.inr h1,.inl trivial,by omega⟩,fun x hx=>by rw[bn h2]at hx;simp at hx,h3,h2⟩
theorem sZ{e:Ex}(d:Nat)(h:3<=e.kind/\e.kind<=6){a b:Ex}(hk:e.kids=[a,b]):e.okD (d+1)=((decide (e.num=0)&&e.place.noneB)&&(a.okD d&&b.okD d)):=by
 have h1:¬e.kind=1:=by omega
 have h2:¬e.kind=2:=by omega
 simp only[Ex.okD,fq,iX,if_neg h1,if_neg h2,hk]
 rw[aX]
 simp[h1,h2,h.1,h.2]
theorem kI{e:Ex}(d:Nat)(h1:¬e.kind=1)(h2:¬e.kind=2)(h:¬(3<=e.kind/\e.kind<=6)\/e.kids.length≠2):e.okD (d+1)=false:=by
 simp only[Ex.okD,fq,iX,if_neg h1,if_neg h2]
 rw[Bool.eq_false_iff]
 simp only[ne_eq,aw,decide_eq_true_eq]
 rintro⟨-,-,h3,h4⟩
 rcases h with h|h
 ·exact h h3
 ·exact h h4
theorem ja(L:Lib P F)(T:Tys F):∀(d:Nat),d<=100->∀(e:Ex),cI P 108 [.agg e.enc,I d] (B (e.okD d)):=by
 intro d
 induction d with
 |zero=>
  intro _ e
  refine(L.a Tryz.func108 xU) (by simp[xU]) ?_
  rw[Ex.enc_eq]
  simp only[xU,go_sem,rE]
  intro b1 hb1
  simp only[go_sem,rE,dg,show(0:Int)<1 from by decide]
  exact ak (.refl _) (aj.sub_empty _) ⟨by simp only[go_sem,Ex.okD],rfl⟩
 |succ d ih=>
  intro hd e
  refine(L.a Tryz.func108 xU) (by simp[xU]) ?_
  have h1:¬((d+1:Nat):Int)<1:=by omega
  have w1:=aP (n:=((d+1:Nat):Int) - 1) (by omega) (by omega)
  have hdd:((d+1:Nat):Int) - 1=d:=by omega
  rw[hdd]at w1
  rw[Ex.enc_eq]
  simp only[xU,go_sem,rE]
  intro b2 hb2
  have fin:∀(E':Env) (H':aj) (q:Bool),E' 4=B q->q=e.okD (d+1)->bh.post [.slot 4] (fun q H'=>q=B (e.okD (d+1))/\H'=.empty) .ret E' H':=fun E' H' q h1 h2=>ak (by rw[h1,h2];exact .refl _) (aj.sub_empty _) ⟨rfl,rfl⟩
  simp only[h1,decide_false,go_sem,rE,rA,rL]
  refine am (vh L e) (by simp only[go_sem,rE,Ex.enc_eq e]) ?_
  simp only[go_sem,rE]
  by_cases k1:e.kind=1
  ·have ho:=xB d k1
   rw[shE,if_pos k1]
   cases hc:e.place.noneB&&decide (e.kids.length=0)
   ·rw[hc]at ho
    simp only[go_sem,rE,rA,rL,aq,if_false]
    exact fin _ _ false (rfl) (by rw[ho];rfl)
   ·rw[hc]at ho
    simp only[go_sem,rE,rA,rL,if_true]
    intro b5 hb5
    by_cases h0:e.num>=0
    ·simp only[go_sem,rE,rA,rL,h0,decide_true]
     exact fin _ _ (decide (e.num<=9999)) (rfl) (by rw[ho];simp;omega)
    ·simp only[go_sem,rE,rA,rL,h0,decide_false]
     exact fin _ _ false (rfl) (by rw[ho];simp;omega)
  by_cases k2:e.kind=2
  ·have ho:=ql d k2
   rw[shE,if_neg k1,if_pos k2]
   cases hc:decide (e.num=0)&&decide (e.kids.length=0)
   ·rw[hc]at ho
    simp only[go_sem,rE,rA,rL,aq,if_false]
    exact fin _ _ false (rfl) (by rw[ho];rfl)
   ·rw[hc]at ho
    simp only[go_sem,rE,rA,rL,if_true,T.e1,if_false,Pl.enc]
    intro b6 hb6
    refine am (gV L e.place) (by simp only[go_sem,rE,Pl.enc]) ?_
    simp only[go_sem,rE]
    exact fin _ _ e.place.okB (rfl) (by rw[ho];rfl)
  by_cases k36:3<=e.kind/\e.kind<=6
  ·by_cases hl:e.kids.length=2
   ·obtain⟨a,b,hks⟩:∃a c,e.kids=[a,c]:=by
     match e.kids,hl with
     |[a,c],_=>exact⟨a,c,rfl⟩
    have ho:=sZ d k36 hks
    have hq:shE F e=if decide (e.num=0)&&e.place.noneB then .iface 268 (.agg (I e.kind::(a.enc++b.enc)))else gE:=by rw[shE,if_neg k1,if_neg k2,if_pos k36,hks]
    rw[hq]
    cases hc:decide (e.num=0)&&e.place.noneB
    ·rw[hc]at ho
     simp only[go_sem,rE,rA,rL,aq,if_false]
     exact fin _ _ false (rfl) (by rw[ho];rfl)
    ·rw[hc]at ho
     simp only[go_sem,rE,rA,rL,if_true,T.e2,T.e3,if_false,Ex.enc_eq a,Ex.enc_eq b,cq]
     intro b7 hb7
     simp only[go_sem,rE,rA,rL,hdd,w1]
     refine am (ih (by omega) a) (by simp only[go_sem,rE,Ex.enc_eq a]) ?_
     cases ha:a.okD d
     ·simp only[go_sem,rE,rA,rL]
      exact fin _ _ false (rfl) (by rw[ho,ha];rfl)
     ·simp only[go_sem,rE,rA,rL,hdd,w1]
      refine am (ih (by omega) b) (by simp only[go_sem,rE,Ex.enc_eq b]) ?_
      simp only[go_sem,rE]
      exact fin _ _ (b.okD d) (rfl) (by rw[ho,ha];rfl)
   ·have hq:shE F e=gE:=by
     rw[shE,if_neg k1,if_neg k2,if_pos k36]
     split
     ·rename_i h;rw[h]at hl;simp at hl
     ·rfl
    rw[hq]
    simp only[go_sem,rE,rA,rL]
    exact fin _ _ false (rfl) (kI d k1 k2 (.inr hl)).symm
  ·rw[shE,if_neg k1,if_neg k2,if_neg k36]
   simp only[go_sem,rE,rA,rL]
   exact fin _ _ false (rfl) (kI d k1 k2 (.inl k36)).symm
end
section
variable {P:Program}{F:Ids}
end
inductive StF(Bd:List St->Bool)(s:St):Prop where
 |let_ (k:s.kind=1) (n:bj s.name=true) (e:s.expr.okD 4=true)
 |lend (k:s.kind=2) (n:bj s.name=true) (p:s.place.okB=true)
 |set (k:s.kind=3) (p:s.place.okB=true) (e:s.expr.okD 4=true)
 |call (k:s.kind=4) (n:bj s.name=true) (f:bj s.fn=true) (a:eG s.args=true)
 |if_ (k:s.kind=5) (e:s.expr.okD 4=true) (t:Bd s.thn=true) (l:Bd s.els=true)
 |pick (k:s.kind=6) (n:bj s.name=true) (p:s.place.okB=true) (o:s.other.okB=true) (e:s.expr.okD 4=true)
section
variable {P:Program}{F:Ids}
end
structure FuF(f:Fu):Prop where
 name:bj f.name=true
 np:f.params.length<=4
 type:f.type.deepB 4=true
 body:bX 4 f.body=true
 num:bH f.body<=40
 params:∀p∈f.params,bj p.name=true/\p.type.deepB 4=true
 lent:f.lent=true->f.gives.okB=true/\f.says.noneB=true
 says:f.lent=false->f.gives.noneB=true/\f.says.okD 4=true
section
variable {P:Program}{F:Ids}
end
structure cO(H:aj)(m r:Nat)(bs:List UInt8)(e:Nat)(v:En)(VS NS:AC)(p last:Int):Prop where
 obj:H.get m=some (.cells [.ptr r 0,.ptr e 0,I last])
 rd:H.get r=some (RdO bs p)
 env:bA H e v VS NS
 mr:m≠r
 nm:¬aQ e VS NS m
 nr:¬aQ e VS NS r
def cv(m r e:Nat)(VS NS:AC)(d:Nat):Prop:=d=m\/d=r\/aQ e VS NS d
theorem cO.mem{H:aj}{m r:Nat}{bs:List UInt8}{e:Nat}{v:En}{VS NS:AC}{p last:Int}(h:cO H m r bs e v VS NS p last){d:Nat}(hd:cv m r e VS NS d):H.get d≠none:=by
 rcases hd with rfl|rfl|hd
 ·rw[h.obj];simp
 ·rw[h.rd];simp
 ·exact h.env.mem hd
theorem cO.mono{H H':aj}{m r:Nat}{bs:List UInt8}{e:Nat}{v:En}{VS NS:AC}{p last:Int}(h:cO H m r bs e v VS NS p last)(hk:∀d,cv m r e VS NS d->H'.get d=H.get d):cO H' m r bs e v VS NS p last:=
 ⟨by rw[hk m (.inl rfl)];exact h.obj,by rw[hk r (.inr (.inl rfl))];exact h.rd,h.env.mono fun d hd=>hk d (.inr (.inr hd)),h.mr,h.nm,h.nr⟩
theorem cO.notin{H:aj}{m r:Nat}{bs:List UInt8}{e:Nat}{v:En}{VS NS:AC}{p last:Int}(h:cO H m r bs e v VS NS p last){b:Nat}(hb:H.get b=none):¬cv m r e VS NS b:=fun hd=>h.mem hd hb
theorem cO.new{H:aj}{m r:Nat}{bs:List UInt8}{e:Nat}{v:En}{VS NS:AC}{p last:Int}(h:cO H m r bs e v VS NS p last){b:Nat}(hb:H.get b=none)(o:cz):cO (H.set b o) m r bs e v VS NS p last:=
 h.mono fun d hd=>ae _ _ (by rintro rfl;exact h.mem hd hb)
theorem cO.put{H:aj}{m r:Nat}{bs:List UInt8}{e:Nat}{v:En}{VS NS:AC}{p last:Int}(h:cO H m r bs e v VS NS p last){b:Nat}(hb:¬cv m r e VS NS b)(o:cz):cO (H.set b o) m r bs e v VS NS p last:=
 h.mono fun d hd=>ae _ _ (by rintro rfl;exact hb hd)
theorem cO.setR{H:aj}{m r:Nat}{bs:List UInt8}{e:Nat}{v:En}{VS NS:AC}{p last:Int}(h:cO H m r bs e v VS NS p last)(p':Int):cO (H.set r (RdO bs p')) m r bs e v VS NS p' last:=
 ⟨by rw[ae _ _ h.mr];exact h.obj,ai _ _ _,h.env.mono fun d hd=>ae _ _ (by rintro rfl;exact h.nr hd),h.mr,h.nm,h.nr⟩
theorem cO.setL{H:aj}{m r:Nat}{bs:List UInt8}{e:Nat}{v:En}{VS NS:AC}{p last:Int}(h:cO H m r bs e v VS NS p last)(last':Int):cO (H.set m (.cells [.ptr r 0,.ptr e 0,I last'])) m r bs e v VS NS p last':=
 ⟨ai _ _ _,by rw[ae _ _ (Ne.symm h.mr)];exact h.rd,h.env.mono fun d hd=>ae _ _ (by rintro rfl;exact h.nm hd),h.mr,h.nm,h.nr⟩
theorem cO.only{H:aj}{m r:Nat}{bs:List UInt8}{e:Nat}{v:En}{VS NS:AC}{p last:Int}(h:cO H m r bs e v VS NS p last):cO (H.only (cv m r e VS NS)) m r bs e v VS NS p last:=
 h.mono fun d hd=>bf hd
def MkC(P:Program)(g:FuncId)(zas:List AC)(m r:Nat)(bs:List UInt8)(v:En)(p last:Int)(R:AC->En->Int->Int->Prop):Prop:=
 ∀(H:aj) (e:Nat) (VS NS:AC),cO H m r bs e v VS NS p last->ACalls P g zas H fun q H'=>∃e' v' VS' NS' p' last',R q v' p' last'/\cO H' m r bs e' v' VS' NS' p' last'
theorem mk_live{m r:Nat}(hmr:m≠r)(N:Nat)(bs:List UInt8)(v:En)(p last:Int):∃H' e VS NS,cO H' m r bs e v VS NS p last/\∀b,H'.get b≠none->b=m\/b=r\/N<=b:=by
 let e:=N+m+r+1
 obtain⟨H0,VS,NS,hE,hfar⟩:=ot e (N+m+r+1) v
 have hnm:H0.get m=none:=by
  rcases bV (H0.get m)with h|⟨o,h⟩
  ·exact h
  ·rcases hfar m (by rw[h];simp)with h|h<;>omega
 have hnr:H0.get r=none:=by
  rcases bV (H0.get r)with h|⟨o,h⟩
  ·exact h
  ·rcases hfar r (by rw[h];simp)with h|h<;>omega
 refine⟨(H0.set m (.cells [.ptr r 0,.ptr e 0,I last])).set r (RdO bs p),e,VS,NS,⟨by rw[ae _ _ hmr,ai],ai _ _ _,?_,hmr,hE.notin hnm,hE.notin hnr⟩,fun b hb=>?_⟩
 ·refine hE.mono fun d hd=>?_
  rw[ae _ _ (by rintro rfl;exact hE.mem hd hnr),ae _ _ (by rintro rfl;exact hE.mem hd hnm)]
 ·by_cases h1:b=r
  ·exact .inr (.inl h1)
  ·rw[ae _ _ h1]at hb
   by_cases h2:b=m
   ·exact .inl h2
   ·rw[ae _ _ h2]at hb
    rcases hfar b hb with h|h
    ·exact .inr (.inr (by omega))
    ·exact .inr (.inr (by omega))
section
variable {P:Program}{dr:Bool}{K:Env->aj->Prop}{xs:List aJ}{E:Env}{H:aj}{l:Lds}{f:Fps}
theorem dP{i:Nat}{g:FuncId}{args:List aG}{d:Option Nat}{inc:List Nat}{zas as':List AC}{m r:Nat}{bs:List UInt8}{e:Nat}{v:En}{VS NS:AC}{p last:Int}{R:AC->En->Int->Int->Prop}
(hc:MkC P g zas m r bs v p last R)(hM:cO H m r bs e v VS NS p last)
(ha:args.map (aG.ev E)=as')(hl:LeA as' zas)(hlive:dr=true->∃q v' p' last',R q v' p' last')(hchk:dQ inc l (cv m r e VS NS))
(h:∀q e' v' VS' NS' p' last' H1 fp,R q v' p' last'->cO H1 m r bs e' v' VS' NS' p' last'->(∀b o,H.get b=some o->¬cv m r e VS NS b->H1.get b=some o/\¬cv m r e' VS' NS' b)->
  (∀c,fp c->cv m r e VS NS c\/H.get c=none)->bp P dr K xs (E.put d q) H1 l ((i,fp)::f)):
 bp P dr K (⟨i,d,none,.eff (.call g args),inc⟩::xs) E H l f:=by
 have hge:∀b,(H.only (cv m r e VS NS)).get b≠none↔cv m r e VS NS b:=by
  intro b
  by_cases hb:cv m r e VS NS b
  ·simp only[bf hb,hb,iff_true];exact hM.mem hb
  ·simp[bS hb,hb]
 refine gu (cv m r e VS NS) (hc (H.only (cv m r e VS NS)) e VS NS hM.only) ha hl (fun hd N=>?_) ?_ ?_
 ·obtain⟨q,v',p',last',hq⟩:=hlive hd
  obtain⟨H',e',VS',NS',hM',hfar⟩:=mk_live hM.mr N bs v' p' last'
  refine⟨q,H',⟨e',v',VS',NS',p',last',hq,hM'⟩,fun b hb hn=>?_⟩
  rcases hfar b hb with rfl|rfl|h
  ·rw[bf (.inl rfl),hM.obj]at hn;simp at hn
  ·rw[bf (.inr (.inl rfl)),hM.rd]at hn;simp at hn
  ·exact h
 ·have:(fun b=>(H.only (cv m r e VS NS)).get b≠none)=cv m r e VS NS:=by funext b;exact propext (hge b)
  rw[this];exact hchk
 ·rintro q H' H1 ⟨e',v',VS',NS',p',last',hq,hM'⟩ hsub hafter hnew -
  refine h q e' v' VS' NS' p' last' H1 _ hq (hM'.mono fun d hd=>?_) (fun b o hb hn=>⟨by rw[hafter.out b hn (by rw[hb];simp)];exact hb,fun h=>?_⟩) (fun c hc=>?_)
  ·obtain⟨o,ho⟩:=aI.1 (hM'.mem hd)
   rw[ho];exact hsub _ _ ho
  ·rcases hnew b (hM'.mem h)with h|h
   ·exact hn h
   ·rw[hb]at h;simp at h
  ·rcases hc with hc|hc
   ·exact .inl ((hge c).1 hc)
   ·exact .inr hc
end
structure En.dr(v:En)(N:Nat):Prop where
 ok:v.ok
 up:Up v.vars
 ne:0<v.vars.length
 vl:v.vars.length<=N
 nl:v.names.length<=N
 p:∀f∈v.p,f.okS/\f.params.length<=4
 pl:v.p.length<=5
 fn:v.fn<v.p.length
inductive Ex.sm:Ex->Prop where
 |mk {k n:Int} {p:Pl} {ks:List Ex} (hn:n<100) (hs:∀x∈ks,Ex.sm x):Ex.sm (.mk k n p ks)
inductive St.sm:Nat->St->Prop where
 |mk {i:Nat} {k:Int} {n:ByteArray} {p o:Pl} {e:Ex} {f:ByteArray} {zas:List Ag} {t l:List St} (he:e.sm) (ha:∀a∈zas,a.expr.sm) (ht:∀x∈t,St.sm i x) (hl:∀x∈l,St.sm i x):St.sm (i+1) (.mk k n p o e f zas t l)
section
variable {P:Program}{F:Ids}
end
theorem post_sc{E:Env}{H:aj}{n m r off:Nat}{g:Option Nat}{cs:List AC}{q q1 x:AC}{R:AC->aj->Prop}(hx:Le (E n) x)(hE:E m=.ptr r off)(hg:H.get r=some (.cells cs))(hq:fH g cs off=some q)
(hl:Le q q1){H':aj}(hs:H'.sub H)(h:R (.tup [x,q1]) H'):bh.post [.slot n,.cell m g] R .ret E H:=
 ⟨.tup [E n,q],lg rfl (by simp only[jq.val,hE,hg,hq]),_,H',.of (Le.tup (show LeA [E n,q] [x,q1]from⟨hx,hl,trivial⟩)) hs,h⟩
theorem post_cc{E:Env}{H:aj}{n m r off r' off':Nat}{g g':Option Nat}{cs cs':List AC}{q q1 q' q1':AC}{R:AC->aj->Prop}(hE':E n=.ptr r' off')(hg':H.get r'=some (.cells cs'))(hq':fH g' cs' off'=some q')(hl':Le q' q1')
(hE:E m=.ptr r off)(hg:H.get r=some (.cells cs))(hq:fH g cs off=some q)(hl:Le q q1){H':aj}(hs:H'.sub H)(h:R (.tup [q1',q1]) H'):bh.post [.cell n g',.cell m g] R .ret E H:=
 ⟨.tup [q',q],lg (by simp only[jq.val,hE',hg',hq']) (by simp only[jq.val,hE,hg,hq]),_,H',.of (Le.tup (show LeA [q',q] [q1',q1]from⟨hl',hl,trivial⟩)) hs,h⟩
def jA(l:List Int):List (List AC):=l.map fun i=>[I i]
theorem qQ(l:List Int):au l=.sl 1 none (jA l):=rfl
theorem tm(l:List Int)(i:Int):jA l++[[I i]]=jA (l++[i]):=by simp[jA]
section
variable {P:Program}{F:Ids}
theorem yU(L:Lib P F)(r:Nat)(bs:List UInt8)(hb:bs.length<=2000)(D:Nat)(hD:D<=100)(t:Ty)(ht:t.le D)(p:Int)(hp:0<=p)(hp':p+2*D+2<=2^50):
 ACalls P 151 [.ptr r 0,.agg t.enc] (one r (RdO bs p)) (RdR r bs p (2*D+2) fun q=>∃(path:List Int) (u:Ty),q=.tup [au path,.agg u.enc]/\path.length<=D/\u.le D):=by
 refine(L.a Tryz.func151 y151) (by simp[y151,f151]) ?_
 rw[Ty.enc_eq t]
 simp only[y151,f151,go_sem,rE]
 intro b3 hb3 b5 hb5 b8 hb8
 have dr3:r≠b3:=al (bD r (RdO bs p)) hb3
 have d35:=al (ai (one r (RdO bs p)) b3 _) hb5
 have dr5:r≠b5:=al (H:=(one r (RdO bs p)).set b3 _) (by rw[ae _ _ dr3];exact bD _ _) hb5
 have d58:=al (ai _ b5 _) hb8
 have d38:b3≠b8:=al (H:=((one r (RdO bs p)).set b3 _).set b5 _) (by rw[ae _ _ d35,ai]) hb8
 have dr8:r≠b8:=al (H:=((one r (RdO bs p)).set b3 _).set b5 _) (by rw[ae _ _ dr5,ae _ _ dr3];exact bD _ _) hb8
 refine wp_loop (fun n E H=>∃(u:Ty) (path:List Int) (p1:Int) (bt nt mt:Nat),u.le n/\path.length+n<=D/\p<=p1/\p1<=p+2*((D:Int) - n)/\E 0=.ptr r 0/\E 3=.ptr b3 0/\E 5=.ptr b5 0/\E 6=.sl 1 (some (bt,nt,mt)) (jA path)/\
  H.get r=some (RdO bs p1)/\H.get b3=some (.cells [.sl 1 none (Ty.encs u.kids)])/\H.get b5=some (.cells [NIL])/\H.get bt=some (.tail nt mt)) D
  ⟨t,[],p,b8,0,0,ht,by simp,eA _,by omega,by simp[go_sem],by simp[go_sem],by simp[go_sem],by simp[go_sem,jA],by rw[ae _ _ dr8,ae _ _ dr5,ae _ _ dr3];exact bD _ _,
   by rw[ae _ _ d38,ae _ _ d35,ai],by rw[ae _ _ d58,ai],ai _ _ _⟩ ?_
 clear hb3 hb5 hb8 d58 d38 dr8
 rintro n E H ⟨u,path,p1,bt,nt,mt,hu,hpl,hp1,hp2,e0,e3,e5,e6,gr,g3,g5,gt⟩
 have stop:∀(E':Env) (H':aj) (p2:Int),p<=p2->p2<=p+2*D+2->E' 3=.ptr b3 0->E' 5=.ptr b5 0->E' 6=.sl 1 (some (bt,nt,mt)) (jA path)->H'.get r=some (RdO bs p2)->H'.get b3=some (.cells [.sl 1 none (Ty.encs u.kids)])->H'.get b5=some (.cells [NIL])->
  aT.wp P (kd10) (bh.post [.slot 4,.cell 5 (some 1)] (RdR r bs p (2*D+2) fun q=>∃(path:List Int) (u:Ty),q=.tup [au path,.agg u.enc]/\path.length<=D/\u.le D)) E' H':=by
  intro E' H' p2 h1 h2 e3 e5 e6 gr g3 g5
  rw[kd10,fd10]
  simp only[go_sem,rE,rA,e3,e5,e6,g3,g5,rL]
  refine post_sc (x:=au path) (q1:=.agg u.enc) (off:=0) (by simp only[go_sem,rE,qQ];exact .tok _ _ _) (by simp only[go_sem,rE];exact e5) (ai _ _ _) rfl (by rw[Ty.enc_eq];exact .refl _) (gK (o:=RdO bs p2) (by rw[ae _ _ dr5];exact gr))
   ⟨p2,h1,by omega,rfl,path,u,rfl,by omega,ri n D u (by omega) hu⟩
 obtain⟨ks⟩:=u
 obtain⟨hk3,hks⟩:=jb hu
 simp only[Ty.kids]at g3 stop
 simp only[go_sem,rE,rA,e0,e3,g3,Ty.encs_map,ao]
 by_cases hk0:(ks.length:Int)>0
 ·simp only[go_sem,rE,rA,hk0,e0]
  refine bw (cW L r bs p1 3 hb (by omega) (by omega)) (rfl) gr (by simp) trivial ?_
  rintro q p2 hp12 hp12' ⟨k,rfl,hk0',hk3'⟩
  have g3':(H.set r (RdO bs p2)).get b3=some (.cells [.sl 1 none (Ty.encs ks)]):=by rw[ae _ _ (Ne.symm dr3)];exact g3
  have g5':(H.set r (RdO bs p2)).get b5=some (.cells [NIL]):=by rw[ae _ _ (Ne.symm dr5)];exact g5
  simp only[go_sem,rE,rA]
  refine aH (fun hgt=>?_) (fun hle=>?_)
  ·simp only[go_sem,rE,rA,e0,e3,g3',Ty.encs_map,ao]
   refine bw (cW L r bs p2 ks.length hb (by omega) (by omega)) (rfl) (ai _ _ _) (by simp) trivial ?_
   rintro q p3 hp23 hp23' ⟨j,rfl,hj0,hj3⟩
   have hj:j.toNat<ks.length:=by omega
   obtain⟨d',hd',hle'⟩:=hks _ (az hj)
   have hgj:(Ty.encs ks)[j.toNat]?=some ks[j.toNat].enc:=kL hj
   rw[Ty.enc_eq]at hgj
   have dbr:bt≠r:=by rintro rfl;rw[gr]at gt;simp[RdO]at gt
   have gt3:(H.set r (RdO bs p3)).get bt=some (.tail nt mt):=by rw[ae _ _ dbr];exact gt
   simp only[go_sem,rE,rA,e6,ax,av,ay,rL,bg]
   refine dS (es:=jA path) (ys:=[[I j]]) (rfl) gt3 (rfl) (by simp) (by simp[jA];omega) ?_
   intro bt' nt' mt' H4 fp4 gt4 hk4 _ _
   have dt3:b3≠bt:=by rintro rfl;rw[g3]at gt;simp at gt
   have dt5:b5≠bt:=by rintro rfl;rw[g5]at gt;simp at gt
   have g43:H4.get b3=some (.cells [.sl 1 none (Ty.encs ks)]):=by rw[hk4 b3 (by rw[ae _ _ (Ne.symm dr3),g3];simp) dt3,ae _ _ (Ne.symm dr3)];exact g3
   have g45:H4.get b5=some (.cells [NIL]):=by rw[hk4 b5 (by rw[ae _ _ (Ne.symm dr5),g5];simp) dt5,ae _ _ (Ne.symm dr5)];exact g5
   have g4r:H4.get r=some (RdO bs p3):=by rw[hk4 r (by simp) (Ne.symm dbr)];exact ai _ _ _
   have dt4:bt'≠b3:=by rintro rfl;rw[g43]at gt4;simp at gt4
   simp only[go_sem,rE,rA,e3,g43,hgj,hj0,rL]
   refine⟨d',by omega,_,aj.sub_refl _,ks[j.toNat],path++[j],p3,bt',nt',mt',hle',by simp;omega,by omega,by omega,?_⟩
   simp only[go_sem,rE,Ty.encs_map,e0,e5,tm,ae _ _ dr3,ae _ _ (Ne.symm d35),ae _ _ dt4,g4r,g45,gt4,ai]
  ·simp only[wp_exit,fh,dH,cu]
   exact stop _ _ p2 (by omega) (by omega) (e3) (e5) (e6) (ai _ _ _) g3' g5'
 ·simp only[go_sem,rE,rA,hk0]
  exact stop _ _ p1 (by omega) (by omega) (e3) (e5) (e6) gr g3 g5
end
theorem vz.row6{H:aj}{vs:List Vr}{i vb vc:Nat}{cs:List AC}{hi:i<vs.length}(h:vz H vs i vb vc cs hi):(cs.drop (i*6)).take 6=vs[i].enc/\i*6+6<=cs.length:=by
 have hlen:=dB (ys:=vs.map Vr.enc) (sz:=6) (by simp[Vr.enc])
 have h2:i*6+6<=cs.length:=by have:=h.off;omega
 refine⟨?_,h2⟩
 apply fQ
 intro j
 rw[eT]
 split
 ·rename_i hj
  rw[bU]
  have:=h.all
  simp only[ao]at this
  exact ji this hi hj
 ·rename_i hj
  rw[fx (by rw[Vr.enc_len];omega)]
section
variable {P:Program}{F:Ids}
def tF(v:En)(p last:Int)(c:Int)(q:AC)(v':En)(p' last':Int):Prop:=
 (∃(pl:Pl) (t:Ty),q=.tup [.agg pl.enc,.agg t.enc]/\pl.path.length<=8/\t.wf)/\v'=v/\p<=p'/\p'<=p+c/\last'=last
theorem ie(L:Lib P F)(m r:Nat)(bs:List UInt8)(hbs:bs.length<=2000)(v:En)(hv:v.ok)(p last:Int)(hp:0<=p)(hp2:p+20<=2^50):
 MkC P 93 [.ptr m 0] m r bs v p last (tF v p last 20):=by
 intro H e VS NS hM
 have hvl:=hv.len
 refine(L.a Tryz.func93 y93) (by simp[y93,f93]) ?_
 simp only[y93,f93,go_sem,rE]
 intro b2 hb2 b3 hb3 b9 hb9
 have hM2:=hM.new hb2 (.cells [.lit (.string (bl [])),.lit (.slice none 0 0)])
 have n2:=hM.notin hb2
 have hM3:=hM2.new hb3 (.cells [.lit (.slice none 0 0)])
 have n3:=hM2.notin hb3
 have hM9:=hM3.new hb9 (.tail 0 0)
 have n9:=hM3.notin hb9
 have d23:=al (ai H b2 _) hb3
 have d39:=al (ai (H.set b2 _) b3 _) hb9
 have d29:b2≠b9:=al (H:=(H.set b2 (.cells [.lit (.string (bl [])),.lit (.slice none 0 0)])).set b3 (.cells [.lit (.slice none 0 0)])) (by rw[ae _ _ d23,ai]) hb9
 have stop:∀(E':Env) (H':aj) (p':Int) (pl:Pl) (t:Ty) (x1 x2 y1:AC),cO H' m r bs e v VS NS p' last->p<=p'->p'<=p+20->E' 2=.ptr b2 0->E' 3=.ptr b3 0->H'.get b2=some (.cells [x1,x2])->H'.get b3=some (.cells [y1])->LeC [x1,x2] pl.enc->LeC [y1] t.enc->pl.path.length<=8->t.wf->
  bh.post [.cell 2 (some 2),.cell 3 (some 1)] (fun q H'=>∃e' v' VS' NS' p' last',tF v p last 20 q v' p' last'/\cO H' m r bs e' v' VS' NS' p' last') .ret E' H':=by
  intro E' H' p' pl t x1 x2 y1 hM h1 h2 e2 e3 g2 g3 l1 l2 hpl ht
  exact post_cc (q':=.agg [x1,x2]) (q:=.agg [y1]) (q1':=.agg pl.enc) (q1:=.agg t.enc) (off':=0) (off:=0) e2 g2 rfl (.agg l1) e3 g3 rfl (.agg l2) (aj.sub_refl _) ⟨e,v,VS,NS,p',last,⟨⟨pl,t,rfl,hpl,ht⟩,rfl,h1,h2,rfl⟩,hM⟩
 refine aV v.vars.length (fun k E H=>∃(Lv:List Nat) (bt nt mt:Nat),cO H m r bs e v VS NS p last/\(∀i∈Lv,i<v.vars.length)/\Lv.length<=k/\E 0=.ptr m 0/\E 2=.ptr b2 0/\E 3=.ptr b3 0/\E 4=.sl 1 (some (bt,nt,mt)) (bE Lv)/\E 5=I k/\
  H.get b2=some (.cells [S (bl []),NIL])/\H.get b3=some (.cells [NIL])/\H.get bt=some (.tail nt mt)/\¬cv m r e VS NS bt)
  ⟨[],b9,0,0,hM9,by simp,by simp,by simp[go_sem],by simp[go_sem],by simp[go_sem],by simp[go_sem,bE],by simp[go_sem],by rw[ae _ _ d29,ae _ _ d23,ai],by rw[ae _ _ d39,ai],ai _ _ _,n9⟩ ?_
 clear hb2 hb3 hb9 hM hM2 hM3 hM9 d29 d39 n9
 rintro k E H hk ⟨Lv,bt,nt,mt,hM,hLv,hLk,e0,e2,e3,e4,e5,g2,g3,gt,nt9⟩
 have hom:=hM.obj
 have hoe:=hM.env.obj
 simp only[cR]at hoe
 have hlim:v.vars.length<=LIM:=by simp only[LIM];omega
 have hVS:VS=NIL/\v.vars=[]\/∃vb vc,VS=.lit (.slice (some ⟨vb,0,none⟩) v.vars.length vc):=by
  rcases hM.env.vars with⟨h0,h1⟩|⟨vb,vc,cs,h1,-⟩
  ·exact .inl ⟨h1,by simpa using h0⟩
  ·exact .inr ⟨vb,vc,by simpa using h1⟩
 by_cases hlt:k<v.vars.length
 ·obtain⟨vb,vc,cs,rfl,hr⟩:=hM.env.vars.row hlt
  have hlt':(k:Int)<v.vars.length:=by omega
  have w1:=aP (n:=(k:Int)+1) (by omega) (by omega)
  have hrd:=hr.dead
  simp only[go_sem,rE,rA,e0,e5,hom,hoe,hlim,hlt',hr.get,hrd]
  cases hd:v.vars[k].dead
  ·simp only[go_sem,rE,rA,e4,e5,ax,av,ay,rL,bg]
   refine dS (es:=bE Lv) (ys:=bE [k]) (rfl) gt (rfl) (by simp[bE]) (by simp[bE];omega) ?_
   intro bt' nt' mt' H4 fp4 gt4 hk4 hbt4 _
   have hM4:cO H4 m r bs e v (.lit (.slice (some ⟨vb,0,none⟩) v.vars.length vc)) NS p last:=hM.mono fun d hd=>hk4 d (hM.mem hd) (by rintro rfl;exact nt9 hd)
   have d2t:b2≠bt:=by rintro rfl;rw[g2]at gt;simp at gt
   have d3t:b3≠bt:=by rintro rfl;rw[g3]at gt;simp at gt
   have nt4:¬cv m r e (.lit (.slice (some ⟨vb,0,none⟩) v.vars.length vc)) NS bt':=by
    rcases hbt4 with rfl|h
    ·exact nt9
    ·exact hM.notin h
   simp only[go_sem,rE,rA,e5,w1]
   refine⟨hlt,H4,aj.sub_refl _,Lv++[k],bt',nt',mt',hM4,fun i hi=>?_,by simp;omega,?_⟩
   ·rcases aE.1 hi with h|h
    ·exact hLv i h
    ·simp at h;omega
   ·simp only[go_sem,rE,e0,e2,e3]
    exact⟨by simp[bE],rfl,by rw[hk4 b2 (by rw[g2];simp) d2t];exact g2,by rw[hk4 b3 (by rw[g3];simp) d3t];exact g3,gt4,nt4⟩
  ·simp only[go_sem,rE,rA,e5,w1]
   exact⟨hlt,H,aj.sub_refl _,Lv,bt,nt,mt,hM,hLv,by omega,e0,e2,e3,e4,by simp,g2,g3,gt,nt9⟩
 ·have hlt':¬(k:Int)<v.vars.length:=by omega
  have rest:∀(E:Env),E 0=.ptr m 0->E 2=.ptr b2 0->E 3=.ptr b3 0->E 4=.sl 1 (some (bt,nt,mt)) (bE Lv)->
   aT.wp P (kd12) (bh.post [.cell 2 (some 2),.cell 3 (some 1)] (fun q H'=>∃e' v' VS' NS' p' last',tF v p last 20 q v' p' last'/\cO H' m r bs e' v' VS' NS' p' last')) E H:=by
   intro E e0 e2 e3 e4
   rw[kd12,fd12]
   simp only[go_sem,rE,rA,e4,fN]
   rcases Lv with _|⟨i0,Lr⟩
   ·simp only[dg,beq_self_eq_true,go_sem,rE,rA,e2,e3,g2,g3,Ne.symm d23,rL]
    refine stop _ _ p ⟨bl [110,111,110,101],[]⟩ (.mk []) _ _ _ ((hM.put n2 _).put n3 _) (eA _) (by omega) (by simp only[go_sem,rE];exact e2) (by simp only[go_sem,rE];exact e3) (by rw[ae _ _ d23,ai]) (ai _ _ _) ?_ ?_ (by simp) dK
    ·exact⟨⟨.refl _,rfl⟩,⟨.nil 1,rfl⟩,trivial⟩
    ·exact⟨⟨.nil 1,rfl⟩,trivial⟩
   ·have hne:(((i0::Lr).length:Int)==0)=false:=beq_eq_false_iff_ne.2 (by simp;omega)
    have hpos:1<=(i0::Lr).length:=by simp
    generalize hLL:i0::Lr=Lw at*
    have h00:0<v.vars.length:=by have:=hLv i0 (by rw[<-hLL];simp);omega
    obtain⟨vb0,vc0,cs0,rfl,hr0⟩:=hM.env.vars.row h00
    have dme:m≠e:=fun h=>hM.nm (.inl h)
    have dre:r≠e:=fun h=>hM.nr (.inl h)
    simp only[hne,go_sem,rE,rA,e0,e4,hom,hoe,fN]
    refine bw (cW L r bs p Lw.length hbs hp (by omega)) (rfl) hM.rd (fun _=>⟨by omega,I 0,0,rfl,by omega,.inr rfl⟩) (by simp[dQ];exact⟨Ne.symm dre,hM.mr⟩) ?_
    rintro q p1 hp1 hp1' ⟨k1,rfl,hk10,hk11⟩
    have hM1:=hM.setR p1
    have hk1l:k1.toNat<Lw.length:=by omega
    have hil:=hLv _ (az hk1l)
    obtain⟨vb1,vc1,cs1,heq,hr⟩:=hM1.env.vars.row hil
    simp only[AC.lit.injEq,Value.slice.injEq,Option.some.injEq,Addr.mk.injEq,true_and,and_true]at heq
    obtain⟨hq1,hq2⟩:=heq
    subst hq1 hq2
    obtain⟨r61,r62⟩:=hr.row6
    have hlt1:((Lw[k1.toNat]:Nat):Int)<v.vars.length:=by omega
    simp only[go_sem,rE,rA,hk10,jk hk1l,hlt1,hr.get,r61,r62,Vr.enc_len,rL]
    intro b6 hb6
    have n6:=hM1.notin hb6
    have hr2:(H.set r (RdO bs p1)).get r=some (RdO bs p1):=ai _ _ _
    have d26:b2≠b6:=al (H:=H.set r (RdO bs p1)) (by rw[ae _ _ (fun h=>n2 (.inr (.inl h)))];exact g2) hb6
    have d36:b3≠b6:=al (H:=H.set r (RdO bs p1)) (by rw[ae _ _ (fun h=>n3 (.inr (.inl h)))];exact g3) hb6
    have g21:(H.set r (RdO bs p1)).get b2=some (.cells [S (bl []),NIL]):=by rw[ae _ _ (fun h=>n2 (.inr (.inl h)))];exact g2
    have g31:(H.set r (RdO bs p1)).get b3=some (.cells [NIL]):=by rw[ae _ _ (fun h=>n3 (.inr (.inl h)))];exact g3
    have hM2:=hM1.new hb6 (.cells v.vars[Lw[k1.toNat]].enc)
    have hx:v.vars[Lw[k1.toNat]]∈v.vars:=az _
    generalize v.vars[Lw[k1.toNat]]=x at*
    have stepP:∀(E:Env) (H:aj) (p1:Int) (x:Vr),x∈v.vars->cO H m r bs e v (.lit (.slice (some ⟨vb0,0,none⟩) v.vars.length vc0)) NS p1 last->p<=p1->p1<=p+2->E 0=.ptr m 0->E 2=.ptr b2 0->E 3=.ptr b3 0->E 6=.ptr b6 0->H.get b6=some (.cells x.enc)->
     H.get b2=some (.cells [S (bl []),NIL])->H.get b3=some (.cells [NIL])->
     aT.wp P (kd11) (bh.post [.cell 2 (some 2),.cell 3 (some 1)] (fun q H'=>∃e' v' VS' NS' p' last',tF v p last 20 q v' p' last'/\cO H' m r bs e' v' VS' NS' p' last')) E H:=by
     intro E H p1 x hx hM h1 h2 e0 e2 e3 e6 g6 g2 g3
     rw[kd11,fd11]
     obtain⟨-,D,hD8,hD⟩:=hv.all x hx
     have hom:=hM.obj
     have d26:b2≠b6:=by rintro rfl;rw[g6]at g2;simp[Vr.enc]at g2
     have d6r:b6≠r:=by rintro rfl;have:=hM.rd;rw[g6]at this;simp[Vr.enc,RdO]at this
     simp only[Vr.enc]at g6
     simp only[go_sem,rE,rA,e0,e6,hom,g6,rL]
     refine bw (yU L r bs hbs D (by omega) x.type hD p1 (by omega) (by omega)) (by simp only[go_sem,rE,Ty.enc_eq x.type]) hM.rd (fun _=>⟨by omega,_,[],.mk [],rfl,by simp,jM _⟩) trivial ?_
     rintro q p2 hp2 hp2' ⟨path,u,rfl,hpath,hu⟩
     have hM2:=hM.setR p2
     simp only[go_sem,rE,rA,Ty.enc_eq u]
     intro b8 hb8
     have n8:=hM2.notin hb8
     have hM3:=hM2.new hb8 (.cells [.sl 1 none (Ty.encs u.kids)])
     have nr2:b2≠r:=fun h=>n2 (.inr (.inl h))
     have nr3:b3≠r:=fun h=>n3 (.inr (.inl h))
     have g62:(H.set r (RdO bs p2)).get b6=some (.cells [S x.name,B x.lent,B x.param,.sl 1 none (Ty.encs x.type.kids),.sl 2 none (x.loans.map Pl.enc),B x.dead]):=by rw[ae _ _ d6r];exact g6
     have g22:(H.set r (RdO bs p2)).get b2=some (.cells [S (bl []),NIL]):=by rw[ae _ _ nr2];exact g2
     have g32:(H.set r (RdO bs p2)).get b3=some (.cells [NIL]):=by rw[ae _ _ nr3];exact g3
     have d68:=al g62 hb8
     have d28:=al g22 hb8
     have d38:=al g32 hb8
     simp only[go_sem,rE,rA,e2,e3,e6,d68,g62,d28,g22,Ne.symm d28,Ne.symm d23,Ne.symm d38,d38,g32,qQ,dQ,jw,rL,bi,cF,or_false,forall_eq,forall_eq_or_imp]
     refine stop _ _ p2 ⟨x.name,path⟩ u _ _ _ ((hM3.put n2 _).put n3 _) (by omega) (by omega) (by simp only[go_sem,rE];exact e2) (by simp only[go_sem,rE];exact e3) (by rw[ae _ _ d23,ai]) (ai _ _ _) ?_ ?_ (by simp only;omega) ⟨D,hD8,hu⟩
     ·exact⟨⟨.refl _,rfl⟩,⟨.refl _,rfl⟩,trivial⟩
     ·rw[Ty.enc_eq];exact⟨⟨.refl _,rfl⟩,trivial⟩
    have g62:((H.set r (RdO bs p1)).set b6 (.cells x.enc)).get b6=some (.cells x.enc):=ai _ _ _
    have g22:((H.set r (RdO bs p1)).set b6 (.cells x.enc)).get b2=some (.cells [S (bl []),NIL]):=by rw[ae _ _ d26];exact g21
    have g32:((H.set r (RdO bs p1)).set b6 (.cells x.enc)).get b3=some (.cells [NIL]):=by rw[ae _ _ d36];exact g31
    generalize((H.set r (RdO bs p1)).set b6 (.cells x.enc))=H2 at*
    have hom2:=hM2.obj
    simp only[go_sem,rE,rA,e0,hom2]
    refine bw (cW L r bs p1 3 hbs (by omega) (by omega)) (rfl) hM2.rd (fun hd=>by simp at hd) trivial ?_
    rintro q p2 hp2 hp2' ⟨k2,rfl,hk20,hk21⟩
    have hM3:=hM2.setR p2
    have nr2:b2≠r:=fun h=>n2 (.inr (.inl h))
    have nr3:b3≠r:=fun h=>n3 (.inr (.inl h))
    have nr6:b6≠r:=fun h=>n6 (.inr (.inl h))
    have g63:(H2.set r (RdO bs p2)).get b6=some (.cells x.enc):=by rw[ae _ _ nr6];exact g62
    have g23:(H2.set r (RdO bs p2)).get b2=some (.cells [S (bl []),NIL]):=by rw[ae _ _ nr2];exact g22
    have g33:(H2.set r (RdO bs p2)).get b3=some (.cells [NIL]):=by rw[ae _ _ nr3];exact g32
    have hom3:=hM3.obj
    have hoe3:=hM3.env.obj
    simp only[cR]at hoe3
    generalize(H2.set r (RdO bs p2))=H3 at*
    simp only[go_sem,rE,rA]
    by_cases hk2:k2=0
    ·have hk2':(k2==0)=true:=by simpa using hk2
     have wl:=aP (n:=(Lw.length:Int) - 1) (by omega) (by omega)
     have hll:((Lw.length:Int) - 1).toNat<Lw.length:=by omega
     have hl0:0<=(Lw.length:Int) - 1:=by omega
     have hil2:=hLv _ (az hll)
     obtain⟨vb1,vc1,cs1,heq,hr⟩:=hM3.env.vars.row hil2
     simp only[AC.lit.injEq,Value.slice.injEq,Option.some.injEq,Addr.mk.injEq,true_and,and_true]at heq
     obtain⟨hq1,hq2⟩:=heq
     subst hq1 hq2
     obtain⟨r61,r62⟩:=hr.row6
     have hlt1:((Lw[((Lw.length:Int) - 1).toNat]:Nat):Int)<v.vars.length:=by omega
     simp only[hk2',go_sem,rE,rA,e0,e4,hom3,hoe3,fN,wl,hl0,jk hll,hlt1,hr.get,r61,r62,g63,Vr.enc_len,rL]
     have d26':b2≠b6:=d26
     refine stepP _ _ p2 v.vars[Lw[((Lw.length:Int) - 1).toNat]] (az _) (hM3.put n6 _) (by omega) (by omega) (e0) (e2) (e3) (rfl) ?_ (by rw[ae _ _ d26];exact g23) (by rw[ae _ _ d36];exact g33)
     simp[Vr.enc]
    ·have hk2':(k2==0)=false:=by simpa using hk2
     simp only[hk2',go_sem,rE,rA]
     exact stepP _ _ p2 x hx hM3 (by omega) (by omega) (e0) (e2) (e3) (rfl) g63 g23 g33
  rcases hVS with⟨rfl,hv0⟩|⟨vb,vc,rfl⟩
  ·have:k=0:=by rw[hv0]at hk;simpa using hk
   subst this
   simp only[go_sem,rE,rA,e0,e5,hom,hoe,dg,Int.lt_irrefl]
   exact rest _ (e0) (e2) (e3) (e4)
  ·simp only[go_sem,rE,rA,e0,e5,hom,hoe,hlim,hlt']
   exact rest _ (e0) (e2) (e3) (e4)
end
def ej:Nat->Int
 |0=>200
 |d+1=>200+2*ej d
theorem mG:∀d,200<=ej d
 |0=>by simp[ej]
 |d+1=>by have:=mG d;simp only[ej];omega
def iQ(v:En)(p last:Int)(c:Int)(q:AC)(v':En)(p' last':Int):Prop:=
 (∃x:Ex,q=.agg x.enc/\x.ok/\x.sm)/\v'=v/\p<=p'/\p'<=p+c/\last'=last
theorem fZ(v:En)(p last c:Int)(hc:0<=c):∃q v' p' last',iQ v p last c q v' p' last':=
 ⟨_,v,p,last,⟨.mk 1 0 ⟨bl [],[]⟩ [],rfl,.mk (by simp) (by simp) (by simp),.mk (by decide) (by simp)⟩,rfl,eA _,by omega,rfl⟩
theorem leNum(n:Int):LeC [I 1,I n,S (bl []),NIL,NIL] (Ex.mk 1 n ⟨bl [],[]⟩ []).enc:=by
 rw[Ex.enc];exact⟨⟨.refl _,rfl⟩,⟨.refl _,rfl⟩,⟨.refl _,rfl⟩,⟨.nil 1,rfl⟩,⟨.nil 5,rfl⟩,trivial⟩
theorem An(pl:Pl):LeC [I 2,I 0,S pl.name,au pl.path,NIL] (Ex.mk 2 0 pl []).enc:=by
 rw[Ex.enc];exact⟨⟨.refl _,rfl⟩,⟨.refl _,rfl⟩,⟨.refl _,rfl⟩,⟨.refl _,rfl⟩,⟨.nil 5,rfl⟩,trivial⟩
theorem leNone:LeC [I 2,I 0,S (bl [110,111,110,101]),NIL,NIL] (Ex.mk 2 0 ⟨bl [110,111,110,101],[]⟩ []).enc:=by
 rw[Ex.enc];exact⟨⟨.refl _,rfl⟩,⟨.refl _,rfl⟩,⟨.refl _,rfl⟩,⟨.nil 1,rfl⟩,⟨.nil 5,rfl⟩,trivial⟩
theorem leTwo(k:Int)(tok:Option (Nat×Nat×Nat))(a b:Ex):LeC [I k,I 0,S (bl []),NIL,.sl 5 tok [a.enc,b.enc]] (Ex.mk k 0 ⟨bl [],[]⟩ [a,b]).enc:=by
 rw[Ex.enc];exact⟨⟨.refl _,rfl⟩,⟨.refl _,rfl⟩,⟨.refl _,rfl⟩,⟨.nil 1,rfl⟩,⟨by simp only[Ex.encs];exact .tok _ _ _,rfl⟩,trivial⟩
theorem okNum(n:Int)(h:n<100):(Ex.mk 1 n ⟨bl [],[]⟩ []).ok/\(Ex.mk 1 n ⟨bl [],[]⟩ []).sm:=⟨.mk (by simp) (by simp) (by simp),.mk h (by simp)⟩
theorem wc(pl:Pl)(h:pl.path.length<=8):(Ex.mk 2 0 pl []).ok/\(Ex.mk 2 0 pl []).sm:=⟨.mk (by omega) (by simp) (by simp),.mk (by decide) (by simp)⟩
theorem okTwo(k:Int){a b:Ex}(ha:a.ok/\a.sm)(hb:b.ok/\b.sm):(Ex.mk k 0 ⟨bl [],[]⟩ [a,b]).ok/\(Ex.mk k 0 ⟨bl [],[]⟩ [a,b]).sm:=
 ⟨.mk (by simp) (by simp) (by simp;exact⟨ha.1,hb.1⟩),.mk (by decide) (by simp;exact⟨ha.2,hb.2⟩)⟩
theorem lx{H:aj}{a b:Nat}{z z' c c':cz}(h:a≠b):(((H.set a z).set b z').set a c).set b c'=(H.set a c).set b c':=by
 apply aj.ext;intro d
 simp only[aK]
 by_cases h1:d=b
 ·simp[h1]
 ·by_cases h2:d=a<;>simp[h1,h2]
theorem tf{H:aj}{a b:Nat}{z:cz}(h:(H.set a z).get b=none)(c:cz):(H.set a c).get b=none:=by
 simp only[aK]at h⊢
 by_cases h1:b=a
 ·simp[h1]at h
 ·simpa[h1]using h
theorem ny{H:aj}{a b:Nat}{z:cz}(h:(H.set a z).get b=none):a≠b:=by rintro rfl;simp at h
section
variable {P:Program}{F:Ids}
theorem jo(L:Lib P F)(m r:Nat)(bs:List UInt8)(hbs:bs.length<=2000)(v:En)(hv:v.ok)(last:Int):∀(d:Nat),d<=10->∀(t:Ty) (dp:Int),t.wf->dp<=d->-10<=dp->∀p:Int,0<=p->p+ej d<=2^50->
 MkC P 97 [.ptr m 0,.agg t.enc,I dp] m r bs v p last (iQ v p last (ej d)):=by
 intro d
 induction d using Nat.strongRecOn with
 |_ d ih=>
  intro hd t dp ht hdp hdp2 p hp hp2
  intro H e VS NS hM
  have hec:=mG d
  refine(L.a Tryz.func97 y97) (by simp[y97,f97]) ?_
  rw[Ty.enc_eq t]
  simp only[y97,f97,go_sem,rE]
  intro b4 hb4 b6 hb6
  have hM4:=hM.new hb4 (.cells [.sl 1 none (Ty.encs t.kids)])
  have n4:=hM.notin hb4
  have hM6:=hM4.new hb6 (.cells [.lit (.int .i64 0),.lit (.int .i64 0),.lit (.string (bl [])),.lit (.slice none 0 0),.lit (.slice none 0 0)])
  have n6:=hM4.notin hb6
  have d46:=al (ai H b4 _) hb6
  have g4:((H.set b4 (.cells [.sl 1 none (Ty.encs t.kids)])).set b6 (.cells [.lit (.int .i64 0),.lit (.int .i64 0),.lit (.string (bl [])),.lit (.slice none 0 0),.lit (.slice none 0 0)])).get b4=some (.cells [.sl 1 none (Ty.encs t.kids)]):=by rw[ae _ _ d46,ai]
  have g6:((H.set b4 (.cells [.sl 1 none (Ty.encs t.kids)])).set b6 (.cells [.lit (.int .i64 0),.lit (.int .i64 0),.lit (.string (bl [])),.lit (.slice none 0 0),.lit (.slice none 0 0)])).get b6=some (.cells [I 0,I 0,S (bl []),NIL,NIL]):=ai _ _ _
  generalize((H.set b4 (.cells [.sl 1 none (Ty.encs t.kids)])).set b6 (.cells [.lit (.int .i64 0),.lit (.int .i64 0),.lit (.string (bl [])),.lit (.slice none 0 0),.lit (.slice none 0 0)]))=H1 at*
  clear hb4 hb6 hM hM4
  have stop:∀(E':Env) (H':aj) (e':Nat) (VS' NS':AC) (p':Int) (x:Ex) (cs:List AC),cO H' m r bs e' v VS' NS' p' last->p<=p'->p'<=p+ej d->E' 6=.ptr b6 0->H'.get b6=some (.cells cs)->cs.length=5->LeC cs x.enc->x.ok/\x.sm->
   bh.post [.cell 6 (some 5)] (fun q H'=>∃e' v' VS' NS' p' last',iQ v p last (ej d) q v' p' last'/\cO H' m r bs e' v' VS' NS' p' last') .ret E' H':=by
   intro E' H' e' VS' NS' p' x cs hM h1 h2 e6 g6 hl5 hle hx
   exact bP (q':=.agg x.enc) (q:=.agg cs) (off:=0) e6 g6 (by simp only[fH,hl5,aA,bY,if_true,gZ];rw[cy (by omega)]) (.agg hle) (aj.sub_refl _) ⟨e',v,VS',NS',p',last,⟨⟨x,rfl,hx.1,hx.2⟩,rfl,h1,h2,rfl⟩,hM⟩
  have hom:=hM6.obj
  obtain⟨D,hD8,hD⟩:=ht
  have other:∀(E:Env) (H:aj),cO H m r bs e v VS NS p last->E 0=.ptr m 0->E 2=I dp->E 4=.ptr b4 0->E 6=.ptr b6 0->H.get b4=some (.cells [.sl 1 none (Ty.encs t.kids)])->H.get b6=some (.cells [I 0,I 0,S (bl []),NIL,NIL])->
   aT.wp P (kd17) (bh.post [.cell 6 (some 5)] (fun q H'=>∃e' v' VS' NS' p' last',iQ v p last (ej d) q v' p' last'/\cO H' m r bs e' v' VS' NS' p' last')) E H:=by
   intro E H hM e0 e2 e4 e6 g4 g6
   rw[kd17,fd17]
   have hom:=hM.obj
   simp only[go_sem,rE,rA,e0,hom]
   refine bw (cW L r bs p 6 hbs hp (by omega)) (rfl) hM.rd (by simp) trivial ?_
   rintro q p1 hp1 hp1' ⟨k,rfl,hk0,hk6⟩
   have hM1:=hM.setR p1
   have g41:(H.set r (RdO bs p1)).get b4=some (.cells [.sl 1 none (Ty.encs t.kids)]):=by rw[ae _ _ (fun h=>n4 (.inr (.inl h)))];exact g4
   have g61:(H.set r (RdO bs p1)).get b6=some (.cells [I 0,I 0,S (bl []),NIL,NIL]):=by rw[ae _ _ (fun h=>n6 (.inr (.inl h)))];exact g6
   have hom1:=hM1.obj
   generalize H.set r (RdO bs p1)=H1 at*
   clear g4 g6 hom hM
   have numC:∀(E:Env),E 0=.ptr m 0->E 6=.ptr b6 0->∀A:Env->aj->Prop,aT.wp P (kd13) (cE.then A (bh.post [.cell 6 (some 5)] (fun q H'=>∃e' v' VS' NS' p' last',iQ v p last (ej d) q v' p' last'/\cO H' m r bs e' v' VS' NS' p' last'))) E H1:=by
    intro E e0 e6 A
    rw[kd13,fd13]
    simp only[go_sem,rE,rA,e0,hom1,ax,av,ay,rL,bg]
    refine bw (cW L r bs p1 6 hbs (by omega) (by omega)) (rfl) hM1.rd (by simp) trivial ?_
    rintro q p2 hp2 hp2' ⟨j,rfl,hj0,hj6⟩
    have hM2:=hM1.setR p2
    have g62:(H1.set r (RdO bs p2)).get b6=some (.cells [I 0,I 0,S (bl []),NIL,NIL]):=by rw[ae _ _ (fun h=>n6 (.inr (.inl h)))];exact g61
    have hjj:∃n:Int,n<100/\([[I 0],[I 1],[I 1],[I 2],[I 5],[I 90]]:List (List AC))[j.toNat]?=some [I n]:=by
     have:j=0\/j=1\/j=2\/j=3\/j=4\/j=5:=by omega
     rcases this with rfl|rfl|rfl|rfl|rfl|rfl
     ·exact⟨0,by decide,rfl⟩
     ·exact⟨1,by decide,rfl⟩
     ·exact⟨1,by decide,rfl⟩
     ·exact⟨2,by decide,rfl⟩
     ·exact⟨5,by decide,rfl⟩
     ·exact⟨90,by decide,rfl⟩
    obtain⟨n,hn,hgn⟩:=hjj
    simp only[go_sem,rE,rA,e6,hj0,hgn,g62,rL]
    exact stop _ _ _ _ _ p2 (.mk 1 n ⟨bl [],[]⟩ []) _ (hM2.put n6 _) (by omega) (by omega) (by simp only[go_sem,rE];exact e6) (ai _ _ _) rfl (leNum n) (okNum n hn)
   have twoC:∀(E:Env),2<=dp->E 0=.ptr m 0->E 2=I dp->E 4=.ptr b4 0->E 6=.ptr b6 0->aT.wp P (kd14) (bh.post [.cell 6 (some 5)] (fun q H'=>∃e' v' VS' NS' p' last',iQ v p last (ej d) q v' p' last'/\cO H' m r bs e' v' VS' NS' p' last')) E H1:=by
    intro E hdp3 e0 e2 e4 e6
    rw[kd14,fd14]
    obtain⟨d',rfl⟩:∃d',d=d'+1:=⟨d - 1,by omega⟩
    have hec':=mG d'
    have hecd:ej (d'+1)=200+2*ej d':=rfl
    have wd:=aP (n:=dp - 1) (by omega) (by omega)
    have ih:=ih d' (by omega) (by omega)
    simp only[go_sem,rE,rA,e0,hom1,ax,av,ay,rL,bg]
    refine bw (cW L r bs p1 5 hbs (by omega) (by omega)) (rfl) hM1.rd (by simp) trivial ?_
    rintro q p2 hp2 hp2' ⟨j,rfl,hj0,hj6⟩
    have hM2:=hM1.setR p2
    have g42:(H1.set r (RdO bs p2)).get b4=some (.cells [.sl 1 none (Ty.encs t.kids)]):=by rw[ae _ _ (fun h=>n4 (.inr (.inl h)))];exact g41
    have g62:(H1.set r (RdO bs p2)).get b6=some (.cells [I 0,I 0,S (bl []),NIL,NIL]):=by rw[ae _ _ (fun h=>n6 (.inr (.inl h)))];exact g61
    have hjj:∃n:Int,([[I 3],[I 3],[I 3],[I 5],[I 4]]:List (List AC))[j.toNat]?=some [I n]:=by
     have:j=0\/j=1\/j=2\/j=3\/j=4:=by omega
     rcases this with rfl|rfl|rfl|rfl|rfl
     ·exact⟨3,rfl⟩
     ·exact⟨3,rfl⟩
     ·exact⟨3,rfl⟩
     ·exact⟨5,rfl⟩
     ·exact⟨4,rfl⟩
    obtain⟨kd,hgk⟩:=hjj
    generalize H1.set r (RdO bs p2)=H2 at*
    simp only[go_sem,rE,rA,e0,e2,e4,hj0,hgk,g42,wd,rL]
    refine dP (ih t (dp - 1) ⟨D,hD8,hD⟩ (by omega) (by omega) p2 (by omega) (by omega)) hM2 (by simp only[go_sem,rE,Ty.enc_eq t]) (.refl _) (fun _=>fZ _ _ _ _ (by omega)) (by simp[dQ]) ?_
    rintro q e3 v3 VS3 NS3 p3 last3 H3 fp3 ⟨⟨xa,rfl,hxa,hxa2⟩,rfl,hp3,hp3',rfl⟩ hM3 hk3 hfp3
    have nf4:¬fp3 b4:=fun h=>(hfp3 b4 h).elim n4 (fun h=>by rw[g42]at h;simp at h)
    obtain⟨g43,n43⟩:=hk3 _ _ g42 n4
    obtain⟨g63,n63⟩:=hk3 _ _ g62 n6
    simp only[go_sem,rE,rA,e0,e2,e4,g43,wd,jw,bi,cF,or_false,forall_eq,nf4,rL]
    refine dP (ih t (dp - 1) ⟨D,hD8,hD⟩ (by omega) (by omega) p3 (by omega) (by omega)) hM3 (by simp only[go_sem,rE,Ty.enc_eq t]) (.refl _) (fun _=>fZ _ _ _ _ (by omega)) trivial ?_
    rintro q e5 v5 VS5 NS5 p5 last5 H5 fp5 ⟨⟨xb,rfl,hxb,hxb2⟩,rfl,hp5,hp5',rfl⟩ hM5 hk5 hfp5
    obtain⟨g65,n65⟩:=hk5 _ _ g63 n63
    simp only[go_sem,rE,rA,e6,g65,Ex.enc_eq xa,Ex.enc_eq xb,ax,av,ay,rL,bg,aA]
    intro b7 hb7
    have d67:=al g65 hb7
    simp only[go_sem,rE,rA,e6,d67,g65,rL]
    refine stop _ _ _ _ _ p5 (.mk kd 0 ⟨bl [],[]⟩ [xa,xb]) _ ((hM5.new hb7 _).put n65 _) (by omega) (by omega) (by simp only[go_sem,rE];exact e6) (ai _ _ _) rfl ?_ (okTwo kd ⟨hxa,hxa2⟩ ⟨hxb,hxb2⟩)
    have:=leTwo kd (some (b7,2*5,2*5)) xa xb
    simpa only[Ex.enc_eq xa,Ex.enc_eq xb]using this
   have readC:∀(E:Env),E 0=.ptr m 0->E 6=.ptr b6 0->∀A:Env->aj->Prop,aT.wp P (kd15) (cE.then A (bh.post [.cell 6 (some 5)] (fun q H'=>∃e' v' VS' NS' p' last',iQ v p last (ej d) q v' p' last'/\cO H' m r bs e' v' VS' NS' p' last'))) E H1:=by
    intro E e0 e6 A
    rw[kd15,fd15]
    simp only[go_sem,rE,rA]
    let J:Nat->Env->aj->Prop:=fun k E H=>∃e' VS' NS' p',cO H m r bs e' v VS' NS' p' last/\p<=p'/\p'<=p+1+20*(k:Int)/\E 0=.ptr m 0/\E 6=.ptr b6 0/\E 11=I k/\H.get b6=some (.cells [I 0,I 0,S (bl []),NIL,NIL])/\¬cv m r e' VS' NS' b6
    refine aV 4 J
     ⟨e,VS,NS,p1,hM1,by omega,by omega,e0,e6,rfl,g61,n6⟩ ?_
    rintro k E H hk ⟨e',VS',NS',p',hM,hp1,hp2,e0,e6,e11,g6,n6⟩
    simp only[wp_seq,go_sem,rE,rA,e11]
    refine aH (fun hlt=>?_) (fun hge=>?_)
    ·have w1:=aP (n:=(k:Int)+1) (by omega) (by omega)
     simp only[go_sem,rE,rA,e0]
     refine dP (ie L m r bs hbs v hv p' last (by omega) (by omega)) hM (rfl) (.refl _) (by simp) trivial ?_
     rintro q e2 v2 VS2 NS2 p2 last2 H2 fp2 ⟨⟨pl,u,rfl,hpl,hu⟩,rfl,hp3,hp4,rfl⟩ hM2 hk2 -
     obtain⟨g6,n6⟩:=hk2 _ _ g6 n6
     simp only[go_sem,rE,rA,Ty.enc_eq u,Pl.enc]
     intro b12 hb12 b13 hb13
     have hM3:=(hM2.new hb12 (.cells [S pl.name,au pl.path])).new (tf hb13 _) (.cells [.sl 1 none (Ty.encs u.kids)])
     have d12:=ny hb13
     have d6a:=al g6 hb12
     have d6b:b6≠b13:=al (H:=H2.set b12 _) (by rw[ae _ _ d6a];exact g6) hb13
     have hz:(((u.kids.length:Nat):Int)==0)=decide (u.kids.length=0):=by rw[aX];simp
     simp only[go_sem,rE,rA,d12,Ne.symm d12,Ty.encs_map,ao,hz,lx d12]
     have next:∀(E':Env),E' 0=.ptr m 0->E' 6=.ptr b6 0->E' 11=I (k+1:Nat)->k<4/\∃H'',aj.sub H'' ((H2.set b12 (.cells [S pl.name,au pl.path])).set b13 (.cells [.sl 1 none (u.kids.map Ty.enc)]))/\J (k+1) E' H'':=by
      intro E' h0 h6 h11
      rw[<-Ty.encs_map]
      exact⟨by omega,_,aj.sub_refl _,e2,VS2,NS2,p2,hM3,by omega,by omega,h0,h6,h11,by rw[ae _ _ d6b,ae _ _ d6a];exact g6,n6⟩
     by_cases hu0:u.kids.length=0
     ·by_cases hn:pl.name=bl [110,111,110,101]
      ·simp only[go_sem,rE,rA,hu0,hn,d12,e11,w1]
       rw[<-hn]
       refine next _ (e0) (e6) (rfl)
      ·simp only[go_sem,rE,rA,hu0,hn,d12,e6,d6a,d6b,g6,rL]
       rw[<-Ty.encs_map]
       exact stop _ _ _ _ _ p2 (.mk 2 0 pl []) _ (hM3.put n6 _) (by omega) (by omega) (by simp only[go_sem,rE];exact e6) (ai _ _ _) rfl (An pl) (wc pl hpl)
     ·simp only[go_sem,rE,rA,hu0,e11,w1]
      exact next _ (e0) (e6) (rfl)
    ·simp only[go_sem,rE,rA,e6,g6,rL]
     exact stop _ _ _ _ _ p' (.mk 1 1 ⟨bl [],[]⟩ []) _ (hM.put n6 _) (by omega) (by omega) (by simp only[go_sem,rE];exact e6) (ai _ _ _) rfl (leNum 1) (okNum 1 (by decide))
   have fin4:∀(E:Env),E 0=.ptr m 0->E 2=I dp->E 4=.ptr b4 0->E 6=.ptr b6 0->E 10=I k->¬(k<2\/(dp<2/\3<k))->
    aT.wp P (kd16) (bh.post [.cell 6 (some 5)] (fun q H'=>∃e' v' VS' NS' p' last',iQ v p last (ej d) q v' p' last'/\cO H' m r bs e' v' VS' NS' p' last')) E H1:=by
    intro E e0 e2 e4 e6 e10 hnot
    rw[kd16,fd16]
    by_cases hk4:k<4
    ·simp only[go_sem,rE,rA,e10,hk4]
     exact readC _ (by simp only[go_sem,rE,e0]) (by simp only[go_sem,rE,e6]) _
    ·simp only[go_sem,rE,rA,e10,hk4]
     exact twoC _ (by omega) (e0) (e2) (e4) (e6)
   by_cases hk2:k<2
   ·simp only[go_sem,rE,rA,hk2]
    exact numC _ (by simp only[go_sem,rE,e0]) (by simp only[go_sem,rE,e6]) _
   ·by_cases hdp3:dp<2
    ·by_cases hk3:k>3
     ·simp only[go_sem,rE,rA,hk2,e2,hdp3,hk3]
      exact numC _ (by simp only[go_sem,rE,e0]) (by simp only[go_sem,rE,e6]) _
     ·simp only[go_sem,rE,rA,hk2,e2,hdp3,hk3]
      exact fin4 _ (e0) (e2) (e4) (e6) (rfl) (by omega)
    ·simp only[go_sem,rE,rA,hk2,e2,hdp3]
     exact fin4 _ (e0) (e2) (e4) (e6) (rfl) (by omega)
  obtain⟨ks⟩:=t
  obtain⟨hk3,hks⟩:=jb hD
  simp only[Ty.kids]at g4 other⊢
  have hz2:(((ks.length:Nat):Int)==2)=decide (ks.length=2):=by rw[aX,beq_iff_eq,decide_eq_true_eq];omega
  by_cases hk2:ks.length=2
  ·obtain⟨ta,tb,rfl⟩:∃ta tb,ks=[ta,tb]:=by
    match ks,hk2 with
    |[ta,tb],_=>exact⟨_,_,rfl⟩
   obtain⟨Da,hDa,hta⟩:=hks ta (by simp)
   obtain⟨Db,hDb,htb⟩:=hks tb (by simp)
   have wfa:ta.wf:=⟨Da,by omega,hta⟩
   have wfb:tb.wf:=⟨Db,by omega,htb⟩
   have ea:(Ty.encs [ta,tb])[0]?=some ta.enc:=by simp[Ty.encs]
   have eb:(Ty.encs [ta,tb])[1]?=some tb.enc:=by simp[Ty.encs]
   rw[Ty.enc_eq]at ea eb
   have hl2:(Ty.encs [ta,tb]).length=2:=rfl
   simp only[go_sem,rE,rA,g4,hl2,Int.cast_ofNat_Int,beq_self_eq_true]
   have deepC:∀(E:Env) (H:aj) (e':Nat) (VS' NS':AC) (p':Int),cO H m r bs e' v VS' NS' p' last->p<=p'->p'<=p+100->E 0=.ptr m 0->E 2=I dp->E 4=.ptr b4 0->E 6=.ptr b6 0->H.get b4=some (.cells [.sl 1 none (Ty.encs [ta,tb])])->H.get b6=some (.cells [I 0,I 0,S (bl []),NIL,NIL])->¬cv m r e' VS' NS' b4->¬cv m r e' VS' NS' b6->
    ∀A:Env->aj->Prop,aT.wp P (kd18) (cE.then A (bh.post [.cell 6 (some 5)] (fun q H'=>∃e' v' VS' NS' p' last',iQ v p last (ej d) q v' p' last'/\cO H' m r bs e' v' VS' NS' p' last'))) E H:=by
    intro E H e' VS' NS' p' hM1 h1 h2 e0 e2 e4 e6 g41 g61 n4 n6 A
    rw[kd18,fd18]
    simp only[go_sem,rE,rA,e2]
    refine aH (fun hlt=>?_) (fun hge=>?_)
    ·simp only[go_sem,rE,rA,e6,g61,rL]
     exact stop _ _ _ _ _ p' (.mk 2 0 ⟨bl [110,111,110,101],[]⟩ []) _ (hM1.put n6 _) (by omega) (by omega) (by simp only[go_sem,rE];exact e6) (ai _ _ _) rfl leNone (wc _ (by simp))
    ·obtain⟨d',rfl⟩:∃d',d=d'+1:=⟨d - 1,by omega⟩
     have hec':=mG d'
     have hecd:ej (d'+1)=200+2*ej d':=rfl
     have wd:=aP (n:=dp - 1) (by omega) (by omega)
     have ih:=ih d' (by omega) (by omega)
     simp only[go_sem,rE,rA,e0,e2,e4,g41,wd,eA,Int.toNat_zero,ea,rL]
     refine dP (ih ta (dp - 1) wfa (by omega) (by omega) p' (by omega) (by omega)) hM1 (by simp only[go_sem,rE,Ty.enc_eq ta]) (.refl _) (fun _=>fZ _ _ _ _ (by omega)) (by simp[dQ]) ?_
     rintro q e3 v3 VS3 NS3 p3 last3 H3 fp3 ⟨⟨xa,rfl,hxa,hxa2⟩,rfl,hp3,hp3',rfl⟩ hM3 hk3 hfp3
     have nf4:¬fp3 b4:=fun h=>(hfp3 b4 h).elim n4 (fun h=>by rw[g41]at h;simp at h)
     obtain⟨g43,n43⟩:=hk3 _ _ g41 n4
     obtain⟨g63,n63⟩:=hk3 _ _ g61 n6
     simp only[go_sem,rE,rA,e0,e2,e4,g43,wd,dN,Int.reduceToNat,eb,jw,bi,cF,or_false,forall_eq,nf4,rL]
     refine dP (ih tb (dp - 1) wfb (by omega) (by omega) p3 (by omega) (by omega)) hM3 (by simp only[go_sem,rE,Ty.enc_eq tb]) (.refl _) (fun _=>fZ _ _ _ _ (by omega)) trivial ?_
     rintro q e5 v5 VS5 NS5 p5 last5 H5 fp5 ⟨⟨xb,rfl,hxb,hxb2⟩,rfl,hp5,hp5',rfl⟩ hM5 hk5 hfp5
     obtain⟨g65,n65⟩:=hk5 _ _ g63 n63
     simp only[go_sem,rE,rA,e6,g65,Ex.enc_eq xa,Ex.enc_eq xb,ax,av,ay,rL,bg,aA]
     intro b7 hb7
     have d67:=al g65 hb7
     simp only[go_sem,rE,rA,e6,d67,g65,rL]
     refine stop _ _ _ _ _ p5 (.mk 6 0 ⟨bl [],[]⟩ [xa,xb]) _ ((hM5.new hb7 _).put n65 _) (by omega) (by omega) (by simp only[go_sem,rE];exact e6) (ai _ _ _) rfl ?_ (okTwo 6 ⟨hxa,hxa2⟩ ⟨hxb,hxb2⟩)
     have:=leTwo 6 (some (b7,2*5,2*5)) xa xb
     simpa only[Ex.enc_eq xa,Ex.enc_eq xb]using this
   let J:Nat->Env->aj->Prop:=fun k E H=>∃e' VS' NS' p',cO H m r bs e' v VS' NS' p' last/\p<=p'/\p'<=p+20*(k:Int)/\E 0=.ptr m 0/\E 2=I dp/\E 4=.ptr b4 0/\E 6=.ptr b6 0/\E 7=I k/\H.get b4=some (.cells [.sl 1 none (Ty.encs [ta,tb])])/\H.get b6=some (.cells [I 0,I 0,S (bl []),NIL,NIL])/\¬cv m r e' VS' NS' b4/\¬cv m r e' VS' NS' b6
   refine aV 3 J ⟨e,VS,NS,p,hM6,by omega,by omega,rfl,rfl,rfl,rfl,rfl,g4,g6,n4,n6⟩ ?_
   clear g4 g6 n4 n6 hom hM6
   rintro k E H hk ⟨e',VS',NS',p',hM,hp1,hp2,e0,e2,e4,e6,e7,g4,g6,n4,n6⟩
   simp only[wp_seq,go_sem,rE,rA,e7]
   refine aH (fun hlt=>?_) (fun hge=>?_)
   ·have w1:=aP (n:=(k:Int)+1) (by omega) (by omega)
    simp only[go_sem,rE,rA,e0]
    refine dP (ie L m r bs hbs v hv p' last (by omega) (by omega)) hM (rfl) (.refl _) (by simp) trivial ?_
    rintro q e2' v2 VS2 NS2 p2 last2 H2 fp2 ⟨⟨pl,u,rfl,hpl,hu⟩,rfl,hp3,hp4,rfl⟩ hM2 hk2 -
    obtain⟨g4,n4⟩:=hk2 _ _ g4 n4
    obtain⟨g6,n6⟩:=hk2 _ _ g6 n6
    obtain⟨Du,hDu,hu⟩:=hu
    simp only[go_sem,rE,rA,Ty.enc_eq u,Pl.enc]
    intro b12 hb12 b13 hb13
    have hM3:=(hM2.new hb12 (.cells [S pl.name,au pl.path])).new (tf hb13 _) (.cells [.sl 1 none (Ty.encs u.kids)])
    have d12:=ny hb13
    have d6a:=al g6 hb12
    have d4a:=al g4 hb12
    have d6b:b6≠b13:=al (H:=H2.set b12 _) (by rw[ae _ _ d6a];exact g6) hb13
    have d4b:b4≠b13:=al (H:=H2.set b12 _) (by rw[ae _ _ d4a];exact g4) hb13
    simp only[go_sem,rE,rA,d12,Ne.symm d12,lx d12,e4,d4a,d4b,g4,rL]
    refine am (ov L Du u (.mk [ta,tb]) hu) (by simp only[go_sem,rE,Ty.enc_eq u,Ty.enc_eq (.mk [ta,tb]),Ty.kids]) ?_
    by_cases hs:u=.mk [ta,tb]
    ·simp only[go_sem,rE,rA,hs,d12,e6,d6a,d6b,g6,rL]
     rw[hs]at hM3
     exact stop _ _ _ _ _ p2 (.mk 2 0 pl []) _ (hM3.put n6 _) (by omega) (by omega) (by simp only[go_sem,rE];exact e6) (ai _ _ _) rfl (An pl) (wc pl hpl)
    ·simp only[go_sem,rE,rA,hs,e7,w1]
     exact⟨by omega,_,aj.sub_refl _,e2',VS2,NS2,p2,hM3,by omega,by omega,e0,e2,e4,e6,rfl,by rw[ae _ _ d4b,ae _ _ d4a];exact g4,by rw[ae _ _ d6b,ae _ _ d6a];exact g6,n4,n6⟩
   ·simp only[wp_exit,fh,dH,cu]
    exact deepC _ _ e' VS' NS' p' hM hp1 (by omega) (by simp only[go_sem,rE,e0]) (by simp only[go_sem,rE,e2]) (by simp only[go_sem,rE,e4]) (by simp only[go_sem,rE,e6]) g4 g6 n4 n6 _
  ·simp only[go_sem,rE,rA,g4,Ty.encs_map,ao,hz2,hk2]
   rw[Ty.encs_map]at other
   rw[Ty.encs_map]at g4
   exact other _ _ hM6 (rfl) (rfl) (rfl) (rfl) g4 g6
end
def P0:Pl:=⟨bl [],[]⟩
def E0:Ex:=.mk 0 0 P0 []
inductive St.sx:Nat->St->Prop where
 |mk {i:Nat} {k:Int} {n:ByteArray} {p o:Pl} {e:Ex} {f:ByteArray} {zas:List Ag} {t l:List St} (hn:n.size<=2) (he:e.sm) (ha:∀a∈zas,a.expr.sm) (ht:∀x∈t,St.sx i x) (hl:∀x∈l,St.sx i x):St.sx (i+1) (.mk k n p o e f zas t l)
theorem St.sx.next{s:St}:∀{i:Nat},s.sx i->s.sx (i+1):=by
 intro i h
 induction h with
 |mk hn he ha _ _ iht ihl=>exact .mk hn he ha iht ihl
theorem St.sx.up{s:St}{i:Nat}(h:s.sx i){j:Nat}(hj:i<=j):s.sx j:=by
 obtain⟨k,rfl⟩:∃k,j=i+k:=⟨j - i,by omega⟩
 clear hj
 induction k with
 |zero=>exact h
 |succ k ih=>exact ih.next
theorem St.sx.sm{s:St}{i:Nat}(h:s.sx i):s.sm i:=by
 induction h with
 |mk hn he ha _ _ iht ihl=>exact .mk he ha iht ihl
section
variable {P:Program}{F:Ids}
theorem kN(L:Lib P F)(m r:Nat)(bs:List UInt8)(v:En)(p last:Int)(hl:0<=last)(hl2:last<=2^40):
 MkC P 194 [.ptr m 0] m r bs v p last fun q v' p' last'=>(∃s:ByteArray,q=S s/\s.size<=2)/\v'=v/\p'=p/\last'=last+1:=by
 intro H e VS NS hM
 refine(L.a Tryz.func194 y194) (by simp[y194]) ?_
 have w1:=aP (n:=last+1) (by omega) (by omega)
 have hq:(last+1).tdiv 26=(last+1) / 26:=Int.tdiv_eq_ediv_of_nonneg (by omega)
 have hr:(last+1).tmod 26=(last+1) % 26:=Int.tmod_eq_emod_of_nonneg (by omega)
 have w2:=aP (n:=(last+1) / 26) (by omega) (by omega)
 have w3:=aP (n:=(last+1) % 26) (by omega) (by omega)
 have w4:=aP (n:=97+(last+1) / 26) (by omega) (by omega)
 have w5:=aP (n:=97+(last+1) % 26) (by omega) (by omega)
 have h26:¬(26:Int)=0:=by decide
 simp only[y194,go_sem,rE,rA,hM.obj,w1,hq,hr,w2,w3,w4,w5,h26,ax,av,ay,rL,bg,je]
 exact gA ⟨e,v,VS,NS,p,last+1,⟨⟨_,rfl,aA _⟩,rfl,rfl,rfl⟩,hM.setL _⟩
end
theorem vC:E0.sm:=.mk (by decide) (by simp)
def StR(N k:Nat)(v:En)(p last:Int)(c:Int)(q:AC)(v':En)(p' last':Int):Prop:=
 (∃s:St,q=.agg s.enc/\s.cnt<=N/\s.sx (k+1))/\v'=v/\p<=p'/\p'<=p+c/\last<=last'/\last'<=last+c
theorem LeR.snoc:∀{xs ys:List (List AC)} {x y:List AC},LeR xs ys->LeC x y->LeR (xs++[x]) (ys++[y])
 |[],[],x,y,_,h=>⟨h,trivial⟩
 |a::xs,b::ys,x,y,h,h'=>⟨h.1,LeR.snoc h.2 h'⟩
theorem le_rows{H:aj}{sz:Nat}{rows rows':List (List AC)}{x:AC}(h:bR H sz rows x)(hr:LeR rows rows'):Le x (.sl sz none rows'):=by
 rcases h with⟨rfl,rfl⟩|⟨b,n,m,rfl,-⟩
 ·cases rows' with
  |nil=>exact .nil sz
  |cons=>simp[LeR]at hr
 ·exact Le.slR hr
theorem leArgE(x:Ex):LeC ([B false,S (bl []),NIL]++x.enc) (Ag.mk false P0 x).enc:=by
 rw[Ag.enc,Ex.enc_eq]
 exact⟨⟨.refl _,rfl⟩,⟨.refl _,rfl⟩,⟨.nil 1,rfl⟩,⟨.refl _,rfl⟩,⟨.refl _,rfl⟩,⟨.refl _,rfl⟩,⟨.refl _,rfl⟩,⟨.refl _,rfl⟩,trivial⟩
theorem Ap{x:AC}(nm fn:ByteArray)(zas:List Ag)(hx:Le x (.sl 8 none (zas.map Ag.enc))):
 LeC [I 4,S nm,S (bl []),NIL,S (bl []),NIL,I 0,I 0,S (bl []),NIL,NIL,S fn,x,NIL,NIL] (St.mk 4 nm P0 P0 E0 fn zas [] []).enc:=by
 rw[St.enc_eq]
 exact⟨⟨.refl _,rfl⟩,⟨.refl _,rfl⟩,⟨.refl _,rfl⟩,⟨.nil 1,rfl⟩,⟨.refl _,rfl⟩,⟨.nil 1,rfl⟩,⟨.refl _,rfl⟩,⟨.refl _,rfl⟩,⟨.refl _,rfl⟩,⟨.nil 1,rfl⟩,⟨.nil 5,rfl⟩,⟨.refl _,rfl⟩,⟨hx,rfl⟩,⟨.nil 15,rfl⟩,⟨.nil 15,rfl⟩,trivial⟩
def uw(v:En)(p last:Int)(q:AC)(v':En)(p' last':Int):Prop:=(∃s:ByteArray,q=S s/\s.size<=2)/\v'=v/\p'=p/\last'=last+1
theorem bR.keepF{H H1:aj}{sz:Nat}{es:List (List AC)}{x:AC}(h:bR H sz es x)(hk:∀d,cJ x d->H1.get d=H.get d):bR H1 sz es x:=by
 rcases h with h|⟨b,n,m,rfl,hb⟩
 ·exact .inl h
 ·exact .inr ⟨b,n,m,rfl,by rw[hk b ⟨_,_,_,_,rfl⟩];exact hb⟩
theorem bR.mem{H:aj}{sz:Nat}{es:List (List AC)}{x:AC}(h:bR H sz es x){d:Nat}(hd:cJ x d):∃n m,H.get d=some (.tail n m):=by
 obtain⟨_,_,_,_,rfl⟩:=hd
 rcases h with⟨-,h⟩|⟨b,n,m,h,hb⟩
 ·simp at h
 ·simp at h;obtain⟨-,⟨rfl,-⟩,-⟩:=h;exact⟨n,m,hb⟩
section
variable {P:Program}{F:Ids}
theorem AN(L:Lib P F)(m r:Nat)(bs:List UInt8)(hbs:bs.length<=2000)(v:En)(N:Nat)(hv:v.dr N)(p last:Int)(hl:0<=last)(hl2:last<=2^40)(hp:0<=p)(hp2:p+8000<=2^50):
 MkC P 195 [.ptr m 0] m r bs v p last (StR 5 0 v p last 8000):=by
 intro H e VS NS hM
 refine(L.a Tryz.func195 y195) (by simp[y195,f195]) ?_
 simp only[y195,f195,go_sem,rE]
 intro b2 hb2
 have hM2:=hM.new hb2 (.cells [I 0,S (bl []),S (bl []),NIL,S (bl []),NIL,I 0,I 0,S (bl []),NIL,NIL,S (bl []),NIL,NIL,NIL])
 have n2:=hM.notin hb2
 refine dP (R:=uw v p last) (kN L m r bs v p last hl hl2) hM2 (rfl) (.refl _) (by simp) trivial ?_
 rintro q e1 v1 VS1 NS1 p1 last1 H1 fp1 ⟨⟨nm,rfl,hnm⟩,rfl,rfl,rfl⟩ hM1 hk1 -
 obtain⟨g2,n2⟩:=hk1 b2 _ (ai _ _ _) n2
 clear hM hM2 hb2 hk1
 simp only[go_sem,rE,rA,rL]
 intro b3 hb3
 have n3:=hM1.notin hb3
 have d23:=al g2 hb3
 have hom1:=hM1.obj
 have hoe1:=hM1.env.obj
 simp only[cR]at hoe1
 have dm3:m≠b3:=fun h=>n3 (.inl h.symm)
 have de3:e1≠b3:=fun h=>n3 (.inr (.inr (.inl h.symm)))
 simp only[go_sem,rE,rA,dm3,de3,hom1,hoe1]
 have hM3:=hM1.new hb3 (.cells [I 4,S nm,S (bl []),NIL,S (bl []),NIL,I 0,I 0,S (bl []),NIL,NIL,S (bl []),NIL,NIL,NIL])
 have g23:(H1.set b3 (.cells [I 4,S nm,S (bl []),NIL,S (bl []),NIL,I 0,I 0,S (bl []),NIL,NIL,S (bl []),NIL,NIL,NIL])).get b2=some (.cells [I 0,S (bl []),S (bl []),NIL,S (bl []),NIL,I 0,I 0,S (bl []),NIL,NIL,S (bl []),NIL,NIL,NIL]):=by rw[ae _ _ d23];exact g2
 have g33:(H1.set b3 (.cells [I 4,S nm,S (bl []),NIL,S (bl []),NIL,I 0,I 0,S (bl []),NIL,NIL,S (bl []),NIL,NIL,NIL])).get b3=some (.cells [I 4,S nm,S (bl []),NIL,S (bl []),NIL,I 0,I 0,S (bl []),NIL,NIL,S (bl []),NIL,NIL,NIL]):=ai _ _ _
 generalize H1.set b3 (.cells [I 4,S nm,S (bl []),NIL,S (bl []),NIL,I 0,I 0,S (bl []),NIL,NIL,S (bl []),NIL,NIL,NIL])=H3 at*
 clear hM1 g2 hb3
 have stop:∀(E':Env) (H':aj) (e':Nat) (VS' NS':AC) (p':Int) (s:St) (cs:List AC),cO H' m r bs e' v1 VS' NS' p' (last+1)->p1<=p'->p'<=p1+8000->E' 2=.ptr b2 0->H'.get b2=some (.cells cs)->cs.length=15->LeC cs s.enc->s.cnt<=5->s.sx 1->
  bh.post [.cell 2 (some 15)] (fun q H'=>∃e' v' VS' NS' p' last',StR 5 0 v1 p1 last 8000 q v' p' last'/\cO H' m r bs e' v' VS' NS' p' last') .ret E' H':=by
  intro E' H' e' VS' NS' p' s cs hM h1 h2 e2 g2 hl5 hle hx hsm
  exact bP (q':=.agg s.enc) (q:=.agg cs) (off:=0) e2 g2 (by simp only[fH,hl5,aA,bY,if_true,gZ];rw[cy (by omega)]) (.agg hle) (aj.sub_refl _) ⟨e',v1,VS',NS',p',last+1,⟨⟨s,rfl,hx,hsm⟩,rfl,h1,h2,by omega,by omega⟩,hM⟩
 have callOk:∀(fn:ByteArray) (zas:List Ag),zas.length<=4->(∀a∈zas,a.expr.sm)->(St.mk 4 nm P0 P0 E0 fn zas [] []).cnt<=5/\(St.mk 4 nm P0 P0 E0 fn zas [] []).sx 1:=by
  intro fn zas h1 h2
  refine⟨by rw[dx];simp only[St.args,St.thn,St.els,eP];omega,.mk hnm vC h2 (by simp) (by simp)⟩
 have stepL:∀(E:Env) (H:aj) (e':Nat) (VS' NS':AC) (p':Int) (fn:ByteArray) (zas:List Ag) (X:AC),cO H m r bs e' v1 VS' NS' p' (last+1)->p1<=p'->p'<=p1+8000->¬cv m r e' VS' NS' b2->E 2=.ptr b2 0->E 3=.ptr b3 0->
  H.get b2=some (.cells [I 0,S (bl []),S (bl []),NIL,S (bl []),NIL,I 0,I 0,S (bl []),NIL,NIL,S (bl []),NIL,NIL,NIL])->H.get b3=some (.cells [I 4,S nm,S (bl []),NIL,S (bl []),NIL,I 0,I 0,S (bl []),NIL,NIL,S fn,X,NIL,NIL])->
  Le X (.sl 8 none (zas.map Ag.enc))->zas.length<=4->(∀a∈zas,a.expr.sm)->
  aT.wp P (kd19) (bh.post [.cell 2 (some 15)] (fun q H'=>∃e' v' VS' NS' p' last',StR 5 0 v1 p1 last 8000 q v' p' last'/\cO H' m r bs e' v' VS' NS' p' last')) E H:=by
  intro E H e' VS' NS' p' fn zas X hM h1 h2 n2 e2 e3 g2 g3 hX ha1 ha2
  rw[kd19,fd19]
  simp only[go_sem,rE,rA,e2,e3,g2,g3,rL]
  obtain⟨c1,c2⟩:=callOk fn zas ha1 ha2
  exact stop _ _ e' VS' NS' p' (.mk 4 nm P0 P0 E0 fn zas [] []) _ (hM.put n2 _) h1 h2 (by simp only[go_sem,rE];exact e2) (ai _ _ _) rfl (Ap nm fn zas hX) c1 c2
 have hfnl:=hv.fn
 by_cases hf0:v1.fn=0
 ·have hf0':((v1.fn:Int)==0)=true:=by simp[hf0]
  simp only[hf0',go_sem,rE,rA,g23,g33,rL]
  obtain⟨c1,c2⟩:=callOk (bl []) [] (by simp) (by simp)
  exact stop _ _ e1 VS1 NS1 p1 (.mk 4 nm P0 P0 E0 (bl []) [] [] []) _ (hM3.put n2 _) (by omega) (by omega) (rfl) (ai _ _ _) rfl (Ap nm (bl []) [] (.nil 8)) c1 c2
 ·have hf0':((v1.fn:Int)==0)=false:=by simpa using hf0
  have hom:=hM3.obj
  have hoe:=hM3.env.obj
  simp only[cR]at hoe
  have dme:m≠e1:=fun h=>hM3.nm (.inl h)
  have der:e1≠r:=fun h=>hM3.nr (.inl h.symm)
  simp only[hf0',go_sem,rE,rA,hom,hoe]
  refine bw (cW L r bs p1 v1.fn hbs hp (by omega)) (rfl) hM3.rd (fun _=>⟨by omega,I 0,0,rfl,by omega,.inr rfl⟩) (by simp[dQ];exact⟨der,hM3.mr⟩) ?_
  rintro q p2 hp2 hp2' ⟨k,rfl,hk0,hk1⟩
  have hM4:=hM3.setR p2
  have g24:(H3.set r (RdO bs p2)).get b2=some (.cells [I 0,S (bl []),S (bl []),NIL,S (bl []),NIL,I 0,I 0,S (bl []),NIL,NIL,S (bl []),NIL,NIL,NIL]):=by rw[ae _ _ (fun h=>n2 (.inr (.inl h)))];exact g23
  have g34:(H3.set r (RdO bs p2)).get b3=some (.cells [I 4,S nm,S (bl []),NIL,S (bl []),NIL,I 0,I 0,S (bl []),NIL,NIL,S (bl []),NIL,NIL,NIL]):=by rw[ae _ _ (fun h=>n3 (.inr (.inl h)))];exact g33
  generalize H3.set r (RdO bs p2)=H4 at*
  have hkl:k.toNat<v1.p.length:=by omega
  obtain⟨cf,hcf,CF⟩:=fuC v1.p[k.toNat]
  have hgf:(v1.p.map Fu.enc)[k.toNat]?=some cf:=by rw[<-hcf];exact tp hkl
  obtain⟨hfo,hf4⟩:=hv.p _ (az hkl)
  generalize v1.p[k.toNat]=f at*
  simp only[go_sem,rE,rA,hk0,hgf,CF.len,CF.all,CF.name]
  intro b4 hb4
  have n4:=hM4.notin hb4
  have hM5:=hM4.new hb4 (.cells cf)
  have d24:=al g24 hb4
  have d34:=al g34 hb4
  simp only[go_sem,rE,rA,d34,g34,rL]
  let J:Nat->Env->aj->Prop:=fun i E H=>∃(e':Nat) (VS' NS':AC) (p':Int) (zas:List Ag) (rows:List (List AC)) (X:AC),cO H m r bs e' v1 VS' NS' p' (last+1)/\p1<=p'/\p'<=p1+1+1700*(i:Int)/\E 0=.ptr m 0/\E 2=.ptr b2 0/\E 3=.ptr b3 0/\E 4=.ptr b4 0/\E 5=I i/\
   H.get b2=some (.cells [I 0,S (bl []),S (bl []),NIL,S (bl []),NIL,I 0,I 0,S (bl []),NIL,NIL,S (bl []),NIL,NIL,NIL])/\H.get b3=some (.cells [I 4,S nm,S (bl []),NIL,S (bl []),NIL,I 0,I 0,S (bl []),NIL,NIL,S f.name,X,NIL,NIL])/\H.get b4=some (.cells cf)/\
   bR H 8 rows X/\LeR rows (zas.map Ag.enc)/\zas.length<=i/\(∀a∈zas,a.expr.sm)/\¬cv m r e' VS' NS' b2/\¬cv m r e' VS' NS' b3/\¬cv m r e' VS' NS' b4/\∀d,cJ X d->¬cv m r e' VS' NS' d
  refine aV f.params.length J ⟨e1,VS1,NS1,p2,[],[],NIL,(hM5.put n3 _),by omega,by omega,rfl,rfl,rfl,rfl,rfl,by rw[ae _ _ d23,ae _ _ d24];exact g24,ai _ _ _,by rw[ae _ _ (Ne.symm d34),ai],
   .nil _ _,trivial,by simp,by simp,n2,n3,n4,fun d ⟨_,_,_,_,h⟩=>by simp at h⟩ ?_
  clear g24 g34 n2 n3 n4 hM4 hM5 hb4 hom hoe hM3 g23 g33 hf0'
  rintro i E H hi ⟨e',VS',NS',p',zas,rows,X,hM,hp1,hp2',e0,e2,e3,e4,e5,g2,g3,g4,hX,hR,hla,hsm,n2,n3,n4,nX⟩
  have cfp:(cf.drop 1)[0]?=some (.sl 3 none (f.params.map Pa.enc)):=by rw[bU];exact CF.params
  have cfp':cf[1]?=some (.sl 3 none (f.params.map Pa.enc)):=CF.params
  have hrl:rows.length=zas.length:=by have:=hR.length;simpa using this
  simp only[wp_seq,go_sem,rE,rA,e4,e5,g4,cfp',ao]
  refine aH (fun hlt=>?_) (fun hge=>?_)
  ·have hi1:i<f.params.length:=by omega
   have w1:=aP (n:=(i:Int)+1) (by omega) (by omega)
   obtain⟨cp,hcp,CP⟩:=paC f.params[i]
   have hgp:(f.params.map Pa.enc)[i]?=some cp:=by rw[<-hcp];simp[hi1]
   have hpt:=(hfo.params _ (az hi1)).type
   have cl:=CP.lent1
   generalize f.params[i]=q at*
   have after:∀(E':Env) (H5 H6:aj) (e5:Nat) (VS5 NS5:AC) (p5:Int) (row:List AC) (ag:Ag) (x':AC),cO H5 m r bs e5 v1 VS5 NS5 p5 (last+1)->p1<=p5->p5<=p1+1+1700*((i+1:Nat):Int)->
    H5.get b2=some (.cells [I 0,S (bl []),S (bl []),NIL,S (bl []),NIL,I 0,I 0,S (bl []),NIL,NIL,S (bl []),NIL,NIL,NIL])->H5.get b3=some (.cells [I 4,S nm,S (bl []),NIL,S (bl []),NIL,I 0,I 0,S (bl []),NIL,NIL,S f.name,X,NIL,NIL])->H5.get b4=some (.cells cf)->
    ¬cv m r e5 VS5 NS5 b2->¬cv m r e5 VS5 NS5 b3->¬cv m r e5 VS5 NS5 b4->bR H5 8 rows X->(∀d,cJ X d->¬cv m r e5 VS5 NS5 d)->bR H6 8 (rows++[row]) x'->(∀c,H5.get c≠none->¬cJ X c->H6.get c=H5.get c)->(∀c,cJ x' c->cJ X c\/H5.get c=none)->
    LeC row ag.enc->ag.expr.sm->E' 0=.ptr m 0->E' 2=.ptr b2 0->E' 3=.ptr b3 0->E' 4=.ptr b4 0->E' 5=I (i+1:Nat)->
    H6.get b3=some (.cells [I 4,S nm,S (bl []),NIL,S (bl []),NIL,I 0,I 0,S (bl []),NIL,NIL,S f.name,X,NIL,NIL])/\J (i+1) E' (H6.set b3 (.cells [I 4,S nm,S (bl []),NIL,S (bl []),NIL,I 0,I 0,S (bl []),NIL,NIL,S f.name,x',NIL,NIL])):=by
    intro E' H5 H6 e5 VS5 NS5 p5 row ag x' hM5 h1 h2 g2 g3 g4 n2 n3 n4 hX nX hx' keep new hle hs k0 k2 k3 k4 k5
    have notk:∀{b cs},H5.get b=some (.cells cs)->¬cJ X b:=by
     intro b cs hb ht
     obtain⟨n,mm,h⟩:=hX.mem ht
     rw[h]at hb;simp at hb
    have g23:H6.get b2=_:=(keep b2 (by rw[g2];simp) (notk g2)).trans g2
    have g33:H6.get b3=_:=(keep b3 (by rw[g3];simp) (notk g3)).trans g3
    have g43:H6.get b4=_:=(keep b4 (by rw[g4];simp) (notk g4)).trans g4
    have hM6:cO H6 m r bs e5 v1 VS5 NS5 p5 (last+1):=hM5.mono fun d hd=>keep d (hM5.mem hd) (fun ht=>nX d ht hd)
    have d32:b2≠b3:=by rintro rfl;rw[g23]at g33;simp at g33
    have d34:b4≠b3:=by rintro rfl;rw[g43]at g33;simp only[Option.some.injEq,cz.cells.injEq]at g33;have:=CF.len;rw[g33]at this;simp at this
    refine⟨g33,e5,VS5,NS5,p5,zas++[ag],rows++[row],x',hM6.put n3 _,h1,h2,k0,k2,k3,k4,k5,by rw[ae _ _ d32];exact g23,ai _ _ _,by rw[ae _ _ d34];exact g43,hx'.set g33 _,by rw[bL];exact hR.snoc hle,by simp;omega,fun a ha=>?_,n2,n3,n4,fun d hd=>?_⟩
    ·rcases aE.1 ha with h|h
     ·exact hsm a h
     ·simp at h;subst h;exact hs
    ·rcases new d hd with h|h
     ·exact nX d h
     ·exact hM5.notin h
   simp only[go_sem,rE,rA,e4,e5,g4,cfp',hgp,cl]
   cases hlent:q.lent
   ·simp only[go_sem,rE,rA,e0,e3,e4,e5,g3,g4,cfp',hgp,CP.len,CP.type,eV,kQ,rL]
    refine dP (jo L m r bs hbs v1 hv.ok (last+1) 2 (by omega) q.type 2 hpt (by omega) (by omega) p' (by omega) (by simp[ej];omega)) hM (rfl) (.refl _) (fun _=>fZ _ _ _ _ (by simp[ej])) (by simp[dQ];exact n3) ?_
    rintro q' e5' v5 VS5 NS5 p5 last5 H5 fp5 ⟨⟨x,rfl,hx,hxsm⟩,rfl,hp5,hp5',rfl⟩ hM5 hk5 -
    simp only[ej]at hp5'
    obtain⟨g2,n2⟩:=hk5 _ _ g2 n2
    obtain⟨g3,n3⟩:=hk5 _ _ g3 n3
    obtain⟨g4,n4⟩:=hk5 _ _ g4 n4
    have nX5:∀d,cJ X d->H5.get d=H.get d/\¬cv m r e5' VS5 NS5 d:=by
     intro d hd
     obtain⟨n,mm,ht⟩:=hX.mem hd
     obtain⟨h1,h2⟩:=hk5 _ _ ht (nX d hd)
     exact⟨by rw[h1,ht],h2⟩
    have hX5:bR H5 8 rows X:=hX.keepF fun d hd=>(nX5 d hd).1
    simp only[go_sem,rE,rA,Ex.enc_eq x,ax,av,ay,rL,bg]
    refine fG (es:=rows) (ys:=[[B false,S (bl []),NIL,I x.kind,I x.num,S x.place.name,au x.place.path,.sl 5 none (Ex.encs x.kids)]]) (by simp only[go_sem,rE];exact hX5) (rfl) (by simp) (by rw[hrl];simp;omega) ?_
    intro x' H6 fp6 hx' _ keep new
    simp only[go_sem,rE]at keep new
    have af:=fun E' h0 h2 h3 h4 h5=>after E' H5 H6 e5' VS5 NS5 p5 _ ⟨false,P0,x⟩ x' hM5 (by omega) (by omega) g2 g3 g4 n2 n3 n4 hX5 (fun d hd=>(nX5 d hd).2) hx' keep new (by have:=leArgE x;rw[Ex.enc_eq x]at this;exact this) hxsm h0 h2 h3 h4 h5
    have g36:=(af (fun n=>if n=0 then .ptr m 0 else if n=2 then .ptr b2 0 else if n=3 then .ptr b3 0 else if n=4 then .ptr b4 0 else I (i+1:Nat)) rfl rfl rfl rfl rfl).1
    have hx1:=hx'.one
    simp only[go_sem,rE,rA,e3,e5,g36,hx1,w1,rL]
    exact⟨hi1,_,aj.sub_refl _,(af _ (by simp only[go_sem,rE,e0]) (by simp only[go_sem,rE,e2]) (by simp only[go_sem,rE,e3]) (by simp only[go_sem,rE,e4]) (by simp only[go_sem,rE];rfl)).2⟩
   ·simp only[go_sem,rE,rA,rL]
    intro b6 hb6
    have n6:=hM.notin hb6
    have d26:=al g2 hb6
    have d36:=al g3 hb6
    have d46:=al g4 hb6
    have nt6:¬cJ X b6:=fun ht=>by obtain⟨n,mm,h⟩:=hX.mem ht;rw[h]at hb6;simp at hb6
    let J2:Nat->Env->aj->Prop:=fun k E H=>∃(e':Nat) (VS' NS':AC) (p':Int) (pl:Pl) (y:AC),cO H m r bs e' v1 VS' NS' p' (last+1)/\p1<=p'/\p'<=p1+1+1700*(i:Int)+20*(k:Int)/\E 0=.ptr m 0/\E 2=.ptr b2 0/\E 3=.ptr b3 0/\E 4=.ptr b4 0/\E 5=I i/\E 6=.ptr b6 0/\E 7=I k/\
     H.get b2=some (.cells [I 0,S (bl []),S (bl []),NIL,S (bl []),NIL,I 0,I 0,S (bl []),NIL,NIL,S (bl []),NIL,NIL,NIL])/\H.get b3=some (.cells [I 4,S nm,S (bl []),NIL,S (bl []),NIL,I 0,I 0,S (bl []),NIL,NIL,S f.name,X,NIL,NIL])/\H.get b4=some (.cells cf)/\H.get b6=some (.cells [S pl.name,y])/\
     bR H 8 rows X/\¬cv m r e' VS' NS' b2/\¬cv m r e' VS' NS' b3/\¬cv m r e' VS' NS' b4/\¬cv m r e' VS' NS' b6/\(∀d,cJ X d->¬cv m r e' VS' NS' d)/\Le y (au pl.path)/\y.cells?=some [y]
    refine aV 6 J2 ⟨e',VS',NS',p',⟨bl [110,111,110,101],[]⟩,NIL,hM.new hb6 _,hp1,by omega,e0,e2,e3,e4,e5,rfl,rfl,by rw[ae _ _ d26];exact g2,by rw[ae _ _ d36];exact g3,by rw[ae _ _ d46];exact g4,
     by simp[go_sem],hX.new hb6 _,n2,n3,n4,n6,nX,.nil 1,rfl⟩ ?_
    clear g2 g3 g4 n2 n3 n4 n6 nX hX hM e0 e2 e3 e4 e5
    rintro k E H hk ⟨e',VS',NS',p',pl,y,hM,hp1,hp2',e0,e2,e3,e4,e5,e6,e7,g2,g3,g4,g6,hX,n2,n3,n4,n6,nX,hy,hy1⟩
    simp only[wp_seq,go_sem,rE,rA,e7]
    refine aH (fun hlt2=>?_) (fun hge2=>?_)
    ·have w2:=aP (n:=(k:Int)+1) (by omega) (by omega)
     simp only[go_sem,rE,rA,e0]
     refine dP (ie L m r bs hbs v1 hv.ok p' (last+1) (by omega) (by omega)) hM (rfl) (.refl _) (by simp) trivial ?_
     rintro q2 e5' v5 VS5 NS5 p5 last5 H5 fp5 ⟨⟨pl2,u,rfl,hpl2,Du,hDu8,hDu⟩,rfl,hp5,hp5',rfl⟩ hM5 hk5 -
     obtain⟨g2,n2⟩:=hk5 _ _ g2 n2
     obtain⟨g3,n3⟩:=hk5 _ _ g3 n3
     obtain⟨g4,n4⟩:=hk5 _ _ g4 n4
     obtain⟨g6,n6⟩:=hk5 _ _ g6 n6
     have nX5:∀d,cJ X d->H5.get d=H.get d/\¬cv m r e5' VS5 NS5 d:=by
      intro d hd
      obtain⟨n,mm,ht⟩:=hX.mem hd
      obtain⟨h1,h2⟩:=hk5 _ _ ht (nX d hd)
      exact⟨by rw[h1,ht],h2⟩
     have hX5:bR H5 8 rows X:=hX.keepF fun d hd=>(nX5 d hd).1
     simp only[go_sem,rE,rA,Ty.enc_eq u,Pl.enc]
     intro b12 hb12 b13 hb13
     have hb13':=tf hb13 (.cells [S pl2.name,au pl2.path])
     have d12:=ny hb13
     have hM6:=(hM5.new hb12 (.cells [S pl2.name,au pl2.path])).new hb13' (.cells [.sl 1 none (Ty.encs u.kids)])
     have fr:∀{b o},H5.get b=some o->b≠b12/\b≠b13:=by
      intro b o hb
      have h1:=al hb hb12
      exact⟨h1,al (H:=H5.set b12 (.cells [S pl2.name,au pl2.path])) (by rw[ae _ _ h1];exact hb) hb13'⟩
     have in6:∀{b o},H5.get b=some o->((H5.set b12 (.cells [S pl2.name,au pl2.path])).set b13 (.cells [.sl 1 none (Ty.encs u.kids)])).get b=some o:=by
      intro b o hb
      rw[ae _ _ (fr hb).2,ae _ _ (fr hb).1];exact hb
     have hX6:bR ((H5.set b12 (.cells [S pl2.name,au pl2.path])).set b13 (.cells [.sl 1 none (Ty.encs u.kids)])) 8 rows X:=hX5.keepF fun d hd=>by
      obtain⟨n,mm,ht⟩:=hX5.mem hd
      rw[in6 ht,ht]
     have g26:=in6 g2
     have g36:=in6 g3
     have g46:=in6 g4
     have g66:=in6 g6
     have ga:((H5.set b12 (.cells [S pl2.name,au pl2.path])).set b13 (.cells [.sl 1 none (Ty.encs u.kids)])).get b12=some (.cells [S pl2.name,au pl2.path]):=by rw[ae _ _ d12,ai]
     have gb:((H5.set b12 (.cells [S pl2.name,au pl2.path])).set b13 (.cells [.sl 1 none (Ty.encs u.kids)])).get b13=some (.cells [.sl 1 none (Ty.encs u.kids)]):=ai _ _ _
     simp only[go_sem,rE,rA,d12,Ne.symm d12,lx d12]
     generalize((H5.set b12 (.cells [S pl2.name,au pl2.path])).set b13 (.cells [.sl 1 none (Ty.encs u.kids)]))=H6 at*
     simp only[go_sem,rE,rA,gb,e4,e5,g46,cfp',hgp,CP.len,CP.type,eV,kQ,rL]
     refine am (ov L Du u q.type hDu) (by simp only[go_sem,rE,Ty.enc_eq u]) ?_
     by_cases hs:u=q.type
     ·simp only[go_sem,rE,rA,hs,ga,e6,e7,g66,w2,rL]
      have d62:b2≠b6:=by rintro rfl;rw[g66]at g26;simp at g26
      have d63:b3≠b6:=by rintro rfl;rw[g66]at g36;simp at g36
      have d64:b4≠b6:=by rintro rfl;rw[g66]at g46;simp only[Option.some.injEq,cz.cells.injEq]at g46;have:=CF.len;rw[<-g46]at this;simp at this
      exact⟨by omega,_,aj.sub_refl _,e5',VS5,NS5,p5,pl2,au pl2.path,hM6.put n6 _,by omega,by omega,e0,e2,e3,e4,e5,e6,rfl,by rw[ae _ _ d62];exact g26,by rw[ae _ _ d63];exact g36,by rw[ae _ _ d64];exact g46,
       ai _ _ _,hX6.set g66 _,n2,n3,n4,n6,fun d hd=>(nX5 d hd).2,.refl _,rfl⟩
     ·simp only[go_sem,rE,rA,hs,e7,w2]
      exact⟨by omega,_,aj.sub_refl _,e5',VS5,NS5,p5,pl,y,hM6,by omega,by omega,e0,e2,e3,e4,e5,e6,rfl,g26,g36,g46,g66,hX6,n2,n3,n4,n6,fun d hd=>(nX5 d hd).2,hy,hy1⟩
    ·simp only[go_sem,rE,rA,e3,e6,g3,g6,ax,av,ay,rL,bg]
     refine fG (es:=rows) (ys:=[[B true,S pl.name,y,I 0,I 0,S (bl []),NIL,NIL]]) (by simp only[go_sem,rE];exact hX) (rfl) (by simp) (by rw[hrl];simp;omega) ?_
     intro x' H6 fp6 hx' _ keep new
     simp only[go_sem,rE]at keep new
     have hrow:LeC [B true,S pl.name,y,I 0,I 0,S (bl []),NIL,NIL] (Ag.mk true pl E0).enc:=by
      rw[Ag.enc,E0,Ex.enc]
      exact⟨⟨.refl _,rfl⟩,⟨.refl _,rfl⟩,⟨hy,rfl⟩,⟨.refl _,rfl⟩,⟨.refl _,rfl⟩,⟨.refl _,rfl⟩,⟨.nil 1,rfl⟩,⟨.nil 5,rfl⟩,trivial⟩
     have af:=fun E' h0 h2 h3 h4 h5=>after E' H H6 e' VS' NS' p' _ ⟨true,pl,E0⟩ x' hM (by omega) (by omega) g2 g3 g4 n2 n3 n4 hX nX hx' keep new hrow vC h0 h2 h3 h4 h5
     have g36:=(af (fun n=>if n=0 then .ptr m 0 else if n=2 then .ptr b2 0 else if n=3 then .ptr b3 0 else if n=4 then .ptr b4 0 else I (i+1:Nat)) rfl rfl rfl rfl rfl).1
     have hx1:=hx'.one
     simp only[go_sem,rE,rA,e3,e5,g36,hx1,w1,rL]
     exact⟨hi1,_,aj.sub_refl _,(af _ (by simp only[go_sem,rE,e0]) (by simp only[go_sem,rE,e2]) (by simp only[go_sem,rE,e3]) (by simp only[go_sem,rE,e4]) (by simp only[go_sem,rE];rfl)).2⟩
  ·simp only[wp_exit,fh,dH,cu]
   exact stepL _ _ e' VS' NS' p' f.name zas X hM hp1 (by omega) n2 (e2) (e3) g2 g3 (le_rows hX hR) (by omega) hsm
end
theorem mz{H:aj}{a b:Nat}{c c':cz}(ha:H.get a=none)(hb:(H.set a c).get b=none):(∀{d o},H.get d=some o->((H.set a c).set b c').get d=some o)/\((H.set a c).set b c').get a=some c/\((H.set a c).set b c').get b=some c'/\a≠b:=by
 have d12:=ny hb
 refine⟨fun {d o} hd=>?_,by rw[ae _ _ d12,ai],ai _ _ _,d12⟩
 have h1:=al hd ha
 have h2:d≠b:=al (H:=H.set a c) (by rw[ae _ _ h1];exact hd) hb
 rw[ae _ _ h2,ae _ _ h1];exact hd
theorem lePick(nm:ByteArray)(p o:Pl)(x:Ex):LeC ([I 6,S nm,S p.name,au p.path,S o.name,au o.path]++x.enc++[S (bl []),NIL,NIL,NIL]) (St.mk 6 nm p o x (bl []) [] [] []).enc:=by
 rw[St.enc_eq,Ex.enc_eq]
 exact⟨⟨.refl _,rfl⟩,⟨.refl _,rfl⟩,⟨.refl _,rfl⟩,⟨.refl _,rfl⟩,⟨.refl _,rfl⟩,⟨.refl _,rfl⟩,⟨.refl _,rfl⟩,⟨.refl _,rfl⟩,⟨.refl _,rfl⟩,⟨.refl _,rfl⟩,⟨.refl _,rfl⟩,⟨.refl _,rfl⟩,⟨.nil 8,rfl⟩,⟨.nil 15,rfl⟩,⟨.nil 15,rfl⟩,trivial⟩
theorem lc(k:Int)(nm:ByteArray)(p o:Pl)(x:Ex)(hn:nm.size<=2)(hx:x.sm):(St.mk k nm p o x (bl []) [] [] []).cnt<=5/\(St.mk k nm p o x (bl []) [] [] []).sx 1:=
 ⟨by rw[dx];simp[St.args,St.thn,St.els,eP],.mk hn hx (by simp) (by simp) (by simp)⟩
section
variable {P:Program}{F:Ids}
theorem AM(L:Lib P F)(m r:Nat)(bs:List UInt8)(hbs:bs.length<=2000)(v:En)(hv:v.ok)(p last:Int)(hl:0<=last)(hl2:last<=2^40)(hp:0<=p)(hp2:p+8000<=2^50):
 MkC P 193 [.ptr m 0] m r bs v p last (StR 5 0 v p last 8000):=by
 intro H e VS NS hM
 refine(L.a Tryz.func193 y193) (by simp[y193]) ?_
 simp only[y193,go_sem,rE]
 intro b2 hb2
 have hM2:=hM.new hb2 (.cells [I 0,S (bl []),S (bl []),NIL,S (bl []),NIL,I 0,I 0,S (bl []),NIL,NIL,S (bl []),NIL,NIL,NIL])
 have n2:=hM.notin hb2
 refine dP (R:=uw v p last) (kN L m r bs v p last hl hl2) hM2 (rfl) (.refl _) (by simp) trivial ?_
 rintro q e1 v1 VS1 NS1 p1 last1 H1 fp1 ⟨⟨nm,rfl,hnm⟩,rfl,rfl,rfl⟩ hM1 hk1 -
 obtain⟨g2,n2⟩:=hk1 b2 _ (ai _ _ _) n2
 clear hM hM2 hb2 hk1
 simp only[go_sem,rE,rA,rL]
 refine dP (as':=[.ptr m 0,.agg [NIL],I 2]) (jo L m r bs hbs v1 hv (last+1) 2 (by omega) (.mk []) 2 dK (by omega) (by omega) p1 hp (by simp[ej];omega)) hM1 (rfl) ⟨.refl _,eX,.refl _,trivial⟩ (by simp) trivial ?_
 rintro q e2 v2 VS2 NS2 p2 last2 H2 fp2 ⟨⟨x,rfl,hx,hxsm⟩,rfl,hp2,hp2',rfl⟩ hM2 hk2 -
 simp only[ej]at hp2'
 obtain⟨g2,n2⟩:=hk2 _ _ g2 n2
 simp only[go_sem,rE,rA,rL,Ex.enc_eq x]
 intro b3 hb3
 have n3:=hM2.notin hb3
 have d23:=al g2 hb3
 have hM3:=hM2.new hb3 (.cells ([I 6,S nm,S (bl []),NIL,S (bl []),NIL]++[I x.kind,I x.num,S x.place.name,au x.place.path,.sl 5 none (Ex.encs x.kids)]++[S (bl []),NIL,NIL,NIL]))
 refine dP (ie L m r bs hbs v2 hv p2 (last+1) (by omega) (by omega)) hM3 (rfl) (.refl _) (by simp) trivial ?_
 rintro q e4 v4 VS4 NS4 p4 last4 H4 fp4 ⟨⟨pa,u,rfl,hpa,Du,hDu8,hDu⟩,rfl,hp4,hp4',rfl⟩ hM4 hk4 -
 obtain⟨g2,n2⟩:=hk4 b2 _ (by rw[ae _ _ d23];exact g2) n2
 obtain⟨g3,n3⟩:=hk4 b3 _ (ai _ _ _) n3
 clear hk4 hM3 hb3 hk2 hM2 hM1 d23
 simp only[go_sem,rE,rA,rL,Ty.enc_eq u,Pl.enc]
 intro b4 hb4 b5 hb5
 have hb5':=tf hb5 (.cells [S pa.name,au pa.path])
 obtain⟨stay,ga,gb,d45⟩:=mz (c:=.cells [S pa.name,au pa.path]) (c':=.cells [.sl 1 none (Ty.encs u.kids)]) hb4 hb5'
 have hM5:=(hM4.new hb4 (.cells [S pa.name,au pa.path])).new hb5' (.cells [.sl 1 none (Ty.encs u.kids)])
 have n4:=hM4.notin hb4
 have n5:=(hM4.new hb4 (.cells [S pa.name,au pa.path])).notin hb5'
 have g2:=stay g2
 have g3:=stay g3
 simp only[go_sem,rE,rA,d45,Ne.symm d45,lx d45]
 generalize((H4.set b4 (.cells [S pa.name,au pa.path])).set b5 (.cells [.sl 1 none (Ty.encs u.kids)]))=H5 at*
 have d34:b3≠b4:=by rintro rfl;rw[ga]at g3;simp at g3
 have d35:b3≠b5:=by rintro rfl;rw[gb]at g3;simp at g3
 have d24:b2≠b4:=by rintro rfl;rw[ga]at g2;simp at g2
 have d25:b2≠b5:=by rintro rfl;rw[gb]at g2;simp at g2
 have d23:b2≠b3:=by rintro rfl;rw[g3]at g2;simp at g2
 simp only[go_sem,rE,rA,ga,gb,g3,d34,Ne.symm d34,Ne.symm d35,rL]
 let J:Nat->Env->aj->Prop:=fun k E H=>∃(e':Nat) (VS' NS':AC) (p':Int) (o:Pl),cO H m r bs e' v4 VS' NS' p' (last+1)/\p1<=p'/\p'<=p1+3000+20*(k:Int)/\E 0=.ptr m 0/\E 2=.ptr b2 0/\E 3=.ptr b3 0/\E 4=.ptr b4 0/\E 5=.ptr b5 0/\E 6=I k/\
  H.get b2=some (.cells [I 0,S (bl []),S (bl []),NIL,S (bl []),NIL,I 0,I 0,S (bl []),NIL,NIL,S (bl []),NIL,NIL,NIL])/\
  H.get b3=some (.cells [I 6,S nm,S pa.name,au pa.path,S o.name,au o.path,I x.kind,I x.num,S x.place.name,au x.place.path,.sl 5 none (Ex.encs x.kids),S (bl []),NIL,NIL,NIL])/\
  H.get b4=some (.cells [S pa.name,au pa.path])/\H.get b5=some (.cells [.sl 1 none (Ty.encs u.kids)])/\¬cv m r e' VS' NS' b2/\¬cv m r e' VS' NS' b3/\¬cv m r e' VS' NS' b4/\¬cv m r e' VS' NS' b5
 refine aV 8 J ⟨e4,VS4,NS4,p4,pa,hM5.put n3 _,by omega,by omega,rfl,rfl,rfl,rfl,rfl,rfl,by rw[ae _ _ d23];exact g2,ai _ _ _,by rw[ae _ _ (Ne.symm d34)];exact ga,by rw[ae _ _ (Ne.symm d35)];exact gb,n2,n3,n4,n5⟩ ?_
 clear g2 g3 ga gb n2 n3 n4 n5 hM5 stay hb4 hb5 hb5' hM4
 rintro k E H hk ⟨e',VS',NS',p',o,hM,hp1,hp2',e0,e2,e3,e4,e5,e6,g2,g3,g4,g5,n2,n3,n4,n5⟩
 simp only[wp_seq,go_sem,rE,rA,e6]
 refine aH (fun hlt=>?_) (fun hge=>?_)
 ·have w1:=aP (n:=(k:Int)+1) (by omega) (by omega)
  simp only[go_sem,rE,rA,e0]
  refine dP (ie L m r bs hbs v4 hv p' (last+1) (by omega) (by omega)) hM (rfl) (.refl _) (by simp) trivial ?_
  rintro q e6' v6 VS6 NS6 p6 last6 H6 fp6 ⟨⟨pb,w,rfl,hpb,hw⟩,rfl,hp6,hp6',rfl⟩ hM6 hk6 -
  obtain⟨g2,n2⟩:=hk6 _ _ g2 n2
  obtain⟨g3,n3⟩:=hk6 _ _ g3 n3
  obtain⟨g4,n4⟩:=hk6 _ _ g4 n4
  obtain⟨g5,n5⟩:=hk6 _ _ g5 n5
  simp only[go_sem,rE,rA,Ty.enc_eq w,Pl.enc]
  intro b7 hb7 b8 hb8
  have hb8':=tf hb8 (.cells [S pb.name,au pb.path])
  obtain⟨stay,ga,gb,d78⟩:=mz (c:=.cells [S pb.name,au pb.path]) (c':=.cells [.sl 1 none (Ty.encs w.kids)]) hb7 hb8'
  have hM7:=(hM6.new hb7 (.cells [S pb.name,au pb.path])).new hb8' (.cells [.sl 1 none (Ty.encs w.kids)])
  have g2:=stay g2
  have g3:=stay g3
  have g4:=stay g4
  have g5:=stay g5
  simp only[go_sem,rE,rA,d78,Ne.symm d78,lx d78]
  generalize((H6.set b7 (.cells [S pb.name,au pb.path])).set b8 (.cells [.sl 1 none (Ty.encs w.kids)]))=H7 at*
  simp only[go_sem,rE,rA,gb,e5,g5,rL]
  refine am (ov L Du u w hDu) (by simp only[go_sem,rE,Ty.enc_eq u,Ty.enc_eq w]) ?_
  have skip:∀E':Env,E' 0=.ptr m 0->E' 2=.ptr b2 0->E' 3=.ptr b3 0->E' 4=.ptr b4 0->E' 5=.ptr b5 0->E' 6=I (k+1:Nat)->k<8/\∃H'',aj.sub H'' H7/\J (k+1) E' H'':=
   fun E' h0 h2 h3 h4 h5 h6=>⟨by omega,H7,aj.sub_refl _,e6',VS6,NS6,p6,o,hM7,by omega,by omega,h0,h2,h3,h4,h5,h6,g2,g3,g4,g5,n2,n3,n4,n5⟩
  by_cases hs:u=w
  ·have hmeet:=vd L pa pb (by omega)
   simp only[go_sem,rE,rA,hs,e4,g4,ga,rL]
   refine am hmeet (by simp only[go_sem,rE,Pl.enc]) ?_
   cases hmt:pa.meet pb
   ·simp only[go_sem,rE,rA,e3,e6,ga,g3,w1,rL]
    have d23:b2≠b3:=by rintro rfl;rw[g3]at g2;simp at g2
    have d43:b4≠b3:=by rintro rfl;rw[g3]at g4;simp at g4
    have d53:b5≠b3:=by rintro rfl;rw[g3]at g5;simp at g5
    exact⟨by omega,_,aj.sub_refl _,e6',VS6,NS6,p6,pb,hM7.put n3 _,by omega,by omega,e0,e2,e3,e4,e5,rfl,by rw[ae _ _ d23];exact g2,ai _ _ _,by rw[ae _ _ d43];exact g4,by rw[ae _ _ d53];exact g5,n2,n3,n4,n5⟩
   ·simp only[go_sem,rE,rA,e6,w1]
    exact skip _ (e0) (e2) (e3) (e4) (e5) (rfl)
  ·simp only[go_sem,rE,rA,hs,e6,w1]
   exact skip _ (e0) (e2) (e3) (e4) (e5) (rfl)
 ·simp only[go_sem,rE,rA,e2,e3,g2,g3,rL]
  obtain⟨c1,c2⟩:=lc 6 nm pa o x hnm hxsm
  refine bP (q':=.agg (St.mk 6 nm pa o x (bl []) [] [] []).enc) (off:=0) (by simp only[go_sem,rE];exact e2) (ai _ _ _) rfl (.agg ?_) (aj.sub_refl _) ⟨e',v4,VS',NS',p',last+1,⟨⟨_,rfl,c1,c2⟩,rfl,hp1,by omega,by omega,by omega⟩,hM.put n2 _⟩
  have:=lePick nm pa o x
  rw[Ex.enc_eq x]at this
  exact this
end
theorem Bl(a:Ag):a.enc=[B a.lent,S a.place.name,au a.place.path,I a.expr.kind,I a.expr.num,S a.expr.place.name,au a.expr.place.path,.sl 5 none (Ex.encs a.expr.kids)]:=by
 rw[Ag.enc,Ex.enc_eq];rfl
def St.noneB(s:St):Bool:=decide (s.kind=0)&&(decide (s.name=bl [])&&(s.place.noneB&&(s.other.noneB&&(s.expr.noneB&&(decide (s.fn=bl [])&&(decide (s.args.length=0)&&(decide (s.thn.length=0)&&decide (s.els.length=0))))))))
section
variable {P:Program}{F:Ids}
theorem zh(L:Lib P F)(T:Tys F)(a:Ag):cI P 203 [.agg a.enc] (B a.okB):=by
 refine(L.a Tryz.func203 y203) (by simp[y203]) ?_
 rw[Bl]
 simp only[y203,go_sem,rE]
 intro b1 hb1
 have fin:∀(E':Env) (H':aj) (q:Bool),E' 2=B q->q=a.okB->bh.post [.slot 2] (fun q H'=>q=B a.okB/\H'=.empty) .ret E' H':=fun E' H' q h1 h2=>ak (by rw[h1,h2];exact .refl _) (aj.sub_empty _) ⟨rfl,rfl⟩
 have ho:a.okB=if a.lent then a.place.okB&&a.expr.noneB else a.place.noneB&&a.expr.okD 4:=rfl
 cases hl:a.lent
 ·rw[hl]at ho
  simp only[go_sem,rE,rA,rL]
  refine am (gU L a.place) (by simp only[go_sem,rE,Pl.enc]) ?_
  cases hp:a.place.noneB
  ·simp only[go_sem,rE,rA,rL]
   exact fin _ _ false (rfl) (by rw[ho,hp];rfl)
  ·simp only[go_sem,rE,rA,rL]
   refine am (ja L T 4 (by omega) a.expr) (by simp only[go_sem,rE,Ex.enc_eq];rfl) ?_
   simp only[go_sem,rE]
   exact fin _ _ (a.expr.okD 4) (rfl) (by rw[ho,hp];rfl)
 ·rw[hl]at ho
  simp only[go_sem,rE,rA,rL]
  refine am (gV L a.place) (by simp only[go_sem,rE,Pl.enc]) ?_
  cases hp:a.place.okB
  ·simp only[go_sem,rE,rA,rL]
   exact fin _ _ false (rfl) (by rw[ho,hp];rfl)
  ·simp only[go_sem,rE,rA,rL]
   refine am (gC L a.expr) (by simp only[go_sem,rE,Ex.enc_eq]) ?_
   simp only[go_sem,rE]
   exact fin _ _ a.expr.noneB (rfl) (by rw[ho,hp];rfl)
theorem wO(L:Lib P F)(T:Tys F)(l:List Ag):cI P 166 [.sl 8 none (l.map Ag.enc)] (B (eG l)):=by
 refine(L.a Tryz.func166 y166) (by simp[y166]) ?_
 simp only[y166,go_sem,rE,ao]
 by_cases h4:(l.length:Int)>4
 ·simp only[go_sem,rE,h4,decide_true]
  refine ak (.refl _) (aj.sub_empty _) ⟨?_,rfl⟩
  have:eG l=false:=by simp only[eG,cH,decide_eq_false_iff_not];exact .inl (by omega)
  simp only[go_sem,this]
 ·simp only[go_sem,rE,h4,decide_false]
  refine aV l.length (fun k E H=>E 8=.sl 8 none (l.map Ag.enc)/\E 9=I l.length/\E 10=I k/\(l.take k).all Ag.okB=true) ⟨by simp[go_sem],by simp[go_sem],by simp[go_sem],by simp⟩ ?_
  rintro k E H hk ⟨e8,e9,e10,hall⟩
  simp only[wp_seq,go_sem,rE,e9,e10]
  refine aH (fun hlt=>?_) (fun hge=>?_)
  ·have hk1:k<l.length:=by omega
   have w1:=aP (n:=(k:Int)+1) (by omega) (by omega)
   obtain⟨ca,hca,CA⟩:=agC2 l[k]
   have hga:(l.map Ag.enc)[k]?=some ca:=by rw[<-hca];simp[hk1]
   simp only[go_sem,rE,rA,rL,e8,e10,hga,CA.len,CA.all]
   intro b4 hb4
   refine am (zh L T l[k]) (by simp only[go_sem,rE,hca]) ?_
   cases hok:l[k].okB
   ·simp only[go_sem,rE,rA,rL]
    refine ak (.refl _) (aj.sub_empty _) ⟨?_,rfl⟩
    have:eG l=false:=by
     have:l.all Ag.okB=false:=by rw[dj];exact⟨_,az hk1,by rw[hok];exact fB⟩
     simp only[eG,this,aM]
    simp only[go_sem,this]
   ·simp only[go_sem,rE,rA,rL,e10,w1]
    refine⟨hk1,_,aj.sub_refl _,e8,e9,by simp,?_⟩
    rw[aC hk1,eD,hall]
    simp[hok]
  ·have hkk:k=l.length:=by omega
   subst hkk
   rw[aW]at hall
   simp only[go_sem,rE]
   refine ak (.refl _) (aj.sub_empty _) ⟨?_,rfl⟩
   have:eG l=true:=by simp only[eG,hall,fC,decide_eq_true_eq];omega
   simp only[go_sem,this]
theorem gB(L:Lib P F)(s:St):cI P 191 [.agg s.enc] (B s.noneB):=by
 refine(L.a Tryz.func191 y191) (by simp[y191]) ?_
 rw[St.enc_eq]
 simp only[y191,go_sem,rE]
 intro b1 hb1
 have fin:∀(E':Env) (H':aj) (q:Bool),E' 2=B q->q=s.noneB->bh.post [.slot 2] (fun q H'=>q=B s.noneB/\H'=.empty) .ret E' H':=fun E' H' q h1 h2=>ak (by rw[h1,h2];exact .refl _) (aj.sub_empty _) ⟨rfl,rfl⟩
 have beqn:∀n:Nat,((n:Int)==0)=decide (n=0):=fun n=>by rw[aX];simp
 have hn:s.noneB=(decide (s.kind=0)&&(decide (s.name=bl [])&&(s.place.noneB&&(s.other.noneB&&(s.expr.noneB&&(decide (s.fn=bl [])&&(decide (s.args.length=0)&&(decide (s.thn.length=0)&&decide (s.els.length=0))))))))):=rfl
 by_cases h1:s.kind=0
 case neg=>
  have h1':(s.kind==0)=false:=by simpa using h1
  simp only[go_sem,rE,rA,rL,h1']
  exact fin _ _ false (rfl) (by rw[hn];simp[h1])
 have h1':(s.kind==0)=true:=by simpa using h1
 by_cases h2:s.name=bl []
 case neg=>
  simp only[go_sem,rE,rA,rL,h1',h2,decide_false]
  exact fin _ _ false (rfl) (by rw[hn];simp[h2])
 simp only[go_sem,rE,rA,rL,h1',h2,decide_true]
 refine am (gU L s.place) (by simp only[go_sem,rE,Pl.enc]) ?_
 cases h3:s.place.noneB
 ·simp only[go_sem,rE,rA,rL]
  exact fin _ _ false (rfl) (by rw[hn];simp[h3])
 simp only[go_sem,rE,rA,rL]
 refine am (gU L s.other) (by simp only[go_sem,rE,Pl.enc]) ?_
 cases h4:s.other.noneB
 ·simp only[go_sem,rE,rA,rL]
  exact fin _ _ false (rfl) (by rw[hn];simp[h4])
 simp only[go_sem,rE,rA,rL]
 refine am (gC L s.expr) (by simp only[go_sem,rE,Ex.enc_eq]) ?_
 cases h5:s.expr.noneB
 ·simp only[go_sem,rE,rA,rL]
  exact fin _ _ false (rfl) (by rw[hn];simp[h5])
 by_cases h6:s.fn=bl []
 case neg=>
  simp only[go_sem,rE,rA,rL,h6,decide_false]
  exact fin _ _ false (rfl) (by rw[hn];simp[h6])
 simp only[go_sem,rE,rA,rL,h6,decide_true,ao,beqn]
 by_cases h7:s.args.length=0
 case neg=>
  simp only[go_sem,rE,rA,rL,h7,decide_false]
  exact fin _ _ false (rfl) (by rw[hn];simp[h7])
 simp only[go_sem,rE,rA,rL,h7,decide_true,St.encs_map,ao,beqn]
 by_cases h8:s.thn.length=0
 case neg=>
  simp only[go_sem,rE,rA,rL,h8,decide_false]
  exact fin _ _ false (rfl) (by rw[hn];simp[h8])
 simp only[go_sem,rE,rA,rL,h8,decide_true,St.encs_map,ao,beqn]
 exact fin _ _ (decide (s.els.length=0)) (rfl) (by rw[hn];simp[h1,h2,h3,h4,h5,h6,h7,h8])
end
def St.rest1(s:St):St:=St.mk 0 (bl []) s.place s.other E0 s.fn s.args s.thn s.els
def St.rest2(s:St):St:=St.mk 0 (bl []) P0 s.other s.expr s.fn s.args s.thn s.els
def St.rest3(s:St):St:=St.mk 0 s.name P0 s.other E0 s.fn s.args s.thn s.els
def St.rest4(s:St):St:=St.mk 0 (bl []) s.place s.other s.expr (bl []) [] s.thn s.els
def St.rest5(s:St):St:=St.mk 0 s.name s.place s.other E0 s.fn s.args [] []
def St.rest6(s:St):St:=St.mk 0 (bl []) P0 P0 E0 s.fn s.args s.thn s.els
def shS(F:Ids)(s:St):AC:=
 if s.kind=1 then(if s.rest1.noneB then .iface 245 (.agg (S s.name::s.expr.enc))else gE)
 else if s.kind=2 then(if s.rest2.noneB then .iface 247 (.agg [S s.name,S s.place.name,au s.place.path])else gE)
 else if s.kind=3 then(if s.rest3.noneB then .iface 249 (.agg ([S s.place.name,au s.place.path]++s.expr.enc))else gE)
 else if s.kind=4 then(if s.rest4.noneB then .iface 251 (.agg [S s.name,S s.fn,.sl 8 none (s.args.map Ag.enc)])else gE)
 else if s.kind=5 then(if s.rest5.noneB then .iface 255 (.agg (s.expr.enc++[.sl 15 none (St.encs s.thn),.sl 15 none (St.encs s.els)]))else gE)
 else if s.kind=6 then(if s.rest6.noneB then .iface 257 (.agg ([S s.name,S s.place.name,au s.place.path,S s.other.name,au s.other.path]++s.expr.enc))else gE)
 else gE
theorem xv{F:Ids}{s:St}(h:s.kind=1):shS F s=if s.rest1.noneB then .iface 245 (.agg [S s.name,I s.expr.kind,I s.expr.num,S s.expr.place.name,au s.expr.place.path,.sl 5 none (Ex.encs s.expr.kids)])else gE:=by
 first
  |(rw[shS,if_pos h,Ex.enc_eq];done)
  |(rw[shS,if_pos h,Ex.enc_eq];rfl)
theorem xu{F:Ids}{s:St}(h:s.kind=2):shS F s=if s.rest2.noneB then .iface 247 (.agg [S s.name,S s.place.name,au s.place.path])else gE:=by
 have q:∀i:Int,i≠2->¬s.kind=i:=fun i hi=>by rw[h];exact Ne.symm hi
 rw[shS,if_neg (q 1 (by decide)),if_pos h]
theorem xr{F:Ids}{s:St}(h:s.kind=3):shS F s=if s.rest3.noneB then .iface 249 (.agg [S s.place.name,au s.place.path,I s.expr.kind,I s.expr.num,S s.expr.place.name,au s.expr.place.path,.sl 5 none (Ex.encs s.expr.kids)])else gE:=by
 have q:∀i:Int,i≠3->¬s.kind=i:=fun i hi=>by rw[h];exact Ne.symm hi
 first
  |(rw[shS,if_neg (q 1 (by decide)),if_neg (q 2 (by decide)),if_pos h,Ex.enc_eq];done)
  |(rw[shS,if_neg (q 1 (by decide)),if_neg (q 2 (by decide)),if_pos h,Ex.enc_eq];rfl)
theorem xq{F:Ids}{s:St}(h:s.kind=4):shS F s=if s.rest4.noneB then .iface 251 (.agg [S s.name,S s.fn,.sl 8 none (s.args.map Ag.enc)])else gE:=by
 have q:∀i:Int,i≠4->¬s.kind=i:=fun i hi=>by rw[h];exact Ne.symm hi
 rw[shS,if_neg (q 1 (by decide)),if_neg (q 2 (by decide)),if_neg (q 3 (by decide)),if_pos h]
theorem xn{F:Ids}{s:St}(h:s.kind=5):shS F s=if s.rest5.noneB then .iface 255 (.agg [I s.expr.kind,I s.expr.num,S s.expr.place.name,au s.expr.place.path,.sl 5 none (Ex.encs s.expr.kids),.sl 15 none (St.encs s.thn),.sl 15 none (St.encs s.els)])else gE:=by
 have q:∀i:Int,i≠5->¬s.kind=i:=fun i hi=>by rw[h];exact Ne.symm hi
 first
  |(rw[shS,if_neg (q 1 (by decide)),if_neg (q 2 (by decide)),if_neg (q 3 (by decide)),if_neg (q 4 (by decide)),if_pos h,Ex.enc_eq];done)
  |(rw[shS,if_neg (q 1 (by decide)),if_neg (q 2 (by decide)),if_neg (q 3 (by decide)),if_neg (q 4 (by decide)),if_pos h,Ex.enc_eq];rfl)
theorem xm{F:Ids}{s:St}(h:s.kind=6):shS F s=if s.rest6.noneB then .iface 257 (.agg [S s.name,S s.place.name,au s.place.path,S s.other.name,au s.other.path,I s.expr.kind,I s.expr.num,S s.expr.place.name,au s.expr.place.path,.sl 5 none (Ex.encs s.expr.kids)])else gE:=by
 have q:∀i:Int,i≠6->¬s.kind=i:=fun i hi=>by rw[h];exact Ne.symm hi
 first
  |(rw[shS,if_neg (q 1 (by decide)),if_neg (q 2 (by decide)),if_neg (q 3 (by decide)),if_neg (q 4 (by decide)),if_neg (q 5 (by decide)),if_pos h,Ex.enc_eq];done)
  |(rw[shS,if_neg (q 1 (by decide)),if_neg (q 2 (by decide)),if_neg (q 3 (by decide)),if_neg (q 4 (by decide)),if_neg (q 5 (by decide)),if_pos h,Ex.enc_eq];rfl)
theorem shS_0{F:Ids}{s:St}(h:¬(1<=s.kind/\s.kind<=6)):shS F s=gE:=by
 rw[shS,if_neg (show ¬s.kind=1 by omega),if_neg (show ¬s.kind=2 by omega),if_neg (show ¬s.kind=3 by omega),if_neg (show ¬s.kind=4 by omega),if_neg (show ¬s.kind=5 by omega),if_neg (show ¬s.kind=6 by omega)]
section
variable {P:Program}{F:Ids}
theorem uY(L:Lib P F)(s:St):cI P 142 [.agg s.enc] (shS F s):=by
 refine(L.a Tryz.func142 y142) (by simp[y142]) ?_
 rw[St.enc_eq]
 simp only[y142,go_sem,rE]
 intro b1 hb1
 simp only[go_sem,rE,rA,rL]
 intro b3 hb3
 have d13:b1≠b3:=al (ai _ _ _) hb3
 simp only[go_sem,rE,rA,rL,d13,Ne.symm d13]
 have fin:∀(E':Env) (H':aj) (q:AC),E' 2=q->q=shS F s->bh.post [.slot 2] (fun q H'=>q=shS F s/\H'=.empty) .ret E' H':=fun E' H' q h1 h2=>ak (by rw[h1,h2];exact .refl _) (aj.sub_empty _) ⟨rfl,rfl⟩
 by_cases k1:s.kind=1
 ·have q1:(s.kind==1)=true:=by simpa using k1
  simp only[q1,go_sem,rE,rA,rL,d13,Ne.symm d13]
  refine gv (as':=[.agg [I 0,S (bl []),S s.place.name,au s.place.path,S s.other.name,au s.other.path,I 0,I 0,S (bl []),NIL,NIL,S s.fn,.sl 8 none (s.args.map Ag.enc),.sl 15 none (St.encs s.thn),.sl 15 none (St.encs s.els)]]) (gB L s.rest1) (rfl) ⟨.agg ?_,trivial⟩ ?_
  ·rw[St.enc_eq];exact⟨⟨.refl _,rfl⟩,⟨.refl _,rfl⟩,⟨.refl _,rfl⟩,⟨.refl _,rfl⟩,⟨.refl _,rfl⟩,⟨.refl _,rfl⟩,⟨.refl _,rfl⟩,⟨.refl _,rfl⟩,⟨.refl _,rfl⟩,⟨.nil 1,rfl⟩,⟨.nil 5,rfl⟩,⟨.refl _,rfl⟩,⟨.refl _,rfl⟩,⟨.refl _,rfl⟩,⟨.refl _,rfl⟩,trivial⟩
  have hq:=xv (F:=F) k1
  cases hc:s.rest1.noneB
  ·rw[hc]at hq
   simp only[go_sem,rE,rA,rL]
   exact fin _ _ gE (rfl) (by rw[hq];rfl)
  ·rw[hc]at hq
   simp only[go_sem,rE,rA,rL]
   exact fin _ _ (.iface 245 (.agg [S s.name,I s.expr.kind,I s.expr.num,S s.expr.place.name,au s.expr.place.path,.sl 5 none (Ex.encs s.expr.kids)])) (rfl) (by rw[hq];rfl)
 have q1:(s.kind==1)=false:=by simpa using k1
 by_cases k2:s.kind=2
 ·have q2:(s.kind==2)=true:=by simpa using k2
  simp only[q1,q2,go_sem,rE,rA,rL,d13,Ne.symm d13]
  refine gv (as':=[.agg [I 0,S (bl []),S (bl []),NIL,S s.other.name,au s.other.path,I s.expr.kind,I s.expr.num,S s.expr.place.name,au s.expr.place.path,.sl 5 none (Ex.encs s.expr.kids),S s.fn,.sl 8 none (s.args.map Ag.enc),.sl 15 none (St.encs s.thn),.sl 15 none (St.encs s.els)]]) (gB L s.rest2) (rfl) ⟨.agg ?_,trivial⟩ ?_
  ·rw[St.enc_eq];exact⟨⟨.refl _,rfl⟩,⟨.refl _,rfl⟩,⟨.refl _,rfl⟩,⟨.nil 1,rfl⟩,⟨.refl _,rfl⟩,⟨.refl _,rfl⟩,⟨.refl _,rfl⟩,⟨.refl _,rfl⟩,⟨.refl _,rfl⟩,⟨.refl _,rfl⟩,⟨.refl _,rfl⟩,⟨.refl _,rfl⟩,⟨.refl _,rfl⟩,⟨.refl _,rfl⟩,⟨.refl _,rfl⟩,trivial⟩
  have hq:=xu (F:=F) k2
  cases hc:s.rest2.noneB
  ·rw[hc]at hq
   simp only[go_sem,rE,rA,rL]
   exact fin _ _ gE (rfl) (by rw[hq];rfl)
  ·rw[hc]at hq
   simp only[go_sem,rE,rA,rL]
   exact fin _ _ (.iface 247 (.agg [S s.name,S s.place.name,au s.place.path])) (rfl) (by rw[hq];rfl)
 have q2:(s.kind==2)=false:=by simpa using k2
 by_cases k3:s.kind=3
 ·have q3:(s.kind==3)=true:=by simpa using k3
  simp only[q1,q2,q3,go_sem,rE,rA,rL,d13,Ne.symm d13]
  refine gv (as':=[.agg [I 0,S s.name,S (bl []),NIL,S s.other.name,au s.other.path,I 0,I 0,S (bl []),NIL,NIL,S s.fn,.sl 8 none (s.args.map Ag.enc),.sl 15 none (St.encs s.thn),.sl 15 none (St.encs s.els)]]) (gB L s.rest3) (rfl) ⟨.agg ?_,trivial⟩ ?_
  ·rw[St.enc_eq];exact⟨⟨.refl _,rfl⟩,⟨.refl _,rfl⟩,⟨.refl _,rfl⟩,⟨.nil 1,rfl⟩,⟨.refl _,rfl⟩,⟨.refl _,rfl⟩,⟨.refl _,rfl⟩,⟨.refl _,rfl⟩,⟨.refl _,rfl⟩,⟨.nil 1,rfl⟩,⟨.nil 5,rfl⟩,⟨.refl _,rfl⟩,⟨.refl _,rfl⟩,⟨.refl _,rfl⟩,⟨.refl _,rfl⟩,trivial⟩
  have hq:=xr (F:=F) k3
  cases hc:s.rest3.noneB
  ·rw[hc]at hq
   simp only[go_sem,rE,rA,rL]
   exact fin _ _ gE (rfl) (by rw[hq];rfl)
  ·rw[hc]at hq
   simp only[go_sem,rE,rA,rL]
   exact fin _ _ (.iface 249 (.agg [S s.place.name,au s.place.path,I s.expr.kind,I s.expr.num,S s.expr.place.name,au s.expr.place.path,.sl 5 none (Ex.encs s.expr.kids)])) (rfl) (by rw[hq];rfl)
 have q3:(s.kind==3)=false:=by simpa using k3
 by_cases k4:s.kind=4
 ·have q4:(s.kind==4)=true:=by simpa using k4
  simp only[q1,q2,q3,q4,go_sem,rE,rA,rL,d13,Ne.symm d13]
  refine gv (as':=[.agg [I 0,S (bl []),S s.place.name,au s.place.path,S s.other.name,au s.other.path,I s.expr.kind,I s.expr.num,S s.expr.place.name,au s.expr.place.path,.sl 5 none (Ex.encs s.expr.kids),S (bl []),NIL,.sl 15 none (St.encs s.thn),.sl 15 none (St.encs s.els)]]) (gB L s.rest4) (rfl) ⟨.agg ?_,trivial⟩ ?_
  ·rw[St.enc_eq];exact⟨⟨.refl _,rfl⟩,⟨.refl _,rfl⟩,⟨.refl _,rfl⟩,⟨.refl _,rfl⟩,⟨.refl _,rfl⟩,⟨.refl _,rfl⟩,⟨.refl _,rfl⟩,⟨.refl _,rfl⟩,⟨.refl _,rfl⟩,⟨.refl _,rfl⟩,⟨.refl _,rfl⟩,⟨.refl _,rfl⟩,⟨.nil 8,rfl⟩,⟨.refl _,rfl⟩,⟨.refl _,rfl⟩,trivial⟩
  have hq:=xq (F:=F) k4
  cases hc:s.rest4.noneB
  ·rw[hc]at hq
   simp only[go_sem,rE,rA,rL]
   exact fin _ _ gE (rfl) (by rw[hq];rfl)
  ·rw[hc]at hq
   simp only[go_sem,rE,rA,rL]
   exact fin _ _ (.iface 251 (.agg [S s.name,S s.fn,.sl 8 none (s.args.map Ag.enc)])) (rfl) (by rw[hq];rfl)
 have q4:(s.kind==4)=false:=by simpa using k4
 by_cases k5:s.kind=5
 ·have q5:(s.kind==5)=true:=by simpa using k5
  simp only[q1,q2,q3,q4,q5,go_sem,rE,rA,rL,d13,Ne.symm d13]
  refine gv (as':=[.agg [I 0,S s.name,S s.place.name,au s.place.path,S s.other.name,au s.other.path,I 0,I 0,S (bl []),NIL,NIL,S s.fn,.sl 8 none (s.args.map Ag.enc),NIL,NIL]]) (gB L s.rest5) (rfl) ⟨.agg ?_,trivial⟩ ?_
  ·rw[St.enc_eq];exact⟨⟨.refl _,rfl⟩,⟨.refl _,rfl⟩,⟨.refl _,rfl⟩,⟨.refl _,rfl⟩,⟨.refl _,rfl⟩,⟨.refl _,rfl⟩,⟨.refl _,rfl⟩,⟨.refl _,rfl⟩,⟨.refl _,rfl⟩,⟨.nil 1,rfl⟩,⟨.nil 5,rfl⟩,⟨.refl _,rfl⟩,⟨.refl _,rfl⟩,⟨.nil 15,rfl⟩,⟨.nil 15,rfl⟩,trivial⟩
  have hq:=xn (F:=F) k5
  cases hc:s.rest5.noneB
  ·rw[hc]at hq
   simp only[go_sem,rE,rA,rL]
   exact fin _ _ gE (rfl) (by rw[hq];rfl)
  ·rw[hc]at hq
   simp only[go_sem,rE,rA,rL]
   exact fin _ _ (.iface 255 (.agg [I s.expr.kind,I s.expr.num,S s.expr.place.name,au s.expr.place.path,.sl 5 none (Ex.encs s.expr.kids),.sl 15 none (St.encs s.thn),.sl 15 none (St.encs s.els)])) (rfl) (by rw[hq];rfl)
 have q5:(s.kind==5)=false:=by simpa using k5
 by_cases k6:s.kind=6
 ·have q6:(s.kind==6)=true:=by simpa using k6
  simp only[q1,q2,q3,q4,q5,q6,go_sem,rE,rA,rL,d13,Ne.symm d13]
  refine gv (as':=[.agg [I 0,S (bl []),S (bl []),NIL,S (bl []),NIL,I 0,I 0,S (bl []),NIL,NIL,S s.fn,.sl 8 none (s.args.map Ag.enc),.sl 15 none (St.encs s.thn),.sl 15 none (St.encs s.els)]]) (gB L s.rest6) (rfl) ⟨.agg ?_,trivial⟩ ?_
  ·rw[St.enc_eq];exact⟨⟨.refl _,rfl⟩,⟨.refl _,rfl⟩,⟨.refl _,rfl⟩,⟨.nil 1,rfl⟩,⟨.refl _,rfl⟩,⟨.nil 1,rfl⟩,⟨.refl _,rfl⟩,⟨.refl _,rfl⟩,⟨.refl _,rfl⟩,⟨.nil 1,rfl⟩,⟨.nil 5,rfl⟩,⟨.refl _,rfl⟩,⟨.refl _,rfl⟩,⟨.refl _,rfl⟩,⟨.refl _,rfl⟩,trivial⟩
  have hq:=xm (F:=F) k6
  cases hc:s.rest6.noneB
  ·rw[hc]at hq
   simp only[go_sem,rE,rA,rL]
   exact fin _ _ gE (rfl) (by rw[hq];rfl)
  ·rw[hc]at hq
   simp only[go_sem,rE,rA,rL]
   exact fin _ _ (.iface 257 (.agg [S s.name,S s.place.name,au s.place.path,S s.other.name,au s.other.path,I s.expr.kind,I s.expr.num,S s.expr.place.name,au s.expr.place.path,.sl 5 none (Ex.encs s.expr.kids)])) (rfl) (by rw[hq];rfl)
 have q6:(s.kind==6)=false:=by simpa using k6
 simp only[q1,q2,q3,q4,q5,q6,go_sem,rE,rA,rL]
 exact fin _ _ gE (rfl) (shS_0 (by omega)).symm
end
noncomputable def eqB{α:Type}(a b:α):Bool:=@decide (a=b) (Classical.propDecidable _)
theorem cN{α:Type}{a b:α}:eqB a b=true↔a=b:=by simp[eqB]
theorem cC{α:Type}{a b:α}:eqB a b=false↔a≠b:=by simp[eqB]
theorem dT{α:Type}(a:α):eqB a a=true:=cN.2 rfl
theorem fo(a b:Int):(a !=b)=!eqB a b:=by
 cases h:eqB a b
 ·simpa using cC.1 h
 ·simpa using cN.1 h
theorem fm(a b:Nat):eqB (a:Int) (b:Int)=eqB a b:=by
 cases h:eqB a b
 ·exact cC.2 fun e=>cC.1 h (by omega)
 ·exact cN.2 (by rw[cN.1 h])
theorem dk{α:Type}{a b:α}[Decidable (a=b)]:decide (a=b)=eqB a b:=by
 cases h:eqB a b
 ·simpa using cC.1 h
 ·simpa using cN.1 h
theorem rY{α:Type}{a b:List α}{k:Nat}(h:a.take k=b.take k)(h1:k<a.length)(h2:k<b.length)(he:a[k]=b[k]):a.take (k+1)=b.take (k+1):=by
 rw[aC h1,aC h2,h,he]
theorem ua{α:Type}{a b:List α}{k:Nat}(hk:¬k<a.length)(hk2:k<=a.length)(hl:a.length=b.length)(h:a.take k=b.take k):a=b:=by
 rw[cy (by omega),cy (by omega)]at h;exact h
theorem Ax{α:Type}{a b:List α}{k:Nat}(h1:k<a.length)(h2:k<b.length)(he:a[k]≠b[k]):a≠b:=fun e=>he (by subst e;rfl)
theorem Ty.ext{a b:Ty}(h:a.kids=b.kids):a=b:=by cases a;cases b;simp only[Ty.kids]at h;rw[h]
section
variable {P:Program}{F:Ids}
theorem rO{n:Nat}{t:Ty}(h:t.deepB (n+1)=true):t.kids.length<=2/\∀x∈t.kids,x.deepB n=true:=by
 cases t
 simp only[Ty.deepB,aw,dh,decide_eq_true_eq,aS]at h
 exact⟨by simp only[Ty.kids];omega,h.2⟩
end
section
variable {P:Program}{F:Ids}
theorem Bb(L:Lib P F)(a b:List Int)(hl:a.length<=2^40):cI P 239 [au a,au b] (B (eqB a b)):=by
 refine(L.a Tryz.func239 y239) (by simp[y239]) ?_
 have fin:∀(E':Env) (H':aj) (q:Bool),E' 4=B q->q=eqB a b->bh.post [.slot 4] (fun q H'=>q=B (eqB a b)/\H'=.empty) .ret E' H':=fun E' H' q h1 h2=>ak (by rw[h1,h2];exact .refl _) (aj.sub_empty _) ⟨rfl,rfl⟩
 have no:∀(E':Env) (H':aj),E' 4=B false->a≠b->bh.post [.slot 4] (fun q H'=>q=B (eqB a b)/\H'=.empty) .ret E' H':=fun E' H' h1 h2=>fin E' H' false h1 (cC.2 h2).symm
 simp only[y239,go_sem,rE,rA,rL,fo,fm,dk,au,ao]
 cases h0:eqB a.length b.length
 ·simp only[go_sem,rE,rA,rL,fo,fm,dk]
  exact no _ _ (rfl) fun e=>cC.1 h0 (by rw[e])
 have h0:=cN.1 h0
 simp only[go_sem,rE,rA,rL,fo,fm,dk,ao]
 refine aV a.length (fun k E H=>E 0=.sl 1 none (a.map fun i=>[I i])/\E 1=.sl 1 none (b.map fun i=>[I i])/\E 12=I a.length/\E 13=I k/\a.take k=b.take k) ⟨rfl,rfl,rfl,rfl,rfl⟩ ?_
 rintro k E H hk ⟨e0,e1,e12,e13,ht⟩
 simp only[go_sem,rE,rA,rL,fo,fm,dk,e0,e12,e13,ao]
 refine aH (fun hlt=>?_) (fun hge=>?_)
 ·have hk1:k<a.length:=by omega
  have hk2:k<b.length:=by omega
  have w1:=aP (n:=(k:Int)+1) (by omega) (by omega)
  simp only[go_sem,rE,rA,rL,fo,fm,dk,e0,e1,e13,iJ hk1,iJ hk2]
  cases h1:eqB a[k] b[k]
  ·simp only[go_sem,rE,rA,rL,fo,fm,dk]
   exact no _ _ (rfl) (Ax hk1 hk2 (cC.1 h1))
  simp only[go_sem,rE,rA,rL,fo,fm,dk,e13,w1]
  exact⟨hk1,H,aj.sub_refl _,e0,e1,e12,rfl,rY ht hk1 hk2 (cN.1 h1)⟩
 ·simp only[go_sem,rE,rA,rL,fo,fm,dk]
  exact fin _ _ true (rfl) (by rw[ua (by omega) hk h0 ht,dT])
noncomputable def wu(ns:List ByteArray)(s:ByteArray):Int:=match ns.findIdx? (fun x=>eqB s x)with|some i=>(i:Int)|none=>-1
theorem m8{ns:List ByteArray}{k:Nat}(h:k<ns.length):(aD ns)[k]?=some [S ns[k]]:=by simp[aD,h]
theorem Ba(L:Lib P F)(ns:List ByteArray)(s:ByteArray)(hl:ns.length<=2^40):cI P 183 [.sl 1 none (aD ns),S s] (I (wu ns s)):=by
 refine(L.a Tryz.func183 y183) (by simp[y183]) ?_
 have fin:∀(E':Env) (H':aj) (q:Int),E' 4=I q->q=wu ns s->bh.post [.slot 4] (fun q H'=>q=I (wu ns s)/\H'=.empty) .ret E' H':=fun E' H' q h1 h2=>ak (by rw[h1,h2];exact .refl _) (aj.sub_empty _) ⟨rfl,rfl⟩
 have hlen:(aD ns).length=ns.length:=by simp[aD]
 simp only[y183,go_sem,rE,rA,rL,dk,hlen]
 refine aV ns.length (fun k E H=>E 0=.sl 1 none (aD ns)/\E 1=S s/\E 7=I ns.length/\E 8=I k/\∀i (h:i<ns.length),i<k->eqB s ns[i]=false) ⟨rfl,rfl,rfl,rfl,fun _ _ h=>absurd h (Nat.not_lt_zero _)⟩ ?_
 rintro k E H hk ⟨e0,e1,e7,e8,hall⟩
 simp only[go_sem,rE,rA,rL,dk,e0,e7,e8]
 refine aH (fun hlt=>?_) (fun hge=>?_)
 ·have hk1:k<ns.length:=by omega
  have w1:=aP (n:=(k:Int)+1) (by omega) (by omega)
  simp only[go_sem,rE,rA,rL,dk,e0,e1,e8,m8 hk1]
  cases h1:eqB s ns[k]
  ·simp only[go_sem,rE,rA,rL,dk,e8,w1]
   refine⟨hk1,H,aj.sub_refl _,e0,e1,e7,rfl,fun i h hi=>?_⟩
   by_cases hik:i=k
   ·subst hik;exact h1
   ·exact hall i h (by omega)
  ·simp only[go_sem,rE,rA,rL,dk]
   refine fin _ _ k (rfl) ?_
   have:ns.findIdx? (fun x=>eqB s x)=some k:=by
    rw[bN]
    exact⟨hk1,h1,fun j hj=>by simp[hall j (by omega) hj]⟩
   simp only[wu,this]
 ·simp only[go_sem,rE,rA,rL,dk]
  refine fin _ _ (-1) (rfl) ?_
  have:ns.findIdx? (fun x=>eqB s x)=none:=by
   rw[ip]
   intro x hx
   obtain⟨i,hi,rfl⟩:=bk.1 hx
   exact hall i hi (by omega)
  simp only[wu,this]
theorem uH(ns:List ByteArray)(s:ByteArray):decide (wu ns s>=0)=ns.any fun x=>eqB s x:=by
 unfold wu
 cases h:ns.findIdx? fun x=>eqB s x with
 |none=>
  rw[ip]at h
  have:(ns.any fun x=>eqB s x)=false:=by rw[List.any_eq_false];intro x hx;simp[h x hx]
  rw[this];rfl
 |some i=>
  obtain⟨hi,h1,-⟩:=bN.1 h
  have:(ns.any fun x=>eqB s x)=true:=iP.2 ⟨_,az hi,h1⟩
  rw[this];simp
theorem vf(L:Lib P F)(ns:List ByteArray)(s:ByteArray)(hl:ns.length<=2^40):cI P 132 [.sl 1 none (aD ns),S s] (B (ns.any fun x=>eqB s x)):=by
 refine(L.a Tryz.func132 y132) (by simp[y132]) ?_
 simp only[y132,go_sem,rE,rA,rL]
 refine am (Ba L ns s hl) rfl ?_
 simp only[go_sem,rE,rA,rL,uH]
 exact ak (.refl _) (aj.sub_empty _) ⟨rfl,rfl⟩
theorem Au{a b:Pl}(h:a.name=b.name):eqB (a.path.take (min a.path.length b.path.length)) (b.path.take (min a.path.length b.path.length))=a.meet b:=by
 simp only[Pl.meet,h,decide_true,bT]
 generalize a.path=x
 generalize b.path=y
 induction x generalizing y with
 |nil=>simp[dT]
 |cons c x ih=>
  cases y with
  |nil=>simp[dT]
  |cons d y=>
   have:=ih y
   simp only[aR,Nat.add_min_add_right,List.take_succ_cons,List.zip_cons_cons,List.all_cons,<-this]
   rw[aX]
   simp only[cN,aw,decide_eq_true_eq,List.cons.injEq]
theorem xK(L:Lib P F)(a b:Pl)(ha:a.path.length<=2^40)(hb:b.path.length<=2^40):cI P 210 [.agg a.enc,.agg b.enc] (B (a.meet b)):=by
 refine(L.a Tryz.func210 y210) (by simp[y210]) ?_
 have hmin:(if(b.path.length:Int)<(a.path.length:Int)then(b.path.length:Int)else(a.path.length:Int))=((min a.path.length b.path.length:Nat):Int):=by split<;>omega
 simp only[y210,go_sem,rE,rA,rL,dk,Pl.enc]
 intro b2 hb2 b3 hb3
 have d23:=al (ai _ _ _) hb3
 have g2:=(ae (aj.empty.set b2 (.cells [S a.name,au a.path])) (.cells [S b.name,au b.path]) d23).trans (ai _ _ _)
 have g3:=ai (aj.empty.set b2 (.cells [S a.name,au a.path])) b3 (.cells [S b.name,au b.path])
 generalize(aj.empty.set b2 (.cells [S a.name,au a.path])).set b3 (.cells [S b.name,au b.path])=H0 at*
 have hm1:min a.path.length b.path.length<=(a.path.map fun i=>[I i]).length:=by simp;omega
 have hm2:min a.path.length b.path.length<=(b.path.map fun i=>[I i]).length:=by simp;omega
 simp only[go_sem,rE,rA,rL,dk,g2,g3,au,ao,hmin]
 cases h1:eqB a.name b.name
 ·simp only[go_sem,rE,rA,rL,dk,g2,g3]
  refine ak (.refl _) (aj.sub_empty _) ⟨?_,rfl⟩
  have:a.meet b=false:=by simp[Pl.meet,cC.1 h1]
  simp only[go_sem,this]
 ·simp only[go_sem,rE,rA,rL,dk,g2,g3,au,hm1,hm2,gN,and_self,if_true,<-kR]
  refine am (Bb L (a.path.take _) (b.path.take _) (by simp;omega)) rfl ?_
  simp only[go_sem,rE,rA,rL,dk,g2,g3]
  refine ak (.refl _) (aj.sub_empty _) ⟨?_,rfl⟩
  simp only[go_sem,Au (cN.1 h1)]
end
section
variable {P:Program}{F:Ids}
theorem lv(L:Lib P F):∀(n:Nat) (a b:Ty),a.deepB n=true->cI P 172 [.agg a.enc,.agg b.enc] (B (eqB a b)):=by
 intro n
 induction n with
 |zero=>intro a b h;cases a;simp[Ty.deepB]at h
 |succ n ih=>
  intro a b h
  obtain⟨hal,hkid⟩:=rO h
  refine(L.a Tryz.func172 y172) (by simp[y172]) ?_
  have fin:∀(E':Env) (H':aj) (q:Bool),E' 4=B q->q=eqB a b->bh.post [.slot 4] (fun q H'=>q=B (eqB a b)/\H'=.empty) .ret E' H':=fun E' H' q h1 h2=>ak (by rw[h1,h2];exact .refl _) (aj.sub_empty _) ⟨rfl,rfl⟩
  have no:∀(E':Env) (H':aj),E' 4=B false->a≠b->bh.post [.slot 4] (fun q H'=>q=B (eqB a b)/\H'=.empty) .ret E' H':=fun E' H' h1 h2=>fin E' H' false h1 (cC.2 h2).symm
  rw[Ty.enc_eq,Ty.enc_eq]
  simp only[y172,go_sem,rE,rA,rL,fo,fm,dk]
  intro b2 hb2 b3 hb3
  have d23:=al (ai _ _ _) hb3
  have g2:=(ae (aj.empty.set b2 (.cells [.sl 1 none (Ty.encs a.kids)])) (.cells [.sl 1 none (Ty.encs b.kids)]) d23).trans (ai _ _ _)
  have g3:=ai (aj.empty.set b2 (.cells [.sl 1 none (Ty.encs a.kids)])) b3 (.cells [.sl 1 none (Ty.encs b.kids)])
  generalize(aj.empty.set b2 (.cells [.sl 1 none (Ty.encs a.kids)])).set b3 (.cells [.sl 1 none (Ty.encs b.kids)])=H0 at*
  simp only[go_sem,rE,rA,rL,fo,fm,dk,g2,g3,Ty.encs_map,ao]
  cases h0:eqB a.kids.length b.kids.length
  ·simp only[go_sem,rE,rA,rL,fo,fm,dk]
   exact no _ _ (rfl) fun e=>cC.1 h0 (by rw[e])
  have h0:=cN.1 h0
  simp only[go_sem,rE,rA,rL,fo,fm,dk,g2,ao,Ty.encs_map]
  refine aV a.kids.length (fun k E H=>E 2=.ptr b2 0/\E 3=.ptr b3 0/\H.get b2=some (.cells [.sl 1 none (a.kids.map Ty.enc)])/\H.get b3=some (.cells [.sl 1 none (b.kids.map Ty.enc)])/\E 15=I a.kids.length/\E 16=I k/\a.kids.take k=b.kids.take k)
   ⟨rfl,rfl,by rw[<-Ty.encs_map];exact g2,by rw[<-Ty.encs_map];exact g3,rfl,rfl,rfl⟩ ?_
  clear g2 g3
  rintro k E H hk ⟨e2,e3,g2,g3,e15,e16,ht⟩
  simp only[go_sem,rE,rA,rL,fo,fm,dk,e2,e15,e16,g2,ao]
  refine aH (fun hlt=>?_) (fun hge=>?_)
  ·have hk1:k<a.kids.length:=by omega
   have hk2:k<b.kids.length:=by omega
   have w1:=aP (n:=(k:Int)+1) (by omega) (by omega)
   have ga:(a.kids.map Ty.enc)[k]?=some [.sl 1 none (Ty.encs a.kids[k].kids)]:=by simp[hk1,Ty.enc_eq]
   have gb:(b.kids.map Ty.enc)[k]?=some [.sl 1 none (Ty.encs b.kids[k].kids)]:=by simp[hk2,Ty.enc_eq]
   simp only[go_sem,rE,rA,rL,fo,fm,dk,e2,e3,e16,g2,g3,ga,gb]
   refine am (ih a.kids[k] b.kids[k] (hkid _ (az hk1))) (by simp only[go_sem,rE,rA,rL,fo,fm,dk,Ty.enc_eq]) ?_
   cases h1:eqB a.kids[k] b.kids[k]
   ·simp only[go_sem,rE,rA,rL,fo,fm,dk]
    exact no _ _ (rfl) fun e=>Ax hk1 hk2 (cC.1 h1) (by rw[e])
   simp only[go_sem,rE,rA,rL,fo,fm,dk,e16,w1]
   exact⟨hk1,H,aj.sub_refl _,e2,e3,g2,g3,e15,rfl,rY ht hk1 hk2 (cN.1 h1)⟩
  ·simp only[go_sem,rE,rA,rL,fo,fm,dk]
   exact fin _ _ true (rfl) (by rw[Ty.ext (ua (by omega) hk h0 ht),dT])
theorem c_parts(L:Lib P F)(t:Ty):cI P 280 [.agg t.enc] (.sl 1 none (Ty.encs t.kids)):=by
 refine(L.a Tryz.func280 y280) (by simp[y280]) ?_
 rw[Ty.enc_eq]
 simp only[y280,go_sem,rE,rA,rL]
 intro b hb
 exact ak (.refl _) (aj.sub_empty _) ⟨rfl,rfl⟩
theorem qZ(L:Lib P F):∀(n:Nat),(∀t:Ty,t.deepB n=true->cI P 240 [.agg t.enc] (.agg t.enc))/\
 ∀a b:Ty,a.deepB n=true->b.deepB n=true->cI P 212 [.agg a.enc,.agg b.enc] (.agg (Ty.mk [a,b]).enc):=by
 intro n
 have pair:∀n,(∀t:Ty,t.deepB n=true->cI P 240 [.agg t.enc] (.agg t.enc))->
  ∀a b:Ty,a.deepB n=true->b.deepB n=true->cI P 212 [.agg a.enc,.agg b.enc] (.agg (Ty.mk [a,b]).enc):=by
  intro n hc a b ha hb
  refine(L.a Tryz.func212 y212) (by simp[y212]) ?_
  have hca:=hc a ha
  have hcb:=hc b hb
  rw[Ty.enc_eq]at hca
  rw[Ty.enc_eq]at hcb
  rw[Ty.enc_eq a,Ty.enc_eq b]
  simp only[y212,go_sem,rE,rA,rL]
  intro b2 hb2 b3 hb3 b4 hb4
  have d23:=al (ai _ _ _) hb3
  have d34:=al (ai _ _ _) hb4
  have d24:=al ((ae _ _ d23).trans (ai _ _ _)) hb4
  simp only[go_sem,rE,rA,rL,d23,d24,d34]
  refine am hca rfl ?_
  simp only[go_sem,rE,rA,rL,d23,d24,d34]
  refine⟨fun f hf _=>by simp only[bQ]at hf;subst hf;simp[ae _ _ d34],?_⟩
  refine am hcb rfl ?_
  simp only[go_sem,rE,rA,rL,d23,d24,d34,ax,av,ay]
  intro b9 hb9
  have d49:=al (ai _ _ _) hb9
  simp only[go_sem,rE,rA,rL,d23,d24,d34,d49,bg]
  refine bP (off:=0) rfl (ai _ _ _) rfl (.agg ?_) (aj.sub_empty _) ⟨rfl,rfl⟩
  simp only[Ty.enc_eq,Ty.kids,Ty.encs]
  exact .self_sl (.tok _ _ _)
 induction n with
 |zero=>
  have h0:∀t:Ty,t.deepB 0=true->cI P 240 [.agg t.enc] (.agg t.enc):=fun t h=>by cases t;simp[Ty.deepB]at h
  exact⟨h0,pair 0 h0⟩
 |succ n ih=>
  have hc:∀t:Ty,t.deepB (n+1)=true->cI P 240 [.agg t.enc] (.agg t.enc):=by
   rintro⟨ks⟩ ht
   refine(L.a Tryz.func240 y240) (by simp[y240]) ?_
   simp only[Ty.deepB,aw,dh,decide_eq_true_eq,aS]at ht
   rw[Ty.enc_eq]
   simp only[y240,go_sem,rE,rA,rL,Ty.kids]
   intro b1 hb1 b2 hb2
   have d12:=al (ai _ _ _) hb2
   match ks,ht with
   |[],_=>
    simp only[go_sem,rE,rA,rL,d12,Ty.encs,beq_self_eq_true,dg]
    exact bP (off:=0) rfl (ai _ _ _) rfl (.agg (.self_sl (.nil _))) (aj.sub_empty _) ⟨rfl,rfl⟩
   |[.mk ka,.mk kb],ht=>
    have h2:(((2:Nat):Int)==0)=false:=rfl
    have hp:=ih.2 (.mk ka) (.mk kb) (ht.2 _ (by simp)) (ht.2 _ (by simp))
    simp only[Ty.enc_eq,Ty.kids,Ty.encs]at hp
    simp only[go_sem,rE,rA,rL,d12,h2,Ty.encs,Ty.enc_eq,Ty.kids,eA,Int.toNat_zero,a9,bW,dN,Int.reduceToNat,aB]
    refine am hp rfl ?_
    simp only[go_sem,rE,rA,rL,d12]
    exact bP (off:=0) rfl (ai _ _ _) rfl (.refl _) (aj.sub_empty _) ⟨rfl,rfl⟩
   |[_],ht=>simp at ht
   |_::_::_::_,ht=>simp at ht
  exact⟨hc,pair _ hc⟩
theorem at_drop{p:List Int}{k:Nat}(h:k<p.length)(ks:List Ty):(Ty.mk ks).at (p.drop k)=if 0<=p[k]then(ks[(p[k]).toNat]?).bind fun u=>Ty.at u (p.drop (k+1))else none:=by
 rw[bO h,Ty.at]
theorem AK(L:Lib P F)(n:Nat)(t:Ty)(p:List Int)(ht:t.deepB n=true)(hp:p.length<=2^40):cI P 252 [.agg t.enc,au p] (iG (t.at p)):=by
 refine(L.a Tryz.func252 y252) (by simp[y252]) ?_
 rw[Ty.enc_eq]
 simp only[y252,go_sem,rE,rA,rL,au,ao]
 intro b2 hb2 b4 hb4
 have d24:=al (ai _ _ _) hb4
 refine aV p.length (fun k E H=>∃u m,u.deepB m=true/\t.at p=u.at (p.drop k)/\H.get b2=some (.cells [.sl 1 none (Ty.encs u.kids)])/\(∃y,H.get b4=some (.cells [y]))/\
  E 10=.sl 1 none (p.map fun i=>[I i])/\E 2=.ptr b2 0/\E 4=.ptr b4 0/\E 11=I p.length/\E 12=I k)
  ⟨t,n,ht,rfl,(ae _ _ d24).trans (ai _ _ _),⟨_,ai _ _ _⟩,rfl,rfl,rfl,rfl,rfl⟩ ?_
 rintro k E H hk ⟨u,m,hu,hat,g2,⟨y,g4⟩,e10,e2,e4,e11,e12⟩
 simp only[go_sem,rE,rA,rL,e10,e11,e12]
 refine aH (fun hlt=>?_) (fun hge=>?_)
 ·have hk1:k<p.length:=by omega
  have w1:=aP (n:=(k:Int)+1) (by omega) (by omega)
  simp only[go_sem,rE,rA,rL,e10,e2,e12,iJ hk1,g2]
  have hparts:=c_parts L u
  rw[Ty.enc_eq]at hparts
  refine pF (ys:=[]) L.m_parts L.g_parts hparts rfl ?_
  obtain⟨ks⟩:=u
  cases m with
  |zero=>simp[Ty.deepB]at hu
  |succ m=>
  simp only[Ty.deepB,aw,dh,decide_eq_true_eq,aS]at hu
  rw[at_drop hk1]at hat
  simp only[go_sem,rE,rA,rL,Ty.kids]
  match ks,hu,hat with
  |[],_,hat=>
   have h2:(((0:Nat):Int) !=2)=true:=rfl
   have hn:t.at p=none:=by rw[hat];simp
   simp only[go_sem,rE,rA,rL,h2,e10,e2,e4,e12,g2,g4,bM,Ty.encs]
   intro b9 hb9
   have d49:=al g4 hb9
   simp only[go_sem,rE,rA,rL,e4,g4,d49]
   exact cd (off:=0) (e4) (ai _ _ _) rfl eX (aj.sub_empty _) ⟨by simp only[go_sem,rE,rA,rL,hn,iG],rfl⟩
  |[a,b],hu,hat=>
   have h2:(((2:Nat):Int) !=2)=false:=rfl
   by_cases hneg:p[k]<0
   ·have hn:t.at p=none:=by rw[hat,if_neg (by omega)]
    simp only[go_sem,rE,rA,rL,h2,e10,e2,e4,e12,g2,g4,hneg,Ty.encs,aR,bM]
    intro b9 hb9
    have d49:=al g4 hb9
    simp only[go_sem,rE,rA,rL,e4,g4,d49]
    exact cd (off:=0) (e4) (ai _ _ _) rfl eX (aj.sub_empty _) ⟨by simp only[go_sem,rE,rA,rL,hn,iG],rfl⟩
   by_cases hbig:p[k]>1
   ·have hn:t.at p=none:=by
     rw[hat,if_pos (by omega),fx (by simp only[aR,bM];omega)];rfl
    simp only[go_sem,rE,rA,rL,h2,e10,e2,e4,e12,g2,g4,hneg,hbig,Ty.encs,aR,bM]
    intro b9 hb9
    have d49:=al g4 hb9
    simp only[go_sem,rE,rA,rL,e4,g4,d49]
    exact cd (off:=0) (e4) (ai _ _ _) rfl eX (aj.sub_empty _) ⟨by simp only[go_sem,rE,rA,rL,hn,iG],rfl⟩
   have hcase:p[k]=0\/p[k]=1:=by omega
   obtain⟨u',hu',f1,f2⟩:∃u',u'.deepB m=true/\[a.enc,b.enc][(p[k]).toNat]?=some [.sl 1 none (Ty.encs u'.kids)]/\[a,b][(p[k]).toNat]?=some u':=by
    rcases hcase with h|h<;>rw[h]
    ·exact⟨a,hu.2 _ (by simp),by simp[Ty.enc_eq],rfl⟩
    ·exact⟨b,hu.2 _ (by simp),by simp[Ty.enc_eq],rfl⟩
   rw[if_pos (by omega),f2]at hat
   simp only[go_sem,rE,rA,rL,h2,e10,e2,e4,e12,g2,g4,hneg,hbig,Ty.encs,aR,bM,show(0:Int)<=p[k]by omega,f1,if_true,bW,w1]
   refine⟨hk1,_,aj.sub_refl _,u',m,hu',hat,ai _ _ _,⟨y,by rw[ae _ _ (Ne.symm d24)];exact g4⟩,e11,rfl⟩
  |[_],hu,_=>simp at hu
  |_::_::_::_,hu,_=>simp at hu
 ·have hkk:k=p.length:=by omega
  subst hkk
  rw[kl,Ty.at]at hat
  simp only[go_sem,rE,rA,rL,e2,e4,g2,g4,Ne.symm d24]
  refine cd (off:=0) (e4) (ai _ _ _) rfl (.refl _) (aj.sub_empty _) ⟨?_,rfl⟩
  simp only[go_sem,rE,rA,rL,hat,iG,Ty.enc_eq]
theorem xL:∀{n:Nat} {t u:Ty} {p:List Int},t.deepB n=true->t.at p=some u->∃m,m<=n/\u.deepB m=true:=by
 intro n t u p
 induction p generalizing n t with
 |nil=>intro h e;simp only[Ty.at,Option.some.injEq]at e;subst e;exact⟨n,aA _,h⟩
 |cons i p ih=>
  intro h e
  obtain⟨ks⟩:=t
  cases n with
  |zero=>simp[Ty.deepB]at h
  |succ n=>
   simp only[Ty.deepB,aw,aS]at h
   simp only[Ty.at]at e
   split at e
   ·simp only[Option.bind_eq_some_iff]at e
    obtain⟨v,hv,he⟩:=e
    obtain⟨m,hm,h2⟩:=ih (h.2 v (aY hv)) he
    exact⟨m,by omega,h2⟩
   ·simp at e
theorem zg(L:Lib P F)(t:Ty)(p:List Int)(hp:p.length<=2^40):cI P 235 [.agg t.enc,au p] (iG (t.atOk p)):=by
 refine(L.a Tryz.func235 y235) (by simp[y235]) ?_
 have hok:=mL L t
 rw[Ty.enc_eq]at hok⊢
 simp only[y235,go_sem,rE,rA,rL,au]
 intro b2 hb2 b4 hb4
 have d24:=al (ai _ _ _) hb4
 simp only[go_sem,rE,rA,rL,d24]
 refine am hok rfl ?_
 simp only[go_sem,rE,rA,rL,d24]
 cases hb:t.okB
 ·simp only[go_sem,rE,rA,rL,d24]
  exact cd (off:=0) rfl (ai _ _ _) rfl eX (aj.sub_empty _) ⟨by simp only[go_sem,rE,rA,rL,Ty.atOk,hb,iG],rfl⟩
 simp only[go_sem,rE,rA,rL,d24]
 have hpa:=AK L 4 t p hb hp
 rw[Ty.enc_eq]at hpa
 refine am hpa rfl ?_
 cases hat:t.at p with
 |none=>
  simp only[go_sem,rE,rA,rL,d24,iG,Ty.enc_eq,Ty.kids,Ty.encs,a9,aB]
  intro b6 hb6
  have d46:=al (ai _ _ _) hb6
  simp only[go_sem,rE,rA,rL,d24,d46]
  exact cd (off:=0) rfl (ai _ _ _) rfl eX (aj.sub_empty _) ⟨by simp only[go_sem,rE,rA,rL,Ty.atOk,hb,hat,iG,Ty.enc_eq,Ty.kids,Ty.encs],rfl⟩
 |some u=>
  obtain⟨m,-,hu⟩:=xL hb hat
  have hcp:=(qZ L m).1 u hu
  rw[Ty.enc_eq]at hcp
  simp only[go_sem,rE,rA,rL,d24,iG,Ty.enc_eq,a9,aB]
  intro b6 hb6
  have d46:=al (ai _ _ _) hb6
  refine am hcp rfl ?_
  simp only[go_sem,rE,rA,rL,d24,d46]
  exact cd (off:=0) rfl (ai _ _ _) rfl (.refl _) (aj.sub_empty _) ⟨by simp only[go_sem,rE,rA,rL,Ty.atOk,hb,hat,iG,Ty.enc_eq],rfl⟩
end
structure bK where
 o:Int->Obj
 t:Int->TypeId
 x:Int->AC
def bK.ac(er:bK)(c:Int):AC:=if c=0 then .lit .nilIface else .iface (er.t c) (er.x c)
theorem dw(er:bK):er.ac 0=.lit .nilIface:=rfl
def Ids.err(F:Ids)(c:Int):Nat:=if c=2 then 0 else if c=3 then 1 else if c=4 then 2 else 5
def iA(F:Ids)(er:bK)(H:aj):Prop:=∀c,(c=2\/c=3\/c=4\/c=5)->H.get (F.err c)=some (.const (er.o c) [.iface (er.t c) (er.x c)])
structure Sc where
 p:List Fu
 vars:List Vr
 given:List ByteArray
 held:List Pl
 lost:Bool
 deriving Inhabited
noncomputable def fz:List Vr->ByteArray->Bool:=fun vs=>vs.foldl (fun f x n=>if eqB n x.name then(if x.param then x.lent else x.lent&&x.loans.all fun q=>f q.name)else f n) fun _=>false
theorem jH(vs:List Vr)(x:Vr)(n:ByteArray):fz (vs++[x]) n=if eqB n x.name then(if x.param then x.lent else x.lent&&x.loans.all fun q=>fz vs q.name)else fz vs n:=by
 simp only[fz,List.foldl_append,d7,List.foldl_nil]
def Vr.ent(o:Bool)(x:Vr):AC:=.agg [.sl 1 none (Ty.encs x.type.kids),B x.param,B x.lent,B (!x.dead),B o,.sl 2 none (x.loans.map Pl.enc)]
noncomputable def di(vs:List Vr):ByteArray->Option AC:=fun n=>(vs.find? fun x=>eqB x.name n).map fun x=>x.ent (fz vs n)
noncomputable def cD(ns:List ByteArray):ByteArray->Option AC:=fun n=>if ns.any fun m=>eqB m n then some (I 1)else none
def ScO(p:List Fu)(ORD HELD:AC)(m1 m2:Nat)(lost:Bool):cz:=.cells [.sl 12 none (p.map Fu.enc),ORD,.mp m1,.mp m2,HELD,B lost,.lit .nilFunc]
structure cw(F:Ids)(er:bK)(H:aj)(s:Nat)(v:Sc)(ORD HELD:AC)(m1 m2:Nat):Prop where
 obj:H.get s=some (ScO v.p ORD HELD m1 m2 v.lost)
 names:H.get m1=some (.map (di v.vars))
 given:H.get m2=some (.map (cD v.given))
 ord:bR H 1 (aD (v.vars.map (·.name))) ORD
 held:bR H 2 (v.held.map Pl.enc) HELD
 apart:∀b,cJ ORD b->¬cJ HELD b
 ne:m1≠m2
 errs:iA F er H
 far:∀c,(c=2\/c=3\/c=4\/c=5)->s≠F.err c
 hnil:v.held=[]->HELD=NIL
 onil:v.vars=[]->ORD=NIL
def cV(F:Ids)(s:Nat)(ORD HELD:AC)(m1 m2:Nat)(b:Nat):Prop:=
 b=s\/b=m1\/b=m2\/cJ ORD b\/cJ HELD b\/∃c,(c=2\/c=3\/c=4\/c=5)/\b=F.err c
theorem bR.tok{H:aj}{sz:Nat}{es:List (List AC)}{x:AC}(h:bR H sz es x){b:Nat}(hb:cJ x b):∃n m,H.get b=some (.tail n m):=by
 obtain⟨sz',n,m,es',rfl⟩:=hb
 rcases h with⟨-,h⟩|⟨c,n',m',h,hc⟩
 ·simp at h
 ·simp at h;obtain⟨-,⟨rfl,-⟩,-⟩:=h;exact⟨n',m',hc⟩
theorem bR.mono{H H':aj}{sz:Nat}{es:List (List AC)}{x:AC}(h:bR H sz es x)(hg:∀b,cJ x b->H'.get b=H.get b):bR H' sz es x:=by
 rcases h with⟨rfl,rfl⟩|⟨b,n,m,rfl,hb⟩
 ·exact .nil _ _
 ·exact .inr ⟨b,n,m,rfl,(hg b ⟨_,_,_,_,rfl⟩).trans hb⟩
section
variable {F:Ids}{er:bK}{H H':aj}{s:Nat}{v:Sc}{ORD HELD:AC}{m1 m2:Nat}
theorem cw.mem(h:cw F er H s v ORD HELD m1 m2){b:Nat}(hb:cV F s ORD HELD m1 m2 b):H.get b≠none:=by
 rcases hb with rfl|rfl|rfl|hb|hb|⟨c,hc,rfl⟩
 ·rw[h.obj];simp[ScO]
 ·rw[h.names];simp
 ·rw[h.given];simp
 ·obtain⟨n,m,e⟩:=h.ord.tok hb;rw[e];simp
 ·obtain⟨n,m,e⟩:=h.held.tok hb;rw[e];simp
 ·rw[h.errs c hc];simp
theorem cw.mono(h:cw F er H s v ORD HELD m1 m2)(hg:∀b,cV F s ORD HELD m1 m2 b->H'.get b=H.get b):cw F er H' s v ORD HELD m1 m2 where
 obj:=(hg _ (.inl rfl)).trans h.obj
 names:=(hg _ (.inr (.inl rfl))).trans h.names
 given:=(hg _ (.inr (.inr (.inl rfl)))).trans h.given
 ord:=h.ord.mono fun b hb=>hg b (.inr (.inr (.inr (.inl hb))))
 held:=h.held.mono fun b hb=>hg b (.inr (.inr (.inr (.inr (.inl hb)))))
 apart:=h.apart
 ne:=h.ne
 errs:=fun c hc=>(hg _ (.inr (.inr (.inr (.inr (.inr ⟨c,hc,rfl⟩)))))).trans (h.errs c hc)
 far:=h.far
 hnil:=h.hnil
 onil:=h.onil
theorem cw.only(h:cw F er H s v ORD HELD m1 m2):cw F er (H.only (cV F s ORD HELD m1 m2)) s v ORD HELD m1 m2:=h.mono fun _ hb=>bf hb
end
theorem wy{F:Ids}{er:bK}{H:aj}(h:iA F er H){b:Nat}(hb:∀o cs,H.get b≠some (.const o cs)):∀c,(c=2\/c=3\/c=4\/c=5)->b≠F.err c:=
 fun c hc e=>hb _ _ (e▸h c hc)
theorem sc_live{F:Ids}{er:bK}{H:aj}{s:Nat}{v:Sc}{ORD HELD:AC}{m1 m2:Nat}(h:cw F er H s v ORD HELD m1 m2)(N:Nat)(v':Sc):
 ∃H' ORD' HELD',cw F er H' s v' ORD' HELD' m1 m2/\∀b,H'.get b≠none->H.get b≠none\/N<=b:=by
 obtain⟨n0,hn0⟩:=H.fin
 have s1:s≠m1:=by rintro rfl;have:=h.obj.symm.trans h.names;simp[ScO]at this
 have s2:s≠m2:=by rintro rfl;have:=h.obj.symm.trans h.given;simp[ScO]at this
 have far:∀b,n0<=b->b≠s/\b≠m1/\b≠m2/\∀c,(c=2\/c=3\/c=4\/c=5)->b≠F.err c:=fun b hb=>by
  have hb:=hn0 b hb
  refine⟨?_,?_,?_,fun c hc=>?_⟩<;>rintro rfl
  ·rw[h.obj]at hb;simp at hb
  ·rw[h.names]at hb;simp at hb
  ·rw[h.given]at hb;simp at hb
  ·rw[h.errs c hc]at hb;simp at hb
 obtain⟨a1,a2,a3,a4⟩:=far (n0+N) (by omega)
 obtain⟨c1,c2,c3,c4⟩:=far (n0+N+1) (by omega)
 generalize hb1:n0+N=b1 at*
 have d12:b1≠b1+1:=by omega
 refine⟨((((H.set b1 (.tail 0 0)).set (b1+1) (.tail 0 0)).set m1 (.map (di v'.vars))).set m2 (.map (cD v'.given))).set s (ScO v'.p (if v'.vars=[]then NIL else .sl 1 (some (b1,0,0)) (aD (v'.vars.map (·.name)))) (if v'.held=[]then NIL else .sl 2 (some (b1+1,0,0)) (v'.held.map Pl.enc)) m1 m2 v'.lost),
  _,_,⟨ai _ _ _,?_,?_,?_,?_,?_,h.ne,fun c hc=>?_,h.far,fun h=>by simp[h],fun h=>by simp[h]⟩,fun b hb=>?_⟩
 ·rw[ae _ _ (Ne.symm s1),ae _ _ h.ne,ai]
 ·rw[ae _ _ (Ne.symm s2),ai]
 ·by_cases h0:v'.vars=[]
  ·exact .inl ⟨by simp[h0,aD],if_pos h0⟩
  ·exact .inr ⟨b1,0,0,if_neg h0,by rw[ae _ _ a1,ae _ _ a3,ae _ _ a2,ae _ _ d12,ai]⟩
 ·by_cases h0:v'.held=[]
  ·exact .inl ⟨by simp[h0],if_pos h0⟩
  ·exact .inr ⟨b1+1,0,0,if_neg h0,by rw[ae _ _ c1,ae _ _ c3,ae _ _ c2,ai]⟩
 ·rintro b ⟨_,_,_,_,e⟩ ⟨_,_,_,_,e'⟩
  split at e
  ·simp at e
  ·split at e'
   ·simp at e'
   ·simp at e e';omega
 ·have e1:F.err c≠m1:=fun e=>wy h.errs (b:=m1) (by rw[h.names];simp) c hc e.symm
  have e2:F.err c≠m2:=fun e=>wy h.errs (b:=m2) (by rw[h.given];simp) c hc e.symm
  rw[ae _ _ (Ne.symm (h.far c hc)),ae _ _ e2,ae _ _ e1,ae _ _ (Ne.symm (c4 c hc)),ae _ _ (Ne.symm (a4 c hc))]
  exact h.errs c hc
 ·by_cases h1:b=s
  ·subst h1;exact .inl (by rw[h.obj];simp)
  rw[ae _ _ h1]at hb
  by_cases h2:b=m2
  ·subst h2;exact .inl (by rw[h.given];simp)
  rw[ae _ _ h2]at hb
  by_cases h3:b=m1
  ·subst h3;exact .inl (by rw[h.names];simp)
  rw[ae _ _ h3]at hb
  by_cases h4:b=b1+1
  ·exact .inr (by omega)
  rw[ae _ _ h4]at hb
  by_cases h5:b=b1
  ·exact .inr (by omega)
  rw[ae _ _ h5]at hb
  exact .inl hb
def ScC(P:Program)(F:Ids)(er:bK)(g:FuncId)(zas:List AC)(s:Nat)(v:Sc)(R:AC->Sc->Prop):Prop:=
 ∀(H:aj) (ORD HELD:AC) (m1 m2:Nat),cw F er H s v ORD HELD m1 m2->ACalls P g zas H fun q H'=>∃v' ORD' HELD',R q v'/\cw F er H' s v' ORD' HELD' m1 m2
theorem ScC.mono{P:Program}{F:Ids}{er:bK}{g:FuncId}{zas:List AC}{s:Nat}{v:Sc}{R R':AC->Sc->Prop}(h:ScC P F er g zas s v R)(hr:∀q v',R q v'->R' q v'):ScC P F er g zas s v R':=
 fun H ORD HELD m1 m2 hE=>(h H ORD HELD m1 m2 hE).mono fun q H' ⟨v',VS',NS',h1,h2⟩=>⟨v',VS',NS',hr _ _ h1,h2⟩
section
variable {P:Program}{dr:Bool}{K:Env->aj->Prop}{xs:List aJ}{E:Env}{H:aj}{l:Lds}{f:Fps}
theorem cX{F:Ids}{er:bK}{i:Nat}{g:FuncId}{args:List aG}{d:Option Nat}{inc:List Nat}{zas as':List AC}{s:Nat}{v:Sc}{ORD HELD:AC}{m1 m2:Nat}{R:AC->Sc->Prop}
(hc:ScC P F er g zas s v R)(hE:cw F er H s v ORD HELD m1 m2)
(ha:args.map (aG.ev E)=as')(hl:LeA as' zas)(hlive:dr=true->∃q v',R q v')(hchk:dQ inc l (cV F s ORD HELD m1 m2))
(h:∀q v' ORD' HELD' H1 fp,R q v'->cw F er H1 s v' ORD' HELD' m1 m2->(∀b o,H.get b=some o->¬cV F s ORD HELD m1 m2 b->H1.get b=some o/\¬cV F s ORD' HELD' m1 m2 b)->
  (∀c,fp c->cV F s ORD HELD m1 m2 c\/H.get c=none)->bp P dr K xs (E.put d q) H1 l ((i,fp)::f)):
 bp P dr K (⟨i,d,none,.eff (.call g args),inc⟩::xs) E H l f:=by
 have hge:∀b,(H.only (cV F s ORD HELD m1 m2)).get b≠none↔cV F s ORD HELD m1 m2 b:=by
  intro b
  by_cases hb:cV F s ORD HELD m1 m2 b
  ·simp only[bf hb,hb,iff_true];exact hE.mem hb
  ·simp[bS hb,hb]
 refine gu (cV F s ORD HELD m1 m2) (hc (H.only (cV F s ORD HELD m1 m2)) ORD HELD m1 m2 hE.only) ha hl (fun hd N=>?_) ?_ ?_
 ·obtain⟨q,v',hq⟩:=hlive hd
  obtain⟨H',VS',NS',hE',hfar⟩:=sc_live hE.only N v'
  refine⟨q,H',⟨v',VS',NS',hq,hE'⟩,fun b hb hn=>?_⟩
  rcases hfar b hb with h|h
  ·exact absurd hn h
  ·exact h
 ·have:(fun b=>(H.only (cV F s ORD HELD m1 m2)).get b≠none)=cV F s ORD HELD m1 m2:=by funext b;exact propext (hge b)
  rw[this];exact hchk
 ·rintro q H' H1 ⟨v',VS',NS',hq,hE'⟩ hsub hafter hnew -
  refine h q v' VS' NS' H1 _ hq (hE'.mono fun d hd=>?_) (fun b o hb hn=>⟨by rw[hafter.out b hn (by rw[hb];simp)];exact hb,fun h=>?_⟩) (fun c hc=>?_)
  ·obtain⟨o,ho⟩:=aI.1 (hE'.mem hd)
   rw[ho];exact hsub _ _ ho
  ·rcases hnew b (hE'.mem h)with h|h
   ·exact hn h
   ·rw[hb]at h;simp at h
  ·rcases hc with hc|hc
   ·exact .inl ((hge c).1 hc)
   ·exact .inr hc
end
noncomputable def ir(vs:List Vr)(n:ByteArray):List Vr:=vs.map fun x=>if eqB x.name n then {x with dead:=true}else x
theorem um(vs:List Vr)(n:ByteArray):fz (ir vs n)=fz vs:=by
 unfold fz ir
 rw[List.foldl_map]
 congr 1
 funext f x
 split<;>rfl
theorem nG(vs:List Vr)(n:ByteArray):(ir vs n).map (·.name)=vs.map (·.name):=by
 unfold ir
 rw[List.map_map]
 apply eJ
 intro x _
 simp only[Function.comp]
 split<;>rfl
theorem uO(vs:List Vr)(n k:ByteArray):(ir vs n).find? (fun x=>eqB x.name k)=(vs.find? fun x=>eqB x.name k).map fun x=>if eqB x.name n then {x with dead:=true}else x:=by
 unfold ir
 rw[List.find?_map]
 congr 1
 congr 1
 funext x
 simp only[Function.comp]
 split<;>rfl
theorem wg{vs:List Vr}{n:ByteArray}{x:Vr}(h:vs.find? (fun x=>eqB x.name n)=some x):di (ir vs n)=lJ (di vs) n (Vr.ent (fz vs n) {x with dead:=true}):=by
 funext k
 by_cases hk:k=n
 ·subst hk
  have hx:eqB x.name k=true:=by simpa using List.find?_some h
  rw[iB]
  simp only[di,uO,h,bW,hx,if_true,um]
 ·rw[kn _ _ hk]
  simp only[di,uO,um,Option.map_map]
  cases hf:vs.find? fun x=>eqB x.name k with
  |none=>rfl
  |some y=>
   have hy:y.name=k:=cN.1 (by simpa using List.find?_some hf)
   have:eqB y.name n=false:=cC.2 (by rw[hy];exact hk)
   simp[this]
section
variable {P:Program}{F:Ids}{er:bK}
theorem AZ(L:Lib P F)(s:Nat)(v:Sc)(n:ByteArray)(x:Vr)(hx:v.vars.find? (fun x=>eqB x.name n)=some x):
 ScC P F er 211 [.ptr s 0,S n] s v fun q v'=>q=.tup []/\v'={v with vars:=ir v.vars n}:=by
 intro H ORD HELD m1 m2 hE
 refine(L.a Tryz.func211 y211) (by simp[y211]) ?_
 have hE0:=hE
 obtain⟨ho,h1,h2,h4,h5,h6,h7,h8,h9⟩:=hE
 simp only[ScO]at ho
 have hnm:di v.vars n=some (x.ent (fz v.vars n)):=by simp[di,hx]
 simp only[y211,go_sem,rE,rA,rL,ho]
 refine fT (k:=n) rfl h1 trivial ?_
 simp only[hnm,iC,aq,if_false,Vr.ent]
 simp only[go_sem,rE,rA,rL]
 intro b hb
 have dsb:=al ho hb
 have d1:=al h1 hb
 have d2:=al h2 hb
 simp only[go_sem,rE,rA,rL,dsb,ho]
 refine jP (k:=n) (v':=Vr.ent (fz v.vars n) {x with dead:=true}) (g:=di v.vars) rfl (.refl _) (by rw[ae _ _ d1];exact h1) trivial ?_
 rw[<-wg hx]
 have s1:s≠m1:=by rintro rfl;rw[h1]at ho;simp at ho
 simp only[go_sem,rE,rA,rL]
 refine cY (aj.sub_refl _) ⟨_,ORD,HELD,⟨rfl,rfl⟩,?_,ai _ _ _,?_,?_,?_,h6,h7,fun c hc=>?_,h9,hE0.hnil,fun h=>hE0.onil (by simpa[ir]using h)⟩
 ·rw[ae _ _ s1,ae _ _ dsb];exact ho
 ·rw[ae _ _ (Ne.symm h7),ae _ _ d2];exact h2
 ·rw[nG]
  exact(h4.new hb _).mono fun c hc=>ae _ _ (by
   rintro rfl
   obtain⟨_,_,e⟩:=h4.tok hc;rw[h1]at e;simp at e)
 ·exact(h5.new hb _).mono fun c hc=>ae _ _ (by
   rintro rfl
   obtain⟨_,_,e⟩:=h5.tok hc;rw[h1]at e;simp at e)
 ·have e:=h8 c hc
  rw[ae _ _ (by rintro rfl;rw[h1]at e;simp at e),ae _ _ (al e hb)];exact e
end
def Vr.raw(x:Vr):AC:=.agg [.sl 1 none (Ty.encs x.type.kids),B x.param,B x.lent,B false,B (x.param&&x.lent),.sl 2 none (x.loans.map Pl.enc)]
theorem yA{vs:List Vr}{n:ByteArray}(h:vs.find? (fun x=>eqB x.name n)=none):fz vs n=false:=by
 have:∀(vs:List Vr) (g:ByteArray->Bool),(∀x∈vs,eqB n x.name=false)->vs.foldl (fun f x n=>if eqB n x.name then(if x.param then x.lent else x.lent&&x.loans.all fun q=>f q.name)else f n) g n=g n:=by
  intro vs
  induction vs with
  |nil=>intro g _;rfl
  |cons x vs ih=>
   intro g hx
   rw[d7,ih _ fun y hy=>hx y (ew _ hy)]
   simp[hx x fA]
 refine this vs _ fun x hx=>?_
 have:=List.find?_eq_none.1 h x hx
 exact cC.2 (Ne.symm (cC.1 (by simpa using this)))
theorem u9(vs:List Vr)(n:ByteArray):∃a b c d f,iC (.agg [.lit (.slice none 0 0),.lit (.bool false),.lit (.bool false),.lit (.bool false),.lit (.bool false),.lit (.slice none 0 0)]) false (di vs n)=.agg [a,b,c,d,B (fz vs n),f]:=by
 cases h:vs.find? (fun x=>eqB x.name n)with
 |none=>rw[yA h];simp[di,h,iC]
 |some x=>simp[di,h,iC,Vr.ent]
theorem uM(ns:List ByteArray)(n:ByteArray):cD (ns++[n])=lJ (cD ns) n (I 1):=by
 funext k
 by_cases hk:k=n
 ·subst hk;rw[iB];simp[cD,dT]
 ·rw[kn _ _ hk]
  have:eqB n k=false:=cC.2 (Ne.symm hk)
  simp[cD,this]
theorem uu{vs:List Vr}{x:Vr}(h:vs.find? (fun y=>eqB y.name x.name)=none):di (vs++[x])=lJ (di vs) x.name (x.ent (fz (vs++[x]) x.name)):=by
 funext k
 by_cases hk:k=x.name
 ·subst hk
  rw[iB]
  simp[di,List.find?_append,h,dT]
 ·rw[kn _ _ hk]
  have h1:eqB x.name k=false:=cC.2 (Ne.symm hk)
  have h2:eqB k x.name=false:=cC.2 hk
  simp only[di,List.find?_append,List.find?_cons,h1,List.find?_nil,Option.or_none,jH,h2,if_false,aq]
section
variable {P:Program}{F:Ids}{er:bK}
theorem kg1_wp{s:Nat}{v:Sc}{ORD HELD:AC}{m1 m2 b5:Nat}{x:Vr}{E:Env}{H2:aj}{R:AC->aj->Prop}(hE:cw F er H2 s v ORD HELD m1 m2)(e0:E 0=.ptr s 0)(e1:E 1=S x.name)(e5:E 5=.ptr b5 0)
(hb:∃cs,H2.get b5=some (.cells cs)/\.agg cs=x.ent (fz (v.vars++[x]) x.name))(hnb:¬cV F s ORD HELD m1 m2 b5)(hl:v.vars.length<=2^30)
(hf:v.vars.find? (fun y=>eqB y.name x.name)=none)
(hR:∀H' ORD',cw F er H' s {v with vars:=v.vars++[x]} ORD' HELD m1 m2->R (.lit .nilIface) H'):(kg1).wp P (bh.post [.slot 6] R) E H2:=by
 obtain⟨cs,hb,hcs⟩:=hb
 simp only[Vr.ent,AC.agg.injEq]at hcs
 subst hcs
 have hE0:=hE
 obtain⟨ho,h1,h2,h4,h5,h6,h7,h8,h9⟩:=hE
 simp only[ScO]at ho
 simp only[kg1,fg1,go_sem,rE,rA,rL,e0,e1,ho,ax,av,ay]
 refine fG (es:=aD (v.vars.map (·.name))) (ys:=[[S x.name]]) (by simp only[go_sem,rE,rA,rL];exact h4) (by simp[go_sem,bg]) (by simp) (by simp[aD];omega) ?_
 intro x' H3 fp hx' hfp hkeep hnew
 have ntok:∀c,(∀n m,H2.get c≠some (.tail n m))->¬cJ ORD c:=fun c hc ht=>by obtain⟨n,m,e⟩:=h4.tok ht;exact hc n m e
 have keep:∀c o,H2.get c=some o->(∀n m,o≠.tail n m)->H3.get c=some o:=fun c o hc hn=>by
  rw[hkeep c (by rw[hc];simp) (ntok c fun n m e=>hn n m (by rw[hc]at e;simpa using e))];exact hc
 have ko:=keep s _ ho (by simp)
 have kb:=keep b5 _ hb (by simp)
 have k1:=keep m1 _ h1 (by simp)
 have k2:=keep m2 _ h2 (by simp)
 have dsb:b5≠s:=fun e=>hnb (.inl e)
 have s1:s≠m1:=by rintro rfl;rw[h1]at ho;simp at ho
 have s2:s≠m2:=by rintro rfl;rw[h2]at ho;simp at ho
 simp only[go_sem,rE,rA,rL,e0,e1,e5,ko,kb,hx'.one,dsb]
 refine jP (k:=x.name) (v':=x.ent (fz (v.vars++[x]) x.name)) (g:=di v.vars) rfl (.refl _) ?_ trivial ?_
 ·rw[ae _ _ (Ne.symm s1)];exact k1
 rw[<-uu hf]
 simp only[go_sem,rE,rA,rL]
 refine ak (.refl _) (aj.sub_refl _) (hR _ x' ⟨?_,ai _ _ _,?_,?_,?_,fun b hb1 hb2=>?_,h7,fun c hc=>?_,h9,hE0.hnil,fun h=>by simp at h⟩)
 ·rw[ae _ _ s1,ai];rfl
 ·rw[ae _ _ (Ne.symm h7),ae _ _ (Ne.symm s2)];exact k2
 ·have:aD ((v.vars++[x]).map (·.name))=aD (v.vars.map (·.name))++[[S x.name]]:=by simp[aD]
  rw[this]
  refine hx'.mono fun b hb=>?_
  obtain⟨n,m,e⟩:=hx'.tok hb
  rw[ae _ _ (by rintro rfl;rw[k1]at e;simp at e),ae _ _ (by rintro rfl;rw[ko]at e;simp at e)]
 ·refine h5.mono fun b hb=>?_
  obtain⟨n,m,e⟩:=h5.tok hb
  rw[ae _ _ (by rintro rfl;rw[h1]at e;simp at e),ae _ _ (by rintro rfl;rw[ho]at e;simp at e)]
  exact hkeep b (by rw[e];simp) fun h=>h6 b h hb
 ·obtain⟨n,m,e⟩:=h5.tok hb2
  rcases hnew b hb1 with h|h
  ·exact h6 b h hb2
  ·rw[h]at e;simp at e
 ·have e:=h8 c hc
  rw[ae _ _ (by rintro rfl;rw[h1]at e;simp at e),ae _ _ (Ne.symm (h9 c hc))]
  exact keep _ _ e (by simp)
theorem c_kgive(L:Lib P F)(s:Nat)(v:Sc)(x:Vr)(hd:x.dead=false)(hl:x.loans.length<=2^30)(hn:v.vars.length<=2^30)(hf:(v.given.any fun m=>eqB m x.name)=false->v.vars.find? (fun y=>eqB y.name x.name)=none):
 ScC P F er 168 [.ptr s 0,S x.name,x.raw] s v fun q v'=>if v.given.any fun m=>eqB m x.name then q=er.ac 2/\v'=v else q=er.ac 0/\v'={v with vars:=v.vars++[x],given:=v.given++[x.name]}:=by
 intro H ORD HELD m1 m2 hE
 refine(L.a Tryz.func168 y168) (by simp[y168,f168]) ?_
 have hE0:=hE
 obtain⟨ho,h1,h2,h4,h5,h6,h7,h8,h9⟩:=hE
 simp only[ScO]at ho
 simp only[y168,f168,go_sem,rE,rA,rL,Vr.raw]
 intro b5 hb5
 have ds5:=al ho hb5
 have d15:=al h1 hb5
 have d25:=al h2 hb5
 simp only[go_sem,rE,rA,rL,ds5,ho]
 refine fT (k:=x.name) (r:=m2) rfl (by rw[ae _ _ d25];exact h2) trivial ?_
 have ge:H.get 0=some (.const (er.o 2) [.iface (er.t 2) (er.x 2)]):=by simpa[Ids.err]using h8 2 (.inl rfl)
 have de5:=al ge hb5
 cases hg:v.given.any fun m=>eqB m x.name
 ·have hv:cD v.given x.name=none:=by simp only[cD,hg];rfl
  have hf:=hf hg
  have gz:decide ((0:Int)>0)=false:=rfl
  simp only[hv,iC,aq,if_false]
  simp only[go_sem,rE,rA,rL,ds5,ho,gz]
  refine jP (k:=x.name) (v':=I 1) (g:=cD v.given) rfl (.refl _) (by rw[ae _ _ d25];exact h2) trivial ?_
  rw[<-uM]
  have hnb:¬cV F s ORD HELD m1 m2 b5:=fun h=>hE0.mem h hb5
  have hE1:∀H2:aj,(∀c,H.get c≠none->H2.get c=(H.set m2 (.map (cD (v.given++[x.name])))).get c)->cw F er H2 s {v with given:=v.given++[x.name]} ORD HELD m1 m2:=by
   intro H2 hH
   have:cw F er (H.set m2 (.map (cD (v.given++[x.name])))) s {v with given:=v.given++[x.name]} ORD HELD m1 m2:=by
    have n2:∀c o,H.get c=some o->(∀g,o≠.map g)->(H.set m2 (.map (cD (v.given++[x.name])))).get c=some o:=fun c o hc hn=>by
     rw[ae _ _ (by rintro rfl;rw[h2]at hc;simp at hc;exact hn _ hc.symm)];exact hc
    refine⟨n2 _ _ ho (by simp[ScO]),?_,ai _ _ _,h4.mono fun b hb=>?_,h5.mono fun b hb=>?_,h6,h7,fun c hc=>n2 _ _ (h8 c hc) (by simp),h9,hE0.hnil,hE0.onil⟩
    ·rw[ae _ _ h7];exact h1
    ·obtain⟨n,m,e⟩:=h4.tok hb;rw[n2 _ _ e (by simp),e]
    ·obtain⟨n,m,e⟩:=h5.tok hb;rw[n2 _ _ e (by simp),e]
   exact this.mono fun b hb=>hH b (hE0.mem hb)
  have fin:∀(E':Env) (H2:aj) (cs:List AC),E' 0=.ptr s 0->E' 1=S x.name->E' 5=.ptr b5 0->H2.get b5=some (.cells cs)->.agg cs=x.ent (fz (v.vars++[x]) x.name)->
   (∀c,H.get c≠none->H2.get c=(H.set m2 (.map (cD (v.given++[x.name])))).get c)->(kg1).wp P (bh.post [.slot 6] fun q H'=>∃v' ORD' HELD',
    (q=er.ac 0/\v'={v with vars:=v.vars++[x],given:=v.given++[x.name]})/\cw F er H' s v' ORD' HELD' m1 m2) E' H2:=by
   intro E' H2 cs q0 q1 q5 hb hcs hH
   exact kg1_wp (hE1 H2 hH) q0 q1 q5 ⟨cs,hb,hcs⟩ hnb hn hf fun H' ORD' hS=>⟨_,ORD',HELD,⟨rfl,rfl⟩,hS⟩
  have k5:((H.set b5 (.cells [.sl 1 none (Ty.encs x.type.kids),B x.param,B x.lent,B false,B (x.param&&x.lent),.sl 2 none (x.loans.map Pl.enc)])).set m2 (.map (cD (v.given++[x.name])))).get b5=
   some (.cells [.sl 1 none (Ty.encs x.type.kids),B x.param,B x.lent,B false,B (x.param&&x.lent),.sl 2 none (x.loans.map Pl.enc)]):=by rw[ae _ _ (Ne.symm d25),ai]
  have kH:∀c,H.get c≠none->((H.set b5 (.cells [.sl 1 none (Ty.encs x.type.kids),B x.param,B x.lent,B false,B (x.param&&x.lent),.sl 2 none (x.loans.map Pl.enc)])).set m2 (.map (cD (v.given++[x.name])))).get c=
   (H.set m2 (.map (cD (v.given++[x.name])))).get c:=fun c hc=>by
   by_cases hcm:c=m2
   ·subst hcm;rw[ai,ai]
   ·rw[ae _ _ hcm,ae _ _ hcm,ae _ _ (by rintro rfl;exact hc hb5)]
  generalize(H.set b5 (.cells [.sl 1 none (Ty.encs x.type.kids),B x.param,B x.lent,B false,B (x.param&&x.lent),.sl 2 none (x.loans.map Pl.enc)])).set m2 (.map (cD (v.given++[x.name])))=H1 at*
  have kS:∀cs' c,H.get c≠none->(H1.set b5 (.cells cs')).get c=(H.set m2 (.map (cD (v.given++[x.name])))).get c:=fun cs' c hc=>by
   rw[ae _ _ (by rintro rfl;exact hc hb5)];exact kH c hc
  cases hp:x.param
  ·cases hq:x.lent
   ·simp only[go_sem,rE,rA,rL,k5,hp,hq,aM,aL,fD]
    exact fin _ _ _ rfl rfl rfl (ai _ _ _) (by simp[Vr.ent,hd,jH,dT,hp,hq]) (kS _)
   ·simp only[go_sem,rE,rA,rL,k5,hp,hq,aM,aL,fD]
    have g1:∀H':aj,(∀c,H.get c≠none->H'.get c=(H.set m2 (.map (cD (v.given++[x.name])))).get c)->H'.get m1=some (.map (di v.vars))/\H'.get s=some (.cells [.sl 12 none (v.p.map Fu.enc),ORD,.mp m1,.mp m2,HELD,B v.lost,.lit .nilFunc]):=fun H' h=>by
     refine⟨?_,?_⟩
     ·rw[h m1 (by rw[h1];simp),ae _ _ h7];exact h1
     ·rw[h s (by rw[ho];simp),ae _ _ (by rintro rfl;rw[h2]at ho;simp at ho)];exact ho
    refine aV x.loans.length (fun k E' H'=>E' 0=.ptr s 0/\E' 1=S x.name/\E' 5=.ptr b5 0/\E' 32=.sl 2 none (x.loans.map Pl.enc)/\E' 33=I x.loans.length/\E' 34=I k/\
     H'.get b5=some (.cells [.sl 1 none (Ty.encs x.type.kids),B false,B true,B true,B ((x.loans.take k).all fun q=>fz v.vars q.name),.sl 2 none (x.loans.map Pl.enc)])/\
     ∀c,H.get c≠none->H'.get c=(H.set m2 (.map (cD (v.given++[x.name])))).get c) ⟨rfl,rfl,rfl,rfl,(by simp only[go_sem,rE,rA,rL,ao]),rfl,ai _ _ _,kS _⟩ ?_
    rintro k E' H' hk ⟨q0,q1,q5,q32,q33,q34,gb,kk⟩
    obtain⟨gm,gs⟩:=g1 H' kk
    simp only[go_sem,rE,rA,rL,q33,q34]
    refine aH (fun hlt=>?_) (fun hge=>?_)
    ·have hk1:k<x.loans.length:=by omega
     have w1:=aP (n:=(k:Int)+1) (by omega) (by omega)
     have hgk:(x.loans.map Pl.enc)[k]?=some [S x.loans[k].name,au x.loans[k].path]:=by simp[hk1,Pl.enc]
     simp only[go_sem,rE,rA,rL,q0,q1,q5,q32,q34,gb,hgk]
     intro b8 hb8
     have d58:=al gb hb8
     have ds8:=al gs hb8
     have dm8:=al gm hb8
     simp only[go_sem,rE,rA,rL,d58,q5,gb]
     have kk8:∀cs cs' c,H.get c≠none->(((H'.set b8 (.cells cs)).set b5 (.cells cs')).get c=(H.set m2 (.map (cD (v.given++[x.name])))).get c):=fun cs cs' c hc=>by
      rw[ae _ _ (by rintro rfl;exact hc hb5),ae _ _ ?_]
      ·exact kk c hc
      ·rintro rfl
       have:=kk _ hc
       rw[hb8]at this
       by_cases hcm:c=m2
       ·subst hcm;rw[ai]at this;simp at this
       ·rw[ae _ _ hcm]at this;exact hc this.symm
     have all1:((x.loans.take (k+1)).all fun q=>fz v.vars q.name)=(((x.loans.take k).all fun q=>fz v.vars q.name)&&fz v.vars x.loans[k].name):=by
      rw[aC hk1,eD];simp
     cases hal:(x.loans.take k).all fun q=>fz v.vars q.name
     ·simp only[go_sem,rE,rA,rL,d58,q5,gb,hal,w1,q34]
      exact⟨hk1,_,aj.sub_refl _,q0,q1,q32,q33,rfl,by rw[ai,all1,hal];rfl,fun c hc=>kk8 _ _ c hc⟩
     ·simp only[go_sem,rE,rA,rL,d58,q0,q5,gb,gs,ds8,hal]
      refine fT (k:=x.loans[k].name) (g:=di v.vars) rfl (by rw[ae _ _ dm8];exact gm) trivial ?_
      obtain⟨a,b,c,d,f,he⟩:=u9 v.vars x.loans[k].name
      rw[he]
      simp only[go_sem,rE,rA,rL,d58,q5,gb,w1,q34]
      exact⟨hk1,_,aj.sub_refl _,q0,q1,q32,q33,rfl,by rw[ai,all1,hal];rfl,fun c hc=>kk8 _ _ c hc⟩
    ·simp only[go_sem,rE,rA,rL]
     have hkk:k=x.loans.length:=by omega
     subst hkk
     rw[aW]at gb
     exact fin _ _ _ q0 q1 q5 gb (by simp[Vr.ent,hd,jH,dT,hp,hq]) kk
  ·simp only[go_sem,rE,rA,rL,k5,hp,bT]
   exact fin _ _ _ rfl rfl rfl (ai _ _ _) (by simp[Vr.ent,hd,jH,dT,hp]) (kS _)
 ·have hv:cD v.given x.name=some (I 1):=by simp only[cD,hg];rfl
  have gz:decide ((1:Int)>0)=true:=rfl
  simp only[hv,iC,aq,if_false]
  simp only[go_sem,rE,rA,rL,ds5,ho,gz,de5,ge]
  refine ak (.refl _) (H':=H) (fun b o hb=>?_) ⟨v,ORD,HELD,⟨?_,rfl⟩,hE0⟩
  ·rw[ae _ _ (al hb hb5)];exact hb
  ·simp only[go_sem,rE,rA,rL,bK.ac];rfl
end
noncomputable def eO(vs:List Vr)(p:Pl):Ty×Int:=match vs.find? (fun x=>eqB x.name p.name)with
 |none=>(.mk [],2)
 |some x=>if x.dead then(.mk [],4)else match x.type.atOk p.path with
  |none=>(.mk [],3)
  |some u=>(u,0)
def gR(er:bK)(r:Ty×Int):AC:=.tup [.agg r.1.enc,er.ac r.2]
section
variable {P:Program}{F:Ids}{er:bK}
theorem c_kpart(L:Lib P F)(s:Nat)(v:Sc)(p:Pl)(hp:p.path.length<=2^40):
 ScC P F er 207 [.ptr s 0,.agg p.enc] s v fun q v'=>q=gR er (eO v.vars p)/\v'=v:=by
 intro H ORD HELD m1 m2 hE
 refine(L.a Tryz.func207 y207) (by simp[y207]) ?_
 have hE0:=hE
 obtain⟨ho,h1,h2,h4,h5,h6,h7,h8,h9⟩:=hE
 simp only[ScO]at ho
 have ge2:H.get 0=some (.const (er.o 2) [.iface (er.t 2) (er.x 2)]):=by simpa[Ids.err]using h8 2 (.inl rfl)
 have ge3:H.get 1=some (.const (er.o 3) [.iface (er.t 3) (er.x 3)]):=by simpa[Ids.err]using h8 3 (.inr (.inl rfl))
 have ge4:H.get 2=some (.const (er.o 4) [.iface (er.t 4) (er.x 4)]):=by simpa[Ids.err]using h8 4 (.inr (.inr (.inl rfl)))
 have bad:∀(E':Env) (H':aj) (b4:Nat) (c:Int),H'.get b4=some (.cells [NIL])->E' 4=.ptr b4 0->E' 5=er.ac c->H.sub H'->eO v.vars p=(.mk [],c)->
  bh.post [.cell 4 (some 1),.slot 5] (fun q H'=>∃v' ORD' HELD',(q=gR er (eO v.vars p)/\v'=v)/\cw F er H' s v' ORD' HELD' m1 m2) .ret E' H':=by
  intro E' H' b4 c hb q4 q5 hs hc
  exact cd (off:=0) q4 hb rfl eX hs ⟨v,ORD,HELD,⟨by rw[hc,q5];rfl,rfl⟩,hE0⟩
 simp only[y207,go_sem,rE,rA,rL,Pl.enc]
 intro b3 hb3 b4 hb4
 have ds3:=al ho hb3
 have d13:=al h1 hb3
 have d34:=al (ai _ _ _) hb4
 have up3:∀c o,H.get c=some o->(H.set b3 (.cells [S p.name,au p.path])).get c=some o:=fun c o hc=>by rw[ae _ _ (al hc hb3)];exact hc
 have ds4:=al (up3 _ _ ho) hb4
 have d14:=al (up3 _ _ h1) hb4
 simp only[go_sem,rE,rA,rL,ds3,ds4,ho,d34]
 refine fT (k:=p.name) (g:=di v.vars) rfl (by rw[ae _ _ d14,ae _ _ d13];exact h1) trivial ?_
 have n2:=al (up3 _ _ ge2) hb4
 have n3:=al (up3 _ _ ge3) hb4
 have n4:=al (up3 _ _ ge4) hb4
 have g3:((H.set b3 (.cells [S p.name,au p.path])).set b4 (.cells [NIL])).get b3=some (.cells [S p.name,au p.path]):=by rw[ae _ _ d34,ai]
 have g4:((H.set b3 (.cells [S p.name,au p.path])).set b4 (.cells [NIL])).get b4=some (.cells [NIL]):=ai _ _ _
 have up:∀c o,H.get c=some o->((H.set b3 (.cells [S p.name,au p.path])).set b4 (.cells [NIL])).get c=some o:=fun c o hc=>by
  rw[ae _ _ (al (up3 _ _ hc) hb4)];exact up3 _ _ hc
 have f4:H.get b4=none:=by
  cases hq:H.get b4 with
  |none=>rfl
  |some o=>rw[up3 _ _ hq]at hb4;simp at hb4
 clear hb4 up3 d34 d14 d13 hb3
 generalize(H.set b3 (.cells [S p.name,au p.path])).set b4 (.cells [NIL])=H4 at*
 have up6:∀b6 cs,H4.get b6=none->∀c o,H.get c=some o->(H4.set b6 (.cells cs)).get c=some o:=fun b6 cs h6 c o hc=>by
  rw[ae _ _ (al (up _ _ hc) h6)];exact up _ _ hc
 have up46:∀b6 cs cs',H4.get b6=none->H.sub ((H4.set b6 (.cells cs)).set b4 (.cells cs')):=fun b6 cs cs' h6 c o hc=>by
  rw[aK]
  split
  ·rename_i e;subst e
   rw[f4]at hc;simp at hc
  ·exact up6 b6 cs h6 c o hc
 cases hf:v.vars.find? (fun x=>eqB x.name p.name)with
 |none=>
  have hc:eO v.vars p=(.mk [],2):=by simp[eO,hf]
  have hn:di v.vars p.name=none:=by simp[di,hf]
  simp only[hn,iC,aq,if_false,if_true]
  simp only[go_sem,rE,rA,rL,ds3,ds4,ho,a9,aB]
  intro b6 hb6
  have d46:=al g4 hb6
  simp only[go_sem,rE,rA,rL,up6 _ _ hb6 _ _ ge2,d46,g4]
  exact⟨fun l hl _=>by simp only[bQ]at hl;subst hl;exact n2,bad _ _ b4 2 (ai _ _ _) rfl rfl (up46 _ _ _ hb6) hc⟩
 |some x=>
  have hn:di v.vars p.name=some (x.ent (fz v.vars p.name)):=by simp[di,hf]
  simp only[hn,iC,aq,if_false,if_true,Vr.ent]
  simp only[go_sem,rE,rA,rL,ds3,ds4,ho,a9,aB]
  intro b6 hb6
  have d46:=al g4 hb6
  have d36:=al g3 hb6
  cases hdd:x.dead
  ·simp only[go_sem,rE,rA,rL,d46,d36,g3,g4]
   have hta:=zg L x.type p.path hp
   rw[Ty.enc_eq]at hta
   refine am hta rfl ?_
   cases hat:x.type.atOk p.path with
   |none=>
    have hc:eO v.vars p=(.mk [],3):=by simp[eO,hf,hdd,hat]
    simp only[go_sem,rE,rA,rL,d46,d36,g3,g4,iG,Ty.enc_eq,a9,aB]
    intro b8 hb8
    have g46:=fun cs=>(ae H4 (.cells cs) d46).trans g4
    have d48:=al (g46 _) hb8
    have up8:∀c o,H.get c=some o->∀cs,((H4.set b6 (.cells [.sl 1 none (Ty.encs x.type.kids),B x.param,B x.lent,B true,B (fz v.vars p.name),.sl 2 none (x.loans.map Pl.enc)])).set b8 (.cells cs)).get c=some o:=fun c o hc cs=>by
     rw[ae _ _ (al (up6 _ _ hb6 _ _ hc) hb8)];exact up6 _ _ hb6 _ _ hc
    have up48:∀cs cs',H.sub (((H4.set b6 (.cells [.sl 1 none (Ty.encs x.type.kids),B x.param,B x.lent,B true,B (fz v.vars p.name),.sl 2 none (x.loans.map Pl.enc)])).set b8 (.cells cs)).set b4 (.cells cs')):=fun cs cs' c o hc=>by
     rw[aK]
     split
     ·rename_i e;subst e
      rw[f4]at hc;simp at hc
     ·exact up8 c o hc cs
    simp only[go_sem,rE,rA,rL,up8 _ _ ge3,d46,d48,g4]
    exact⟨fun l hl _=>by simp only[bQ]at hl;subst hl;exact n3,bad _ _ b4 3 (ai _ _ _) rfl rfl (up48 _ _) hc⟩
   |some u=>
    have hc:eO v.vars p=(u,0):=by simp[eO,hf,hdd,hat]
    simp only[go_sem,rE,rA,rL,d46,d36,g3,g4,iG,Ty.enc_eq,a9,aB]
    intro b8 hb8
    have g46:=fun cs=>(ae H4 (.cells cs) d46).trans g4
    have d48:=al (g46 _) hb8
    have up8:∀c o,H.get c=some o->∀cs,((H4.set b6 (.cells [.sl 1 none (Ty.encs x.type.kids),B x.param,B x.lent,B true,B (fz v.vars p.name),.sl 2 none (x.loans.map Pl.enc)])).set b8 (.cells cs)).get c=some o:=fun c o hc cs=>by
     rw[ae _ _ (al (up6 _ _ hb6 _ _ hc) hb8)];exact up6 _ _ hb6 _ _ hc
    have up48:∀cs cs',H.sub (((H4.set b6 (.cells [.sl 1 none (Ty.encs x.type.kids),B x.param,B x.lent,B true,B (fz v.vars p.name),.sl 2 none (x.loans.map Pl.enc)])).set b8 (.cells cs)).set b4 (.cells cs')):=fun cs cs' c o hc=>by
     rw[aK]
     split
     ·rename_i e;subst e
      rw[f4]at hc;simp at hc
     ·exact up8 c o hc cs
    simp only[go_sem,rE,rA,rL,d46,d48,g4]
    refine cd (off:=0) rfl (ai _ _ _) rfl (.refl _) (up48 _ _) ⟨v,ORD,HELD,⟨?_,rfl⟩,hE0⟩
    rw[hc]
    simp only[go_sem,rE,rA,rL,gR,dw,Ty.enc_eq]
  ·have hc:eO v.vars p=(.mk [],4):=by simp[eO,hf,hdd]
   simp only[go_sem,rE,rA,rL,up6 _ _ hb6 _ _ ge4,d46,g4]
   exact⟨fun l hl _=>by simp only[bQ]at hl;subst hl;exact n4,bad _ _ b4 4 (ai _ _ _) rfl rfl (up46 _ _ _ hb6) hc⟩
end
theorem xG{vs:List Vr}(hnd:(vs.map (·.name)).Nodup){k:Nat}(hk:k<vs.length):vs.find? (fun x=>eqB x.name vs[k].name)=some vs[k]:=by
 rw[List.find?_eq_some_iff_append]
 refine⟨by simp[dT],vs.take k,vs.drop (k+1),by rw[<-bO hk,ic],fun y hy=>?_⟩
 obtain⟨i,hi,rfl⟩:=bk.1 hy
 rw[bI]at hi
 rw[List.getElem_take]
 have:vs[i].name≠vs[k].name:=by
  have:=List.pairwise_iff_getElem.1 hnd i k (by simp;omega) (by simp;omega) (by omega)
  simpa using this
 simp[cC.2 this]
section
variable {P:Program}{F:Ids}{er:bK}
end
theorem we:di []=fun _=>none:=by funext n;simp[di]
theorem qI:cD []=fun _=>none:=by funext n;simp[cD]
section
variable {P:Program}{F:Ids}{er:bK}
theorem Be(L:Lib P F)(ahead:List Fu)(H:aj)(h8:iA F er H):
 ACalls P 110 [.sl 12 none (ahead.map Fu.enc)] H fun q H'=>∃s m1 m2,q=.ptr s 0/\cw F er H' s ⟨ahead,[],[],[],false⟩ NIL NIL m1 m2/\
  (∀c o,H.get c=some o->H'.get c=some o)/\H.get s=none/\H.get m1=none/\H.get m2=none:=by
 refine(L.a Tryz.func110 y110) (by simp[y110]) ?_
 simp only[y110,go_sem,rE,rA,rL]
 refine oG fun m1 hm1=>?_
 refine oG fun m2 hm2=>?_
 simp only[go_sem,rE,rA,rL]
 intro s hs
 have d12:=al (ai _ _ _) hm2
 have d2s:=al (ai _ _ _) hs
 have d1s:=al ((ae _ _ d12).trans (ai _ _ _)) hs
 have hm2':H.get m2=none:=by rw[ae _ _ (Ne.symm d12)]at hm2;exact hm2
 have hs':H.get s=none:=by rw[ae _ _ (Ne.symm d2s),ae _ _ (Ne.symm d1s)]at hs;exact hs
 have up:∀(x y z:cz) c o,H.get c=some o->(((H.set m1 x).set m2 y).set s z).get c=some o:=fun x y z c o hc=>by
  rw[ae _ _ (al hc hs'),ae _ _ (al hc hm2'),ae _ _ (al hc hm1)];exact hc
 simp only[go_sem,rE,rA,rL]
 refine ak (.refl _) (aj.sub_refl _) ⟨s,m1,m2,rfl,⟨ai _ _ _,?_,?_,.inl ⟨rfl,rfl⟩,.inl ⟨rfl,rfl⟩,fun b ⟨_,_,_,_,e⟩=>by simp at e,d12,fun c hc=>up _ _ _ _ _ (h8 c hc),fun c hc=>Ne.symm (al (h8 c hc) hs'),fun _=>rfl,fun _=>rfl⟩,fun c o hc=>up _ _ _ _ _ hc,hs',hm1,hm2'⟩
 ·rw[ae _ _ d1s,ae _ _ d12,ai,we]
 ·rw[ae _ _ d2s,ai,qI]
end
theorem r7(H:aj){r b:Nat}{o:cz}:H.swap (H.only (·=r)) ((H.only (·=r)).set b o)=H.set b o:=by
 ext c:1
 rw[bz,aK,aK]
 by_cases hc:c=b
 ·subst hc;simp
 ·rw[if_neg hc,if_neg hc]
  by_cases h:c=r
  ·subst h;rw[jI];cases H.get c<;>rfl
  ·rw[lT H h];rfl
section
variable {P:Program}{F:Ids}{er:bK}
theorem tz(L:Lib P F)(r:Nat)(g:ByteArray->Option AC)(H:aj)(hg:H.get r=some (.map g)):
 ACalls P 260 [.mp r] H fun q H'=>∃b,H.get b=none/\q=.mp b/\H'=H.set b (.map g):=by
 refine(L.a Tryz.func260 y260) (by simp[y260]) ?_
 simp only[y260,go_sem,rE,rA,rL,qv,bW]
 refine sS (g:=g) rfl hg trivial fun b hb=>?_
 simp only[go_sem,rE,rA,rL]
 exact ak (.refl _) (aj.sub_refl _) ⟨b,hb,rfl,rfl⟩
theorem Bc(L:Lib P F)(rows:List (List AC))(hsz:∀e∈rows,e.length=1)(hl:rows.length<=2^31)(x:AC)(hx:(rows=[]/\x=NIL)\/(rows≠[]/\x=.sl 1 none rows)):
 ACalls P 259 [x] .empty fun q H'=>bR H' 1 rows q/\(rows=[]->q=NIL)/\∀b,H'.get b≠none->cJ q b:=by
 refine(L.a Tryz.func259 y259) (by simp[y259]) ?_
 rcases hx with⟨rfl,rfl⟩|⟨hne,rfl⟩
 ·simp only[y259,go_sem,rE,rA,rL,qv,bW]
  exact ak (.refl _) (aj.sub_refl _) ⟨.inl ⟨rfl,rfl⟩,fun _=>rfl,fun b hb=>by simp at hb⟩
 ·obtain⟨e0,rest,rfl⟩:=List.exists_cons_of_ne_nil hne
  simp only[y259,go_sem,rE,rA,rL,qv,bW,ax,ay]
  intro b hb
  refine fG (es:=[]) (ys:=e0::rest) (.inr ⟨b,0,0,rfl,ai _ _ _⟩) (by simp[go_sem]) hsz (by simp only[bM,bY];exact cg hl (by decide)) ?_
  intro x' H3 fp hx' hfp hkeep hnew
  simp only[go_sem,rE,rA,rL]
  refine ak (.refl _) (H':=H3.only (cJ x')) (aj.only_sub _ _) ⟨?_,fun h=>by simp at h,fun c hc=>?_⟩
  ·have:bR H3 1 (e0::rest) x':=by simpa using hx'
   exact this.mono fun c hc=>bf hc
  ·by_cases h:cJ x' c
   ·exact h
   ·rw[bS h]at hc;simp at hc
theorem sG(L:Lib P F)(s:Nat)(v:Sc)(ORD HELD:AC)(m1 m2:Nat)(H:aj)(hE:cw F er H s v ORD HELD m1 m2)(hh:v.held=[])(hl:v.vars.length<=2^30):
 ACalls P 250 [.ptr s 0] H fun q H'=>∃s' ORD' m1',q=.ptr s' 0/\cw F er H' s' v ORD' NIL m1' m2/\(∀c o,H.get c=some o->H'.get c=some o)/\
  H.get s'=none/\H.get m1'=none/\∀b,cJ ORD' b->H.get b=none:=by
 refine(L.a Tryz.func250 y250) (by simp[y250]) ?_
 have hE0:=hE
 have hH:=hE.hnil hh
 subst hH
 obtain⟨ho,h1,h2,h4,h5,h6,h7,h8,h9⟩:=hE
 simp only[ScO]at ho
 simp only[y250,go_sem,rE,rA,rL,ho]
 intro s' hs'
 have dss:=al ho hs'
 have d1:=al h1 hs'
 simp only[go_sem,rE,rA,rL,ho,dss]
 have hrows:((aD (v.vars.map (·.name)))=[]/\ORD=NIL)\/((aD (v.vars.map (·.name)))≠[]/\∃t,ORD=.sl 1 t (aD (v.vars.map (·.name)))):=by
  rcases h4 with⟨e1,e2⟩|⟨b,n,m,e,-⟩
  ·exact .inl ⟨e1,e2⟩
  ·by_cases h0:v.vars=[]
   ·exact .inl ⟨by simp[h0,aD],hE0.onil h0⟩
   ·exact .inr ⟨by simpa[aD]using h0,_,e⟩
 obtain⟨y,hy1,hy2⟩:∃y,((aD (v.vars.map (·.name))=[]/\y=NIL)\/(aD (v.vars.map (·.name))≠[]/\y=.sl 1 none (aD (v.vars.map (·.name)))))/\Le ORD y:=by
  rcases hrows with⟨e1,rfl⟩|⟨e1,t,rfl⟩
  ·exact⟨NIL,.inl ⟨e1,rfl⟩,.refl _⟩
  ·exact⟨_,.inr ⟨e1,rfl⟩,.tok _ _ _⟩
 refine du ((Bc L (aD (v.vars.map (·.name))) (by simp[aD]) (by simp[aD];omega) y hy1).args (xs':=[ORD]) ⟨hy2,trivial⟩) rfl (aj.sub_empty _) (fun h=>by simp at h) trivial ?_
 rintro q H1 ⟨hq1,hq2,hq3⟩ hnew
 have hn1:∀c,H1.get c≠none->H.get c=none/\c≠s':=fun c hc=>by
  have:=hnew c hc rfl
  refine⟨?_,?_⟩
  ·by_cases h:c=s'
   ·subst h;simp at this
   ·rw[ae _ _ h]at this;exact this
  ·rintro rfl;simp at this
 have old:∀c o,(H.set s' (.cells [.sl 12 none (v.p.map Fu.enc),ORD,.mp m1,.mp m2,NIL,B v.lost,.lit .nilFunc])).get c=some o->
  ((H.set s' (.cells [.sl 12 none (v.p.map Fu.enc),ORD,.mp m1,.mp m2,NIL,B v.lost,.lit .nilFunc])).swap .empty H1).get c=some o:=fun c o hc=>by
  rw[bz]
  cases h:H1.get c with
  |none=>simpa using hc
  |some o'=>have:=hnew c (by rw[h];simp) rfl;rw[this]at hc;simp at hc
 have ks:=old s' _ (ai _ _ _)
 have up:∀c o,H.get c=some o->((H.set s' (.cells [.sl 12 none (v.p.map Fu.enc),ORD,.mp m1,.mp m2,NIL,B v.lost,.lit .nilFunc])).swap .empty H1).get c=some o:=fun c o hc=>old c o (by rw[ae _ _ (al hc hs')];exact hc)
 have qa:bR ((H.set s' (.cells [.sl 12 none (v.p.map Fu.enc),ORD,.mp m1,.mp m2,NIL,B v.lost,.lit .nilFunc])).swap .empty H1) 1 (aD (v.vars.map (·.name))) q:=hq1.mono fun b hb=>by
  obtain⟨n,m,e⟩:=hq1.tok hb
  rw[bz,e];rfl
 have qn:∀b,cJ q b->H.get b=none/\b≠s':=fun b hb=>hn1 b (by obtain⟨n,m,e⟩:=hq1.tok hb;rw[e];simp)
 generalize(H.set s' (.cells [.sl 12 none (v.p.map Fu.enc),ORD,.mp m1,.mp m2,NIL,B v.lost,.lit .nilFunc])).swap .empty H1=H2 at*
 have dss2:s≠s':=dss
 simp only[go_sem,rE,rA,rL,ks,hq1.one,dss,up _ _ ho]
 have g1:((H2.set s' (.cells [.sl 12 none (v.p.map Fu.enc),q,.mp m1,.mp m2,NIL,B v.lost,.lit .nilFunc])).only (·=m1)).get m1=some (.map (di v.vars)):=by
  rw[jI,ae _ _ d1];exact up _ _ h1
 refine du (tz L m1 (di v.vars) _ g1) rfl (aj.only_sub _ _) (fun h=>by simp at h) trivial ?_
 rintro q' H3 ⟨b,hb,rfl,rfl⟩ hfr
 have hb2:=hfr b (by simp) hb
 rw[r7]
 have dbs:s'≠b:=al (ai _ _ _) hb2
 simp only[go_sem,rE,rA,rL,dbs,show(AC.mp b).cells?=some [.mp b]from rfl]
 have hb3:H2.get b=none:=by rw[ae _ _ (Ne.symm dbs)]at hb2;exact hb2
 have fin:∀(o o':cz) c x,H.get c=some x->(((H2.set s' o).set b o').get c=some x):=fun o o' c x hc=>by
  rw[ae _ _ (al (up _ _ hc) hb3),ae _ _ (al hc hs')];exact up _ _ hc
 have fin2:∀(o o' o2:cz) c x,H.get c=some x->((((H2.set s' o).set b o').set s' o2).get c=some x):=fun o o' o2 c x hc=>by
  rw[ae _ _ (al hc hs')];exact fin _ _ _ _ hc
 have hbH:H.get b=none:=by
  cases h:H.get b with
  |none=>rfl
  |some o=>rw[up _ _ h]at hb3;simp at hb3
 refine ak (.refl _) (aj.sub_refl _) ⟨s',q,b,rfl,⟨ai _ _ _,?_,fin2 _ _ _ _ _ h2,?_,.inl ⟨by simp[hh],rfl⟩,fun c _ ⟨_,_,_,_,e⟩=>by simp at e,?_,fun c hc=>fin2 _ _ _ _ _ (h8 c hc),fun c hc=>Ne.symm (al (h8 c hc) hs'),fun _=>rfl,fun h0=>hq2 (by simp[h0,aD])⟩,fun c o hc=>fin2 _ _ _ _ _ hc,hs',hbH,fun c hc=>(qn c hc).1⟩
 ·rw[ae _ _ (Ne.symm dbs),ai]
 ·refine qa.mono fun c hc=>?_
  obtain⟨n,m,e⟩:=qa.tok hc
  rw[ae _ _ (qn c hc).2,ae _ _ (by rintro rfl;rw[hb3]at e;simp at e),ae _ _ (qn c hc).2]
 ·rintro rfl;rw[h2]at hbH;simp at hbH
end
def nD:AC:=.agg [S .empty,NIL,B false,NIL,NIL,I 0,I 0,S .empty,NIL,NIL,S .empty,NIL]
noncomputable def lu(p:List Fu)(n:ByteArray):AC:=match p.find? (fun f=>eqB f.name n)with
 |some f=>.tup [.agg f.enc,B true]
 |none=>.tup [nD,B false]
section
variable {P:Program}{F:Ids}{er:bK}
theorem sF(L:Lib P F)(s:Nat)(v:Sc)(n:ByteArray)(hp:v.p.length<=2^30):
 ScC P F er 111 [.ptr s 0,S n] s v fun q v'=>q=lu v.p n/\v'=v:=by
 intro H ORD HELD m1 m2 hE
 refine(L.a Tryz.func111 y111) (by simp[y111]) ?_
 have hE0:=hE
 obtain⟨ho,h1,h2,h4,h5,h6,h7,h8,h9⟩:=hE
 simp only[ScO]at ho
 simp only[y111,go_sem,rE,rA,rL]
 intro b4 hb4
 have ds4:=al ho hb4
 simp only[go_sem,rE,rA,rL,ds4,ho,ao]
 refine aV v.p.length (fun k E' H'=>E' 0=.ptr s 0/\E' 1=S n/\E' 4=.ptr b4 0/\E' 11=.sl 12 none (v.p.map Fu.enc)/\E' 12=I v.p.length/\E' 13=I k/\(∃cs,H'.get b4=some (.cells cs)/\cs.length=12)/\
  (∀c o,H.get c=some o->H'.get c=some o)/\∀i (h:i<v.p.length),i<k->eqB v.p[i].name n=false) ⟨rfl,rfl,rfl,rfl,(by simp only[go_sem,rE,ao]),rfl,⟨_,ai _ _ _,rfl⟩,fun c o hc=>by rw[ae _ _ (al hc hb4)];exact hc,fun _ _ h=>absurd h (Nat.not_lt_zero _)⟩ ?_
 rintro k E' H' hk ⟨q0,q1,q4,q11,q12,q13,⟨cs,gb,hcs⟩,kk,hall⟩
 have hb4':∀c o,H.get c=some o->c≠b4:=fun c o hc=>al hc hb4
 simp only[go_sem,rE,rA,rL,q12,q13]
 refine aH (fun hlt=>?_) (fun hge=>?_)
 ·have hk1:k<v.p.length:=by omega
  have w1:=aP (n:=(k:Int)+1) (by omega) (by omega)
  have hg:(v.p.map Fu.enc)[k]?=some v.p[k].enc:=by simp[hk1]
  rw[Fu.enc_eq]at hg
  simp only[go_sem,rE,rA,rL,q1,q4,q11,q13,hg]
  intro b7 hb7
  have d47:=al gb hb7
  simp only[go_sem,rE,rA,rL,q1,d47,dk]
  cases hn:eqB v.p[k].name n
  ·simp only[go_sem,rE,rA,rL,q13,w1]
   refine⟨hk1,_,aj.sub_refl _,q0,q1,q4,q11,q12,rfl,⟨cs,by rw[ae _ _ d47];exact gb,hcs⟩,fun c o hc=>by rw[ae _ _ (al (kk c o hc) hb7)];exact kk c o hc,fun i h hi=>?_⟩
   by_cases hik:i=k
   ·subst hik;exact hn
   ·exact hall i h (by omega)
  ·simp only[go_sem,rE,rA,rL,q4,d47,gb,hcs]
   have hfind:v.p.find? (fun f=>eqB f.name n)=some v.p[k]:=by
    rw[List.find?_eq_some_iff_append]
    refine⟨by simpa using hn,v.p.take k,v.p.drop (k+1),by rw[<-bO hk1,ic],fun y hy=>?_⟩
    obtain⟨i,hi,rfl⟩:=bk.1 hy
    rw[bI]at hi
    rw[List.getElem_take]
    simp[hall i (by omega) (by omega)]
   refine cd (off:=0) (q:=.agg v.p[k].enc) q4 (ai _ _ _) (by rw[Fu.enc_eq];simp[fH]) (.refl _) (H':=H) (fun c o hc=>?_) ⟨v,ORD,HELD,⟨?_,rfl⟩,hE0⟩
   ·rw[ae _ _ (hb4' c o hc),ae _ _ (al (kk c o hc) hb7)];exact kk c o hc
   ·simp only[lu,hfind];rfl
 ·simp only[go_sem,rE,rA,rL,q4,gb,hcs]
  have hfind:v.p.find? (fun f=>eqB f.name n)=none:=by
   rw[List.find?_eq_none]
   intro x hx
   obtain⟨i,hi,rfl⟩:=bk.1 hx
   simp[hall i hi (by omega)]
  refine cd (off:=0) (q:=nD) q4 (ai _ _ _) (by simp[fH,nD];rfl) (.refl _) (H':=H) (fun c o hc=>?_) ⟨v,ORD,HELD,⟨?_,rfl⟩,hE0⟩
  ·rw[ae _ _ (hb4' c o hc)];exact kk c o hc
  ·simp only[lu,hfind];rfl
end
def Sc.ok(v:Sc):Prop:=∀y∈v.vars,(v.given.any fun m=>eqB m y.name)=true
theorem Sc.ok.fresh{v:Sc}(h:v.ok){n:ByteArray}(hn:(v.given.any fun m=>eqB m n)=false):v.vars.find? (fun y=>eqB y.name n)=none:=by
 rw[List.find?_eq_none]
 intro y hy he
 have e:=cN.1 (by simpa using he)
 have:=h y hy
 rw[e,hn]at this
 simp at this
noncomputable def eI(v:Sc)(x:Vr):Sc×Int:=if v.given.any fun m=>eqB m x.name then(v,2)else({v with vars:=v.vars++[x],given:=v.given++[x.name]},0)
theorem qJ{v:Sc}(h:v.ok)(x:Vr):(eI v x).1.ok:=by
 unfold eI
 split
 ·exact h
 ·intro y hy
  simp only[aE,bQ]at hy
  simp only[fY,dh,List.any_cons,List.any_nil,dE]
  rcases hy with hy|rfl
  ·exact .inl (h y hy)
  ·exact .inr (dT _)
theorem yE(v:Sc)(x:Vr):(eI v x).1.vars.length<=v.vars.length+1:=by
 unfold eI
 split<;>simp
noncomputable def dM(v:Sc):List Pa->Sc×Int
 |[]=>(v,0)
 |p::ps=>if(eI v p.vr).2=0 then dM (eI v p.vr).1 ps else eI v p.vr
section
variable {P:Program}{F:Ids}{er:bK}
theorem mH(L:Lib P F)(s:Nat)(v:Sc)(hok:v.ok)(x:Vr)(hd:x.dead=false)(hl:x.loans.length<=2^30)(hn:v.vars.length<=2^30):
 ScC P F er 168 [.ptr s 0,S x.name,x.raw] s v fun q v'=>q=er.ac (eI v x).2/\v'=(eI v x).1:=
 (c_kgive L s v x hd hl hn hok.fresh).mono fun q v' h=>by
  unfold eI
  split at h
  ·rename_i hg;rw[if_pos hg];exact h
  ·rename_i hg;rw[if_neg hg];exact h
theorem zd(L:Lib P F)(s:Nat)(v:Sc)(hok:v.ok)(f:Fu)(hn:v.vars.length+f.params.length<=2^30):
 ScC P F er 112 [.ptr s 0,.agg f.enc] s v fun q v'=>q=er.ac (dM v f.params).2/\v'=(dM v f.params).1:=by
 intro H ORD HELD m1 m2 hE
 refine(L.a Tryz.func112 y112) (by simp[y112]) ?_
 rw[Fu.enc_eq]
 simp only[y112,go_sem,rE,rA,rL]
 intro b3 hb3
 simp only[go_sem,rE,rA,rL,ao]
 refine aV f.params.length (fun k E' H'=>E' 0=.ptr s 0/\E' 10=.sl 3 none (f.params.map Pa.enc)/\E' 11=I f.params.length/\E' 12=I k/\
  ∃v1 ORD' HELD',cw F er H' s v1 ORD' HELD' m1 m2/\dM v f.params=dM v1 (f.params.drop k)/\v1.ok/\v1.vars.length<=v.vars.length+k)
  ⟨rfl,rfl,rfl,rfl,v,ORD,HELD,hE.mono fun b hb=>ae _ _ (by rintro rfl;exact hE.mem hb hb3),rfl,hok,aA _⟩ ?_
 rintro k E' H' hk ⟨q0,q10,q11,q12,v1,ORD',HELD',hS,hgv,hok1,hl1⟩
 simp only[go_sem,rE,rA,rL,q11,q12]
 refine aH (fun hlt=>?_) (fun hge=>?_)
 ·have hk1:k<f.params.length:=by omega
  have w1:=aP (n:=(k:Int)+1) (by omega) (by omega)
  have hg:(f.params.map Pa.enc)[k]?=some [S f.params[k].name,B f.params[k].lent,.sl 1 none (Ty.encs f.params[k].type.kids)]:=by simp[hk1,Pa.enc,Ty.enc_eq]
  rw[bO hk1,dM]at hgv
  simp only[go_sem,rE,rA,rL,q0,q10,q12,hg]
  intro b6 hb6 b7 hb7
  have d67:=al (ai _ _ _) hb7
  have hb7':H'.get b7=none:=by rw[ae _ _ (Ne.symm d67)]at hb7;exact hb7
  simp only[go_sem,rE,rA,rL,q0,d67]
  have hS2:∀o o',cw F er ((H'.set b6 o).set b7 o') s v1 ORD' HELD' m1 m2:=fun o o'=>hS.mono fun b hb=>by
   rw[ae _ _ (by rintro rfl;exact hS.mem hb hb7'),ae _ _ (by rintro rfl;exact hS.mem hb hb6)]
  refine cX (mH L s v1 hok1 f.params[k].vr rfl (by simp[Pa.vr]) (by omega)) (hS2 _ _) rfl ?_ (fun h=>by simp at h) trivial ?_
  ·exact⟨.refl _,.refl _,.agg ⟨⟨.refl _,rfl⟩,⟨.refl _,rfl⟩,⟨.refl _,rfl⟩,⟨.refl _,rfl⟩,⟨.refl _,rfl⟩,⟨.nil 2,rfl⟩,trivial⟩,trivial⟩
  rintro q v2 ORD2 HELD2 H2 fp ⟨rfl,rfl⟩ hS3 - -
  by_cases hz:(eI v1 f.params[k].vr).2=0
  ·rw[if_pos hz]at hgv
   rw[hz,dw]
   simp only[go_sem,rE,rA,rL,q0,q12,w1]
   refine⟨hk1,H2,aj.sub_refl _,q10,q11,rfl,_,ORD2,HELD2,hS3,hgv,qJ hok1 _,?_⟩
   have:=yE v1 f.params[k].vr
   omega
  ·rw[if_neg hz]at hgv
   have hac:er.ac (eI v1 f.params[k].vr).2=.iface (er.t (eI v1 f.params[k].vr).2) (er.x (eI v1 f.params[k].vr).2):=by simp[bK.ac,hz]
   rw[hac]
   simp only[go_sem,rE,rA,rL,q0]
   refine ak (.refl _) (aj.sub_refl _) ⟨_,ORD2,HELD2,⟨?_,rfl⟩,by rw[hgv];exact hS3⟩
   rw[hgv,hac];rfl
 ·have hkk:k=f.params.length:=by omega
  subst hkk
  rw[kl,dM]at hgv
  simp only[go_sem,rE,rA,rL]
  exact ak (.refl _) (aj.sub_refl _) ⟨_,ORD',HELD',⟨by rw[hgv];rfl,rfl⟩,by rw[hgv];exact hS⟩
end
noncomputable def dW(vs:List Vr)(n:ByteArray):Bool:=match vs.find? (fun x=>eqB x.name n)with
 |some x=>x.dead
 |none=>true
theorem yC(vs:List Vr)(n:ByteArray):∃a b c e f,iC (.agg [.lit (.slice none 0 0),.lit (.bool false),.lit (.bool false),.lit (.bool false),.lit (.bool false),.lit (.slice none 0 0)]) false (di vs n)=.agg [a,b,c,B (!dW vs n),e,f]:=by
 cases h:vs.find? (fun x=>eqB x.name n)with
 |none=>simp[di,h,iC,dW]
 |some x=>simp[di,h,iC,Vr.ent,dW]
noncomputable def jl(vs:List Vr)(n:ByteArray)(ws:List (List Vr)):List Vr:=ws.foldl (fun vs w=>if dW w n then ir vs n else vs) vs
noncomputable def gk(vs:List Vr)(ns:List ByteArray)(ws:List (List Vr)):List Vr:=ns.foldl (fun vs n=>jl vs n ws) vs
theorem pk(vs:List Vr)(n:ByteArray)(ws:List (List Vr)):(jl vs n ws).map (·.name)=vs.map (·.name):=by
 induction ws generalizing vs with
 |nil=>rfl
 |cons w ws ih=>
  simp only[jl,d7]at ih⊢
  rw[ih]
  split
  ·exact nG vs n
  ·rfl
theorem qD(vs:List Vr)(n:ByteArray)(ws:List (List Vr))(w:List Vr):jl vs n (ws++[w])=if dW w n then ir (jl vs n ws) n else jl vs n ws:=by
 simp[jl]
theorem wn(vs:List Vr)(ns:List ByteArray)(n:ByteArray)(ws:List (List Vr)):gk vs (ns++[n]) ws=jl (gk vs ns ws) n ws:=by
 simp[gk]
theorem uC(vs:List Vr)(ns:List ByteArray)(ws:List (List Vr)):(gk vs ns ws).map (·.name)=vs.map (·.name):=by
 induction ns generalizing vs with
 |nil=>rfl
 |cons n ns ih=>simp only[gk,d7]at ih⊢;rw[ih,pk]
theorem oN{vs:List Vr}{n:ByteArray}(h:n∈vs.map (·.name)):∃x,vs.find? (fun x=>eqB x.name n)=some x:=by
 cases hf:vs.find? (fun x=>eqB x.name n)with
 |some x=>exact⟨x,rfl⟩
 |none=>
  rw[List.find?_eq_none]at hf
  obtain⟨x,hx,rfl⟩:=aZ.1 h
  exact absurd (dT _) (by simpa using hf x hx)
def wT(F:Ids)(H:aj)(s:Nat)(ORD HELD:AC)(m1 m2:Nat)(ws:List (Nat×Nat×List Vr)):Prop:=
 ∀w∈ws,(∃cs,H.get w.1=some (.cells cs)/\cs[2]?=some (.mp w.2.1))/\H.get w.2.1=some (.map (di w.2.2))/\¬cV F s ORD HELD m1 m2 w.1/\¬cV F s ORD HELD m1 m2 w.2.1
section
variable {P:Program}{F:Ids}{er:bK}
theorem c_kjoin(L:Lib P F)(s:Nat)(v:Sc)(hl:v.vars.length<=2^30)(ws:List (Nat×Nat×List Vr))(hw:ws.length<=2^30)(H:aj)(ORD HELD:AC)(m1 m2:Nat)
(hE:cw F er H s v ORD HELD m1 m2)(hW:wT F H s ORD HELD m1 m2 ws):
 ACalls P 251 [.ptr s 0,.sl 1 none (ws.map fun w=>[.ptr w.1 0])] H fun q H'=>q=.tup []/\∃ORD' HELD',cw F er H' s {v with vars:=gk v.vars (v.vars.map (·.name)) (ws.map (·.2.2))} ORD' HELD' m1 m2/\
  ∀b o,H.get b=some o->¬cV F s ORD HELD m1 m2 b->H'.get b=some o:=by
 refine(L.a Tryz.func251 y251) (by simp[y251]) ?_
 have ho:=hE.obj
 simp only[ScO]at ho
 have hlen:(aD (v.vars.map (·.name))).length=v.vars.length:=by simp[aD]
 obtain⟨y,hy⟩:∃y,y=ORD:=⟨_,rfl⟩
 rcases hE.ord with⟨hnil,rfl⟩|⟨b,n,m,rfl,hb⟩
 ·have hv:v.vars=[]:=by rw[hnil]at hlen;exact bn hlen.symm
  simp only[y251,go_sem,rE,rA,rL,ho]
  refine aV 0 (fun k E' H'=>E' 12=I 0/\E' 13=I k/\H'=H) ⟨rfl,rfl,rfl⟩ ?_
  rintro k E' H' hk ⟨q12,q13,rfl⟩
  have:k=0:=by omega
  subst this
  simp only[go_sem,rE,rA,rL,q12,q13,dg,Int.lt_irrefl]
  refine cY (aj.sub_refl _) ⟨rfl,NIL,HELD,?_,fun b o hb _=>hb⟩
  have:gk v.vars (v.vars.map (·.name)) (ws.map (·.2.2))=v.vars:=by rw[hv];rfl
  rw[this];exact hE
 ·simp only[y251,go_sem,rE,rA,rL,ho,hlen]
  refine aV v.vars.length (fun k E' H'=>E' 0=.ptr s 0/\E' 1=.sl 1 none (ws.map fun w=>[.ptr w.1 0])/\E' 11=.sl 1 (some (b,n,m)) (aD (v.vars.map (·.name)))/\E' 12=I v.vars.length/\E' 13=I k/\
   ∃ORD' HELD',cw F er H' s {v with vars:=gk v.vars ((v.vars.map (·.name)).take k) (ws.map (·.2.2))} ORD' HELD' m1 m2/\wT F H' s ORD' HELD' m1 m2 ws/\
    ∀c o,H.get c=some o->¬cV F s y HELD m1 m2 c->H'.get c=some o/\¬cV F s ORD' HELD' m1 m2 c)
   ⟨rfl,rfl,rfl,rfl,rfl,_,HELD,by simpa[gk]using hE,hW,fun c o hc hn=>⟨hc,by rw[hy]at hn;exact hn⟩⟩ ?_
  rintro k E' H' hk ⟨q0,q1,q11,q12,q13,ORD',HELD',hS,hWs,hfr⟩
  simp only[go_sem,rE,rA,rL,q12,q13]
  refine aH (fun hlt=>?_) (fun hge=>?_)
  ·have hk1:k<v.vars.length:=by omega
   have w1:=aP (n:=(k:Int)+1) (by omega) (by omega)
   have hk2:k<(v.vars.map (·.name)).length:=by simpa using hk1
   have hg:=m8 hk2
   simp only[go_sem,rE,rA,rL,q0,q1,q11,q13,hg,ao]
   refine aV ws.length (fun j E2 H2=>E2 0=.ptr s 0/\E2 1=.sl 1 none (ws.map fun w=>[.ptr w.1 0])/\E2 5=S (v.vars.map (·.name))[k]/\E2 11=.sl 1 (some (b,n,m)) (aD (v.vars.map (·.name)))/\E2 12=I v.vars.length/\E2 13=I k/\
    E2 17=.sl 1 none (ws.map fun w=>[.ptr w.1 0])/\E2 18=I ws.length/\E2 19=I j/\
    ∃ORD2 HELD2,cw F er H2 s {v with vars:=jl (gk v.vars ((v.vars.map (·.name)).take k) (ws.map (·.2.2))) (v.vars.map (·.name))[k] ((ws.map (·.2.2)).take j)} ORD2 HELD2 m1 m2/\wT F H2 s ORD2 HELD2 m1 m2 ws/\
    ∀c o,H.get c=some o->¬cV F s y HELD m1 m2 c->H2.get c=some o/\¬cV F s ORD2 HELD2 m1 m2 c)
    ⟨q0,q1,rfl,q11,q12,q13,rfl,(by simp only[go_sem,rE,rA,rL,ao]),rfl,ORD',HELD',hS,hWs,hfr⟩ ?_
   rintro j E2 H2 hj ⟨p0,p1,p5,p11,p12,p13,p17,p18,p19,ORD2,HELD2,hS2,hW2,hfr2⟩
   simp only[go_sem,rE,rA,rL,p18,p19]
   refine aH (fun hlt2=>?_) (fun hge2=>?_)
   ·have hj1:j<ws.length:=by omega
    have w2:=aP (n:=(j:Int)+1) (by omega) (by omega)
    have hgj:(ws.map fun w=>[AC.ptr w.1 0])[j]?=some [.ptr ws[j].1 0]:=by simp[hj1]
    obtain⟨⟨cs,gw,gcs⟩,gm,nb1,nb2⟩:=hW2 ws[j] (az hj1)
    simp only[go_sem,rE,rA,rL,p0,p1,p5,p17,p19,hgj,gw,gcs]
    refine fT (k:=(v.vars.map (·.name))[k]) (g:=di ws[j].2.2) rfl gm trivial ?_
    obtain⟨a,b',c,e,f,he⟩:=yC ws[j].2.2 (v.vars.map (·.name))[k]
    rw[he]
    have hsn:(ws.map (·.2.2)).take (j+1)=(ws.map (·.2.2)).take j++[ws[j].2.2]:=by
     rw[aC (by simpa using hj1),iO]
    cases hdw:dW ws[j].2.2 (v.vars.map (·.name))[k]
    ·simp only[go_sem,rE,rA,rL,p0,p5,p19,w2]
     refine⟨hj1,H2,aj.sub_refl _,p1,p11,p12,p13,p17,p18,rfl,ORD2,HELD2,?_,hW2,hfr2⟩
     rw[hsn,qD,hdw];exact hS2
    ·simp only[go_sem,rE,rA,rL,p0,p5,p19]
     obtain⟨x,hx⟩:=oN (vs:=jl (gk v.vars ((v.vars.map (·.name)).take k) (ws.map (·.2.2))) (v.vars.map (·.name))[k] ((ws.map (·.2.2)).take j)) (n:=(v.vars.map (·.name))[k]) (by
      rw[pk,uC];exact az _)
     refine cX (AZ L s _ _ x hx) hS2 rfl (.refl _) (fun h=>by simp at h) trivial ?_
     rintro q v3 ORD3 HELD3 H3 fp ⟨rfl,rfl⟩ hS3 hfr3 -
     simp only[go_sem,rE,rA,rL,p0,p5,p19,w2]
     refine⟨hj1,H3,aj.sub_refl _,p1,p11,p12,p13,p17,p18,rfl,ORD3,HELD3,?_,fun w hw=>?_,fun c o hc hn=>hfr3 c o (hfr2 c o hc hn).1 (hfr2 c o hc hn).2⟩
     ·rw[hsn,qD,hdw];exact hS3
     ·obtain⟨⟨cs',g1,g2⟩,g3,g4,g5⟩:=hW2 w hw
      exact⟨⟨cs',(hfr3 _ _ g1 g4).1,g2⟩,(hfr3 _ _ g3 g5).1,(hfr3 _ _ g1 g4).2,(hfr3 _ _ g3 g5).2⟩
   ·have hjj:j=ws.length:=by omega
    subst hjj
    simp only[go_sem,rE,rA,rL,p13,w1]
    refine⟨hk1,H2,aj.sub_refl _,p0,p1,p11,p12,rfl,ORD2,HELD2,?_,hW2,hfr2⟩
    have ht:(ws.map (·.2.2)).take ws.length=ws.map (·.2.2):=cy (by simp)
    rw[ht]at hS2
    rw[aC hk2,wn]
    exact hS2
  ·have hkk:k=v.vars.length:=by omega
   subst hkk
   simp only[go_sem,rE,rA,rL]
   refine cY (aj.sub_refl _) ⟨rfl,ORD',HELD',?_,fun c o hc hn=>(hfr c o hc (by rw[hy];exact hn)).1⟩
   rw[cy (by simp)]at hS
   exact hS
end
noncomputable def cn(vs:List Vr)(p:Pl):List ByteArray:=
 vs.foldl (fun r x=>if x.dead||!x.lent then r else if x.loans.any (fun q=>q.meet p||r.any fun m=>eqB m q.name)then x.name::r else r) []
noncomputable def Sc.use(v:Sc)(p:Pl):Sc×(Ty×Int):=
 if(eO v.vars p).2=0 then
  ({v with lost:=v.lost||v.held.any (fun h=>h.meet p||(cn v.vars p).any fun m=>eqB h.name m),vars:=(cn v.vars p).foldl ir v.vars},eO v.vars p)
 else(v,eO v.vars p)
noncomputable def Sc.expr(v:Sc):Ex->Sc×(Ty×Int)
 |.mk k n p ks=>if k=1 then(v,(.mk [],0))else if k=2 then v.use p else match ks with
  |a::b::_=>
   let r:=v.expr a
   if r.2.2=0 then
    let q:=r.1.expr b
    if q.2.2=0 then
     if k=6 then(q.1,if(Ty.mk [r.2.1,q.2.1]).okB then(.mk [r.2.1,q.2.1],0)else(.mk [],3))
     else(q.1,(.mk [],if decide (r.2.1.kids.length=0)&&decide (q.2.1.kids.length=0)then 0 else 3))
    else(q.1,(.mk [],q.2.2))
   else(r.1,(.mk [],r.2.2))
  |_=>(v,(.mk [],3))
termination_by x=>SizeOf.sizeOf x
noncomputable def Sc.number(v:Sc)(e:Ex):Sc×Int:=
 let r:=v.expr e
 if r.2.2=0 then(r.1,if r.2.1.kids.length=0 then 0 else 3)else(r.1,r.2.2)
theorem hG(H:aj):H.swap H H=H:=by
 ext b:1
 rw[bz]
 cases H.get b<;>rfl
section
variable {P:Program}{F:Ids}{er:bK}
theorem c_kends(L:Lib P F)(s:Nat)(p:Pl):ACalls P 209 [.ptr s 0,.agg p.enc] .empty fun q H'=>
 ∃b c,b≠c/\q=.fn (.func 237) [] [.ptr b 0,.ptr c 0]/\H'=(aj.empty.set b (.cells [.ptr s 0])).set c (.cells p.enc):=by
 refine(L.a Tryz.func209 y209) (by simp[y209]) ?_
 simp only[y209,go_sem,rE,rA,rL,Pl.enc]
 intro b hb c hc
 have d:=al (ai _ _ _) hc
 exact ak (.refl _) (aj.sub_refl _) ⟨b,c,d,rfl,rfl⟩
def eB(P:Program)(F:Ids)(er:bK):Prop:=
 ∀(H:aj) (s:Nat) (v:Sc) (ORD HELD:AC) (m1 m2 b c:Nat) (p:Pl),cw F er H s v ORD HELD m1 m2->(v.vars.map (·.name)).Nodup->v.vars.length<=2^30->p.path.length<=2^30->
  (∀x∈v.vars,∀q∈x.loans,q.path.length<=2^30)->(∀x∈v.vars,x.loans.length<=2^30)->
  H.get b=some (.cells [.ptr s 0])->H.get c=some (.cells p.enc)->
  ACalls P 208 [.fn (.func 237) [] [.ptr b 0,.ptr c 0]] H fun q H'=>q=.sl 1 none (aD (cn v.vars p))/\H'=H
end
theorem lZ:∀(ns:List ByteArray) (vs:List Vr),(ns.foldl ir vs).map (·.name)=vs.map (·.name)
 |[],vs=>rfl
 |n::ns,vs=>by rw[d7,lZ ns,nG]
section
variable {P:Program}{F:Ids}{er:bK}
theorem As(L:Lib P F){s:Nat}{v:Sc}{ORD HELD:AC}{m1 m2 b4 b6:Nat}{E:Env}{H2:aj}{R:AC->aj->Prop}{ns:List ByteArray}{ty y:AC}(hS:cw F er H2 s v ORD HELD m1 m2)
(hn:∀n∈ns,n∈v.vars.map (·.name))(hl:ns.length<=2^30)
(e0:E 0=.ptr s 0)(e4:E 4=.ptr b4 0)(e6:E 6=.ptr b6 0)(e8:E 8=.sl 1 none (aD ns))(g4:H2.get b4=some (.cells [y]))(g6:H2.get b6=some (.cells [ty]))(hty:ty.cells?=some [ty])(d46:b4≠b6)
(n4:¬cV F s ORD HELD m1 m2 b4)(n6:¬cV F s ORD HELD m1 m2 b6)
(hR:∀H' ORD' HELD',cw F er H' s {v with vars:=ns.foldl ir v.vars} ORD' HELD' m1 m2->R (.tup [.agg [ty],.lit .nilIface]) H'):(kg2).wp P (bh.post [.cell 4 (some 1),.slot 5] R) E H2:=by
 have hlen:(aD ns).length=ns.length:=by simp[aD]
 simp only[kg2,fg2,go_sem,rE,rA,rL,e8,hlen]
 refine aV ns.length (fun k E' H'=>E' 0=.ptr s 0/\E' 4=.ptr b4 0/\E' 6=.ptr b6 0/\E' 49=.sl 1 none (aD ns)/\E' 50=I ns.length/\E' 51=I k/\
  ∃ORD' HELD',cw F er H' s {v with vars:=(ns.take k).foldl ir v.vars} ORD' HELD' m1 m2/\H'.get b4=some (.cells [y])/\H'.get b6=some (.cells [ty])/\¬cV F s ORD' HELD' m1 m2 b4/\¬cV F s ORD' HELD' m1 m2 b6)
  ⟨e0,e4,e6,rfl,(by simp only[go_sem,rE,hlen]),rfl,ORD,HELD,hS,g4,g6,n4,n6⟩ ?_
 rintro k E' H' hk ⟨q0,q4,q6,q49,q50,q51,ORD',HELD',hS',h4,h6,m4,m6⟩
 simp only[go_sem,rE,rA,rL,q50,q51]
 refine aH (fun hlt=>?_) (fun hge=>?_)
 ·have hk1:k<ns.length:=by omega
  have w1:=aP (n:=(k:Int)+1) (by omega) (by omega)
  have hg:=m8 hk1
  simp only[go_sem,rE,rA,rL,q0,q49,q51,hg]
  obtain⟨x,hx⟩:=oN (vs:=(ns.take k).foldl ir v.vars) (n:=ns[k]) (by rw[lZ];exact hn _ (az hk1))
  refine cX (AZ L s _ _ x hx) hS' rfl (.refl _) (fun h=>by simp at h) trivial ?_
  rintro q v3 ORD3 HELD3 H3 fp ⟨rfl,rfl⟩ hS3 hfr3 -
  simp only[go_sem,rE,rA,rL,q51,w1]
  refine⟨hk1,H3,aj.sub_refl _,q0,q4,q6,q49,q50,rfl,ORD3,HELD3,?_,(hfr3 _ _ h4 m4).1,(hfr3 _ _ h6 m6).1,(hfr3 _ _ h4 m4).2,(hfr3 _ _ h6 m6).2⟩
  rw[aC hk1,List.foldl_append];exact hS3
 ·have hkk:k=ns.length:=by omega
  subst hkk
  rw[aW]at hS'
  have ho:=hS'.obj
  simp only[ScO]at ho
  simp only[go_sem,rE,rA,rL,q0,q4,q6,ho,qv,bW,h4,h6]
  refine cd (off:=0) q4 (ai _ _ _) rfl (.refl _) (aj.sub_refl _) (hR _ ORD' HELD' (hS'.mono fun b hb=>ae _ _ ?_))
  rintro rfl
  exact m4 hb
end
section
variable {P:Program}{F:Ids}{er:bK}
theorem cw.setLost{H:aj}{s:Nat}{v:Sc}{ORD HELD:AC}{m1 m2:Nat}(h:cw F er H s v ORD HELD m1 m2)(l:Bool):cw F er (H.set s (ScO v.p ORD HELD m1 m2 l)) s {v with lost:=l} ORD HELD m1 m2:=by
 have ne:∀c o,H.get c=some o->o≠ScO v.p ORD HELD m1 m2 v.lost->c≠s:=fun c o hc hn=>by rintro rfl;rw[h.obj]at hc;simp at hc;exact hn hc.symm
 refine⟨ai _ _ _,?_,?_,h.ord.mono fun b hb=>?_,h.held.mono fun b hb=>?_,h.apart,h.ne,fun c hc=>?_,h.far,h.hnil,h.onil⟩
 ·rw[ae _ _ (ne _ _ h.names (by simp[ScO]))];exact h.names
 ·rw[ae _ _ (ne _ _ h.given (by simp[ScO]))];exact h.given
 ·obtain⟨n,m,e⟩:=h.ord.tok hb
  exact ae _ _ (ne _ _ e (by simp[ScO]))
 ·obtain⟨n,m,e⟩:=h.held.tok hb
  exact ae _ _ (ne _ _ e (by simp[ScO]))
 ·rw[ae _ _ (Ne.symm (h.far c hc))];exact h.errs c hc
noncomputable def ol(ns:List ByteArray)(p h:Pl):Bool:=h.meet p||ns.any fun m=>eqB h.name m
theorem kg3_wp(L:Lib P F){s:Nat}{v:Sc}{ORD HELD:AC}{m1 m2 b3 b4 b6:Nat}{E:Env}{H2:aj}{R:AC->aj->Prop}{ns:List ByteArray}{ty y:AC}{p:Pl}(hS:cw F er H2 s v ORD HELD m1 m2)
(hn:∀n∈ns,n∈v.vars.map (·.name))(hl:ns.length<=2^30)(hp:p.path.length<=2^30)(hh:v.held.length<=2^30)(hhp:∀h∈v.held,h.path.length<=2^30)
(e0:E 0=.ptr s 0)(e3:E 3=.ptr b3 0)(e4:E 4=.ptr b4 0)(e6:E 6=.ptr b6 0)(e8:E 8=.sl 1 none (aD ns))(g3:H2.get b3=some (.cells p.enc))(g4:H2.get b4=some (.cells [y]))(g6:H2.get b6=some (.cells [ty]))(hty:ty.cells?=some [ty])(d46:b4≠b6)
(n3:¬cV F s ORD HELD m1 m2 b3)(n4:¬cV F s ORD HELD m1 m2 b4)(n6:¬cV F s ORD HELD m1 m2 b6)
(hR:∀H' ORD' HELD',cw F er H' s {v with lost:=v.lost||v.held.any (ol ns p),vars:=ns.foldl ir v.vars} ORD' HELD' m1 m2->R (.tup [.agg [ty],.lit .nilIface]) H'):(kg3).wp P (bh.post [.cell 4 (some 1),.slot 5] R) E H2:=by
 have ho:=hS.obj
 simp only[ScO]at ho
 rcases hS.held with⟨hnil,rfl⟩|⟨b,n,m,rfl,hb⟩
 ·have hv:v.held=[]:=by simpa using hnil
  simp only[kg3,fg3,go_sem,rE,rA,rL,e0,ho]
  refine aV 0 (fun k E' H'=>E' 0=.ptr s 0/\E' 4=.ptr b4 0/\E' 6=.ptr b6 0/\E' 8=.sl 1 none (aD ns)/\E' 31=I 0/\E' 32=I k/\H'=H2) ⟨e0,e4,e6,e8,rfl,rfl,rfl⟩ ?_
  rintro k E' H' hk ⟨q0,q4,q6,q8,q31,q32,rfl⟩
  have:k=0:=by omega
  subst this
  simp only[go_sem,rE,rA,rL,q31,q32,dg,Int.lt_irrefl]
  refine As L hS hn hl q0 q4 q6 q8 g4 g6 hty d46 n4 n6 fun H' ORD' HELD' h=>hR H' ORD' HELD' ?_
  simpa[hv]using h
 ·have hlen:(v.held.map Pl.enc).length=v.held.length:=by simp
  simp only[kg3,fg3,go_sem,rE,rA,rL,e0,ho,hlen]
  refine aV v.held.length (fun k E' H'=>E' 0=.ptr s 0/\E' 3=.ptr b3 0/\E' 4=.ptr b4 0/\E' 6=.ptr b6 0/\E' 8=.sl 1 none (aD ns)/\E' 30=.sl 2 (some (b,n,m)) (v.held.map Pl.enc)/\E' 31=I v.held.length/\E' 32=I k/\
   cw F er H' s {v with lost:=v.lost||(v.held.take k).any (ol ns p)} ORD (.sl 2 (some (b,n,m)) (v.held.map Pl.enc)) m1 m2/\H'.get b3=some (.cells p.enc)/\H'.get b4=some (.cells [y])/\H'.get b6=some (.cells [ty]))
   ⟨e0,e3,e4,e6,e8,rfl,(by simp only[go_sem,rE,hlen]),rfl,by simpa using hS,g3,g4,g6⟩ ?_
  rintro k E' H' hk ⟨q0,q3,q4,q6,q8,q30,q31,q32,hS',k3,k4,k6⟩
  simp only[go_sem,rE,rA,rL,q31,q32]
  refine aH (fun hlt=>?_) (fun hge=>?_)
  ·have hk1:k<v.held.length:=by omega
   have w1:=aP (n:=(k:Int)+1) (by omega) (by omega)
   have hg:(v.held.map Pl.enc)[k]?=some [S v.held[k].name,au v.held[k].path]:=by simp[hk1,Pl.enc]
   simp only[go_sem,rE,rA,rL,q0,q3,q30,q32,hg,k3,Pl.enc]
   intro b10 hb10
   have d3:=al k3 hb10
   have d4:=al k4 hb10
   have d6:=al k6 hb10
   have ho':=hS'.obj
   simp only[ScO]at ho'
   have ds:=al ho' hb10
   have k3':H'.get b3=some (.cells [S p.name,au p.path]):=k3
   have hm:=xK L v.held[k] p (cg (hhp _ (az hk1)) (by decide)) (cg hp (by decide))
   simp only[Pl.enc]at hm
   have hany:(v.held.take (k+1)).any (ol ns p)=((v.held.take k).any (ol ns p)||ol ns p v.held[k]):=by
    rw[aC hk1,fY];simp
   have hS10:∀o,cw F er (H'.set b10 o) s {v with lost:=v.lost||(v.held.take k).any (ol ns p)} ORD (.sl 2 (some (b,n,m)) (v.held.map Pl.enc)) m1 m2:=fun o=>hS'.mono fun c hc=>ae _ _ (by rintro rfl;exact hS'.mem hc hb10)
   have s3:b3≠s:=fun e=>n3 (.inl e)
   have s4:b4≠s:=fun e=>n4 (.inl e)
   have s6:b6≠s:=fun e=>n6 (.inl e)
   have yes:ol ns p v.held[k]=true->∀o,cw F er ((H'.set b10 o).set s (ScO v.p ORD (.sl 2 (some (b,n,m)) (v.held.map Pl.enc)) m1 m2 true)) s {v with lost:=v.lost||(v.held.take (k+1)).any (ol ns p)} ORD (.sl 2 (some (b,n,m)) (v.held.map Pl.enc)) m1 m2:=fun h o=>by
    rw[hany,h]
    simpa using(hS10 o).setLost true
   simp only[go_sem,rE,rA,rL,d3,k3',q3]
   refine am hm rfl ?_
   cases hme:v.held[k].meet p
   ·simp only[go_sem,rE,rA,rL,q8,d3]
    refine am (vf L ns v.held[k].name (cg hl (by decide))) rfl ?_
    cases hcn:ns.any fun x=>eqB v.held[k].name x
    ·have hit:ol ns p v.held[k]=false:=by simp only[ol,hme,hcn];rfl
     simp only[go_sem,rE,rA,rL,q32,w1]
     refine⟨hk1,_,aj.sub_refl _,q0,q3,q4,q6,q8,q30,q31,rfl,?_,?_,?_,?_⟩
     ·rw[hany,hit,dE];exact hS10 _
     ·rw[ae _ _ d3];exact k3
     ·rw[ae _ _ d4];exact k4
     ·rw[ae _ _ d6];exact k6
    ·have hit:ol ns p v.held[k]=true:=by simp only[ol,hme,hcn];rfl
     simp only[go_sem,rE,rA,rL,q0,q32,w1,ds,ho']
     refine⟨hk1,_,aj.sub_refl _,q3,q4,q6,q8,q30,q31,rfl,yes hit _,?_,?_,?_⟩
     ·rw[ae _ _ s3,ae _ _ d3];exact k3
     ·rw[ae _ _ s4,ae _ _ d4];exact k4
     ·rw[ae _ _ s6,ae _ _ d6];exact k6
   ·have hit:ol ns p v.held[k]=true:=by simp only[ol,hme];rfl
    simp only[go_sem,rE,rA,rL,q0,q32,w1,ds,ho']
    refine⟨hk1,_,aj.sub_refl _,q3,q4,q6,q8,q30,q31,rfl,yes hit _,?_,?_,?_⟩
    ·rw[ae _ _ s3,ae _ _ d3];exact k3
    ·rw[ae _ _ s4,ae _ _ d4];exact k4
    ·rw[ae _ _ s6,ae _ _ d6];exact k6
  ·have hkk:k=v.held.length:=by omega
   subst hkk
   rw[aW]at hS'
   simp only[go_sem,rE,rA,rL]
   exact As L hS' hn hl q0 q4 q6 q8 k4 k6 hty d46 n4 n6 fun H' ORD' HELD' h=>hR H' ORD' HELD' h
end
structure Sc.good(v:Sc):Prop where
 ok:v.ok
 nd:(v.vars.map (·.name)).Nodup
 len:v.vars.length<=2^30
 hl:v.held.length<=2^30
 hp:∀h∈v.held,h.path.length<=2^30
 lp:∀x∈v.vars,∀q∈x.loans,q.path.length<=2^30
 ll:∀x∈v.vars,x.loans.length<=2^30
 ty:∀x∈v.vars,x.type.okB=true
theorem y7{vs:List Vr}{p:Pl}(h:(eO vs p).2≠0):(eO vs p).1=.mk []:=by
 unfold eO at h⊢
 split
 ·rfl
 ·split
  ·rfl
  ·split
   ·rfl
   ·rename_i x hx hd _ u hu
    simp[hx,hd,hu]at h
theorem nF(vs:List Vr)(x:Vr)(p:Pl):cn (vs++[x]) p=if x.dead||!x.lent then cn vs p else if x.loans.any (fun q=>q.meet p||(cn vs p).any fun m=>eqB m q.name)then x.name::cn vs p else cn vs p:=by
 unfold cn;rw[List.foldl_append];rfl
theorem iY(p:Pl):∀(vs:List Vr) (r:List ByteArray) (N:List ByteArray),(∀n∈r,n∈N)->(∀x∈vs,x.name∈N)->
 (∀n∈vs.foldl (fun r x=>if x.dead||!x.lent then r else if x.loans.any (fun q=>q.meet p||r.any fun m=>eqB m q.name)then x.name::r else r) r,n∈N)/\
 (vs.foldl (fun r x=>if x.dead||!x.lent then r else if x.loans.any (fun q=>q.meet p||r.any fun m=>eqB m q.name)then x.name::r else r) r).length<=r.length+vs.length
 |[],r,N,h,_=>⟨h,by simp⟩
 |x::vs,r,N,h,hx=>by
  rw[d7]
  split
  ·obtain⟨a,b⟩:=iY p vs r N h fun y hy=>hx y (ew _ hy)
   exact⟨a,by simp only[aR];omega⟩
  ·split
   ·obtain⟨a,b⟩:=iY p vs (x.name::r) N (fun n hn=>by
     rcases bi.1 hn with rfl|hn
     ·exact hx x fA
     ·exact h n hn) fun y hy=>hx y (ew _ hy)
    exact⟨a,by simp only[aR]at b⊢;omega⟩
   ·obtain⟨a,b⟩:=iY p vs r N h fun y hy=>hx y (ew _ hy)
    exact⟨a,by simp only[aR];omega⟩
theorem yh(H:aj){b c:Nat}{o o':cz}:H.swap .empty ((aj.empty.set b o).set c o')=(H.set b o).set c o':=by
 ext d:1
 rw[bz,aK,aK,aK,aK]
 by_cases h1:d=c
 ·simp[h1]
 ·by_cases h2:d=b
  ·subst h2;simp[h1]
  ·simp[h1,h2]
section
variable {P:Program}{F:Ids}{er:bK}
theorem nM(L:Lib P F)(hC:eB P F er)(s:Nat)(v:Sc)(p:Pl)(hv:v.good)(hp:p.path.length<=2^30):
 ScC P F er 170 [.ptr s 0,.agg p.enc] s v fun q v'=>q=gR er (v.use p).2/\v'=(v.use p).1:=by
 intro H ORD HELD m1 m2 hE
 refine(L.a Tryz.func170 y170) (by simp[y170,f170]) ?_
 have hpart:=c_kpart (er:=er) L s v p (cg hp (by decide))
 simp only[Pl.enc]at hpart
 simp only[y170,f170,go_sem,rE,rA,rL,Pl.enc]
 intro b3 hb3 b4 hb4
 have d34:=al (ai _ _ _) hb4
 have hb4':H.get b4=none:=by rw[ae _ _ (Ne.symm d34)]at hb4;exact hb4
 have hS4:∀o o',cw F er ((H.set b3 o).set b4 o') s v ORD HELD m1 m2:=fun o o'=>hE.mono fun b hb=>by
  rw[ae _ _ (by rintro rfl;exact hE.mem hb hb4'),ae _ _ (by rintro rfl;exact hE.mem hb hb3)]
 have n3:¬cV F s ORD HELD m1 m2 b3:=fun h=>hE.mem h hb3
 have n4:¬cV F s ORD HELD m1 m2 b4:=fun h=>hE.mem h hb4'
 simp only[go_sem,rE,rA,rL,d34]
 refine cX hpart (hS4 _ _) rfl (.refl _) (fun h=>by simp at h) trivial ?_
 rintro q v1 ORD1 HELD1 H5 fp ⟨rfl,rfl⟩ hS5 hfr -
 have g3:=hfr b3 (.cells [S p.name,au p.path]) (by rw[ae _ _ d34,ai]) n3
 have g4:=hfr b4 (.cells [NIL]) (ai _ _ _) n4
 by_cases hz:(eO v1.vars p).2=0
 ·have hu:v1.use p=({v1 with lost:=v1.lost||v1.held.any (fun h=>h.meet p||(cn v1.vars p).any fun m=>eqB h.name m),vars:=(cn v1.vars p).foldl ir v1.vars},eO v1.vars p):=by simp[Sc.use,hz]
  simp only[gR,hz,dw,Ty.enc_eq]
  simp only[go_sem,rE,rA,rL,a9,aB]
  intro b6 hb6
  have d36:=al g3.1 hb6
  have d46:=al g4.1 hb6
  simp only[go_sem,rE,rA,rL,g3.1,d36]
  have hke:=c_kends (F:=F) L s p
  simp only[Pl.enc]at hke
  refine du hke rfl (aj.sub_empty _) (fun h=>by simp at h) trivial ?_
  rintro q H7 ⟨b,c,hbc,rfl,rfl⟩ hnew
  rw[yh]
  have fb:=hnew b (by rw[ae _ _ hbc,ai];simp) rfl
  have fc:=hnew c (by rw[ai];simp) rfl
  have keep:∀(o o':cz) d x,(H5.set b6 (.cells [.sl 1 none (Ty.encs (eO v1.vars p).1.kids)])).get d=some x->(((H5.set b6 (.cells [.sl 1 none (Ty.encs (eO v1.vars p).1.kids)])).set b o).set c o').get d=some x:=fun o o' d x hx=>by
   rw[ae _ _ (al hx fc),ae _ _ (al hx fb)];exact hx
  have up6:∀d x,H5.get d=some x->(H5.set b6 (.cells [.sl 1 none (Ty.encs (eO v1.vars p).1.kids)])).get d=some x:=fun d x hx=>by
   rw[ae _ _ (al hx hb6)];exact hx
  have hS7:∀o o',cw F er (((H5.set b6 (.cells [.sl 1 none (Ty.encs (eO v1.vars p).1.kids)])).set b o).set c o') s v1 ORD1 HELD1 m1 m2:=fun o o'=>hS5.mono fun d hd=>by
   obtain⟨x,hx⟩:=aI.1 (hS5.mem hd)
   rw[keep _ _ _ _ (up6 _ _ hx),hx]
  refine du (hC (((H5.set b6 (.cells [.sl 1 none (Ty.encs (eO v1.vars p).1.kids)])).set b (.cells [.ptr s 0])).set c (.cells [S p.name,au p.path])) s v1 ORD1 HELD1 m1 m2 b c p (hS7 _ _) hv.nd hv.len hp hv.lp hv.ll (by rw[ae _ _ hbc,ai]) (ai _ _ _)) rfl (aj.sub_refl _) (fun h=>by simp at h) trivial ?_
  rintro q H8 ⟨rfl,rfl⟩ -
  rw[hG]
  simp only[go_sem,rE,rA,rL]
  have hsub:=iY p v1.vars [] (v1.vars.map (·.name)) (by simp) fun x hx=>aZ.2 ⟨x,hx,rfl⟩
  have n6:¬cV F s ORD1 HELD1 m1 m2 b6:=fun h=>hS5.mem h hb6
  refine kg3_wp L (p:=p) (ns:=cn v1.vars p) (b3:=b3) (b4:=b4) (b6:=b6) (hS7 _ _) hsub.1 (cg hsub.2 (by simpa using hv.len)) hp hv.hl hv.hp rfl rfl rfl rfl rfl (keep _ _ _ _ (up6 _ _ g3.1)) (keep _ _ _ _ (up6 _ _ g4.1)) (keep _ _ _ _ (ai _ _ _)) rfl d46 g3.2 g4.2 n6 ?_
  intro H9 ORD9 HELD9 hS9
  refine⟨_,ORD9,HELD9,⟨?_,rfl⟩,?_⟩
  ·rw[hu];simp only[hz,dw]
  ·rw[hu];exact hS9
 ·have hu:v1.use p=(v1,eO v1.vars p):=by simp[Sc.use,hz]
  have hac:er.ac (eO v1.vars p).2=.iface (er.t (eO v1.vars p).2) (er.x (eO v1.vars p).2):=by simp[bK.ac,hz]
  have hty:=y7 hz
  simp only[gR,hac,Ty.enc_eq]
  simp only[go_sem,rE,rA,rL,a9,aB]
  intro b6 hb6
  have d46:=al g4.1 hb6
  simp only[go_sem,rE,rA,rL,g4.1,d46]
  refine cd (off:=0) rfl (ai _ _ _) rfl eX (aj.sub_refl _) ⟨v1,ORD1,HELD1,⟨?_,by rw[hu]⟩,hS5.mono fun d hd=>?_⟩
  ·rw[hu,hty,hac];rfl
  ·rw[ae _ _ (by rintro rfl;exact g4.2 hd),ae _ _ (by rintro rfl;exact hS5.mem hd hb6)]
end
def Vr.core(x:Vr):Vr:={x with dead:=false}
theorem sq(vs:List Vr)(n:ByteArray):(ir vs n).map Vr.core=vs.map Vr.core:=by
 unfold ir
 rw[List.map_map]
 apply eJ
 intro x _
 simp only[Function.comp]
 split<;>rfl
theorem oM:∀(ns:List ByteArray) (vs:List Vr),(ns.foldl ir vs).map Vr.core=vs.map Vr.core
 |[],vs=>rfl
 |n::ns,vs=>by rw[d7,oM ns,sq]
theorem jZ{vs vs':List Vr}(h:vs'.map Vr.core=vs.map Vr.core){y:Vr}(hy:y∈vs'):∃x∈vs,x.name=y.name/\x.loans=y.loans/\x.type=y.type/\x.lent=y.lent/\x.param=y.param:=by
 have:y.core∈vs.map Vr.core:=by rw[<-h];exact bZ hy
 obtain⟨x,hx,e⟩:=aZ.1 this
 cases x;cases y
 simp only[Vr.core,Vr.mk.injEq]at e
 exact⟨_,hx,e.1,e.2.2.2.2.1,e.2.2.2.1,e.2.1,e.2.2.1⟩
theorem qR{vs vs':List Vr}(h:vs'.map Vr.core=vs.map Vr.core):vs'.map (·.name)=vs.map (·.name):=by
 have:=congrArg (List.map (·.name)) h
 simp only[List.map_map]at this
 exact this
theorem gn{vs vs':List Vr}(h:vs'.map Vr.core=vs.map Vr.core):vs'.length=vs.length:=by
 have:=congrArg List.length h
 simpa using this
theorem Sc.good.core{v v':Sc}(h:v.good)(hc:v'.vars.map Vr.core=v.vars.map Vr.core)(hg:v'.given=v.given)(hh:v'.held=v.held):v'.good where
 ok:=fun y hy=>by
  obtain⟨x,hx,e,-⟩:=jZ hc hy
  rw[hg,<-e];exact h.ok x hx
 nd:=by rw[qR hc];exact h.nd
 len:=by rw[gn hc];exact h.len
 hl:=by rw[hh];exact h.hl
 hp:=by rw[hh];exact h.hp
 lp:=fun y hy=>by
  obtain⟨x,hx,-,e,-⟩:=jZ hc hy
  rw[<-e];exact h.lp x hx
 ll:=fun y hy=>by
  obtain⟨x,hx,-,e,-⟩:=jZ hc hy
  rw[<-e];exact h.ll x hx
 ty:=fun y hy=>by
  obtain⟨x,hx,-,-,e,-⟩:=jZ hc hy
  rw[<-e];exact h.ty x hx
theorem Sc.use_core(v:Sc)(p:Pl):(v.use p).1.vars.map Vr.core=v.vars.map Vr.core/\(v.use p).1.given=v.given/\(v.use p).1.held=v.held/\(v.use p).1.p=v.p:=by
 unfold Sc.use
 split
 ·exact⟨oM _ _,rfl,rfl,rfl⟩
 ·exact⟨rfl,rfl,rfl,rfl⟩
theorem ky{v:Sc}(h:v.good)(p:Pl):(v.use p).1.good:=h.core (v.use_core p).1 (v.use_core p).2.1 (v.use_core p).2.2.1
theorem Sc.expr_eq(v:Sc)(k n:Int)(p:Pl)(ks:List Ex):v.expr (.mk k n p ks)=if k=1 then(v,(.mk [],0))else if k=2 then v.use p else match ks with
 |a::b::_=>
  if(v.expr a).2.2=0 then
   if((v.expr a).1.expr b).2.2=0 then
    if k=6 then(((v.expr a).1.expr b).1,if(Ty.mk [(v.expr a).2.1,((v.expr a).1.expr b).2.1]).okB then(.mk [(v.expr a).2.1,((v.expr a).1.expr b).2.1],0)else(.mk [],3))
    else(((v.expr a).1.expr b).1,(.mk [],if decide ((v.expr a).2.1.kids.length=0)&&decide (((v.expr a).1.expr b).2.1.kids.length=0)then 0 else 3))
   else(((v.expr a).1.expr b).1,(.mk [],((v.expr a).1.expr b).2.2))
  else((v.expr a).1,(.mk [],(v.expr a).2.2))
 |_=>(v,(.mk [],3)):=by
 rw[Sc.expr.eq_def]
 all_goals rfl
theorem Sc.expr_core:∀(e:Ex) (v:Sc),(v.expr e).1.vars.map Vr.core=v.vars.map Vr.core/\(v.expr e).1.given=v.given/\(v.expr e).1.held=v.held/\(v.expr e).1.p=v.p
 |.mk k n p ks,v=>by
  rw[Sc.expr_eq]
  split
  ·exact⟨rfl,rfl,rfl,rfl⟩
  ·split
   ·exact v.use_core p
   ·split
    ·rename_i a b l
     obtain⟨a1,a2,a3,a4⟩:=Sc.expr_core a v
     obtain⟨b1,b2,b3,b4⟩:=Sc.expr_core b (v.expr a).1
     split
     ·split
      ·split
       ·exact⟨b1.trans a1,b2.trans a2,b3.trans a3,b4.trans a4⟩
       ·exact⟨b1.trans a1,b2.trans a2,b3.trans a3,b4.trans a4⟩
      ·exact⟨b1.trans a1,b2.trans a2,b3.trans a3,b4.trans a4⟩
     ·exact⟨a1,a2,a3,a4⟩
    ·exact⟨rfl,rfl,rfl,rfl⟩
termination_by e=>SizeOf.sizeOf e
theorem Sc.expr_good{v:Sc}(h:v.good)(e:Ex):(v.expr e).1.good:=h.core (Sc.expr_core e v).1 (Sc.expr_core e v).2.1 (Sc.expr_core e v).2.2.1
theorem xH:∀{n m:Nat} {t:Ty},t.deepB n=true->n<=m->t.deepB m=true
 |0,_,t,h,_=>by simp[Ty.deepB]at h
 |n+1,0,_,_,hm=>by omega
 |n+1,m+1,.mk ks,h,hm=>by
  simp only[Ty.deepB,aw,aS]at h⊢
  exact⟨h.1,fun u hu=>xH (h.2 u hu) (by omega)⟩
theorem lj:(Ty.mk []).okB=true:=by simp[Ty.okB,Ty.deepB]
theorem Ae{vs:List Vr}(h:∀x∈vs,x.type.okB=true)(p:Pl):(eO vs p).1.okB=true:=by
 unfold eO
 split
 ·exact lj
 ·split
  ·exact lj
  ·split
   ·exact lj
   ·rename_i x hx hd _ u hu
    unfold Ty.atOk at hu
    split at hu
    ·rename_i ho
     obtain⟨m,hm,h2⟩:=xL ho hu
     exact xH h2 hm
    ·simp at hu
theorem iE{v:Sc}(h:v.good)(p:Pl):(v.use p).2.1.okB=true:=by
 unfold Sc.use
 split<;>exact Ae h.ty p
theorem i9:∀(e:Ex) {v:Sc},v.good->(v.expr e).2.1.okB=true
 |.mk k n p ks,v,h=>by
  rw[Sc.expr_eq]
  split
  ·exact lj
  ·split
   ·exact iE h p
   ·split
    ·split
     ·split
      ·split
       ·split
        ·assumption
        ·exact lj
       ·exact lj
      ·exact lj
     ·exact lj
    ·exact lj
section
variable {F:Ids}{er:bK}{H:aj}{s:Nat}{v:Sc}{ORD HELD:AC}{m1 m2:Nat}
theorem cw.e2(h:cw F er H s v ORD HELD m1 m2):H.get 0=some (.const (er.o 2) [.iface (er.t 2) (er.x 2)]):=by simpa[Ids.err]using h.errs 2 (.inl rfl)
theorem cw.e3(h:cw F er H s v ORD HELD m1 m2):H.get 1=some (.const (er.o 3) [.iface (er.t 3) (er.x 3)]):=by simpa[Ids.err]using h.errs 3 (.inr (.inl rfl))
theorem cw.e4(h:cw F er H s v ORD HELD m1 m2):H.get 2=some (.const (er.o 4) [.iface (er.t 4) (er.x 4)]):=by simpa[Ids.err]using h.errs 4 (.inr (.inr (.inl rfl)))
theorem cw.e5(h:cw F er H s v ORD HELD m1 m2):H.get 5=some (.const (er.o 5) [.iface (er.t 5) (er.x 5)]):=by simpa[Ids.err]using h.errs 5 (.inr (.inr (.inr rfl)))
theorem cw.new(h:cw F er H s v ORD HELD m1 m2){b:Nat}(hb:H.get b=none)(o:cz):cw F er (H.set b o) s v ORD HELD m1 m2:=h.mono fun c hc=>ae _ _ (by rintro rfl;exact h.mem hc hb)
theorem cw.notin(h:cw F er H s v ORD HELD m1 m2){b:Nat}(hb:H.get b=none):¬cV F s ORD HELD m1 m2 b:=fun hc=>h.mem hc hb
theorem cw.put(h:cw F er H s v ORD HELD m1 m2){b:Nat}(hb:¬cV F s ORD HELD m1 m2 b)(o:cz):cw F er (H.set b o) s v ORD HELD m1 m2:=h.mono fun c hc=>ae _ _ (by rintro rfl;exact hb hc)
end
theorem nb_e3{F:Ids}{s:Nat}{ORD HELD:AC}{m1 m2 b:Nat}(h:¬cV F s ORD HELD m1 m2 b):1≠b:=by
 rintro rfl;exact h (.inr (.inr (.inr (.inr (.inr ⟨3,.inr (.inl rfl),by simp[Ids.err]⟩)))))
theorem bK.acn(er:bK){c:Int}(h:c≠0):er.ac c=.iface (er.t c) (er.x c):=by simp[bK.ac,h]
theorem nS{α:Type}[DecidableEq α]:∀(a b:List α),((a.zip b).all fun p=>decide (p.1=p.2))=((b.zip a).all fun p=>decide (p.1=p.2))
 |[],b=>by cases b<;>simp
 |x::a,[]=>by simp
 |x::a,y::b=>by
  simp only[List.zip_cons_cons,List.all_cons]
  rw[nS a b]
  congr 1
  simp only[eq_comm]
theorem o9(a b:Pl):a.meet b=b.meet a:=by
 unfold Pl.meet
 rw[nS]
 congr 1
 simp only[eq_comm]
structure mT(vs:List Vr):Prop where
 nd:(vs.map (·.name)).Nodup
 ne:∀x∈vs,x.name≠bl []
 up:∀i (h:i<vs.length),∀q∈vs[i].loans,∃j,j<i/\(vs[j]?).map (·.name)=some q.name
theorem mT.front{vs:List Vr}{x:Vr}(h:mT (vs++[x])):mT vs:=by
 refine⟨?_,fun y hy=>h.ne y (List.mem_append_left _ hy),fun i hi q hq=>?_⟩
 ·have:=h.nd;rw[bL,fP]at this;exact this.1
 ·have hi':i<(vs++[x]).length:=by simp;omega
  have e:(vs++[x])[i]=vs[i]:=dm hi
  obtain⟨j,hj,hn⟩:=h.up i hi' q (by rw[e];exact hq)
  refine⟨j,hj,?_⟩
  rw[aO (by omega)]at hn
  exact hn
theorem ud{α:Type}{motive:List α->Prop}(nil:motive [])(snoc:∀l x,motive l->motive (l++[x]))(l:List α):motive l:=by
 have h:∀l:List α,motive l.reverse:=by
  intro l
  induction l with
  |nil=>exact nil
  |cons x l ih=>rw[List.reverse_cons];exact snoc _ _ ih
 have:=h l.reverse
 rwa[List.reverse_reverse]at this
theorem uv{vs:List Vr}(h:(vs.map (·.name)).Nodup){i j:Nat}(hi:i<vs.length)(hj:j<vs.length)(e:vs[i].name=vs[j].name):i=j:=by
 have hp:=List.pairwise_iff_getElem.1 h
 rcases Nat.lt_trichotomy i j with hlt|heq|hgt
 ·exact absurd (by rw[iO,iO];exact e) (hp i j (by simpa using hi) (by simpa using hj) hlt)
 ·exact heq
 ·exact absurd (by rw[iO,iO];exact e.symm) (hp j i (by simpa using hj) (by simpa using hi) hgt)
theorem px(vs:List Vr)(p:Pl){n:ByteArray}(h:n∈cn vs p):∃i,∃hi:i<vs.length,vs[i].name=n:=by
 have:=(iY p vs [] (vs.map (·.name)) (by simp) fun x hx=>aZ.2 ⟨x,hx,rfl⟩).1 n h
 obtain⟨x,hx,rfl⟩:=aZ.1 this
 obtain⟨i,hi,rfl⟩:=bk.1 hx
 exact⟨i,hi,rfl⟩
theorem oO(p:Pl):∀(vs:List Vr),mT vs->∀i (h:i<vs.length),vs[i].name∈cn vs p↔(vs[i].dead=false/\vs[i].lent=true/\∃q∈vs[i].loans,q.meet p=true\/q.name∈cn vs p):=by
 intro vs
 induction vs using ud with
 |nil=>intro _ i h;simp at h
 |snoc vs x ih=>
  intro hok i hi
  have ihv:=ih hok.front
  have hx:x.name∉vs.map (·.name):=by
   have:=hok.nd
   rw[bL,fP]at this
   intro hm
   exact this.2.2 _ hm x.name (by simp) rfl
  have hxe:x.name∉cn vs p:=fun hm=>by
   obtain⟨j,hj,e⟩:=px vs p hm
   exact hx (aZ.2 ⟨vs[j],az hj,e⟩)
  have mem_iff:∀n,n≠x.name->(n∈cn (vs++[x]) p↔n∈cn vs p):=fun n hn=>by
   rw[nF]
   split
   ·rfl
   ·split
    ·simp[hn]
    ·rfl
  have iK:∀k (hk:k<(vs++[x]).length),∀q∈(vs++[x])[k].loans,q.name≠x.name:=fun k hk q hq e=>by
   obtain⟨j,hj,hn⟩:=hok.up k hk q hq
   simp at hk
   have hjl:j<vs.length:=by omega
   rw[aO hjl,a6 hjl]at hn
   simp at hn
   exact hx (aZ.2 ⟨vs[j],az hjl,hn.trans e⟩)
  by_cases hlt:i<vs.length
  ·have e:(vs++[x])[i]=vs[i]:=dm hlt
   have hne:vs[i].name≠x.name:=fun e'=>hx (aZ.2 ⟨vs[i],az hlt,e'⟩)
   rw[e,mem_iff _ hne,ihv i hlt]
   constructor
   ·rintro⟨h1,h2,q,hq,h3⟩
    exact⟨h1,h2,q,hq,h3.imp id fun h=>(mem_iff _ (iK i hi q (by rw[e];exact hq))).2 h⟩
   ·rintro⟨h1,h2,q,hq,h3⟩
    exact⟨h1,h2,q,hq,h3.imp id fun h=>(mem_iff _ (iK i hi q (by rw[e];exact hq))).1 h⟩
  ·have hil:i=vs.length:=by simp at hi;omega
   subst hil
   have e:(vs++[x])[vs.length]=x:=by simp
   rw[e]
   have any_iff:(x.loans.any fun q=>q.meet p||(cn vs p).any fun m=>eqB m q.name)=true↔∃q∈x.loans,q.meet p=true\/q.name∈cn vs p:=by
    simp only[iP,dh]
    constructor
    ·rintro⟨q,hq,h|⟨m,hm,he⟩⟩
     ·exact⟨q,hq,.inl h⟩
     ·exact⟨q,hq,.inr (cN.1 he▸hm)⟩
    ·rintro⟨q,hq,h|h⟩
     ·exact⟨q,hq,.inl h⟩
     ·exact⟨q,hq,.inr ⟨_,h,dT _⟩⟩
   have tail:(∃q∈x.loans,q.meet p=true\/q.name∈cn (vs++[x]) p)↔∃q∈x.loans,q.meet p=true\/q.name∈cn vs p:=by
    constructor
    ·rintro⟨q,hq,h3⟩
     exact⟨q,hq,h3.imp id fun h=>(mem_iff _ (iK vs.length hi q (by rw[e];exact hq))).1 h⟩
    ·rintro⟨q,hq,h3⟩
     exact⟨q,hq,h3.imp id fun h=>(mem_iff _ (iK vs.length hi q (by rw[e];exact hq))).2 h⟩
   rw[tail,<-any_iff]
   conv=>lhs;rw[nF]
   cases hd:x.dead
   ·cases hl:x.lent
    ·simp[hxe]
    ·simp only[Bool.not_true,gG,aq,if_false,true_and]
     split
     ·rename_i h;simp[h]
     ·rename_i h;simp[h,hxe]
   ·simp[hxe]
structure rj(vs T:List Vr)(held:List Pl):Prop where
 len:T.length=held.length
 tmp:∀i (h:i<T.length) (h':i<held.length),T[i].name=bl []/\T[i].lent=true/\T[i].loans=[held[i]]
 nm:∀h∈held,∃x∈vs,x.name=h.name
def InS(vs T:List Vr)(p:Pl)(i:Nat):Prop:=∃h:i<(vs++T).length,(vs++T)[i].dead=false/\(vs++T)[i].lent=true/\∃q∈(vs++T)[i].loans,q.meet p=true\/q.name∈cn vs p
theorem u5{vs:List Vr}{p q:Pl}{out:List Nat}(h:jT vs p out q=true):q.meet p=true\/∃n∈out,∃hn:n<vs.length,vs[n].name=q.name:=by
 simp only[jT,dh,iP]at h
 rcases h with h|⟨n,hn,h⟩
 ·exact .inl (by rw[o9];exact h)
 ·refine .inr ⟨n,hn,?_⟩
  unfold nz at h
  split at h
  ·rename_i v hv
   obtain⟨hl,rfl⟩:=aN.1 hv
   exact⟨hl,by simpa using h⟩
  ·simp at h
section
variable {vs T:List Vr}{held:List Pl}{p:Pl}
theorem uF(hv:mT vs)(hT:rj vs T held){i:Nat}(hi:i<(vs++T).length)(hn:(vs++T)[i].name≠bl [])(hs:InS vs T p i):(vs++T)[i].name∈cn vs p:=by
 obtain⟨h,h1,h2,h3⟩:=hs
 by_cases hlt:i<vs.length
 ·have e:(vs++T)[i]=vs[i]:=dm hlt
  rw[e]at h1 h2 h3⊢
  exact(oO p vs hv i hlt).2 ⟨h1,h2,h3⟩
 ·exfalso
  have hl:i - vs.length<T.length:=by simp at hi;omega
  have e:(vs++T)[i]=T[i - vs.length]:=List.getElem_append_right (by omega)
  rw[e]at hn
  exact hn (hT.tmp _ hl (by rw[<-hT.len];exact hl)).1
theorem iK(hv:mT vs)(hT:rj vs T held){i:Nat}(hi:i<(vs++T).length){q:Pl}(hq:q∈(vs++T)[i].loans):∃j,∃hj:j<vs.length,vs[j].name=q.name/\j<i/\q.name≠bl []:=by
 by_cases hlt:i<vs.length
 ·have e:(vs++T)[i]=vs[i]:=dm hlt
  rw[e]at hq
  obtain⟨j,hj,hn⟩:=hv.up i hlt q hq
  have hjl:j<vs.length:=by omega
  rw[a6 hjl]at hn
  simp at hn
  exact⟨j,hjl,hn,hj,by rw[<-hn];exact hv.ne _ (az hjl)⟩
 ·have hl:i - vs.length<T.length:=by simp at hi;omega
  have e:(vs++T)[i]=T[i - vs.length]:=List.getElem_append_right (by omega)
  have hl':i - vs.length<held.length:=by rw[<-hT.len];exact hl
  rw[e,(hT.tmp _ hl hl').2.2]at hq
  simp at hq
  subst hq
  obtain⟨x,hx,hn⟩:=hT.nm _ (az hl')
  obtain⟨j,hj,rfl⟩:=bk.1 hx
  exact⟨j,hj,hn,by omega,by rw[<-hn];exact hv.ne _ hx⟩
theorem oc(hv:mT vs)(hT:rj vs T held):∀(k i:Nat),i∈bG (vs++T) p k->InS vs T p i
 |0,i,h=>by simp[bG]at h
 |k+1,i,h=>by
  simp only[bG,jm]at h
  split at h
  ·rename_i v hvv
   obtain⟨hl,rfl⟩:=aN.1 hvv
   split at h
   ·rename_i hc
    rcases aE.1 h with h|h
    ·exact oc hv hT k i h
    ·rw[bQ]at h
     subst h
     obtain⟨h1,h2,h3⟩:=hc
     obtain⟨q,hq,hm⟩:=iP.1 h3
     refine⟨hl,h1,h2,q,hq,?_⟩
     rcases u5 hm with h|⟨n,hn,hnl,he⟩
     ·exact .inl h
     ·obtain⟨_,_,_,_,hqn⟩:=iK hv hT hl hq
      have:=uF hv hT hnl (by rw[he];exact hqn) (oc hv hT k n hn)
      rw[he]at this
      exact .inr this
   ·exact oc hv hT k i h
  ·exact oc hv hT k i h
theorem raw_mem{W:List Vr}{p:Pl}:∀(k i:Nat),i∈bG W p k->i∈bG W p (k+1)
 |k,i,h=>by
  simp only[bG,jm]
  split
  ·split
   ·exact List.mem_append_left _ h
   ·exact h
  ·exact h
theorem zZ{W:List Vr}{p:Pl}{k m i:Nat}(h:i∈bG W p k)(hm:k<=m):i∈bG W p m:=by
 induction hm with
 |refl=>exact h
 |step _ ih=>exact raw_mem _ _ ih
theorem inS_raw{W:List Vr}{p:Pl}{i:Nat}(hi:i<W.length)(h1:W[i].dead=false)(h2:W[i].lent=true){q:Pl}(hq:q∈W[i].loans)(hm:q.meet p=true):i∈bG W p W.length:=by
 have:i∈bG W p (W.length - 1 - i+1):=by
  simp only[bG,jm]
  have e:W.length - 1 - (W.length - 1 - i)=i:=by omega
  rw[e,a6 hi]
  simp only
  rw[if_pos]
  ·simp
  ·refine⟨h1,h2,iP.2 ⟨q,hq,?_⟩⟩
   simp only[jT,dh]
   exact .inl (by rw[o9];exact hm)
 exact zZ this (by omega)
theorem yH(hv:mT vs)(hT:rj vs T held)(i:Nat):p9 (vs++T) (bG (vs++T) p (vs++T).length) i↔InS vs T p i:=by
 constructor
 ·intro h
  induction h with
  |base h=>exact oc hv hT _ _ h
  |step hi hd hl hq hj hjl hn ih=>
   obtain⟨_,_,_,_,hqn⟩:=iK hv hT hi hq
   have:=uF hv hT hjl (by rw[hn];exact hqn) ih
   rw[hn]at this
   exact⟨hi,hd,hl,_,hq,.inr this⟩
 ·induction i using Nat.strongRecOn with
  |_ i ih=>
   rintro⟨hi,h1,h2,q,hq,h|h⟩
   ·exact .base (inS_raw hi h1 h2 hq h)
   ·obtain⟨j,hj,hn,hji,-⟩:=iK hv hT hi hq
    have hjW:j<(vs++T).length:=by simp;omega
    have e:(vs++T)[j]=vs[j]:=dm hj
    have hin:vs[j].name∈cn vs p:=by rw[hn];exact h
    obtain⟨a1,a2,a3⟩:=(oO p vs hv j hj).1 hin
    exact .step hi h1 h2 hq (ih j hji ⟨hjW,by rw[e];exact⟨a1,a2,a3⟩⟩) hjW (by rw[e];exact hn)
theorem sh(hv:mT vs)(hT:rj vs T held)(i:Nat):i∈eU (vs++T) p↔InS vs T p i:=by
 unfold eU wa
 rw[eR]
 simp only[List.mem_reverse,fk,decide_eq_true_eq,yH hv hT]
 exact⟨fun h=>h.2,fun h=>⟨h.1,h⟩⟩
end
theorem xM(ns:List ByteArray)(n:ByteArray):(ns.any fun m=>eqB m n)=true↔n∈ns:=by
 rw[iP]
 exact⟨fun⟨m,hm,h⟩=>cN.1 h▸hm,fun h=>⟨n,h,dT _⟩⟩
theorem mC:∀(ns:List ByteArray) (vs:List Vr),ns.foldl ir vs=vs.map fun x=>if ns.any (fun m=>eqB m x.name)then {x with dead:=true}else x
 |[],vs=>by simp
 |n::ns,vs=>by
  rw[d7,mC ns,ir,List.map_map]
  apply eJ
  intro x _
  simp only[Function.comp,List.any_cons]
  by_cases h:eqB x.name n=true
  ·have e:eqB n x.name=true:=cN.2 (cN.1 h).symm
   simp only[h,e,if_true,dV]
   split<;>rfl
  ·have e:eqB n x.name=false:=cC.2 fun e=>h (cN.2 e.symm)
   simp only[h,e,dG]
   rfl
theorem qC:∀(L:List Nat) (vs:List Vr) (i:Nat),(ki vs L)[i]?=(vs[i]?).map fun x=>if i∈L then {x with dead:=true}else x
 |[],vs,i=>by simp[ki]
 |j::L,vs,i=>by
  have:=qC L (iV vs j) i
  simp only[ki,d7]at this⊢
  rw[this]
  simp only[iV,List.getElem?_modify,Option.map_map]
  cases vs[i]? with
  |none=>rfl
  |some x=>
   by_cases h1:i∈L
   ·simp only[bW,Function.comp,h1,if_true,bi,or_true]
    split<;>rfl
   ·by_cases h2:j=i
    ·simp[h1,h2]
    ·simp[h1,h2,Ne.symm h2]
structure Rel(e:En)(u:Sc)(T:List Vr):Prop where
 vars:e.vars=u.vars++T
 names:e.names=u.given
 code:e.code=0
 p:u.p=e.p.take e.fn
 ok:mT u.vars
 tmp:rj u.vars T u.held
 lost:u.lost=T.any (·.dead)
 giv:u.ok
theorem xX(vs:List Vr)(n:ByteArray):vs.find? (fun x=>eqB x.name n)=(fM vs n).bind fun i=>vs[i]?:=by
 unfold fM
 induction vs with
 |nil=>rfl
 |cons x vs ih=>
  rw[List.find?_cons,List.findIdx?_cons]
  by_cases h:x.name=n
  ·subst h;simp[dT]
  ·have:eqB x.name n=false:=cC.2 h
   rw[this]
   simp only[decide_eq_true_eq,h,if_false,Option.bind_map,ih]
   rfl
theorem z8{vs T:List Vr}{held:List Pl}(hT:rj vs T held){n:ByteArray}(hn:n≠bl []):fM (vs++T) n=fM vs n:=by
 unfold fM
 rw[List.findIdx?_append]
 have:T.findIdx? (fun v=>decide (v.name=n))=none:=by
  rw[ip]
  intro x hx
  obtain⟨i,hi,rfl⟩:=bk.1 hx
  have:=(hT.tmp i hi (by rw[<-hT.len];exact hi)).1
  simp only[decide_eq_false_iff_not,this]
  exact Ne.symm hn
 rw[this]
 simp
theorem mT.core{vs ws:List Vr}(h:mT vs)(hc:ws.map Vr.core=vs.map Vr.core):mT ws:=by
 have hl:=gn hc
 have hg:∀i (hi:i<ws.length) (hi':i<vs.length),ws[i].core=vs[i].core:=fun i hi hi'=>by
  have:=congrArg (·[i]?) hc
  simpa[hi,hi']using this
 refine⟨by rw[qR hc];exact h.nd,fun y hy=>?_,fun i hi q hq=>?_⟩
 ·obtain⟨x,hx,e,-⟩:=jZ hc hy
  rw[<-e];exact h.ne x hx
 ·have hi':i<vs.length:=by rw[<-hl];exact hi
  have e:=hg i hi hi'
  have:ws[i].loans=vs[i].loans:=by
   have:=congrArg Vr.loans e;exact this
  rw[this]at hq
  obtain⟨j,hj,hn⟩:=h.up i hi' q hq
  refine⟨j,hj,?_⟩
  have hjv:j<vs.length:=by omega
  have hjw:j<ws.length:=by omega
  rw[a6 hjv]at hn
  rw[a6 hjw]
  have:=congrArg Vr.name (hg j hjw hjv)
  simp only[bW,Option.some.injEq]at hn⊢
  exact this.trans hn
theorem kW{e:En}{u:Sc}{T:List Vr}(h:Rel e u T){p:Pl}(hp:p.name≠bl []):
 ((u.use p).2.2=0/\(∃T',Rel (e.use p).1 (u.use p).1 T')/\(e.use p).2=(u.use p).2.1/\∃x∈u.vars,x.name=p.name)\/((u.use p).2.2≠0/\(e.use p).1.code=(u.use p).2.2):=by
 have hidx:=z8 h.tmp hp
 have hfind:=xX u.vars p.name
 unfold En.use Sc.use eO
 rw[h.vars,hidx,hfind]
 cases hi:fM u.vars p.name with
 |none=>
  right
  simp[h.code,dv]
 |some i=>
  obtain⟨hil,hname,-⟩:=bN.1 hi
  have hname:u.vars[i].name=p.name:=by simpa using hname
  have e1:(u.vars++T)[i]?=some u.vars[i]:=by rw[aO hil,a6 hil]
  have e2:u.vars[i]?=some u.vars[i]:=a6 hil
  simp only[Option.bind_some,e1,e2]
  cases hd:u.vars[i].dead with
  |true=>
   right
   simp only[if_true,h.code,dv]
   refine⟨by simp,?_⟩
   cases(u.vars[i].type.atOk p.path).isSome<;>simp
  |false=>
   cases ht:u.vars[i].type.atOk p.path with
   |none=>
    right
    simp[h.code,dv]
   |some t=>
    left
    simp only[aq,if_false,if_true,Option.isSome_some,Option.getD_some]
    refine⟨trivial,?_,trivial,u.vars[i],az hil,hname⟩
    have hkl:(ki (u.vars++T) (eU (u.vars++T) p)).length=u.vars.length+T.length:=by rw[lU];simp
    have hfl:((cn u.vars p).foldl ir u.vars).length=u.vars.length:=by rw[mC];simp
    have hpre:(ki (u.vars++T) (eU (u.vars++T) p)).take u.vars.length=(cn u.vars p).foldl ir u.vars:=by
     apply fQ
     intro k
     by_cases hk:k<u.vars.length
     ·rw[dq hk,qC,aO hk,a6 hk,mC,co,a6 hk]
      simp only[bW,Option.some.injEq]
      have hm:=sh (p:=p) h.ok h.tmp k
      have hk':k<(u.vars++T).length:=by simp;omega
      have ek:(u.vars++T)[k]=u.vars[k]:=dm hk
      have:k∈eU (u.vars++T) p↔((cn u.vars p).any fun m=>eqB m u.vars[k].name)=true:=by
       rw[hm,xM,oO p u.vars h.ok k hk]
       constructor
       ·rintro⟨_,a,b,c⟩;rw[ek]at a b c;exact⟨a,b,c⟩
       ·intro a;exact⟨hk',by rw[ek];exact a⟩
      by_cases hin:k∈eU (u.vars++T) p
      ·rw[if_pos hin,if_pos (this.1 hin)]
      ·rw[if_neg hin,if_neg (fun h=>hin (this.2 h))]
     ·rw[fx (by rw[bI];omega),fx (by omega)]
    have hT':∀k (hk:k<T.length),(ki (u.vars++T) (eU (u.vars++T) p))[u.vars.length+k]?=some (if u.vars.length+k∈eU (u.vars++T) p then {T[k]with dead:=true}else T[k]):=fun k hk=>by
     rw[qC,be (by omega),Nat.add_sub_cancel_left,a6 hk]
     rfl
    have hdl:((ki (u.vars++T) (eU (u.vars++T) p)).drop u.vars.length).length=T.length:=by rw[eV,hkl];omega
    have hget:∀k (hk:k<((ki (u.vars++T) (eU (u.vars++T) p)).drop u.vars.length).length) (hk':k<T.length),((ki (u.vars++T) (eU (u.vars++T) p)).drop u.vars.length)[k]=if u.vars.length+k∈eU (u.vars++T) p then {T[k]with dead:=true}else T[k]:=fun k hk hk'=>by
     have:=hT' k hk'
     have e:=bU (xs:=ki (u.vars++T) (eU (u.vars++T) p)) (i:=u.vars.length) (j:=k)
     rw[this,a6 hk]at e
     simpa using e
    have hcore:((cn u.vars p).foldl ir u.vars).map Vr.core=u.vars.map Vr.core:=oM _ _
    refine⟨(ki (u.vars++T) (eU (u.vars++T) p)).drop u.vars.length,?_,h.names,h.code,h.p,h.ok.core hcore,⟨hdl.trans h.tmp.len,fun k hk hk'=>?_,fun q hq=>?_⟩,?_,fun y hy=>by
     obtain⟨z,hz,ez,-⟩:=jZ hcore hy
     have:=h.giv z hz
     rw[ez]at this;exact this⟩
    ·simp only
     rw[<-hpre,ic]
    ·rw[hget k hk (by rw[<-hdl];exact hk)]
     obtain⟨a,b,c⟩:=h.tmp.tmp k (by rw[<-hdl];exact hk) hk'
     split
     ·exact⟨a,b,c⟩
     ·exact⟨a,b,c⟩
    ·obtain⟨x,hx,e⟩:=h.tmp.nm q hq
     have:x.core∈((cn u.vars p).foldl ir u.vars).map Vr.core:=by rw[hcore];exact bZ hx
     obtain⟨y,hy,ey⟩:=aZ.1 this
     exact⟨y,hy,by have:=congrArg Vr.name ey;exact this.trans e⟩
    ·simp only
     rw[h.lost,aX]
     simp only[dh,iP]
     have dead_iff:∀k (hk:k<T.length),u.vars.length+k∈eU (u.vars++T) p↔(T[k].dead=false/\(u.held[k]'(by rw[<-h.tmp.len];exact hk)).meet p=true\/T[k].dead=false/\(u.held[k]'(by rw[<-h.tmp.len];exact hk)).name∈cn u.vars p):=fun k hk=>by
      have hkh:k<u.held.length:=by rw[<-h.tmp.len];exact hk
      obtain⟨a,b,c⟩:=h.tmp.tmp k hk hkh
      have hk':u.vars.length+k<(u.vars++T).length:=by simp;omega
      have ek:(u.vars++T)[u.vars.length+k]=T[k]:=by rw[List.getElem_append_right (by omega)];simp
      rw[sh (p:=p) h.ok h.tmp]
      constructor
      ·rintro⟨_,x,y,q,hq,z⟩
       rw[ek]at x y hq
       rw[c]at hq
       simp at hq
       subst hq
       exact z.imp (fun z=>⟨x,z⟩) fun z=>⟨x,z⟩
      ·rintro(⟨x,z⟩|⟨x,z⟩)
       ·exact⟨hk',by rw[ek];exact⟨x,b,_,by rw[c];exact bQ.2 rfl,.inl z⟩⟩
       ·exact⟨hk',by rw[ek];exact⟨x,b,_,by rw[c];exact bQ.2 rfl,.inr z⟩⟩
     constructor
     ·rintro(⟨t,ht,hd⟩|⟨q,hq,hm⟩)
      ·obtain⟨k,hk,rfl⟩:=bk.1 ht
       refine⟨_,az (n:=k) (by rw[hdl];exact hk),?_⟩
       rw[hget k _ hk]
       split
       ·rfl
       ·exact hd
      ·obtain⟨k,hk,rfl⟩:=bk.1 hq
       have hkT:k<T.length:=by rw[h.tmp.len];exact hk
       refine⟨_,az (n:=k) (by rw[hdl];exact hkT),?_⟩
       rw[hget k _ hkT]
       cases hd:T[k].dead
       ·rw[if_pos]
        rw[dead_iff k hkT]
        rcases hm with hm|⟨m,hm,he⟩
        ·exact .inl ⟨hd,hm⟩
        ·exact .inr ⟨hd,by rw[cN.1 he];exact hm⟩
       ·split
        ·rfl
        ·exact hd
     ·rintro⟨t,ht,hd⟩
      obtain⟨k,hk,rfl⟩:=bk.1 ht
      have hkT:k<T.length:=by rw[<-hdl];exact hk
      rw[hget k hk hkT]at hd
      split at hd
      ·rename_i hin
       have hkh:k<u.held.length:=by rw[<-h.tmp.len];exact hkT
       rcases(dead_iff k hkT).1 hin with⟨-,hm⟩|⟨-,hm⟩
       ·exact .inr ⟨_,az hkh,.inl hm⟩
       ·exact .inr ⟨_,az hkh,.inr ⟨_,hm,dT _⟩⟩
      ·exact .inl ⟨_,az hkT,hd⟩
theorem i7{c d:Int}(h:c≠0):dv c d=c:=by simp[dv,h]
theorem fy{v:En}(h:v.code≠0)(c:Int):(v.fail c).code=v.code:=i7 h
theorem fS{v:En}(h:v.code≠0)(t:Ty):(v.num t).code=v.code:=by simp only[En.num];split<;>simp[i7 h]
theorem eM{v:En}(h:v.code≠0)(a t:Ty):(v.same a t).code=v.code:=by simp only[En.same];split<;>simp[i7 h]
theorem eE{v:En}(h:v.code≠0)(x:Vr):(v.add x).code=v.code:=by simp only[En.add,zn];split<;>simp[i7 h]
theorem jt{v:En}(h:v.code≠0)(p:Pl):(v.use p).1.code=v.code:=by
 unfold En.use
 split
 ·simp[i7 h]
 ·split
  ·rfl
  ·simp only[]
   split<;>split<;>simp[i7 h]
theorem jD:∀(e:Ex) {v:En},v.code≠0->(v.expr e).1.code=v.code
 |.mk k n p ks,v,h=>by
  rw[En.expr_eq]
  split
  ·rfl
  ·split
   ·exact jt h p
   ·split
    ·rename_i a b l
     have ha:=jD a h
     have hb:=(jD b (by rw[ha];exact h)).trans ha
     have hb0:((v.expr a).1.expr b).1.code≠0:=by rw[hb];exact h
     split
     ·split
      ·exact hb
      ·exact(fy hb0 3).trans hb
     ·have h1:=fS hb0 (v.expr a).2
      exact((fS (by rw[h1];exact hb0) _).trans h1).trans hb
    ·rfl
termination_by e=>SizeOf.sizeOf e
theorem ii:∀(l:List (Pa×Ag)) {v:En} (pl:List Pl),v.code≠0->(v.args l pl).1.code=v.code
 |[],v,pl,h=>rfl
 |(p,a)::l,v,pl,h=>by
  rw[En.args]
  split
  ·exact fy h 3
  ·split
   ·have h1:=jt h a.place
    have h2:=(eM (by rw[h1];exact h) (v.use a.place).2 p.type).trans h1
    exact(ii l _ (by show(En.same _ _ _).code≠0;rw[h2];exact h)).trans h2
   ·have h1:=jD a.expr h
    have h2:=(eM (by rw[h1];exact h) (v.expr a.expr).2 p.type).trans h1
    exact(ii l _ (by rw[h2];exact h)).trans h2
theorem tM{v:En}(h:v.code≠0)(n:Nat):(v.gone n).code=v.code:=by unfold En.gone;split<;>simp[fy h]
theorem og{v:En}(h:v.code=0)(t:Ty):(v.num t).code=if t.kids.length=0 then 0 else 3:=by
 simp only[En.num,cG,h,dv,if_true]
theorem iT{v:En}(h:v.code=0)(a t:Ty):(v.same a t).code=if eqB a t then 0 else 3:=by
 simp only[En.same,h,dv,if_true]
 by_cases e:a=t
 ·rw[if_pos e,if_pos (cN.2 e)]
 ·rw[if_neg e,if_neg (fun h=>e (cN.1 h))]
theorem Rel.code0{e e':En}{u:Sc}{T:List Vr}(h:Rel e u T)(hv:e'.vars=e.vars)(hn:e'.names=e.names)(hp:e'.p=e.p)(hf:e'.fn=e.fn)(hc:e'.code=0):Rel e' u T:=
 ⟨hv.trans h.vars,hn.trans h.names,hc,by rw[hp,hf];exact h.p,h.ok,h.tmp,h.lost,h.giv⟩
theorem Rel.num{e:En}{u:Sc}{T:List Vr}(h:Rel e u T){t:Ty}(ht:t.kids.length=0):Rel (e.num t) u T:=h.code0 rfl rfl rfl rfl (by rw[og h.code,if_pos ht])
theorem Rel.same{e:En}{u:Sc}{T:List Vr}(h:Rel e u T){a t:Ty}(ht:eqB a t=true):Rel (e.same a t) u T:=h.code0 rfl rfl rfl rfl (by rw[iT h.code,if_pos ht])
theorem jS{p:Pl}(h:p.okB=true):p.name≠bl []:=by
 simp only[Pl.okB,aw]at h
 intro e
 rw[e]at h
 have:=h.1
 simp[bj,bl]at this
 exact absurd this.1 (by decide)
theorem mb:∀(d:Nat) (x:Ex),x.okD d=true->∀{e:En} {u:Sc} {T:List Vr},Rel e u T->
 ((u.expr x).2.2=0/\(∃T',Rel (e.expr x).1 (u.expr x).1 T')/\(e.expr x).2=(u.expr x).2.1)\/((u.expr x).2.2≠0/\(e.expr x).1.code=(u.expr x).2.2):=by
 intro d
 induction d with
 |zero=>intro x hx;simp[Ex.okD]at hx
 |succ d ih=>
  intro x hx e u T h
  by_cases k1:x.kind=1
  ·obtain⟨k,n,p,ks⟩:=x
   have k1:k=1:=k1
   simp only[En.expr_eq,Sc.expr_eq,k1,if_true]
   exact .inl ⟨trivial,⟨T,h⟩,trivial⟩
  by_cases k2:x.kind=2
  ·have ho:=ql d k2
   rw[hx]at ho
   have hp:x.place.okB=true:=by
    cases h2:x.place.okB with
    |true=>rfl
    |false=>rw[h2]at ho;simp at ho
   obtain⟨k,n,p,ks⟩:=x
   have k2:k=2:=k2
   have hp:p.okB=true:=hp
   simp only[En.expr_eq,Sc.expr_eq,k2,bm,if_true,if_false]
   rcases kW h (p:=p) (jS hp)with⟨a,b,c,-⟩|⟨a,b⟩
   ·exact .inl ⟨a,b,c⟩
   ·exact .inr ⟨a,b⟩
  have k36:3<=x.kind/\x.kind<=6:=by
   rcases Classical.em (3<=x.kind/\x.kind<=6)with h|h
   ·exact h
   ·have:=kI d k1 k2 (.inl h);rw[hx]at this;simp at this
  have hl:x.kids.length=2:=by
   rcases Nat.decEq x.kids.length 2 with h|h
   ·have:=kI d k1 k2 (.inr h);rw[hx]at this;simp at this
   ·exact h
  obtain⟨k,n,p,ks⟩:=x
  simp only[Ex.kids,Ex.kind]at hl k1 k2 k36
  match ks,hl with
  |[a,b],_=>
   have ho:=sZ d (e:=.mk k n p [a,b]) k36 rfl
   rw[hx]at ho
   have hab:a.okD d=true/\b.okD d=true:=by
    cases h1:a.okD d<;>cases h2:b.okD d<;>simp[h1,h2]at ho⊢
   simp only[En.expr_eq,Sc.expr_eq,if_neg k1,if_neg k2]
   rcases ih a hab.1 h with⟨a1,⟨T1,a2⟩,a3⟩|⟨a1,a2⟩
   ·rw[if_pos a1]
    rcases ih b hab.2 a2 with⟨b1,⟨T2,b2⟩,b3⟩|⟨b1,b2⟩
    ·rw[if_pos b1]
     rw[a3,b3]
     by_cases k6:k=6
     ·rw[if_pos k6,if_pos k6]
      cases hok:(Ty.mk [(u.expr a).2.1,((u.expr a).1.expr b).2.1]).okB
      ·simp only[aq,if_false]
       exact .inr ⟨by decide,by simp[En.fail,dv,b2.code]⟩
      ·simp only[if_true]
       exact .inl ⟨trivial,⟨T2,b2⟩,trivial⟩
     ·rw[if_neg k6,if_neg k6]
      by_cases n1:(u.expr a).2.1.kids.length=0
      ·have r1:=b2.num n1
       by_cases n2:((u.expr a).1.expr b).2.1.kids.length=0
       ·left
        simp only[n1,n2,decide_true,fD,if_true]
        exact⟨trivial,⟨T2,r1.num n2⟩,trivial⟩
       ·right
        simp only[n1,n2,decide_true,decide_false,aM,aq,if_false]
        exact⟨by decide,by rw[og r1.code,if_neg n2]⟩
      ·right
       simp only[n1,decide_false,aL,aq,if_false]
       have hc:=og b2.code (u.expr a).2.1
       rw[if_neg n1]at hc
       exact⟨by decide,by rw[fS (by rw[hc];decide),hc]⟩
    ·rw[if_neg b1]
     right
     refine⟨b1,?_⟩
     have hb0:((e.expr a).1.expr b).1.code≠0:=by rw[b2];exact b1
     split
     ·split
      ·exact b2
      ·exact(fy hb0 3).trans b2
     ·have h1:=fS hb0 (e.expr a).2
      exact((fS (by rw[h1];exact hb0) _).trans h1).trans b2
   ·rw[if_neg a1]
    right
    refine⟨a1,?_⟩
    have ha0:(e.expr a).1.code≠0:=by rw[a2];exact a1
    have hb:=(jD b ha0).trans a2
    have hb0:((e.expr a).1.expr b).1.code≠0:=by rw[hb];exact a1
    split
    ·split
     ·exact hb
     ·exact(fy hb0 3).trans hb
    ·have h1:=fS hb0 (e.expr a).2
     exact((fS (by rw[h1];exact hb0) _).trans h1).trans hb
section
variable {P:Program}{F:Ids}{er:bK}
theorem ow(L:Lib P F)(T:Tys F)(hC:eB P F er)(s:Nat):∀(d:Nat),d<=100->∀(e:Ex),e.okD d=true->∀v:Sc,v.good->
 ScC P F er 171 [.ptr s 0,.agg e.enc] s v fun q v'=>q=gR er (v.expr e).2/\v'=(v.expr e).1:=by
 intro d
 induction d with
 |zero=>intro _ e he;simp[Ex.okD]at he
 |succ d ih=>
  intro hd e he v hv H ORD HELD m1 m2 hE
  refine(L.a Tryz.func171 y171) (by simp[y171]) ?_
  have hex:=vh L e
  rw[Ex.enc_eq]at hex
  obtain⟨ek,en,ep,eks⟩:=e
  rw[Ex.enc_eq]
  simp only[y171,go_sem,rE,rA,rL]
  intro b3 hb3 b4 hb4
  have d34:=al (ai _ _ _) hb4
  have hb4':H.get b4=none:=by rw[ae _ _ (Ne.symm d34)]at hb4;exact hb4
  have n4:¬cV F s ORD HELD m1 m2 b4:=fun h=>hE.mem h hb4'
  simp only[go_sem,rE,rA,rL,d34]
  refine am hex rfl ?_
  have hS4:cw F er ((H.set b3 (.cells [I (Ex.mk ek en ep eks).kind,I (Ex.mk ek en ep eks).num,S (Ex.mk ek en ep eks).place.name,au (Ex.mk ek en ep eks).place.path,.sl 5 none (Ex.encs (Ex.mk ek en ep eks).kids)])).set b4 (.cells [NIL])) s v ORD HELD m1 m2:=hE.mono fun b hb=>by
   rw[ae _ _ (by rintro rfl;exact hE.mem hb hb4'),ae _ _ (by rintro rfl;exact hE.mem hb hb3)]
  have g4:((H.set b3 (.cells [I (Ex.mk ek en ep eks).kind,I (Ex.mk ek en ep eks).num,S (Ex.mk ek en ep eks).place.name,au (Ex.mk ek en ep eks).place.path,.sl 5 none (Ex.encs (Ex.mk ek en ep eks).kids)])).set b4 (.cells [NIL])).get b4=some (.cells [NIL]):=ai _ _ _
  clear hb4 hb3 d34 hb4'
  generalize(H.set b3 (.cells [I (Ex.mk ek en ep eks).kind,I (Ex.mk ek en ep eks).num,S (Ex.mk ek en ep eks).place.name,au (Ex.mk ek en ep eks).place.path,.sl 5 none (Ex.encs (Ex.mk ek en ep eks).kids)])).set b4 (.cells [NIL])=H4 at*
  simp only[go_sem,rE,rA,rL]
  by_cases k1:ek=1
  ·have ho:=xB d (e:=.mk ek en ep eks) k1
   rw[he]at ho
   cases hc:(Ex.mk ek en ep eks).place.noneB&&decide ((Ex.mk ek en ep eks).kids.length=0)
   ·simp only[hc,aL]at ho
    simp at ho
   ·have hsh:shE F (.mk ek en ep eks)=.iface 263 (.agg [I en]):=by rw[shE,if_pos (show(Ex.mk ek en ep eks).kind=1 from k1),if_pos hc];rfl
    have hx:v.expr (.mk ek en ep eks)=(v,(.mk [],0)):=by rw[Sc.expr_eq,if_pos k1]
    simp only[hsh,go_sem,rE,rA,rL,if_true,a9,aB]
    intro b6 hb6
    have d46:=al g4 hb6
    simp only[go_sem,rE,rA,rL,d46,g4]
    refine cd (off:=0) rfl (ai _ _ _) rfl eX (aj.sub_refl _) ⟨v,ORD,HELD,⟨by rw[hx];rfl,by rw[hx]⟩,hS4.mono fun c hc=>?_⟩
    rw[ae _ _ (by rintro rfl;exact n4 hc),ae _ _ (by rintro rfl;exact hS4.mem hc hb6)]
  by_cases k2:ek=2
  ·have ho:=ql d (e:=.mk ek en ep eks) k2
   rw[he]at ho
   cases hc:decide ((Ex.mk ek en ep eks).num=0)&&decide ((Ex.mk ek en ep eks).kids.length=0)
   ·simp only[hc,aL]at ho
    simp at ho
   ·have hsh:shE F (.mk ek en ep eks)=.iface 266 (.agg ep.enc):=by rw[shE,if_neg (show ¬(Ex.mk ek en ep eks).kind=1 from k1),if_pos (show(Ex.mk ek en ep eks).kind=2 from k2),if_pos hc];rfl
    have hx:v.expr (.mk ek en ep eks)=v.use ep:=by rw[Sc.expr_eq,if_neg k1,if_pos k2]
    have hu:=nM L hC s v ep hv (by
     have h2:(Ex.mk ek en ep eks).place.okB=true:=by
      rw[hc]at ho
      simpa using ho.symm
     have h2:ep.okB=true:=h2
     simp only[Pl.okB,fU,aw,decide_eq_true_eq]at h2
     omega)
    simp only[Pl.enc]at hu
    rw[hx]
    simp only[hsh,go_sem,rE,rA,rL,if_true,if_false,T.e1,Pl.enc,a9,aB]
    intro b7 hb7
    have d47:=al g4 hb7
    have hS7:∀o,cw F er (H4.set b7 o) s v ORD HELD m1 m2:=fun o=>hS4.mono fun c hc=>ae _ _ (by rintro rfl;exact hS4.mem hc hb7)
    refine cX hu (hS7 _) rfl (.refl _) (fun h=>by simp at h) trivial ?_
    rintro q v1 ORD1 HELD1 H5 fp ⟨rfl,rfl⟩ hS5 hfr -
    have g5:=hfr b4 (.cells [NIL]) (by rw[ae _ _ d47];exact g4) n4
    simp only[gR,Ty.enc_eq]
    simp only[go_sem,rE,rA,rL,a9,aB,g5.1]
    refine cd (off:=0) rfl (ai _ _ _) rfl (.refl _) (aj.sub_refl _) ⟨_,ORD1,HELD1,⟨rfl,rfl⟩,hS5.mono fun c hc=>ae _ _ (by rintro rfl;exact g5.2 hc)⟩
  have k36:3<=(Ex.mk ek en ep eks).kind/\(Ex.mk ek en ep eks).kind<=6:=by
   rcases Classical.em (3<=(Ex.mk ek en ep eks).kind/\(Ex.mk ek en ep eks).kind<=6)with h|h
   ·exact h
   ·have:=kI d (e:=.mk ek en ep eks) k1 k2 (.inl h);rw[he]at this;simp at this
  obtain⟨a,b,hab⟩:∃a b,eks=[a,b]:=by
   have hl:eks.length=2:=by
    rcases Nat.decEq eks.length 2 with h|h
    ·have:=kI d (e:=.mk ek en ep eks) k1 k2 (.inr h);rw[he]at this;simp at this
    ·exact h
   match eks,hl with
   |[a,b],_=>exact⟨a,b,rfl⟩
  subst hab
  have ho:=sZ d (e:=.mk ek en ep [a,b]) k36 rfl
  rw[he]at ho
  cases hc:decide ((Ex.mk ek en ep [a,b]).num=0)&&(Ex.mk ek en ep [a,b]).place.noneB
  ·simp only[hc,aL]at ho
   simp at ho
  have hoa:a.okD d=true:=by rw[hc]at ho;simp at ho;exact ho.1
  have hob:b.okD d=true:=by rw[hc]at ho;simp at ho;exact ho.2
  have hsh:shE F (.mk ek en ep [a,b])=.iface 268 (.agg (I ek::(a.enc++b.enc))):=by
   rw[shE,if_neg (show ¬(Ex.mk ek en ep [a,b]).kind=1 from k1),if_neg (show ¬(Ex.mk ek en ep [a,b]).kind=2 from k2),if_pos k36]
   simp only[Ex.kids,hc,if_true];rfl
  have iha:=ih (by omega) a hoa v hv
  have ihb:=ih (by omega) b hob (v.expr a).1 (Sc.expr_good hv a)
  rw[Ex.enc_eq]at iha ihb
  simp only[hsh,go_sem,rE,rA,rL,if_true,if_false,T.e2,T.e3,Ex.enc_eq a,Ex.enc_eq b,cq,df,a9,aB]
  intro b8 hb8
  have d48:=al g4 hb8
  have hS8:∀o,cw F er (H4.set b8 o) s v ORD HELD m1 m2:=fun o=>hS4.mono fun c hc=>ae _ _ (by rintro rfl;exact hS4.mem hc hb8)
  have n8:¬cV F s ORD HELD m1 m2 b8:=fun h=>hS4.mem h hb8
  refine cX iha (hS8 _) rfl (.refl _) (fun h=>by simp at h) trivial ?_
  rintro q v1 ORD1 HELD1 H5 fp ⟨rfl,rfl⟩ hS5 hfr -
  have g5:=hfr b4 (.cells [NIL]) (by rw[ae _ _ d48];exact g4) n4
  have g8:=hfr b8 _ (ai _ _ _) n8
  by_cases hza:(v.expr a).2.2=0
  ·simp only[gR,hza,dw,Ty.enc_eq]
   simp only[go_sem,rE,rA,rL,a9,aB]
   intro b9 hb9
   have d49:=al g5.1 hb9
   have d89:=al g8.1 hb9
   have hS9:∀o,cw F er (H5.set b9 o) s (v.expr a).1 ORD1 HELD1 m1 m2:=fun o=>hS5.mono fun c hc=>ae _ _ (by rintro rfl;exact hS5.mem hc hb9)
   have n9:¬cV F s ORD1 HELD1 m1 m2 b9:=fun h=>hS5.mem h hb9
   simp only[go_sem,rE,rA,rL,g8.1,d89]
   refine cX ihb (hS9 _) rfl (.refl _) (fun h=>by simp at h) trivial ?_
   rintro q v2 ORD2 HELD2 H6 fp ⟨rfl,rfl⟩ hS6 hfr2 -
   have g4':=hfr2 b4 (.cells [NIL]) (by rw[ae _ _ d49];exact g5.1) g5.2
   have g9':=hfr2 b9 _ (ai _ _ _) n9
   have g8':=hfr2 b8 _ (by rw[ae _ _ d89];exact g8.1) g8.2
   by_cases hzb:((v.expr a).1.expr b).2.2=0
   ·have hty1:=i9 a hv
    have hty2:=i9 b (Sc.expr_good hv a)
    have hn1:=me L (v.expr a).2.1
    have hn2:=me L ((v.expr a).1.expr b).2.1
    have hpr:=(qZ L 4).2 _ _ hty1 hty2
    have hpo:=mL L (Ty.mk [(v.expr a).2.1,((v.expr a).1.expr b).2.1])
    rw[Ty.enc_eq]at hn1 hn2 hpo
    rw[Ty.enc_eq,Ty.enc_eq ((v.expr a).1.expr b).2.1,Ty.enc_eq (Ty.mk _)]at hpr
    simp only[gR,hzb,dw,Ty.enc_eq]
    simp only[go_sem,rE,rA,rL,a9,aB]
    intro b11 hb11
    have d4b:=al g4'.1 hb11
    have d8b:=al g8'.1 hb11
    have d9b:=al g9'.1 hb11
    simp only[go_sem,rE,rA,rL,g8'.1,d8b,a9,aB]
    have hSb:∀o,cw F er (H6.set b11 o) s ((v.expr a).1.expr b).1 ORD2 HELD2 m1 m2:=fun o=>hS6.mono fun c hc=>ae _ _ (by rintro rfl;exact hS6.mem hc hb11)
    have hSb4:∀o o',cw F er ((H6.set b11 o).set b4 o') s ((v.expr a).1.expr b).1 ORD2 HELD2 m1 m2:=fun o o'=>(hSb o).mono fun c hc=>ae _ _ (by rintro rfl;exact g4'.2 hc)
    have ge3:=hS6.e3
    have d3b:=al ge3 hb11
    have n4g:=nb_e3 g4'.2
    by_cases k6:ek=6
    ·have q6:(ek !=6)=false:=by simpa using k6
     have hx:v.expr (.mk ek en ep [a,b])=(((v.expr a).1.expr b).1,if(Ty.mk [(v.expr a).2.1,((v.expr a).1.expr b).2.1]).okB then(.mk [(v.expr a).2.1,((v.expr a).1.expr b).2.1],0)else(.mk [],3)):=by
      rw[Sc.expr_eq,if_neg k1,if_neg k2];simp only[hza,hzb,if_true,if_pos k6]
     rw[hx]
     simp only[q6,go_sem,rE,rA,rL,g9'.1,d9b]
     refine am hpr rfl ?_
     simp only[go_sem,rE,rA,rL]
     intro b12 hb12
     have d4c:=al (H:=H6.set b11 _) (by rw[ae _ _ d4b];exact g4'.1) hb12
     have hSc:∀o o',cw F er ((H6.set b11 o).set b12 o') s ((v.expr a).1.expr b).1 ORD2 HELD2 m1 m2:=fun o o'=>(hSb o).mono fun c hc=>ae _ _ (by
      rintro rfl
      have:=(hSb (.cells [.sl 1 none (Ty.encs ((v.expr a).1.expr b).2.1.kids)])).mem hc
      exact this hb12)
     have hScb:∀o o' o'',cw F er (((H6.set b11 o).set b12 o').set b4 o'') s ((v.expr a).1.expr b).1 ORD2 HELD2 m1 m2:=fun o o' o''=>(hSc o o').mono fun c hc=>ae _ _ (by rintro rfl;exact g4'.2 hc)
     refine am hpo rfl ?_
     cases hko:(Ty.mk [(v.expr a).2.1,((v.expr a).1.expr b).2.1]).okB
     ·simp only[go_sem,rE,rA,rL,ge3,d3b,al (H:=H6.set b11 _) (by rw[ae _ _ d3b];exact ge3) hb12,d4b,d4c,g4'.1]
      refine⟨by simp[n4g],?_⟩
      refine cd (off:=0) rfl (ai _ _ _) rfl eX (aj.sub_refl _) ⟨_,ORD2,HELD2,⟨?_,rfl⟩,hScb _ _ _⟩
      rw[bK.acn er (by decide)];rfl
     ·simp only[go_sem,rE,rA,rL,d4b,d4c,g4'.1]
      refine cd (off:=0) rfl (ai _ _ _) rfl (.refl _) (aj.sub_refl _) ⟨_,ORD2,HELD2,⟨rfl,rfl⟩,hScb _ _ _⟩
    ·have q6:(ek !=6)=true:=by simpa using k6
     have hx:v.expr (.mk ek en ep [a,b])=(((v.expr a).1.expr b).1,(.mk [],if decide ((v.expr a).2.1.kids.length=0)&&decide (((v.expr a).1.expr b).2.1.kids.length=0)then 0 else 3)):=by
      rw[Sc.expr_eq,if_neg k1,if_neg k2];simp only[hza,hzb,if_true,if_neg k6]
     rw[hx]
     simp only[q6,go_sem,rE,rA,rL,g9'.1,d9b]
     refine am hn1 rfl ?_
     cases hna:decide ((v.expr a).2.1.kids.length=0)
     ·simp only[go_sem,rE,rA,rL,ge3,d3b,d4b,g4'.1]
      refine⟨by simp[n4g],?_⟩
      refine cd (off:=0) rfl (ai _ _ _) rfl eX (aj.sub_refl _) ⟨_,ORD2,HELD2,⟨?_,rfl⟩,hSb4 _ _⟩
      first|rfl|(simp[bK.ac];done)
     ·simp only[go_sem,rE,rA,rL]
      refine am hn2 rfl ?_
      cases hnb:decide (((v.expr a).1.expr b).2.1.kids.length=0)
      ·simp only[go_sem,rE,rA,rL,ge3,d3b,d4b,g4'.1]
       refine⟨by simp[n4g],?_⟩
       refine cd (off:=0) rfl (ai _ _ _) rfl eX (aj.sub_refl _) ⟨_,ORD2,HELD2,⟨?_,rfl⟩,hSb4 _ _⟩
       rw[bK.acn er (by decide)];rfl
      ·simp only[go_sem,rE,rA,rL,d4b,g4'.1]
       refine cd (off:=0) rfl (ai _ _ _) rfl eX (aj.sub_refl _) ⟨_,ORD2,HELD2,⟨rfl,rfl⟩,hSb4 _ _⟩
   ·have hx:v.expr (.mk ek en ep [a,b])=(((v.expr a).1.expr b).1,(.mk [],((v.expr a).1.expr b).2.2)):=by rw[Sc.expr_eq,if_neg k1,if_neg k2];simp only[hza,hzb,if_true,if_false]
    have hac:er.ac ((v.expr a).1.expr b).2.2=.iface (er.t ((v.expr a).1.expr b).2.2) (er.x ((v.expr a).1.expr b).2.2):=by simp[bK.ac,hzb]
    simp only[gR,hac,Ty.enc_eq]
    simp only[go_sem,rE,rA,rL,a9,aB]
    intro b11 hb11
    have d4b:=al g4'.1 hb11
    simp only[go_sem,rE,rA,rL,g4'.1,d4b]
    refine cd (off:=0) rfl (ai _ _ _) rfl eX (aj.sub_refl _) ⟨_,ORD2,HELD2,⟨?_,by rw[hx]⟩,hS6.mono fun c hc=>?_⟩
    ·rw[hx,hac];rfl
    ·rw[ae _ _ (by rintro rfl;exact g4'.2 hc),ae _ _ (by rintro rfl;exact hS6.mem hc hb11)]
  ·have hx:v.expr (.mk ek en ep [a,b])=((v.expr a).1,(.mk [],(v.expr a).2.2)):=by rw[Sc.expr_eq,if_neg k1,if_neg k2];simp only[hza,if_false]
   have hac:er.ac (v.expr a).2.2=.iface (er.t (v.expr a).2.2) (er.x (v.expr a).2.2):=by simp[bK.ac,hza]
   simp only[gR,hac,Ty.enc_eq]
   simp only[go_sem,rE,rA,rL,a9,aB]
   intro b9 hb9
   have d49:=al g5.1 hb9
   simp only[go_sem,rE,rA,rL,g5.1,d49]
   refine cd (off:=0) rfl (ai _ _ _) rfl eX (aj.sub_refl _) ⟨_,ORD1,HELD1,⟨?_,by rw[hx]⟩,hS5.mono fun c hc=>?_⟩
   ·rw[hx,hac];rfl
   ·rw[ae _ _ (by rintro rfl;exact g5.2 hc),ae _ _ (by rintro rfl;exact hS5.mem hc hb9)]
end
theorem eQ(v:Sc)(e:Ex):(v.number e).1=(v.expr e).1:=by
 simp only[Sc.number]
 split<;>rfl
noncomputable def fW(v:Sc)(n:ByteArray)(f:Fu):Sc×Int:=
 if v.lost then({v with held:=[],lost:=false},4)
 else eI {v with held:=[],lost:=false} ⟨n,f.lent,false,f.type,if f.lent then v.held else [],false⟩
section
variable {P:Program}{F:Ids}{er:bK}
theorem sE(L:Lib P F)(T:Tys F)(hC:eB P F er)(s:Nat)(d:Nat)(hd:d<=100)(e:Ex)(he:e.okD d=true)(v:Sc)(hv:v.good):
 ScC P F er 232 [.ptr s 0,.agg e.enc] s v fun q v'=>q=er.ac (v.number e).2/\v'=(v.number e).1:=by
 intro H ORD HELD m1 m2 hE
 have hex:=ow L T hC s d hd e he v hv
 refine(L.a Tryz.func232 y232) (by simp[y232]) ?_
 rw[Ex.enc_eq]at hex⊢
 simp only[y232,go_sem,rE,rA,rL]
 intro b3 hb3
 refine cX hex (hE.new hb3 _) rfl (.refl _) (fun h=>by simp at h) trivial ?_
 rintro q v1 ORD1 HELD1 H5 fp ⟨rfl,rfl⟩ hS5 hfr -
 simp only[gR,Ty.enc_eq]
 simp only[go_sem,rE,rA,rL,a9,aB]
 intro b5 hb5
 by_cases hz:(v.expr e).2.2=0
 ·have hn:=me L (v.expr e).2.1
  rw[Ty.enc_eq]at hn
  have hx:v.number e=((v.expr e).1,if(v.expr e).2.1.kids.length=0 then 0 else 3):=by unfold Sc.number;simp only[hz,if_true]
  rw[hx,hz,dw]
  simp only[go_sem,rE,rA,rL]
  refine am hn rfl ?_
  by_cases hk:(v.expr e).2.1.kids.length=0
  ·simp only[hk,decide_true,go_sem,rE,rA,rL,if_true]
   exact ak (.refl _) (aj.sub_refl _) ⟨_,ORD1,HELD1,⟨rfl,rfl⟩,hS5.new hb5 _⟩
  ·simp only[hk,decide_false,go_sem,rE,rA,rL,if_false,hS5.e3,al hS5.e3 hb5]
   exact ak (.refl _) (aj.sub_refl _) ⟨_,ORD1,HELD1,⟨by rw[bK.acn er (by decide)];rfl,rfl⟩,hS5.new hb5 _⟩
 ·have hx:v.number e=((v.expr e).1,(v.expr e).2.2):=by unfold Sc.number;simp only[hz,if_false]
  rw[hx,bK.acn er hz]
  simp only[go_sem,rE,rA,rL]
  exact ak (.refl _) (aj.sub_refl _) ⟨_,ORD1,HELD1,⟨rfl,rfl⟩,hS5.new hb5 _⟩
theorem cw.blk_s{H:aj}{s:Nat}{v:Sc}{ORD HELD:AC}{m1 m2:Nat}(h:cw F er H s v ORD HELD m1 m2):(s≠m1/\s≠m2)/\(∀b,cJ ORD b->b≠s)/\∀b,cJ HELD b->b≠s:=by
 refine⟨⟨?_,?_⟩,fun b hb=>?_,fun b hb=>?_⟩
 ·rintro rfl;have:=h.obj.symm.trans h.names;simp[ScO]at this
 ·rintro rfl;have:=h.obj.symm.trans h.given;simp[ScO]at this
 ·rintro rfl;obtain⟨n,m,e⟩:=h.ord.tok hb;have:=h.obj.symm.trans e;simp[ScO]at this
 ·rintro rfl;obtain⟨n,m,e⟩:=h.held.tok hb;have:=h.obj.symm.trans e;simp[ScO]at this
theorem cw.clear{H:aj}{s:Nat}{v:Sc}{ORD HELD:AC}{m1 m2:Nat}(h:cw F er H s v ORD HELD m1 m2):cw F er (H.set s (ScO v.p ORD NIL m1 m2 false)) s {v with held:=[],lost:=false} ORD NIL m1 m2 where
 obj:=ai _ _ _
 names:=(ae _ _ h.blk_s.1.1.symm).trans h.names
 given:=(ae _ _ h.blk_s.1.2.symm).trans h.given
 ord:=h.ord.mono fun b hb=>ae _ _ (h.blk_s.2.1 b hb)
 held:=.nil _ _
 apart:=fun b _ hb=>by obtain⟨_,_,_,_,e⟩:=hb;simp at e
 ne:=h.ne
 errs:=fun c hc=>(ae _ _ (Ne.symm (h.far c hc))).trans (h.errs c hc)
 far:=h.far
 hnil:=fun _=>rfl
 onil:=h.onil
theorem zf(L:Lib P F)(s:Nat)(n:ByteArray)(f:Fu)(v:Sc)(hv:v.good):
 ScC P F er 231 [.ptr s 0,S n,.agg f.enc] s v fun q v'=>q=er.ac (fW v n f).2/\v'=(fW v n f).1:=by
 intro H ORD HELD m1 m2 hE
 refine(L.a Tryz.func231 y231) (by simp[y231]) ?_
 rw[Fu.enc_eq]
 simp only[y231,go_sem,rE,rA,rL]
 intro b5 hb5
 have d5s:=al hE.obj hb5
 have hS:=hE.new hb5
 have n5:=hE.notin hb5
 have ho:=hE.obj
 simp only[ScO]at ho
 simp only[go_sem,rE,rA,rL,ho,d5s]
 have hS1:=(hS (.cells [S f.name,.sl 3 none (f.params.map Pa.enc),B f.lent,.sl 1 none (Ty.encs f.type.kids),.sl 15 none (St.encs f.body),I f.says.kind,I f.says.num,S f.says.place.name,au f.says.place.path,.sl 5 none (Ex.encs f.says.kids),S f.gives.name,au f.gives.path])).clear
 simp only[ScO]at hS1
 have g5:((H.set b5 (.cells [S f.name,.sl 3 none (f.params.map Pa.enc),B f.lent,.sl 1 none (Ty.encs f.type.kids),.sl 15 none (St.encs f.body),I f.says.kind,I f.says.num,S f.says.place.name,au f.says.place.path,.sl 5 none (Ex.encs f.says.kids),S f.gives.name,au f.gives.path])).set s (.cells [.sl 12 none (v.p.map Fu.enc),ORD,.mp m1,.mp m2,NIL,B false,.lit .nilFunc])).get b5=some (.cells [S f.name,.sl 3 none (f.params.map Pa.enc),B f.lent,.sl 1 none (Ty.encs f.type.kids),.sl 15 none (St.encs f.body),I f.says.kind,I f.says.num,S f.says.place.name,au f.says.place.path,.sl 5 none (Ex.encs f.says.kids),S f.gives.name,au f.gives.path]):=by
  rw[ae _ _ (Ne.symm d5s),ai]
 have hheld:=hE.held
 have hone:=hheld.one
 clear hS hb5 n5 ho hE
 generalize((H.set b5 _).set s _)=H2 at*
 have ok2:Sc.ok {v with held:=[],lost:=false}:=hv.ok
 have ge4:=hS1.e4
 cases hlo:v.lost
 ·have hx:fW v n f=eI {v with held:=[],lost:=false} ⟨n,f.lent,false,f.type,if f.lent then v.held else [],false⟩:=by unfold fW;rw[hlo];rfl
  cases hfl:f.lent
  ·rw[hfl]at hx
   simp only[go_sem,rE,rA,rL,g5,hfl]
   refine cX (mH L s {v with held:=[],lost:=false} ok2 ⟨n,false,false,f.type,[],false⟩ rfl (by simp) hv.len) hS1 rfl ?_ (fun h=>by simp at h) trivial ?_
   ·exact⟨.refl _,.refl _,.agg ⟨⟨.refl _,rfl⟩,⟨.refl _,rfl⟩,⟨.refl _,rfl⟩,⟨.refl _,rfl⟩,⟨.refl _,rfl⟩,⟨.nil 2,rfl⟩,trivial⟩,trivial⟩
   rintro q v2 ORD2 HELD2 H3 fp ⟨rfl,rfl⟩ hS3 - -
   simp only[go_sem,rE,rA,rL]
   exact ak (.refl _) (aj.sub_refl _) ⟨_,ORD2,HELD2,⟨by rw[hx];rfl,by rw[hx];rfl⟩,hS3⟩
  ·rw[hfl]at hx
   simp only[go_sem,rE,rA,rL,g5,hfl,hone]
   refine cX (mH L s {v with held:=[],lost:=false} ok2 ⟨n,true,false,f.type,v.held,false⟩ rfl hv.hl hv.len) hS1 rfl ?_ (fun h=>by simp at h) trivial ?_
   ·exact⟨.refl _,.refl _,.agg ⟨⟨.refl _,rfl⟩,⟨.refl _,rfl⟩,⟨.refl _,rfl⟩,⟨.refl _,rfl⟩,⟨.refl _,rfl⟩,⟨hheld.le,rfl⟩,trivial⟩,trivial⟩
   rintro q v2 ORD2 HELD2 H3 fp ⟨rfl,rfl⟩ hS3 - -
   simp only[go_sem,rE,rA,rL]
   exact ak (.refl _) (aj.sub_refl _) ⟨_,ORD2,HELD2,⟨by rw[hx];rfl,by rw[hx];rfl⟩,hS3⟩
 ·have hx:fW v n f=({v with held:=[],lost:=false},4):=by unfold fW;rw[hlo];rfl
  simp only[go_sem,rE,rA,rL,ge4]
  exact ak (.refl _) (aj.sub_refl _) ⟨_,ORD,NIL,⟨by rw[hx];rfl,by rw[hx]⟩,hS1⟩
end
noncomputable def il(v:Sc)(a:Ag)(p:Pa):Sc×Int:=
 if(a.lent !=p.lent)=true then(v,3)
 else if a.lent=true then({(v.use a.place).1 with held:=(v.use a.place).1.held++[a.place]},if(v.use a.place).2.2=0 then(if eqB (v.use a.place).2.1 p.type then 0 else 3)else(v.use a.place).2.2)
 else((v.expr a.expr).1,if(v.expr a.expr).2.2=0 then(if eqB (v.expr a.expr).2.1 p.type then 0 else 3)else(v.expr a.expr).2.2)
theorem mN(v:Sc)(a:Ag)(p:Pa):(il v a p).1.vars.map Vr.core=v.vars.map Vr.core/\(il v a p).1.given=v.given/\((il v a p).1.held=v.held\/a.lent=true/\(il v a p).1.held=v.held++[a.place])/\(il v a p).1.p=v.p:=by
 unfold il
 split
 ·exact⟨rfl,rfl,.inl rfl,rfl⟩
 ·split
  ·rename_i hl
   obtain⟨h1,h2,h3,h4⟩:=v.use_core a.place
   exact⟨h1,h2,.inr ⟨hl,by simp only[h3]⟩,h4⟩
  ·obtain⟨h1,h2,h3,h4⟩:=Sc.expr_core a.expr v
   exact⟨h1,h2,.inl h3,h4⟩
theorem sI{v:Sc}(h:v.good)(a:Ag)(p:Pa)(ha:a.okB=true)(hl:v.held.length+1<=2^30):(il v a p).1.good:=by
 obtain⟨h1,h2,h3,h4⟩:=mN v a p
 have hc:(⟨v.p,(il v a p).1.vars,v.given,v.held,v.lost⟩:Sc).good:=h.core h1 rfl rfl
 exact {
  ok:=by unfold Sc.ok;rw[h2];exact hc.ok
  nd:=hc.nd,len:=hc.len,lp:=hc.lp,ll:=hc.ll,ty:=hc.ty
  hl:=by
   rcases h3 with h3|⟨-,h3⟩
   ·rw[h3];exact h.hl
   ·rw[h3,bv];exact hl
  hp:=by
   rcases h3 with h3|⟨hlt,h3⟩
   ·rw[h3];exact h.hp
   ·rw[h3]
    intro x hx
    rcases aE.1 hx with hx|hx
    ·exact h.hp x hx
    ·rw[bQ.1 hx]
     simp only[Ag.okB,hlt,if_true,aw,Pl.okB,fU,decide_eq_true_eq]at ha
     omega}
section
variable {P:Program}{F:Ids}{er:bK}
theorem cw.hold{H H3:aj}{s:Nat}{v:Sc}{ORD HELD x':AC}{m1 m2:Nat}{pl:Pl}(h:cw F er H s v ORD HELD m1 m2)(hx':bR H3 2 (v.held.map Pl.enc++[pl.enc]) x')
(hkeep:∀c,H.get c≠none->¬cJ HELD c->H3.get c=H.get c)(hnew:∀c,cJ x' c->cJ HELD c\/H.get c=none):
 cw F er (H3.set s (ScO v.p ORD x' m1 m2 v.lost)) s {v with held:=v.held++[pl]} ORD x' m1 m2/\H3.get s=some (ScO v.p ORD HELD m1 m2 v.lost):=by
 obtain⟨ho,h1,h2,h4,h5,h6,h7,h8,h9,h10,h11⟩:=id h
 have ntok:∀c,(∀n m,H.get c≠some (.tail n m))->¬cJ HELD c:=fun c hc ht=>by obtain⟨n,m,e⟩:=h5.tok ht;exact hc n m e
 have keep:∀c o,H.get c=some o->(∀n m,o≠.tail n m)->H3.get c=some o:=fun c o hc hn=>by
  rw[hkeep c (by rw[hc];simp) (ntok c fun n m e=>hn n m (by rw[hc]at e;simpa using e))];exact hc
 have ko:=keep s _ ho (by simp[ScO])
 obtain⟨⟨s1,s2⟩,s3,s4⟩:=h.blk_s
 refine⟨⟨ai _ _ _,?_,?_,?_,?_,fun b hb1 hb2=>?_,h7,fun c hc=>?_,h9,fun h=>by simp at h,h11⟩,ko⟩
 ·rw[ae _ _ s1.symm];exact keep _ _ h1 (by simp)
 ·rw[ae _ _ s2.symm];exact keep _ _ h2 (by simp)
 ·refine h4.mono fun b hb=>?_
  obtain⟨n,m,e⟩:=h4.tok hb
  rw[ae _ _ (s3 b hb)]
  exact hkeep b (by rw[e];simp) (h6 b hb)
 ·have:(v.held++[pl]).map Pl.enc=v.held.map Pl.enc++[pl.enc]:=by simp
  show bR _ 2 ((v.held++[pl]).map Pl.enc) x'
  rw[this]
  refine hx'.mono fun b hb=>?_
  obtain⟨n,m,e⟩:=hx'.tok hb
  rw[ae _ _ (by rintro rfl;rw[ko]at e;simp[ScO]at e)]
 ·obtain⟨n,m,e⟩:=h4.tok hb1
  rcases hnew b hb2 with h|h
  ·exact h6 b hb1 h
  ·rw[h]at e;simp at e
 ·rw[ae _ _ (Ne.symm (h9 c hc))];exact keep _ _ (h8 c hc) (by simp)
def kg4(F:Ids):aT:=.seq (.seq (rg [mv 0 42 8,pu 1 43 (.isNil false 42),mv 2 44 43,gl 3 45 44 true (some 1) 7,gp 4 46 44 true (.fieldAddr 2 5),gl 5 47 44 true (some 1) 46,⟨6,some 48,some (44,true),.eff (.call 172 [45,47]),[]⟩,gp 7 49 44 true (.not 48),pu 8 50 (.pick 44 49 cf)]) (.cond 50 (.seq (rg [ld 0 51 none (.glob 1),mv 1 6 51]) .ret) .skip)) (.seq (rg [mv 0 52 8,mv 1 6 52]) .ret)
theorem Ar(L:Lib P F){s:Nat}{v:Sc}{ORD HELD:AC}{m1 m2 b5 b7:Nat}{E:Env}{H:aj}{r:Ty×Int}{p:Pa}{R:AC->aj->Prop}(hE:cw F er H s v ORD HELD m1 m2)(e8:E 8=er.ac r.2)(e7:E 7=.ptr b7 0)(e5:E 5=.ptr b5 0)
(g7:H.get b7=some (.cells [.sl 1 none (Ty.encs r.1.kids)]))(g5:H.get b5=some (.cells [S p.name,B p.lent,.sl 1 none (Ty.encs p.type.kids)]))(hr:r.1.okB=true)
(hR:R (er.ac (if r.2=0 then(if eqB r.1 p.type then 0 else 3)else r.2)) H):(kg4 F).wp P (bh.post [.slot 6] R) E H:=by
 by_cases hz:r.2=0
 ·have hs:=lv L 4 r.1 p.type hr
  rw[Ty.enc_eq,Ty.enc_eq]at hs
  rw[if_pos hz]at hR
  rw[hz,dw]at e8
  simp only[kg4,go_sem,rE,rA,rL,e8,e7,e5,g7,g5]
  refine am hs rfl ?_
  cases hq:eqB r.1 p.type
  ·rw[hq]at hR
   simp only[go_sem,rE,rA,rL,hE.e3]
   exact ak (.refl _) (aj.sub_refl _) (by rw[bK.acn er (by decide)]at hR;exact hR)
  ·rw[hq]at hR
   simp only[go_sem,rE,rA,rL,e8]
   exact ak (.refl _) (aj.sub_refl _) hR
 ·rw[if_neg hz,bK.acn er hz]at hR
  rw[bK.acn er hz]at e8
  simp only[kg4,go_sem,rE,rA,rL,e8,e7,e5,g7,g5]
  exact ak (.refl _) (aj.sub_refl _) hR
theorem c_karg(L:Lib P F)(T:Tys F)(hC:eB P F er)(s:Nat)(a:Ag)(p:Pa)(ha:a.okB=true)(v:Sc)(hv:v.good)(hh:v.held.length+1<=2^30):
 ScC P F er 230 [.ptr s 0,.agg a.enc,.agg p.enc] s v fun q v'=>q=er.ac (il v a p).2/\v'=(il v a p).1:=by
 intro H ORD HELD m1 m2 hE
 refine(L.a Tryz.func230 y230) (by simp[y230]) ?_
 rw[Ag.enc,Pa.enc,Ex.enc_eq,Ty.enc_eq]
 simp only[y230,go_sem,rE,rA,rL,Pl.enc,cq,df]
 intro b4 hb4 b5 hb5
 have d45:=al (ai _ _ _) hb5
 have hS4:=hE.new hb4 (.cells [B a.lent,S a.place.name,au a.place.path,I a.expr.kind,I a.expr.num,S a.expr.place.name,au a.expr.place.path,.sl 5 none (Ex.encs a.expr.kids)])
 have hS5:=hS4.new hb5 (.cells [S p.name,B p.lent,.sl 1 none (Ty.encs p.type.kids)])
 have n4:=hE.notin hb4
 have n5:=hS4.notin hb5
 have g4:((H.set b4 (.cells [B a.lent,S a.place.name,au a.place.path,I a.expr.kind,I a.expr.num,S a.expr.place.name,au a.expr.place.path,.sl 5 none (Ex.encs a.expr.kids)])).set b5 (.cells [S p.name,B p.lent,.sl 1 none (Ty.encs p.type.kids)])).get b4=some (.cells [B a.lent,S a.place.name,au a.place.path,I a.expr.kind,I a.expr.num,S a.expr.place.name,au a.expr.place.path,.sl 5 none (Ex.encs a.expr.kids)]):=by
  rw[ae _ _ d45,ai]
 have g5:((H.set b4 (.cells [B a.lent,S a.place.name,au a.place.path,I a.expr.kind,I a.expr.num,S a.expr.place.name,au a.expr.place.path,.sl 5 none (Ex.encs a.expr.kids)])).set b5 (.cells [S p.name,B p.lent,.sl 1 none (Ty.encs p.type.kids)])).get b5=some (.cells [S p.name,B p.lent,.sl 1 none (Ty.encs p.type.kids)]):=ai _ _ _
 clear hb4 hb5 hS4 hE
 generalize((H.set b4 _).set b5 _)=H1 at*
 simp only[go_sem,rE,rA,rL,g4,g5,d45]
 generalize hkg:(aT.seq (.seq (rg [mv 0 42 8,_,_,_,_,_,_,_,_]) (.cond 50 _ .skip)) _)=KG
 have hkg':KG=kg4 F:=hkg.symm
 subst hkg'
 by_cases hne:(a.lent !=p.lent)=true
 ·have hx:il v a p=(v,3):=by unfold il;rw[if_pos hne]
  have hq:(a.lent==p.lent)=false:=by simpa using hne
  rw[hx]
  simp only[hq,go_sem,rE,rA,rL,hS5.e3]
  exact ak (.refl _) (aj.sub_refl _) ⟨_,ORD,HELD,⟨by rw[bK.acn er (by decide)];rfl,rfl⟩,hS5⟩
 have hq:(a.lent==p.lent)=true:=by simpa using hne
 have hx:il v a p=if a.lent=true then({(v.use a.place).1 with held:=(v.use a.place).1.held++[a.place]},if(v.use a.place).2.2=0 then(if eqB (v.use a.place).2.1 p.type then 0 else 3)else(v.use a.place).2.2)
  else((v.expr a.expr).1,if(v.expr a.expr).2.2=0 then(if eqB (v.expr a.expr).2.1 p.type then 0 else 3)else(v.expr a.expr).2.2):=by unfold il;rw[if_neg hne]
 simp only[hq,go_sem,rE,rA,rL,Bool.not_true]
 intro b7 hb7
 have d47:=al g4 hb7
 have d57:=al g5 hb7
 have hS7:=hS5.new hb7 (.cells [NIL])
 have n7:=hS5.notin hb7
 have g7:(H1.set b7 (.cells [NIL])).get b7=some (.cells [NIL]):=ai _ _ _
 have g4':(H1.set b7 (.cells [NIL])).get b4=_:=(ae _ _ d47).trans g4
 have g5':(H1.set b7 (.cells [NIL])).get b5=_:=(ae _ _ d57).trans g5
 generalize H1.set b7 _=H2 at*
 by_cases hl:a.lent=true
 ·rw[if_pos hl]at hx
  have hpl:a.place.path.length<=2^30:=by
   simp only[Ag.okB,hl,if_true,aw,Pl.okB,fU,decide_eq_true_eq]at ha
   omega
  have hu:=nM L hC s v a.place hv hpl
  rw[Pl.enc]at hu
  simp only[go_sem,rE,rA,rL,g4',hl]
  refine cX hu hS7 rfl (.refl _) (fun h=>by simp at h) trivial ?_
  rintro q v1 ORD1 HELD1 H3 fp ⟨rfl,rfl⟩ hS3 hfr -
  have k4:=hfr b4 _ g4' n4
  have k5:=hfr b5 _ g5' n5
  have k7:=hfr b7 _ g7 n7
  have ho:=hS3.obj
  simp only[ScO]at ho
  have d7s:b7≠s:=fun e=>k7.2 (.inl e)
  have d74:b7≠b4:=Ne.symm d47
  simp only[gR,Ty.enc_eq]
  simp only[go_sem,rE,rA,rL,a9,aB,k7.1,k4.1,ho,d7s,d74,d47,Ne.symm d7s,ax,av,ay,dA,aR,bM,gq,gZ,aA,if_true]
  have hS3':=hS3.put k7.2 (.cells [.sl 1 none (Ty.encs (v.use a.place).2.1.kids)])
  have hhl:(v.use a.place).1.held.length+1<=2^30:=by rw[(v.use_core a.place).2.2.1];exact hh
  refine fG (es:=(v.use a.place).1.held.map Pl.enc) (ys:=[a.place.enc]) (by simp only[go_sem,rE,rA,rL];exact hS3'.held) (by simp[go_sem,bg,Pl.enc]) (by simp[Pl.enc]) (by simp;omega) ?_
  intro x' H4 fp hx' hfp hkeep hnew
  simp only[go_sem,rE,rA,rL]at hkeep hnew
  obtain⟨hS4,ko⟩:=hS3'.hold hx' hkeep hnew
  simp only[ScO]at ko hS4
  simp only[go_sem,rE,rA,rL,ko,hx'.one]
  have ntok:∀c o,H3.get c=some o->¬cV F s ORD1 HELD1 m1 m2 c->¬cJ HELD1 c:=fun c o _ hn ht=>hn (.inr (.inr (.inr (.inr (.inl ht)))))
  have f7:H4.get b7=some (.cells [.sl 1 none (Ty.encs (v.use a.place).2.1.kids)]):=by
   rw[hkeep b7 (by rw[ai];simp) (ntok _ _ k7.1 k7.2),ai]
  have f5:H4.get b5=some (.cells [S p.name,B p.lent,.sl 1 none (Ty.encs p.type.kids)]):=by
   rw[hkeep b5 (by rw[ae _ _ d57,k5.1];simp) (ntok _ _ k5.1 k5.2),ae _ _ d57];exact k5.1
  exact Ar L (r:=(v.use a.place).2) (p:=p) hS4 rfl rfl rfl (by rw[ae _ _ d7s];exact f7) (by rw[ae _ _ (fun e=>k5.2 (.inl e))];exact f5) (iE hv _) ⟨_,ORD1,x',⟨by rw[hx],by rw[hx]⟩,hS4⟩
 ·rw[if_neg hl]at hx
  have hf:a.lent=false:=by simpa using hl
  have hok:a.expr.okD 4=true:=by
   simp only[Ag.okB,hf,aq,if_false,aw]at ha
   exact ha.2
  have hu:=ow L T hC s 4 (by omega) a.expr hok v hv
  rw[Ex.enc_eq]at hu
  simp only[go_sem,rE,rA,rL,g4',hf]
  refine cX hu hS7 rfl (.refl _) (fun h=>by simp at h) trivial ?_
  rintro q v1 ORD1 HELD1 H3 fp ⟨rfl,rfl⟩ hS3 hfr -
  have k5:=hfr b5 _ g5' n5
  have k7:=hfr b7 _ g7 n7
  simp only[gR,Ty.enc_eq]
  simp only[go_sem,rE,rA,rL,a9,aB,k7.1]
  have dd:b5≠b7:=d57
  exact Ar L (r:=(v.expr a.expr).2) (p:=p) (hS3.put k7.2 _) rfl rfl rfl (ai _ _ _) (by rw[ae _ _ dd];exact k5.1) (i9 _ hv) ⟨_,ORD1,HELD1,⟨by rw[hx],by rw[hx]⟩,hS3.put k7.2 _⟩
end
end Go.Xl
