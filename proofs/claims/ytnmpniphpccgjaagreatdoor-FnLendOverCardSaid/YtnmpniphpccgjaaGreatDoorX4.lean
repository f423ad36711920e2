/- FnLendOver: a part of the proof. -/
import Derived.ControlIn
import Derived.RangeFuncSeq
import Derived.RangeFuncIn
import Derived.RangeFuncLeaves
import Derived.RangeFuncRecord
import Derived.Test.YtnmpniphpccgjaaGreatDoorX3
set_option linter.unusedVariables false
set_option linter.unusedSimpArgs false
namespace Go.Xl
open _root_.Array renaming getD_eq_getD_getElem? -> ii, getElem?_append_left -> kU, getElem?_eq_getElem -> iT, getElem?_eq_some_iff -> dt, replicate -> fO, toList_inj -> fq
open _root_.Bool renaming and_eq_false_iff -> cV, and_eq_true -> a6, and_false -> aR, and_self -> fZ, and_true -> fY, eq_iff_iff -> bg, false_and -> aK, false_eq_true -> av, false_ne_true -> fX, false_or -> df, not_eq_true' -> dC, not_false -> kT, or_eq_true -> dA, or_false -> dR, or_self -> ig, true_and -> cb, true_or -> dY
open _root_.Int renaming eq_ofNat_of_zero_le -> cx, le_refl -> cX, reduceBEq -> aG, reduceEq -> bw, reduceLE -> dX, toNat_natCast -> dj
open _root_.List renaming all_append -> eQ, all_eq_false -> dB, all_eq_true -> aV, any_append -> fj, append_assoc -> eE, append_nil -> cB, cons_append -> cH, drop_eq_getElem_cons -> cj, drop_length -> kY, drop_succ_cons -> gO, drop_zero -> iE, eq_nil_of_length_eq_zero -> bu, findIdx?_eq_none_iff -> iS, findIdx?_eq_some_iff_getElem -> cg, flatten_cons -> aq, flatten_nil -> ay, foldl_cons -> dM, getElem?_append_left -> aL, getElem?_cons_succ -> aC, getElem?_cons_zero -> a7, getElem?_drop -> bW, getElem?_eq_getElem -> aw, getElem?_eq_none -> fU, getElem?_eq_some_iff -> aT, getElem?_map -> cG, getElem?_take_of_lt -> dF, getElem_append_left -> dE, getElem_map -> fW, getElem_mem -> ax, length_append -> bx, length_cons -> aU, length_drop -> fm, length_eq_zero_iff -> cT, length_map -> am, length_nil -> bR, length_take -> bp, map_append -> bf, map_cons -> aS, map_nil -> bD, map_take -> ip, mem_append -> aF, mem_cons -> be, mem_cons_of_mem -> dV, mem_cons_self -> eO, mem_iff_getElem -> aZ, mem_map -> aY, mem_map_of_mem -> cu, mem_of_mem_take -> bC, mem_range -> eN, mem_singleton -> cA, nil_append -> di, nodup_append -> eD, not_mem_nil -> ce, range -> dy, replicate -> az, take_length -> aO, take_of_length_le -> cM, take_succ_eq_append_getElem -> aA
open _root_.Nat renaming reduceEqDiff -> rE, reduceAdd -> rA, reduceLeDiff -> rL, add_eq_zero_iff -> eo, le_refl -> aD, le_trans -> bV, min_eq_left -> eP, mul_le_mul_right -> bH, strongRecOn -> lM, zero_le -> fN
open _root_.Option renaming map_eq_some_iff -> a9, map_some -> bK, ne_none_iff_exists' -> aH
open Go.Proofs
noncomputable def dO(v:Sc):List Ag->List Pa->Sc×Int
 |a::zas,p::ps=>if(iL v a p).2=0 then dO (iL v a p).1 zas ps else iL v a p
 |_,_=>(v,0)
noncomputable def gv(v:Sc)(n fn:ByteArray)(zas:List Ag):Sc×Int:=
 match v.p.find? (fun f=>eqB f.name fn)with
 |none=>(v,2)
 |some f=>if zas.length=f.params.length then(if(dO v zas f.params).2=0 then gH (dO v zas f.params).1 n f else dO v zas f.params)else(v,3)
theorem oF:∀(zas:List Ag) (ps:List Pa) (v:Sc),(dO v zas ps).1.vars.map Vr.core=v.vars.map Vr.core/\(dO v zas ps).1.given=v.given/\(dO v zas ps).1.held.length<=v.held.length+zas.length/\(dO v zas ps).1.p=v.p
 |[],_,v=>by simp[dO]
 |_::_,[],v=>by simp[dO]
 |a::zas,p::ps,v=>by
  obtain⟨a1,a2,a3,a4⟩:=nO v a p
  have ah:(iL v a p).1.held.length<=v.held.length+1:=by rcases a3 with h|⟨-,h⟩<;>rw[h]<;>simp
  rw[dO]
  split
  ·obtain⟨b1,b2,b3,b4⟩:=oF zas ps (iL v a p).1
   exact⟨b1.trans a1,b2.trans a2,by simp only[aU];omega,b4.trans a4⟩
  ·exact⟨a1,a2,by simp only[aU];omega,a4⟩
theorem rX:∀(zas:List Ag) (ps:List Pa) {v:Sc},v.good->(∀a∈zas,a.okB=true)->v.held.length+zas.length<=2^30->(dO v zas ps).1.good
 |[],_,v,h,_,_=>by simpa[dO]using h
 |_::_,[],v,h,_,_=>by simpa[dO]using h
 |a::zas,p::ps,v,h,ha,hl=>by
  simp only[aU]at hl
  obtain⟨a1,a2,a3,a4⟩:=nO v a p
  have ah:(iL v a p).1.held.length<=v.held.length+1:=by rcases a3 with h|⟨-,h⟩<;>rw[h]<;>simp
  have g:=tz h a p (ha _ eO) (by omega)
  rw[dO]
  split
  ·exact rX zas ps g (fun x hx=>ha x (dV _ hx)) (by omega)
  ·exact g
section
variable {P:Program}{F:Ids}{er:bZ}
theorem c_kcall(L:Lib P F)(T:Tys F)(hC:eF P F er)(s:Nat)(n fn:ByteArray)(zas:List Ag)(ha:∀a∈zas,a.okB=true)(v:Sc)(hv:v.good)(hh:v.held.length+zas.length<=2^30)(hp:v.p.length<=2^30)(hal:zas.length<=2^20):
 ScC P F er 101 [.ptr s 0,.agg [S n,S fn,.sl 8 none (zas.map Ag.enc)]] s v fun q v'=>q=er.ac (gv v n fn zas).2/\v'=(gv v n fn zas).1:=by
 intro H ORD HELD m1 m2 hE
 refine(L.a Tryz.func101 y101) (by simp[y101]) ?_
 simp only[y101,go_sem,rE,rA,rL]
 intro b3 hb3
 have hS3:=hE.new hb3 (.cells [S n,S fn,.sl 8 none (zas.map Ag.enc)])
 have n3:=hE.notin hb3
 have g3:(H.set b3 (.cells [S n,S fn,.sl 8 none (zas.map Ag.enc)])).get b3=some (.cells [S n,S fn,.sl 8 none (zas.map Ag.enc)]):=ai _ _ _
 clear hE hb3
 generalize H.set b3 _=H1 at*
 refine cZ (tu L s v fn hp) hS3 (by simp only[go_sem,rE,aS,bD]) (.refl _) (fun h=>by simp at h) trivial ?_
 rintro q v1 ORD1 HELD1 H2 fp ⟨rfl,rfl⟩ hS2 hfr -
 have k3:=hfr b3 _ g3 n3
 cases hf:v1.p.find? (fun f=>eqB f.name fn)with
 |none=>
  have hx:gv v1 n fn zas=(v1,2):=by unfold gv;rw[hf]
  rw[hx]
  simp only[md,hf]
  simp only[go_sem,oz,rE,rA,rL,a7,aC]
  intro b5 hb5
  simp only[go_sem,rE,rA,rL,hS2.e2,al hS2.e2 hb5]
  exact ak (.refl _) (aj.sub_refl _) ⟨_,ORD1,HELD1,⟨by rw[cn er (by decide)];rfl,rfl⟩,hS2.new hb5 _⟩
 |some f=>
  simp only[md,hf,Fu.enc_eq]
  simp only[go_sem,oz,rE,rA,rL,a7,aC]
  intro b5 hb5
  have d35:=al k3.1 hb5
  have hS5:=hS2.new hb5 (.cells [S f.name,.sl 3 none (f.params.map Pa.enc),B f.lent,.sl 1 none (Ty.encs f.type.kids),.sl 15 none (St.encs f.body),I f.says.kind,I f.says.num,S f.says.place.name,au f.says.place.path,.sl 5 none (Ex.encs f.says.kids),S f.gives.name,au f.gives.path])
  have n5:=hS2.notin hb5
  have g5:(H2.set b5 (.cells [S f.name,.sl 3 none (f.params.map Pa.enc),B f.lent,.sl 1 none (Ty.encs f.type.kids),.sl 15 none (St.encs f.body),I f.says.kind,I f.says.num,S f.says.place.name,au f.says.place.path,.sl 5 none (Ex.encs f.says.kids),S f.gives.name,au f.gives.path])).get b5=some (.cells [S f.name,.sl 3 none (f.params.map Pa.enc),B f.lent,.sl 1 none (Ty.encs f.type.kids),.sl 15 none (St.encs f.body),I f.says.kind,I f.says.num,S f.says.place.name,au f.says.place.path,.sl 5 none (Ex.encs f.says.kids),S f.gives.name,au f.gives.path]):=ai _ _ _
  have g3':(H2.set b5 (.cells [S f.name,.sl 3 none (f.params.map Pa.enc),B f.lent,.sl 1 none (Ty.encs f.type.kids),.sl 15 none (St.encs f.body),I f.says.kind,I f.says.num,S f.says.place.name,au f.says.place.path,.sl 5 none (Ex.encs f.says.kids),S f.gives.name,au f.gives.path])).get b3=_:=(ae _ _ d35).trans k3.1
  have n3':=k3.2
  simp only[go_sem,rE,rA,rL,k3.1,d35,am]
  clear hb5 hS2 k3
  generalize H2.set b5 _=H3 at*
  by_cases hlen:zas.length=f.params.length
  ·have hx:gv v1 n fn zas=if(dO v1 zas f.params).2=0 then gH (dO v1 zas f.params).1 n f else dO v1 zas f.params:=by unfold gv;rw[hf];simp only[hlen,if_true]
   have hne:((zas.length:Int) !=(f.params.length:Int))=false:=by simp[hlen]
   simp only[hne,go_sem,rE,rA,rL,g3']
   refine aQ zas.length (fun k E' H'=>E' 0=.ptr s 0/\E' 3=.ptr b3 0/\E' 5=.ptr b5 0/\E' 29=.sl 8 none (zas.map Ag.enc)/\E' 30=I zas.length/\E' 31=I k/\
    ∃w ORD' HELD',cF F er H' s w ORD' HELD' m1 m2/\dO v1 zas f.params=dO w (zas.drop k) (f.params.drop k)/\w.good/\w.held.length<=v1.held.length+k/\
     (H'.get b3=some (.cells [S n,S fn,.sl 8 none (zas.map Ag.enc)])/\¬du F s ORD' HELD' m1 m2 b3)/\
     (H'.get b5=some (.cells [S f.name,.sl 3 none (f.params.map Pa.enc),B f.lent,.sl 1 none (Ty.encs f.type.kids),.sl 15 none (St.encs f.body),I f.says.kind,I f.says.num,S f.says.place.name,au f.says.place.path,.sl 5 none (Ex.encs f.says.kids),S f.gives.name,au f.gives.path])/\¬du F s ORD' HELD' m1 m2 b5))
    ⟨rfl,rfl,rfl,rfl,by simp only[go_sem,rE,am],rfl,v1,ORD1,HELD1,hS5,rfl,hv,by omega,⟨g3',n3'⟩,⟨g5,n5⟩⟩ ?_
   rintro k E' H' hk ⟨q0,q3,q5,q29,q30,q31,w,ORD',HELD',hS,hgv,hw,hwl,⟨h3,m3⟩,⟨h5,m5⟩⟩
   simp only[go_sem,rE,rA,rL,q30,q31]
   refine aE (fun hlt=>?_) (fun hge=>?_)
   ·have hk1:k<zas.length:=by omega
    have hk2:k<f.params.length:=by omega
    have w1:=aJ (n:=(k:Int)+1) (by omega) (by omega)
    have hga:(zas.map Ag.enc)[k]?=some [B zas[k].lent,S zas[k].place.name,au zas[k].place.path,I zas[k].expr.kind,I zas[k].expr.num,S zas[k].expr.place.name,au zas[k].expr.place.path,.sl 5 none (Ex.encs zas[k].expr.kids)]:=by simp[hk1,Ag.enc,Pl.enc,Ex.enc_eq]
    have hgp:(f.params.map Pa.enc)[k]?=some [S f.params[k].name,B f.params[k].lent,.sl 1 none (Ty.encs f.params[k].type.kids)]:=by simp[hk2,Pa.enc,Ty.enc_eq]
    rw[cj hk1,cj hk2,dO]at hgv
    have hka:=c_karg (er:=er) L T hC s zas[k] f.params[k] (ha _ (ax hk1)) w hw (by omega)
    simp only[Ag.enc,Pa.enc,Ex.enc_eq,Ty.enc_eq,Pl.enc,cH,di]at hka
    simp only[go_sem,rE,rA,rL,q0,q5,q29,q31,hga]
    intro b8 hb8
    have d58:=al h5 hb8
    have d38:=al h3 hb8
    simp only[go_sem,rE,rA,rL,q0,q5,h5,d58,Ne.symm d58,hgp]
    have hS8:=hS.new hb8 (.cells [B zas[k].lent,S zas[k].place.name,au zas[k].place.path,I zas[k].expr.kind,I zas[k].expr.num,S zas[k].expr.place.name,au zas[k].expr.place.path,.sl 5 none (Ex.encs zas[k].expr.kids)])
    refine cZ hka hS8 rfl (.refl _) (fun _=>⟨_,_,rfl,rfl⟩) trivial ?_
    rintro q w2 ORD2 HELD2 H4 fp2 ⟨rfl,rfl⟩ hS4 hfr2 -
    have k3:=hfr2 b3 _ ((ae _ _ d38).trans h3) m3
    have k5:=hfr2 b5 _ ((ae _ _ d58).trans h5) m5
    by_cases hz:(iL w zas[k] f.params[k]).2=0
    ·rw[if_pos hz]at hgv
     rw[hz,dv]
     have hc:=nO w zas[k] f.params[k]
     have hg:=tz hw zas[k] f.params[k] (ha _ (ax hk1)) (by omega)
     simp only[go_sem,rE,rA,rL,q0,q31,w1]
     refine⟨hk1,H4,aj.sub_refl _,q3,q5,q29,q30,rfl,_,ORD2,HELD2,hS4,hgv,hg,?_,k3,k5⟩
     rcases hc.2.2.1 with h|⟨-,h⟩
     ·rw[h];omega
     ·rw[h,bx,List.length_singleton];omega
    ·rw[if_neg hz]at hgv
     rw[cn er hz]
     simp only[go_sem,rE,rA,rL,q0,q31,w1]
     refine ak (.refl _) (aj.sub_refl _) ⟨_,ORD2,HELD2,⟨?_,rfl⟩,?_⟩
     ·rw[hx,hgv,if_neg hz,cn er hz];rfl
     ·rw[hx,hgv,if_neg hz];exact hS4
   ·have hkk:k=zas.length:=by omega
    subst hkk
    have h00:dO w [] (f.params.drop zas.length)=(w,0):=by simp[dO]
    rw[kY,h00]at hgv
    rw[hgv,if_pos rfl]at hx
    have hcd:=zO (er:=er) L s n f w hw
    rw[Fu.enc_eq]at hcd
    rw[hx]
    simp only[go_sem,rE,rA,rL,q0,q3,q5,h3,h5]
    refine cZ hcd hS (by simp only[go_sem,rE,aS,bD,q0]) (.refl _) (fun h=>by simp at h) trivial ?_
    rintro q w2 ORD2 HELD2 H4 fp2 ⟨rfl,rfl⟩ hS4 - -
    simp only[go_sem,rE,rA,rL]
    exact ak (.refl _) (aj.sub_refl _) ⟨_,ORD2,HELD2,⟨rfl,rfl⟩,hS4⟩
  ·have hx:gv v1 n fn zas=(v1,3):=by unfold gv;rw[hf];simp only[hlen,if_false]
   have hne:((zas.length:Int) !=(f.params.length:Int))=true:=by simp;omega
   rw[hx]
   simp only[hne,go_sem,rE,rA,rL,hS5.e3]
   exact ak (.refl _) (aj.sub_refl _) ⟨_,ORD1,HELD1,⟨by rw[cn er (by decide)];rfl,rfl⟩,hS5⟩
end
def Sc.clear(v:Sc):Sc:={v with held:=[],lost:=false}
def Sc.hold1(v:Sc)(p:Pl):Sc:={v with held:=[p],lost:=false}
noncomputable def oR(t:Ty)(q:Sc×(Ty×Int))(n:ByteArray)(p o:Pl):Sc×Int:=
 if q.2.2=0 then if eqB t q.2.1 then if q.1.lost then(q.1.clear,4)else eC q.1.clear ⟨n,true,false,t,[p,o],false⟩else(q.1.clear,3)else(q.1.clear,q.2.2)
noncomputable def jm(v:Sc)(n:ByteArray)(p o:Pl):Sc×Int:=
 if(v.use p).2.2=0 then oR (v.use p).2.1 (((v.use p).1.hold1 p).use o) n p o else((v.use p).1,(v.use p).2.2)
noncomputable def il(v:Sc)(n:ByteArray)(p o:Pl)(e:Ex):Sc×Int:=
 if(v.number e).2=0 then jm (v.number e).1 n p o else v.number e
theorem nW{v:Sc}(h:v.good):v.clear.good:=⟨h.ok,h.nd,h.len,by simp[Sc.clear],by simp[Sc.clear],h.lp,h.ll,h.ty⟩
theorem jJ{v:Sc}(h:v.good){p:Pl}(hp:p.path.length<=2^30):(v.hold1 p).good:=⟨h.ok,h.nd,h.len,by simp[Sc.hold1],by simpa[Sc.hold1]using hp,h.lp,h.ll,h.ty⟩
section
variable {P:Program}{F:Ids}{er:bZ}
theorem cF.hold1{H:aj}{s:Nat}{v:Sc}{ORD HELD:AC}{m1 m2:Nat}(h:cF F er H s v ORD HELD m1 m2){b n m:Nat}(hb:H.get b=none)(p:Pl):
 cF F er ((H.set b (.tail n m)).set s (ScO v.p ORD (.sl 2 (some (b,n,m)) [p.enc]) m1 m2 false)) s (v.hold1 p) ORD (.sl 2 (some (b,n,m)) [p.enc]) m1 m2:=by
 have h1:=(h.new hb (.tail n m)).clear
 have hbs:b≠s:=by rintro rfl;rw[h.obj]at hb;simp at hb
 refine⟨ai _ _ _,?_,?_,?_,.inr ⟨b,n,m,rfl,by rw[ae _ _ hbs,ai]⟩,fun c hc hc2=>?_,h.ne,fun c hc=>?_,h.far,fun h=>by simp[Sc.hold1]at h,h.onil⟩
 ·rw[ae _ _ h.blk_s.1.1.symm];exact(h.new hb (.tail n m)).names
 ·rw[ae _ _ h.blk_s.1.2.symm];exact(h.new hb (.tail n m)).given
 ·exact(h.new hb (.tail n m)).ord.mono fun c hc=>ae _ _ (h.blk_s.2.1 c hc)
 ·obtain⟨_,_,_,_,e⟩:=hc2
  simp at e
  obtain⟨-,⟨rfl,-⟩,-⟩:=e
  exact h.mem (.inr (.inr (.inr (.inl hc)))) hb
 ·rw[ae _ _ (Ne.symm (h.far c hc))];exact(h.new hb (.tail n m)).errs c hc
theorem zM(L:Lib P F)(hC:eF P F er)(s:Nat)(n:ByteArray)(p o:Pl)(e:Ex)(hp:p.path.length<=2^30)(ho:o.path.length<=2^30)(v:Sc)(hv:v.good):
 ScC P F er 140 [.ptr s 0,.agg (S n::(p.enc++(o.enc++e.enc)))] s v fun q v'=>q=er.ac (jm v n p o).2/\v'=(jm v n p o).1:=by
 intro H ORD HELD m1 m2 hE
 refine(L.a Tryz.func140 y140) (by simp[y140]) ?_
 rw[Ex.enc_eq]
 simp only[y140,go_sem,rE,rA,rL,Pl.enc,cH,di]
 intro b3 hb3
 have hS3:=hE.new hb3 (.cells [S n,S p.name,au p.path,S o.name,au o.path,I e.kind,I e.num,S e.place.name,au e.place.path,.sl 5 none (Ex.encs e.kids)])
 have n3:=hE.notin hb3
 have g3:(H.set b3 (.cells [S n,S p.name,au p.path,S o.name,au o.path,I e.kind,I e.num,S e.place.name,au e.place.path,.sl 5 none (Ex.encs e.kids)])).get b3=some (.cells [S n,S p.name,au p.path,S o.name,au o.path,I e.kind,I e.num,S e.place.name,au e.place.path,.sl 5 none (Ex.encs e.kids)]):=ai _ _ _
 clear hE hb3
 generalize H.set b3 _=H1 at*
 have hu:=oE L hC s v p hv hp
 rw[Pl.enc]at hu
 refine cZ hu hS3 rfl (.refl _) (fun h=>by simp at h) trivial ?_
 rintro q v1 ORD1 HELD1 H2 fp ⟨rfl,rfl⟩ hS2 hfr -
 have k3:=hfr b3 _ g3 n3
 have hv1:(v.use p).1.good:=lw hv p
 have hty:(v.use p).2.1.okB=true:=ji hv p
 have hpick:jm v n p o=if(v.use p).2.2=0 then oR (v.use p).2.1 (((v.use p).1.hold1 p).use o) n p o else((v.use p).1,(v.use p).2.2):=by unfold jm;rfl
 simp only[iw,Ty.enc_eq]
 generalize hrd:v.use p=r at*
 simp only[go_sem,rE,rA,rL,a7,aC]
 intro b5 hb5
 have d35:=al k3.1 hb5
 have hS5:=hS2.new hb5 (.cells [.sl 1 none (Ty.encs r.2.1.kids)])
 have n5:=hS2.notin hb5
 have g5:(H2.set b5 (.cells [.sl 1 none (Ty.encs r.2.1.kids)])).get b5=some (.cells [.sl 1 none (Ty.encs r.2.1.kids)]):=ai _ _ _
 have g3':(H2.set b5 (.cells [.sl 1 none (Ty.encs r.2.1.kids)])).get b3=_:=(ae _ _ d35).trans k3.1
 have n3':=k3.2
 clear hb5 hS2 k3
 generalize H2.set b5 _=H3 at*
 by_cases hz:r.2.2=0
 ·rw[if_pos hz]at hpick
  rw[hz,dv]
  have ho5:=hS5.obj
  simp only[ScO]at ho5
  simp only[go_sem,rE,rA,rL,g3',ho5,az,aq,ay,cB,aU,bR,gO,iE,aD,if_true]
  intro bt hbt
  have dts:=al ho5 hbt
  have hSt:=hS5.hold1 (n:=1*2) (m:=1*2) hbt p
  simp only[ScO]at hSt
  have d3t:=al g3' hbt
  have d5t:=al g5 hbt
  have d3s:b3≠s:=fun e=>n3' (.inl e)
  have d5s:b5≠s:=fun e=>n5 (.inl e)
  have nt:∀b,b≠bt->¬du F s ORD1 HELD1 m1 m2 b->¬du F s ORD1 (.sl 2 (some (bt,1*2,1*2)) [p.enc]) m1 m2 b:=by
   rintro b hb hn (h|h|h|h|h|h)
   ·exact hn (.inl h)
   ·exact hn (.inr (.inl h))
   ·exact hn (.inr (.inr (.inl h)))
   ·exact hn (.inr (.inr (.inr (.inl h))))
   ·obtain⟨_,_,_,_,e⟩:=h
    simp at e
    exact hb e.2.1.1.symm
   ·exact hn (.inr (.inr (.inr (.inr (.inr h)))))
  have hch:bh 2 1 [S p.name,au p.path]=[p.enc]:=by simp[bh,Pl.enc]
  simp only[go_sem,rE,rA,rL,ho5,dts,Ne.symm dts,d3t,d3s,g3',hch]
  have hu2:=oE L hC s (r.1.hold1 p) o (jJ hv1 hp) ho
  rw[Pl.enc]at hu2
  refine cZ hu2 hSt rfl (.refl _) (fun h=>by simp at h) trivial ?_
  rintro q v2 ORD2 HELD2 H6 fp2 ⟨rfl,rfl⟩ hS6 hfr2 -
  have k3:=hfr2 b3 _ (by rw[ae _ _ d3s,ae _ _ d3t];exact g3') (nt _ d3t n3')
  have k5:=hfr2 b5 _ (by rw[ae _ _ d5s,ae _ _ d5t];exact g5) (nt _ d5t n5)
  have hv2:((r.1.hold1 p).use o).1.good:=lw (jJ hv1 hp) o
  have hty2:((r.1.hold1 p).use o).2.1.okB=true:=ji (jJ hv1 hp) o
  simp only[iw,Ty.enc_eq]
  clear hfr2 hSt
  generalize(r.1.hold1 p).use o=w at*
  simp only[go_sem,rE,rA,rL,a7,aC]
  intro b7 hb7
  have d57:=al k5.1 hb7
  have d37:=al k3.1 hb7
  have d7s:s≠b7:=al hS6.obj hb7
  have hS7:=(hS6.new hb7 (.cells [.sl 1 none (Ty.encs w.2.1.kids)])).clear
  have ho6:=hS6.obj
  simp only[ScO]at ho6 hS7
  simp only[go_sem,rE,rA,rL,ho6,d7s,Ne.symm d7s]
  have g7:((H6.set b7 (.cells [.sl 1 none (Ty.encs w.2.1.kids)])).set s (.cells [.sl 12 none (w.1.p.map Fu.enc),ORD2,.mp m1,.mp m2,NIL,B false,.lit .nilFunc])).get b7=some (.cells [.sl 1 none (Ty.encs w.2.1.kids)]):=by
   rw[ae _ _ (Ne.symm d7s),ai]
  have g5':((H6.set b7 (.cells [.sl 1 none (Ty.encs w.2.1.kids)])).set s (.cells [.sl 12 none (w.1.p.map Fu.enc),ORD2,.mp m1,.mp m2,NIL,B false,.lit .nilFunc])).get b5=_:=(ae _ _ d5s).trans ((ae _ _ d57).trans k5.1)
  have g3'':((H6.set b7 (.cells [.sl 1 none (Ty.encs w.2.1.kids)])).set s (.cells [.sl 12 none (w.1.p.map Fu.enc),ORD2,.mp m1,.mp m2,NIL,B false,.lit .nilFunc])).get b3=_:=(ae _ _ d3s).trans ((ae _ _ d37).trans k3.1)
  clear hb7 hS6 ho6 k3 k5
  change cF F er _ s w.1.clear ORD2 NIL m1 m2 at hS7
  generalize((H6.set b7 _).set s _)=H8 at*
  rw[hpick,oR]
  by_cases hz2:w.2.2=0
  ·rw[if_pos hz2,hz2,dv]
   have hsm:=me L 4 r.2.1 w.2.1 hty
   rw[Ty.enc_eq,Ty.enc_eq]at hsm
   simp only[go_sem,rE,rA,rL,g5',g7]
   refine ao hsm rfl ?_
   cases hq:eqB r.2.1 w.2.1
   ·simp only[go_sem,rE,rA,rL,hS7.e3,av,if_false]
    exact ak (.refl _) (aj.sub_refl _) ⟨_,ORD2,NIL,⟨by rw[cn er (by decide)];rfl,rfl⟩,hS7⟩
   cases hlo:w.1.lost
   ·simp only[go_sem,rE,rA,rL,av,if_false,if_true,g3'',g5',az,aq,ay,cB,aU,bR,gO,iE,aD,cH,di,bx]
    intro b9 hb9
    have hch2:bh 2 2 [S p.name,au p.path,S o.name,au o.path]=[p.enc,o.enc]:=by simp[bh,Pl.enc]
    rw[hch2]
    refine cZ (nK L s w.1.clear (nW hv2).ok ⟨n,true,false,r.2.1,[p,o],false⟩ rfl (by simp) hv2.len) (hS7.new hb9 _) rfl ?_ (fun h=>by simp at h) trivial ?_
    ·exact⟨.refl _,.refl _,.agg ⟨⟨.refl _,rfl⟩,⟨.refl _,rfl⟩,⟨.refl _,rfl⟩,⟨.refl _,rfl⟩,⟨.refl _,rfl⟩,⟨.tok _ _ _,rfl⟩,trivial⟩,trivial⟩
    rintro q v3 ORD3 HELD3 H9 fp3 ⟨rfl,rfl⟩ hS9 - -
    simp only[go_sem,rE,rA,rL]
    exact ak (.refl _) (aj.sub_refl _) ⟨_,ORD3,HELD3,⟨rfl,rfl⟩,hS9⟩
   ·simp only[go_sem,rE,rA,rL,hS7.e4,av,if_false,if_true]
    exact ak (.refl _) (aj.sub_refl _) ⟨_,ORD2,NIL,⟨by rw[cn er (by decide)];rfl,rfl⟩,hS7⟩
  ·rw[if_neg hz2,cn er hz2]
   simp only[go_sem,rE,rA,rL]
   exact ak (.refl _) (aj.sub_refl _) ⟨_,ORD2,NIL,⟨rfl,rfl⟩,hS7⟩
 ·rw[if_neg hz]at hpick
  rw[cn er hz,hpick]
  simp only[go_sem,rE,rA,rL]
  exact ak (.refl _) (aj.sub_refl _) ⟨_,ORD1,HELD1,⟨by rw[cn er hz];rfl,rfl⟩,hS5⟩
theorem c_kpick(L:Lib P F)(T:Tys F)(hC:eF P F er)(s:Nat)(n:ByteArray)(p o:Pl)(e:Ex)(hp:p.path.length<=2^30)(ho:o.path.length<=2^30)(d:Nat)(hd:d<=100)(he:e.okD d=true)(v:Sc)(hv:v.good):
 ScC P F er 103 [.ptr s 0,.agg (S n::(p.enc++(o.enc++e.enc)))] s v fun q v'=>q=er.ac (il v n p o e).2/\v'=(il v n p o e).1:=by
 intro H ORD HELD m1 m2 hE
 refine(L.a Tryz.func103 y103) (by simp[y103]) ?_
 have hn:=tt (er:=er) L T hC s d hd e he v hv
 have hvn:(v.number e).1.good:=by rw[ee];exact Sc.expr_good hv e
 have hpk:=zM (er:=er) L hC s n p o e hp ho (v.number e).1 hvn
 rw[Ex.enc_eq]at hn hpk⊢
 simp only[Pl.enc,cH,di]at hpk
 simp only[y103,go_sem,rE,rA,rL,Pl.enc,cH,di]
 intro b3 hb3
 have hS3:=hE.new hb3 (.cells [S n,S p.name,au p.path,S o.name,au o.path,I e.kind,I e.num,S e.place.name,au e.place.path,.sl 5 none (Ex.encs e.kids)])
 have n3:=hE.notin hb3
 have g3:(H.set b3 (.cells [S n,S p.name,au p.path,S o.name,au o.path,I e.kind,I e.num,S e.place.name,au e.place.path,.sl 5 none (Ex.encs e.kids)])).get b3=some (.cells [S n,S p.name,au p.path,S o.name,au o.path,I e.kind,I e.num,S e.place.name,au e.place.path,.sl 5 none (Ex.encs e.kids)]):=ai _ _ _
 clear hE hb3
 generalize H.set b3 _=H1 at*
 refine cZ hn hS3 rfl (.refl _) (fun h=>by simp at h) trivial ?_
 rintro q v1 ORD1 HELD1 H2 fp ⟨rfl,rfl⟩ hS2 hfr -
 have k3:=hfr b3 _ g3 n3
 by_cases hz:(v.number e).2=0
 ·have hx:il v n p o e=jm (v.number e).1 n p o:=by unfold il;rw[if_pos hz]
  rw[hx,hz,dv]
  simp only[go_sem,rE,rA,rL,k3.1]
  refine cZ hpk hS2 (by simp only[go_sem,rE,aS,bD]) (.refl _) (fun h=>by simp at h) trivial ?_
  rintro q v2 ORD2 HELD2 H4 fp2 ⟨rfl,rfl⟩ hS4 - -
  simp only[go_sem,rE,rA,rL]
  exact ak (.refl _) (aj.sub_refl _) ⟨_,ORD2,HELD2,⟨rfl,rfl⟩,hS4⟩
 ·have hx:il v n p o e=v.number e:=by unfold il;rw[if_neg hz]
  rw[hx,cn er hz]
  simp only[go_sem,rE,rA,rL,k3.1]
  exact ak (.refl _) (aj.sub_refl _) ⟨_,ORD1,HELD1,⟨rfl,rfl⟩,hS2⟩
end
noncomputable def pM(v:Sc)(f:Fu):Sc×(Ty×Int):=if f.lent then v.use f.gives else v.expr f.says
noncomputable def sB(r:Sc×(Ty×Int))(f:Fu):Int:=
 if r.2.2=0 then if eqB r.2.1 f.type then if(f.lent&&!fi r.1.vars f.gives.name)=true then 5 else 0 else 3 else r.2.2
section
variable {P:Program}{F:Ids}{er:bZ}
def ko2(F:Ids):aW:=.seq (.seq (rg [mv 0 23 6,pu 1 24 (.isNil true 23)]) (.cond 24 (.seq (rg [mv 0 25 6,mv 1 4 25]) .ret) .skip)) (.seq (.seq (rg [ld 0 26 (some 1) 5,fa 1 27 3 3,ld 2 28 (some 1) 27,ca 3 29 100 [26,28],pu 4 30 (.not 29)]) (.cond 30 (.seq (rg [ld 0 31 none (.glob 1),mv 1 4 31]) .ret) .skip)) (.seq (.seq (.region true [fa 0 32 2 3,ld 1 33 none 32,mv 2 34 33,gp 3 35 34 true (.move 0),gp 4 36 34 true (.nilCheck 35),gp 5 37 34 true (.fieldAddr 2 36),gl 6 38 34 true none 37,gp 7 39 34 true (.fieldAddr 10 3),gp 8 40 34 true (.fieldAddr 0 39),gl 9 41 34 true none 40,⟨10,some 42,some (34,true),.eff (.callX (.lookup (.agg [.lit (.slice none 0 0),.lit (.bool false),.lit (.bool false),.lit (.bool false),.lit (.bool false),.lit (.slice none 0 0)]) false) [38,41]),[]⟩,gp 11 43 34 true (.field 4 none 42),gp 12 44 34 true (.not 43),pu 13 45 (.pick 34 44 cf)]) (.cond 45 (.seq (rg [ld 0 46 none (.glob 4),mv 1 4 46]) .ret) .skip)) (.seq (rg [mv 0 4 (.const .nilIface)]) .ret)))
theorem AW(L:Lib P F){s:Nat}{r:Sc×(Ty×Int)}{ORD HELD:AC}{m1 m2 b3 b5:Nat}{E:Env}{H:aj}{f:Fu}{R:AC->aj->Prop}(hE:cF F er H s r.1 ORD HELD m1 m2)(e6:E 6=er.ac r.2.2)(e5:E 5=.ptr b5 0)(e3:E 3=.ptr b3 0)(e0:E 0=.ptr s 0)
(g5:H.get b5=some (.cells [.sl 1 none (Ty.encs r.2.1.kids)]))(g3:H.get b3=some (.cells f.enc))(hr:r.2.1.okB=true)
(hR:R (er.ac (sB r f)) H):(ko2 F).wp P (bm.post [.slot 4] R) E H:=by
 rw[Fu.enc_eq]at g3
 unfold sB at hR
 by_cases hz:r.2.2=0
 ·have hs:=me L 4 r.2.1 f.type hr
  rw[Ty.enc_eq,Ty.enc_eq]at hs
  rw[if_pos hz]at hR
  rw[hz,dv]at e6
  simp only[ko2,go_sem,rE,rA,rL,e6,e5,e3,g5,g3]
  refine ao hs rfl ?_
  cases hq:eqB r.2.1 f.type
  ·rw[hq]at hR
   simp only[av,if_false]at hR
   simp only[go_sem,rE,rA,rL,hE.e3]
   exact ak (.refl _) (aj.sub_refl _) (by rw[cn er (by decide)]at hR;exact hR)
  ·rw[hq,if_pos rfl]at hR
   have ho:=hE.obj
   simp only[ScO]at ho
   cases hl:f.lent
   ·simp only[go_sem,rE,rA,rL,e0,e3,g3,hl,ho]
    simp only[hl,aK,av,if_false]at hR
    exact ak (.refl _) (aj.sub_refl _) hR
   ·simp only[go_sem,rE,rA,rL,e0,e3,g3,hl,ho]
    refine fF (k:=f.gives.name) (g:=cW r.1.vars) rfl hE.names trivial ?_
    obtain⟨x1,x2,x3,x4,x5,hlk⟩:=uZ r.1.vars f.gives.name
    rw[hlk]
    simp only[go_sem,rE,rA,rL,a7,aC]
    cases ho:fi r.1.vars f.gives.name
    ·simp only[hl,ho,kT,fZ,if_true]at hR
     simp only[go_sem,rE,rA,rL,hE.e5]
     exact ak (.refl _) (aj.sub_refl _) (by rw[cn er (by decide)]at hR;exact hR)
    ·simp only[hl,ho,Bool.not_true,aR,av,if_false]at hR
     simp only[go_sem,rE,rA,rL]
     exact ak (.refl _) (aj.sub_refl _) hR
 ·rw[if_neg hz,cn er hz]at hR
  rw[cn er hz]at e6
  simp only[ko2,go_sem,rE,rA,rL,e6,e5,e3,g5,g3]
  exact ak (.refl _) (aj.sub_refl _) hR
theorem c_kout(L:Lib P F)(T:Tys F)(hC:eF P F er)(s:Nat)(f:Fu)(hf:if f.lent then f.gives.path.length<=2^30 else f.says.okD 4=true)(v:Sc)(hv:v.good):
 ScC P F er 110 [.ptr s 0,.agg f.enc] s v fun q v'=>q=er.ac (sB (pM v f) f)/\v'=(pM v f).1:=by
 intro H ORD HELD m1 m2 hE
 refine(L.a Tryz.func110 y110) (by simp[y110]) ?_
 have hfe:=Fu.enc_eq f
 rw[hfe]
 simp only[y110,go_sem,rE,rA,rL]
 intro b3 hb3 b5 hb5
 rw[<-hfe]at hb5⊢
 have d35:=al (ai _ _ _) hb5
 have hS3:=hE.new hb3 (.cells f.enc)
 have hS5:=hS3.new hb5 (.cells [NIL])
 have n3:=hE.notin hb3
 have n5:=hS3.notin hb5
 have g3:((H.set b3 (.cells f.enc)).set b5 (.cells [NIL])).get b3=some (.cells f.enc):=by rw[ae _ _ d35,ai]
 have g5:((H.set b3 (.cells f.enc)).set b5 (.cells [NIL])).get b5=some (.cells [NIL]):=ai _ _ _
 clear hb3 hb5 hS3 hE
 generalize(H.set b3 _).set b5 _=H1 at*
 generalize hkg:(aW.seq (.seq (rg [mv 0 23 6,_]) (.cond 24 _ .skip)) _)=KG
 have hkg':KG=ko2 F:=hkg.symm
 subst hkg'
 have g3o:=g3
 rw[hfe]at g3
 cases hl:f.lent
 ·rw[hl]at hf
  simp only[av,if_false]at hf
  have hx:pM v f=v.expr f.says:=by unfold pM;rw[hl];rfl
  rw[hx]
  have hu:=pk (er:=er) L T hC s 4 (by omega) f.says hf v hv
  rw[Ex.enc_eq]at hu
  simp only[go_sem,rE,rA,rL,g3,hl]
  refine cZ hu hS5 rfl (.refl _) (fun h=>by simp at h) trivial ?_
  rintro q v1 ORD1 HELD1 H3 fp ⟨rfl,rfl⟩ hS3 hfr -
  have k3:=hfr b3 _ g3o n3
  have k5:=hfr b5 _ g5 n5
  simp only[iw,Ty.enc_eq]
  simp only[go_sem,rE,rA,rL,a7,aC,k5.1]
  exact AW L (r:=v.expr f.says) (f:=f) (hS3.put k5.2 _) rfl rfl rfl rfl (ai _ _ _) (by rw[ae _ _ d35];exact k3.1) (jb _ hv) ⟨_,ORD1,HELD1,⟨rfl,rfl⟩,hS3.put k5.2 _⟩
 ·rw[hl]at hf
  simp only[if_true]at hf
  have hx:pM v f=v.use f.gives:=by unfold pM;rw[hl];rfl
  rw[hx]
  have hu:=oE L hC s v f.gives hv hf
  rw[Pl.enc]at hu
  simp only[go_sem,rE,rA,rL,g3,hl]
  refine cZ hu hS5 rfl (.refl _) (fun h=>by simp at h) trivial ?_
  rintro q v1 ORD1 HELD1 H3 fp ⟨rfl,rfl⟩ hS3 hfr -
  have k3:=hfr b3 _ g3o n3
  have k5:=hfr b5 _ g5 n5
  simp only[iw,Ty.enc_eq]
  simp only[go_sem,rE,rA,rL,a7,aC,k5.1]
  exact AW L (r:=v.use f.gives) (f:=f) (hS3.put k5.2 _) rfl rfl rfl rfl (ai _ _ _) (by rw[ae _ _ d35];exact k3.1) (ji hv _) ⟨_,ORD1,HELD1,⟨rfl,rfl⟩,hS3.put k5.2 _⟩
end
noncomputable def mD(v:Sc)(a:Sc×Int)(b:Sc->Sc×Int):Sc×Int:=
 if a.2=0 then
  if(b {v with given:=a.1.given}).2=0 then({v with vars:=gu v.vars (v.vars.map (·.name)) [a.1.vars,(b {v with given:=a.1.given}).1.vars],given:=(b {v with given:=a.1.given}).1.given},0)
  else({v with given:=(b {v with given:=a.1.given}).1.given},(b {v with given:=a.1.given}).2)
 else({v with given:=a.1.given},a.2)
mutual
noncomputable def Sc.stmt (v:Sc):St->Sc×Int
 |.mk k n p o e f zas t l=>
  if k=1 then if(v.expr e).2.2=0 then eC (v.expr e).1 ⟨n,false,false,(v.expr e).2.1,[],false⟩else((v.expr e).1,(v.expr e).2.2)
  else if k=2 then if(v.use p).2.2=0 then eC (v.use p).1 ⟨n,true,false,(v.use p).2.1,[p],false⟩else((v.use p).1,(v.use p).2.2)
  else if k=3 then if(v.expr e).2.2=0 then(((v.expr e).1.use p).1,if((v.expr e).1.use p).2.2=0 then(if eqB (v.expr e).2.1 ((v.expr e).1.use p).2.1 then 0 else 3)else((v.expr e).1.use p).2.2)else((v.expr e).1,(v.expr e).2.2)
  else if k=4 then gv v n f zas
  else if k=6 then il v n p o e
  else if(v.number e).2=0 then
   if((v.number e).1.stmts t).2=0 then
    if(({(v.number e).1 with given:=((v.number e).1.stmts t).1.given}:Sc).stmts l).2=0 then({(v.number e).1 with vars:=gu (v.number e).1.vars ((v.number e).1.vars.map (·.name)) [((v.number e).1.stmts t).1.vars,(({(v.number e).1 with given:=((v.number e).1.stmts t).1.given}:Sc).stmts l).1.vars],given:=(({(v.number e).1 with given:=((v.number e).1.stmts t).1.given}:Sc).stmts l).1.given},0)
    else({(v.number e).1 with given:=(({(v.number e).1 with given:=((v.number e).1.stmts t).1.given}:Sc).stmts l).1.given},(({(v.number e).1 with given:=((v.number e).1.stmts t).1.given}:Sc).stmts l).2)
   else({(v.number e).1 with given:=((v.number e).1.stmts t).1.given},((v.number e).1.stmts t).2)
  else v.number e
termination_by x=>SizeOf.sizeOf x
noncomputable def Sc.stmts (v:Sc):List St->Sc×Int
 |[]=>(v,0)
 |s::l=>if(v.stmt s).2=0 then(v.stmt s).1.stmts l else v.stmt s
termination_by x=>SizeOf.sizeOf x
end
noncomputable def Sc.ways(v:Sc)(t l:List St):Sc×Int:=mD v (v.stmts t) fun w=>w.stmts l
theorem Sc.stmt_eq(v:Sc)(s:St):v.stmt s=if s.kind=1 then if(v.expr s.expr).2.2=0 then eC (v.expr s.expr).1 ⟨s.name,false,false,(v.expr s.expr).2.1,[],false⟩else((v.expr s.expr).1,(v.expr s.expr).2.2)
 else if s.kind=2 then if(v.use s.place).2.2=0 then eC (v.use s.place).1 ⟨s.name,true,false,(v.use s.place).2.1,[s.place],false⟩else((v.use s.place).1,(v.use s.place).2.2)
 else if s.kind=3 then if(v.expr s.expr).2.2=0 then(((v.expr s.expr).1.use s.place).1,if((v.expr s.expr).1.use s.place).2.2=0 then(if eqB (v.expr s.expr).2.1 ((v.expr s.expr).1.use s.place).2.1 then 0 else 3)else((v.expr s.expr).1.use s.place).2.2)else((v.expr s.expr).1,(v.expr s.expr).2.2)
 else if s.kind=4 then gv v s.name s.fn s.args
 else if s.kind=6 then il v s.name s.place s.other s.expr
 else if(v.number s.expr).2=0 then(v.number s.expr).1.ways s.thn s.els else v.number s.expr:=by
 obtain⟨k,n,p,o,e,f,zas,t,l⟩:=s
 rw[Sc.stmt.eq_def];rfl
theorem eM(v:Sc):v.stmts []=(v,0):=by rw[Sc.stmts.eq_def]
theorem dP(v:Sc)(s:St)(l:List St):v.stmts (s::l)=if(v.stmt s).2=0 then(v.stmt s).1.stmts l else v.stmt s:=by rw[Sc.stmts.eq_def]
structure Sc.step(v w:Sc)(n:Nat):Prop where
 p:w.p=v.p
 good:w.good
 held:w.held=[]
 lost:w.lost=v.lost
 hi:w.vars.length<=v.vars.length+n
 lo:v.vars.length<=w.vars.length
 pre:(w.vars.take v.vars.length).map Vr.core=v.vars.map Vr.core
 giv:∃g,w.given=v.given++g
theorem Sc.step.refl{v:Sc}(h:v.good)(hh:v.held=[]):v.step v 0:=⟨rfl,h,hh,rfl,aD _,aD _,by rw[aO],[],by simp⟩
theorem Sc.step.mono{v w:Sc}{n m:Nat}(h:v.step w n)(hm:n<=m):v.step w m:=⟨h.p,h.good,h.held,h.lost,by have:=h.hi;omega,h.lo,h.pre,h.giv⟩
theorem Sc.step.trans{u v w:Sc}{n m:Nat}(h:u.step v n)(h':v.step w m):u.step w (n+m):=by
 refine⟨h'.p.trans h.p,h'.good,h'.held,h'.lost.trans h.lost,by have:=h.hi;have:=h'.hi;omega,bV h.lo h'.lo,?_,?_⟩
 ·rw[<-h.pre]
  have e:=h'.pre
  have:w.vars.take u.vars.length=(w.vars.take v.vars.length).take u.vars.length:=by rw[List.take_take,eP h.lo]
  rw[this,ip,e,<-ip]
 ·obtain⟨g,hg⟩:=h.giv
  obtain⟨g',hg'⟩:=h'.giv
  exact⟨g++g',by rw[hg',hg,eE]⟩
theorem Sc.step.of_core{v w:Sc}(h:v.good)(hh:v.held=[])(hc:w.vars.map Vr.core=v.vars.map Vr.core)(hg:w.given=v.given)(hd:w.held=v.held)(hp:w.p=v.p)(hl:w.lost=v.lost):v.step w 0:=
 ⟨hp,h.core hc hg hd,hd.trans hh,hl,by rw[gN hc];omega,by rw[gN hc];omega,by rw[<-gN hc,aO];exact hc,[],by simp[hg]⟩
theorem nq{v:Sc}(h:v.good)(hh:v.held=[])(p:Pl):v.step (v.use p).1 0:=
 .of_core h hh (v.use_core p).1 (v.use_core p).2.1 (v.use_core p).2.2.1 (v.use_core p).2.2.2 (by unfold Sc.use;split<;>simp[hh])
theorem mh:∀(e:Ex) (v:Sc),v.held=[]->(v.expr e).1.lost=v.lost
 |.mk k n p ks,v,hh=>by
  rw[Sc.expr_eq]
  split
  ·rfl
  ·split
   ·unfold Sc.use;split<;>simp[hh]
   ·split
    ·rename_i a b l
     have ha:=mh a v hh
     have hb:=mh b (v.expr a).1 ((Sc.expr_core a v).2.2.1.trans hh)
     split
     ·split
      ·split
       ·exact hb.trans ha
       ·exact hb.trans ha
      ·exact hb.trans ha
     ·exact ha
    ·rfl
termination_by e=>SizeOf.sizeOf e
theorem jv{v:Sc}(h:v.good)(hh:v.held=[])(e:Ex):v.step (v.expr e).1 0:=
 .of_core h hh (Sc.expr_core e v).1 (Sc.expr_core e v).2.1 (Sc.expr_core e v).2.2.1 (Sc.expr_core e v).2.2.2 (mh e v hh)
theorem qo{v:Sc}(h:v.ok){n:ByteArray}(hn:(v.given.any fun m=>eqB m n)=false):n∉v.vars.map (·.name):=by
 intro hm
 obtain⟨x,hx⟩:=pP hm
 rw[h.fresh hn]at hx
 simp at hx
theorem kM{v:Sc}(h:v.good)(hh:v.held=[]){x:Vr}(ht:x.type.okB=true)(hl:x.loans.length<=2^30)(hp:∀q∈x.loans,q.path.length<=2^30)(hn:v.vars.length+1<=2^30)(hz:(eC v x).2=0):v.step (eC v x).1 1:=by
 have hok:=rF h.ok x
 unfold eC at hz hok⊢
 split at hz
 ·simp at hz
 rename_i hg
 rw[if_neg hg]at hok⊢
 refine⟨rfl,⟨hok,?_,by simp;omega,h.hl,h.hp,?_,?_,?_⟩,hh,rfl,by simp,by simp,by simp,[x.name],rfl⟩
 ·simp only[bf,aS,bD]
  rw[eD]
  refine⟨h.nd,by simp,?_⟩
  intro a ha b hb
  simp at hb
  subst hb
  rintro rfl
  exact qo h.ok (by simpa using hg) ha
 ·intro y hy
  rcases aF.1 hy with hy|hy
  ·exact h.lp y hy
  ·rw[cA.1 hy];exact hp
 ·intro y hy
  rcases aF.1 hy with hy|hy
  ·exact h.ll y hy
  ·rw[cA.1 hy];exact hl
 ·intro y hy
  rcases aF.1 hy with hy|hy
  ·exact h.ty y hy
  ·rw[cA.1 hy];exact ht
theorem wX(vs:List Vr)(n:ByteArray)(ws:List (List Vr)):(jQ vs n ws).map Vr.core=vs.map Vr.core:=by
 unfold jQ
 induction ws generalizing vs with
 |nil=>rfl
 |cons w ws ihw=>
  rw[dM,ihw]
  split
  ·exact tg _ _
  ·rfl
theorem ow(vs:List Vr)(ns:List ByteArray)(ws:List (List Vr)):(gu vs ns ws).map Vr.core=vs.map Vr.core:=by
 unfold gu
 induction ns generalizing vs with
 |nil=>rfl
 |cons n ns ih=>rw[dM,ih,wX]
theorem tZ{v:Sc}(h:v.good){n:ByteArray}{f:Fu}(hf:f.type.okB=true)(hn:v.vars.length+1<=2^30)(hz:(gH v n f).2=0):v.lost=false/\v.clear.step (gH v n f).1 1:=by
 unfold gH at hz⊢
 split at hz
 ·simp at hz
 rename_i hl
 rw[if_neg hl]
 refine⟨by simpa using hl,kM (v:=v.clear) (nW h) rfl (x:=⟨n,f.lent,false,f.type,if f.lent then v.held else [],false⟩) hf ?_ ?_ hn hz⟩
 ·simp only;split
  ·exact h.hl
  ·simp
 ·simp only;split
  ·exact h.hp
  ·simp
theorem x6{v:Sc}(h:v.good)(hh:v.held=[])(hlo:v.lost=false){n fn:ByteArray}{zas:List Ag}(ha:∀a∈zas,a.okB=true)(hal:zas.length<=2^20)(hp:∀f∈v.p,f.type.okB=true)(hn:v.vars.length+1<=2^30)(hz:(gv v n fn zas).2=0):v.step (gv v n fn zas).1 1:=by
 unfold gv at hz⊢
 split at hz
 ·simp at hz
 rename_i f hf
 split at hz
 ·rename_i hl
  rw[if_pos hl]
  split at hz
  ·rename_i h0
   rw[if_pos h0]
   obtain⟨c1,c2,c3,c4⟩:=oF zas f.params v
   have g:=rX zas f.params h ha (by rw[hh];simp;omega)
   have hl1:=gN c1
   obtain⟨s1,s2⟩:=tZ g (hp f (List.mem_of_find?_eq_some hf)) (by rw[hl1];exact hn) hz
   have s0:v.step (dO v zas f.params).1.clear 0:=.of_core h hh c1 c2 (by simp[Sc.clear,hh]) c4 (by simp[Sc.clear,hlo])
   exact(s0.trans s2).mono (by omega)
  ·rename_i h0
   exact absurd hz h0
 ·simp at hz
theorem wJ{v:Sc}(h:v.good)(hh:v.held=[])(hlo:v.lost=false){n:ByteArray}{p o:Pl}{e:Ex}(hp:p.path.length<=2^30)(ho:o.path.length<=2^30)(hn:v.vars.length+1<=2^30)(hz:(il v n p o e).2=0):v.step (il v n p o e).1 1:=by
 unfold il at hz⊢
 split at hz
 ·rename_i h0
  rw[if_pos h0]
  have s1:=jv h hh e
  rw[<-ee]at s1
  generalize(v.number e).1=u at*
  unfold jm at hz⊢
  split at hz
  ·rename_i h1
   rw[if_pos h1]
   have s2:=nq s1.good s1.held p
   have t2:=ji s1.good p
   generalize u.use p=r at*
   obtain⟨c1,c2,c3,c4⟩:=Sc.use_core (r.1.hold1 p) o
   have g2:=lw (jJ s2.good hp) o
   generalize(r.1.hold1 p).use o=w at*
   unfold oR at hz⊢
   split at hz
   ·rename_i h2
    rw[if_pos h2]
    split at hz
    ·rename_i h3
     rw[if_pos h3]
     split at hz
     ·simp at hz
     ·rename_i h4
      rw[if_neg h4]
      have hl1:w.1.vars.length=r.1.vars.length:=gN c1
      have s3:r.1.step w.1.clear 0:=.of_core s2.good s2.held c1 c2 (by simp[Sc.clear,s2.held]) c4 (by simp[Sc.clear,s2.lost,s1.lost,hlo])
      have b1:=s1.hi;have b2:=s2.hi;have b3:=s3.hi
      have s4:=kM s3.good s3.held (x:=⟨n,true,false,r.2.1,[p,o],false⟩) t2 (by simp) (by simp;exact⟨hp,ho⟩) (by omega) hz
      exact(((s1.trans s2).trans s3).trans s4).mono (by omega)
    ·simp at hz
   ·rename_i h2;exact absurd hz h2
  ·rename_i h1;exact absurd hz h1
 ·rename_i h0;exact absurd hz h0
theorem Rel.nil{e:En}{u:Sc}{T:List Vr}(h:Rel e u T)(hh:u.held=[]):T=[]:=by
 have:=h.tmp.len
 rw[hh]at this
 exact bu this
theorem oq{d:Nat}{x:Ex}(hx:x.okD d=true){e:En}{u:Sc}{T:List Vr}(h:Rel e u T):
 ((u.number x).2=0/\∃T',Rel ((e.expr x).1.num (e.expr x).2) (u.number x).1 T')\/((u.number x).2≠0/\((e.expr x).1.num (e.expr x).2).code=(u.number x).2):=by
 simp only[Sc.number]
 rcases mW d x hx h with⟨a,⟨T',b⟩,c⟩|⟨a,b⟩
 ·rw[if_pos a,c]
  by_cases hk:(u.expr x).2.1.kids.length=0
  ·left;simp only[hk,if_true];exact⟨trivial,T',b.num hk⟩
  ·right;simp only[hk,if_false];exact⟨by decide,by rw[oS b.code,if_neg hk]⟩
 ·rw[if_neg a]
  right
  exact⟨a,by rw[gD (by rw[b];exact a)];exact b⟩
theorem Rel.push{e:En}{u:Sc}{T:List Vr}(h:Rel e u T){p:Pl}(hp:∃x∈u.vars,x.name=p.name):Rel (e.push (cY p)) {u with held:=u.held++[p]} (T++[cY p])where
 vars:=by simp only[En.push,h.vars,eE]
 names:=h.names
 code:=h.code
 p:=h.p
 ok:=h.ok
 tmp:=by
  refine⟨by simp[h.tmp.len],fun i hi hi'=>?_,fun q hq=>?_⟩
  ·by_cases hlt:i<T.length
   ·have hlt':i<u.held.length:=by rw[<-h.tmp.len];exact hlt
    have:=h.tmp.tmp i hlt hlt'
    simp only[dE hlt,dE hlt']
    exact this
   ·have e1:i=T.length:=by simp at hi;omega
    subst e1
    simp only[h.tmp.len]
    simp[cY,h.tmp.len]
  ·rcases aF.1 hq with hq|hq
   ·exact h.tmp.nm q hq
   ·rw[cA.1 hq];exact hp
 lost:=by simp[h.lost,cY]
 giv:=h.giv
theorem Rel.pop{e:En}{u:Sc}{T:List Vr}(h:Rel e u T):Rel (e.pop u.vars.length) {u with held:=[],lost:=false} []where
 vars:=by simp[En.pop,h.vars]
 names:=h.names
 code:=h.code
 p:=h.p
 ok:=h.ok
 tmp:=⟨rfl,fun i hi=>by simp at hi,fun q hq=>by simp at hq⟩
 lost:=rfl
 giv:=h.giv
theorem rW:∀(zas:List Ag) (ps:List Pa),(∀a∈zas,a.okB=true)->zas.length=ps.length->∀{e:En} {u:Sc} {T:List Vr},Rel e u T->
 ((dO u zas ps).2=0/\∃w T',e.args (ps.zip zas) u.held=(w,some (dO u zas ps).1.held)/\Rel w (dO u zas ps).1 T')\/((dO u zas ps).2≠0/\(e.args (ps.zip zas) u.held).1.code=(dO u zas ps).2)
 |[],[],_,_,e,u,T,h=>.inl ⟨rfl,e,T,rfl,h⟩
 |[],p::ps,_,hl,e,u,T,h=>by simp at hl
 |a::zas,[],_,hl,e,u,T,h=>by simp at hl
 |a::zas,p::ps,ha,hl,e,u,T,h=>by
  have hao:=ha a eO
  have hrest:∀x∈zas,x.okB=true:=fun x hx=>ha x (dV _ hx)
  simp only[aU,Nat.add_right_cancel_iff]at hl
  rw[List.zip_cons_cons,En.args,dO]
  by_cases hne:a.lent=p.lent
  ·have hb:¬(a.lent !=p.lent)=true:=by simp[hne]
   simp only[hne,ne_eq,not_true_eq_false,if_false]
   by_cases hlt:a.lent=true
   ·have hpl:p.lent=true:=by rw[<-hne];exact hlt
    have hA:iL u a p=({(u.use a.place).1 with held:=(u.use a.place).1.held++[a.place]},if(u.use a.place).2.2=0 then(if eqB (u.use a.place).2.1 p.type then 0 else 3)else(u.use a.place).2.2):=by
     unfold iL;rw[if_neg hb,if_pos hlt]
    rw[hA]
    simp only[hpl,if_true]
    have hpok:a.place.okB=true:=by
     simp only[Ag.okB,hlt,if_true,a6]at hao;exact hao.1
    have hheld:=(u.use_core a.place).2.2.1
    rcases lP h (p:=a.place) (kG hpok)with⟨a1,⟨T1,a2⟩,a3,a4⟩|⟨a1,a2⟩
    ·have hin:∃x∈(u.use a.place).1.vars,x.name=a.place.name:=by
      obtain⟨x,hx,hn⟩:=a4
      have:x.core∈(u.use a.place).1.vars.map Vr.core:=by rw[(u.use_core a.place).1];exact cu hx
      obtain⟨y,hy,ey⟩:=aY.1 this
      exact⟨y,hy,by have:=congrArg Vr.name ey;exact this.trans hn⟩
     rw[if_pos a1,a3]
     by_cases hq:eqB (u.use a.place).2.1 p.type=true
     ·rw[if_pos hq]
      simp only[if_true]
      have r:=(a2.same hq).push hin
      have:=rW zas ps hrest hl r
      simp only[hheld]at this⊢
      exact this
     ·have hq':eqB (u.use a.place).2.1 p.type=false:=by simpa using hq
      simp only[hq',av,if_false]
      right
      refine⟨by simp,?_⟩
      have hc:=j4 a2.code (u.use a.place).2.1 p.type
      rw[hq',if_neg (by simp)]at hc
      rw[iN _ _ (by show(En.same _ _ _).code≠0;rw[hc];decide)]
      exact hc
    ·rw[if_neg a1,if_neg a1]
     right
     refine⟨a1,?_⟩
     have h1:((e.use a.place).1.same (e.use a.place).2 p.type).code=(u.use a.place).2.2:=(eZ (by rw[a2];exact a1) _ _).trans a2
     rw[iN _ _ (by show(En.same _ _ _).code≠0;rw[h1];exact a1)]
     exact h1
   ·have hpl:¬p.lent=true:=by rw[<-hne];exact hlt
    have hA:iL u a p=((u.expr a.expr).1,if(u.expr a.expr).2.2=0 then(if eqB (u.expr a.expr).2.1 p.type then 0 else 3)else(u.expr a.expr).2.2):=by
     unfold iL;rw[if_neg hb,if_neg hlt]
    rw[hA]
    simp only[hpl,av,if_false]
    have hx:a.expr.okD 4=true:=by
     have hf:a.lent=false:=by simpa using hlt
     simp only[Ag.okB,hf,av,if_false,a6]at hao;exact hao.2
    have hheld:=(Sc.expr_core a.expr u).2.2.1
    rcases mW 4 a.expr hx h with⟨a1,⟨T1,a2⟩,a3⟩|⟨a1,a2⟩
    ·rw[if_pos a1,a3]
     by_cases hq:eqB (u.expr a.expr).2.1 p.type=true
     ·rw[if_pos hq]
      simp only[if_true]
      have:=rW zas ps hrest hl (a2.same hq)
      rw[hheld]at this
      exact this
     ·have hq':eqB (u.expr a.expr).2.1 p.type=false:=by simpa using hq
      simp only[hq',av,if_false]
      right
      refine⟨by simp,?_⟩
      have hc:=j4 a2.code (u.expr a.expr).2.1 p.type
      rw[hq',if_neg (by simp)]at hc
      rw[iN _ _ (by rw[hc];decide)]
      exact hc
    ·rw[if_neg a1,if_neg a1]
     right
     refine⟨a1,?_⟩
     have h1:((e.expr a.expr).1.same (e.expr a.expr).2 p.type).code=(u.expr a.expr).2.2:=(eZ (by rw[a2];exact a1) _ _).trans a2
     rw[iN _ _ (by rw[h1];exact a1)]
     exact h1
  ·have hb:(a.lent !=p.lent)=true:=by simpa using hne
   have hA:iL u a p=(u,3):=by unfold iL;rw[if_pos hb]
   rw[hA]
   simp only[ne_eq,hne,not_false_eq_true,if_true]
   right
   exact⟨by simp,by simp[En.fail,dG,h.code]⟩
theorem pt{e:En}{u:Sc}(h:Rel e u []){x:Vr}(hn:x.name≠bl [])(hl:∀q∈x.loans,∃y∈u.vars,y.name=q.name)(hh:u.held=[]):
 ((eC u x).2=0/\Rel (e.add x) (eC u x).1 [])\/((eC u x).2≠0/\(e.add x).code=(eC u x).2):=by
 have hany:(e.names.any fun m=>decide (m=x.name))=u.given.any fun m=>eqB m x.name:=by
  rw[h.names]
  congr 1
  funext m
  rw[bg,cN,decide_eq_true_eq]
 have hok:=rF h.giv x
 unfold eC at hok⊢
 by_cases hg:(u.given.any fun m=>eqB m x.name)=true
 ·rw[if_pos hg]
  right
  refine⟨by simp,?_⟩
  simp only[En.add,zX,hany,hg,if_true,dG,h.code]
 ·rw[if_neg hg]at hok⊢
  left
  refine⟨rfl,?_,?_,?_,h.p,⟨?_,fun y hy=>?_,fun i hi q hq=>?_⟩,⟨?_,?_,?_⟩,?_,hok⟩
  ·simp[En.add,h.vars]
  ·simp[En.add,h.names]
  ·simp only[En.add,zX,hany,if_neg hg,h.code]
  ·simp only[bf,aS,bD]
   rw[eD]
   refine⟨h.ok.nd,by simp,?_⟩
   intro a ha b hb
   simp at hb
   subst hb
   rintro rfl
   exact qo h.giv (by simpa using hg) ha
  ·rcases aF.1 hy with hy|hy
   ·exact h.ok.ne y hy
   ·rw[cA.1 hy];exact hn
  ·by_cases hlt:i<u.vars.length
   ·simp only[dE hlt]at hq
    obtain⟨j,hj,e⟩:=h.ok.up i hlt q hq
    exact⟨j,hj,by rw[aL (by omega)];exact e⟩
   ·have:i=u.vars.length:=by simp at hi;omega
    subst this
    simp at hq
    obtain⟨y,hy,e⟩:=hl q hq
    obtain⟨j,hj,rfl⟩:=aZ.1 hy
    exact⟨j,hj,by rw[aL hj,aw hj];simp[e]⟩
  ·simp[hh]
  ·intro i hi;simp at hi
  ·simp[hh]
  ·have:=h.lost;simpa using this
theorem yr(fs:List Fu)(n:ByteArray)(m:Nat):(fs.take m).find? (fun f=>eqB f.name n)=(kf fs n m).bind fun i=>fs[i]?:=by
 unfold kf
 have key:∀l:List Fu,l.find? (fun f=>eqB f.name n)=(l.findIdx? fun f=>decide (f.name=n)).bind fun i=>l[i]?:=by
  intro l
  induction l with
  |nil=>rfl
  |cons x l ih=>
   rw[List.find?_cons,List.findIdx?_cons]
   by_cases h:x.name=n
   ·subst h;simp[dH]
   ·have:eqB x.name n=false:=cL.2 h
    rw[this]
    simp only[decide_eq_true_eq,h,if_false,Option.bind_map,ih]
    rfl
 rw[key]
 cases hi:(fs.take m).findIdx? (fun f=>decide (f.name=n))with
 |none=>rfl
 |some i=>
  obtain⟨hl,-⟩:=cg.1 hi
  have:i<m:=by rw[bp]at hl;omega
  simp only[Option.bind_some,dF this]
theorem argsS_p(zas:List Ag)(ps:List Pa)(v:Sc):(dO v zas ps).1.vars.length=v.vars.length:=gN (oF zas ps v).1
theorem Bv{s:St}(hn:bB s.name=true)(ha:∀a∈s.args,a.okB=true){e:En}{u:Sc}(h:Rel e u [])(hh:u.held=[]):
 ((gv u s.name s.fn s.args).2=0/\Rel (e.call s) (gv u s.name s.fn s.args).1 [])\/((gv u s.name s.fn s.args).2≠0/\(e.call s).code=(gv u s.name s.fn s.args).2):=by
 have hname:s.name≠bl []:=by
  intro e;rw[e]at hn;simp[bB,bl]at hn;exact absurd hn.1 (by decide)
 have hf:=yr e.p s.fn e.fn
 rw[<-h.p]at hf
 unfold gv En.call
 rw[hf]
 cases hi:kf e.p s.fn e.fn with
 |none=>
  right
  simp only[Option.bind_none]
  exact⟨by simp,by simp[En.fail,dG,h.code]⟩
 |some k=>
  simp only[Option.bind_some]
  cases hk:e.p[k]? with
  |none=>
   exfalso
   unfold kf at hi
   obtain⟨hl,-⟩:=cg.1 hi
   rw[bp]at hl
   rw[List.getElem?_eq_none_iff]at hk
   omega
  |some f=>
   simp only
   by_cases hlen:s.args.length=f.params.length
   ·have hl2:¬(f.params.length≠s.args.length):=by simp[hlen]
    rw[if_pos hlen,if_neg hl2]
    have hsim:=rW s.args f.params ha hlen h
    rw[hh]at hsim
    have hvl:e.vars.length=u.vars.length:=by rw[h.vars];simp
    have hvu:=argsS_p s.args f.params u
    rcases hsim with⟨a1,w,T',a2,a3⟩|⟨a1,a2⟩
    ·rw[if_pos a1,a2]
     simp only
     generalize dO u s.args f.params=r at*
     unfold gH
     have hgone:((w.vars.drop e.vars.length).any fun x=>x.dead)=r.1.lost:=by
      rw[a3.vars,hvl,<-hvu,List.drop_left,a3.lost]
     cases hlo:r.1.lost
     ·have hg:w.gone e.vars.length=w:=by unfold En.gone;rw[hgone,hlo];rfl
      rw[hg,hvl,<-hvu]
      simp only[av,if_false]
      refine pt a3.pop hname ?_ rfl
      intro q hq
      simp only at hq
      split at hq
      ·exact a3.tmp.nm q hq
      ·simp at hq
     ·have hg:w.gone e.vars.length=w.fail 4:=by unfold En.gone;rw[hgone,hlo];rfl
      rw[hg]
      simp only[if_true]
      right
      refine⟨by simp,?_⟩
      have hc:(w.fail 4).code=4:=by simp[En.fail,dG,a3.code]
      rw[eR (by show(w.fail 4).code≠0;rw[hc];decide)]
      exact hc
    ·rw[if_neg a1]
     right
     refine⟨a1,?_⟩
     rcases hw:e.args (f.params.zip s.args) []with⟨w,o⟩
     rw[hw]at a2
     cases o with
     |none=>exact a2
     |some pl=>
      simp only at a2⊢
      have h1:(w.gone e.vars.length).code=w.code:=uu (by rw[a2];exact a1) _
      rw[eR (by show(w.gone _).code≠0;rw[h1,a2];exact a1)]
      exact h1.trans a2
   ·have hl2:f.params.length≠s.args.length:=fun e=>hlen e.symm
    rw[if_neg hlen,if_pos hl2]
    right
    exact⟨by simp,by simp[En.fail,dG,h.code]⟩
theorem AG{s:St}(hn:bB s.name=true)(hp:s.place.okB=true)(ho:s.other.okB=true)(hx:s.expr.okD 4=true){e:En}{u:Sc}(h:Rel e u [])(hh:u.held=[]):
 ((il u s.name s.place s.other s.expr).2=0/\Rel (e.pick s) (il u s.name s.place s.other s.expr).1 [])\/((il u s.name s.place s.other s.expr).2≠0/\(e.pick s).code=(il u s.name s.place s.other s.expr).2):=by
 have hname:s.name≠bl []:=by
  intro e;rw[e]at hn;simp[bB,bl]at hn;exact absurd hn.1 (by decide)
 have hheld1:(u.number s.expr).1.held=[]:=by rw[ee,(Sc.expr_core s.expr u).2.2.1];exact hh
 have keep:∀{c:Int},c≠0->∀{v:En},v.code=c->∀(T:Ty) (n:Nat) (x:Vr),(((if dx (((v.push (cY s.place)).use s.other).1.same ((v.push (cY s.place)).use s.other).2 T).vars n then(((v.push (cY s.place)).use s.other).1.same ((v.push (cY s.place)).use s.other).2 T).fail 4 else(((v.push (cY s.place)).use s.other).1.same ((v.push (cY s.place)).use s.other).2 T)).pop n).add x).code=c:=by
  intro c hc v hv T n x
  have h1:((v.push (cY s.place)).use s.other).1.code=c:=(jX (by show v.code≠0;rw[hv];exact hc) _).trans hv
  have h2:(((v.push (cY s.place)).use s.other).1.same ((v.push (cY s.place)).use s.other).2 T).code=c:=(eZ (by rw[h1];exact hc) _ _).trans h1
  split
  ·have h3:=(fV (v:=((v.push (cY s.place)).use s.other).1.same ((v.push (cY s.place)).use s.other).2 T) (by rw[h2];exact hc) 4).trans h2
   rw[eR (by show(En.fail _ 4).code≠0;rw[h3];exact hc)]
   exact h3
  ·rw[eR (by show(En.same _ _ _).code≠0;rw[h2];exact hc)]
   exact h2
 unfold il
 simp only[En.pick]
 rcases oq hx h with⟨a1,T1,a2⟩|⟨a1,a2⟩
 ·rw[if_pos a1]
  obtain rfl:=a2.nil hheld1
  generalize(u.number s.expr).1=u1 at*
  generalize(e.expr s.expr).1.num (e.expr s.expr).2=e1 at*
  unfold jm
  have hheld2:(u1.use s.place).1.held=[]:=by rw[(u1.use_core s.place).2.2.1];exact hheld1
  rcases lP a2 (p:=s.place) (kG hp)with⟨b1,⟨T2,b2⟩,b3,b4⟩|⟨b1,b2⟩
  ·rw[if_pos b1,b3]
   obtain rfl:=b2.nil hheld2
   have hin:∃x∈(u1.use s.place).1.vars,x.name=s.place.name:=by
    obtain⟨x,hx,hn⟩:=b4
    have:x.core∈(u1.use s.place).1.vars.map Vr.core:=by rw[(u1.use_core s.place).1];exact cu hx
    obtain⟨y,hy,ey⟩:=aY.1 this
    exact⟨y,hy,by have:=congrArg Vr.name ey;exact this.trans hn⟩
   have hvl:(e1.use s.place).1.vars.length=(u1.use s.place).1.vars.length:=by rw[b2.vars];simp
   rw[hvl]
   have r:=b2.push hin
   rw[hheld2]at r
   have hr1:({(u1.use s.place).1 with held:=[]++[s.place]}:Sc)=(u1.use s.place).1.hold1 s.place:=by
    have hl:(u1.use s.place).1.lost=false:=by have:=b2.lost;simpa using this
    generalize(u1.use s.place).1=z at*
    obtain⟨z1,z2,z3,z4,z5⟩:=z
    simp only at hl
    subst hl
    rfl
   rw[hr1]at r
   generalize(u1.use s.place).2.1=t at*
   have hcore:=Sc.use_core ((u1.use s.place).1.hold1 s.place) s.other
   have hinv:∀x,x.name=s.place.name->x∈(u1.use s.place).1.vars->∃y∈(((u1.use s.place).1.hold1 s.place).use s.other).1.vars,y.name=s.place.name:=by
    intro x hn hx
    have:x.core∈(((u1.use s.place).1.hold1 s.place).use s.other).1.vars.map Vr.core:=by rw[hcore.1];exact cu hx
    obtain⟨y,hy,ey⟩:=aY.1 this
    exact⟨y,hy,by have:=congrArg Vr.name ey;exact this.trans hn⟩
   obtain⟨x0,hx0,hn0⟩:=hin
   have hp1:=hinv x0 hn0 hx0
   have hlen1:(((u1.use s.place).1.hold1 s.place).use s.other).1.vars.length=(u1.use s.place).1.vars.length:=gN hcore.1
   have hheld3:(((u1.use s.place).1.hold1 s.place).use s.other).1.held=[s.place]:=hcore.2.2.1
   rcases lP r (p:=s.other) (kG ho)with⟨c1,⟨T3,c2⟩,c3,c4⟩|⟨c1,c2⟩
   ·have ho1:∃y∈(((u1.use s.place).1.hold1 s.place).use s.other).1.vars,y.name=s.other.name:=by
     obtain⟨x,hx,hn⟩:=c4
     have:x.core∈(((u1.use s.place).1.hold1 s.place).use s.other).1.vars.map Vr.core:=by rw[hcore.1];exact cu hx
     obtain⟨y,hy,ey⟩:=aY.1 this
     exact⟨y,hy,by have:=congrArg Vr.name ey;exact this.trans hn⟩
    rw[c3]
    unfold oR
    rw[if_pos c1]
    rw[<-hlen1]
    generalize((u1.use s.place).1.hold1 s.place).use s.other=q at*
    generalize((e1.use s.place).1.push (cY s.place)).use s.other=w at*
    have hT3:T3.length=1:=by rw[c2.tmp.len,hheld3];rfl
    by_cases hq:eqB t q.2.1=true
    ·rw[if_pos hq]
     have hq2:eqB q.2.1 t=true:=cN.2 (cN.1 hq).symm
     have r2:=c2.same hq2
     have hdead:dx (w.1.same q.2.1 t).vars q.1.vars.length=q.1.lost:=by
      rw[r2.vars,r2.lost]
      match T3,hT3 with
      |[y],_=>simp[dx]
     rw[hdead]
     cases hlo:q.1.lost
     ·simp only[av,if_false]
      refine pt r2.pop hname ?_ rfl
      intro z hz
      simp only[be,ce,or_false]at hz
      rcases hz with rfl|rfl
      ·exact hp1
      ·exact ho1
     ·simp only[if_true]
      right
      refine⟨by simp,?_⟩
      have hc:((w.1.same q.2.1 t).fail 4).code=4:=by simp[En.fail,dG,r2.code]
      rw[eR (by show(En.fail _ 4).code≠0;rw[hc];decide)]
      exact hc
    ·have hq':eqB t q.2.1=false:=by simpa using hq
     have hq2:eqB q.2.1 t=false:=cL.2 fun e=>cL.1 hq' e.symm
     simp only[hq',av,if_false]
     right
     refine⟨by simp,?_⟩
     have hc:=j4 c2.code q.2.1 t
     rw[hq2,if_neg (by simp)]at hc
     split
     ·have h3:=(fV (v:=w.1.same q.2.1 t) (by rw[hc];decide) 4).trans hc
      rw[eR (by show(En.fail _ 4).code≠0;rw[h3];decide)]
      exact h3
     ·rw[eR (by show(En.same _ _ _).code≠0;rw[hc];decide)]
      exact hc
   ·right
    unfold oR
    rw[if_neg c1]
    refine⟨c1,?_⟩
    generalize((u1.use s.place).1.hold1 s.place).use s.other=q at*
    generalize((e1.use s.place).1.push (cY s.place)).use s.other=w at*
    have hc:(w.1.same w.2 t).code=q.2.2:=(eZ (by rw[c2];exact c1) _ _).trans c2
    split
    ·have h3:=(fV (v:=w.1.same w.2 t) (by rw[hc];exact c1) 4).trans hc
     rw[eR (by show(En.fail _ 4).code≠0;rw[h3];exact c1)]
     exact h3
    ·rw[eR (by show(En.same _ _ _).code≠0;rw[hc];exact c1)]
     exact hc
  ·rw[if_neg b1]
   right
   exact⟨b1,keep b1 b2 _ _ _⟩
 ·rw[if_neg a1]
  right
  refine⟨a1,?_⟩
  have h1:(((e.expr s.expr).1.num (e.expr s.expr).2).use s.place).1.code=(u.number s.expr).2:=(jX (by rw[a2];exact a1) _).trans a2
  exact keep a1 h1 _ _ _
def iSt(f:List St->Int->Bool×Int)(s:St)(n:Int):Bool×Int:=
 if s.kind=1 then(s.rest1.noneB&&(bB s.name&&s.expr.okD 4),n)
 else if s.kind=2 then(s.rest2.noneB&&(bB s.name&&s.place.okB),n)
 else if s.kind=3 then(s.rest3.noneB&&(s.place.okB&&s.expr.okD 4),n)
 else if s.kind=4 then(s.rest4.noneB&&(bB s.name&&(bB s.fn&&eT s.args)),n)
 else if s.kind=5 then(if s.rest5.noneB&&s.expr.okD 4 then(if(f s.thn n).1 then f s.els (f s.thn n).2 else(false,(f s.thn n).2))else(false,n))
 else if s.kind=6 then(s.rest6.noneB&&(bB s.name&&(s.place.okB&&(s.other.okB&&s.expr.okD 4))),n)
 else(false,n)
def gj(ok:Bool)(f:St->Int->Bool×Int):List St->Int->Bool×Int
 |[],n=>(true,n)
 |s::l,n=>if ok&&decide (0<=n - 1)then(if(f s (n - 1)).1 then gj ok f l (f s (n - 1)).2 else(false,(f s (n - 1)).2))else(false,n - 1)
def fG:Nat->List St->Int->Bool×Int
 |0,l,n=>gj false (fun _ n=>(false,n)) l n
 |d+1,l,n=>gj true (iSt (fG d)) l n
theorem vm{ok:Bool}{f:St->Int->Bool×Int}:∀(l:List St) (n:Int),(∀s∈l,∀n,n - s.cnt+1<=(f s n).2/\(f s n).2<=n)->n - bG l<=(gj ok f l n).2/\(gj ok f l n).2<=n
 |[],n,_=>by simp[gj];omega
 |s::l,n,h=>by
  have hs:=h s (by simp) (n - 1)
  have hl:=vm (ok:=ok) l (f s (n - 1)).2 fun x hx=>h x (by simp[hx])
  have hc:1<=s.cnt:=by rw[dI];omega
  rw[gj,dm]
  split
  ·split
   ·omega
   ·simp only;omega
  ·simp only;omega
theorem Bc{f:List St->Int->Bool×Int}{s:St}(h:∀l n,l=s.thn\/l=s.els->n - bG l<=(f l n).2/\(f l n).2<=n)(n:Int):n - s.cnt+1<=(iSt f s n).2/\(iSt f s n).2<=n:=by
 have h1:=h s.thn n (.inl rfl)
 have h2:=h s.els (f s.thn n).2 (.inr rfl)
 have hc:=dI s
 have q:∀b:Bool,n - s.cnt+1<=((b,n):Bool×Int).2/\((b,n):Bool×Int).2<=n:=fun b=>by simp only;omega
 rw[iSt]
 split
 ·exact q _
 split
 ·exact q _
 split
 ·exact q _
 split
 ·exact q _
 split
 ·split
  ·split
   ·omega
   ·simp only;omega
  ·exact q _
 split
 ·exact q _
 ·exact q _
theorem vn:∀(d:Nat) (l:List St) (n:Int),n - bG l<=(fG d l n).2/\(fG d l n).2<=n
 |0,l,n=>by
  cases l with
  |nil=>simp[fG,gj];omega
  |cons s l=>
   have hc:1<=s.cnt:=by rw[dI];omega
   simp[fG,gj,dm];omega
 |d+1,l,n=>vm l n fun s _ n=>Bc (fun l n _=>vn d l n) n
theorem ti:∀(l:List St) (k:Nat),bG (l.drop k)<=bG l
 |_,0=>aD _
 |[],_+1=>aD _
 |s::l,k+1=>by rw[gO,dm];have:=ti l k;omega
theorem iSt_nil{F:Ids}{f:List St->Int->Bool×Int}{s:St}{n:Int}(h:shS F s=ir):iSt f s n=(false,n):=by
 rw[iSt]
 by_cases k1:s.kind=1
 ·rw[yf k1]at h
  cases hc:s.rest1.noneB<;>simp[hc,k1]at h⊢
 by_cases k2:s.kind=2
 ·rw[ye k2]at h
  cases hc:s.rest2.noneB<;>simp[hc,k2]at h⊢
 by_cases k3:s.kind=3
 ·rw[yd k3]at h
  cases hc:s.rest3.noneB<;>simp[hc,k3]at h⊢
 by_cases k4:s.kind=4
 ·rw[yc k4]at h
  cases hc:s.rest4.noneB<;>simp[hc,k4]at h⊢
 by_cases k5:s.kind=5
 ·rw[xZ k5]at h
  cases hc:s.rest5.noneB<;>simp[hc,k5]at h⊢
 by_cases k6:s.kind=6
 ·rw[xY k6]at h
  cases hc:s.rest6.noneB<;>simp[hc,k6]at h⊢
 simp[k1,k2,k3,k4,k5,k6]
theorem wp_nrm{P:Program}{c:aW}{K:cS->Env->aj->Prop}{E:Env}{H:aj}(Q:Env->aj->Prop)(hc:c.wp P (fun e E' H'=>e=.normal/\Q E' H') E H)(hk:∀E' H',Q E' H'->K .normal E' H'):c.wp P K E H:=
 aW.wp_mono (fun e E' H' ⟨he,hq⟩=>he▸hk E' H' hq) hc
theorem tC{P:Program}{dr:Bool}{K:Env->aj->Prop}{xs:List aM}{E:Env}{H:aj}{l:Lds}{f:Fps}{i:Nat}{g:FuncId}{args:List aI}{d:Option Nat}{inc:List Nat}{zas:List AC}{r:Nat}{o o':cQ}{q0:AC}
(hc:bz P g zas (one r o) fun q H'=>q=q0/\H'=one r o')(ha:args.map (aI.ev E)=zas)(hr:H.get r=some o)(hlive:dr=true->False)(hchk:dQ inc l (·=r))
(h:bF P dr K xs (E.put d q0) (H.set r o') l ((i,fun b=>b=r\/H.get b=none)::f)):
 bF P dr K (⟨i,d,none,.eff (.call g args),inc⟩::xs) E H l f:=by
 refine pJ (R:=fun q H'=>q=q0/\H'=one r o') (hc.mono fun q H' ⟨h1,h2⟩=>⟨o',⟨h1,rfl⟩,h2⟩) ha hr (fun h=>(hlive h).elim) hchk ?_
 rintro q o2 ⟨rfl,h2⟩
 have:o2=o':=by have:=congrArg (fun H=>H.get r) h2;simp only[bI]at this;exact Option.some.inj this
 rw[this];exact h
def formQ(r0:Bool×Int)(d b:Nat)(l:List St)(k:Nat)(E':Env)(H':aj):Prop:=∃r:Bool×Int,r=r0/\E' 9=B r.1/\H'.get b=some (.cells [I r.2])/\E' 1=I d/\E' 2=.ptr b 0/\E' 16=.sl 15 none (l.map St.enc)/\E' 17=I l.length/\E' 18=I k
section
variable {P:Program}{F:Ids}
theorem ph(L:Lib P F)(T:Tys F)(d:Nat)(hd:d<=100)(f:List St->Int->Bool×Int)(hf:∀l n,n - bG l<=(f l n).2/\(f l n).2<=n)
(ih:1<=d->∀l n b,bG l<=2^20->-(2^29)<=n->n<=2^20->bz P 105 [.sl 15 none (St.encs l),I (d - 1:Nat),.ptr b 0] (one b (.cells [I n])) fun q H'=>q=B (f l n).1/\H'=one b (.cells [I (f l n).2]))
(l:List St)(n:Int)(b:Nat)(hl:bG l<=2^20)(hn:-(2^29)<=n)(hn2:n<=2^20):
 bz P 105 [.sl 15 none (St.encs l),I d,.ptr b 0] (one b (.cells [I n])) fun q H'=>q=B (gj (decide (1<=d)) (iSt f) l n).1/\H'=one b (.cells [I (gj (decide (1<=d)) (iSt f) l n).2]):=by
 refine(L.a Tryz.func105 y105) (by simp[y105]) ?_
 have fin:∀(E':Env) (H':aj) (q:Bool×Int),E' 6=B q.1->H'.get b=some (.cells [I q.2])->q=gj (decide (1<=d)) (iSt f) l n->bm.post [.slot 6] (fun q H'=>q=B (gj (decide (1<=d)) (iSt f) l n).1/\H'=one b (.cells [I (gj (decide (1<=d)) (iSt f) l n).2])) .ret E' H':=fun E' H' q h1 h2 h3=>ak (by rw[h1,h3];exact .refl _) (eU h2) ⟨rfl,by rw[h3]⟩
 have hb0:=bI b (.cells [I n])
 simp only[y105,go_sem,rE,rA,St.encs_map,am]
 refine aQ l.length (fun k E H=>∃m,H.get b=some (.cells [I m])/\E 1=I d/\E 2=.ptr b 0/\E 16=.sl 15 none (l.map St.enc)/\E 17=I l.length/\E 18=I k/\-(2^29) - 2^20+bG (l.drop k)<=m/\m<=2^20/\gj (decide (1<=d)) (iSt f) (l.drop k) m=gj (decide (1<=d)) (iSt f) l n)
  ⟨n,hb0,rfl,rfl,rfl,rfl,rfl,by simp;omega,hn2,rfl⟩ ?_
 clear hb0
 rintro k E H hk ⟨m,hb,e1,e2,e16,e17,e18,hm1,hm2,hit⟩
 simp only[wp_seq,go_sem,rE,e17,e18]
 refine aE (fun hlt=>?_) (fun hge=>?_)
 ·have hk1:k<l.length:=by omega
  have hll:=jh l
  have w1:=aJ (n:=(k:Int)+1) (by omega) (by omega)
  have wm:=aJ (n:=m - 1) (by omega) (by omega)
  have hdr:l.drop k=l[k]::l.drop (k+1):=cj hk1
  have hcl:=ti l k
  rw[hdr,dm]at hm1 hcl
  have hcnt:=dI l[k]
  rw[hdr,gj]at hit
  have dl:(d:Int)<1↔¬1<=d:=by omega
  have hg:(l.map St.enc)[k]?=some l[k].enc:=wA hk1
  rw[St.enc_eq]at hg
  generalize l[k]=s at*
  simp only[go_sem,rE,rA,rL,e16,e18,hg]
  intro b8 hb8
  have d8:b≠b8:=al hb hb8
  simp only[go_sem,rE,rA,rL,hb,d8,Ne.symm d8,e2,e1,wm]
  have ret:∀(E':Env) (H':aj),H'.get b=some (.cells [I (m - 1)])->(gj (decide (1<=d)) (iSt f) l n)=(false,m - 1)->E' 6=B false->bm.post [.slot 6] (fun q H'=>q=B (gj (decide (1<=d)) (iSt f) l n).1/\H'=one b (.cells [I (gj (decide (1<=d)) (iSt f) l n).2])) .ret E' H':=fun E' H' h1 h2 h3=>fin E' H' (false,m - 1) h3 h1 h2.symm
  by_cases h1:(d:Int)<1
  ·simp only[go_sem,rE,rA,rL,h1,decide_true]
   exact ret _ _ (by simp only[go_sem,rE,rA,rL,d8,Ne.symm d8]) (by rw[<-hit,show decide (1<=d)=false from decide_eq_false (dl.1 h1)];rfl) (rfl)
  by_cases h0:m - 1<0
  ·simp only[go_sem,rE,rA,rL,h1,h0,decide_false,decide_true,e2,hb,d8,Ne.symm d8]
   exact ret _ _ (by simp only[go_sem,rE,rA,rL,d8,Ne.symm d8]) (by rw[<-hit,show decide (0<=m - 1)=false from decide_eq_false (by omega),aR];rfl) (rfl)
  have hd1:1<=d:=by omega
  rw[decide_eq_true hd1,decide_eq_true (show 0<=m - 1 by omega)]at hit
  simp only[fZ,if_true]at hit
  have wd:=aJ (n:=((d - 1:Nat):Int)) (by omega) (by omega)
  have hdd:(d:Int) - 1=(d - 1:Nat):=by omega
  have hdt:=decide_eq_true hd1
  simp only[go_sem,rE,rA,rL,h1,h0,decide_false,e2,hb,d8,Ne.symm d8]
  refine ao (vG L s) (by simp only[go_sem,rE,rA,rL,St.enc_eq s]) ?_
  have hb2:((H.set b8 (.cells [I s.kind,S s.name,S s.place.name,au s.place.path,S s.other.name,au s.other.path,I s.expr.kind,I s.expr.num,S s.expr.place.name,au s.expr.place.path,.sl 5 none (Ex.encs s.expr.kids),S s.fn,.sl 8 none (s.args.map Ag.enc),.sl 15 none (St.encs s.thn),.sl 15 none (St.encs s.els)])).set b (.cells [I (m - 1)])).get b=some (.cells [I (m - 1)]):=ai _ _ _
  generalize((H.set b8 (.cells [I s.kind,S s.name,S s.place.name,au s.place.path,S s.other.name,au s.other.path,I s.expr.kind,I s.expr.num,S s.expr.place.name,au s.expr.place.path,.sl 5 none (Ex.encs s.expr.kids),S s.fn,.sl 8 none (s.args.map Ag.enc),.sl 15 none (St.encs s.thn),.sl 15 none (St.encs s.els)])).set b (.cells [I (m - 1)]))=H2 at*
  rw[li,cI]
  refine wp_nrm (formQ (iSt f s (m - 1)) d b l k) ?_ ?_
  ·clear hb
   have out:∀(E':Env) (H':aj) (r:Bool×Int),E' 9=B r.1->H'.get b=some (.cells [I r.2])->r=iSt f s (m - 1)->(E' 1=I d/\E' 2=.ptr b 0/\E' 16=.sl 15 none (l.map St.enc)/\E' 17=I l.length/\E' 18=I k)->
    formQ (iSt f s (m - 1)) d b l k E' H':=fun E' H' r h1 h2 h3 h4=>⟨r,h3,h1,h2,h4⟩
   by_cases hn:shS F s=ir
   ·rw[hn]
    simp only[go_sem,rE,rA,rL]
    exact out _ _ (false,m - 1) (rfl) hb2 (iSt_nil hn).symm (⟨e1,e2,e16,e17,e18⟩)
   by_cases k1:s.kind=1
   ·have q:∀i:Int,i≠1->¬s.kind=i:=fun i hi=>by rw[k1];exact Ne.symm hi
    rw[yf k1]at hn⊢
    cases hc:s.rest1.noneB
    ·rw[hc]at hn;exact absurd rfl hn
    have hi:iSt f s (m - 1)=(bB s.name&&(s.expr.okD 4),m - 1):=by rw[iSt,if_pos k1,hc];rfl
    simp only[go_sem,rE,rA,rL,if_true]
    intro b9 hb9
    have hb9':=(ae H2 (.cells []) (al hb2 hb9)).trans hb2
    have d9:=al hb2 hb9
    refine ao (i9 L s.name) (rfl) ?_
    cases h0:bB s.name
    ·simp only[go_sem,rE,rA,rL]
     exact out _ _ (false,m - 1) (rfl) (by simp only[go_sem,rE,rA,rL,d9,hb2]) (by rw[hi,h0];rfl) (⟨e1,e2,e16,e17,e18⟩)
    simp only[go_sem,rE,rA,rL]
    refine ao (jE L T 4 (by omega) s.expr) (by simp only[go_sem,rE,rA,rL,Ex.enc_eq s.expr];rfl) ?_
    simp only[go_sem,rE,rA,rL]
    exact out _ _ (s.expr.okD 4,m - 1) (rfl) (by simp only[go_sem,rE,rA,rL,d9,hb2]) (by rw[hi,h0];rfl) (⟨e1,e2,e16,e17,e18⟩)
   by_cases k2:s.kind=2
   ·have q:∀i:Int,i≠2->¬s.kind=i:=fun i hi=>by rw[k2];exact Ne.symm hi
    rw[ye k2]at hn⊢
    cases hc:s.rest2.noneB
    ·rw[hc]at hn;exact absurd rfl hn
    have hi:iSt f s (m - 1)=(bB s.name&&(s.place.okB),m - 1):=by rw[iSt,if_neg (q 1 (by decide)),if_pos k2,hc];rfl
    simp only[go_sem,rE,rA,rL,if_true,T.s12,if_false]
    intro b9 hb9
    have hb9':=(ae H2 (.cells []) (al hb2 hb9)).trans hb2
    have d9:=al hb2 hb9
    refine ao (i9 L s.name) (rfl) ?_
    cases h0:bB s.name
    ·simp only[go_sem,rE,rA,rL]
     exact out _ _ (false,m - 1) (rfl) (by simp only[go_sem,rE,rA,rL,d9,hb2]) (by rw[hi,h0];rfl) (⟨e1,e2,e16,e17,e18⟩)
    simp only[go_sem,rE,rA,rL]
    refine ao (gx L s.place) (by simp only[go_sem,rE,rA,rL,Pl.enc]) ?_
    simp only[go_sem,rE,rA,rL]
    exact out _ _ (s.place.okB,m - 1) (rfl) (by simp only[go_sem,rE,rA,rL,d9,hb2]) (by rw[hi,h0];rfl) (⟨e1,e2,e16,e17,e18⟩)
   by_cases k3:s.kind=3
   ·have q:∀i:Int,i≠3->¬s.kind=i:=fun i hi=>by rw[k3];exact Ne.symm hi
    rw[yd k3]at hn⊢
    cases hc:s.rest3.noneB
    ·rw[hc]at hn;exact absurd rfl hn
    have hi:iSt f s (m - 1)=(s.place.okB&&(s.expr.okD 4),m - 1):=by rw[iSt,if_neg (q 1 (by decide)),if_neg (q 2 (by decide)),if_pos k3,hc];rfl
    simp only[go_sem,rE,rA,rL,if_true,T.s13,T.s23,if_false]
    intro b9 hb9
    have hb9':=(ae H2 (.cells []) (al hb2 hb9)).trans hb2
    have d9:=al hb2 hb9
    refine ao (gx L s.place) (by simp only[go_sem,rE,rA,rL,Pl.enc]) ?_
    cases h0:s.place.okB
    ·simp only[go_sem,rE,rA,rL]
     exact out _ _ (false,m - 1) (rfl) (by simp only[go_sem,rE,rA,rL,d9,hb2]) (by rw[hi,h0];rfl) (⟨e1,e2,e16,e17,e18⟩)
    simp only[go_sem,rE,rA,rL]
    refine ao (jE L T 4 (by omega) s.expr) (by simp only[go_sem,rE,rA,rL,Ex.enc_eq s.expr];rfl) ?_
    simp only[go_sem,rE,rA,rL]
    exact out _ _ (s.expr.okD 4,m - 1) (rfl) (by simp only[go_sem,rE,rA,rL,d9,hb2]) (by rw[hi,h0];rfl) (⟨e1,e2,e16,e17,e18⟩)
   by_cases k4:s.kind=4
   ·have q:∀i:Int,i≠4->¬s.kind=i:=fun i hi=>by rw[k4];exact Ne.symm hi
    rw[yc k4]at hn⊢
    cases hc:s.rest4.noneB
    ·rw[hc]at hn;exact absurd rfl hn
    have hi:iSt f s (m - 1)=(bB s.name&&(bB s.fn&&(eT s.args)),m - 1):=by rw[iSt,if_neg (q 1 (by decide)),if_neg (q 2 (by decide)),if_neg (q 3 (by decide)),if_pos k4,hc];rfl
    simp only[go_sem,rE,rA,rL,if_true,T.s14,T.s24,T.s34,if_false]
    intro b9 hb9
    have hb9':=(ae H2 (.cells []) (al hb2 hb9)).trans hb2
    have d9:=al hb2 hb9
    refine ao (i9 L s.name) (rfl) ?_
    cases h0:bB s.name
    ·simp only[go_sem,rE,rA,rL]
     exact out _ _ (false,m - 1) (rfl) (by simp only[go_sem,rE,rA,rL,d9,hb2]) (by rw[hi,h0];rfl) (⟨e1,e2,e16,e17,e18⟩)
    simp only[go_sem,rE,rA,rL]
    refine ao (i9 L s.fn) (rfl) ?_
    cases h1:bB s.fn
    ·simp only[go_sem,rE,rA,rL]
     exact out _ _ (false,m - 1) (rfl) (by simp only[go_sem,rE,rA,rL,d9,hb2]) (by rw[hi,h0,h1];rfl) (⟨e1,e2,e16,e17,e18⟩)
    simp only[go_sem,rE,rA,rL]
    refine ao (xE L T s.args) (rfl) ?_
    simp only[go_sem,rE,rA,rL]
    exact out _ _ (eT s.args,m - 1) (rfl) (by simp only[go_sem,rE,rA,rL,d9,hb2]) (by rw[hi,h0,h1];rfl) (⟨e1,e2,e16,e17,e18⟩)
   by_cases k5:s.kind=5
   ·have q:∀i:Int,i≠5->¬s.kind=i:=fun i hi=>by rw[k5];exact Ne.symm hi
    rw[xZ k5]at hn⊢
    cases hc:s.rest5.noneB
    ·rw[hc]at hn;exact absurd rfl hn
    simp only[go_sem,rE,rA,rL,if_true,T.s15,T.s25,T.s35,T.s45,if_false]
    intro b9 hb9
    have d9:=al hb2 hb9
    refine ao (jE L T 4 (by omega) s.expr) (by simp only[go_sem,rE,rA,rL,Ex.enc_eq s.expr];rfl) ?_
    cases h0:s.expr.okD 4
    ·simp only[go_sem,rE,rA,rL]
     exact out _ _ (false,m - 1) (rfl) (by simp only[go_sem,rE,rA,rL,d9,hb2]) (by rw[iSt,if_neg (q 1 (by decide)),if_neg (q 2 (by decide)),if_neg (q 3 (by decide)),if_neg (q 4 (by decide)),if_pos k5,hc,h0];rfl) (⟨e1,e2,e16,e17,e18⟩)
    have hb9':=(ae H2 (.cells [I s.expr.kind,I s.expr.num,S s.expr.place.name,au s.expr.place.path,.sl 5 none (Ex.encs s.expr.kids),.sl 15 none (St.encs s.thn),.sl 15 none (St.encs s.els)]) d9).trans hb2
    have g9:=ai H2 b9 (.cells [I s.expr.kind,I s.expr.num,S s.expr.place.name,au s.expr.place.path,.sl 5 none (Ex.encs s.expr.kids),.sl 15 none (St.encs s.thn),.sl 15 none (St.encs s.els)])
    simp only[go_sem,rE,rA,rL,e1,e2,wd,hdd]
    have ht:=hf s.thn (m - 1)
    refine tC (ih hd1 s.thn (m - 1) b (by omega) (by omega) (by omega)) (by simp only[go_sem,rE,rA,rL,hdd,wd]) hb9' (by simp) trivial ?_
    have hi:iSt f s (m - 1)=if(f s.thn (m - 1)).1 then f s.els (f s.thn (m - 1)).2 else(false,(f s.thn (m - 1)).2):=by rw[iSt,if_neg (q 1 (by decide)),if_neg (q 2 (by decide)),if_neg (q 3 (by decide)),if_neg (q 4 (by decide)),if_pos k5,hc,h0];rfl
    generalize f s.thn (m - 1)=r1 at*
    obtain⟨ok1,m1⟩:=r1
    simp only at hi ht
    cases ok1
    ·simp only[go_sem,rE,rA,rL]
     exact out _ _ (false,m1) (by simp only[go_sem,rE,rA,rL]) (by simp only[go_sem,rE,rA,rL]) (by rw[hi];rfl) (by simp only[go_sem,rE,rA,rL,e1,e2,e16,e17,e18,and_self])
    simp only[go_sem,rE,rA,rL,e1,e2,wd,hdd,d9,Ne.symm d9,g9]
    refine tC (ih hd1 s.els m1 b (by omega) (by omega) (by omega)) (by simp only[go_sem,rE,rA,rL,hdd,wd]) (ai _ _ _) (by simp) trivial ?_
    simp only[go_sem,rE,rA,rL]
    exact out _ _ (f s.els m1) (by simp only[go_sem,rE,rA,rL]) (by simp only[go_sem,rE,rA,rL]) (by rw[hi];rfl) (by simp only[go_sem,rE,rA,rL,e1,e2,e16,e17,e18,and_self])
   by_cases k6:s.kind=6
   ·have q:∀i:Int,i≠6->¬s.kind=i:=fun i hi=>by rw[k6];exact Ne.symm hi
    rw[xY k6]at hn⊢
    cases hc:s.rest6.noneB
    ·rw[hc]at hn;exact absurd rfl hn
    have hi:iSt f s (m - 1)=(bB s.name&&(s.place.okB&&(s.other.okB&&(s.expr.okD 4))),m - 1):=by rw[iSt,if_neg (q 1 (by decide)),if_neg (q 2 (by decide)),if_neg (q 3 (by decide)),if_neg (q 4 (by decide)),if_neg (q 5 (by decide)),if_pos k6,hc];rfl
    simp only[go_sem,rE,rA,rL,if_true,T.s16,T.s26,T.s36,T.s46,T.s56,if_false]
    intro b9 hb9
    have hb9':=(ae H2 (.cells []) (al hb2 hb9)).trans hb2
    have d9:=al hb2 hb9
    refine ao (i9 L s.name) (rfl) ?_
    cases h0:bB s.name
    ·simp only[go_sem,rE,rA,rL]
     exact out _ _ (false,m - 1) (rfl) (by simp only[go_sem,rE,rA,rL,d9,hb2]) (by rw[hi,h0];rfl) (⟨e1,e2,e16,e17,e18⟩)
    simp only[go_sem,rE,rA,rL]
    refine ao (gx L s.place) (by simp only[go_sem,rE,rA,rL,Pl.enc]) ?_
    cases h1:s.place.okB
    ·simp only[go_sem,rE,rA,rL]
     exact out _ _ (false,m - 1) (rfl) (by simp only[go_sem,rE,rA,rL,d9,hb2]) (by rw[hi,h0,h1];rfl) (⟨e1,e2,e16,e17,e18⟩)
    simp only[go_sem,rE,rA,rL]
    refine ao (gx L s.other) (by simp only[go_sem,rE,rA,rL,Pl.enc]) ?_
    cases h2:s.other.okB
    ·simp only[go_sem,rE,rA,rL]
     exact out _ _ (false,m - 1) (rfl) (by simp only[go_sem,rE,rA,rL,d9,hb2]) (by rw[hi,h0,h1,h2];rfl) (⟨e1,e2,e16,e17,e18⟩)
    simp only[go_sem,rE,rA,rL]
    refine ao (jE L T 4 (by omega) s.expr) (by simp only[go_sem,rE,rA,rL,Ex.enc_eq s.expr];rfl) ?_
    simp only[go_sem,rE,rA,rL]
    exact out _ _ (s.expr.okD 4,m - 1) (rfl) (by simp only[go_sem,rE,rA,rL,d9,hb2]) (by rw[hi,h0,h1,h2];rfl) (⟨e1,e2,e16,e17,e18⟩)
   exact absurd (shS_0 (by omega)) hn
  ·rintro E' H' ⟨r,hr,f9,hb',f1,f2,f16,f17,f18⟩
   rw[<-hr]at hit
   have hbd:=Bc (f:=f) (s:=s) (fun l n _=>hf l n) (m - 1)
   rw[<-hr]at hbd
   obtain⟨ok,m2⟩:=r
   simp only at f9 hb' hit hbd
   cases ok
   ·simp only[go_sem,rE,rA,rL,f9]
    exact fin _ _ (false,m2) (rfl) hb' (by rw[hdt];simpa using hit)
   ·simp only[go_sem,rE,rA,rL,f9,f18,w1]
    refine⟨hk1,H',aj.sub_refl _,m2,hb',f1,f2,f16,f17,rfl,by omega,by omega,by rw[hdt];simpa using hit⟩
 ·have hkk:k=l.length:=by omega
  subst hkk
  simp only[go_sem,rE]
  rw[kY]at hit
  exact fin _ _ (true,m) (rfl) hb hit
theorem qu(L:Lib P F)(T:Tys F):∀(d:Nat),d<=100->∀(l:List St) (n:Int) (b:Nat),bG l<=2^20->-(2^29)<=n->n<=2^20->
 bz P 105 [.sl 15 none (St.encs l),I d,.ptr b 0] (one b (.cells [I n])) fun q H'=>q=B (fG d l n).1/\H'=one b (.cells [I (fG d l n).2])
 |0,hd,l,n,b,h1,h2,h3=>by
  have e:∀(l:List St) (n:Int),fG 0 l n=gj (decide (1<=0)) (iSt fun _ n=>(false,n)) l n:=fun l n=>by cases l<;>simp[fG,gj]
  rw[e]
  exact ph L T 0 hd (fun _ n=>(false,n)) (fun l n=>by simp only;omega) (fun h=>by omega) l n b h1 h2 h3
 |d+1,hd,l,n,b,h1,h2,h3=>
  ph L T (d+1) hd (fG d) (vn d) (fun _=>qu L T d (by omega)) l n b h1 h2 h3
end
theorem uP:bB (bl [])=false:=rfl
theorem wb{l:List Ag}(h:l.length=0):eT l=true:=by
 rw[bu h];rfl
theorem iSt_1{f:List St->Int->Bool×Int}{s:St}{n:Int}(h:s.kind=1):iSt f s n=(s.rest1.noneB&&(bB s.name&&s.expr.okD 4),n):=by
 have q:∀i:Int,i≠1->¬s.kind=i:=fun i hi=>by rw[h];exact Ne.symm hi
 rw[iSt,if_pos h]
theorem iSt_2{f:List St->Int->Bool×Int}{s:St}{n:Int}(h:s.kind=2):iSt f s n=(s.rest2.noneB&&(bB s.name&&s.place.okB),n):=by
 have q:∀i:Int,i≠2->¬s.kind=i:=fun i hi=>by rw[h];exact Ne.symm hi
 rw[iSt,if_neg (q 1 (by decide)),if_pos h]
theorem iSt_3{f:List St->Int->Bool×Int}{s:St}{n:Int}(h:s.kind=3):iSt f s n=(s.rest3.noneB&&(s.place.okB&&s.expr.okD 4),n):=by
 have q:∀i:Int,i≠3->¬s.kind=i:=fun i hi=>by rw[h];exact Ne.symm hi
 rw[iSt,if_neg (q 1 (by decide)),if_neg (q 2 (by decide)),if_pos h]
theorem iSt_4{f:List St->Int->Bool×Int}{s:St}{n:Int}(h:s.kind=4):iSt f s n=(s.rest4.noneB&&(bB s.name&&(bB s.fn&&eT s.args)),n):=by
 have q:∀i:Int,i≠4->¬s.kind=i:=fun i hi=>by rw[h];exact Ne.symm hi
 rw[iSt,if_neg (q 1 (by decide)),if_neg (q 2 (by decide)),if_neg (q 3 (by decide)),if_pos h]
theorem iSt_5{f:List St->Int->Bool×Int}{s:St}{n:Int}(h:s.kind=5):iSt f s n=if s.rest5.noneB&&s.expr.okD 4 then(if(f s.thn n).1 then f s.els (f s.thn n).2 else(false,(f s.thn n).2))else(false,n):=by
 have q:∀i:Int,i≠5->¬s.kind=i:=fun i hi=>by rw[h];exact Ne.symm hi
 rw[iSt,if_neg (q 1 (by decide)),if_neg (q 2 (by decide)),if_neg (q 3 (by decide)),if_neg (q 4 (by decide)),if_pos h]
theorem iSt_6{f:List St->Int->Bool×Int}{s:St}{n:Int}(h:s.kind=6):iSt f s n=(s.rest6.noneB&&(bB s.name&&(s.place.okB&&(s.other.okB&&s.expr.okD 4))),n):=by
 have q:∀i:Int,i≠6->¬s.kind=i:=fun i hi=>by rw[h];exact Ne.symm hi
 rw[iSt,if_neg (q 1 (by decide)),if_neg (q 2 (by decide)),if_neg (q 3 (by decide)),if_neg (q 4 (by decide)),if_neg (q 5 (by decide)),if_pos h]
theorem gM(k:Int)(n:ByteArray)(p o:Pl)(e:Ex)(f:ByteArray)(zas:List Ag)(t l:List St):(St.mk k n p o e f zas t l).noneB=(decide (k=0)&&(decide (n=bl [])&&(p.noneB&&(o.noneB&&(e.noneB&&(decide (f=bl [])&&(decide (zas.length=0)&&(decide (t.length=0)&&decide (l.length=0))))))))):=rfl
theorem mI{Bd:List St->Bool}{s:St}{x:Bool}(h5:s.kind≠5)(n:Int)(hn:0<=n)(h:x=dh Bd s)(hs:bU s.thn+bU s.els+1=s.num):
 ((x,n):Bool×Int).1=(dh Bd s&&decide ((s.num:Int) - 1<=n))/\(((x,n):Bool×Int).1=true->((x,n):Bool×Int).2=n - ((s.num:Int) - 1)):=by
 subst h
 have key:dh Bd s=true->s.num=1:=by
  intro h
  simp only[dh,stD,if_neg h5,a6,decide_eq_true_eq]at h
  have h1:s.thn=[]:=bu (by omega)
  have h2:s.els=[]:=bu (by omega)
  rw[h1,h2,gA]at hs;omega
 cases ho:dh Bd s
 ·simp
 ·have:=key ho
  simp[this,hn]
theorem Bb(d:Nat)(s:St)(n:Int)(hn:0<=n)(h:∀l n,(l=s.thn\/l=s.els)->s.kind=5->0<=n->n<=40->(fG d l n).1=(cd d l&&decide ((bU l:Int)<=n))/\((fG d l n).1=true->(fG d l n).2=n - bU l))(hn2:n<=40):
 (iSt (fG d) s n).1=(dh (cd d) s&&decide ((s.num:Int) - 1<=n))/\((iSt (fG d) s n).1=true->(iSt (fG d) s n).2=n - ((s.num:Int) - 1)):=by
 have hs:bU s.thn+bU s.els+1=s.num:=by have:=lI s;omega
 have an:=@wb s.args
 have p0:P0.noneB=true:=rfl
 have e0:E0.noneB=true:=rfl
 by_cases k1:s.kind=1
 ·rw[iSt_1 k1]
  refine mI (by rw[k1];decide) n hn ?_ hs
  clear hs h
  rw[bg]
  simp only[dh,stA,stB,k9,stD,isN,isP,isE,St.rest1,gM,k1,bw,dX,decide_true,decide_false,df,dY,dR,ig,if_true,if_false,reduceIte,av,a6,decide_eq_true_eq]
  simp only[p0,e0,true_and,and_self,cT,eo,dC]at an⊢
  constructor
  ·rintro⟨⟨h1,h2,h3,h4,h5,h6⟩,h7,h8⟩;simp_all
  ·rintro⟨h1,h2,h3,h4⟩;simp_all
 by_cases k2:s.kind=2
 ·rw[iSt_2 k2]
  refine mI (by rw[k2];decide) n hn ?_ hs
  clear hs h
  rw[bg]
  simp only[dh,stA,stB,k9,stD,isN,isP,isE,St.rest2,gM,k2,bw,dX,decide_true,decide_false,df,dY,dR,ig,if_true,if_false,reduceIte,av,a6,decide_eq_true_eq]
  simp only[p0,e0,true_and,and_self,cT,eo,dC]at an⊢
  constructor
  ·rintro⟨⟨h1,h2,h3,h4,h5,h6⟩,h7,h8⟩;simp_all
  ·rintro⟨h1,h2,h3,h4⟩;simp_all
 by_cases k3:s.kind=3
 ·rw[iSt_3 k3]
  refine mI (by rw[k3];decide) n hn ?_ hs
  clear hs h
  rw[bg]
  simp only[dh,stA,stB,k9,stD,isN,isP,isE,St.rest3,gM,k3,bw,dX,decide_true,decide_false,df,dY,dR,ig,if_true,if_false,reduceIte,av,a6,decide_eq_true_eq]
  simp only[p0,e0,true_and,and_self,cT,eo,dC]at an⊢
  constructor
  ·rintro⟨⟨h1,h2,h3,h4,h5,h6⟩,h7,h8⟩;simp_all [uP]
  ·rintro⟨h1,h2,h3,h4⟩;simp_all
 by_cases k4:s.kind=4
 ·rw[iSt_4 k4]
  refine mI (by rw[k4];decide) n hn ?_ hs
  clear hs h
  rw[bg]
  simp only[dh,stA,stB,k9,stD,isN,isP,isE,St.rest4,gM,k4,bw,dX,decide_true,decide_false,df,dY,dR,ig,if_true,if_false,reduceIte,av,a6,decide_eq_true_eq]
  simp only[p0,e0,true_and,and_self,cT,eo,dC]at an⊢
  constructor
  ·rintro⟨⟨h1,h2,h3,h4,h5⟩,h6,h7,h8⟩;simp_all
  ·rintro⟨h1,h2,h3,h4⟩;simp_all
 by_cases k6:s.kind=6
 ·rw[iSt_6 k6]
  refine mI (by rw[k6];decide) n hn ?_ hs
  clear hs h
  rw[bg]
  simp only[dh,stA,stB,k9,stD,isN,isP,isE,St.rest6,gM,k6,bw,dX,decide_true,decide_false,df,dY,dR,ig,if_true,if_false,reduceIte,av,a6,decide_eq_true_eq]
  simp only[p0,e0,true_and,and_self,cT,eo,dC]at an⊢
  constructor
  ·rintro⟨⟨h1,h2,h3,h4⟩,h5,h6,h7,h8⟩;simp_all
  ·rintro⟨h1,h2,h3,h4⟩;simp_all
 by_cases k5:s.kind=5
 ·have hg:dh (cd d) s=((s.rest5.noneB&&s.expr.okD 4)&&(cd d s.thn&&cd d s.els)):=by
   clear hs h
   rw[bg]
   simp only[dh,stA,stB,k9,stD,isN,isP,isE,St.rest5,gM,k5,bw,dX,decide_true,decide_false,df,dY,dR,ig,if_true,if_false,reduceIte,av,a6,decide_eq_true_eq]
   simp only[p0,e0,true_and,and_self,cT,eo,dC]at an⊢
   constructor
   ·rintro⟨h1,h2,h3,h4⟩;simp_all
   ·intro h;simp_all [uP]
  rw[iSt_5 k5,hg]
  generalize(s.rest5.noneB&&s.expr.okD 4)=c at*
  generalize s.thn=t at*
  generalize s.els=l at*
  generalize s.num=N at*
  have ht:=h t n (.inl rfl) k5 hn hn2
  cases c
  ·simp
  ·simp only[if_true,cb]
   rw[ht.1]
   cases hb:cd d t&&decide ((bU t:Int)<=n)
   ·simp only[av,if_false]
    refine⟨?_,by simp⟩
    rw[cV]at hb
    rcases hb with hb|hb
    ·rw[hb];simp
    ·simp only[decide_eq_false_iff_not]at hb
     rw[show decide ((N:Int) - 1<=n)=false from decide_eq_false (by omega),aR]
   ·simp only[a6,decide_eq_true_eq]at hb
    rw[ht.2 (by rw[ht.1,hb.1];simpa using hb.2)]
    have hl:=h l (n - bU t) (.inr rfl) k5 (by omega) (by omega)
    simp only[if_true]
    refine⟨?_,fun ho=>?_⟩
    ·rw[hl.1,hb.1,cb]
     congr 1
     rw[decide_eq_decide];omega
    ·rw[hl.2 ho];omega
 ·have hi:iSt (fG d) s n=(false,n):=by
   rw[iSt,if_neg k1,if_neg k2,if_neg k3,if_neg k4,if_neg k5,if_neg k6]
  have hg:dh (cd d) s=false:=by
   have hk:¬(1<=s.kind/\s.kind<=6):=by omega
   simp only[dh,stD,if_neg k5,decide_eq_false hk,aK,aR]
  rw[hi,hg];simp
theorem ry{d:Nat}:∀(l:List St) (n:Int),0<=n->n<=40->(∀s∈l,∀n,0<=n->n<=40->(iSt (fG d) s n).1=(dh (cd d) s&&decide ((s.num:Int) - 1<=n))/\((iSt (fG d) s n).1=true->(iSt (fG d) s n).2=n - ((s.num:Int) - 1)))->
 (gj true (iSt (fG d)) l n).1=(l.all (dh (cd d))&&decide ((bU l:Int)<=n))/\((gj true (iSt (fG d)) l n).1=true->(gj true (iSt (fG d)) l n).2=n - bU l)
 |[],n,hn,_,_=>by simp[gj,gA,hn]
 |s::l,n,hn,hn2,h=>by
  have h1:1<=s.num:=by rw[lI];omega
  rw[gj,gI,List.all_cons,cb]
  by_cases h0:0<=n - 1
  ·have hs:=h s (by simp) (n - 1) h0 (by omega)
   rw[decide_eq_true h0]
   simp only[if_true]
   cases ho:(iSt (fG d) s (n - 1)).1
   ·simp only[av,if_false]
    refine⟨?_,by simp⟩
    rw[ho]at hs
    have hs1:=hs.1.symm
    rw[cV]at hs1
    rcases hs1 with h2|h2
    ·rw[h2];simp
    ·simp only[decide_eq_false_iff_not]at h2
     rw[show decide (((s.num+bU l:Nat):Int)<=n)=false from decide_eq_false (by omega),aR]
   ·have h2:=hs.2 ho
    have h3:=hs.1
    rw[ho]at h3
    have h3:=h3.symm
    simp only[a6,decide_eq_true_eq]at h3
    have hl:=ry l (iSt (fG d) s (n - 1)).2 (by omega) (by omega) fun x hx=>h x (by simp[hx])
    rw[h2]at hl⊢
    simp only[if_true]
    refine⟨?_,fun ho=>?_⟩
    ·rw[hl.1,h3.1,cb]
     congr 1
     rw[decide_eq_decide];omega
    ·rw[hl.2 ho];omega
  ·rw[decide_eq_false h0]
   simp only[av,if_false]
   refine⟨?_,by simp⟩
   rw[show decide (((s.num+bU l:Nat):Int)<=n)=false from decide_eq_false (by omega),aR]
theorem St.sm.kids{i:Nat}{s:St}(h:s.sm (i+1)):(∀x∈s.thn,x.sm i)/\∀x∈s.els,x.sm i:=by
 cases h with|mk he ha ht hl=>exact⟨ht,hl⟩
theorem rz:∀(d i:Nat) (l:List St) (n:Int),i+1<=d->(∀s∈l,s.sm i)->0<=n->n<=40->
 (fG d l n).1=(cd d l&&decide ((bU l:Int)<=n))/\((fG d l n).1=true->(fG d l n).2=n - bU l)
 |0,i,l,n,h,_,_,_=>by omega
 |d+1,i,l,n,hd,hs,hn,hn2=>by
  have key:=ry (d:=d) l n hn hn2 fun s hx n hn hn2=>Bb d s n hn (fun l' n hl _ hn hn2=>by
   have h:=hs s hx
   cases i with
   |zero=>cases h
   |succ i=>
    have hk:=h.kids
    exact rz d i l' n (by omega) (by rcases hl with rfl|rfl;exact hk.1;exact hk.2) hn hn2) hn2
  refine⟨?_,key.2⟩
  rw[fG,key.1,cd]
  have hlen:=sf l
  by_cases h40:(bU l:Int)<=n
  ·rw[show decide (l.length<=40)=true from decide_eq_true (by omega),cb]
  ·rw[decide_eq_false h40,aR,aR]
theorem iBody4{l:List St}(h:∀s∈l,s.sm 3):(fG 4 l 40).1=(cd 4 l&&decide (bU l<=40)):=by
 rw[(rz 4 3 l 40 (by omega) h (by omega) (by omega)).1]
 congr 1
 rw[decide_eq_decide];omega
inductive StW(Bd:List St->Bool)(s:St):Prop
 |k1 (h:s.kind=1) (r:s.rest1.noneB=true) (n:bB s.name=true) (e:s.expr.okD 4=true)
 |k2 (h:s.kind=2) (r:s.rest2.noneB=true) (n:bB s.name=true) (p:s.place.okB=true)
 |k3 (h:s.kind=3) (r:s.rest3.noneB=true) (p:s.place.okB=true) (e:s.expr.okD 4=true)
 |k4 (h:s.kind=4) (r:s.rest4.noneB=true) (n:bB s.name=true) (f:bB s.fn=true) (a:eT s.args=true)
 |k5 (h:s.kind=5) (r:s.rest5.noneB=true) (e:s.expr.okD 4=true) (t:Bd s.thn=true) (l:Bd s.els=true)
 |k6 (h:s.kind=6) (r:s.rest6.noneB=true) (n:bB s.name=true) (p:s.place.okB=true) (o:s.other.okB=true) (e:s.expr.okD 4=true)
theorem stW{Bd:List St->Bool}{s:St}(h:dh Bd s=true):StW Bd s:=by
 have an:=@wb s.args
 have p0:P0.noneB=true:=rfl
 have e0:E0.noneB=true:=rfl
 by_cases k1:s.kind=1
 ·simp only[dh,stA,stB,k9,stD,isN,isP,isE,k1,bw,dX,decide_true,decide_false,df,dY,dR,ig,if_true,if_false,reduceIte,av,a6,decide_eq_true_eq]at h
  have hr:s.rest1.noneB=true/\bB s.name=true/\s.expr.okD 4=true:=by
   simp only[St.rest1,gM,a6,decide_eq_true_eq]
   simp only[p0,e0,true_and,and_self,cT,eo,dC]at an h⊢
   simp_all
  exact .k1 k1 hr.1 hr.2.1 hr.2.2
 by_cases k2:s.kind=2
 ·simp only[dh,stA,stB,k9,stD,isN,isP,isE,k2,bw,dX,decide_true,decide_false,df,dY,dR,ig,if_true,if_false,reduceIte,av,a6,decide_eq_true_eq]at h
  have hr:s.rest2.noneB=true/\bB s.name=true/\s.place.okB=true:=by
   simp only[St.rest2,gM,a6,decide_eq_true_eq]
   simp only[p0,e0,true_and,and_self,cT,eo,dC]at an h⊢
   simp_all
  exact .k2 k2 hr.1 hr.2.1 hr.2.2
 by_cases k3:s.kind=3
 ·simp only[dh,stA,stB,k9,stD,isN,isP,isE,k3,bw,dX,decide_true,decide_false,df,dY,dR,ig,if_true,if_false,reduceIte,av,a6,decide_eq_true_eq]at h
  have hr:s.rest3.noneB=true/\s.place.okB=true/\s.expr.okD 4=true:=by
   simp only[St.rest3,gM,a6,decide_eq_true_eq]
   simp only[p0,e0,true_and,and_self,cT,eo,dC]at an h⊢
   simp_all
  exact .k3 k3 hr.1 hr.2.1 hr.2.2
 by_cases k4:s.kind=4
 ·simp only[dh,stA,stB,k9,stD,isN,isP,isE,k4,bw,dX,decide_true,decide_false,df,dY,dR,ig,if_true,if_false,reduceIte,av,a6,decide_eq_true_eq]at h
  have hr:s.rest4.noneB=true/\bB s.name=true/\bB s.fn=true/\eT s.args=true:=by
   simp only[St.rest4,gM,a6,decide_eq_true_eq]
   simp only[p0,e0,true_and,and_self,cT,eo,dC]at an h⊢
   simp_all
  exact .k4 k4 hr.1 hr.2.1 hr.2.2.1 hr.2.2.2
 by_cases k6:s.kind=6
 ·simp only[dh,stA,stB,k9,stD,isN,isP,isE,k6,bw,dX,decide_true,decide_false,df,dY,dR,ig,if_true,if_false,reduceIte,av,a6,decide_eq_true_eq]at h
  have hr:s.rest6.noneB=true/\bB s.name=true/\s.place.okB=true/\s.other.okB=true/\s.expr.okD 4=true:=by
   simp only[St.rest6,gM,a6,decide_eq_true_eq]
   simp only[p0,e0,true_and,and_self,cT,eo,dC]at an h⊢
   simp_all
  exact .k6 k6 hr.1 hr.2.1 hr.2.2.1 hr.2.2.2.1 hr.2.2.2.2
 by_cases k5:s.kind=5
 ·simp only[dh,stA,stB,k9,stD,isN,isP,isE,k5,bw,dX,decide_true,decide_false,df,dY,dR,ig,if_true,if_false,reduceIte,av,a6,decide_eq_true_eq]at h
  have hr:s.rest5.noneB=true/\s.expr.okD 4=true/\Bd s.thn=true/\Bd s.els=true:=by
   simp only[St.rest5,gM,a6,decide_eq_true_eq]
   simp only[p0,e0,true_and,and_self,cT,eo,dC]at an h⊢
   simp_all
  exact .k5 k5 hr.1 hr.2.1 hr.2.2.1 hr.2.2.2
 ·simp only[dh,stD,if_neg k5,a6,decide_eq_true_eq]at h
  omega
theorem jN{p:Pl}(h:p.okB=true):p.path.length<=2^30:=by
 simp only[Pl.okB,gF,a6,decide_eq_true_eq]at h
 omega
theorem oG{zas:List Ag}(h:eT zas=true):(∀a∈zas,a.okB=true)/\zas.length<=4:=by
 simp only[eT,a6,decide_eq_true_eq,aV]at h
 exact⟨h.2,h.1⟩
theorem ww{v:Sc}(h:v.good)(hh:v.held=[]){a:Sc×Int}{b:Sc->Sc×Int}{n m:Nat}(ha:a.2=0->v.step a.1 n)
(hb:∀w:Sc,w.good->w.held=[]->w.lost=v.lost->w.p=v.p->w.vars=v.vars->(b w).2=0->w.step (b w).1 m)(hz:(mD v a b).2=0):v.step (mD v a b).1 0:=by
 unfold mD at hz⊢
 split at hz
 ·rename_i h0
  rw[if_pos h0]
  have s1:=ha h0
  split at hz
  ·rename_i h1
   rw[if_pos h1]
   obtain⟨g,hg⟩:=s1.giv
   have gg:∀(ns:List ByteArray),Sc.good {v with given:=v.given++ns}:=fun ns=>⟨fun y hy=>by simp only[fj,h.ok y hy,dY],h.nd,h.len,h.hl,h.hp,h.lp,h.ll,h.ty⟩
   have s2:=hb {v with given:=a.1.given} (by rw[hg];exact gg g) hh rfl rfl rfl h1
   obtain⟨g',hg'⟩:=s2.giv
   have hgv:(b {v with given:=a.1.given}).1.given=v.given++(g++g'):=by rw[hg'];simp only;rw[hg,eE]
   have hc:(gu v.vars (v.vars.map (·.name)) [a.1.vars,(b {v with given:=a.1.given}).1.vars]).map Vr.core=v.vars.map Vr.core:=ow _ _ _
   refine⟨rfl,?_,hh,rfl,by simp only;rw[gN hc];omega,by simp only;rw[gN hc];omega,by simp only;rw[<-gN hc,aO];exact hc,g++g',hgv⟩
   exact(gg (g++g')).core hc hgv rfl
  ·rename_i h1;exact absurd hz h1
 ·rename_i h0;exact absurd hz h0
theorem fE:∀(d:Nat) (l:List St),cd d l=true->∀v:Sc,v.good->v.held=[]->v.lost=false->(∀f∈v.p,f.type.okB=true)->v.vars.length+100*d<=2^30->(v.stmts l).2=0->v.step (v.stmts l).1 l.length:=by
 intro d
 induction d with
 |zero=>intro l h;simp[cd]at h
 |succ d ih=>
  have one:∀s:St,dh (cd d) s=true->∀v:Sc,v.good->v.held=[]->v.lost=false->(∀f∈v.p,f.type.okB=true)->v.vars.length+1+100*d<=2^30->(v.stmt s).2=0->v.step (v.stmt s).1 1:=by
   intro s hs v hv hh hl hp hn hz
   have se:=jv hv hh s.expr
   have su:=nq hv hh s.place
   rw[Sc.stmt_eq]at hz⊢
   rcases stW hs with⟨k,r,n,e⟩|⟨k,r,n,p⟩|⟨k,r,p,e⟩|⟨k,r,n,f,a⟩|⟨k,r,e,t,l⟩|⟨k,r,n,p,o,e⟩
   ·simp only[k,bw,if_true,if_false]at hz⊢
    split at hz
    ·rename_i h0
     rw[if_pos h0]
     have:=se.hi
     exact(se.trans (kM se.good se.held (x:=⟨s.name,false,false,(v.expr s.expr).2.1,[],false⟩) (jb _ hv) (by simp) (by simp) (by omega) hz)).mono (by omega)
    ·rename_i h0;exact absurd hz h0
   ·simp only[k,bw,if_true,if_false]at hz⊢
    split at hz
    ·rename_i h0
     rw[if_pos h0]
     have:=su.hi
     exact(su.trans (kM su.good su.held (x:=⟨s.name,true,false,(v.use s.place).2.1,[s.place],false⟩) (ji hv _) (by simp) (by simp;exact jN p) (by omega) hz)).mono (by omega)
    ·rename_i h0;exact absurd hz h0
   ·simp only[k,bw,if_true,if_false]at hz⊢
    split at hz
    ·rename_i h0
     rw[if_pos h0]
     exact(se.trans (nq se.good se.held s.place)).mono (by omega)
    ·rename_i h0;exact absurd hz h0
   ·simp only[k,bw,if_true,if_false]at hz⊢
    obtain⟨a1,a2⟩:=oG a
    exact x6 hv hh hl a1 (by omega) hp (by omega) hz
   ·simp only[k,bw,if_true,if_false]at hz⊢
    rw[<-ee]at se
    split at hz
    ·rename_i h0
     rw[if_pos h0]
     have:=se.hi
     refine(se.trans (ww se.good se.held (n:=s.thn.length) (m:=s.els.length) (fun hz'=>ih s.thn t _ se.good se.held (by rw[se.lost];exact hl) (by rw[se.p];exact hp) (by omega) hz') (fun w hw hwh hwl hwp hwv hwz=>?_) hz)).mono (by omega)
     exact ih s.els l w hw hwh (by rw[hwl,se.lost];exact hl) (by rw[hwp,se.p];exact hp) (by rw[hwv];omega) hwz
    ·rename_i h0;exact absurd hz h0
   ·simp only[k,bw,if_true,if_false]at hz⊢
    exact wJ hv hh hl (jN p) (jN o) (by omega) hz
  have many:∀l:List St,(∀s∈l,dh (cd d) s=true)->∀v:Sc,v.good->v.held=[]->v.lost=false->(∀f∈v.p,f.type.okB=true)->v.vars.length+l.length+100*d<=2^30->(v.stmts l).2=0->v.step (v.stmts l).1 l.length:=by
   intro l
   induction l with
   |nil=>intro _ v hv hh _ _ _ _;rw[eM];exact .refl hv hh
   |cons s l ihl=>
    intro hs v hv hh hl hp hn hz
    simp only[aU]at hn⊢
    rw[dP]at hz⊢
    split at hz
    ·rename_i h0
     rw[if_pos h0]
     have s1:=one s (hs s eO) v hv hh hl hp (by omega) h0
     have:=s1.hi
     exact(s1.trans (ihl (fun x hx=>hs x (dV _ hx)) _ s1.good s1.held (by rw[s1.lost];exact hl) (by rw[s1.p];exact hp) (by omega) hz)).mono (by omega)
    ·rename_i h0;exact absurd hz h0
  intro l hl v hv hh hlo hp hn hz
  simp only[cd,a6,decide_eq_true_eq,aV]at hl
  exact many l hl.2 v hv hh hlo hp (by omega) hz
def Mon(vs ws:List Vr):Prop:=∀i,dx vs i=true->dx ws i=true
theorem Mon.refl(vs:List Vr):Mon vs vs:=fun _ h=>h
theorem Mon.trans{a b c:List Vr}(h:Mon a b)(h':Mon b c):Mon a c:=fun i hi=>h' i (h i hi)
theorem Mon.map{vs:List Vr}{f:Vr->Vr}(hf:∀x,x.dead=true->(f x).dead=true):Mon vs (vs.map f):=fun i h=>by
 unfold dx at h⊢
 rw[cG]
 cases hx:vs[i]? with
 |none=>rw[hx]at h;simp at h
 |some x=>rw[hx]at h;exact hf x h
theorem Mon.append(vs ws:List Vr):Mon vs (vs++ws):=fun i h=>by
 unfold dx at h⊢
 cases hx:vs[i]? with
 |none=>rw[hx]at h;simp at h
 |some x=>
  obtain⟨hl,-⟩:=aT.1 hx
  rw[aL hl,hx];rw[hx]at h;exact h
theorem Mon.endN(vs:List Vr)(n:ByteArray):Mon vs (gY vs n):=Mon.map fun x h=>by split<;>simp[h]
theorem wn:∀(ns:List ByteArray) (vs:List Vr),Mon vs (ns.foldl Go.Xl.gY vs)
 |[],vs=>.refl vs
 |n::ns,vs=>by rw[dM];exact(Mon.endN vs n).trans (wn ns _)
theorem Mon.use(v:Sc)(p:Pl):Mon v.vars (v.use p).1.vars:=by
 unfold Sc.use
 split
 ·exact wn _ _
 ·exact .refl _
theorem Mon.expr:∀(e:Ex) (v:Sc),Mon v.vars (v.expr e).1.vars
 |.mk k n p ks,v=>by
  rw[Sc.expr_eq]
  split
  ·exact .refl _
  ·split
   ·exact Mon.use v p
   ·split
    ·rename_i a b l
     have ha:=Mon.expr a v
     have hb:=ha.trans (Mon.expr b (v.expr a).1)
     split
     ·split
      ·split
       ·exact hb
       ·exact hb
      ·exact hb
     ·exact ha
    ·exact .refl _
termination_by e=>SizeOf.sizeOf e
theorem pz(v:Sc)(x:Vr):Mon v.vars (eC v x).1.vars:=by
 unfold eC
 split
 ·exact .refl _
 ·exact Mon.append _ _
theorem Mon.arg(v:Sc)(a:Ag)(p:Pa):Mon v.vars (iL v a p).1.vars:=by
 unfold iL
 split
 ·exact .refl _
 ·split
  ·exact Mon.use v a.place
  ·exact Mon.expr a.expr v
theorem Mon.args:∀(zas:List Ag) (ps:List Pa) (v:Sc),Mon v.vars (dO v zas ps).1.vars
 |[],_,v=>by simp only[dO];exact .refl _
 |_::_,[],v=>by simp only[dO];exact .refl _
 |a::zas,p::ps,v=>by
  rw[dO]
  split
  ·exact(Mon.arg v a p).trans (Mon.args zas ps _)
  ·exact Mon.arg v a p
theorem Mon.call(v:Sc)(n fn:ByteArray)(zas:List Ag):Mon v.vars (gv v n fn zas).1.vars:=by
 unfold gv
 split
 ·exact .refl _
 ·rename_i f hf
  split
  ·split
   ·refine(Mon.args zas f.params v).trans ?_
    unfold gH
    split
    ·exact .refl _
    ·exact pz {(dO v zas f.params).1 with held:=[],lost:=false} _
   ·exact Mon.args zas f.params v
  ·exact .refl _
theorem Mon.pick(v:Sc)(n:ByteArray)(p o:Pl)(e:Ex):Mon v.vars (il v n p o e).1.vars:=by
 have h0:Mon v.vars (v.number e).1.vars:=by rw[ee];exact Mon.expr e v
 unfold il
 split
 ·refine h0.trans ?_
  unfold jm
  split
  ·refine(Mon.use _ p).trans ?_
   have h2:=Mon.use (((v.number e).1.use p).1.hold1 p) o
   unfold oR
   split
   ·split
    ·split
     ·exact h2
     ·exact h2.trans (pz ((((v.number e).1.use p).1.hold1 p).use o).1.clear _)
    ·exact h2
   ·exact h2
  ·exact Mon.use _ p
 ·exact h0
theorem Mon.joinW(n:ByteArray):∀(ws:List (List Vr)) (vs:List Vr),Mon vs (Go.Xl.jQ vs n ws)
 |[],vs=>.refl _
 |w::ws,vs=>by
  have e:Go.Xl.jQ vs n (w::ws)=Go.Xl.jQ (if dW w n then Go.Xl.gY vs n else vs) n ws:=rfl
  rw[e]
  refine Mon.trans ?_ (Mon.joinW n ws _)
  split
  ·exact Mon.endN _ _
  ·exact .refl _
theorem Mon.join:∀(ns:List ByteArray) (vs:List Vr) (ws:List (List Vr)),Mon vs (gu vs ns ws)
 |[],vs,ws=>.refl _
 |n::ns,vs,ws=>by
  have e:gu vs (n::ns) ws=gu (Go.Xl.jQ vs n ws) ns ws:=rfl
  rw[e]
  exact(Mon.joinW n ws vs).trans (Mon.join ns _ ws)
theorem Mon.ways(v:Sc)(t l:List St):Mon v.vars (v.ways t l).1.vars:=by
 unfold Sc.ways mD
 split
 ·split
  ·exact Mon.join _ _ _
  ·exact .refl _
 ·exact .refl _
theorem Mon.stmt(v:Sc)(s:St):Mon v.vars (v.stmt s).1.vars:=by
 rw[Sc.stmt_eq]
 split
 ·split
  ·exact(Mon.expr _ v).trans (pz _ _)
  ·exact Mon.expr _ v
 split
 ·split
  ·exact(Mon.use v _).trans (pz _ _)
  ·exact Mon.use v _
 split
 ·split
  ·exact(Mon.expr _ v).trans (Mon.use _ _)
  ·exact Mon.expr _ v
 split
 ·exact Mon.call _ _ _ _
 split
 ·exact Mon.pick _ _ _ _ _
 have h0:Mon v.vars (v.number s.expr).1.vars:=by rw[ee];exact Mon.expr _ v
 split
 ·exact h0.trans (Mon.ways _ _ _)
 ·exact h0
theorem Mon.stmts:∀(l:List St) (v:Sc),Mon v.vars (v.stmts l).1.vars
 |[],v=>by rw[eM];exact .refl _
 |s::l,v=>by
  rw[dP]
  split
  ·exact(Mon.stmt v s).trans (Mon.stmts l _)
  ·exact Mon.stmt v s
theorem lQ(v:Sc)(p:Pl):0<=(v.use p).2.2:=by
 unfold Sc.use
 have:0<=(eX v.vars p).2:=by
  unfold eX
  split
  ·simp
  ·split
   ·simp
   ·split<;>simp
 split<;>exact this
theorem kN:∀(e:Ex) (v:Sc),0<=(v.expr e).2.2
 |.mk k n p ks,v=>by
  rw[Sc.expr_eq]
  split
  ·simp
  ·split
   ·exact lQ v p
   ·split
    ·rename_i a b l
     split
     ·split
      ·split
       ·split<;>simp
       ·simp only;split<;>simp
      ·exact kN b _
     ·exact kN a v
    ·simp
termination_by e=>SizeOf.sizeOf e
theorem ri(v:Sc)(e:Ex):0<=(v.number e).2:=by
 simp only[Sc.number]
 split
 ·simp only;split<;>simp
 ·exact kN e v
theorem mT(v:Sc)(x:Vr):0<=(eC v x).2:=by unfold eC;split<;>simp
theorem arg_pos(v:Sc)(a:Ag)(p:Pa):0<=(iL v a p).2:=by
 unfold iL
 split
 ·simp
 ·split
  ·simp only;split
   ·split<;>simp
   ·exact lQ _ _
  ·simp only;split
   ·split<;>simp
   ·exact kN _ _
theorem wa:∀(zas:List Ag) (ps:List Pa) (v:Sc),0<=(dO v zas ps).2
 |[],_,v=>by simp[dO]
 |_::_,[],v=>by simp[dO]
 |a::zas,p::ps,v=>by
  rw[dO]
  split
  ·exact wa zas ps _
  ·exact arg_pos v a p
theorem Bw(v:Sc)(n fn:ByteArray)(zas:List Ag):0<=(gv v n fn zas).2:=by
 unfold gv
 split
 ·simp
 ·split
  ·split
   ·unfold gH
    split
    ·simp
    ·exact mT _ _
   ·exact wa _ _ _
  ·simp
theorem AH(v:Sc)(n:ByteArray)(p o:Pl)(e:Ex):0<=(il v n p o e).2:=by
 unfold il
 split
 ·unfold jm
  split
  ·unfold oR
   split
   ·split
    ·split
     ·simp
     ·exact mT _ _
    ·simp
   ·exact lQ _ _
  ·exact lQ _ _
 ·exact ri _ _
mutual
theorem Aq:∀(s:St) (v:Sc),0<=(v.stmt s).2
 |.mk k n p o e f zas t l,v=>by
  rw[Sc.stmt_eq]
  split
  ·split
   ·exact mT _ _
   ·exact kN _ _
  split
  ·split
   ·exact mT _ _
   ·exact lQ _ _
  split
  ·split
   ·simp only;split
    ·split<;>simp
    ·exact lQ _ _
   ·exact kN _ _
  split
  ·exact Bw _ _ _ _
  split
  ·exact AH _ _ _ _ _
  split
  ·unfold Sc.ways mD
   split
   ·split
    ·simp
    ·exact kq l _
   ·exact kq t _
  ·exact ri _ _
termination_by s=>SizeOf.sizeOf s
theorem kq:∀(l:List St) (v:Sc),0<=(v.stmts l).2
 |[],v=>by rw[eM];simp
 |s::l,v=>by
  rw[dP]
  split
  ·exact kq l _
  ·exact Aq s v
termination_by l=>SizeOf.sizeOf l
end
theorem jK{v:En}(h:v.code≠0)(c:Int):(v.fail0 c).code=v.code:=by simp only[En.fail0];split<;>simp[ja h]
theorem nZ{v a b:En}(h:v.code=0)(ha:0<=a.code)(hb:0<=b.code):(v.join a b).code=if a.code=0 then b.code else a.code:=by
 simp only[En.join,En.fail0,h,dG]
 by_cases h1:a.code=0
 ·simp only[h1,if_true]
  by_cases h2:b.code=0
  ·simp[h2]
  ·have:0<b.code:=by omega
   simp[this]
 ·have:0<a.code:=by omega
  simp[this,h1]
theorem rx(ws:List (List Vr)):∀(ns:List ByteArray) (vs:List Vr),∃L:List ByteArray,gu vs ns ws=L.foldl gY vs/\∀n,n∈L↔n∈ns/\∃w∈ws,dW w n=true:=by
 have one:∀(n:ByteArray) (ws:List (List Vr)) (vs:List Vr),∃L:List ByteArray,jQ vs n ws=L.foldl gY vs/\∀m,m∈L↔m=n/\∃w∈ws,dW w n=true:=by
  intro n ws
  induction ws with
  |nil=>intro vs;exact⟨[],rfl,by simp⟩
  |cons w ws ih=>
   intro vs
   have e:jQ vs n (w::ws)=jQ (if dW w n then gY vs n else vs) n ws:=rfl
   obtain⟨L,h1,h2⟩:=ih (if dW w n then gY vs n else vs)
   by_cases hd:dW w n=true
   ·refine⟨n::L,by rw[e,h1,if_pos hd];rfl,fun m=>?_⟩
    simp only[be,h2]
    constructor
    ·rintro(rfl|⟨rfl,w',hw',h⟩)
     ·exact⟨rfl,w,.inl rfl,hd⟩
     ·exact⟨rfl,w',.inr hw',h⟩
    ·rintro⟨rfl,-⟩;exact .inl rfl
   ·refine⟨L,by rw[e,h1,if_neg hd],fun m=>?_⟩
    simp only[be,h2]
    constructor
    ·rintro⟨rfl,w',hw',h⟩;exact⟨rfl,w',.inr hw',h⟩
    ·rintro⟨rfl,w',rfl|hw',h⟩
     ·exact absurd h hd
     ·exact⟨rfl,w',hw',h⟩
 intro ns
 induction ns with
 |nil=>intro vs;exact⟨[],rfl,by simp⟩
 |cons n ns ih=>
  intro vs
  have e:gu vs (n::ns) ws=gu (jQ vs n ws) ns ws:=rfl
  obtain⟨L1,a1,a2⟩:=one n ws vs
  obtain⟨L2,b1,b2⟩:=ih (jQ vs n ws)
  refine⟨L1++L2,by rw[e,b1,a1,List.foldl_append],fun m=>?_⟩
  simp only[aF,a2,b2,be]
  constructor
  ·rintro(⟨rfl,h⟩|⟨h,h'⟩)
   ·exact⟨.inl rfl,h⟩
   ·exact⟨.inr h,h'⟩
  ·rintro⟨rfl|h,h'⟩
   ·exact .inl ⟨rfl,h'⟩
   ·exact .inr ⟨h,h'⟩
theorem dW_at{vs ws:List Vr}(hnd:(ws.map (·.name)).Nodup)(hpre:(ws.take vs.length).map Vr.core=vs.map Vr.core){i:Nat}(hi:i<vs.length):dW ws vs[i].name=dx ws i:=by
 have hl:vs.length<=ws.length:=by
  have:=congrArg List.length hpre
  simp at this;omega
 have hiw:i<ws.length:=by omega
 have hn:ws[i].name=vs[i].name:=by
  have:=congrArg (·[i]?) hpre
  simp only[cG,dF hi,aw hi,aw hiw,bK,Option.some.injEq]at this
  have h:=congrArg Vr.name this
  exact h
 unfold dW dx
 rw[<-hn,pd hnd hiw,aw hiw]
theorem wT{vs zas bs:List Vr}(hva:(zas.map (·.name)).Nodup)(hvb:(bs.map (·.name)).Nodup)(ha:(zas.take vs.length).map Vr.core=vs.map Vr.core)(hb:(bs.take vs.length).map Vr.core=vs.map Vr.core)(hm:Mon vs zas):
 gi vs zas bs=gu vs (vs.map (·.name)) [zas,bs]:=by
 obtain⟨L,h1,h2⟩:=rx [zas,bs] (vs.map (·.name)) vs
 rw[h1,je]
 apply List.ext_getElem (by simp[gi])
 intro i h3 h4
 have hi:i<vs.length:=by simpa[gi]using h3
 simp only[gi,List.getElem_mapIdx,fW]
 have da:=dW_at hva ha hi
 have db:=dW_at hvb hb hi
 have hin:(L.any fun m=>eqB m vs[i].name)=true↔(dx zas i=true\/dx bs i=true):=by
  rw[iW,h2,<-da,<-db]
  constructor
  ·rintro⟨-,w,hw,h⟩
   simp only[be,ce,or_false]at hw
   rcases hw with rfl|rfl
   ·exact .inl h
   ·exact .inr h
  ·intro h
   refine⟨aY.2 ⟨vs[i],ax hi,rfl⟩,?_⟩
   rcases h with h|h
   ·exact⟨zas,by simp,h⟩
   ·exact⟨bs,by simp,h⟩
 by_cases hc:(L.any fun m=>eqB m vs[i].name)=true
 ·rw[if_pos hc]
  have:=hin.1 hc
  have e:(dx zas i||dx bs i)=true:=by simpa using this
  rw[e]
 ·rw[if_neg hc]
  have hn:¬(dx zas i=true\/dx bs i=true):=fun h=>hc (hin.2 h)
  have e:(dx zas i||dx bs i)=false:=by
   cases h1:dx zas i<;>cases h2:dx bs i<;>simp[h1,h2]at hn⊢
  rw[e]
  have hd:vs[i].dead=false:=by
   cases hd:vs[i].dead with
   |false=>rfl
   |true=>
    have:=hm i (by unfold dx;rw[aw hi];exact hd)
    simp[this]at e
  generalize vs[i]=x at*
  cases x
  simp only at hd
  subst hd
  rfl
theorem tw{v:En}(h:v.code≠0):∀l:List St,v.body l=v
 |[]=>iG v
 |s::l=>by rw[iM,if_neg h]
theorem nF{n:ByteArray}(hn:bB n=true):n≠bl []:=by
 intro e;rw[e]at hn;simp[bB,bl]at hn;exact absurd hn.1 (by decide)
theorem yy{vs ws:List Vr}(hc:ws.map Vr.core=vs.map Vr.core){n:ByteArray}(h:∃x∈vs,x.name=n):∃y∈ws,y.name=n:=by
 obtain⟨x,hx,hn⟩:=h
 have:x.core∈ws.map Vr.core:=by rw[hc];exact cu hx
 obtain⟨y,hy,ey⟩:=aY.1 this
 exact⟨y,hy,by have:=congrArg Vr.name ey;exact this.trans hn⟩
def wh(d:Nat):Prop:=∀(l:List St),cd d l=true->∀{e:En} {u:Sc},Rel e u []->u.good->u.held=[]->(∀f∈u.p,f.type.okB=true)->u.vars.length+200*d<=2^30->
 ((u.stmts l).2=0/\Rel (e.body l) (u.stmts l).1 [])\/((u.stmts l).2≠0/\(e.body l).code=(u.stmts l).2)
theorem Rel.lost0{e:En}{u:Sc}(h:Rel e u []):u.lost=false:=by have:=h.lost;simpa using this
theorem qM{d:Nat}(ih:wh d){s:St}(hs:dh (cd d) s=true){e:En}{u:Sc}(h:Rel e u [])(hu:u.good)(hh:u.held=[])(hp:∀f∈u.p,f.type.okB=true)(hn:u.vars.length+200*d<=2^30):
 ((u.stmt s).2=0/\Rel (e.stmt s) (u.stmt s).1 [])\/((u.stmt s).2≠0/\(e.stmt s).code=(u.stmt s).2):=by
 have hheldE:=(Sc.expr_core s.expr u).2.2.1
 rcases stW hs with⟨k,r,n,x⟩|⟨k,r,n,p⟩|⟨k,r,p,x⟩|⟨k,r,n,f,a⟩|⟨k,r,x,t,l⟩|⟨k,r,n,p,o,x⟩
 ·rw[En.stmt_eq,Sc.stmt_eq]
  simp only[k,bw,if_true,if_false]
  rcases mW 4 s.expr x h with⟨a1,⟨T1,a2⟩,a3⟩|⟨a1,a2⟩
  ·rw[if_pos a1,a3]
   obtain rfl:=a2.nil (hheldE.trans hh)
   exact pt a2 (nF n) (by simp) (hheldE.trans hh)
  ·rw[if_neg a1]
   right
   exact⟨a1,(eR (by rw[a2];exact a1) _).trans a2⟩
 ·rw[En.stmt_eq,Sc.stmt_eq]
  simp only[k,bw,if_true,if_false]
  have hheldU:=(u.use_core s.place).2.2.1
  rcases lP h (p:=s.place) (kG p)with⟨a1,⟨T1,a2⟩,a3,a4⟩|⟨a1,a2⟩
  ·rw[if_pos a1,a3]
   obtain rfl:=a2.nil (hheldU.trans hh)
   exact pt a2 (nF n) (by
    intro q hq
    simp at hq;subst hq
    exact yy (u.use_core s.place).1 a4) (hheldU.trans hh)
  ·rw[if_neg a1]
   right
   exact⟨a1,(eR (by rw[a2];exact a1) _).trans a2⟩
 ·rw[En.stmt_eq,Sc.stmt_eq]
  simp only[k,bw,if_true,if_false]
  rcases mW 4 s.expr x h with⟨a1,⟨T1,a2⟩,a3⟩|⟨a1,a2⟩
  ·rw[if_pos a1,a3]
   obtain rfl:=a2.nil (hheldE.trans hh)
   have hheldU:=((u.expr s.expr).1.use_core s.place).2.2.1
   rcases lP a2 (p:=s.place) (kG p)with⟨b1,⟨T2,b2⟩,b3,b4⟩|⟨b1,b2⟩
   ·obtain rfl:=b2.nil (hheldU.trans (hheldE.trans hh))
    rw[b3]
    simp only[if_pos b1]
    by_cases hq:eqB (u.expr s.expr).2.1 ((u.expr s.expr).1.use s.place).2.1=true
    ·left
     simp only[hq,if_true]
     exact⟨trivial,b2.same (cN.2 (cN.1 hq).symm)⟩
    ·right
     have hq':eqB (u.expr s.expr).2.1 ((u.expr s.expr).1.use s.place).2.1=false:=by simpa using hq
     have hq2:eqB ((u.expr s.expr).1.use s.place).2.1 (u.expr s.expr).2.1=false:=cL.2 fun e=>cL.1 hq' e.symm
     simp only[hq',av,if_false]
     exact⟨by decide,by rw[j4 b2.code,hq2];simp⟩
   ·right
    simp only[if_neg b1]
    exact⟨b1,(eZ (by rw[b2];exact b1) _ _).trans b2⟩
  ·rw[if_neg a1]
   right
   refine⟨a1,?_⟩
   have h2:=(jX (by rw[a2];exact a1) s.place).trans a2
   exact(eZ (by rw[h2];exact a1) _ _).trans h2
 ·rw[En.stmt_eq,Sc.stmt_eq]
  simp only[k,bw,if_true,if_false]
  exact Bv n (oG a).1 h hh
 ·rw[En.stmt_eq,Sc.stmt_eq]
  simp only[k,bw,if_true,if_false]
  rcases oq x h with⟨a1,T1,a2⟩|⟨a1,a2⟩
  ·rw[if_pos a1]
   have se:=jv hu hh s.expr
   rw[<-ee]at se
   obtain rfl:=a2.nil se.held
   have hhi:=se.hi
   generalize(u.number s.expr).1=v at*
   generalize(e.expr s.expr).1.num (e.expr s.expr).2=w at*
   have hvp:∀f∈v.p,f.type.okB=true:=by rw[se.p];exact hp
   unfold En.fork Sc.ways mD
   have hA:=ih s.thn t a2 se.good se.held hvp (by omega)
   have hpa:=kq s.thn v
   rcases hA with⟨b1,b2⟩|⟨b1,b2⟩
   ·rw[if_pos b1]
    have st:=fE d s.thn t v se.good se.held a2.lost0 hvp (by omega) b1
    obtain⟨g,hg⟩:=st.giv
    have gg:Sc.good {v with given:=(v.stmts s.thn).1.given}:=by
     rw[hg]
     exact⟨fun y hy=>by simp only[fj,se.good.ok y hy,dY],se.good.nd,se.good.len,se.good.hl,se.good.hp,se.good.lp,se.good.ll,se.good.ty⟩
    have rB:Rel {w with names:=(w.body s.thn).names} {v with given:=(v.stmts s.thn).1.given} []:=⟨a2.vars,b2.names,a2.code,a2.p,a2.ok,a2.tmp,a2.lost,gg.ok⟩
    have hB:=ih s.els l rB gg se.held hvp (by show v.vars.length+_<=_;omega)
    have hpb:=kq s.els {v with given:=(v.stmts s.thn).1.given}
    rcases hB with⟨c1,c2⟩|⟨c1,c2⟩
    ·rw[if_pos c1]
     left
     have st2:=fE d s.els l {v with given:=(v.stmts s.thn).1.given} gg se.held a2.lost0 hvp (by show v.vars.length+_<=_;omega) c1
     refine⟨rfl,?_⟩
     have hmon:=Mon.stmts s.thn v
     have hva:w.vars=v.vars:=by rw[a2.vars,cB]
     have hmj:=wT (vs:=v.vars) b2.ok.nd c2.ok.nd st.pre st2.pre hmon
     have hav:(w.body s.thn).vars=(v.stmts s.thn).1.vars:=by rw[b2.vars,cB]
     have hbv:(({w with names:=(w.body s.thn).names}:En).body s.els).vars=(({v with given:=(v.stmts s.thn).1.given}:Sc).stmts s.els).1.vars:=by rw[c2.vars,cB]
     have hcore:(gu v.vars (v.vars.map (·.name)) [(v.stmts s.thn).1.vars,(({v with given:=(v.stmts s.thn).1.given}:Sc).stmts s.els).1.vars]).map Vr.core=v.vars.map Vr.core:=ow _ _ _
     refine⟨?_,c2.names,?_,a2.p,a2.ok.core hcore,?_,a2.lost,?_⟩
     ·simp only[En.join,En.fail0,cB]
      rw[hav,hbv,hva];exact hmj
     ·rw[nZ a2.code (by rw[b2.code];simp) (by rw[c2.code];simp),b2.code,c2.code];rfl
     ·refine⟨a2.tmp.len,a2.tmp.tmp,fun q hq=>?_⟩
      have:v.held=[]:=se.held
      simp only[this]at hq
      simp at hq
     ·intro y hy
      obtain⟨x,hx,ex,-⟩:=jt hcore hy
      obtain⟨g',hg'⟩:=st2.giv
      have:=se.good.ok x hx
      rw[ex]at this
      show((({v with given:=(v.stmts s.thn).1.given}:Sc).stmts s.els).1.given.any fun m=>eqB m y.name)=true
      rw[hg']
      show(((v.stmts s.thn).1.given++g').any fun m=>eqB m y.name)=true
      rw[hg]
      simp only[fj,this,dY]
    ·rw[if_neg c1]
     right
     refine⟨c1,?_⟩
     rw[nZ a2.code (by rw[b2.code];simp) (by rw[c2];exact hpb),b2.code,if_pos rfl]
     exact c2
   ·rw[if_neg b1]
    right
    refine⟨b1,?_⟩
    simp only[En.join]
    have hc0:(w.body s.thn).code≠0:=by rw[b2];exact b1
    have h1:(({w with vars:=gi w.vars (w.body s.thn).vars (({w with names:=(w.body s.thn).names}:En).body s.els).vars,names:=(({w with names:=(w.body s.thn).names}:En).body s.els).names}:En).fail0 (w.body s.thn).code).code=(v.stmts s.thn).2:=by
     simp only[En.fail0,dG,a2.code,if_true]
     rw[if_pos (by rw[b2];omega)]
     exact b2
    rw[jK (by rw[h1];exact b1)]
    exact h1
  ·rw[if_neg a1]
   right
   refine⟨a1,?_⟩
   unfold En.fork
   generalize(e.expr s.expr).1.num (e.expr s.expr).2=w at*
   have hw:w.code≠0:=by rw[a2];exact a1
   simp only[En.join]
   have key:∀(x:En) (c d:Int),x.code≠0->((x.fail0 c).fail0 d).code=x.code:=fun x c d hx=>by
    rw[jK (by rw[jK hx];exact hx),jK hx]
   exact(key _ _ _ hw).trans a2
 ·rw[En.stmt_eq,Sc.stmt_eq]
  simp only[k,bw,if_true,if_false]
  exact AG n p o x h hh
theorem j3:∀d,wh d:=by
 intro d
 induction d with
 |zero=>intro l h;simp[cd]at h
 |succ d ih=>
  have many:∀l:List St,(∀s∈l,dh (cd d) s=true)->∀{e:En} {u:Sc},Rel e u []->u.good->u.held=[]->(∀f∈u.p,f.type.okB=true)->u.vars.length+l.length+200*d+150<=2^30->
   ((u.stmts l).2=0/\Rel (e.body l) (u.stmts l).1 [])\/((u.stmts l).2≠0/\(e.body l).code=(u.stmts l).2):=by
   intro l
   induction l with
   |nil=>intro _ e u h _ _ _ _;rw[eM,iG];exact .inl ⟨rfl,h⟩
   |cons s l ihl=>
    intro hs e u h hu hh hp hn
    simp only[aU]at hn
    rw[dP,iM,if_pos h.code]
    rcases qM ih (hs s eO) h hu hh hp (by omega)with⟨a1,a2⟩|⟨a1,a2⟩
    ·rw[if_pos a1]
     have s1:=fE (d+1) [s] (by simp[cd,hs s eO]) u hu hh h.lost0 hp (by omega) (by rw[dP,if_pos a1,eM])
     rw[dP,if_pos a1,eM]at s1
     have hhi:=s1.hi
     simp only[aU,bR]at hhi
     exact ihl (fun x hx=>hs x (dV _ hx)) a2 s1.good s1.held (by rw[s1.p];exact hp) (by omega)
    ·rw[if_neg a1,tw (by rw[a2];exact a1)]
     exact .inr ⟨a1,a2⟩
  intro l hl e u h hu hh hp hn
  simp only[cd,a6,decide_eq_true_eq,aV]at hl
  exact many l hl.2 h hu hh hp (by omega)
theorem fB(H H':aj):H.swap H H'=H':=by
 ext b:1
 rw[bA]
 cases h':H'.get b with
 |some o=>rfl
 |none=>cases h:H.get b<;>simp
def sy(F:Ids)(m2 b:Nat):Prop:=b=m2\/∃c,(c=2\/c=3\/c=4\/c=5)/\b=F.err c
section
variable {P:Program}{F:Ids}{er:bZ}
theorem cF.sub{H H':aj}{s:Nat}{v:Sc}{ORD HELD:AC}{m1 m2:Nat}(h:cF F er H s v ORD HELD m1 m2)(hs:∀c o,H.get c=some o->H'.get c=some o):cF F er H' s v ORD HELD m1 m2:=h.mono fun b hb=>by
 obtain⟨o,ho⟩:=aH.1 (h.mem hb)
 rw[ho,hs _ _ ho]
theorem cF.own{H:aj}{s:Nat}{v:Sc}{ORD HELD:AC}{m1 m2:Nat}(h:cF F er H s v ORD HELD m1 m2):¬sy F m2 s/\¬sy F m2 m1/\(∀b,co ORD b->¬sy F m2 b)/\∀b,co HELD b->¬sy F m2 b:=by
 refine⟨?_,?_,fun b hb=>?_,fun b hb=>?_⟩
 ·rintro(e|⟨c,hc,e⟩)
  ·exact h.blk_s.1.2 e
  ·exact h.far c hc e
 ·rintro(e|⟨c,hc,e⟩)
  ·exact h.ne e
  ·exact xj h.errs (by rw[h.names];simp) c hc e
 ·obtain⟨n,m,e⟩:=h.ord.tok hb
  rintro(rfl|⟨c,hc,rfl⟩)
  ·rw[h.given]at e;simp at e
  ·rw[h.errs c hc]at e;simp at e
 ·obtain⟨n,m,e⟩:=h.held.tok hb
  rintro(rfl|⟨c,hc,rfl⟩)
  ·rw[h.given]at e;simp at e
  ·rw[h.errs c hc]at e;simp at e
theorem po{H:aj}{s1 m1 m2:Nat}{ORD:AC}(h1:H.get s1=none)(h2:H.get m1=none)(h3:∀b,co ORD b->H.get b=none){b:Nat}(hb:H.get b≠none)(hs:¬sy F m2 b):¬du F s1 ORD NIL m1 m2 b:=by
 rintro(rfl|rfl|rfl|h|h|h)
 ·exact hb h1
 ·exact hb h2
 ·exact hs (.inl rfl)
 ·exact hb (h3 b h)
 ·obtain⟨_,_,_,_,e⟩:=h;simp at e
 ·exact hs (.inr h)
theorem cF.share{H H3:aj}{s s1:Nat}{v w:Sc}{ORD HELD ORD1 HELD1:AC}{m1 m2 m1':Nat}(h:cF F er H s v ORD HELD m1 m2)(h1:cF F er H3 s1 w ORD1 HELD1 m1' m2)
(hk:∀b,(b=s\/b=m1\/co ORD b\/co HELD b)->H3.get b=H.get b):cF F er H3 s {v with given:=w.given} ORD HELD m1 m2 where
 obj:=(hk s (.inl rfl)).trans h.obj
 names:=(hk m1 (.inr (.inl rfl))).trans h.names
 given:=h1.given
 ord:=h.ord.mono fun b hb=>hk b (.inr (.inr (.inl hb)))
 held:=h.held.mono fun b hb=>hk b (.inr (.inr (.inr hb)))
 apart:=h.apart
 ne:=h.ne
 errs:=h1.errs
 far:=h.far
 hnil:=h.hnil
 onil:=h.onil
theorem c_kways(L:Lib P F)(s:Nat)(e:Ex)(t l:List St)(v:Sc)(hv:v.good)(hh:v.held=[])(ht:∀s',ScC P F er 50 [.ptr s' 0,.sl 15 none (St.encs t)] s' v fun q v'=>q=er.ac (v.stmts t).2/\v'=(v.stmts t).1)
(hl:(v.stmts t).2=0->∀s',ScC P F er 50 [.ptr s' 0,.sl 15 none (St.encs l)] s' {v with given:=(v.stmts t).1.given} fun q v'=>q=er.ac (({v with given:=(v.stmts t).1.given}:Sc).stmts l).2/\v'=(({v with given:=(v.stmts t).1.given}:Sc).stmts l).1):
 ScC P F er 139 [.ptr s 0,.agg (e.enc++[.sl 15 none (St.encs t),.sl 15 none (St.encs l)])] s v fun q v'=>q=er.ac (v.ways t l).2/\v'=(v.ways t l).1:=by
 intro H ORD HELD m1 m2 hE
 have hH:=hE.hnil hh
 subst hH
 refine(L.a Tryz.func139 y139) (by simp[y139]) ?_
 rw[Ex.enc_eq]
 simp only[y139,go_sem,rE,rA,rL,cH,di]
 intro b3 hb3
 have hS0:=hE.new hb3 (.cells [I e.kind,I e.num,S e.place.name,au e.place.path,.sl 5 none (Ex.encs e.kids),.sl 15 none (St.encs t),.sl 15 none (St.encs l)])
 have n3:=hE.notin hb3
 have g3:(H.set b3 (.cells [I e.kind,I e.num,S e.place.name,au e.place.path,.sl 5 none (Ex.encs e.kids),.sl 15 none (St.encs t),.sl 15 none (St.encs l)])).get b3=some (.cells [I e.kind,I e.num,S e.place.name,au e.place.path,.sl 5 none (Ex.encs e.kids),.sl 15 none (St.encs t),.sl 15 none (St.encs l)]):=ai _ _ _
 clear hb3 hE
 generalize H.set b3 _=H0 at*
 refine dq (tv L s v ORD NIL m1 m2 _ hS0 hh hv.len) rfl (aj.sub_refl _) (fun h=>by simp at h) trivial ?_
 rintro q H1 ⟨s1,ORD1,m1a,rfl,hB1,up1,f1,f2,f3⟩ -
 rw[fB]
 have hS1:=hS0.sub up1
 have g31:=up1 _ _ g3
 simp only[go_sem,rE,rA,rL]
 refine dq (tv L s v ORD NIL m1 m2 _ hS1 hh hv.len) rfl (aj.sub_refl _) (fun h=>by simp at h) trivial ?_
 rintro q H2 ⟨s2,ORD2,m1b,rfl,hB2,up2,k1,k2,k3⟩ -
 rw[fB]
 have hS2:=hS1.sub up2
 have hB1':=hB1.sub up2
 have g32:=up2 _ _ g31
 simp only[go_sem,rE,rA,rL,g32]
 have own0:=hS0.own
 have nsh3:¬sy F m2 b3:=by
  rintro(h|h)
  ·exact n3 (.inr (.inr (.inl h)))
  ·exact n3 (.inr (.inr (.inr (.inr (.inr h)))))
 have prv:∀b,(b=s\/b=m1\/co ORD b\/co NIL b)->H0.get b≠none/\¬sy F m2 b:=by
  rintro b (rfl|rfl|h|h)
  ·exact⟨hS0.mem (.inl rfl),own0.1⟩
  ·exact⟨hS0.mem (.inr (.inl rfl)),own0.2.1⟩
  ·exact⟨hS0.mem (.inr (.inr (.inr (.inl h)))),own0.2.2.1 b h⟩
  ·obtain⟨_,_,_,_,e⟩:=h;simp at e
 have up02:∀b,H0.get b≠none->H2.get b=H0.get b:=fun b hb=>by
  obtain⟨o,ho⟩:=aH.1 hb
  rw[ho,up2 _ _ (up1 _ _ ho)]
 have prv2:∀b,(b=s2\/b=m1b\/co ORD2 b\/co NIL b)->H1.get b=none/\H2.get b≠none:=by
  rintro b (rfl|rfl|h|h)
  ·exact⟨k1,hB2.mem (.inl rfl)⟩
  ·exact⟨k2,hB2.mem (.inr (.inl rfl))⟩
  ·exact⟨k3 b h,hB2.mem (.inr (.inr (.inr (.inl h))))⟩
  ·obtain⟨_,_,_,_,e⟩:=h;simp at e
 have not1:∀b,H0.get b≠none->¬sy F m2 b->¬du F s1 ORD1 NIL m1a m2 b:=fun b hb hs=>po f1 f2 f3 hb hs
 have not12:∀b,H1.get b=none->¬du F s1 ORD1 NIL m1a m2 b:=fun b hb h=>hB1.mem h hb
 refine cZ (ht s1) hB1' (by simp only[go_sem,rE,aS,bD]) (.refl _) (fun h=>by simp at h) trivial ?_
 rintro q v1 ORDa HELDa H3 fp ⟨rfl,rfl⟩ hA hfr -
 have keepS:∀b,H0.get b≠none->¬sy F m2 b->H3.get b=H0.get b:=fun b hb hs=>by
  obtain⟨o,ho⟩:=aH.1 hb
  rw[ho,(hfr b o (by rw[up02 b hb,ho]) (not1 b hb hs)).1]
 have hSa:=hS0.share hA fun b hb=>keepS b (prv b hb).1 (prv b hb).2
 have keep2:∀b,H1.get b=none->H2.get b≠none->H3.get b=H2.get b:=fun b hb hb2=>by
  obtain⟨o,ho⟩:=aH.1 hb2
  rw[ho,(hfr b o ho (not12 b hb)).1]
 have hB2a:=hB2.share hA fun b hb=>keep2 b (prv2 b hb).1 (prv2 b hb).2
 have g33:H3.get b3=_:=(keepS b3 (by rw[g3];simp) nsh3).trans g3
 by_cases hz:(v.stmts t).2=0
 ·rw[hz,dv]
  simp only[go_sem,rE,rA,rL,g33]
  refine cZ (hl hz s2) hB2a (by simp only[go_sem,rE,aS,bD]) (.refl _) (fun h=>by simp at h) trivial ?_
  rintro q v2 ORDb HELDb H4 fp2 ⟨rfl,rfl⟩ hB hfr2 -
  have h01:∀b,H0.get b≠none->H1.get b≠none:=fun b hb=>by
   obtain⟨o,ho⟩:=aH.1 hb
   rw[up1 _ _ ho];simp
  have keepT:∀b,H1.get b≠none->H3.get b≠none->¬sy F m2 b->H4.get b=H3.get b:=fun b hb hb3 hs=>by
   obtain⟨o,ho⟩:=aH.1 hb3
   rw[ho,(hfr2 b o ho (po k1 k2 k3 hb hs)).1]
  have hSb:=hSa.share hB fun b hb=>keepT b (h01 b (prv b hb).1) (by rw[keepS b (prv b hb).1 (prv b hb).2];exact(prv b hb).1) (prv b hb).2
  have o1:H4.get s1=some (ScO (v.stmts t).1.p ORDa HELDa m1a m2 (v.stmts t).1.lost):=(keepT s1 (hB1.mem (.inl rfl)) (by rw[hA.obj];simp[ScO]) hA.own.1).trans hA.obj
  have o2:H4.get m1a=some (.map (cW (v.stmts t).1.vars)):=(keepT m1a (hB1.mem (.inr (.inl rfl))) (by rw[hA.names];simp) hA.own.2.1).trans hA.names
  by_cases hz2:(({v with given:=(v.stmts t).1.given}:Sc).stmts l).2=0
  ·have hx:v.ways t l=({v with vars:=gu v.vars (v.vars.map (·.name)) [(v.stmts t).1.vars,(({v with given:=(v.stmts t).1.given}:Sc).stmts l).1.vars],given:=(({v with given:=(v.stmts t).1.given}:Sc).stmts l).1.given},0):=by
    unfold Sc.ways mD;rw[if_pos hz,if_pos hz2]
   rw[hx,hz2,dv]
   generalize hb2:(({v with given:=(v.stmts t).1.given}:Sc).stmts l)=B2 at*
   generalize ha2:v.stmts t=A2 at*
   simp only[go_sem,rE,rA,rL,az,aq,ay,cB,aU,bR,gO,iE,aD,if_true,cH,di,bx]
   intro bt hbt
   have kt:∀c o,H4.get c=some o->(H4.set bt (.tail (2*1) (2*1))).get c=some o:=fun c o hc=>by rw[ae _ _ (al hc hbt)];exact hc
   have hch:bh 1 2 [AC.ptr s1 0,AC.ptr s2 0]=[[.ptr s1 0],[.ptr s2 0]]:=by simp[bh]
   rw[hch]
   have n1:¬du F s ORD NIL m1 m2 s1:=fun h=>hS0.mem h f1
   have n2:¬du F s ORD NIL m1 m2 m1a:=fun h=>hS0.mem h f2
   have n3':¬du F s ORD NIL m1 m2 s2:=fun h=>hS1.mem h k1
   have n4:¬du F s ORD NIL m1 m2 m1b:=fun h=>hS1.mem h k2
   have hj:=c_kjoin (er:=er) L s {v with given:=B2.1.given} hv.len [(s1,m1a,A2.1.vars),(s2,m1b,B2.1.vars)] (by simp) (H4.set bt (.tail (2*1) (2*1))) ORD NIL m1 m2 (hSb.sub kt) (by
    intro w hw
    rcases be.1 hw with rfl|hw
    ·exact⟨⟨_,kt _ _ o1,rfl⟩,kt _ _ o2,n1,n2⟩
    ·rw[cA.1 hw]
     exact⟨⟨_,kt _ _ hB.obj,rfl⟩,kt _ _ hB.names,n3',n4⟩)
   refine dq (hj.args (xs':=[.ptr s 0,.sl 1 (some (bt,2*1,2*1)) [[.ptr s1 0],[.ptr s2 0]]]) ⟨.refl _,.tok _ _ _,trivial⟩) rfl (aj.sub_refl _) (fun h=>by simp at h) trivial ?_
   rintro q H5 ⟨rfl,ORD5,HELD5,hS5,-⟩ -
   rw[fB]
   simp only[go_sem,rE,rA,rL]
   exact ak (.refl _) (aj.sub_refl _) ⟨_,ORD5,HELD5,⟨rfl,rfl⟩,hS5⟩
  ·have hx:v.ways t l=({v with given:=(({v with given:=(v.stmts t).1.given}:Sc).stmts l).1.given},(({v with given:=(v.stmts t).1.given}:Sc).stmts l).2):=by
    unfold Sc.ways mD;rw[if_pos hz,if_neg hz2]
   rw[hx,cn er hz2]
   simp only[go_sem,rE,rA,rL]
   exact ak (.refl _) (aj.sub_refl _) ⟨_,ORD,NIL,⟨rfl,rfl⟩,hSb⟩
 ·have hx:v.ways t l=({v with given:=(v.stmts t).1.given},(v.stmts t).2):=by
   unfold Sc.ways mD;rw[if_neg hz]
  rw[hx,cn er hz]
  simp only[go_sem,rE,rA,rL]
  exact ak (.refl _) (aj.sub_refl _) ⟨_,ORD,NIL,⟨rfl,rfl⟩,hSa⟩
end
section
variable {P:Program}{F:Ids}{er:bZ}
noncomputable def Sc.choice(v:Sc)(e:Ex)(t l:List St):Sc×Int:=if(v.number e).2=0 then(v.number e).1.ways t l else v.number e
theorem zN(L:Lib P F)(T:Tys F)(hC:eF P F er)(s:Nat)(e:Ex)(t l:List St)(he:e.okD 4=true)(v:Sc)(hv:v.good)
(hw:(v.number e).2=0->ScC P F er 139 [.ptr s 0,.agg (e.enc++[.sl 15 none (St.encs t),.sl 15 none (St.encs l)])] s (v.number e).1 fun q v'=>q=er.ac ((v.number e).1.ways t l).2/\v'=((v.number e).1.ways t l).1):
 ScC P F er 102 [.ptr s 0,.agg (e.enc++[.sl 15 none (St.encs t),.sl 15 none (St.encs l)])] s v fun q v'=>q=er.ac (v.choice e t l).2/\v'=(v.choice e t l).1:=by
 intro H ORD HELD m1 m2 hE
 refine(L.a Tryz.func102 y102) (by simp[y102]) ?_
 have hn:=tt (er:=er) L T hC s 4 (by omega) e he v hv
 rw[Ex.enc_eq]at hn hw⊢
 simp only[cH,di]at hw
 simp only[y102,go_sem,rE,rA,rL,cH,di]
 intro b3 hb3
 have hS3:=hE.new hb3 (.cells [I e.kind,I e.num,S e.place.name,au e.place.path,.sl 5 none (Ex.encs e.kids),.sl 15 none (St.encs t),.sl 15 none (St.encs l)])
 have n3:=hE.notin hb3
 have g3:(H.set b3 (.cells [I e.kind,I e.num,S e.place.name,au e.place.path,.sl 5 none (Ex.encs e.kids),.sl 15 none (St.encs t),.sl 15 none (St.encs l)])).get b3=some (.cells [I e.kind,I e.num,S e.place.name,au e.place.path,.sl 5 none (Ex.encs e.kids),.sl 15 none (St.encs t),.sl 15 none (St.encs l)]):=ai _ _ _
 clear hE hb3
 generalize H.set b3 _=H1 at*
 refine cZ hn hS3 rfl (.refl _) (fun h=>by simp at h) trivial ?_
 rintro q v1 ORD1 HELD1 H2 fp ⟨rfl,rfl⟩ hS2 hfr -
 have k3:=hfr b3 _ g3 n3
 by_cases hz:(v.number e).2=0
 ·have hx:v.choice e t l=(v.number e).1.ways t l:=by unfold Sc.choice;rw[if_pos hz]
  rw[hx,hz,dv]
  simp only[go_sem,rE,rA,rL,k3.1]
  refine cZ (hw hz) hS2 (by simp only[go_sem,rE,aS,bD]) (.refl _) (fun h=>by simp at h) trivial ?_
  rintro q v2 ORD2 HELD2 H4 fp2 ⟨rfl,rfl⟩ hS4 - -
  simp only[go_sem,rE,rA,rL]
  exact ak (.refl _) (aj.sub_refl _) ⟨_,ORD2,HELD2,⟨rfl,rfl⟩,hS4⟩
 ·have hx:v.choice e t l=v.number e:=by unfold Sc.choice;rw[if_neg hz]
  rw[hx,cn er hz]
  simp only[go_sem,rE,rA,rL,k3.1]
  exact ak (.refl _) (aj.sub_refl _) ⟨_,ORD1,HELD1,⟨rfl,rfl⟩,hS2⟩
theorem c_kstmt(L:Lib P F)(T:Tys F)(hC:eF P F er)(s:Nat)(x:St)(Bd:List St->Bool)(hx:StW Bd x)(v:Sc)(hv:v.good)(hh:v.held=[])(hp:v.p.length<=2^30)
(hc:x.kind=5->ScC P F er 102 [.ptr s 0,.agg (x.expr.enc++[.sl 15 none (St.encs x.thn),.sl 15 none (St.encs x.els)])] s v fun q v'=>q=er.ac (v.choice x.expr x.thn x.els).2/\v'=(v.choice x.expr x.thn x.els).1):
 ScC P F er 73 [.ptr s 0,.agg x.enc] s v fun q v'=>q=er.ac (v.stmt x).2/\v'=(v.stmt x).1:=by
 intro H ORD HELD m1 m2 hE
 refine(L.a Tryz.func73 y73) (by simp[y73]) ?_
 have hso:=vG L x
 rw[Sc.stmt_eq]
 rw[St.enc_eq]at hso⊢
 simp only[y73,go_sem,rE,rA,rL]
 intro b3 hb3
 have hS3:=hE.new hb3 (.cells x.enc)
 rw[St.enc_eq]at hS3
 refine ao hso rfl ?_
 clear hso hE hb3
 generalize H.set b3 _=H1 at*
 rcases hx with⟨k,r,n,e⟩|⟨k,r,n,p⟩|⟨k,r,p,e⟩|⟨k,r,n,f,a⟩|⟨k,r,e,t,l⟩|⟨k,r,n,p,o,e⟩
 ·rw[yf k,r]
  have he:=pk (er:=er) L T hC s 4 (by omega) x.expr e v hv
  have hty:=jb x.expr hv
  have hg:=Sc.expr_good hv x.expr
  rw[Ex.enc_eq]at he
  simp only[k,bw,if_true,if_false]
  simp only[go_sem,rE,rA,rL,if_true,a7,aC]
  intro b5 hb5
  have hS5:=hS3.new hb5 (.cells [S x.name,I x.expr.kind,I x.expr.num,S x.expr.place.name,au x.expr.place.path,.sl 5 none (Ex.encs x.expr.kids)])
  have n5:=hS3.notin hb5
  refine cZ he hS5 rfl (.refl _) (fun h=>by simp at h) trivial ?_
  rintro q v1 ORD1 HELD1 H2 fp ⟨rfl,rfl⟩ hS2 hfr -
  have k5:=hfr b5 _ (ai _ _ _) n5
  simp only[iw,Ty.enc_eq]
  generalize v.expr x.expr=w at*
  simp only[go_sem,rE,rA,rL,a7,aC]
  intro b6 hb6
  have d56:=al k5.1 hb6
  have hS6:=hS2.new hb6 (.cells [.sl 1 none (Ty.encs w.2.1.kids)])
  by_cases hz:w.2.2=0
  ·rw[if_pos hz,hz,dv]
   simp only[go_sem,rE,rA,rL,k5.1,d56]
   refine cZ (nK L s w.1 hg.ok ⟨x.name,false,false,w.2.1,[],false⟩ rfl (by simp) hg.len) hS6 rfl ?_ (fun h=>by simp at h) trivial ?_
   ·exact⟨.refl _,.refl _,.agg ⟨⟨.refl _,rfl⟩,⟨.refl _,rfl⟩,⟨.refl _,rfl⟩,⟨.refl _,rfl⟩,⟨.refl _,rfl⟩,⟨.nil 2,rfl⟩,trivial⟩,trivial⟩
   rintro q v2 ORD2 HELD2 H4 fp2 ⟨rfl,rfl⟩ hS4 - -
   simp only[go_sem,rE,rA,rL]
   exact ak (.refl _) (aj.sub_refl _) ⟨_,ORD2,HELD2,⟨rfl,rfl⟩,hS4⟩
  ·rw[if_neg hz,cn er hz]
   simp only[go_sem,rE,rA,rL,k5.1,d56]
   exact ak (.refl _) (aj.sub_refl _) ⟨_,ORD1,HELD1,⟨rfl,rfl⟩,hS6⟩
 ·rw[ye k,r]
  have hu:=oE L hC s v x.place hv (jN p)
  have hty:=ji hv x.place
  have hg:=lw hv x.place
  rw[Pl.enc]at hu
  simp only[k,bw,if_true,if_false]
  simp only[go_sem,rE,rA,rL,if_true,a7,aC,T.s12]
  intro b8 hb8
  have hS8:=hS3.new hb8 (.cells [S x.name,S x.place.name,au x.place.path])
  have n8:=hS3.notin hb8
  refine cZ hu hS8 rfl (.refl _) (fun h=>by simp at h) trivial ?_
  rintro q v1 ORD1 HELD1 H2 fp ⟨rfl,rfl⟩ hS2 hfr -
  have k8:=hfr b8 _ (ai _ _ _) n8
  simp only[iw,Ty.enc_eq]
  generalize v.use x.place=w at*
  simp only[go_sem,rE,rA,rL,a7,aC]
  intro b9 hb9
  have d89:=al k8.1 hb9
  have hS9:=hS2.new hb9 (.cells [.sl 1 none (Ty.encs w.2.1.kids)])
  by_cases hz:w.2.2=0
  ·rw[if_pos hz,hz,dv]
   simp only[go_sem,rE,rA,rL,k8.1,d89,az,aq,ay,cB,aU,bR,gO,iE,aD,if_true,cH,di,bx]
   intro bt hbt
   have hch:bh 2 1 [S x.place.name,au x.place.path]=[x.place.enc]:=by simp[bh,Pl.enc]
   rw[hch]
   refine cZ (nK L s w.1 hg.ok ⟨x.name,true,false,w.2.1,[x.place],false⟩ rfl (by simp) hg.len) (hS9.new hbt _) rfl ?_ (fun h=>by simp at h) trivial ?_
   ·exact⟨.refl _,.refl _,.agg ⟨⟨.refl _,rfl⟩,⟨.refl _,rfl⟩,⟨.refl _,rfl⟩,⟨.refl _,rfl⟩,⟨.refl _,rfl⟩,⟨.tok _ _ _,rfl⟩,trivial⟩,trivial⟩
   rintro q v2 ORD2 HELD2 H4 fp2 ⟨rfl,rfl⟩ hS4 - -
   simp only[go_sem,rE,rA,rL]
   exact ak (.refl _) (aj.sub_refl _) ⟨_,ORD2,HELD2,⟨rfl,rfl⟩,hS4⟩
  ·rw[if_neg hz,cn er hz]
   simp only[go_sem,rE,rA,rL,k8.1,d89]
   exact ak (.refl _) (aj.sub_refl _) ⟨_,ORD1,HELD1,⟨rfl,rfl⟩,hS9⟩
 ·rw[yd k,r]
  have he:=pk (er:=er) L T hC s 4 (by omega) x.expr e v hv
  have hty:=jb x.expr hv
  have hg:=Sc.expr_good hv x.expr
  have hu:=oE L hC s (v.expr x.expr).1 x.place hg (jN p)
  rw[Ex.enc_eq]at he
  rw[Pl.enc]at hu
  simp only[k,bw,if_true,if_false]
  simp only[go_sem,rE,rA,rL,if_true,a7,aC,T.s13,T.s23]
  intro b11 hb11
  have hS11:=hS3.new hb11 (.cells [S x.place.name,au x.place.path,I x.expr.kind,I x.expr.num,S x.expr.place.name,au x.expr.place.path,.sl 5 none (Ex.encs x.expr.kids)])
  have n11:=hS3.notin hb11
  refine cZ he hS11 rfl (.refl _) (fun h=>by simp at h) trivial ?_
  rintro q v1 ORD1 HELD1 H2 fp ⟨rfl,rfl⟩ hS2 hfr -
  have k11:=hfr b11 _ (ai _ _ _) n11
  simp only[iw,Ty.enc_eq]
  generalize v.expr x.expr=w at*
  simp only[go_sem,rE,rA,rL,a7,aC]
  intro b12 hb12
  have d1112:=al k11.1 hb12
  have hS12:=hS2.new hb12 (.cells [.sl 1 none (Ty.encs w.2.1.kids)])
  have n12:=hS2.notin hb12
  by_cases hz:w.2.2=0
  ·rw[if_pos hz,hz,dv]
   simp only[go_sem,rE,rA,rL,k11.1,d1112]
   refine cZ hu hS12 rfl (.refl _) (fun h=>by simp at h) trivial ?_
   rintro q v2 ORD2 HELD2 H4 fp2 ⟨rfl,rfl⟩ hS4 hfr2 -
   have k12:=hfr2 b12 _ (ai _ _ _) n12
   have hsm:=me L 4 w.2.1 (w.1.use x.place).2.1 hty
   rw[Ty.enc_eq,Ty.enc_eq]at hsm
   simp only[iw,Ty.enc_eq]
   generalize w.1.use x.place=u at*
   simp only[go_sem,rE,rA,rL,a7,aC]
   intro b14 hb14
   have d1214:=al k12.1 hb14
   have hS14:=hS4.new hb14 (.cells [.sl 1 none (Ty.encs u.2.1.kids)])
   by_cases hz2:u.2.2=0
   ·rw[if_pos hz2,hz2,dv]
    simp only[go_sem,rE,rA,rL,k12.1,d1214]
    refine ao hsm rfl ?_
    cases hq:eqB w.2.1 u.2.1
    ·simp only[go_sem,rE,rA,rL,hS4.e3,al hS4.e3 hb14,av,if_false]
     exact ak (.refl _) (aj.sub_refl _) ⟨_,ORD2,HELD2,⟨by rw[cn er (by decide)];rfl,rfl⟩,hS14⟩
    ·simp only[go_sem,rE,rA,rL,if_true]
     exact ak (.refl _) (aj.sub_refl _) ⟨_,ORD2,HELD2,⟨rfl,rfl⟩,hS14⟩
   ·rw[if_neg hz2,cn er hz2]
    simp only[go_sem,rE,rA,rL,k12.1,d1214]
    exact ak (.refl _) (aj.sub_refl _) ⟨_,ORD2,HELD2,⟨rfl,rfl⟩,hS14⟩
  ·rw[if_neg hz,cn er hz]
   simp only[go_sem,rE,rA,rL,k11.1,d1112]
   exact ak (.refl _) (aj.sub_refl _) ⟨_,ORD1,HELD1,⟨rfl,rfl⟩,hS12⟩
 ·rw[yc k,r]
  obtain⟨a1,a2⟩:=oG a
  have hk:=c_kcall (er:=er) L T hC s x.name x.fn x.args a1 v hv (by rw[hh];simp;omega) hp (by omega)
  simp only[k,bw,if_true,if_false]
  simp only[go_sem,rE,rA,rL,if_true,a7,aC,T.s14,T.s24,T.s34]
  intro b15 hb15
  refine cZ hk (hS3.new hb15 _) rfl (.refl _) (fun h=>by simp at h) trivial ?_
  rintro q v2 ORD2 HELD2 H4 fp2 ⟨rfl,rfl⟩ hS4 - -
  simp only[go_sem,rE,rA,rL]
  exact ak (.refl _) (aj.sub_refl _) ⟨_,ORD2,HELD2,⟨rfl,rfl⟩,hS4⟩
 ·rw[xZ k,r]
  have hk:=hc k
  rw[Ex.enc_eq]at hk
  simp only[cH,di]at hk
  simp only[k,bw,if_true,if_false]
  rw[show(if(v.number x.expr).2=0 then(v.number x.expr).1.ways x.thn x.els else v.number x.expr)=v.choice x.expr x.thn x.els from rfl]
  simp only[go_sem,rE,rA,rL,if_true,a7,aC,T.s15,T.s25,T.s35,T.s45]
  intro b16 hb16
  refine cZ hk (hS3.new hb16 _) rfl (.refl _) (fun h=>by simp at h) trivial ?_
  rintro q v2 ORD2 HELD2 H4 fp2 ⟨rfl,rfl⟩ hS4 - -
  simp only[go_sem,rE,rA,rL]
  exact ak (.refl _) (aj.sub_refl _) ⟨_,ORD2,HELD2,⟨rfl,rfl⟩,hS4⟩
 ·rw[xY k,r]
  have hk:=c_kpick (er:=er) L T hC s x.name x.place x.other x.expr (jN p) (jN o) 4 (by omega) e v hv
  rw[Ex.enc_eq]at hk
  simp only[Pl.enc,cH,di]at hk
  simp only[k,bw,if_true,if_false]
  simp only[go_sem,rE,rA,rL,if_true,a7,aC,T.s16,T.s26,T.s36,T.s46,T.s56]
  intro b17 hb17
  refine cZ hk (hS3.new hb17 _) rfl (.refl _) (fun h=>by simp at h) trivial ?_
  rintro q v2 ORD2 HELD2 H4 fp2 ⟨rfl,rfl⟩ hS4 - -
  simp only[go_sem,rE,rA,rL]
  exact ak (.refl _) (aj.sub_refl _) ⟨_,ORD2,HELD2,⟨rfl,rfl⟩,hS4⟩
end
section
variable {P:Program}{F:Ids}{er:bZ}
theorem sV{d:Nat}{s:St}(hs:dh (cd d) s=true){v:Sc}(hv:v.good)(hh:v.held=[])(hl:v.lost=false)(hp:∀f∈v.p,f.type.okB=true)(hn:v.vars.length+100*(d+1)<=2^30)(hz:(v.stmt s).2=0):v.step (v.stmt s).1 1:=by
 have:=fE (d+1) [s] (by simp[cd,hs]) v hv hh hl hp hn (by rw[dP,if_pos hz,eM])
 rw[dP,if_pos hz,eM]at this
 exact this
theorem vM(L:Lib P F)(T:Tys F)(hC:eF P F er):∀(d:Nat) (l:List St),cd d l=true->∀v:Sc,v.good->v.held=[]->v.lost=false->(∀f∈v.p,f.type.okB=true)->v.p.length<=2^30->v.vars.length+200*d<=2^30->∀s:Nat,
 ScC P F er 50 [.ptr s 0,.sl 15 none (St.encs l)] s v fun q v'=>q=er.ac (v.stmts l).2/\v'=(v.stmts l).1:=by
 intro d
 induction d with
 |zero=>intro l h;simp[cd]at h
 |succ d ih=>
  intro l hl v hv hh hlo hp hpl hn s H ORD HELD m1 m2 hE
  simp only[cd,a6,decide_eq_true_eq,aV]at hl
  obtain⟨hl40,hls⟩:=hl
  refine(L.a Tryz.func50 y50) (by simp[y50]) ?_
  simp only[y50,go_sem,rE,rA,rL,St.encs_map,am]
  refine aQ l.length (fun k E' H'=>E' 0=.ptr s 0/\E' 8=.sl 15 none (l.map St.enc)/\E' 9=I l.length/\E' 10=I k/\
   ∃w ORD' HELD',cF F er H' s w ORD' HELD' m1 m2/\v.stmts l=w.stmts (l.drop k)/\v.step w k)
   ⟨rfl,by simp only[go_sem,rE,St.encs_map],by simp only[go_sem,rE,St.encs_map,am],rfl,v,ORD,HELD,hE,rfl,.refl hv hh⟩ ?_
  rintro k E' H' hk ⟨q0,q8,q9,q10,w,ORD',HELD',hS,hgv,hst⟩
  simp only[go_sem,rE,rA,rL,q9,q10]
  refine aE (fun hlt=>?_) (fun hge=>?_)
  ·have hk1:k<l.length:=by omega
   have w1:=aJ (n:=(k:Int)+1) (by omega) (by omega)
   have hga:(l.map St.enc)[k]?=some l[k].enc:=by simp[hk1]
   have hgo:=hst.hi
   have hsk:=hls l[k] (ax hk1)
   have hwp:∀f∈w.p,f.type.okB=true:=by rw[hst.p];exact hp
   rw[cj hk1,dP]at hgv
   have hks:=c_kstmt (er:=er) L T hC s l[k] (cd d) (stW hsk) w hst.good hst.held (by rw[hst.p];exact hpl) (fun k5=>by
    rcases stW hsk with⟨k',-⟩|⟨k',-⟩|⟨k',-⟩|⟨k',-⟩|⟨-,r,e,t,l'⟩|⟨k',-⟩
    ·rw[k5]at k';simp at k'
    ·rw[k5]at k';simp at k'
    ·rw[k5]at k';simp at k'
    ·rw[k5]at k';simp at k'
    ·refine zN L T hC s l[k].expr l[k].thn l[k].els e w hst.good fun hz=>?_
     have se:=jv hst.good hst.held l[k].expr
     rw[<-ee]at se
     have hhi:=se.hi
     have hnp:∀f∈(w.number l[k].expr).1.p,f.type.okB=true:=by rw[se.p];exact hwp
     have hnl:(w.number l[k].expr).1.p.length<=2^30:=by rw[se.p,hst.p];exact hpl
     have hlw:(w.number l[k].expr).1.lost=false:=by rw[se.lost,hst.lost];exact hlo
     refine c_kways L s l[k].expr l[k].thn l[k].els _ se.good se.held (fun s'=>ih l[k].thn t _ se.good se.held hlw hnp hnl (by omega) s') (fun hz1 s'=>?_)
     have s1:=fE d l[k].thn t _ se.good se.held hlw hnp (by omega) hz1
     obtain⟨g,hg⟩:=s1.giv
     refine ih l[k].els l' {(w.number l[k].expr).1 with given:=((w.number l[k].expr).1.stmts l[k].thn).1.given} ?_ se.held hlw hnp hnl (by show(w.number l[k].expr).1.vars.length+_<=_;omega) s'
     rw[hg]
     exact⟨fun y hy=>by simp only[fj,se.good.ok y hy,dY],se.good.nd,se.good.len,se.good.hl,se.good.hp,se.good.lp,se.good.ll,se.good.ty⟩
    ·rw[k5]at k';simp at k')
   rw[St.enc_eq]at hga hks
   simp only[go_sem,rE,rA,rL,q0,q8,q10,hga]
   intro b6 hb6
   refine cZ hks (hS.new hb6 _) (by simp only[go_sem,rE,aS,bD,q0]) (.refl _) (fun h=>by simp at h) trivial ?_
   rintro q w2 ORD2 HELD2 H4 fp2 ⟨rfl,rfl⟩ hS4 - -
   by_cases hz:(w.stmt l[k]).2=0
   ·rw[if_pos hz]at hgv
    rw[hz,dv]
    have s1:=sV hsk hst.good hst.held (by rw[hst.lost];exact hlo) hwp (by omega) hz
    simp only[go_sem,rE,rA,rL,q0,q10,w1]
    exact⟨hk1,H4,aj.sub_refl _,q8,q9,rfl,_,ORD2,HELD2,hS4,hgv,hst.trans s1⟩
   ·rw[if_neg hz]at hgv
    rw[cn er hz]
    simp only[go_sem,rE,rA,rL,q0,q10,w1]
    refine ak (.refl _) (aj.sub_refl _) ⟨_,ORD2,HELD2,⟨?_,rfl⟩,?_⟩
    ·rw[hgv,cn er hz];rfl
    ·rw[hgv];exact hS4
  ·have hkk:k=l.length:=by omega
   subst hkk
   rw[kY,eM]at hgv
   simp only[go_sem,rE,rA,rL]
   exact ak (.refl _) (aj.sub_refl _) ⟨_,ORD',HELD',⟨by rw[hgv];rfl,rfl⟩,by rw[hgv];exact hS⟩
end
def bi(p:List Fu):Sc:=⟨p,[],[],[],false⟩
theorem fT(p:List Fu):(bi p).good:=⟨fun y hy=>by simp[bi]at hy,by simp[bi],by simp[bi],by simp[bi],by simp[bi],by simp[bi],by simp[bi],by simp[bi]⟩
theorem ix:∀(ps:List Pa) {v:Sc},v.good->v.held=[]->(∀p∈ps,p.okB=true)->v.vars.length+ps.length<=2^30->(cK v ps).2=0->v.step (cK v ps).1 ps.length
 |[],v,h,hh,_,_,_=>.refl h hh
 |p::ps,v,h,hh,hp,hn,hz=>by
  simp only[aU]at hn
  rw[cK]at hz⊢
  split at hz
  ·rename_i h0
   rw[if_pos h0]
   have hpt:p.type.okB=true:=by
    have:=hp p eO
    simp only[Pa.okB,a6]at this
    exact this.2
   have s1:=kM h hh (x:=p.vr) hpt (by simp[Pa.vr]) (by simp[Pa.vr]) (by omega) h0
   have:=s1.hi
   exact(s1.trans (ix ps s1.good s1.held (fun q hq=>hp q (dV _ hq)) (by omega) hz)).mono (by simp;omega)
  ·rename_i h0;exact absurd hz h0
noncomputable def jr(p:List Fu)(f:Fu):Int:=
 if(p.find? fun g=>eqB g.name f.name).isSome then 2
 else if(cK (bi p) f.params).2=0 then
  if((cK (bi p) f.params).1.stmts f.body).2=0 then sB (pM ((cK (bi p) f.params).1.stmts f.body).1 f) f
  else((cK (bi p) f.params).1.stmts f.body).2
 else(cK (bi p) f.params).2
structure FuW(f:Fu):Prop where
 name:bB f.name=true
 plen:f.params.length<=4
 type:f.type.okB=true
 body:cd 4 f.body=true
 num:bU f.body<=40
 params:∀p∈f.params,p.okB=true
 says:f.lent=false->f.says.okD 4=true
 gives:f.lent=true->f.gives.okB=true
theorem fuW{f:Fu}(h:f.okB=true):FuW f:=by
 simp only[Fu.okB,a6,decide_eq_true_eq,aV]at h
 obtain⟨h1,h2,h3,h4,h5,h6,h7⟩:=h
 refine⟨h1,h2,h3,h4,h5,h6,fun hl=>?_,fun hl=>?_⟩
 ·rw[hl]at h7;simp only[av,if_false,a6]at h7;exact h7.2
 ·rw[hl]at h7;simp only[if_true,a6]at h7;exact h7.1
theorem fk{p:Pg}(h:fg p=true):p.length<=5/\∀f∈p,FuW f:=by
 simp only[fg,a6,decide_eq_true_eq,aV]at h
 exact⟨h.1,fun f hf=>fuW (h.2 f hf)⟩
section
variable {P:Program}{F:Ids}{er:bZ}
def pT(F:Ids)(H Hk:aj)(s:Nat)(ORD HELD:AC)(m1 m2:Nat):Prop:=
 ∀b o,H.get b=some o->(∀c,(c=2\/c=3\/c=4\/c=5)->b≠F.err c)->Hk.get b=some o/\¬du F s ORD HELD m1 m2 b
theorem pT.step{H Hk H':aj}{s m1 m2:Nat}{ORD HELD ORD' HELD':AC}(h:pT F H Hk s ORD HELD m1 m2)(hf:∀b o,Hk.get b=some o->¬du F s ORD HELD m1 m2 b->H'.get b=some o/\¬du F s ORD' HELD' m1 m2 b):
 pT F H H' s ORD' HELD' m1 m2:=fun b o hb hn=>hf b o (h b o hb hn).1 (h b o hb hn).2
theorem pT.sub{H Hk:aj}{s m1 m2:Nat}{v:Sc}{ORD HELD:AC}(h:pT F H Hk s ORD HELD m1 m2)(he:eW F er H)(hS:cF F er Hk s v ORD HELD m1 m2):H.sub Hk:=fun b o hb=>by
 rcases Classical.em (∃c,(c=2\/c=3\/c=4\/c=5)/\b=F.err c)with⟨c,hc,rfl⟩|hn
 ·rw[he c hc]at hb;rw[<-hb];exact hS.errs c hc
 ·exact(h b o hb fun c hc e=>hn ⟨c,hc,e⟩).1
theorem pT.begin{H Hk:aj}{s m1 m2:Nat}(hk:∀c o,H.get c=some o->Hk.get c=some o)(h1:H.get s=none)(h2:H.get m1=none)(h3:H.get m2=none):pT F H Hk s NIL NIL m1 m2:=fun b o hb hn=>by
 refine⟨hk b o hb,?_⟩
 rintro(rfl|rfl|rfl|h|h|⟨c,hc,e⟩)
 ·rw[h1]at hb;simp at hb
 ·rw[h2]at hb;simp at hb
 ·rw[h3]at hb;simp at hb
 ·obtain⟨_,_,_,_,e⟩:=h;simp at e
 ·obtain⟨_,_,_,_,e⟩:=h;simp at e
 ·exact hn c hc e
theorem c_kFn(L:Lib P F)(T:Tys F)(hC:eF P F er)(p:Pg)(hp:fg p=true)(i:Nat)(hi:i<p.length)(H:aj)(he:eW F er H):
 bz P 77 [.agg (Pg.enc p),I i] H fun q H'=>q=er.ac (jr (p.take i) p[i])/\H'=H:=by
 obtain⟨hpl,hpf⟩:=fk hp
 have W:=hpf p[i] (ax hi)
 have hti:∀f∈p.take i,f.type.okB=true:=fun f hf=>(hpf f (bC hf)).type
 refine(L.a Tryz.func77 y77) (by simp[y77]) ?_
 have hga:(p.map Fu.enc)[i]?=some p[i].enc:=by simp[hi]
 simp only[y77,go_sem,rE,rA,rL,Pg.enc]
 intro b2 hb2
 rw[Fu.enc_eq]at hga
 simp only[go_sem,rE,rA,rL,hga]
 intro b5 hb5
 have d25:=al (ai _ _ _) hb5
 have hb5':H.get b5=none:=by rw[ae _ _ (Ne.symm d25)]at hb5;exact hb5
 have hsl:(0<=i/\i<=(p.map Fu.enc).length):=⟨fN _,by simp;omega⟩
 simp only[go_sem,rE,rA,rL,d25,if_pos hsl]
 rw[<-ip]
 have hpil:(p.take i).length<=2^30:=by rw[bp];omega
 generalize p[i]=f at*
 generalize p.take i=pi at*
 have k1:∀c o,H.get c=some o->((H.set b2 (.cells [.sl 12 none (p.map Fu.enc)])).set b5 (.cells f.enc)).get c=some o:=fun c o hc=>by
  rw[ae _ _ (al hc hb5'),ae _ _ (al hc hb2)];exact hc
 have he1:eW F er ((H.set b2 (.cells [.sl 12 none (p.map Fu.enc)])).set b5 (.cells f.enc)):=fun c hc=>k1 _ _ (he c hc)
 have g5:((H.set b2 (.cells [.sl 12 none (p.map Fu.enc)])).set b5 (.cells f.enc)).get b5=some (.cells f.enc):=ai _ _ _
 have e5:∀c,(c=2\/c=3\/c=4\/c=5)->b5≠F.err c:=fun c hc=>Ne.symm (al (he c hc) hb5')
 rw[<-Fu.enc_eq f]
 generalize((H.set b2 _).set b5 _)=H1 at*
 refine dq (vP (er:=er) L pi H1 he1) rfl (aj.sub_refl _) (fun h=>by simp at h) trivial ?_
 rintro q H2 ⟨s,m1,m2,rfl,hS,up,f1,f2,f3⟩ -
 rw[fB]
 have hR:pT F H1 H2 s NIL NIL m1 m2:=.begin up f1 f2 f3
 have g5':=hR b5 _ g5 e5
 have fe:=Fu.enc_eq f
 have g52:=g5'.1
 rw[fe]at g52
 simp only[go_sem,rE,rA,rL,g52]
 refine cZ (tu L s (bi pi) f.name hpil) hS (by simp only[go_sem,rE,aS,bD]) (.refl _) (fun h=>by simp at h) trivial ?_
 rintro q v1 ORD1 HELD1 H3 fp ⟨rfl,rfl⟩ hS3 hfr -
 have hR3:=hR.step hfr
 have fin:∀(Hk:aj) (w:Sc) (ORD HELD:AC),cF F er Hk s w ORD HELD m1 m2->pT F H1 Hk s ORD HELD m1 m2->H.sub Hk:=fun Hk w ORD HELD h1 h2 b o hb=>(h2.sub he1 h1) b o (k1 b o hb)
 have g53:=hR3 b5 _ g5 e5
 cases hf:pi.find? (fun g=>eqB g.name f.name)with
 |some g=>
  have hx:jr pi f=2:=by unfold jr;rw[hf];rfl
  rw[hx]
  simp only[md,show(bi pi).p=pi from rfl,hf,Fu.enc_eq]
  simp only[go_sem,oz,rE,rA,rL,a7,aC]
  intro b7 hb7
  simp only[go_sem,rE,rA,rL,hS3.e2,al hS3.e2 hb7]
  exact ak (.refl _) (fun b o hb=>by rw[ae _ _ (al (fin _ _ _ _ hS3 hR3 b o hb) hb7)];exact fin _ _ _ _ hS3 hR3 b o hb) ⟨by rw[cn er (by decide)];rfl,rfl⟩
 |none=>
  have hx:jr pi f=if(cK (bi pi) f.params).2=0 then
   if((cK (bi pi) f.params).1.stmts f.body).2=0 then sB (pM ((cK (bi pi) f.params).1.stmts f.body).1 f) f
   else((cK (bi pi) f.params).1.stmts f.body).2
   else(cK (bi pi) f.params).2:=by unfold jr;rw[hf];rfl
  simp only[md,show(bi pi).p=pi from rfl,hf]
  simp only[go_sem,oz,rE,rA,rL,a7,aC]
  intro b7 hb7
  have d57:=al g53.1 hb7
  have g53':=g53.1
  rw[fe]at g53'
  simp only[go_sem,rE,rA,rL,d57,g53']
  have hpk:=tr (er:=er) L s (bi pi) (fT pi).ok f (by have:=W.plen;simp[bi];omega)
  rw[fe]at hpk
  have hS7:=hS3.new hb7 (.cells [S .empty,NIL,B false,NIL,NIL,I 0,I 0,S .empty,NIL,NIL,S .empty,NIL])
  have hR7:pT F H1 (H3.set b7 (.cells [S .empty,NIL,B false,NIL,NIL,I 0,I 0,S .empty,NIL,NIL,S .empty,NIL])) s ORD1 HELD1 m1 m2:=fun b o hb hn=>⟨by rw[ae _ _ (al (hR3 b o hb hn).1 hb7)];exact(hR3 b o hb hn).1,(hR3 b o hb hn).2⟩
  refine cZ hpk hS7 (by simp only[go_sem,rE,aS,bD]) (.refl _) (fun h=>by simp at h) trivial ?_
  rintro q v2 ORD2 HELD2 H4 fp2 ⟨rfl,rfl⟩ hS4 hfr4 -
  have hR4:=hR7.step hfr4
  have g54:=(hR4 b5 _ g5 e5).1
  rw[fe]at g54
  by_cases hz1:(cK (bi pi) f.params).2=0
  ·rw[if_pos hz1]at hx
   rw[hz1,dv]
   simp only[go_sem,rE,rA,rL,g54]
   have st:=ix f.params (fT pi) rfl W.params (by have:=W.plen;simp[bi];omega) hz1
   have hhi:=st.hi
   have hpl4:=W.plen
   have h0:(bi pi).vars.length=0:=rfl
   refine cZ (vM (er:=er) L T hC 4 f.body W.body _ st.good st.held (by rw[st.lost];rfl) (by rw[st.p];exact hti) (by rw[st.p];exact hpil) (by omega) s) hS4 (by simp only[go_sem,rE,aS,bD]) (.refl _) (fun h=>by simp at h) trivial ?_
   rintro q v3 ORD3 HELD3 H5 fp3 ⟨rfl,rfl⟩ hS5 hfr5 -
   have hR5:=hR4.step hfr5
   have g55:=(hR5 b5 _ g5 e5).1
   rw[fe]at g55
   by_cases hz2:((cK (bi pi) f.params).1.stmts f.body).2=0
   ·rw[if_pos hz2]at hx
    rw[hz2,dv]
    simp only[go_sem,rE,rA,rL,g55]
    have st2:=fE 4 f.body W.body _ st.good st.held (by rw[st.lost];rfl) (by rw[st.p];exact hti) (by omega) hz2
    have hok:=c_kout (er:=er) L T hC s f (by
     cases hl:f.lent
     ·simp only[av,if_false];exact W.says hl
     ·simp only[if_true];exact jN (W.gives hl)) _ st2.good
    rw[fe]at hok
    refine cZ hok hS5 (by simp only[go_sem,rE,aS,bD]) (.refl _) (fun h=>by simp at h) trivial ?_
    rintro q v4 ORD4 HELD4 H6 fp4 ⟨rfl,rfl⟩ hS6 hfr6 -
    simp only[go_sem,rE,rA,rL]
    exact ak (.refl _) (fin _ _ _ _ hS6 (hR5.step hfr6)) ⟨by rw[hx];rfl,rfl⟩
   ·rw[if_neg hz2]at hx
    rw[cn er hz2]
    simp only[go_sem,rE,rA,rL,g55]
    exact ak (.refl _) (fin _ _ _ _ hS5 hR5) ⟨by rw[hx,cn er hz2];rfl,rfl⟩
  ·rw[if_neg hz1]at hx
   rw[cn er hz1]
   simp only[go_sem,rE,rA,rL,g54]
   exact ak (.refl _) (fin _ _ _ _ hS4 hR4) ⟨by rw[hx,cn er hz1];rfl,rfl⟩
end
theorem ma:∀(ps:List Pa) {e:En} {u:Sc},Rel e u []->u.held=[]->(∀p∈ps,p.okB=true)->
 ((cK u ps).2=0/\Rel (e.givens ps) (cK u ps).1 [])\/((cK u ps).2≠0/\(e.givens ps).code=(cK u ps).2)
 |[],e,u,h,_,_=>.inl ⟨rfl,h⟩
 |p::ps,e,u,h,hh,hp=>by
  have hpo:=hp p eO
  simp only[Pa.okB,a6]at hpo
  rw[cK,En.givens]
  have keep:∀(l:List Pa) {v:En},v.code≠0->(v.givens l).code=v.code:=by
   intro l
   induction l with
   |nil=>intro v _;rfl
   |cons q l ih=>
    intro v hv
    rw[En.givens]
    have h1:=eR hv q.vr
    rw[ih (by rw[h1];exact hv)];exact h1
  rcases pt h (x:=p.vr) (nF hpo.1) (by simp[Pa.vr]) hh with⟨a1,a2⟩|⟨a1,a2⟩
  ·rw[if_pos a1]
   have hheld:(eC u p.vr).1.held=[]:=by unfold eC;split<;>exact hh
   exact ma ps a2 hheld fun q hq=>hp q (dV _ hq)
  ·rw[if_neg a1]
   exact .inr ⟨a1,(keep ps (by rw[a2];exact a1)).trans a2⟩
theorem AM:∀(vs:List Vr),jU vs->∀i (h:i<vs.length),fi vs vs[i].name=(vs[i].lent&&(vs[i].param||vs[i].loans.all fun q=>fi vs q.name)):=by
 intro vs
 induction vs using mK with
 |nil=>intro _ i h;simp at h
 |snoc vs x ih=>
  intro hok i hi
  have ihv:=ih hok.front
  have hx:x.name∉vs.map (·.name):=by
   have:=hok.nd
   rw[bf,eD]at this
   intro hm
   exact this.2.2 _ hm x.name (by simp) rfl
  have jp:∀k (hk:k<(vs++[x]).length),∀q∈(vs++[x])[k].loans,q.name≠x.name:=fun k hk q hq e=>by
   obtain⟨j,hj,hn⟩:=hok.up k hk q hq
   simp at hk
   have hjl:j<vs.length:=by omega
   rw[aL hjl,aw hjl]at hn
   simp at hn
   exact hx (aY.2 ⟨vs[j],ax hjl,hn.trans e⟩)
  have out_ne:∀n,n≠x.name->fi (vs++[x]) n=fi vs n:=fun n hn=>by rw[j5,if_neg (fun h=>hn (cN.1 h))]
  have all_eq:∀k (hk:k<(vs++[x]).length),((vs++[x])[k].loans.all fun q=>fi (vs++[x]) q.name)=(vs++[x])[k].loans.all fun q=>fi vs q.name:=fun k hk=>by
   rw[bg,aV,aV]
   constructor
   ·intro h q hq;rw[<-out_ne _ (jp k hk q hq)];exact h q hq
   ·intro h q hq;rw[out_ne _ (jp k hk q hq)];exact h q hq
  rw[all_eq i hi]
  by_cases hlt:i<vs.length
  ·have e:(vs++[x])[i]=vs[i]:=dE hlt
   have hne:vs[i].name≠x.name:=fun e'=>hx (aY.2 ⟨vs[i],ax hlt,e'⟩)
   rw[e,out_ne _ hne]
   exact ihv i hlt
  ·have hil:i=vs.length:=by simp at hi;omega
   subst hil
   have e:(vs++[x])[vs.length]=x:=by simp
   rw[e,j5,if_pos (dH _)]
   cases x.param<;>cases x.lent<;>simp
theorem xV{vs:List Vr}{n:ByteArray}{i:Nat}(h:gq vs n=some i):∃hi:i<vs.length,vs[i].name=n:=by
 unfold gq at h
 obtain⟨hl,hn,-⟩:=cg.1 h
 exact⟨hl,by simpa using hn⟩
theorem sR{vs:List Vr}(hnd:(vs.map (·.name)).Nodup){j:Nat}(hj:j<vs.length){n:ByteArray}(hn:vs[j].name=n):gq vs n=some j:=by
 cases h:gq vs n with
 |none=>
  unfold gq at h
  rw[iS]at h
  have:=h _ (ax hj)
  simp[hn]at this
 |some i=>
  obtain⟨hi,e⟩:=xV h
  rw[rm hnd hi hj (e.trans hn.symm)]
theorem outN_eq{vs:List Vr}(hok:jU vs):∀(i n:Nat) (p:Pl),gq vs p.name=some i->i<n->nR vs n p=fi vs p.name:=by
 intro i
 induction i using lM with
 |_ i ih=>
  intro n p hp hn
  obtain⟨hi,hname⟩:=xV hp
  cases n with
  |zero=>omega
  |succ n=>
   rw[nR,hp]
   simp only[aw hi]
   rw[<-hname,AM vs hok i hi]
   congr 1
   congr 1
   rw[bg,aV,aV]
   have key:∀q∈vs[i].loans,nR vs n q=fi vs q.name:=fun q hq=>by
    obtain⟨j,hj,e⟩:=hok.up i hi q hq
    have hjl:j<vs.length:=by omega
    rw[aw hjl]at e
    simp at e
    exact ih j hj n q (sR hok.nd hjl e) (by omega)
   constructor
   ·intro h q hq;rw[<-key q hq];exact h q hq
   ·intro h q hq;rw[key q hq];exact h q hq
theorem wO{e:En}{u:Sc}(h:Rel e u []){p:Pl}(hp:∃x∈u.vars,x.name=p.name):e.outside p=fi u.vars p.name:=by
 have hv:e.vars=u.vars:=by rw[h.vars,cB]
 unfold En.outside
 rw[hv]
 obtain⟨x,hx,hn⟩:=hp
 obtain⟨j,hj,rfl⟩:=aZ.1 hx
 exact outN_eq h.ok j _ p (sR h.ok.nd hj hn) hj
noncomputable def En.outCode(e:En)(f:Fu):Int:=
 if f.lent=true then(if((e.use f.gives).1.same (e.use f.gives).2 f.type).code=0/\((e.use f.gives).1.same (e.use f.gives).2 f.type).outside f.gives=false then 5 else((e.use f.gives).1.same (e.use f.gives).2 f.type).code)
 else((e.expr f.says).1.same (e.expr f.says).2 f.type).code
noncomputable def kA(p:Pg)(i:Nat):Int:=match p[i]? with
 |none=>0
 |some f=>if(kf p f.name i).isSome then 2
  else if 0<((cz p i).body f.body).code then((cz p i).body f.body).code
  else((cz p i).body f.body).outCode f
theorem out_sim{f:Fu}(W:FuW f){e:En}{u:Sc}(h:Rel e u [])(hh:u.held=[]):e.outCode f=sB (pM u f) f:=by
 unfold En.outCode sB pM
 cases hl:f.lent
 ·simp only[av,if_false]
  rcases mW 4 f.says (W.says hl) h with⟨a1,⟨T1,a2⟩,a3⟩|⟨a1,a2⟩
  ·rw[if_pos a1,j4 a2.code,a3]
   simp
  ·rw[if_neg a1]
   exact(eZ (by rw[a2];exact a1) _ _).trans a2
 ·simp only[if_true]
  rcases lP h (p:=f.gives) (kG (W.gives hl))with⟨a1,⟨T1,a2⟩,a3,a4⟩|⟨a1,a2⟩
  ·rw[if_pos a1,a3]
   obtain rfl:=a2.nil ((u.use_core f.gives).2.2.1.trans hh)
   by_cases hq:eqB (u.use f.gives).2.1 f.type=true
   ·have r:=a2.same hq
    have ho:=wO r (yy (u.use_core f.gives).1 a4)
    rw[if_pos hq,r.code,ho]
    cases fi (u.use f.gives).1.vars f.gives.name<;>simp
   ·have hc:=j4 a2.code (u.use f.gives).2.1 f.type
    rw[if_neg hq]at hc
    rw[if_neg hq,hc]
    simp
  ·rw[if_neg a1]
   have hc:=(eZ (by rw[a2];exact a1) (e.use f.gives).2 f.type).trans a2
   rw[hc,if_neg (fun hx=>a1 hx.1)]
theorem Bt{p:Pg}(hp:fg p=true){i:Nat}(hi:i<p.length):kA p i=jr (p.take i) p[i]/\0<=jr (p.take i) p[i]:=by
 obtain⟨hpl,hpf⟩:=fk hp
 have W:=hpf p[i] (ax hi)
 have hti:∀f∈p.take i,f.type.okB=true:=fun f hf=>(hpf f (bC hf)).type
 have hfind:=yr p p[i].name i
 unfold kA jr cz
 rw[aw hi]
 simp only
 have hsome:((p.take i).find? fun g=>eqB g.name p[i].name).isSome=(kf p p[i].name i).isSome:=by
  rw[hfind]
  cases h:kf p p[i].name i with
  |none=>rfl
  |some k=>
   unfold kf at h
   obtain⟨hl,-⟩:=cg.1 h
   have:k<p.length:=by rw[bp]at hl;omega
   simp[this]
 rw[hsome]
 have hr0:Rel (⟨p,i,[],[],0⟩:En) (bi (p.take i)) []:=⟨rfl,rfl,rfl,rfl,⟨by simp[bi],by simp[bi],fun j hj=>by simp[bi]at hj⟩,⟨rfl,fun j hj=>by simp at hj,fun q hq=>by simp[bi]at hq⟩,rfl,fun y hy=>by simp[bi]at hy⟩
 have gpos:∀(ps:List Pa) (v:Sc),0<=(cK v ps).2:=by
  intro ps
  induction ps with
  |nil=>intro v;simp[cK]
  |cons q ps ih=>
   intro v
   rw[cK]
   split
   ·exact ih _
   ·exact mT _ _
 have opos:∀(u:Sc) (f:Fu),0<=sB (pM u f) f:=by
  intro u f
  unfold sB
  split
  ·split
   ·split<;>simp
   ·simp
  ·unfold pM
   split
   ·exact lQ _ _
   ·exact kN _ _
 split
 ·exact⟨rfl,by simp⟩
 ·have hg:=gpos p[i].params (bi (p.take i))
  rcases ma p[i].params hr0 rfl W.params with⟨a1,a2⟩|⟨a1,a2⟩
  ·rw[if_pos a1]
   have st:=ix p[i].params (fT (p.take i)) rfl W.params (by have:=W.plen;simp[bi];omega) a1
   have hhi:=st.hi
   have hpl4:=W.plen
   have h0:(bi (p.take i)).vars.length=0:=rfl
   have hs:=kq p[i].body (cK (bi (p.take i)) p[i].params).1
   rcases j3 4 p[i].body W.body a2 st.good st.held (by rw[st.p];exact hti) (by omega)with⟨b1,b2⟩|⟨b1,b2⟩
   ·rw[if_pos b1,b2.code]
    have st2:=fE 4 p[i].body W.body _ st.good st.held (by rw[st.lost];rfl) (by rw[st.p];exact hti) (by omega) b1
    exact⟨by rw[if_neg (by simp)];exact out_sim W b2 st2.held,opos _ _⟩
   ·rw[if_neg b1,b2,if_pos (by omega)]
    exact⟨rfl,hs⟩
  ·rw[if_neg a1]
   have hc:((⟨p,i,[],[],0⟩:En).givens p[i].params).code≠0:=by rw[a2];exact a1
   rw[tw hc,a2,if_pos (by omega)]
   exact⟨rfl,hg⟩
section
variable {P:Program}{F:Ids}
theorem BH(L:Lib P F)(T:Tys F)(f:Fu)(hc:bG f.body<=2^20)(hs:∀s∈f.body,s.sm 3):cO P 76 [.agg f.enc] (B f.okB):=by
 refine(L.a Tryz.func76 y76) (by simp[y76]) ?_
 rw[Fu.enc_eq]
 simp only[y76,go_sem,rE]
 intro b hb
 obtain⟨cs,hcs⟩:∃cs,cs=[S f.name,.sl 3 none (f.params.map Pa.enc),B f.lent,.sl 1 none (Ty.encs f.type.kids),.sl 15 none (St.encs f.body),I f.says.kind,I f.says.num,S f.says.place.name,au f.says.place.path,.sl 5 none (Ex.encs f.says.kids),S f.gives.name,au f.gives.path]:=⟨_,rfl⟩
 have g1:(aj.empty.set b (.cells cs)).get b=some (.cells cs):=ai _ _ _
 rw[hcs]at g1
 generalize aj.empty.set b (.cells [S f.name,.sl 3 none (f.params.map Pa.enc),B f.lent,.sl 1 none (Ty.encs f.type.kids),.sl 15 none (St.encs f.body),I f.says.kind,I f.says.num,S f.says.place.name,au f.says.place.path,.sl 5 none (Ex.encs f.says.kids),S f.gives.name,au f.gives.path])=H1 at*
 have back:∀(E:Env) (H:aj) (c:Bool),E 2=B c->c=f.okB->bm.post [.slot 2] (fun q H'=>q=B f.okB/\H'=aj.empty) .ret E H:=by
  rintro E H c e4 rfl
  exact ak (.refl _) (aj.sub_empty _) ⟨e4,rfl⟩
 have cut:(!bB f.name||decide (4<f.params.length)||!f.type.okB)=true->f.okB=false:=by
  intro h
  simp only[dA,dC,decide_eq_true_eq]at h
  rcases h with(h|h)|h
  ·simp[Fu.okB,h]
  ·simp[Fu.okB,show ¬f.params.length<=4 by omega]
  ·simp[Fu.okB,h]
 refine ao (i9 L f.name) (rfl) ?_
 cases hn:bB f.name
 ·simp only[go_sem,rE,rA]
  exact back _ _ false (rfl) (cut (by simp[hn])).symm
 by_cases h4:(f.params.length:Int)>4
 ·simp only[go_sem,rE,rA,g1,am,h4,decide_true]
  exact back _ _ false (rfl) (cut (by simp;omega)).symm
 simp only[go_sem,rE,rA,rL,g1,am,h4,decide_false]
 refine ao (nM L f.type) (by simp only[go_sem,rE,Ty.enc_eq]) ?_
 cases ht:f.type.okB
 ·simp only[go_sem,rE,rA]
  exact back _ _ false (rfl) (cut (by simp[ht])).symm
 have hpre:f.okB=(cd 4 f.body&&(decide (bU f.body<=40)&&(f.params.all Pa.okB&&(if f.lent then f.gives.okB&&f.says.noneB else f.gives.noneB&&f.says.okD 4)))):=by
  simp only[Fu.okB,hn,ht,show decide (f.params.length<=4)=true from decide_eq_true (by omega),cb]
 simp only[go_sem,rE,rA,g1,am]
 refine aQ f.params.length (fun k E H=>E 1=.ptr b 0/\E 23=.sl 3 none (f.params.map Pa.enc)/\E 24=I f.params.length/\E 25=I k/\H.get b=some (.cells cs)/\(f.params.take k).all Pa.okB=true) ⟨rfl,rfl,rfl,rfl,by rw[hcs];exact g1,by simp⟩ ?_
 clear g1
 rintro k E H hk ⟨e1,e23,e24,e25,g1,hall⟩
 rw[hcs]at g1
 simp only[wp_seq,go_sem,rE,rA,e24,e25]
 refine aE (fun hlt=>?_) (fun hge=>?_)
 ·have hk1:k<f.params.length:=by omega
  have w1:=aJ (n:=(k:Int)+1) (by omega) (by omega)
  have hgp:(f.params.map Pa.enc)[k]?=some [S f.params[k].name,B f.params[k].lent,.sl 1 none (Ty.encs f.params[k].type.kids)]:=by simp[hk1,Pa.enc,Ty.enc_eq]
  have no:f.params[k].okB=false->f.okB=false:=by
   intro h
   have:f.params.all Pa.okB=false:=by rw[dB];exact⟨_,ax hk1,by rw[h];exact fX⟩
   rw[hpre,this,aK,aR,aR]
  have yes:f.params[k].okB=true->(f.params.take (k+1)).all Pa.okB=true:=by
   intro h
   rw[aA hk1,eQ,hall];simp[h]
  have goE:f.params[k].okB=(bB f.params[k].name&&f.params[k].type.okB):=rfl
  generalize f.params[k]=p at*
  simp only[go_sem,rE,rA,rL,e23,e25,hgp]
  intro b4 hb4
  have d4:=al g1 hb4
  refine ao (i9 L p.name) (rfl) ?_
  cases hpn:bB p.name
  ·simp only[go_sem,rE,rA]
   exact back _ _ false (rfl) (by rw[no (by rw[goE,hpn];rfl)])
  simp only[go_sem,rE,rA,rL]
  refine ao (nM L p.type) (by simp only[go_sem,rE,Ty.enc_eq]) ?_
  cases hpt:p.type.okB
  ·simp only[go_sem,rE,rA]
   exact back _ _ false (rfl) (by rw[no (by rw[goE,hpn,hpt];rfl)])
  simp only[go_sem,rE,rA,e25,w1]
  exact⟨hk1,_,aj.sub_refl _,e1,e23,e24,rfl,by simp only[go_sem,d4,hcs,g1],yes (by rw[goE,hpn,hpt];rfl)⟩
 ·have hkk:k=f.params.length:=by omega
  subst hkk
  rw[aO]at hall
  rw[hall,cb]at hpre
  simp only[go_sem,rE]
  intro b5 hb5
  have d5:=al g1 hb5
  simp only[go_sem,rE,rA,rL,e1,g1,d5,Ne.symm d5]
  refine tC (qu L T 4 (by omega) f.body 40 b5 hc (by omega) (by omega)) (rfl) (ai _ _ _) (by simp) trivial ?_
  rw[iBody4 hs]
  generalize(fG 4 f.body 40).2=lf
  have hf:(cd 4 f.body&&decide (bU f.body<=40))=false->f.okB=false:=by
   intro h
   rw[hpre,<-Bool.and_assoc,h,aK]
  have htr:(cd 4 f.body&&decide (bU f.body<=40))=true->f.okB=(if f.lent then f.gives.okB&&f.says.noneB else f.gives.noneB&&f.says.okD 4):=by
   intro h
   rw[hpre,<-Bool.and_assoc,h,cb]
  generalize(cd 4 f.body&&decide (bU f.body<=40))=c at*
  clear hpre
  cases c
  ·simp only[go_sem,rE,rA]
   exact back _ _ false (rfl) (hf rfl).symm
  have htr:=htr rfl
  simp only[go_sem,rE,rA,rL,e1,g1,d5,Ne.symm d5]
  cases hl:f.lent
  ·rw[hl]at htr
   simp only[go_sem,rE,rA,rL,e1,g1,d5,Ne.symm d5]
   refine ao (jE L T 4 (by omega) f.says) (by simp only[go_sem,rE,Ex.enc_eq];rfl) ?_
   cases hg:f.says.okD 4
   ·simp only[go_sem,rE,rA]
    exact back _ _ false (rfl) (by rw[htr,hg];simp)
   ·simp only[go_sem,rE,rA,rL,e1,g1,d5,Ne.symm d5]
    refine ao (i7 L f.gives) (by simp only[go_sem,rE,Pl.enc]) ?_
    simp only[go_sem,rE,rA]
    exact back _ _ f.gives.noneB (rfl) (by rw[htr,hg];simp)
  ·rw[hl]at htr
   simp only[go_sem,rE,rA,rL,e1,g1,d5,Ne.symm d5]
   refine ao (gx L f.gives) (by simp only[go_sem,rE,Pl.enc]) ?_
   cases hg:f.gives.okB
   ·simp only[go_sem,rE,rA]
    exact back _ _ false (rfl) (by rw[htr,hg];rfl)
   ·simp only[go_sem,rE,rA,rL,e1,g1,d5,Ne.symm d5]
    refine ao (gV L f.says) (by simp only[go_sem,rE,Ex.enc_eq]) ?_
    simp only[go_sem,rE,rA]
    exact back _ _ f.says.noneB (rfl) (by rw[htr,hg];rfl)
theorem x9(L:Lib P F)(T:Tys F)(p:Pg)(hc:∀f∈p,bG f.body<=2^20/\∀s∈f.body,s.sm 3):cO P 62 [.agg (Pg.enc p)] (B (fg p)):=by
 refine(L.a Tryz.func62 y62) (by simp[y62]) ?_
 simp only[y62,go_sem,rE,Pg.enc,am]
 intro b hb
 by_cases h5:(p.length:Int)>5
 ·simp only[go_sem,rE,am,h5,decide_true]
  refine ak (.refl _) (aj.sub_empty _) ⟨?_,rfl⟩
  have:fg p=false:=by simp only[fg,cV,decide_eq_false_iff_not];exact .inl (by omega)
  simp only[go_sem,this]
 simp only[go_sem,rE,am,h5,decide_false]
 refine aQ p.length (fun k E H=>E 10=.sl 12 none (p.map Fu.enc)/\E 11=I p.length/\E 12=I k/\(p.take k).all Fu.okB=true) ⟨rfl,rfl,rfl,by simp⟩ ?_
 rintro k E H hk ⟨e10,e11,e12,hall⟩
 simp only[wp_seq,go_sem,rE,rA,e11,e12]
 refine aE (fun hlt=>?_) (fun hge=>?_)
 ·have hk1:k<p.length:=by omega
  have w1:=aJ (n:=(k:Int)+1) (by omega) (by omega)
  have hg:=tS hk1
  rw[Fu.enc_eq]at hg
  have hcf:=hc _ (ax hk1)
  simp only[go_sem,rE,rA,rL,e10,e12,hg]
  intro b4 hb4
  refine ao (BH L T p[k] hcf.1 hcf.2) (by simp only[go_sem,rE,Fu.enc_eq]) ?_
  cases ho:p[k].okB
  ·simp only[go_sem,rE]
   refine ak (.refl _) (aj.sub_empty _) ⟨?_,rfl⟩
   have:p.all Fu.okB=false:=by rw[dB];exact⟨_,ax hk1,by rw[ho];exact fX⟩
   simp only[go_sem,fg,this,aR]
  ·simp only[go_sem,rE,e12,w1]
   refine⟨hk1,_,aj.sub_refl _,e10,e11,rfl,?_⟩
   rw[aA hk1,eQ,hall]
   simp[ho]
 ·have hkk:k=p.length:=by omega
  subst hkk
  rw[aO]at hall
  simp only[go_sem,rE]
  refine ak (.refl _) (aj.sub_empty _) ⟨?_,rfl⟩
  have:fg p=true:=by simp only[fg,hall,fY,decide_eq_true_eq];omega
  simp only[go_sem,this]
end
noncomputable def hZ(p:Pg)(i:Nat):Int:=match p[i]? with|some f=>jr (p.take i) f|none=>0
noncomputable def my(p:Pg):Option Nat:=(dy p.length).find? fun i=>decide (hZ p i≠0)
theorem rJ{p:Pg}(h:∀i,i<p.length->hZ p i=0):my p=none:=by
 unfold my
 rw[List.find?_eq_none]
 intro i hi
 simp[h i (eN.1 hi)]
theorem rI{p:Pg}{i:Nat}(hi:i<p.length)(h:∀j,j<i->hZ p j=0)(hc:hZ p i≠0):my p=some i:=by
 unfold my
 rw[List.find?_range_eq_some]
 refine⟨by simpa using hc,by simpa using hi,fun j hj=>by simp[h j hj]⟩
section
variable {P:Program}{F:Ids}{er:bZ}
theorem c_kFns(L:Lib P F)(T:Tys F)(hC:eF P F er)(p:Pg)(hp:fg p=true)(H:aj)(he:eW F er H):
 bz P 63 [.agg (Pg.enc p)] H fun q H'=>(my p=none/\q=ir/\H'=H)\/∃i b,my p=some i/\H.get b=none/\q=.iface 120 (.ptr b 0)/\H'=H.set b (.cells [I i,er.ac (hZ p i)]):=by
 obtain⟨hpl,hpf⟩:=fk hp
 refine(L.a Tryz.func63 y63) (by simp[y63]) ?_
 simp only[y63,go_sem,rE,rA,rL,Pg.enc]
 intro b1 hb1
 have g1:(H.set b1 (.cells [.sl 12 none (p.map Fu.enc)])).get b1=some (.cells [.sl 12 none (p.map Fu.enc)]):=ai _ _ _
 have k1:∀c o,H.get c=some o->(H.set b1 (.cells [.sl 12 none (p.map Fu.enc)])).get c=some o:=fun c o hc=>by rw[ae _ _ (al hc hb1)];exact hc
 have he1:eW F er (H.set b1 (.cells [.sl 12 none (p.map Fu.enc)])):=fun c hc=>k1 _ _ (he c hc)
 generalize H.set b1 _=H1 at*
 simp only[go_sem,rE,rA,rL,g1,am]
 refine aQ p.length (fun k E' H'=>E' 1=.ptr b1 0/\E' 7=I p.length/\E' 8=I k/\H'=H1/\∀j,j<k->hZ p j=0)
  ⟨rfl,by simp only[go_sem,rE,am],rfl,rfl,fun j hj=>absurd hj (Nat.not_lt_zero _)⟩ ?_
 rintro k E' H' hk ⟨q1,q7,q8,rfl,hall⟩
 simp only[go_sem,rE,rA,rL,q7,q8]
 refine aE (fun hlt=>?_) (fun hge=>?_)
 ·have hk1:k<p.length:=by omega
  have w1:=aJ (n:=(k:Int)+1) (by omega) (by omega)
  have hfn:=c_kFn (er:=er) L T hC p hp k hk1 H' he1
  simp only[Pg.enc]at hfn
  have hca:hZ p k=jr (p.take k) p[k]:=by unfold hZ;rw[aw hk1]
  rw[<-hca]at hfn
  simp only[go_sem,rE,rA,rL,q1,q8,g1]
  refine dq hfn (by simp only[go_sem,rE,aS,bD,q8]) (aj.sub_refl _) (fun h=>by simp at h) trivial ?_
  rintro q H3 ⟨rfl,rfl⟩ -
  rw[fJ]
  by_cases hz:hZ p k=0
  ·rw[hz,dv]
   simp only[go_sem,rE,rA,rL,q8,w1]
   refine⟨hk1,_,aj.sub_refl _,q1,q7,rfl,rfl,fun j hj=>?_⟩
   by_cases hjk:j=k
   ·rw[hjk];exact hz
   ·exact hall j (by omega)
  ·rw[cn er hz]
   simp only[go_sem,rE,rA,rL,q8]
   intro b hb
   have hbH:H.get b=none:=by
    cases h:H.get b with
    |none=>rfl
    |some o=>rw[k1 b o h]at hb;simp at hb
   refine ak (.refl _) (H':=H.set b (.cells [I k,.iface (er.t (hZ p k)) (er.x (hZ p k))])) (fun c o hc=>?_) (.inr ⟨k,b,rI hk1 hall hz,hbH,rfl,by rw[cn er hz]⟩)
   rw[aN]at hc⊢
   split at hc
   ·rename_i e;rw[if_pos e];exact hc
   ·rename_i e;rw[if_neg e];exact k1 c o hc
 ·have hkk:k=p.length:=by omega
  subst hkk
  simp only[go_sem,rE,rA,rL]
  exact ak (.refl _) (fun b o hb=>k1 b o hb) (.inl ⟨rJ hall,rfl,rfl⟩)
noncomputable def iP(p:Pg):Bool:=fg p&&(my p).isNone
def Pg.small(p:Pg):Prop:=∀f∈p,bG f.body<=2^20/\∀s∈f.body,s.sm 3
theorem vN(L:Lib P F)(T:Tys F)(hC:eF P F er)(p:Pg)(hc:p.small)(H:aj)(he:eW F er H):
 bz P 47 [.agg (Pg.enc p)] H fun q H'=>q=B (iP p)/\H'=H:=by
 refine(L.a Tryz.func47 y47) (by simp[y47]) ?_
 have hpf:=x9 L T p hc
 simp only[Pg.enc]at hpf
 simp only[y47,go_sem,rE,rA,rL,Pg.enc]
 intro b1 hb1
 have g1:(H.set b1 (.cells [.sl 12 none (p.map Fu.enc)])).get b1=some (.cells [.sl 12 none (p.map Fu.enc)]):=ai _ _ _
 have k1:∀c o,H.get c=some o->(H.set b1 (.cells [.sl 12 none (p.map Fu.enc)])).get c=some o:=fun c o hc=>by rw[ae _ _ (al hc hb1)];exact hc
 have he1:eW F er (H.set b1 (.cells [.sl 12 none (p.map Fu.enc)])):=fun c hc=>k1 _ _ (he c hc)
 generalize H.set b1 _=H1 at*
 refine ao hpf rfl ?_
 cases hf:fg p
 ·simp only[go_sem,rE,rA,rL]
  exact ak (.refl _) (fun b o hb=>k1 b o hb) ⟨by simp only[iP,hf,aK];rfl,rfl⟩
 ·have hfn:=c_kFns (er:=er) L T hC p hf H1 he1
  simp only[Pg.enc]at hfn
  simp only[go_sem,rE,rA,rL,g1]
  refine dq hfn (by simp only[go_sem,rE,aS,bD]) (aj.sub_refl _) (fun h=>by simp at h) trivial ?_
  rintro q H3 h -
  rw[fB]
  rcases h with⟨h1,rfl,rfl⟩|⟨i,b,h1,h2,rfl,rfl⟩
  ·simp only[go_sem,rE,rA,rL]
   exact ak (.refl _) (fun b o hb=>k1 b o hb) ⟨by simp only[iP,hf,h1];rfl,rfl⟩
  ·simp only[go_sem,rE,rA,rL]
   exact ak (.refl _) (fun c o hc=>by rw[ae _ _ (al (k1 c o hc) h2)];exact k1 c o hc) ⟨by simp only[iP,hf,h1];rfl,rfl⟩
end
theorem wK{p:List Int}(h:gF p=true):p.length<=4:=by
 simp[gF]at h;exact h.1
theorem kP{p:Pl}(h:p.okB=true):p.name≠bl []/\p.path.length<=4:=by
 simp only[Pl.okB,a6]at h
 exact⟨nF h.1,wK h.2⟩
theorem mi{p:Pl}(h:p.noneB=true):p.path.length<=4:=by
 simp[Pl.noneB]at h;rw[h.2];simp
theorem sg{p:Pl}{c:Prop}[Decidable c](h:(if c then p.okB else p.noneB)=true):p.path.length<=4:=by
 split at h
 ·exact(kP h).2
 ·exact mi h
theorem Ex.ok_mk{e:Ex}(hp:e.place.path.length<=2^20)(hk:e.kind≠1->e.kind≠2->2<=e.kids.length)(hs:∀x∈e.kids,x.ok):e.ok:=by cases e;exact .mk hp hk hs
theorem St.ok_mk{s:St}(hp:s.place.path.length<=2^20)(ho:s.other.path.length<=2^20)(he:s.kind≠2->s.kind≠4->s.expr.ok)(ha:∀a∈s.args,a.ok)(ht:∀x∈s.thn,x.ok)(hl:∀x∈s.els,x.ok):s.ok:=by
 cases s;exact .mk hp ho he ha ht hl
theorem BR{s:St}(ho:s.kind=6->s.other.name≠bl [])(ha:s.kind=4->∀a∈s.args,a.lent=true->a.place.name≠bl [])(ht:∀x∈s.thn,x.nm)(hl:∀x∈s.els,x.nm):s.nm:=by
 cases s;exact .mk ho ha ht hl
theorem nQ:∀(d:Nat) (e:Ex),e.okD d=true->e.ok
 |0,e,h=>by simp[Ex.okD]at h
 |d+1,e,h=>by
  simp only[Ex.okD,a6,aV,fL,j8]at h
  obtain⟨⟨-,hg,-⟩,hk,hl⟩:=h
  refine Ex.ok_mk ?_ ?_ fun x hx=>nQ d x (hk x hx)
  ·by_cases h2:e.kind=2
   ·rw[if_neg (by omega),if_pos h2]at hl
    simp only[a6]at hl
    have:=(kP hl.1).2
    omega
   ·simp only[h2,decide_false,df]at hg
    have:=mi hg
    omega
  ·intro h1 h2
   rw[if_neg h1,if_neg h2]at hl
   simp at hl
   omega
theorem Ag.okB_ok{a:Ag}(h:a.okB=true):a.ok/\(a.lent=true->a.place.name≠bl []):=by
 rw[Ag.okB]at h
 cases hl:a.lent
 ·simp only[hl,if_false,av,a6]at h
  refine⟨⟨fun _=>nQ _ _ h.2,?_⟩,by simp⟩
  have:=mi h.1;omega
 ·simp only[hl,if_true,a6]at h
  have:=kP h.1
  exact⟨⟨by simp[hl],by omega⟩,fun _=>this.1⟩
theorem AQ(Bd:List St->Bool)(hB:∀l,Bd l=true->∀x∈l,x.ok/\x.nm)(s:St)(h:dh Bd s=true):s.ok/\s.nm:=by
 simp only[dh,stA,stB,k9,stD,a6,eT]at h
 obtain⟨ho,⟨-,hp,he⟩,⟨hc,-,ha⟩,hd⟩:=h
 have hpl:=sg hp
 have hol:=sg ho
 have hbody:∀x,(x∈s.thn\/x∈s.els)->x.ok/\x.nm:=by
  intro x hx
  split at hd
  ·simp only[a6]at hd
   rcases hx with hx|hx
   ·exact hB _ hd.1 x hx
   ·exact hB _ hd.2 x hx
  ·simp at hd
   rw[hd.2.1,hd.2.2]at hx;simp at hx
 refine⟨St.ok_mk (by omega) (by omega) (fun h2 h4=>?_) (fun a hx=>(Ag.okB_ok (aV.1 ha a hx)).1) (fun x hx=>(hbody x (.inl hx)).1) (fun x hx=>(hbody x (.inr hx)).1),BR (fun h6=>?_) (fun _ a hx=>(Ag.okB_ok (aV.1 ha a hx)).2) (fun x hx=>(hbody x (.inl hx)).2) (fun x hx=>(hbody x (.inr hx)).2)⟩
 ·have hk:isE s.kind=true:=by
   simp only[isE,dA,decide_eq_true_eq]
   split at hd
   ·omega
   ·simp at hd;omega
  rw[if_pos hk]at he
  exact nQ _ _ he
 ·rw[if_pos h6]at ho
  exact(kP ho).1
theorem lH:∀(d:Nat) (l:List St),cd d l=true->∀x∈l,x.ok/\x.nm
 |0,l,h=>by simp[cd]at h
 |d+1,l,h=>by
  simp only[cd,a6,aV]at h
  exact fun x hx=>AQ _ (lH d) x (h.2 x hx)
theorem St.okB_ok{d:Nat}{s:St}(h:s.okB d=true):s.ok/\s.nm:=AQ _ (lH _) s h
section
variable {P:Program}{F:Ids}
theorem sX(L:Lib P F){dr:Bool}{K:Env->aj->Prop}{xs:List aM}{E:Env}{H:aj}{l:Lds}{f:Fps}{i:Nat}{inc:List Nat}{args:List aI}{d:Option Nat}{e:Nat}{v:En}{VS NS:AC}(hE:bE H e v VS NS)
(hl:v.vars.length<=2^30)(hn:v.names.length<=2^30)(ha:args.map (aI.ev E)=[.ptr e 0])(hchk:dQ inc l (aP e VS NS))
(h:∀a VS' NS' H1 fp,bE H1 a v VS' NS'->H.sub H1->(∀d,aP a VS' NS' d->H.get d=none)->(∀c,fp c->aP e VS NS c\/H.get c=none)->bF P dr K xs (E.put d (.ptr a 0)) H1 l ((i,fp)::f)):
 bF P dr K (⟨i,d,none,.eff (.call 116 args),inc⟩::xs) E H l f:=by
 have hge:∀b,(H.only (aP e VS NS)).get b≠none↔aP e VS NS b:=by
  intro b
  by_cases hb:aP e VS NS b
  ·simp only[bv hb,hb,iff_true];exact hE.mem hb
  ·simp[cq hb,hb]
 refine gQ (aP e VS NS) (BI L e v VS NS (H.only (aP e VS NS)) hE.only hl hn) ha (.refl _) (fun _ N=>?_) ?_ ?_
 ·obtain⟨M,hM⟩:=(H.only (aP e VS NS)).fin
  obtain⟨H0,VS0,NS0,hE0,hfar⟩:=pf (N+M) (N+M) v
  have far:∀{b},H0.get b≠none->N+M<=b:=by
   intro b hb
   rcases hfar b hb with h|h<;>omega
  have hget:∀b,N+M<=b->(H0.swap .empty (H.only (aP e VS NS))).get b=H0.get b:=by
   intro b hb
   rw[bA,hM b (by omega)];simp
  refine⟨.ptr (N+M) 0,H0.swap .empty (H.only (aP e VS NS)),⟨N+M,VS0,NS0,rfl,hE0.mono fun d hd=>hget d (far (hE0.mem hd)),fun d hd=>?_,fun d hd=>hM d (by have:=far (hE0.mem hd);omega)⟩,fun b hb hnb=>?_⟩
  ·rw[bA]
   obtain⟨o,ho⟩:=aH.1 hd
   simp[ho]
  ·rw[bA,hnb]at hb
   have:=far (b:=b) (by simpa using hb)
   omega
 ·have:(fun b=>(H.only (aP e VS NS)).get b≠none)=aP e VS NS:=by funext b;exact propext (hge b)
  rw[this];exact hchk
 rintro q H' H1 ⟨a,VS',NS',rfl,hE',hsame,hnew⟩ hsub hafter hn2 -
 refine h a VS' NS' H1 _ (hE'.sub hsub) (fun b o hb=>?_) (fun d hd=>?_) (fun c hc=>?_)
 ·by_cases hS:aP e VS NS b
  ·refine hsub b o ?_
   rw[hsame b (by rw[bv hS,hb];simp),bv hS];exact hb
  ·rw[hafter.out b hS (by rw[hb];simp)];exact hb
 ·rcases hn2 d (hE'.mem hd)with h|h
  ·have:=hnew d hd
   rw[bv h]at this;exact this
  ·exact h
 ·rcases hc with hc|hc
  ·exact .inl ((hge c).1 hc)
  ·exact .inr hc
end
def jy:Nat->Nat
 |0=>5
 |d+1=>6+5*jy d
def ik:Nat->Nat
 |0=>20000
 |d+1=>20000+36*ik d
def BodyR(n c k:Nat)(N:Nat)(v:En)(p last:Int)(s:Int)(q:AC)(v':En)(p' last':Int):Prop:=
 (∃l:List St,q=.sl 15 none (l.map St.enc)/\l.length<=n/\bG l<=n*c/\∀x∈l,x.sm k)/\(v'.dr (N+n*c)/\v'.p=v.p/\v'.fn=v.fn)/\p<=p'/\p'<=p+s/\last<=last'/\last'<=last+s
def BP(P:Program)(F:Ids)(d:Nat):Prop:=∀(m r:Nat) (bs:List UInt8),bs.length<=2000->∀(v:En) (N:Nat),v.dr N->N+jy d<=2^19->∀p last:Int,0<=last->last+ik d<=2^40->0<=p->p+ik d<=2^50->
 MkC P 143 [.ptr m 0,I (d+1:Nat)] m r bs v p last (StR (jy d) d v p last (ik d))
def BV(P:Program)(F:Ids)(d:Nat):Prop:=∀(m r:Nat) (bs:List UInt8),bs.length<=2000->∀(v:En) (N n:Nat),v.dr N->n<=6->N+n*jy d<=2^19->∀p last:Int,0<=last->last+18*ik d<=2^40->0<=p->p+18*ik d<=2^50->
 MkC P 114 [.ptr m 0,I n,I (d+1:Nat)] m r bs v p last (BodyR n (jy d) (d+1) N v p last (18*ik d))
theorem En.dr.mono{v:En}{N M:Nat}(h:v.dr N)(hm:N<=M):v.dr M:=⟨h.ok,h.up,h.ne,bV h.vl hm,bV h.nl hm,h.p,h.pl,h.fn⟩
theorem En.dr.stmt{v:En}{N:Nat}(h:v.dr N){s:St}(hs:s.ok)(hn:s.nm)(hc:(v.stmt s).code=0)(hl:N+s.cnt<=2^20):(v.stmt s).dr (N+s.cnt):=by
 have st:=(En.stmt_step s.cnt).1 s (aD _) hs v h.ok (by have:=h.vl;omega) fun f hf=>(h.p f hf).1
 have up:=(sj hn hc).2 h.up
 refine⟨st.ok,up,by have:=h.ne;have:=st.lo;omega,by have:=h.vl;have:=st.hi;omega,by have:=h.nl;have:=st.names;omega,by rw[st.p];exact h.p,by rw[st.p];exact h.pl,by rw[st.p,st.fn];exact h.fn⟩
section
variable {P:Program}{F:Ids}
theorem vJ(L:Lib P F)(d:Nat)(hd:d<=20)(hst:BP P F d):BV P F d:=by
 intro m r bs hbs v N n hv hn hN p last hl hl2 hp hp2 H e VS NS hM
 refine(L.a Tryz.func114 y114) (by simp[y114]) ?_
 generalize hc:jy d=c at*
 generalize hs:(ik d:Int)=s at*
 have hs0:0<=s:=by omega
 have w3:=aJ (n:=3*(n:Int)) (by omega) (by omega)
 simp only[y114,go_sem,rE,rA]
 intro b11 hb11
 have hM1:=hM.new hb11 (.tail 0 0)
 have n11:=hM.notin hb11
 let J:Nat->Env->aj->Prop:=fun k E H=>∃(e':Nat) (v':En) (VS' NS':AC) (p' last':Int) (l:List St) (bt nt mt:Nat),de H m r bs e' v' VS' NS' p' last'/\v'.dr (N+l.length*c)/\v'.p=v.p/\v'.fn=v.fn/\p<=p'/\p'<=p+k*s/\last<=last'/\last'<=last+k*s/\
  l.length<=n/\bG l<=l.length*c/\(∀x∈l,x.sm (d+1))/\H.get bt=some (.tail nt mt)/\¬cJ m r e' VS' NS' bt/\E 0=.ptr m 0/\E 1=I n/\E 2=I (d+1:Nat)/\E 7=.sl 15 (some (bt,nt,mt)) (l.map St.enc)/\E 8=I k
 refine aQ (3*n) J ⟨e,v,VS,NS,p,last,[],b11,0,0,hM1,by simpa using hv,rfl,rfl,cX _,by omega,cX _,by omega,by simp,by simp[fh],by simp,ai _ _ _,n11,rfl,rfl,rfl,rfl,rfl⟩ ?_
 clear hM hM1 hb11 n11
 rintro k E H hk ⟨e',v',VS',NS',p',last',l,bt,nt,mt,hM,hv',hvp,hvf,hp1,hp1',hl1,hl1',hln,hcl,hsm,gt,nX,e0,e1,e2,e7,e8⟩
 have hks:(k:Int)*s<=18*s:=Int.mul_le_mul_of_nonneg_right (by omega) hs0
 have hlc:l.length*c<=n*c:=bH _ hln
 by_cases h1:(k:Int)<3*n
 case neg=>
  simp only[go_sem,rE,rA,e1,e8,w3,h1,decide_false]
  refine ak (q':=.sl 15 none (l.map St.enc)) (by simp only[go_sem,rE];rw[e7];exact .tok _ _ _) (aj.sub_refl _) ⟨e',v',VS',NS',p',last',⟨⟨l,rfl,hln,by omega,hsm⟩,⟨hv'.mono (by omega),hvp,hvf⟩,hp1,by omega,hl1,by omega⟩,hM⟩
 by_cases h2:(l.length:Int)<n
 case neg=>
  simp only[go_sem,rE,rA,e1,e7,e8,w3,h1,h2,decide_true,decide_false,am]
  refine ak (q':=.sl 15 none (l.map St.enc)) (by simp only[go_sem,rE];exact .tok _ _ _) (aj.sub_refl _) ⟨e',v',VS',NS',p',last',⟨⟨l,rfl,hln,by omega,hsm⟩,⟨hv'.mono (by omega),hvp,hvf⟩,hp1,by omega,hl1,by omega⟩,hM⟩
 have hks1:(k:Int)*s+s<=18*s:=by
  have:((k:Int)+1)*s<=18*s:=Int.mul_le_mul_of_nonneg_right (by omega) hs0
  rw[Int.add_mul,Int.one_mul]at this;exact this
 have hkk:((k+1:Nat):Int)*s=k*s+s:=by rw[Int.natCast_succ,Int.add_mul,Int.one_mul]
 have hlc1:(l.length+1)*c<=n*c:=bH _ (by omega)
 have hlcc:(l.length+1)*c=l.length*c+c:=Nat.succ_mul _ _
 have w1:=aJ (n:=(k:Int)+1) (by omega) (by omega)
 simp only[go_sem,rE,rA,e0,e1,e2,e7,e8,w3,h1,h2,decide_true,am]
 refine ed (hst m r bs hbs v' (N+l.length*c) hv' (by omega) p' last' (by omega) (by omega) (by omega) (by omega)) hM (rfl) (.refl _) (by simp) trivial ?_
 rintro q e1' v1 VS1 NS1 p1 last1 H1 fp1 ⟨⟨st,rfl,hst1,hst2⟩,rfl,hq1,hq2,hq3,hq4⟩ hM1 hk1 -
 obtain⟨gt,nX⟩:=hk1 _ _ gt nX
 rw[hc]at hst1
 rw[hs]at hq2 hq4
 clear hk1 hM
 obtain⟨cs,hcs,C⟩:=stC st
 simp only[hcs,go_sem,rE,rA,C.len,rL]
 intro b9 hb9
 have n9:=hM1.notin hb9
 have dt9:=al gt hb9
 have hM2:=hM1.new hb9 (.cells cs)
 have g9:(H1.set b9 (.cells cs)).get b9=some (.cells cs):=ai _ _ _
 have gt:(H1.set b9 (.cells cs)).get bt=some (.tail nt mt):=by rw[ae _ _ dt9];exact gt
 simp only[go_sem,rE,rA,C.len,C.all,rL]
 refine ao (B8 L (d+1) (by omega) (by omega) st (by omega)) (by simp only[go_sem,rE,hcs,e2]) ?_
 have skip:∀(E':Env) (H':aj),de H' m r bs e1' v1 VS1 NS1 p1 last1->H'.get bt=some (.tail nt mt)->E' 0=.ptr m 0->E' 1=I n->E' 2=I (d+1:Nat)->E' 7=.sl 15 (some (bt,nt,mt)) (l.map St.enc)->E' 8=I (k+1:Nat)->k<3*n/\∃H'',aj.sub H'' H'/\J (k+1) E' H'':=
  fun E' H' hM gt h0 h1 h2 h7 h8=>⟨by omega,H',aj.sub_refl _,e1',v1,VS1,NS1,p1,last1,l,bt,nt,mt,hM,hv',hvp,hvf,by omega,by rw[hkk];omega,by omega,by rw[hkk];omega,hln,hcl,hsm,gt,nX,h0,h1,h2,h7,h8⟩
 cases hok:st.okB (d+1)
 ·simp only[go_sem,rE,rA,e8,w1]
  exact skip _ _ hM2 gt (e0) (e1) (e2) (e7) (rfl)
 obtain⟨sok,snm⟩:=St.okB_ok hok
 have hob:=hM2.obj
 have hE:=hM2.env
 have hdl:=hv'.vl
 have hdn:=hv'.nl
 have dpl:=hv'.pl
 have dfn:=hv'.fn
 simp only[go_sem,rE,rA,e0,hob]
 refine mL L hE (by omega) (by omega) (rfl) ?_
 intro a VSa NSa H3 fp3 hEa hs3 hnew
 have hM3:de H3 m r bs e1' v1 VS1 NS1 p1 last1:=hM2.mono fun b hb=>by obtain⟨o,ho⟩:=aH.1 (hM2.mem hb);rw[hs3 _ _ ho,ho]
 have dis:∀b,cJ m r e1' VS1 NS1 b->¬aP a VSa NSa b:=fun b hb hb'=>hM2.mem hb (hnew b hb')
 have na9:¬aP a VSa NSa b9:=fun h=>by have:=hnew _ h;rw[g9]at this;simp at this
 have nat:¬aP a VSa NSa bt:=fun h=>by have:=hnew _ h;rw[gt]at this;simp at this
 have g9:=hs3 _ _ g9
 have gt:=hs3 _ _ gt
 clear hnew hs3 hM2 hE hob
 simp only[go_sem,rE,rA,g9,C.len,C.all,rL]
 refine bP (tU L st.cnt a st (aD _) sok v1 hv'.ok (by omega) (by omega) hv'.ne (fun f hf=>(hv'.p f hf).1) (by omega) (by omega)) hEa (by simp only[go_sem,rE,hcs]) (.refl _) (by simp) trivial ?_
 rintro q va VSa NSa H4 fp4 ⟨rfl,hva⟩ hEa hk4 -
 obtain⟨g9,na9⟩:=hk4 _ _ g9 na9
 obtain⟨gt,nat⟩:=hk4 _ _ gt nat
 have key:∀b,cJ m r e1' VS1 NS1 b->H4.get b=H3.get b/\¬aP a VSa NSa b:=by
  intro b hb
  obtain⟨o,ho⟩:=aH.1 (hM3.mem hb)
  obtain⟨h1,h2⟩:=hk4 b o ho (dis b hb)
  exact⟨by rw[h1,ho],h2⟩
 have hM4:de H4 m r bs e1' v1 VS1 NS1 p1 last1:=hM3.mono fun b hb=>(key b hb).1
 have nam:=(key m (.inl rfl)).2
 have nar:=(key r (.inr (.inl rfl))).2
 clear hk4 hM3
 have hob:=hEa.obj
 simp only[dg]at hob
 simp only[go_sem,rE,rA,hob]
 by_cases hcode:va.code=0
 ·have hcode':(va.code==0)=true:=by simpa using hcode
  have hom:=hM4.obj
  have dm9:b9≠m:=by rintro rfl;rw[hom]at g9;simp at g9;have:=C.len;rw[<-g9]at this;simp at this
  have dmt:bt≠m:=by rintro rfl;rw[hom]at gt;simp at gt
  simp only[go_sem,rE,rA,hcode',e0,hom,g9,dm9,Ne.symm dm9,e7,C.len,C.all,rL,az,aq,ay,bh]
  have gt5:(H4.set m (.cells [.ptr r 0,.ptr a 0,I last1])).get bt=some (.tail nt mt):=by rw[ae _ _ dmt];exact gt
  have hM5:de (H4.set m (.cells [.ptr r 0,.ptr a 0,I last1])) m r bs a va VSa NSa p1 last1:=
   ⟨ai _ _ _,by rw[ae _ _ (Ne.symm hM4.mr)];exact hM4.rd,hEa.mono fun b hb=>ae _ _ (by rintro rfl;exact nam hb),hM4.mr,nam,nar⟩
  have nt5:¬cJ m r a VSa NSa bt:=by
   rintro(h|h|h)
   ·exact dmt h
   ·rw[h,hM4.rd]at gt;simp[RdO]at gt
   ·exact nat h
  refine eB (es:=l.map St.enc) (ys:=[cs]) (by simp only[go_sem,rE,e7]) gt5 (by simp only[go_sem,rE]) (by simp[C.len]) (by simp;omega) ?_
  intro bt' nt' mt' H6 fp6 gt6 hk6 hbt6 _
  have hM6:de H6 m r bs a va VSa NSa p1 last1:=hM5.mono fun b hb=>hk6 b (hM5.mem hb) (by rintro rfl;exact nt5 hb)
  have nt6:¬cJ m r a VSa NSa bt':=by
   rcases hbt6 with rfl|h
   ·exact nt5
   ·exact hM5.notin h
  have hdr:=hv'.stmt sok snm (by rw[<-hva];exact hcode) (by omega)
  rw[<-hva]at hdr
  have hstep:=(En.stmt_step st.cnt).1 st (aD _) sok v1 hv'.ok (by omega) fun f hf=>(hv'.p f hf).1
  rw[<-hva]at hstep
  simp only[go_sem,rE,rA,e8,w1]
  refine⟨by omega,H6,aj.sub_refl _,a,va,VSa,NSa,p1,last1,l++[st],bt',nt',mt',hM6,hdr.mono (by simp;omega),hstep.p.trans hvp,hstep.fn.trans hvf,by omega,by rw[hkk];omega,by omega,by rw[hkk];omega,by simp;omega,?_,?_,gt6,nt6,e0,e1,e2,?_,rfl⟩
  ·have:bG (l++[st])=bG l+st.cnt:=by
    have:=jA (l++[st]) l.length
    rw[List.take_left',List.drop_left']at this
    ·rw[dm,fh]at this;omega
    all_goals rfl
   rw[this];simp;omega
  ·intro x hx
   rcases aF.1 hx with h|h
   ·exact hsm x h
   ·simp at h;rw[h];exact hst2
  ·simp only[go_sem,rE,bf,aS,bD,hcs]
 ·have hcode':(va.code==0)=false:=by simpa using hcode
  simp only[go_sem,rE,rA,hcode',e8,w1]
  exact skip _ _ hM4 gt (e0) (e1) (e2) (e7) (rfl)
end
theorem sW:∀d,20000<=ik d
 |0=>aD _
 |d+1=>by simp only[ik];omega
theorem Bu:∀d,5<=jy d
 |0=>aD _
 |d+1=>by simp only[jy];omega
theorem leLet(nm:ByteArray)(x:Ex):LeC ([I 1,S nm,S (bl []),NIL,S (bl []),NIL]++x.enc++[S (bl []),NIL,NIL,NIL]) (St.mk 1 nm P0 P0 x (bl []) [] [] []).enc:=by
 rw[St.enc_eq,Ex.enc_eq]
 exact⟨⟨.refl _,rfl⟩,⟨.refl _,rfl⟩,⟨.refl _,rfl⟩,⟨.nil 1,rfl⟩,⟨.refl _,rfl⟩,⟨.nil 1,rfl⟩,⟨.refl _,rfl⟩,⟨.refl _,rfl⟩,⟨.refl _,rfl⟩,⟨.refl _,rfl⟩,⟨.refl _,rfl⟩,⟨.refl _,rfl⟩,⟨.nil 8,rfl⟩,⟨.nil 15,rfl⟩,⟨.nil 15,rfl⟩,trivial⟩
theorem leLend(nm:ByteArray)(p:Pl):LeC [I 2,S nm,S p.name,au p.path,S (bl []),NIL,I 0,I 0,S (bl []),NIL,NIL,S (bl []),NIL,NIL,NIL] (St.mk 2 nm p P0 E0 (bl []) [] [] []).enc:=by
 rw[St.enc_eq]
 exact⟨⟨.refl _,rfl⟩,⟨.refl _,rfl⟩,⟨.refl _,rfl⟩,⟨.refl _,rfl⟩,⟨.refl _,rfl⟩,⟨.nil 1,rfl⟩,⟨.refl _,rfl⟩,⟨.refl _,rfl⟩,⟨.refl _,rfl⟩,⟨.nil 1,rfl⟩,⟨.nil 5,rfl⟩,⟨.refl _,rfl⟩,⟨.nil 8,rfl⟩,⟨.nil 15,rfl⟩,⟨.nil 15,rfl⟩,trivial⟩
theorem leSet(p:Pl)(x:Ex):LeC ([I 3,S (bl []),S p.name,au p.path,S (bl []),NIL]++x.enc++[S (bl []),NIL,NIL,NIL]) (St.mk 3 (bl []) p P0 x (bl []) [] [] []).enc:=by
 rw[St.enc_eq,Ex.enc_eq]
 exact⟨⟨.refl _,rfl⟩,⟨.refl _,rfl⟩,⟨.refl _,rfl⟩,⟨.refl _,rfl⟩,⟨.refl _,rfl⟩,⟨.nil 1,rfl⟩,⟨.refl _,rfl⟩,⟨.refl _,rfl⟩,⟨.refl _,rfl⟩,⟨.refl _,rfl⟩,⟨.refl _,rfl⟩,⟨.refl _,rfl⟩,⟨.nil 8,rfl⟩,⟨.nil 15,rfl⟩,⟨.nil 15,rfl⟩,trivial⟩
theorem leIf(x:Ex)(t l:List St):LeC ([I 5,S (bl []),S (bl []),NIL,S (bl []),NIL]++x.enc++[S (bl []),NIL,.sl 15 none (t.map St.enc),.sl 15 none (l.map St.enc)]) (St.mk 5 (bl []) P0 P0 x (bl []) [] t l).enc:=by
 rw[St.enc_eq,Ex.enc_eq]
 simp only[St.encs_map]
 exact⟨⟨.refl _,rfl⟩,⟨.refl _,rfl⟩,⟨.refl _,rfl⟩,⟨.nil 1,rfl⟩,⟨.refl _,rfl⟩,⟨.nil 1,rfl⟩,⟨.refl _,rfl⟩,⟨.refl _,rfl⟩,⟨.refl _,rfl⟩,⟨.refl _,rfl⟩,⟨.refl _,rfl⟩,⟨.refl _,rfl⟩,⟨.nil 8,rfl⟩,⟨.refl _,rfl⟩,⟨.refl _,rfl⟩,trivial⟩
section
variable {P:Program}{F:Ids}
theorem to(L:Lib P F)(d:Nat)(hd:d<=20)(hbody:∀d',d=d'+1->BV P F d'):BP P F d:=by
 intro m r bs hbs v N hv hN p last hl hl2 hp hp2 H e VS NS hM
 have hsc:=sW d
 have hcc:=Bu d
 refine(L.a Tryz.func143 y143) (by simp[y143,f143]) ?_
 simp only[y143,f143,go_sem,rE,rA]
 intro b4 hb4
 have hM0:=hM.new hb4 (.cells [I 0,S (bl []),S (bl []),NIL,S (bl []),NIL,I 0,I 0,S (bl []),NIL,NIL,S (bl []),NIL,NIL,NIL])
 have n4:=hM.notin hb4
 have g4:(H.set b4 (.cells [I 0,S (bl []),S (bl []),NIL,S (bl []),NIL,I 0,I 0,S (bl []),NIL,NIL,S (bl []),NIL,NIL,NIL])).get b4=some (.cells [I 0,S (bl []),S (bl []),NIL,S (bl []),NIL,I 0,I 0,S (bl []),NIL,NIL,S (bl []),NIL,NIL,NIL]):=ai _ _ _
 generalize H.set b4 (.cells [I 0,S (bl []),S (bl []),NIL,S (bl []),NIL,I 0,I 0,S (bl []),NIL,NIL,S (bl []),NIL,NIL,NIL])=H0 at*
 clear hM hb4
 have fin:∀(E':Env) (H':aj) (cs:List AC) (st:St) (e':Nat) (VS' NS':AC) (p' last':Int),de H' m r bs e' v VS' NS' p' last'->E' 4=.ptr b4 0->H'.get b4=some (.cells cs)->Le (.agg cs) (.agg st.enc)->cs.length=15->st.cnt<=jy d->st.sm (d+1)->p<=p'->p'<=p+ik d->last<=last'->last'<=last+ik d->
  (bm.post [.cell 4 (some 15)] (fun q H'=>∃e' v' VS' NS' p' last',StR (jy d) d v p last (ik d) q v' p' last'/\de H' m r bs e' v' VS' NS' p' last')) .ret E' H':=by
  intro E' H' cs st e' VS' NS' p' last' hM e4 g4 hle hlen hc hs h1 h2 h3 h4
  exact bT (q':=.agg st.enc) (off:=0) e4 g4 (by simp[fM,hlen,cM (Nat.le_of_eq hlen)]) hle (aj.sub_refl _) ⟨e',v,VS',NS',p',last',⟨⟨st,rfl,hc,hs⟩,rfl,h1,h2,h3,h4⟩,hM⟩
 have hom:=hM0.obj
 have hmr:=hM0.mr
 simp only[go_sem,rE,rA,hom]
 refine ba (cv L r bs p 5 hbs hp (by omega)) (rfl) hM0.rd (by simp) trivial ?_
 rintro q p1 hp1 hp1' ⟨k1,rfl,hk10,hk11⟩
 have d4r:b4≠r:=fun h=>n4 (.inr (.inl h))
 have hM1:=hM0.setR p1
 have g4:(H0.set r (RdO bs p1)).get b4=_:=(ae _ _ d4r).trans g4
 generalize H0.set r (RdO bs p1)=H1 at*
 clear hM0 hom
 by_cases hk1:k1=0
 ·simp only[hk1,go_sem,rE,rA,aG]
  refine ed (B1 L m r bs hbs v hv.ok p1 last hl (by omega) (by omega) (by omega)) hM1 (rfl) (.refl _) (by simp) trivial ?_
  rintro q e2 v2 VS2 NS2 p2 last2 H2 fp2 ⟨⟨st,rfl,hst1,hst2⟩,rfl,h1,h2,h3,h4⟩ hM2 hk2 -
  obtain⟨g4,n4⟩:=hk2 _ _ g4 n4
  obtain⟨cs,hcs,C⟩:=stC st
  simp only[hcs,go_sem,rE,rA,g4,C.len,rL]
  exact fin _ _ cs st e2 VS2 NS2 p2 last2 (hM2.put n4 _) (rfl) (ai _ _ _) (by rw[hcs];exact .refl _) C.len (by omega) (hst2.up (by omega)) (by omega) (by omega) (by omega) (by omega)
 have hk1':(k1==0)=false:=by simpa using hk1
 have hom:=hM1.obj
 simp only[hk1',go_sem,rE,rA,hom]
 refine ba (cv L r bs p1 12 hbs (by omega) (by omega)) (rfl) hM1.rd (by simp) trivial ?_
 rintro q p2 hp2' hp2'' ⟨k2,rfl,hk20,hk21⟩
 have hM2:=hM1.setR p2
 have g4:(H1.set r (RdO bs p2)).get b4=_:=(ae _ _ d4r).trans g4
 generalize H1.set r (RdO bs p2)=H2 at*
 clear hM1 hom
 have dmr:m≠b4:=fun h=>n4 (.inl h.symm)
 have sLet:∀(E:Env),E 0=.ptr m 0->E 4=.ptr b4 0->∀A:Env->aj->Prop,aW.wp P (kd20) (cS.inBlock 0 (cS.then A (bm.post [.cell 4 (some 15)] (fun q H'=>∃e' v' VS' NS' p' last',StR (jy d) d v p last (ik d) q v' p' last'/\de H' m r bs e' v' VS' NS' p' last')))) E H2:=by
  intro E e0 e4 A
  rw[kd20,fd20]
  have hom:=hM2.obj
  simp only[go_sem,rE,rA,e0,hom]
  refine⟨?_,?_⟩
  ·refine ed (R:=uS v p2 last) (nh L m r bs v p2 last hl (by omega)) hM2 (rfl) (.refl _) (fun _=>⟨S (bl []),v,p2,last+1,⟨_,rfl⟩,rfl,rfl,rfl⟩) (by simp[dQ]) ?_
   rintro q e3 v3 VS3 NS3 p3 last3 H3 fp3 ⟨⟨nm,rfl⟩,rfl,rfl,rfl⟩ hM3 hk3 -
   obtain⟨g4,n4⟩:=hk3 _ _ g4 n4
   have hom:=hM3.obj
   simp only[go_sem,rE,rA,e0,hom]
   refine ba (ky L r bs hbs 3 3 (by omega) (by omega) p3 (by omega) (by simp[ff];omega)) (rfl) hM3.rd (fun _=>⟨by simp[ff],_,.mk [],rfl,by simp[Ty.le]⟩) (by simp[dQ]) ?_
   rintro q p4 hp4 hp4' ⟨t,rfl,ht⟩
   simp only[ff]at hp4'
   have hM4:=hM3.setR p4
   have g4:(H3.set r (RdO bs p4)).get b4=_:=(ae _ _ d4r).trans g4
   generalize H3.set r (RdO bs p4)=H4 at*
   refine ed (jS L m r bs hbs v3 hv.ok (last+1) 3 (by omega) t 3 ⟨3,by omega,ht⟩ (by omega) (by omega) p4 (by omega) (by simp[eL];omega)) hM4 (rfl) (.refl _) (fun _=>gJ _ _ _ _ (by simp[eL])) (by simp[dQ]) ?_
   rintro q e5 v5 VS5 NS5 p5 last5 H5 fp5 ⟨⟨x,rfl,hx,hxsm⟩,rfl,hp5,hp5',rfl⟩ hM5 hk5 -
   simp only[eL]at hp5'
   obtain⟨g4,n4⟩:=hk5 _ _ g4 n4
   simp only[go_sem,rE,rA,e4,Ex.enc_eq x,g4,rL]
   obtain⟨c1,c2⟩:=lS 1 nm P0 P0 x hxsm
   exact fin _ _ _ (.mk 1 nm P0 P0 x (bl []) [] [] []) e5 VS5 NS5 p5 (last+1) (hM5.put n4 _) (e4) (ai _ _ _) (by have:=leLet nm x;rw[Ex.enc_eq x]at this;exact .agg this) rfl (by omega) (c2.up (by omega)) (by omega) (by omega) (by omega) (by omega)
  ·refine ed (R:=uS v p2 last) (nh L m r bs v p2 last hl (by omega)) hM2 (by simp only[go_sem,rE,e0]) (.refl _) (fun _=>⟨S (bl []),v,p2,last+1,⟨_,rfl⟩,rfl,rfl,rfl⟩) (by simp[dQ]) ?_
   rintro q e3 v3 VS3 NS3 p3 last3 H3 fp3 ⟨⟨nm,rfl⟩,rfl,rfl,rfl⟩ hM3 hk3 -
   obtain⟨g4,n4⟩:=hk3 _ _ g4 n4
   refine ba (ky L r bs hbs 3 3 (by omega) (by omega) p3 (by omega) (by simp[ff];omega)) (rfl) hM3.rd (fun _=>⟨by simp[ff],_,.mk [],rfl,by simp[Ty.le]⟩) (by simp[dQ]) ?_
   rintro q p4 hp4 hp4' ⟨t,rfl,ht⟩
   simp only[ff]at hp4'
   have hM4:=hM3.setR p4
   have g4:(H3.set r (RdO bs p4)).get b4=_:=(ae _ _ d4r).trans g4
   generalize H3.set r (RdO bs p4)=H4 at*
   refine ed (jS L m r bs hbs v3 hv.ok (last+1) 3 (by omega) t 3 ⟨3,by omega,ht⟩ (by omega) (by omega) p4 (by omega) (by simp[eL];omega)) hM4 (rfl) (.refl _) (fun _=>gJ _ _ _ _ (by simp[eL])) (by simp[dQ]) ?_
   rintro q e5 v5 VS5 NS5 p5 last5 H5 fp5 ⟨⟨x,rfl,hx,hxsm⟩,rfl,hp5,hp5',rfl⟩ hM5 hk5 -
   simp only[eL]at hp5'
   obtain⟨g4,n4⟩:=hk5 _ _ g4 n4
   simp only[go_sem,rE,rA,e4,Ex.enc_eq x,g4,rL]
   obtain⟨c1,c2⟩:=lS 1 nm P0 P0 x hxsm
   exact fin _ _ _ (.mk 1 nm P0 P0 x (bl []) [] [] []) e5 VS5 NS5 p5 (last+1) (hM5.put n4 _) (e4) (ai _ _ _) (by have:=leLet nm x;rw[Ex.enc_eq x]at this;exact .agg this) rfl (by omega) (c2.up (by omega)) (by omega) (by omega) (by omega) (by omega)
 have sLend:∀(E:Env),E 0=.ptr m 0->E 4=.ptr b4 0->∀A:Env->aj->Prop,aW.wp P (kd21) (cS.inBlock 0 (cS.then A (bm.post [.cell 4 (some 15)] (fun q H'=>∃e' v' VS' NS' p' last',StR (jy d) d v p last (ik d) q v' p' last'/\de H' m r bs e' v' VS' NS' p' last')))) E H2:=by
  intro E e0 e4 A
  rw[kd21,fd21]
  simp only[go_sem,rE,rA,e0]
  refine ed (iK L m r bs hbs v hv.ok p2 last (by omega) (by omega)) hM2 (rfl) (.refl _) (by simp) trivial ?_
  rintro q e3 v3 VS3 NS3 p3 last3 H3 fp3 ⟨⟨pa,u,rfl,hpa,hu⟩,rfl,hp3,hp3',rfl⟩ hM3 hk3 -
  obtain⟨g4,n4⟩:=hk3 _ _ g4 n4
  simp only[go_sem,rE,rA,Ty.enc_eq u,Pl.enc]
  intro b5 hb5 b6 hb6
  have hb6':=tN hb6 (.cells [S pa.name,au pa.path])
  obtain⟨stay,ga,gb,d56⟩:=nD (c:=.cells [S pa.name,au pa.path]) (c':=.cells [.sl 1 none (Ty.encs u.kids)]) hb5 hb6'
  have hM4:=(hM3.new hb5 (.cells [S pa.name,au pa.path])).new hb6' (.cells [.sl 1 none (Ty.encs u.kids)])
  have n5:=hM3.notin hb5
  have g4:=stay g4
  simp only[go_sem,rE,rA,d56,Ne.symm d56,mg d56]
  generalize((H3.set b5 (.cells [S pa.name,au pa.path])).set b6 (.cells [.sl 1 none (Ty.encs u.kids)]))=H4 at*
  refine ed (R:=uS v3 p3 last3) (nh L m r bs v3 p3 last3 hl (by omega)) hM4 (by simp only[go_sem,rE,e0]) (.refl _) (fun _=>⟨S (bl []),v3,p3,last3+1,⟨_,rfl⟩,rfl,rfl,rfl⟩) (by simp[dQ]) ?_
  rintro q e5 v5 VS5 NS5 p5 last5 H5 fp5 ⟨⟨nm,rfl⟩,rfl,rfl,rfl⟩ hM5 hk5 hf5
  obtain⟨g4,n4⟩:=hk5 _ _ g4 n4
  have nf5:¬fp5 b5:=fun h=>by
   rcases hf5 _ h with h|h
   ·exact n5 h
   ·rw[ga]at h;simp at h
  obtain⟨ga,n5⟩:=hk5 _ _ ga n5
  simp only[go_sem,rE,rA,rL,e0,e4,ga,g4,rL]
  refine⟨by simp;exact nf5,?_⟩
  obtain⟨c1,c2⟩:=lS 2 nm pa P0 E0 wq
  exact fin _ _ _ (.mk 2 nm pa P0 E0 (bl []) [] [] []) e5 VS5 NS5 p5 (last3+1) (hM5.put n4 _) (e4) (ai _ _ _) (.agg (leLend nm pa)) rfl (by omega) (c2.up (by omega)) (by omega) (by omega) (by omega) (by omega)
 have sSet:∀(E:Env),E 0=.ptr m 0->E 4=.ptr b4 0->∀A:Env->aj->Prop,aW.wp P (kd22) (cS.inBlock 0 (cS.then A (bm.post [.cell 4 (some 15)] (fun q H'=>∃e' v' VS' NS' p' last',StR (jy d) d v p last (ik d) q v' p' last'/\de H' m r bs e' v' VS' NS' p' last')))) E H2:=by
  intro E e0 e4 A
  rw[kd22,fd22]
  simp only[go_sem,rE,rA,e0]
  refine ed (iK L m r bs hbs v hv.ok p2 last (by omega) (by omega)) hM2 (rfl) (.refl _) (by simp) trivial ?_
  rintro q e3 v3 VS3 NS3 p3 last3 H3 fp3 ⟨⟨pa,u,rfl,hpa,hu⟩,rfl,hp3,hp3',rfl⟩ hM3 hk3 -
  obtain⟨g4,n4⟩:=hk3 _ _ g4 n4
  simp only[go_sem,rE,rA,Ty.enc_eq u,Pl.enc]
  intro b5 hb5 b6 hb6
  have hb6':=tN hb6 (.cells [S pa.name,au pa.path])
  obtain⟨stay,ga,gb,d56⟩:=nD (c:=.cells [S pa.name,au pa.path]) (c':=.cells [.sl 1 none (Ty.encs u.kids)]) hb5 hb6'
  have hM4:=(hM3.new hb5 (.cells [S pa.name,au pa.path])).new hb6' (.cells [.sl 1 none (Ty.encs u.kids)])
  have n5:=hM3.notin hb5
  have g4:=stay g4
  simp only[go_sem,rE,rA,d56,Ne.symm d56,mg d56]
  generalize((H3.set b5 (.cells [S pa.name,au pa.path])).set b6 (.cells [.sl 1 none (Ty.encs u.kids)]))=H4 at*
  simp only[go_sem,rE,rA,e0,ga,gb,rL]
  refine ed (jS L m r bs hbs v3 hv.ok last3 3 (by omega) u 3 hu (by omega) (by omega) p3 (by omega) (by simp[eL];omega)) hM4 (by simp only[go_sem,rE,Ty.enc_eq u]) (.refl _) (fun _=>gJ _ _ _ _ (by simp[eL])) (by simp[dQ];exact n5) ?_
  rintro q e5 v5 VS5 NS5 p5 last5 H5 fp5 ⟨⟨x,rfl,hx,hxsm⟩,rfl,hp5,hp5',rfl⟩ hM5 hk5 -
  simp only[eL]at hp5'
  obtain⟨g4,n4⟩:=hk5 _ _ g4 n4
  simp only[go_sem,rE,rA,e4,Ex.enc_eq x,g4,rL]
  obtain⟨c1,c2⟩:=lS 3 (bl []) pa P0 x hxsm
  exact fin _ _ _ (.mk 3 (bl []) pa P0 x (bl []) [] [] []) e5 VS5 NS5 p5 last5 (hM5.put n4 _) (e4) (ai _ _ _) (by have:=leSet pa x;rw[Ex.enc_eq x]at this;exact .agg this) rfl (by omega) (c2.up (by omega)) (by omega) (by omega) (by omega) (by omega)
 have sCall:∀(E:Env),E 0=.ptr m 0->E 4=.ptr b4 0->∀A:Env->aj->Prop,aW.wp P (kd23) (cS.inBlock 0 (cS.then A (bm.post [.cell 4 (some 15)] (fun q H'=>∃e' v' VS' NS' p' last',StR (jy d) d v p last (ik d) q v' p' last'/\de H' m r bs e' v' VS' NS' p' last')))) E H2:=by
  intro E e0 e4 A
  rw[kd23,fd23]
  simp only[go_sem,rE,rA,e0]
  refine ed (B3 L m r bs hbs v N hv p2 last hl (by omega) (by omega) (by omega)) hM2 (rfl) (.refl _) (by simp) trivial ?_
  rintro q e3 v3 VS3 NS3 p3 last3 H3 fp3 ⟨⟨st,rfl,hst1,hst2⟩,rfl,h1,h2,h3,h4⟩ hM3 hk3 -
  obtain⟨g4,n4⟩:=hk3 _ _ g4 n4
  obtain⟨cs,hcs,C⟩:=stC st
  simp only[hcs,go_sem,rE,rA,e4,g4,C.len,rL]
  exact fin _ _ cs st e3 VS3 NS3 p3 last3 (hM3.put n4 _) (e4) (ai _ _ _) (by rw[hcs];exact .refl _) C.len (by omega) (hst2.up (by omega)) (by omega) (by omega) (by omega) (by omega)
 have sSet2:∀(E:Env),E 0=.ptr m 0->E 4=.ptr b4 0->∀A:Env->aj->Prop,aW.wp P (kd24) (cS.then A (bm.post [.cell 4 (some 15)] (fun q H'=>∃e' v' VS' NS' p' last',StR (jy d) d v p last (ik d) q v' p' last'/\de H' m r bs e' v' VS' NS' p' last'))) E H2:=by
  intro E e0 e4 A
  rw[kd24,fd24]
  simp only[go_sem,rE,rA,e0]
  refine ed (iK L m r bs hbs v hv.ok p2 last (by omega) (by omega)) hM2 (rfl) (.refl _) (by simp) trivial ?_
  rintro q e3 v3 VS3 NS3 p3 last3 H3 fp3 ⟨⟨pa,u,rfl,hpa,hu⟩,rfl,hp3,hp3',rfl⟩ hM3 hk3 -
  obtain⟨g4,n4⟩:=hk3 _ _ g4 n4
  simp only[go_sem,rE,rA,Ty.enc_eq u,Pl.enc]
  intro b5 hb5 b6 hb6
  have hb6':=tN hb6 (.cells [S pa.name,au pa.path])
  obtain⟨stay,ga,gb,d56⟩:=nD (c:=.cells [S pa.name,au pa.path]) (c':=.cells [.sl 1 none (Ty.encs u.kids)]) hb5 hb6'
  have hM4:=(hM3.new hb5 (.cells [S pa.name,au pa.path])).new hb6' (.cells [.sl 1 none (Ty.encs u.kids)])
  have n5:=hM3.notin hb5
  have g4:=stay g4
  simp only[go_sem,rE,rA,d56,Ne.symm d56,mg d56]
  generalize((H3.set b5 (.cells [S pa.name,au pa.path])).set b6 (.cells [.sl 1 none (Ty.encs u.kids)]))=H4 at*
  simp only[go_sem,rE,rA,e0,ga,gb,rL]
  refine ed (jS L m r bs hbs v3 hv.ok last3 2 (by omega) u 2 hu (by omega) (by omega) p3 (by omega) (by simp[eL];omega)) hM4 (by simp only[go_sem,rE,Ty.enc_eq u]) (.refl _) (fun _=>gJ _ _ _ _ (by simp[eL])) (by simp[dQ];exact n5) ?_
  rintro q e5 v5 VS5 NS5 p5 last5 H5 fp5 ⟨⟨x,rfl,hx,hxsm⟩,rfl,hp5,hp5',rfl⟩ hM5 hk5 -
  simp only[eL]at hp5'
  obtain⟨g4,n4⟩:=hk5 _ _ g4 n4
  simp only[go_sem,rE,rA,e4,Ex.enc_eq x,g4,rL]
  obtain⟨c1,c2⟩:=lS 3 (bl []) pa P0 x hxsm
  exact fin _ _ _ (.mk 3 (bl []) pa P0 x (bl []) [] [] []) e5 VS5 NS5 p5 last5 (hM5.put n4 _) (e4) (ai _ _ _) (by have:=leSet pa x;rw[Ex.enc_eq x]at this;exact .agg this) rfl (by omega) (c2.up (by omega)) (by omega) (by omega) (by omega) (by omega)
 have sIf:∀d',d=d'+1->∀(E:Env),E 0=.ptr m 0->E 1=I (d+1:Nat)->E 4=.ptr b4 0->aW.wp P (kd25) (bm.post [.cell 4 (some 15)] (fun q H'=>∃e' v' VS' NS' p' last',StR (jy d) d v p last (ik d) q v' p' last'/\de H' m r bs e' v' VS' NS' p' last')) E H2:=by
  intro d' hdd E e0 e1 e4
  rw[kd25,fd25]
  have hbd:=hbody d' hdd
  have hcd:jy d=6+5*jy d':=by rw[hdd,jy]
  have hsd:ik d=20000+36*ik d':=by rw[hdd,ik]
  have hd1:((d+1:Nat):Int) - 1=((d'+1:Nat):Int):=by omega
  have w0:=aJ (n:=((d+1:Nat):Int) - 1) (by omega) (by omega)
  rw[hd1]at w0
  have hscd:=sW d'
  simp only[go_sem,rE,rA,e0]
  refine ed (as':=[.ptr m 0,.agg [NIL],I 3]) (jS L m r bs hbs v hv.ok last 3 (by omega) (.mk []) 3 dU (by omega) (by omega) p2 (by omega) (by simp[eL];omega)) hM2 (rfl) ⟨.refl _,fu,.refl _,trivial⟩ (by simp) trivial ?_
  rintro q e3 v3 VS3 NS3 p3 last3 H3 fp3 ⟨⟨x,rfl,hx,hxsm⟩,rfl,hp3,hp3',rfl⟩ hM3 hk3 -
  simp only[eL]at hp3'
  obtain⟨g4,n4⟩:=hk3 _ _ g4 n4
  simp only[go_sem,rE,rA,e4,Ex.enc_eq x,rL]
  intro b11 hb11
  have n11:=hM3.notin hb11
  have d411:=al g4 hb11
  let C:AC->AC->List AC:=fun t l=>[I 5,S (bl []),S (bl []),NIL,S (bl []),NIL,I x.kind,I x.num,S x.place.name,au x.place.path,.sl 5 none (Ex.encs x.kids),S (bl []),NIL,t,l]
  have hM4:=hM3.new hb11 (.cells (C NIL NIL))
  have g11:(H3.set b11 (.cells (C NIL NIL))).get b11=some (.cells (C NIL NIL)):=ai _ _ _
  have g4:(H3.set b11 (.cells (C NIL NIL))).get b4=_:=(ae _ _ d411).trans g4
  have hom:=hM4.obj
  simp only[C]at hom g11 g4 hM4
  simp only[go_sem,rE,rA,e0,Ex.enc_eq x,rL]
  generalize(H3.set b11 (.cells [I 5,S (bl []),S (bl []),NIL,S (bl []),NIL,I x.kind,I x.num,S x.place.name,au x.place.path,.sl 5 none (Ex.encs x.kids),S (bl []),NIL,NIL,NIL]))=H4 at*
  clear hM3 hb11 hk3
  simp only[go_sem,rE,rA,e0,hom]
  refine sX L hM4.env (by have:=hv.vl;omega) (by have:=hv.nl;omega) (rfl) (by simp[dQ];exact hM4.nm) ?_
  intro a VSa NSa H5 fp5 hEa hs5 hnew hf5
  have hM5:de H5 m r bs e3 v3 VS3 NS3 p3 last3:=hM4.mono fun b hb=>by obtain⟨o,ho⟩:=aH.1 (hM4.mem hb);rw[hs5 _ _ ho,ho]
  have old:∀{b o},H4.get b=some o->¬aP a VSa NSa b:=fun hb h=>by have:=hnew _ h;rw[hb]at this;simp at this
  have na4:=old g4
  have na11:=old g11
  have nam:=old hom
  have nar:=old hM4.rd
  have nae:∀b,aP e3 VS3 NS3 b->¬aP a VSa NSa b:=fun b hb h=>hM4.env.mem hb (hnew _ h)
  have g4:=hs5 _ _ g4
  have g11:=hs5 _ _ g11
  have nfm:¬fp5 m:=fun h=>by
   rcases hf5 _ h with h|h
   ·exact hM4.nm h
   ·rw[hom]at h;simp at h
  have hom:=hs5 _ _ hom
  clear hM4 hs5 hnew hf5 old
  simp only[go_sem,rE,rA,rL,e0,hom]
  refine⟨by simp;exact nfm,?_⟩
  intro b12 hb12
  have dm12:=al hom hb12
  have dr12:=al hM5.rd hb12
  have d412:=al g4 hb12
  have d1112:=al g11 hb12
  have hMx:de (H5.set b12 (.cells [.ptr r 0,.ptr a 0,I last3])) b12 r bs a v3 VSa NSa p3 last3:=
   ⟨ai _ _ _,by rw[ae _ _ dr12];exact hM5.rd,hEa.new hb12 _,Ne.symm dr12,hEa.notin hb12,nar⟩
  have hMm:=hM5.new hb12 (.cells [.ptr r 0,.ptr a 0,I last3])
  have nme:¬aP e3 VS3 NS3 b12:=hM5.env.notin hb12
  have g4:(H5.set b12 (.cells [.ptr r 0,.ptr a 0,I last3])).get b4=_:=(ae _ _ d412).trans g4
  have g11:(H5.set b12 (.cells [.ptr r 0,.ptr a 0,I last3])).get b11=_:=(ae _ _ d1112).trans g11
  have hom:=hMm.obj
  generalize(H5.set b12 (.cells [.ptr r 0,.ptr a 0,I last3]))=H6 at*
  clear hM5 hEa hb12
  simp only[go_sem,rE,rA,e0,e1,hom]
  refine ba (cv L r bs p3 3 hbs (by omega) (by omega)) (rfl) hMx.rd (by simp) trivial ?_
  rintro q p7 hp7 hp7' ⟨k7,rfl,hk70,hk71⟩
  have hEm:bE (H6.set r (RdO bs p7)) e3 v3 VS3 NS3:=hMm.env.mono fun b hb=>ae _ _ (by rintro rfl;exact hMm.nr hb)
  have hMx:=hMx.setR p7
  have n4r:b4≠r:=d4r
  have n11r:b11≠r:=fun h=>n11 (.inr (.inl h))
  have g4:(H6.set r (RdO bs p7)).get b4=_:=(ae _ _ n4r).trans g4
  have g11:(H6.set r (RdO bs p7)).get b11=_:=(ae _ _ n11r).trans g11
  have hom:(H6.set r (RdO bs p7)).get m=_:=(ae _ _ hmr).trans hom
  have nm_:=hMm.nm
  have nr_:=hMm.nr
  generalize H6.set r (RdO bs p7)=H7 at*
  clear hMm
  have w7:=aJ (n:=1+k7) (by omega) (by omega)
  have hk7n:1+k7=((1+k7.toNat:Nat):Int):=by omega
  have hkc:(1+k7.toNat)*jy d'<=3*jy d':=bH _ (by omega)
  simp only[go_sem,rE,rA,e0,e1,w7,hd1,w0]
  refine ed (hbd b12 r bs hbs v3 N (1+k7.toNat) hv (by omega) (by omega) p7 last3 (by omega) (by omega) (by omega) (by omega)) hMx (by simp only[go_sem,rE,hk7n]) (.refl _) (by simp) trivial ?_
  rintro q a8 vx VSx NSx p8 lastx H8 fp8 ⟨⟨l1,rfl,hl1a,hl1b,hl1c⟩,⟨hvx,hvx2,hvx3⟩,hp8,hp8',hlx,hlx'⟩ hMx8 hk8 -
  have tx:∀{b},b≠b12->b≠r->¬aP a VSa NSa b->¬cJ b12 r a VSa NSa b:=by
   rintro b h1 h2 h3 (h|h|h)
   ·exact h1 h
   ·exact h2 h
   ·exact h3 h
  obtain⟨g4,n4x⟩:=hk8 _ _ g4 (tx d412 n4r na4)
  obtain⟨g11,n11x⟩:=hk8 _ _ g11 (tx d1112 n11r na11)
  obtain⟨hom,nmx⟩:=hk8 _ _ hom (tx dm12 hmr nam)
  obtain⟨hEm,nex⟩:=hEm.keep hk8 fun b hb=>tx (by rintro rfl;exact nme hb) (by rintro rfl;exact nr_ hb) (nae _ hb)
  clear hk8 hMx
  simp only[go_sem,rE,rA,g11,rL]
  have hMx9:=hMx8.put n11x (.cells (C (.sl 15 none (l1.map St.enc)) NIL))
  have hEm9:bE (H8.set b11 (.cells (C (.sl 15 none (l1.map St.enc)) NIL))) e3 v3 VS3 NS3:=hEm.mono fun b hb=>ae _ _ (by rintro rfl;exact n11 (.inr (.inr hb)))
  have g49:(H8.set b11 (.cells (C (.sl 15 none (l1.map St.enc)) NIL))).get b4=_:=(ae _ _ d411).trans g4
  have d11m:m≠b11:=fun h=>n11 (.inl h.symm)
  have hom9:(H8.set b11 (.cells (C (.sl 15 none (l1.map St.enc)) NIL))).get m=_:=(ae _ _ d11m).trans hom
  have g119:(H8.set b11 (.cells (C (.sl 15 none (l1.map St.enc)) NIL))).get b11=_:=ai _ _ _
  clear g4 g11 hom hEm hMx8
  simp only[C]at hMx9 hEm9 g49 hom9 g119
  generalize(H8.set b11 (.cells [I 5,S (bl []),S (bl []),NIL,S (bl []),NIL,I x.kind,I x.num,S x.place.name,au x.place.path,.sl 5 none (Ex.encs x.kids),S (bl []),NIL,.sl 15 none (l1.map St.enc),NIL]))=H9 at*
  have hx9:=hMx9.obj
  simp only[go_sem,rE,rA,e0,hom9]
  refine sX L hEm9 (by have:=hv.vl;omega) (by have:=hv.nl;omega) (rfl) (by simp[dQ];exact nm_) ?_
  intro a2 VSb NSb H10 fp10 hEb hs10 hnew hf10
  have hEm10:bE H10 e3 v3 VS3 NS3:=hEm9.sub hs10
  have old:∀{b o},H9.get b=some o->¬aP a2 VSb NSb b:=fun hb h=>by have:=hnew _ h;rw[hb]at this;simp at this
  have na4:=old g49
  have na11:=old g119
  have nam:=old hom9
  have nar:=old hMx9.rd
  have nae:∀b,aP e3 VS3 NS3 b->¬aP a2 VSb NSb b:=fun b hb h=>hEm9.mem hb (hnew _ h)
  have hr10:=hs10 _ _ hMx9.rd
  have g4:=hs10 _ _ g49
  have g11:=hs10 _ _ g119
  have nfm:¬fp10 m:=fun h=>by
   rcases hf10 _ h with h|h
   ·exact nm_ h
   ·rw[hom9]at h;simp at h
  have nfx:¬fp10 b12:=fun h=>by
   rcases hf10 _ h with h|h
   ·exact nme h
   ·rw[hx9]at h;simp at h
  have hx10:=hs10 _ _ hx9
  have hom:=hs10 _ _ hom9
  clear hEm9 hMx9 hs10 hnew hf10 old g49 g119 hom9 hx9
  simp only[go_sem,rE,rA,rL,e0,hom,hx10]
  refine⟨by simp;exact nfx,?_⟩
  intro b13 hb13
  have dm13:=al hom hb13
  have dr13:=al hr10 hb13
  have d413:=al g4 hb13
  have d1113:=al g11 hb13
  have hMy:de (H10.set b13 (.cells [.ptr r 0,.ptr a2 0,I lastx])) b13 r bs a2 v3 VSb NSb p8 lastx:=
   ⟨ai _ _ _,by rw[ae _ _ dr13];exact hr10,hEb.new hb13 _,Ne.symm dr13,hEb.notin hb13,nar⟩
  have hEm:=hEm10.new hb13 (.cells [.ptr r 0,.ptr a2 0,I lastx])
  have nye:¬aP e3 VS3 NS3 b13:=hEm10.notin hb13
  have g4:(H10.set b13 (.cells [.ptr r 0,.ptr a2 0,I lastx])).get b4=_:=(ae _ _ d413).trans g4
  have g11:(H10.set b13 (.cells [.ptr r 0,.ptr a2 0,I lastx])).get b11=_:=(ae _ _ d1113).trans g11
  have hom:(H10.set b13 (.cells [.ptr r 0,.ptr a2 0,I lastx])).get m=_:=(ae _ _ dm13).trans hom
  generalize(H10.set b13 (.cells [.ptr r 0,.ptr a2 0,I lastx]))=H11 at*
  clear hEm10 hEb hb13 hx10
  simp only[go_sem,rE,rA,e0,e1,hom]
  refine ba (cv L r bs p8 3 hbs (by omega) (by omega)) (rfl) hMy.rd (by simp) trivial ?_
  rintro q p12 hp12 hp12' ⟨k12,rfl,hk120,hk121⟩
  have hEm:bE (H11.set r (RdO bs p12)) e3 v3 VS3 NS3:=hEm.mono fun b hb=>ae _ _ (by rintro rfl;exact nr_ hb)
  have hMy:=hMy.setR p12
  have g4:(H11.set r (RdO bs p12)).get b4=_:=(ae _ _ n4r).trans g4
  have g11:(H11.set r (RdO bs p12)).get b11=_:=(ae _ _ n11r).trans g11
  have hom:(H11.set r (RdO bs p12)).get m=_:=(ae _ _ hmr).trans hom
  generalize H11.set r (RdO bs p12)=H12 at*
  have hk12n:k12=((k12.toNat:Nat):Int):=by omega
  have hkc2:k12.toNat*jy d'<=2*jy d':=bH _ (by omega)
  simp only[go_sem,rE,rA,e0,e1,hd1,w0]
  refine ed (hbd b13 r bs hbs v3 N k12.toNat hv (by omega) (by omega) p12 lastx (by omega) (by omega) (by omega) (by omega)) hMy (by simp only[go_sem,rE,<-hk12n]) (.refl _) (by simp) trivial ?_
  rintro q a13 vy VSy NSy p13 lasty H13 fp13 ⟨⟨l2,rfl,hl2a,hl2b,hl2c⟩,⟨hvy,hvy2,hvy3⟩,hp13,hp13',hly,hly'⟩ hMy13 hk13 -
  have ty:∀{b},b≠b13->b≠r->¬aP a2 VSb NSb b->¬cJ b13 r a2 VSb NSb b:=by
   rintro b h1 h2 h3 (h|h|h)
   ·exact h1 h
   ·exact h2 h
   ·exact h3 h
  obtain⟨g4,n4y⟩:=hk13 _ _ g4 (ty d413 n4r na4)
  obtain⟨g11,n11y⟩:=hk13 _ _ g11 (ty d1113 n11r na11)
  obtain⟨hom,nmy⟩:=hk13 _ _ hom (ty dm13 hmr nam)
  obtain⟨hEm,ney⟩:=hEm.keep hk13 fun b hb=>ty (by rintro rfl;exact nye hb) (by rintro rfl;exact nr_ hb) (nae _ hb)
  clear hk13 hMy
  have hoy:=hMy13.obj
  have hry:=hMy13.rd
  have d13m:b13≠m:=fun h=>nmy (.inl h.symm)
  have d1311:b13≠b11:=fun h=>n11y (.inl h.symm)
  simp only[go_sem,rE,rA,e0,e4,g11,g4,hom,hoy,d13m,Ne.symm d13m,d1311,Ne.symm d1311,d11m,Ne.symm d11m,d411,Ne.symm d411,dmr,Ne.symm dmr,rL]
  have hMm:de H13 m r bs e3 v3 VS3 NS3 p13 last3:=⟨hom,hry,hEm,hmr,nm_,nr_⟩
  refine fin _ _ _ (.mk 5 (bl []) P0 P0 x (bl []) [] l1 l2) e3 VS3 NS3 p13 lasty (((hMm.put n11 _).setL lasty).put n4 _) (e4) (ai _ _ _) (by have:=leIf x l1 l2;rw[Ex.enc_eq x]at this;exact .agg this) rfl ?_ (by rw[hdd];exact .mk hxsm (by simp) hl1c hl2c) (by omega) (by omega) (by omega) (by omega)
  rw[dI]
  simp[St.args,St.thn,St.els]
  omega
 have rest:∀(E:Env),E 0=.ptr m 0->E 1=I (d+1:Nat)->E 4=.ptr b4 0->aW.wp P (kd26) (bm.post [.cell 4 (some 15)] (fun q H'=>∃e' v' VS' NS' p' last',StR (jy d) d v p last (ik d) q v' p' last'/\de H' m r bs e' v' VS' NS' p' last')) E H2:=by
  intro E e0 e1 e4
  rw[kd26,fd26]
  by_cases hd0:d=0
  ·have:((d+1:Nat):Int)<2:=by omega
   simp only[go_sem,rE,rA,e1,this,decide_true]
   exact sSet2 _ (by simp only[go_sem,rE,e0]) (by simp only[go_sem,rE,e4]) _
  ·have:¬((d+1:Nat):Int)<2:=by omega
   simp only[go_sem,rE,rA,e1,this,decide_false]
   exact sIf (d - 1) (by omega) _ (e0) (e1) (e4)
 have hk:k2=0\/k2=1\/k2=2\/k2=3\/k2=4\/k2=5\/k2=6\/k2=7\/k2=8\/k2=9\/k2=10\/k2=11:=by omega
 rcases hk with rfl|rfl|rfl|rfl|rfl|rfl|rfl|rfl|rfl|rfl|rfl|rfl
 all_goals simp only[go_sem,rE,rA,aG]
 ·exact sLet _ (by first|rfl|simp only[go_sem,rE]) (by first|rfl|simp only[go_sem,rE]) _
 ·exact sLend _ (by first|rfl|simp only[go_sem,rE]) (by first|rfl|simp only[go_sem,rE]) _
 ·exact sLend _ (by first|rfl|simp only[go_sem,rE]) (by first|rfl|simp only[go_sem,rE]) _
 ·exact sLend _ (by first|rfl|simp only[go_sem,rE]) (by first|rfl|simp only[go_sem,rE]) _
 ·exact sSet _ (by first|rfl|simp only[go_sem,rE]) (by first|rfl|simp only[go_sem,rE]) _
 ·exact sSet _ (by first|rfl|simp only[go_sem,rE]) (by first|rfl|simp only[go_sem,rE]) _
 ·exact sSet _ (by first|rfl|simp only[go_sem,rE]) (by first|rfl|simp only[go_sem,rE]) _
 ·exact sCall _ (by first|rfl|simp only[go_sem,rE]) (by first|rfl|simp only[go_sem,rE]) _
 ·exact sCall _ (by first|rfl|simp only[go_sem,rE]) (by first|rfl|simp only[go_sem,rE]) _
 ·exact sCall _ (by first|rfl|simp only[go_sem,rE]) (by first|rfl|simp only[go_sem,rE]) _
 ·exact rest _ (by first|rfl|simp only[go_sem,rE]) (by first|rfl|simp only[go_sem,rE]) (by first|rfl|simp only[go_sem,rE])
 ·exact rest _ (by first|rfl|simp only[go_sem,rE]) (by first|rfl|simp only[go_sem,rE]) (by first|rfl|simp only[go_sem,rE])
theorem tm(L:Lib P F):∀d,d<=20->BP P F d
 |0,h=>to L 0 h (by intro d' h;omega)
 |d+1,h=>to L (d+1) h fun d' hd=>by
  have:d'=d:=by omega
  subst this
  exact vJ L d' (by omega) (tm L d' (by omega))
theorem zB(L:Lib P F)(d:Nat)(h:d<=20):BV P F d:=vJ L d h (tm L d h)
end
def FC:Int:=10^12
structure Fu.good(f:Fu):Prop where
 okS:f.okS
 pars:0<f.params.length/\f.params.length<=4
 blen:f.body.length<=6
 body:bG f.body<=966
 sms:∀s∈f.body,s.sm 3
 says:f.says.sm
structure oI(H:aj)(r:Nat)(bs:List UInt8)(p:Int)(b4 b6:Nat)(c6:List AC):Prop where
 rd:H.get r=some (RdO bs p)
 z:H.get b4=some (.cells [S (bl []),NIL,B false,NIL,NIL,I 0,I 0,S (bl []),NIL,NIL,S (bl []),NIL])
 f:H.get b6=some (.cells c6)
theorem oI.mono{H H':aj}{r:Nat}{bs:List UInt8}{p:Int}{b4 b6:Nat}{c6:List AC}(h:oI H r bs p b4 b6 c6)(hk:∀d,(d=r\/d=b4\/d=b6)->H'.get d=H.get d):oI H' r bs p b4 b6 c6:=
 ⟨(hk r (.inl rfl)).trans h.rd,(hk b4 (.inr (.inl rfl))).trans h.z,(hk b6 (.inr (.inr rfl))).trans h.f⟩
theorem oI.new{H:aj}{r:Nat}{bs:List UInt8}{p:Int}{b4 b6:Nat}{c6:List AC}(h:oI H r bs p b4 b6 c6){b:Nat}(hb:H.get b=none)(o:cQ):oI (H.set b o) r bs p b4 b6 c6:=
 h.mono fun d hd=>ae _ _ (by
  rintro rfl
  rcases hd with rfl|rfl|rfl
  ·rw[h.rd]at hb;simp at hb
  ·rw[h.z]at hb;simp at hb
  ·rw[h.f]at hb;simp at hb)
theorem sY{b m r e:Nat}{VS NS:AC}(h1:b≠m)(h2:b≠r)(h3:¬aP e VS NS b):¬cJ m r e VS NS b:=by
 rintro(h|h|h)
 ·exact h1 h
 ·exact h2 h
 ·exact h3 h
theorem Bg(f:Fu):∀x∈f.enc,x.one=true:=by
 rw[Fu.enc,Ty.enc_eq,Ex.enc_eq];simp[AC.one,au,Pl.enc]
theorem um:∀p:List Fu,LeR (p.map Fu.enc) (p.map Fu.enc)
 |[]=>trivial
 |f::p=>⟨.refl (Bg f),um p⟩
theorem AU(f:Fu){X T Bd s1 s2 s3 s4 s5 g1 g2:AC}(hX:Le X (.sl 3 none (f.params.map Pa.enc)))(hT:Le T (.sl 1 none (Ty.encs f.type.kids)))(hB:Le Bd (.sl 15 none (St.encs f.body)))(hs:LeC [s1,s2,s3,s4,s5] f.says.enc)(hg:LeC [g1,g2] f.gives.enc):
 LeC [S f.name,X,B f.lent,T,Bd,s1,s2,s3,s4,s5,g1,g2] f.enc:=by
 rw[Ex.enc_eq]at hs
 rw[Fu.enc,Ty.enc_eq f.type,Ex.enc_eq f.says]
 obtain⟨h1,h2,h3,h4,h5,-⟩:=hs
 obtain⟨h6,h7,-⟩:=hg
 exact⟨⟨.refl _,rfl⟩,⟨hX,rfl⟩,⟨.refl _,rfl⟩,⟨hT,rfl⟩,⟨hB,rfl⟩,h1,h2,h3,h4,h5,h6,h7,trivial⟩
theorem As(p:Pg)(f:Fu)(hp:∀g∈p,g.okS/\g.params.length<=4)(hf:f.okS)(hpl:p.length<=4)(h1:1<=f.params.length)(h2:f.params.length<=4):(cz (p++[f]) p.length).dr 4:=by
 have hst:cz (p++[f]) p.length=(⟨p++[f],p.length,[],[],0⟩:En).givens f.params:=by simp[cz]
 have hup:=qy (p++[f]) p.length
 rw[hst]at hup⊢
 obtain⟨g1,g2,g3,g4⟩:=kR f.params (⟨p++[f],p.length,[],[],0⟩:En)
 refine⟨⟨by rw[g3];simp;omega,fun x hx=>?_⟩,hup,by rw[g3];simp;omega,by rw[g3];simp;omega,by rw[g4];simp;omega,fun g hg=>?_,by rw[g1];simp;omega,by rw[g1,g2];simp⟩
 ·rw[g3]at hx
  simp at hx
  obtain⟨y,hy,rfl⟩:=hx
  exact⟨⟨by simp[Pa.vr],by simp[Pa.vr]⟩,(hf.params y hy).type⟩
 ·rw[g1]at hg
  simp at hg
  rcases hg with hg|rfl
  ·exact hp g hg
  ·exact⟨hf,h2⟩
section
variable {P:Program}{F:Ids}
theorem pH(L:Lib P F){K:Env->aj->Prop}{xs:List aM}{E:Env}{H:aj}{l:Lds}{f:Fps}{i:Nat}{args:List aI}{d:Option Nat}(p:Pg)(fn:Nat)(hfn:fn<p.length)(hpl:p.length<=2^20)(hpa:(p[fn]).params.length<=2^20){as':List AC}
(ha:args.map (aI.ev E)=as')(hle:LeA as' [.agg (Pg.enc p),I fn])
(h:∀a VS NS H1 fp,bE H1 a (cz p fn) VS NS->H.sub H1->(∀d,aP a VS NS d->H.get d=none)->bF P false K xs (E.put d (.ptr a 0)) H1 l ((i,fp)::f)):
 bF P false K (⟨i,d,none,.eff (.call 45 args),[]⟩::xs) E H l f:=by
 have h0:H.only (fun _=>False)=.empty:=aj.ext fun b=>by rw[cq (by simp)];rfl
 have hc:=c_start L p fn hfn hpl hpa
 rw[<-h0]at hc
 refine gQ (fun _=>False) hc ha hle (by simp) trivial ?_
 rintro q H' H1 ⟨a,VS,NS,rfl,hE⟩ hsub hafter hnew -
 refine h a VS NS H1 _ (hE.sub hsub) (fun b o hb=>?_) (fun d hd=>?_)
 ·rw[hafter.out b (by simp) (by rw[hb];simp)];exact hb
 ·rcases hnew d (hE.mem hd)with h|h
  ·exact h.elim
  ·exact h
theorem fn_tail(L:Lib P F)(r:Nat)(bs:List UInt8)(hbs:bs.length<=2000)(nm:ByteArray)(ps:List Pa)(bd:List St)(v:En)(N:Nat)(hv:v.dr N)(hN:N<=2^19)(p:Int)(hp:0<=p)(hp2:p+FC<=2^50)
(hps:∀x∈ps,x.ok)(hpl:0<ps.length/\ps.length<=4)(hbl:bd.length<=6)(hbd:bG bd<=966)(hbs2:∀s∈bd,s.sm 3)(b4 b6 b10 e:Nat)(VS NS X:AC)(p1 last:Int)(E:Env)(H:aj)(hM:de H b10 r bs e v VS NS p1 last)(d46:b4≠b6)
(g4:H.get b4=some (.cells [S (bl []),NIL,B false,NIL,NIL,I 0,I 0,S (bl []),NIL,NIL,S (bl []),NIL]))(g6:H.get b6=some (.cells [S nm,X,B false,NIL,.sl 15 none (bd.map St.enc),I 0,I 0,S (bl []),NIL,NIL,S (bl []),NIL]))(n4:¬cJ b10 r e VS NS b4)(n6:¬cJ b10 r e VS NS b6)
(e0:E 0=.ptr r 0)(e4:E 4=.ptr b4 0)(e6:E 6=.ptr b6 0)(e10:E 10=.ptr b10 0)(hX:Le X (.sl 3 none (ps.map Pa.enc)))(hp1:p<=p1)(hp1':p1<=p+10^11)(hl0:0<=last):
 aW.wp P (kd28) (bm.post [.cell 4 (some 12)] (RdR r bs p FC fun q=>∃f:Fu,q=.agg f.enc/\f.good)) E H:=by
 rw[kd28,fd28]
 simp only[FC]at hp2
 have fin:∀(E':Env) (H':aj) (c6:List AC) (f:Fu) (p':Int),H'.get r=some (RdO bs p')->E' 4=.ptr b4 0->b4≠r->LeC c6 f.enc->c6.length=12->f.good->p<=p'->p'<=p+FC->(bm.post [.cell 4 (some 12)] (RdR r bs p FC fun q=>∃f:Fu,q=.agg f.enc/\f.good)) .ret E' (H'.set b4 (.cells c6)):=by
  intro E' H' c6 f p' hr h4 hn hle hlen hg h1 h2
  exact bT (q':=.agg f.enc) (off:=0) h4 (ai _ _ _) (by simp[fM,hlen,cM (Nat.le_of_eq hlen)]) (.agg hle) (eU (by rw[ae _ _ (Ne.symm hn)];exact hr)) ⟨p',h1,h2,rfl,f,rfl,hg⟩
 have d4r:b4≠r:=fun h=>n4 (.inr (.inl h))
 have d6r:b6≠r:=fun h=>n6 (.inr (.inl h))
 have tail2:∀(E:Env) (H:aj) (e:Nat) (VS NS:AC) (p1 last:Int),de H b10 r bs e v VS NS p1 last->H.get b4=some (.cells [S (bl []),NIL,B false,NIL,NIL,I 0,I 0,S (bl []),NIL,NIL,S (bl []),NIL])->H.get b6=some (.cells [S nm,X,B false,NIL,.sl 15 none (bd.map St.enc),I 0,I 0,S (bl []),NIL,NIL,S (bl []),NIL])->
  ¬cJ b10 r e VS NS b4->¬cJ b10 r e VS NS b6->E 0=.ptr r 0->E 4=.ptr b4 0->E 6=.ptr b6 0->E 10=.ptr b10 0->p<=p1->p1<=p+10^11+1000->0<=last->
  aW.wp P (kd27) (bm.post [.cell 4 (some 12)] (RdR r bs p FC fun q=>∃f:Fu,q=.agg f.enc/\f.good)) E H:=by
  intro E H e VS NS p1 last hM g4 g6 n4 n6 e0 e4 e6 e10 hp1 hp1' hl0
  rw[kd27,fd27]
  simp only[go_sem,rE,rA]
  let J:Nat->Env->aj->Prop:=fun k E H=>∃(e:Nat) (VS NS:AC) (p':Int) (T s1 s2 s3 s4 s5:AC),de H b10 r bs e v VS NS p' last/\H.get b4=some (.cells [S (bl []),NIL,B false,NIL,NIL,I 0,I 0,S (bl []),NIL,NIL,S (bl []),NIL])/\H.get b6=some (.cells [S nm,X,B false,T,.sl 15 none (bd.map St.enc),s1,s2,s3,s4,s5,S (bl []),NIL])/\
   ¬cJ b10 r e VS NS b4/\¬cJ b10 r e VS NS b6/\p<=p'/\p'<=p+10^11+1000+5000*k/\E 0=.ptr r 0/\E 4=.ptr b4 0/\E 6=.ptr b6 0/\E 10=.ptr b10 0/\E 15=I k
  refine aQ 6 J ⟨e,VS,NS,p1,_,_,_,_,_,_,hM,g4,g6,n4,n6,hp1,by omega,e0,e4,e6,e10,rfl⟩ ?_
  clear hM g4 g6 n4 n6 e0 e4 e6 e10
  rintro k E H hk ⟨e,VS,NS,p',T,s1,s2,s3,s4,s5,hM,g4,g6,n4,n6,hp1,hp1',e0,e4,e6,e10,e15⟩
  simp only[wp_seq,go_sem,rE,rA,e15]
  refine aE (fun hlt=>?_) (fun hge=>?_)
  ·have w1:=aJ (n:=(k:Int)+1) (by omega) (by omega)
   simp only[go_sem,rE,rA,e0]
   refine ba (ky L r bs hbs 3 3 (by omega) (by omega) p' (by omega) (by simp[ff];omega)) (rfl) hM.rd (by simp) trivial ?_
   rintro q p2 hp2 hp2' ⟨t,rfl,ht⟩
   simp only[ff]at hp2'
   have hM2:=hM.setR p2
   have g4:(H.set r (RdO bs p2)).get b4=_:=(ae _ _ d4r).trans g4
   have g6:(H.set r (RdO bs p2)).get b6=_:=(ae _ _ d6r).trans g6
   generalize H.set r (RdO bs p2)=H2 at*
   clear hM
   simp only[go_sem,rE,rA,e6,e10,g6,Ty.enc_eq t,rL]
   have hM3:=hM2.put n6 (.cells [S nm,X,B false,.sl 1 none (Ty.encs t.kids),.sl 15 none (bd.map St.enc),s1,s2,s3,s4,s5,S (bl []),NIL])
   have g4:(H2.set b6 (.cells [S nm,X,B false,.sl 1 none (Ty.encs t.kids),.sl 15 none (bd.map St.enc),s1,s2,s3,s4,s5,S (bl []),NIL])).get b4=_:=(ae _ _ d46).trans g4
   have g6:(H2.set b6 (.cells [S nm,X,B false,.sl 1 none (Ty.encs t.kids),.sl 15 none (bd.map St.enc),s1,s2,s3,s4,s5,S (bl []),NIL])).get b6=_:=ai _ _ _
   generalize(H2.set b6 (.cells [S nm,X,B false,.sl 1 none (Ty.encs t.kids),.sl 15 none (bd.map St.enc),s1,s2,s3,s4,s5,S (bl []),NIL]))=H3 at*
   clear hM2
   refine ed (jS L b10 r bs hbs v hv.ok last 3 (by omega) t 3 ⟨3,by omega,ht⟩ (by omega) (by omega) p2 (by omega) (by simp[eL];omega)) hM3 (by simp only[go_sem,rE,Ty.enc_eq t]) (.refl _) (by simp) trivial ?_
   rintro q e4' v4 VS4 NS4 p4 last4 H4 fp4 ⟨⟨x,rfl,hx,hxsm⟩,rfl,hp4,hp4',rfl⟩ hM4 hk4 -
   simp only[eL]at hp4'
   obtain⟨g4,n4⟩:=hk4 _ _ g4 n4
   obtain⟨g6,n6⟩:=hk4 _ _ g6 n6
   clear hk4 hM3
   have d106:b10≠b6:=fun h=>n6 (.inl h.symm)
   let C6:List AC:=[S nm,X,B false,.sl 1 none (Ty.encs t.kids),.sl 15 none (bd.map St.enc),I x.kind,I x.num,S x.place.name,au x.place.path,.sl 5 none (Ex.encs x.kids),S (bl []),NIL]
   have hM5:=hM4.put n6 (.cells C6)
   have g46:(H4.set b6 (.cells C6)).get b4=_:=(ae _ _ d46).trans g4
   have g66:(H4.set b6 (.cells C6)).get b6=some (.cells C6):=ai _ _ _
   simp only[C6]at hM5 g46 g66
   have ho4:=hM4.obj
   simp only[go_sem,rE,rA,e6,e10,g6,d106,ho4,Ex.enc_eq x,rL]
   generalize(H4.set b6 (.cells [S nm,X,B false,.sl 1 none (Ty.encs t.kids),.sl 15 none (bd.map St.enc),I x.kind,I x.num,S x.place.name,au x.place.path,.sl 5 none (Ex.encs x.kids),S (bl []),NIL]))=H5 at*
   clear hM4 g4 g6
   have hE5:=hM5.env
   refine mL L hE5 (by have:=hv.vl;omega) (by have:=hv.nl;omega) (rfl) ?_
   intro a VSa NSa H6 fp6 hEa hs6 hnew
   have dis:∀b,H5.get b≠none->¬aP a VSa NSa b:=fun b hb h=>hb (hnew _ h)
   have na6:=dis b6 (by rw[g66];simp)
   have na4:=dis b4 (by rw[g46];simp)
   have g6:=hs6 _ _ g66
   have g4:=hs6 _ _ g46
   have hM6:de H6 b10 r bs e4' v4 VS4 NS4 p4 last4:=hM5.mono fun b hb=>by obtain⟨o,ho⟩:=aH.1 (hM5.mem hb);rw[hs6 _ _ ho,ho]
   have nab:∀b,cJ b10 r e4' VS4 NS4 b->¬aP a VSa NSa b:=fun b hb=>dis b (hM5.mem hb)
   clear hs6 hnew dis hM5 hE5 g46 g66
   simp only[go_sem,rE,rA,e6,g6,rL]
   refine bP (oA L a _ x (aD _) hx v4 hv.ok) hEa (by simp only[go_sem,rE,Ex.enc_eq x]) (.refl _) (fun _=>⟨_,_,rfl,rfl⟩) (by simp[dQ]) ?_
   rintro q v7 VS7 NS7 H7 fp7 ⟨rfl,hv7⟩ hE7 hk7 hfp7
   have nf7:¬fp7 b6:=fun h=>(hfp7 b6 h).elim na6 (fun h=>by rw[g6]at h;simp at h)
   obtain⟨g6,na6⟩:=hk7 _ _ g6 na6
   obtain⟨g4,na4⟩:=hk7 _ _ g4 na4
   have key:∀b,cJ b10 r e4' VS4 NS4 b->H7.get b=H6.get b/\¬aP a VS7 NS7 b:=by
    intro b hb
    obtain⟨o,ho⟩:=aH.1 (hM6.mem hb)
    obtain⟨h1,h2⟩:=hk7 b o ho (nab b hb)
    exact⟨by rw[h1,ho],h2⟩
   have hM7:de H7 b10 r bs e4' v4 VS4 NS4 p4 last4:=hM6.mono fun b hb=>(key b hb).1
   obtain⟨lk,wf1⟩:=En.expr_good x v4 hv.ok
   rw[<-hv7]at lk
   generalize(v4.expr x).2=t1 at*
   simp only[go_sem,rE,rA,e6,g6,jB,be,ce,or_false,forall_eq,nf7,rL]
   refine bP (o9 L a v7 t1 t wf1) hE7 (by simp only[go_sem,rE,Ty.enc_eq t]) (.refl _) (fun _=>⟨_,_,rfl,rfl⟩) trivial ?_
   rintro q v8 VS8 NS8 H8 fp8 ⟨rfl,hv8⟩ hE8 hk8 -
   obtain⟨g6,na6⟩:=hk8 _ _ g6 na6
   obtain⟨g4,na4⟩:=hk8 _ _ g4 na4
   have key8:∀b,cJ b10 r e4' VS4 NS4 b->H8.get b=H7.get b:=by
    intro b hb
    obtain⟨o,ho⟩:=aH.1 (hM7.mem hb)
    obtain⟨h1,h2⟩:=hk8 b o ho (key b hb).2
    rw[h1,ho]
   have hM8:de H8 b10 r bs e4' v4 VS4 NS4 p4 last4:=hM7.mono key8
   clear key key8 hk8 hk7 hM6 hM7
   have ho8:=hE8.obj
   simp only[dg]at ho8
   simp only[go_sem,rE,rA,ho8]
   by_cases hc:v8.code=0
   ·have hc':(v8.code==0)=true:=by simpa using hc
    simp only[go_sem,rE,rA,hc',e4,e6,g4,g6,rL]
    refine fin _ _ _ ⟨nm,ps,false,t,bd,x,P0⟩ p4 hM8.rd (e4) d4r (AU ⟨nm,ps,false,t,bd,x,P0⟩ hX (.refl _) (by rw[St.encs_map];exact .refl _) ?_ ⟨⟨.refl _,rfl⟩,⟨.nil 1,rfl⟩,trivial⟩) rfl ⟨⟨hps,⟨3,by omega,ht⟩⟩,hpl,hbl,hbd,hbs2,hxsm⟩ (by omega) (by simp only[FC];omega)
    rw[Ex.enc_eq x]
    exact⟨⟨.refl _,rfl⟩,⟨.refl _,rfl⟩,⟨.refl _,rfl⟩,⟨.refl _,rfl⟩,⟨.refl _,rfl⟩,trivial⟩
   ·have hc':(v8.code==0)=false:=by simpa using hc
    simp only[go_sem,rE,rA,hc',e15,w1]
    exact⟨by omega,_,aj.sub_refl _,e4',VS4,NS4,p4,_,_,_,_,_,_,hM8,g4,g6,n4,n6,by omega,by omega,e0,e4,e6,e10,rfl⟩
  ·simp only[go_sem,rE,rA,e4,e6,g4,g6,d46,rL]
   refine fin _ _ _ ⟨nm,ps,false,.mk [],bd,.mk 1 7 P0 [],P0⟩ p' ((ae _ _ (Ne.symm d6r)).trans hM.rd) (e4) d4r (AU ⟨nm,ps,false,.mk [],bd,.mk 1 7 P0 [],P0⟩ hX (.nil 1) (by rw[St.encs_map];exact .refl _) ?_ ⟨⟨.refl _,rfl⟩,⟨.nil 1,rfl⟩,trivial⟩) rfl ⟨⟨hps,dU⟩,hpl,hbl,hbd,hbs2,.mk (by decide) (by simp)⟩ (by omega) (by simp only[FC];omega)
   rw[Ex.enc]
   exact⟨⟨.refl _,rfl⟩,⟨.refl _,rfl⟩,⟨.refl _,rfl⟩,⟨.nil 1,rfl⟩,⟨.nil 5,rfl⟩,trivial⟩
 simp only[go_sem,rE,rA,e0]
 refine ba (cv L r bs p1 2 hbs (by omega) (by omega)) (rfl) hM.rd (by simp) trivial ?_
 rintro q p2 hp2' hp2'' ⟨k1,rfl,hk10,hk11⟩
 have hM2:=hM.setR p2
 have g4:(H.set r (RdO bs p2)).get b4=_:=(ae _ _ d4r).trans g4
 have g6:(H.set r (RdO bs p2)).get b6=_:=(ae _ _ d6r).trans g6
 generalize H.set r (RdO bs p2)=H2 at*
 clear hM
 by_cases hk1:k1=0
 ·simp only[hk1,go_sem,rE,rA,aG]
  let J:Nat->Env->aj->Prop:=fun k E H=>∃(e:Nat) (VS NS:AC) (p':Int),de H b10 r bs e v VS NS p' last/\H.get b4=some (.cells [S (bl []),NIL,B false,NIL,NIL,I 0,I 0,S (bl []),NIL,NIL,S (bl []),NIL])/\H.get b6=some (.cells [S nm,X,B false,NIL,.sl 15 none (bd.map St.enc),I 0,I 0,S (bl []),NIL,NIL,S (bl []),NIL])/\
   ¬cJ b10 r e VS NS b4/\¬cJ b10 r e VS NS b6/\p<=p'/\p'<=p+10^11+10+50*k/\E 0=.ptr r 0/\E 4=.ptr b4 0/\E 6=.ptr b6 0/\E 10=.ptr b10 0/\E 11=I k
  refine aQ 8 J ⟨e,VS,NS,p2,hM2,g4,g6,n4,n6,by omega,by omega,e0,e4,e6,e10,rfl⟩ ?_
  clear hM2 g4 g6 n4 n6 e0 e4 e6 e10
  rintro k E H hk ⟨e,VS,NS,p',hM,g4,g6,n4,n6,hp1,hp1',e0,e4,e6,e10,e11⟩
  simp only[wp_seq,go_sem,rE,rA,e11]
  refine aE (fun hlt=>?_) (fun hge=>?_)
  ·have w1:=aJ (n:=(k:Int)+1) (by omega) (by omega)
   simp only[go_sem,rE,rA,e10]
   refine ed (iK L b10 r bs hbs v hv.ok p' last (by omega) (by omega)) hM (rfl) (.refl _) (by simp) trivial ?_
   rintro q e3 v3 VS3 NS3 p3 last3 H3 fp3 ⟨⟨pa,u,rfl,hpa,hu⟩,rfl,hp3,hp3',rfl⟩ hM3 hk3 -
   obtain⟨g4,n4⟩:=hk3 _ _ g4 n4
   obtain⟨g6,n6⟩:=hk3 _ _ g6 n6
   simp only[go_sem,rE,rA,Ty.enc_eq u,Pl.enc]
   intro b12 hb12 b13 hb13
   have hb13':=tN hb13 (.cells [S pa.name,au pa.path])
   obtain⟨stay,ga,gb,d56⟩:=nD (c:=.cells [S pa.name,au pa.path]) (c':=.cells [.sl 1 none (Ty.encs u.kids)]) hb12 hb13'
   have hM4:=(hM3.new hb12 (.cells [S pa.name,au pa.path])).new hb13' (.cells [.sl 1 none (Ty.encs u.kids)])
   have g4:=stay g4
   have g6:=stay g6
   simp only[go_sem,rE,rA,d56,Ne.symm d56,mg d56]
   generalize((H3.set b12 (.cells [S pa.name,au pa.path])).set b13 (.cells [.sl 1 none (Ty.encs u.kids)]))=H5 at*
   clear hk3 hM3 hb12 hb13 hb13' stay
   have ho5:=hM4.obj
   have hE5:=hM4.env
   simp only[go_sem,rE,rA,e10,ho5]
   refine mL L hE5 (by have:=hv.vl;omega) (by have:=hv.nl;omega) (rfl) ?_
   intro a VSa NSa H6 fp6 hEa hs6 hnew
   have dis:∀b,H5.get b≠none->¬aP a VSa NSa b:=fun b hb h=>hb (hnew _ h)
   have na6:=dis b6 (by rw[g6];simp)
   have na4:=dis b4 (by rw[g4];simp)
   have na12:=dis b12 (by rw[ga];simp)
   have na13:=dis b13 (by rw[gb];simp)
   have g6:=hs6 _ _ g6
   have g4:=hs6 _ _ g4
   have ga:=hs6 _ _ ga
   have gb:=hs6 _ _ gb
   have hM6:de H6 b10 r bs e3 v3 VS3 NS3 p3 last3:=hM4.mono fun b hb=>by obtain⟨o,ho⟩:=aH.1 (hM4.mem hb);rw[hs6 _ _ ho,ho]
   have nab:∀b,cJ b10 r e3 VS3 NS3 b->¬aP a VSa NSa b:=fun b hb=>dis b (hM4.mem hb)
   clear hs6 hnew dis hM4 hE5 ho5
   simp only[go_sem,rE,rA,ga,rL]
   refine bP (e_use L a v3 hv.ok.len hv.ok.all pa (by omega)) hEa (by simp only[go_sem,rE,Pl.enc]) (.refl _) (by simp) trivial ?_
   rintro q v7 VS7 NS7 H7 fp7 ⟨rfl,hv7⟩ hE7 hk7 -
   obtain⟨g6,na6⟩:=hk7 _ _ g6 na6
   obtain⟨g4,na4⟩:=hk7 _ _ g4 na4
   obtain⟨ga,na12⟩:=hk7 _ _ ga na12
   obtain⟨gb,na13⟩:=hk7 _ _ gb na13
   have key:∀b,cJ b10 r e3 VS3 NS3 b->H7.get b=H6.get b/\¬aP a VS7 NS7 b:=by
    intro b hb
    obtain⟨o,ho⟩:=aH.1 (hM6.mem hb)
    obtain⟨h1,h2⟩:=hk7 b o ho (nab b hb)
    exact⟨by rw[h1,ho],h2⟩
   have hM7:de H7 b10 r bs e3 v3 VS3 NS3 p3 last3:=hM6.mono fun b hb=>(key b hb).1
   have lk:v3.like v7:=hv7▸v3.use_like pa
   have hup7:Up v7.vars:=hv.up.core lk.vars
   have hok7:=lk.ok hv.ok
   have ho7:=hE7.obj
   simp only[dg]at ho7
   have skip:∀(E':Env) (H':aj),de H' b10 r bs e3 v3 VS3 NS3 p3 last3->H'.get b4=some (.cells [S (bl []),NIL,B false,NIL,NIL,I 0,I 0,S (bl []),NIL,NIL,S (bl []),NIL])->H'.get b6=some (.cells [S nm,X,B false,NIL,.sl 15 none (bd.map St.enc),I 0,I 0,S (bl []),NIL,NIL,S (bl []),NIL])->E' 0=.ptr r 0->E' 4=.ptr b4 0->E' 6=.ptr b6 0->E' 10=.ptr b10 0->E' 11=I (k+1:Nat)->k<8/\∃H'',aj.sub H'' H'/\J (k+1) E' H'':=
    fun E' H' hM g4 g6 h0 h4 h6 h10 h11=>⟨by omega,H',aj.sub_refl _,e3,VS3,NS3,p3,hM,g4,g6,n4,n6,by omega,by omega,h0,h4,h6,h10,h11⟩
   by_cases hc:v7.code=0
   ·have hc':(v7.code==0)=true:=by simpa using hc
    simp only[go_sem,rE,rA,ho7,hc',ga,rL]
    refine bP (th L a v7 hok7.len (fun x hx=>(hok7.all x hx).1) hup7 pa) hE7 (by simp only[go_sem,rE,Pl.enc]) (.refl _) (by simp) trivial ?_
    rintro q v8 VS8 NS8 H8 fp8 ⟨rfl,hv8⟩ hE8 hk8 -
    obtain⟨g6,na6⟩:=hk8 _ _ g6 na6
    obtain⟨g4,na4⟩:=hk8 _ _ g4 na4
    obtain⟨ga,na12⟩:=hk8 _ _ ga na12
    obtain⟨gb,na13⟩:=hk8 _ _ gb na13
    have key8:∀b,cJ b10 r e3 VS3 NS3 b->H8.get b=H7.get b:=by
     intro b hb
     obtain⟨o,ho⟩:=aH.1 (hM7.mem hb)
     obtain⟨h1,h2⟩:=hk8 b o ho (key b hb).2
     rw[h1,ho]
    have hM8:de H8 b10 r bs e3 v3 VS3 NS3 p3 last3:=hM7.mono key8
    clear key key8 hk8 hk7 hM6 hM7
    cases hout:v7.outside pa
    ·simp only[go_sem,rE,rA,e11,w1]
     exact skip _ _ hM8 g4 g6 (e0) (e4) (e6) (e10) (rfl)
    ·have d126:b12≠b6:=by rintro rfl;rw[ga]at g6;simp at g6
     have d136:b13≠b6:=by rintro rfl;rw[gb]at g6;simp at g6
     simp only[go_sem,rE,rA,e4,e6,g4,g6,ga,gb,d46,d126,d136,rL]
     refine fin _ _ _ ⟨nm,ps,true,u,bd,E0,pa⟩ p3 ((ae _ _ (Ne.symm d6r)).trans hM8.rd) (e4) d4r (AU ⟨nm,ps,true,u,bd,E0,pa⟩ hX (.refl _) (by rw[St.encs_map];exact .refl _) ⟨⟨.refl _,rfl⟩,⟨.refl _,rfl⟩,⟨.refl _,rfl⟩,⟨.nil 1,rfl⟩,⟨.nil 5,rfl⟩,trivial⟩ ⟨⟨.refl _,rfl⟩,⟨.refl _,rfl⟩,trivial⟩) rfl ⟨⟨hps,hu⟩,hpl,hbl,hbd,hbs2,wq⟩ (by omega) (by simp only[FC];omega)
   ·have hc':(v7.code==0)=false:=by simpa using hc
    simp only[go_sem,rE,rA,ho7,hc',e11,w1]
    exact skip _ _ hM7 g4 g6 (e0) (e4) (e6) (e10) (rfl)
  ·simp only[go_sem,rE,rA]
   exact tail2 _ _ e VS NS p' last hM g4 g6 n4 n6 (e0) (e4) (e6) (e10) (by omega) (by omega) hl0
 ·have hk1':(k1==0)=false:=by simpa using hk1
  simp only[hk1',go_sem,rE,rA]
  exact tail2 _ _ e VS NS p2 last hM2 g4 g6 n4 n6 (e0) (e4) (e6) (e10) (by omega) (by omega) hl0
theorem c_l71Fn(L:Lib P F)(r:Nat)(bs:List UInt8)(hbs:bs.length<=2000)(pr:Pg)(hpr:∀g∈pr,g.okS/\g.params.length<=4)(hpl:pr.length<=3)(p:Int)(hp:0<=p)(hp2:p+FC<=2^50):
 bz P 84 [.ptr r 0,.agg (Pg.enc pr)] (one r (RdO bs p)) (RdR r bs p FC fun q=>∃f:Fu,q=.agg f.enc/\f.good):=by
 simp only[FC]at hp2
 refine(L.a Tryz.func84 y84) (by simp[y84,f84]) ?_
 simp only[y84,f84,go_sem,rE,rA,Pg.enc]
 intro b3 hb3 b4 hb4
 have hr3:r≠b3:=by rintro rfl;rw[bI]at hb3;simp at hb3
 have d34:b3≠b4:=ot hb4
 have hr4:r≠b4:=by rintro rfl;rw[ae _ _ hr3,bI]at hb4;simp at hb4
 have hk:pr.length=0\/pr.length=1\/pr.length=2\/pr.length=3:=by omega
 obtain⟨nm,hnm⟩:∃nm,[[S (bl [102,97])],[S (bl [102,98])],[S (bl [102,99])],[S (bl [102,100])],[S (bl [102,101])]][pr.length]?=some [S nm]:=by
  rcases hk with h|h|h|h<;>rw[h]<;>exact⟨_,rfl⟩
 simp only[go_sem,rE,rA,d34,Ne.symm d34,am,hnm,az,aq,ay,rL,bh]
 intro b6 hb6
 have hrd0:(((one r (RdO bs p)).set b3 (.cells [.sl 12 none (pr.map Fu.enc)])).set b4 (.cells [S (bl []),NIL,B false,NIL,NIL,I 0,I 0,S (bl []),NIL,NIL,S (bl []),NIL])).get r=some (RdO bs p):=by rw[ae _ _ hr4,ae _ _ hr3,bI]
 have hb30:(((one r (RdO bs p)).set b3 (.cells [.sl 12 none (pr.map Fu.enc)])).set b4 (.cells [S (bl []),NIL,B false,NIL,NIL,I 0,I 0,S (bl []),NIL,NIL,S (bl []),NIL])).get b3=some (.cells [.sl 12 none (pr.map Fu.enc)]):=by rw[ae _ _ d34,ai]
 have hb40:(((one r (RdO bs p)).set b3 (.cells [.sl 12 none (pr.map Fu.enc)])).set b4 (.cells [S (bl []),NIL,B false,NIL,NIL,I 0,I 0,S (bl []),NIL,NIL,S (bl []),NIL])).get b4=some (.cells [S (bl []),NIL,B false,NIL,NIL,I 0,I 0,S (bl []),NIL,NIL,S (bl []),NIL]):=ai _ _ _
 generalize(((one r (RdO bs p)).set b3 (.cells [.sl 12 none (pr.map Fu.enc)])).set b4 (.cells [S (bl []),NIL,B false,NIL,NIL,I 0,I 0,S (bl []),NIL,NIL,S (bl []),NIL]))=H0 at*
 have hr6:=al hrd0 hb6
 have d36:=al hb30 hb6
 have d46:=al hb40 hb6
 have A0:oI (H0.set b6 (.cells [S nm,NIL,B false,NIL,NIL,I 0,I 0,S (bl []),NIL,NIL,S (bl []),NIL])) r bs p b4 b6 [S nm,NIL,B false,NIL,NIL,I 0,I 0,S (bl []),NIL,NIL,S (bl []),NIL]:=
  ⟨(ae _ _ hr6).trans hrd0,(ae _ _ d46).trans hb40,ai _ _ _⟩
 have hb30:(H0.set b6 (.cells [S nm,NIL,B false,NIL,NIL,I 0,I 0,S (bl []),NIL,NIL,S (bl []),NIL])).get b3=_:=(ae _ _ d36).trans hb30
 generalize(H0.set b6 (.cells [S nm,NIL,B false,NIL,NIL,I 0,I 0,S (bl []),NIL,NIL,S (bl []),NIL]))=H1 at*
 clear hb3 hb4 hb6 hrd0 hb40
 refine ba (cv L r bs p 3 hbs hp (by omega)) (rfl) A0.rd (by simp) trivial ?_
 rintro q p1 hp1 hp1' ⟨k0,rfl,hk00,hk01⟩
 have A1:oI (H1.set r (RdO bs p1)) r bs p1 b4 b6 [S nm,NIL,B false,NIL,NIL,I 0,I 0,S (bl []),NIL,NIL,S (bl []),NIL]:=
  ⟨ai _ _ _,(ae _ _ (Ne.symm hr4)).trans A0.z,(ae _ _ (Ne.symm hr6)).trans A0.f⟩
 have hb30:(H1.set r (RdO bs p1)).get b3=_:=(ae _ _ (Ne.symm hr3)).trans hb30
 generalize H1.set r (RdO bs p1)=H2 at*
 clear A0
 have w1:=aJ (n:=1+k0) (by omega) (by omega)
 obtain⟨n,hn⟩:∃n:Nat,1+k0=(n:Int):=⟨(1+k0).toNat,by omega⟩
 rw[hn]at w1
 simp only[go_sem,rE,rA,w1,hn]
 let J:Nat->Env->aj->Prop:=fun k E H=>∃(p':Int) (X:AC) (ps:List Pa),oI H r bs p' b4 b6 [S nm,X,B false,NIL,NIL,I 0,I 0,S (bl []),NIL,NIL,S (bl []),NIL]/\H.get b3=some (.cells [.sl 12 none (pr.map Fu.enc)])/\p<=p'/\p'<=p+1+20*k/\ps.length=k/\(∀x∈ps,x.ok)/\bM H 3 (ps.map Pa.enc) X/\
  E 0=.ptr r 0/\E 3=.ptr b3 0/\E 4=.ptr b4 0/\E 5=I pr.length/\E 6=.ptr b6 0/\E 7=I n/\E 8=I k
 refine aQ n J ⟨p1,NIL,[],A1,hb30,hp1,by omega,rfl,by simp,.nil _ _,rfl,rfl,rfl,rfl,rfl,rfl,rfl⟩ ?_
 clear A1 hb30
 rintro k E H hk ⟨p',X,ps,A,g3,hq1,hq2,hps,hpok,hX,e0,e3,e4,e5,e6,e7,e8⟩
 simp only[wp_seq,go_sem,rE,rA,e7,e8]
 refine aE (fun hlt=>?_) (fun hge=>?_)
 ·have w2:=aJ (n:=(k:Int)+1) (by omega) (by omega)
  have hkk:k=0\/k=1\/k=2:=by omega
  obtain⟨pn,hpn⟩:∃pn,[[S (bl [112])],[S (bl [113])],[S (bl [114])],[S (bl [115])]][k]?=some [S pn]:=by
   rcases hkk with h|h|h<;>rw[h]<;>exact⟨_,rfl⟩
  simp only[go_sem,rE,rA,e0,e6,e8,A.f,hpn,az,aq,ay,rL,bh]
  refine ba (cv L r bs p' 3 hbs (by omega) (by omega)) (rfl) A.rd (fun _=>⟨by omega,I 0,0,rfl,by omega,.inr rfl⟩) (by simp[dQ];exact Ne.symm hr6) ?_
  rintro q p2 hp2 hp2' ⟨k2,rfl,hk20,hk21⟩
  have A2:oI (H.set r (RdO bs p2)) r bs p2 b4 b6 [S nm,X,B false,NIL,NIL,I 0,I 0,S (bl []),NIL,NIL,S (bl []),NIL]:=
   ⟨ai _ _ _,(ae _ _ (Ne.symm hr4)).trans A.z,(ae _ _ (Ne.symm hr6)).trans A.f⟩
  have g3:(H.set r (RdO bs p2)).get b3=_:=(ae _ _ (Ne.symm hr3)).trans g3
  have hX2:bM (H.set r (RdO bs p2)) 3 (ps.map Pa.enc) X:=hX.keepF fun d hd=>ae _ _ (by rintro rfl;obtain⟨n,m,h⟩:=hX.mem hd;rw[A.rd]at h;simp[RdO]at h)
  generalize H.set r (RdO bs p2)=Ha at*
  clear A hX
  simp only[go_sem,rE,rA,e0]
  refine ba (ky L r bs hbs 3 3 (by omega) (by omega) p2 (by omega) (by simp[ff];omega)) (rfl) A2.rd (fun _=>⟨by simp[ff],_,.mk [],rfl,by simp[Ty.le]⟩) (by simp[dQ];exact Ne.symm hr6) ?_
  rintro q p3 hp3 hp3' ⟨t,rfl,ht⟩
  simp only[ff]at hp3'
  have A3:oI (Ha.set r (RdO bs p3)) r bs p3 b4 b6 [S nm,X,B false,NIL,NIL,I 0,I 0,S (bl []),NIL,NIL,S (bl []),NIL]:=
   ⟨ai _ _ _,(ae _ _ (Ne.symm hr4)).trans A2.z,(ae _ _ (Ne.symm hr6)).trans A2.f⟩
  have g3:(Ha.set r (RdO bs p3)).get b3=_:=(ae _ _ (Ne.symm hr3)).trans g3
  have hX3:bM (Ha.set r (RdO bs p3)) 3 (ps.map Pa.enc) X:=hX2.keepF fun d hd=>ae _ _ (by rintro rfl;obtain⟨n,m,h⟩:=hX2.mem hd;rw[A2.rd]at h;simp[RdO]at h)
  generalize Ha.set r (RdO bs p3)=Hb at*
  clear A2 hX2
  simp only[go_sem,rE,rA,Ty.enc_eq t,az,aq,ay,rL,bh]
  refine dD (es:=ps.map Pa.enc) (ys:=[[S pn,B (decide (0<k2)),.sl 1 none (Ty.encs t.kids)]]) (by simp only[go_sem,rE];exact hX3) (rfl) (by simp) (by simp;omega) ?_
  intro x' Hc fpc hx' _ keep new
  simp only[go_sem,rE]at keep new
  have hx1:=hx'.one
  have A4:oI Hc r bs p3 b4 b6 [S nm,X,B false,NIL,NIL,I 0,I 0,S (bl []),NIL,NIL,S (bl []),NIL]:=by
   refine A3.mono fun d hd=>?_
   have:∃cs,Hb.get d=some (.cells cs):=by
    rcases hd with rfl|rfl|rfl
    ·exact⟨_,A3.rd⟩
    ·exact⟨_,A3.z⟩
    ·exact⟨_,A3.f⟩
   obtain⟨cs,hcs⟩:=this
   exact keep d (by rw[hcs];simp) fun ht=>by obtain⟨n,m,h⟩:=hX3.mem ht;rw[hcs]at h;simp at h
  have g3:Hc.get b3=_:=(keep b3 (by rw[g3];simp) fun ht=>by obtain⟨n,m,h⟩:=hX3.mem ht;rw[g3]at h;simp at h).trans g3
  simp only[go_sem,rE,rA,e6,e8,A4.f,hx1,w2,rL]
  refine⟨by omega,_,aj.sub_refl _,p3,x',ps++[⟨pn,decide (0<k2),t⟩],⟨(ae _ _ hr6).trans A4.rd,(ae _ _ d46).trans A4.z,ai _ _ _⟩,(ae _ _ d36).trans g3,by omega,by omega,by simp;exact hps,fun x hx=>?_,?_,e0,e3,e4,e5,e6,e7,rfl⟩
  ·rcases aF.1 hx with h|h
   ·exact hpok x h
   ·simp at h;subst h;exact⟨⟨3,by omega,ht⟩⟩
  ·rw[bf]
   have:[Pa.mk pn (decide (0<k2)) t].map Pa.enc=[[S pn,B (decide (0<k2)),.sl 1 none (Ty.encs t.kids)]]:=by simp[Pa.enc,Ty.enc_eq t]
   rw[this]
   exact hx'.set A4.f _
 ·have hkn:k=n:=by omega
  have hXle:=hX.le
  simp only[go_sem,rE,rA,e3,g3,rL]
  intro b48 hb48
  have A1:=A.new hb48 (.tail 0 0)
  have g3:(H.set b48 (.tail 0 0)).get b3=_:=(ae _ _ (al g3 hb48)).trans g3
  have g48:(H.set b48 (.tail 0 0)).get b48=_:=ai _ _ _
  simp only[go_sem,rE,rA,e3,g3,rL]
  generalize H.set b48 (.tail 0 0)=Ha at*
  refine eB (es:=[]) (ys:=pr.map Fu.enc) (rfl) g48 (rfl) (by simp;intro f _;exact oy f) (by simp;omega) ?_
  intro bt nt mt Hb fpb gt keep hbt hfb
  have in1:∀{d cs},Ha.get d=some (.cells cs)->Hb.get d=some (.cells cs):=fun {d cs} hd=>by rw[keep d (by rw[hd];simp) (by rintro rfl;rw[g48]at hd;simp at hd)];exact hd
  have A2:oI Hb r bs p' b4 b6 [S nm,X,B false,NIL,NIL,I 0,I 0,S (bl []),NIL,NIL,S (bl []),NIL]:=⟨in1 A1.rd,in1 A1.z,in1 A1.f⟩
  have nf6:¬fpb b6:=fun h=>by have:=hfb _ h;rw[A1.f]at this;simp at this
  simp only[go_sem,rE,rA,e6,A2.f,az,aq,ay,rL,bh]
  refine⟨by simp;exact nf6,?_⟩
  refine eB (es:=pr.map Fu.enc) (ys:=[[S nm,X,B false,NIL,NIL,I 0,I 0,S (bl []),NIL,NIL,S (bl []),NIL]]) (rfl) gt (rfl) (by simp) (by simp;omega) ?_
  intro bt2 nt2 mt2 Hc fpc gt2 keep2 hbt2 _
  have in2:∀{d cs},Hb.get d=some (.cells cs)->Hc.get d=some (.cells cs):=fun {d cs} hd=>by rw[keep2 d (by rw[hd];simp) (by rintro rfl;rw[gt]at hd;simp at hd)];exact hd
  have A3:oI Hc r bs p' b4 b6 [S nm,X,B false,NIL,NIL,I 0,I 0,S (bl []),NIL,NIL,S (bl []),NIL]:=⟨in2 A2.rd,in2 A2.z,in2 A2.f⟩
  clear A A1 A2 keep keep2 in1 in2 hfb gt g48 g3 hb48
  simp only[go_sem,rE,rA]
  intro b9 hb9
  have A4:=A3.new hb9 (.cells [.sl 12 (some (bt2,nt2,mt2)) (pr.map Fu.enc++[[S nm,X,B false,NIL,NIL,I 0,I 0,S (bl []),NIL,NIL,S (bl []),NIL]])])
  have g9:(Hc.set b9 (.cells [.sl 12 (some (bt2,nt2,mt2)) (pr.map Fu.enc++[[S nm,X,B false,NIL,NIL,I 0,I 0,S (bl []),NIL,NIL,S (bl []),NIL]])])).get b9=_:=ai _ _ _
  generalize(Hc.set b9 (.cells [.sl 12 (some (bt2,nt2,mt2)) (pr.map Fu.enc++[[S nm,X,B false,NIL,NIL,I 0,I 0,S (bl []),NIL,NIL,S (bl []),NIL]])]))=Hd at*
  simp only[go_sem,rE,rA,e0,e5,g9,rL]
  have hnlt:pr.length<(pr++[(⟨nm,ps,false,.mk [],[],E0,P0⟩:Fu)]).length:=by simp
  refine pH (as':=[.agg [.sl 12 (some (bt2,nt2,mt2)) (pr.map Fu.enc++[[S nm,X,B false,NIL,NIL,I 0,I 0,S (bl []),NIL,NIL,S (bl []),NIL]])],I pr.length]) L (pr++[⟨nm,ps,false,.mk [],[],E0,P0⟩]) pr.length hnlt (by simp;omega) (by simp;omega) (rfl) ⟨.agg ⟨⟨.slR ?_,rfl⟩,trivial⟩,.refl _,trivial⟩ ?_
  ·rw[bf]
   exact(um pr).snoc (AU ⟨nm,ps,false,.mk [],[],E0,P0⟩ hXle (.nil 1) (.nil 15) ⟨⟨.refl _,rfl⟩,⟨.refl _,rfl⟩,⟨.refl _,rfl⟩,⟨.nil 1,rfl⟩,⟨.nil 5,rfl⟩,trivial⟩ ⟨⟨.refl _,rfl⟩,⟨.nil 1,rfl⟩,trivial⟩)
  intro a VS NS He fpe hE hs hnew
  have hdr:=As pr ⟨nm,ps,false,.mk [],[],E0,P0⟩ hpr ⟨hpok,dU⟩ (by omega) (by simp;omega) (by simp;omega)
  generalize cz (pr++[⟨nm,ps,false,.mk [],[],E0,P0⟩]) pr.length=v at*
  have A5:oI He r bs p' b4 b6 [S nm,X,B false,NIL,NIL,I 0,I 0,S (bl []),NIL,NIL,S (bl []),NIL]:=⟨hs _ _ A4.rd,hs _ _ A4.z,hs _ _ A4.f⟩
  have na4:¬aP a VS NS b4:=fun h=>by have:=hnew _ h;rw[A4.z]at this;simp at this
  have na6:¬aP a VS NS b6:=fun h=>by have:=hnew _ h;rw[A4.f]at this;simp at this
  have nar:¬aP a VS NS r:=fun h=>by have:=hnew _ h;rw[A4.rd]at this;simp at this
  clear A3 A4 hs hnew g9 hb9
  simp only[go_sem,rE,rA,e0,rL]
  intro b10 hb10
  have hr10:=al A5.rd hb10
  have d410:=al A5.z hb10
  have d610:=al A5.f hb10
  have A6:=A5.new hb10 (.cells [.ptr r 0,.ptr a 0,I 0])
  have hM:de (He.set b10 (.cells [.ptr r 0,.ptr a 0,I 0])) b10 r bs a v VS NS p' 0:=⟨ai _ _ _,A6.rd,hE.new hb10 _,Ne.symm hr10,hE.notin hb10,nar⟩
  generalize(He.set b10 (.cells [.ptr r 0,.ptr a 0,I 0]))=Hf at*
  clear A5 hE hb10
  refine ba (cv L r bs p' 6 hbs (by omega) (by omega)) (rfl) A6.rd (by simp) trivial ?_
  rintro q p7 hp7 hp7' ⟨k7,rfl,hk70,hk71⟩
  have hM7:=hM.setR p7
  have g4:(Hf.set r (RdO bs p7)).get b4=_:=(ae _ _ (Ne.symm hr4)).trans A6.z
  have g6:(Hf.set r (RdO bs p7)).get b6=_:=(ae _ _ (Ne.symm hr6)).trans A6.f
  generalize Hf.set r (RdO bs p7)=Hg at*
  clear A6 hM
  have w7:=aJ (n:=1+k7) (by omega) (by omega)
  have hk7n:1+k7=((1+k7.toNat:Nat):Int):=by omega
  have hcc:jy 2=161:=rfl
  have hsc:(ik 2:Int)=26660000:=rfl
  have hkc:(1+k7.toNat)*jy 2<=6*jy 2:=bH _ (by omega)
  simp only[go_sem,rE,rA,w7]
  refine ed (zB L 2 (by omega) b10 r bs hbs v 4 (1+k7.toNat) hdr (by omega) (by omega) p7 0 (by omega) (by omega) (by omega) (by omega)) hM7 (by simp only[go_sem,rE,hk7n];rfl) (.refl _) (by simp) trivial ?_
  rintro q e8 v8 VS8 NS8 p8 last8 H8 fp8 ⟨⟨bd,rfl,hbl,hbc,hbsm⟩,⟨hv8,hv82,hv83⟩,hp8,hp8',hl8,hl8'⟩ hM8 hk8 -
  obtain⟨g4,n4⟩:=hk8 _ _ g4 (sY d410 (Ne.symm hr4) na4)
  obtain⟨g6,n6⟩:=hk8 _ _ g6 (sY d610 (Ne.symm hr6) na6)
  have n6':=n6
  have d610':b10≠b6:=Ne.symm d610
  have tl:=fn_tail (F:=F) L r bs hbs nm ps bd v8 (4+(1+k7.toNat)*jy 2) hv8 (by omega) p hp hp2 hpok (by omega) (by omega) (by omega) hbsm b4 b6 b10 e8 VS8 NS8 X p8 last8
  simp only[go_sem,rE,rA,e6,g6,rL]
  refine tl _ _ (hM8.put n6 _) d46 ((ae _ _ d46).trans g4) (ai _ _ _) n4 n6 (e0) (e4) (e6) (rfl) hXle (by omega) (by omega) (by omega)
end
def Pg.fit(p:Pg):Prop:=p.small/\∀f∈p,0<f.params.length/\bG f.body<=2^19
theorem FuW.okS{f:Fu}(h:FuW f):f.okS:=by
 refine⟨fun x hx=>⟨?_⟩,sc h.type⟩
 have:=h.params x hx
 simp only[Pa.okB,a6]at this
 exact sc this.2
theorem pE{p:Pg}(h:fg p=true){i:Nat}(hi:i<p.length):(cz p i).ok/\(cz p i).p=p/\(cz p i).fn=i/\(cz p i).vars.length=(p[i]).params.length/\(cz p i).names.length=(p[i]).params.length:=by
 obtain⟨h1,h2⟩:=fk h
 have W:=h2 p[i] (ax hi)
 have hst:cz p i=(⟨p,i,[],[],0⟩:En).givens p[i].params:=by simp only[cz,aw hi]
 obtain⟨g1,g2,g3,g4⟩:=kR p[i].params (⟨p,i,[],[],0⟩:En)
 have:=W.plen
 rw[hst]
 refine⟨⟨by rw[g3];simp;omega,fun x hx=>?_⟩,g1,g2,by rw[g3];simp,by rw[g4];simp⟩
 rw[g3]at hx
 simp at hx
 obtain⟨y,hy,rfl⟩:=hx
 exact⟨⟨by simp[Pa.vr],by simp[Pa.vr]⟩,(W.okS.params y hy).type⟩
section
variable {P:Program}{F:Ids}
theorem B7(L:Lib P F){p:Pg}(h:fg p=true)(hf:p.fit){i:Nat}(hi:i<p.length):cO P 69 [.agg (Pg.enc p),I i] (I (kA p i)):=by
 obtain⟨hpl,hw⟩:=fk h
 have W:=hw p[i] (ax hi)
 obtain⟨hp1,hcnt⟩:=hf.2 p[i] (ax hi)
 obtain⟨s1,s2,s3,s4,s5⟩:=pE h hi
 have hwp:=W.plen
 have hokS:∀f∈p,f.okS:=fun f hf=>(hw f hf).okS
 have hst:=lH 4 _ W.body
 have hbs:=(En.stmt_step _).2 p[i].body (aD _) (fun s hs=>(hst s hs).1) (cz p i) s1 (by omega) (by rw[s2];exact hokS)
 have hspec:kA p i=if(kf p p[i].name i).isSome then 2 else if 0<((cz p i).body p[i].body).code then((cz p i).body p[i].body).code else((cz p i).body p[i].body).outCode p[i]:=by
  simp only[kA,aw hi]
 refine(L.a Tryz.func69 y69) (by simp[y69]) ?_
 obtain⟨cf,hcf,CF⟩:=fuC p[i]
 have hgf:(p.map Fu.enc)[i]?=some cf:=by rw[<-hcf];simp[hi]
 simp only[y69,go_sem,rE,rA,rL,Pg.enc]
 intro b2 hb2
 have g2:=ai .empty b2 (.cells [.sl 12 none (p.map Fu.enc)])
 generalize aj.empty.set b2 (.cells [.sl 12 none (p.map Fu.enc)])=H2 at*
 simp only[go_sem,rE,rA,rL,g2,hgf,CF.len,CF.all]
 intro b5 hb5
 have d25:=al g2 hb5
 simp only[go_sem,rE,rA,rL,CF.len,CF.all,d25,g2,CF.name]
 have g5:=ai H2 b5 (.cells cf)
 have g2:(H2.set b5 (.cells cf)).get b2=some (.cells [.sl 12 none (p.map Fu.enc)]):=by rw[ae _ _ d25];exact g2
 generalize H2.set b5 (.cells cf)=H5 at*
 clear hb2 hb5
 refine ao (B6 L p p[i].name i (by omega) (by omega)) (by simp only[go_sem,rE,Pg.enc]) ?_
 have hfn:decide (xi p p[i].name i>=0)=(kf p p[i].name i).isSome:=by
  have:xi p p[i].name i=match kf p p[i].name i with|some i=>(i:Int)|none=>-1:=rfl
  rw[this]
  cases kf p p[i].name i<;>simp
 simp only[go_sem,rE,rA,rL,hfn]
 cases hfi:(kf p p[i].name i).isSome with
 |true=>
  simp only[go_sem,rE,rA,rL]
  exact ak (.refl _) (aj.sub_empty _) ⟨by rw[hspec,hfi];rfl,rfl⟩
 |false=>
 have hspec:kA p i=if 0<((cz p i).body p[i].body).code then((cz p i).body p[i].body).code else((cz p i).body p[i].body).outCode p[i]:=by
  rw[hspec,hfi];rfl
 simp only[go_sem,rE,rA,rL,g2]
 refine pH L p i hi (by omega) (by omega) (by simp only[go_sem,rE,Pg.enc]) (.refl _) ?_
 intro a VS NS H1 fp hE1 hs1 hn1
 have g2:=hs1 _ _ g2
 have g5:=hs1 _ _ g5
 have n2:¬aP a VS NS b2:=fun hb=>by have:=hn1 _ hb;simp_all
 have n5:¬aP a VS NS b5:=fun hb=>by have:=hn1 _ hb;simp_all
 have hstu:=qy p i
 generalize cz p i=v0 at*
 have cfb:(cf.drop 4)[0]?=some (.sl 15 none (St.encs p[i].body)):=by rw[bW];exact CF.body
 simp only[go_sem,rE,rA,rL,g5,CF.len,cfb,CF.body]
 refine bP (yv L _ a p[i].body (aD _) (fun s hs=>(hst s hs).1) v0 s1 (by omega) (by omega) (by omega) (by rw[s2];exact hokS) (by rw[s2];omega) (by omega)) hE1 (by simp only[go_sem,rE]) (.refl _) (by simp) trivial ?_
 rintro q v1 VS1 NS1 H2' fp1 ⟨rfl,hv1⟩ hE2 hk2 -
 obtain⟨g2,n2⟩:=hk2 _ _ g2 n2
 obtain⟨g5,n5⟩:=hk2 _ _ g5 n5
 have hup:v1.code=0->Up v1.vars:=fun h=>by
  have:=(sk p[i].body (fun s hs=>(hst s hs).2) v0 (by rw[<-hv1];exact h)).2 hstu
  rw[hv1];exact this
 rw[<-hv1]at hbs hspec
 have hok1:=hbs.ok
 have ho2:=hE2.obj
 simp only[dg]at ho2
 generalize H2'=H3 at*
 simp only[go_sem,rE,rA,rL,ho2]
 refine aE (fun hgt=>?_) (fun hle=>?_)
 ·simp only[go_sem,rE,rA,rL,ho2]
  exact ak (.refl _) (aj.sub_empty _) ⟨by rw[hspec,if_pos hgt];rfl,rfl⟩
 rw[if_neg hle]at hspec
 have cfl:(cf.drop 2)[0]?=some (.lit (.bool p[i].lent)):=by rw[bW];exact CF.lent
 simp only[go_sem,rE,rA,rL,g5,CF.len,CF.lent,cfl]
 refine lO (fun hl=>?_) (fun hl=>?_)
 ·have hl:p[i].lent=false:=by simpa using hl
  have ho1:=En.expr_good p[i].says v1 hok1
  simp only[En.outCode,hl,av,if_false]at hspec
  simp only[go_sem,rE,rA,rL,g5,CF.len,CF.says]
  refine bP (oA L a _ p[i].says (aD _) (nQ 4 _ (W.says hl)) v1 hok1) hE2 (rfl) (.refl _) (fun _=>⟨_,_,rfl,rfl⟩) (by simp[dQ]) ?_
  rintro q v2 VS2 NS2 H4 fp2 ⟨rfl,hv2⟩ hE3 hk3 hfp2
  rw[<-hv2]at hspec ho1
  have wf2:=ho1.2
  have nf5:¬fp2 b5:=fun h=>(hfp2 b5 h).elim n5 (fun h=>by rw[g5]at h;simp at h)
  obtain⟨g5,n5⟩:=hk3 _ _ g5 n5
  generalize(v1.expr p[i].says).2=u at*
  simp only[go_sem,rE,rA,rL,g5,CF.len,CF.type,jB,be,ce,or_false,forall_eq,nf5]
  refine bP (o9 L a v2 u p[i].type wf2) hE3 (rfl) (.refl _) (fun _=>⟨_,_,rfl,rfl⟩) trivial ?_
  rintro q v3 VS3 NS3 H5 fp3 ⟨rfl,hv3⟩ hE4 - -
  have ho4:=hE4.obj
  simp only[dg]at ho4
  rw[<-hv3]at hspec
  simp only[go_sem,rE,rA,rL,ho4]
  exact ak (.refl _) (aj.sub_empty _) ⟨by rw[hspec];rfl,rfl⟩
 ·have hl:p[i].lent=true:=by simpa using hl
  simp only[En.outCode,hl,if_true]at hspec
  have hpath:=(kP (W.gives hl)).2
  simp only[go_sem,rE,rA,rL,g5,CF.len,CF.gives]
  refine bP (o8 L a v1 hok1 p[i].gives (by omega)) hE2 (rfl) (.refl _) (fun _=>⟨_,_,rfl,rfl⟩) (by simp[dQ]) ?_
  rintro q v2 VS2 NS2 H4 fp2 ⟨rfl,hv2⟩ hE3 hk3 hfp2
  have lk2:=v1.use_like p[i].gives
  have wf2:=jj hok1 p[i].gives
  rw[<-hv2]at hspec lk2
  have nf5:¬fp2 b5:=fun h=>(hfp2 b5 h).elim n5 (fun h=>by rw[g5]at h;simp at h)
  obtain⟨g5,n5⟩:=hk3 _ _ g5 n5
  generalize hu:(v1.use p[i].gives).2=u at*
  simp only[go_sem,rE,rA,rL,g5,CF.len,CF.type,jB,be,ce,or_false,forall_eq,nf5]
  refine bP (o9 L a v2 u p[i].type wf2) hE3 (rfl) (.refl _) (fun _=>⟨_,_,rfl,rfl⟩) trivial ?_
  rintro q v3 VS3 NS3 H5 fp3 ⟨rfl,hv3⟩ hE4 hk4 -
  obtain⟨g5,n5⟩:=hk4 _ _ g5 n5
  have ho4:=hE4.obj
  simp only[dg]at ho4
  have lk3:v2.like v3:=hv3▸fx _ _ _
  rw[<-hv3]at hspec
  simp only[go_sem,rE,rA,rL,ho4]
  by_cases hc:v3.code=0
  ·have hc':(v3.code==0)=true:=by simpa using hc
   have hup3:Up v3.vars:=by
    have c2:v2.code=0:=En.same_code (v:=v2) (a:=u) (t:=p[i].type) (by rw[<-hv3];exact hc)
    have c1:=(gC (v:=v1) (p:=p[i].gives) (by rw[<-hv2];exact c2)).1
    exact((hup c1).core lk2.vars).core lk3.vars
   have hok3:=lk3.ok (lk2.ok hok1)
   simp only[go_sem,rE,rA,rL,hc',g5,CF.len,CF.gives]
   refine bP (th L a v3 hok3.len (fun x hx=>(hok3.all x hx).1) hup3 p[i].gives) hE4 (rfl) (.refl _) (by simp) trivial ?_
   rintro q v4 VS4 NS4 H6 fp4 ⟨rfl,e4⟩ hE5 - -
   have ho5:=hE5.obj
   simp only[dg,e4]at ho5
   cases hout:v3.outside p[i].gives with
   |false=>
    simp only[go_sem,rE,rA,rL,ho5]
    exact ak (.refl _) (aj.sub_empty _) ⟨by rw[hspec,if_pos ⟨hc,hout⟩];rfl,rfl⟩
   |true=>
    simp only[go_sem,rE,rA,rL,ho5]
    exact ak (.refl _) (aj.sub_empty _) ⟨by rw[hspec,if_neg (by rintro⟨-,h⟩;rw[hout]at h;simp at h)];rfl,rfl⟩
  ·have hc':(v3.code==0)=false:=by simpa using hc
   simp only[go_sem,rE,rA,rL,hc',ho4]
   exact ak (.refl _) (aj.sub_empty _) ⟨by rw[hspec,if_neg (fun h=>hc h.1)];rfl,rfl⟩
end
noncomputable def jg(p:List Fu)(f:Fu)(l:List St):Sc×Int:=if(cK (bi p) f.params).2=0 then(cK (bi p) f.params).1.stmts l else cK (bi p) f.params
noncomputable def atS(p:Pg)(fn n:Int):Option Sc:=
 if iP p=true/\0<=fn/\fn<p.length then match p[fn.toNat]? with
  |some f=>if 0<=n/\n<=f.body.length then(if(jg (p.take fn.toNat) f (f.body.take n.toNat)).2=0 then some (jg (p.take fn.toNat) f (f.body.take n.toNat)).1 else none)else none
  |none=>none
 else none
theorem vY{p:Pg}{i n:Nat}(h:iP p=true)(hi:i<p.length)(hn:n<=p[i].body.length):atS p i n=if(jg (p.take i) p[i] (p[i].body.take n)).2=0 then some (jg (p.take i) p[i] (p[i].body.take n)).1 else none:=by
 unfold atS
 rw[if_pos ⟨h,by omega,by omega⟩,dj,aw hi]
 simp only
 rw[if_pos ⟨by omega,by omega⟩,dj]
theorem lv{d:Nat}{l:List St}(h:cd d l=true)(m:Nat):cd d (l.take m)=true:=by
 cases d with
 |zero=>simp[cd]at h
 |succ d=>
  simp only[cd,a6,decide_eq_true_eq,aV]at h⊢
  exact⟨by rw[bp];omega,fun s hs=>h.2 s (bC hs)⟩
theorem nI{p:Pg}(h:iP p=true):fg p=true:=by unfold iP at h;simp only[a6]at h;exact h.1
theorem xF{pi:List Fu}{f:Fu}(W:FuW f)(hti:∀f∈pi,f.type.okB=true)(m:Nat)(hz:(jg pi f (f.body.take m)).2=0):(bi pi).step (jg pi f (f.body.take m)).1 100:=by
 unfold jg at hz⊢
 have hpl4:=W.plen
 have h0:(bi pi).vars.length=0:=rfl
 split at hz
 ·rename_i hz1
  rw[if_pos hz1]
  have st:=ix f.params (fT pi) rfl W.params (by omega) hz1
  have hhi:=st.hi
  have W4:=lv W.body m
  have hl:(f.body.take m).length<=40:=by
   have h:=W4
   simp only[cd,a6,decide_eq_true_eq]at h
   exact h.1
  exact(st.trans (fE 4 (f.body.take m) W4 _ st.good st.held (by rw[st.lost];rfl) (by rw[st.p];exact hti) (by omega) hz)).mono (by omega)
 ·rename_i hz1;exact absurd hz hz1
theorem y8{p:Pg}{fn n:Int}{v:Sc}(h:atS p fn n=some v):∃(i m:Nat) (hi:i<p.length),fn=i/\n=m/\m<=p[i].body.length/\iP p=true/\(jg (p.take i) p[i] (p[i].body.take m)).2=0/\(jg (p.take i) p[i] (p[i].body.take m)).1=v:=by
 unfold atS at h
 split at h
 ·rename_i h1
  obtain⟨i,rfl⟩:=cx h1.2.1
  have hi:i<p.length:=by omega
  rw[dj,aw hi]at h
  simp only at h
  split at h
  ·rename_i h2
   obtain⟨m,rfl⟩:=cx h2.1
   rw[dj]at h
   split at h
   ·rename_i h3
    exact⟨i,m,hi,rfl,rfl,by omega,h1.1,h3,by simpa using h⟩
   ·simp at h
  ·simp at h
 ·simp at h
theorem pq{p:Pg}{fn n:Int}{v:Sc}(h:atS p fn n=some v):∃pi,(bi pi).step v 100:=by
 obtain⟨i,m,hi,rfl,rfl,hm,hf,hz,rfl⟩:=y8 h
 obtain⟨hpl,hpfm⟩:=fk (nI hf)
 exact⟨p.take i,xF (hpfm p[i] (ax hi)) (fun f hf=>(hpfm f (bC hf)).type) m hz⟩
noncomputable def liveS(p:Pg)(fn n:Int):List ByteArray:=match atS p fn n with|none=>[]|some v=>jP v.vars
section
variable {P:Program}{F:Ids}{er:bZ}
def AtR(F:Ids)(er:bZ)(H:aj)(r:Option Sc)(q:AC)(H':aj):Prop:=match r with
 |none=>q=.tup [.lit (.pointer none),B false]/\H'=H
 |some v=>∃s ORD HELD m1 m2,q=.tup [.ptr s 0,B true]/\cF F er H' s v ORD HELD m1 m2/\pT F H H' s ORD HELD m1 m2
theorem gE{E:Env}{H:aj}{n m:Nat}{R:AC->aj->Prop}{H':aj}(hs:H'.sub H)(h:R (.tup [E n,E m]) H'):bm.post [.slot n,.slot m] R .ret E H:=
 ⟨.tup [E n,E m],lT rfl rfl,_,H',.of (.refl _) hs,h⟩
theorem c_kAt(L:Lib P F)(T:Tys F)(hC:eF P F er)(p:Pg)(hc:p.small)(fn n:Int)(H:aj)(he:eW F er H):
 bz P 29 [.agg (Pg.enc p),I fn,I n] H fun q H'=>AtR F er H (atS p fn n) q H':=by
 refine(L.a Tryz.func29 y29) (by simp[y29]) ?_
 have hpf:=fun H1 he1=>vN (er:=er) L T hC p hc H1 he1
 simp only[Pg.enc]at hpf
 simp only[y29,go_sem,rE,rA,rL,Pg.enc]
 intro b3 hb3
 have g3:(H.set b3 (.cells [.sl 12 none (p.map Fu.enc)])).get b3=some (.cells [.sl 12 none (p.map Fu.enc)]):=ai _ _ _
 have k3:∀c o,H.get c=some o->(H.set b3 (.cells [.sl 12 none (p.map Fu.enc)])).get c=some o:=fun c o hc=>by rw[ae _ _ (al hc hb3)];exact hc
 have he3:eW F er (H.set b3 (.cells [.sl 12 none (p.map Fu.enc)])):=fun c hc=>k3 _ _ (he c hc)
 generalize H.set b3 _=H3 at*
 refine dq (hpf H3 he3) rfl (aj.sub_refl _) (fun h=>by simp at h) trivial ?_
 rintro q H4 ⟨rfl,rfl⟩ -
 rw[fJ]
 have none0:atS p fn n=none->∀E:Env,E 6=.lit (.pointer none)->E 7=B false->bm.post [.slot 6,.slot 7] (fun q H'=>AtR F er H (atS p fn n) q H') .ret E H4:=by
  intro h E e6 e7
  exact gE (fun b o hb=>k3 b o hb) (by rw[h,e6,e7];exact⟨rfl,rfl⟩)
 cases hf:iP p
 ·have hx:atS p fn n=none:=by unfold atS;rw[if_neg (by simp[hf])]
  simp only[go_sem,rE,rA,rL]
  exact none0 hx _ rfl rfl
 simp only[go_sem,rE,rA,rL]
 by_cases h1:fn<0
 ·have hx:atS p fn n=none:=by unfold atS;rw[if_neg (by omega)]
  simp only[h1,decide_true,go_sem,rE,rA,rL]
  exact none0 hx _ rfl rfl
 obtain⟨i,rfl⟩:=cx (by omega:0<=fn)
 simp only[h1,decide_false,go_sem,rE,rA,rL,g3,am]
 by_cases h2:(i:Int)>=p.length
 ·have hx:atS p i n=none:=by unfold atS;rw[if_neg (by omega)]
  simp only[h2,decide_true,go_sem,rE,rA,rL]
  exact none0 hx _ rfl rfl
 have hi:i<p.length:=by omega
 simp only[h2,decide_false,go_sem,rE,rA,rL,g3,am]
 by_cases h3:n<0
 ·have hx:atS p i n=none:=by
   unfold atS;rw[if_pos ⟨hf,by omega,by omega⟩,dj,aw hi]
   simp only;rw[if_neg (by omega)]
  simp only[h3,decide_true,go_sem,rE,rA,rL]
  exact none0 hx _ rfl rfl
 obtain⟨m,rfl⟩:=cx (by omega:0<=n)
 have hga:(p.map Fu.enc)[i]?=some p[i].enc:=by simp[hi]
 rw[Fu.enc_eq]at hga
 simp only[h3,decide_false,go_sem,rE,rA,rL,g3,am,hga,St.encs_map]
 by_cases h4:(m:Int)>(p[i].body.length:Int)
 ·have hx:atS p i m=none:=by
   unfold atS;rw[if_pos ⟨hf,by omega,by omega⟩,dj,aw hi]
   simp only;rw[if_neg (by omega)]
  simp only[h4,decide_true,go_sem,rE,rA,rL]
  exact none0 hx _ rfl rfl
 have hm:m<=p[i].body.length:=by omega
 simp only[h4,decide_false,go_sem,rE,rA,rL,g3,am,hga,St.encs_map]
 have hx:=vY hf hi hm
 rw[hx]
 obtain⟨hpl,hpfm⟩:=fk (p:=p) (by unfold iP at hf;simp only[a6]at hf;exact hf.1)
 have W:=hpfm p[i] (ax hi)
 have hti:∀f∈p.take i,f.type.okB=true:=fun f hf=>(hpfm f (bC hf)).type
 have hpil:(p.take i).length<=2^30:=by rw[bp];omega
 clear hx none0 hga hpf hpfm hpl
 intro b8 hb8
 have d38:=al g3 hb8
 have hb8':H.get b8=none:=by
  cases h:H.get b8 with
  |none=>rfl
  |some o=>rw[k3 b8 o h]at hb8;simp at hb8
 have hsl:(0<=i/\i<=(p.map Fu.enc).length):=⟨fN _,by simp;omega⟩
 simp only[go_sem,rE,rA,rL,d38,g3,if_pos hsl]
 rw[<-ip]
 generalize p[i]=f at*
 generalize p.take i=pi at*
 have fe:=Fu.enc_eq f
 rw[St.encs_map]at fe
 rw[<-fe]
 have k8:∀c o,H.get c=some o->(H4.set b8 (.cells f.enc)).get c=some o:=fun c o hc=>by
  rw[ae _ _ (al hc hb8')];exact k3 c o hc
 have he8:eW F er (H4.set b8 (.cells f.enc)):=fun c hc=>k8 _ _ (he c hc)
 have g8:(H4.set b8 (.cells f.enc)).get b8=some (.cells f.enc):=ai _ _ _
 have e8:∀c,(c=2\/c=3\/c=4\/c=5)->b8≠F.err c:=fun c hc=>Ne.symm (al (he c hc) hb8')
 generalize H4.set b8 _=H5 at*
 refine dq (vP (er:=er) L pi H5 he8) rfl (aj.sub_refl _) (fun h=>by simp at h) trivial ?_
 rintro q H2 ⟨s,m1,m2,rfl,hS,up,f1,f2,f3⟩ -
 rw[fB]
 have hR:pT F H5 H2 s NIL NIL m1 m2:=.begin up f1 f2 f3
 have g8':=(hR b8 _ g8 e8).1
 rw[fe]at g8'
 simp only[go_sem,rE,rA,rL,g8']
 have hpk:=tr (er:=er) L s (bi pi) (fT pi).ok f (by have:=W.plen;simp[bi];omega)
 rw[fe]at hpk
 refine cZ hpk hS (by simp only[go_sem,rE,aS,bD]) (.refl _) (fun h=>by simp at h) trivial ?_
 rintro q v2 ORD2 HELD2 H4 fp2 ⟨rfl,rfl⟩ hS4 hfr4 -
 have hR4:=hR.step hfr4
 have g84:=(hR4 b8 _ g8 e8).1
 rw[fe]at g84
 have fin:∀(Hk:aj) (w:Sc) (ORD HELD:AC),cF F er Hk s w ORD HELD m1 m2->pT F H5 Hk s ORD HELD m1 m2->H.sub Hk:=fun Hk w ORD HELD h1 h2 b o hb=>(h2.sub he8 h1) b o (k8 b o hb)
 by_cases hz1:(cK (bi pi) f.params).2=0
 ·have hb:∀l,jg pi f l=(cK (bi pi) f.params).1.stmts l:=fun l=>by unfold jg;rw[if_pos hz1]
  rw[hz1,dv,hb]
  have hsl2:(0<=m/\m<=(f.body.map St.enc).length):=⟨fN _,by simp;omega⟩
  simp only[go_sem,rE,rA,rL,g84,if_pos hsl2]
  rw[<-ip]
  have st:=ix f.params (fT pi) rfl W.params (by have:=W.plen;simp[bi];omega) hz1
  have hhi:=st.hi
  have hpl4:=W.plen
  have h0:(bi pi).vars.length=0:=rfl
  have hst:=vM (er:=er) L T hC 4 (f.body.take m) (lv W.body m) _ st.good st.held (by rw[st.lost];rfl) (by rw[st.p];exact hti) (by rw[st.p];exact hpil) (by omega) s
  rw[St.encs_map]at hst
  refine cZ hst hS4 (by simp only[go_sem,rE,aS,bD]) (.refl _) (fun h=>by simp at h) trivial ?_
  rintro q v3 ORD3 HELD3 H5 fp3 ⟨rfl,rfl⟩ hS5 hfr5 -
  have hR5:=hR4.step hfr5
  by_cases hz2:((cK (bi pi) f.params).1.stmts (f.body.take m)).2=0
  ·rw[if_pos hz2,hz2,dv]
   simp only[go_sem,rE,rA,rL]
   refine gE (aj.sub_refl _) ⟨s,ORD3,HELD3,m1,m2,rfl,hS5,fun b o hb hn=>hR5 b o (k8 b o hb) hn⟩
  ·rw[if_neg hz2,cn er hz2]
   simp only[go_sem,rE,rA,rL]
   exact gE (fin _ _ _ _ hS5 hR5) ⟨rfl,rfl⟩
 ·have hb:∀l,jg pi f l=cK (bi pi) f.params:=fun l=>by unfold jg;rw[if_neg hz1]
  rw[hb,if_neg hz1,cn er hz1]
  simp only[go_sem,rE,rA,rL,g84]
  exact gE (fin _ _ _ _ hS4 hR4) ⟨rfl,rfl⟩
end
noncomputable def oj(p:Pg):Int×Int:=if fg p=true then match my p with|none=>(0,0)|some i=>(hZ p i,i)else(1,0)
theorem qr{p:Pg}(hp:fg p=true){i:Nat}(hi:i<p.length):kA p i=hZ p i/\0<=hZ p i:=by
 have:=Bt hp hi
 simp only[hZ,aw hi]
 exact this
theorem uB(p:Pg):decide ((oj p).1>0)=!iP p:=by
 unfold oj iP
 cases hf:fg p with
 |false=>simp
 |true=>
  simp only[if_true,cb]
  cases h:my p with
  |none=>simp
  |some i=>
   unfold my at h
   rw[List.find?_range_eq_some]at h
   obtain⟨h1,h2,-⟩:=h
   have:=(qr hf (eN.1 (by simpa using h2))).2
   simp at h1
   simp
   omega
section
variable {P:Program}{F:Ids}
theorem x8(L:Lib P F){p:Pg}(hf:p.fit):cO P 43 [.agg (Pg.enc p)] (.tup [I (oj p).1,I (oj p).2]):=by
 refine(L.a Tryz.func43 y43) (by simp[y43]) ?_
 simp only[y43,go_sem,rE,rA,rL,Pg.enc]
 intro b1 hb1
 have g1:=ai .empty b1 (.cells [.sl 12 none (p.map Fu.enc)])
 generalize aj.empty.set b1 (.cells [.sl 12 none (p.map Fu.enc)])=H1 at*
 refine ao (B9 L p fun f hf'=>by have:=(hf.2 f hf').2;omega) (by simp only[go_sem,rE,Pg.enc]) ?_
 simp only[go_sem,rE,rA,rL]
 cases hfo:fg p with
 |false=>
  simp only[go_sem,rE,rA,rL]
  exact gE (aj.sub_empty _) ⟨by simp only[oj,hfo];rfl,rfl⟩
 |true=>
 obtain⟨hpl,hw⟩:=fk hfo
 simp only[go_sem,rE,rA,rL]
 refine aQ p.length (fun k E' H'=>E' 1=.ptr b1 0/\E' 4=I k/\H'=H1/\∀j,j<k->hZ p j=0) ⟨rfl,rfl,rfl,fun j hj=>absurd hj (Nat.not_lt_zero _)⟩ ?_
 rintro k E' H' hk ⟨q1,q4,rfl,hall⟩
 simp only[go_sem,rE,rA,rL,q1,q4,g1,am]
 refine aE (fun hlt=>?_) (fun hge=>?_)
 ·have hk1:k<p.length:=by omega
  have w1:=aJ (n:=(k:Int)+1) (by omega) (by omega)
  obtain⟨cs1,cs2⟩:=qr hfo hk1
  simp only[go_sem,rE,rA,rL,q1,q4,g1]
  refine ao (B7 L hfo hf hk1) (by simp only[go_sem,rE,Pg.enc]) ?_
  simp only[go_sem,rE,rA,rL,q4]
  rw[cs1]
  refine aE (fun hgt=>?_) (fun hle=>?_)
  ·simp only[go_sem,rE,rA,rL,q4]
   exact gE (aj.sub_empty _) ⟨by simp only[oj,hfo,if_true,rI hk1 hall (by omega)];rfl,rfl⟩
  ·simp only[go_sem,rE,rA,rL,q1,q4,w1]
   refine⟨hk1,_,aj.sub_refl _,by simp,rfl,fun j hj=>?_⟩
   by_cases e:j=k
   ·subst e;omega
   ·exact hall j (by omega)
 ·have hkk:k=p.length:=by omega
  subst hkk
  simp only[go_sem,rE,rA,rL]
  exact gE (aj.sub_empty _) ⟨by simp only[oj,hfo,if_true,rJ hall];rfl,rfl⟩
end
noncomputable def iQ(p:Pg)(fn n:Int):Option En:=
 if iP p=true/\0<=fn/\fn<=(p.length:Int) - 1 then match p[fn.toNat]? with
  |some f=>if 0<=n/\n<=f.body.length then some ((cz p fn.toNat).body (f.body.take n.toNat))else none
  |none=>none
 else none
section
variable {P:Program}{F:Ids}
end
theorem qL:∀(l:List St) (m:Nat) (v:Sc),(v.stmts l).2=0->(v.stmts (l.take m)).2=0
 |[],m,v,h=>by rw[List.take_nil];exact h
 |s::l,0,v,h=>by rw[List.take_zero,eM]
 |s::l,m+1,v,h=>by
  rw[List.take_succ_cons,dP]
  rw[dP]at h
  split at h
  ·rename_i h0;rw[if_pos h0];exact qL l m _ h
  ·rename_i h0;exact absurd h h0
theorem xG(p:Pg)(fn n:Int):(atS p fn n=none/\iQ p fn n=none)\/∃v e,atS p fn n=some v/\iQ p fn n=some e/\Rel e v []:=by
 by_cases hc:iP p=true/\0<=fn/\fn<p.length
 ·obtain⟨hfine,h0,h1⟩:=hc
  obtain⟨i,rfl⟩:=cx h0
  have hi:i<p.length:=by omega
  unfold iQ
  rw[if_pos ⟨hfine,by omega,by omega⟩,dj,aw hi]
  simp only
  by_cases hn:0<=n/\n<=p[i].body.length
  ·obtain⟨m,rfl⟩:=cx hn.1
   have hm:m<=p[i].body.length:=by omega
   rw[vY hfine hi hm,if_pos hn,dj]
   have hfo:=nI hfine
   obtain⟨hpl,hpf⟩:=fk hfo
   have W:=hpf p[i] (ax hi)
   have hti:∀f∈p.take i,f.type.okB=true:=fun f hf=>(hpf f (bC hf)).type
   have hcode:jr (p.take i) p[i]=0:=by
    simp only[iP,a6]at hfine
    have h2:=hfine.2
    rw[Option.isNone_iff_eq_none]at h2
    unfold my at h2
    rw[List.find?_eq_none]at h2
    have:=h2 i (eN.2 hi)
    simp only[hZ,aw hi]at this
    simpa using this
   have hr0:Rel (⟨p,i,[],[],0⟩:En) (bi (p.take i)) []:=⟨rfl,rfl,rfl,rfl,⟨by simp[bi],by simp[bi],fun j hj=>by simp[bi]at hj⟩,⟨rfl,fun j hj=>by simp at hj,fun q hq=>by simp[bi]at hq⟩,rfl,fun y hy=>by simp[bi]at hy⟩
   unfold jr at hcode
   split at hcode
   ·simp at hcode
   split at hcode
   ·rename_i a1
    split at hcode
    ·rename_i b0
     have hst:cz p i=(⟨p,i,[],[],0⟩:En).givens p[i].params:=by simp only[cz,aw hi]
     rcases ma p[i].params hr0 rfl W.params with⟨-,a2⟩|⟨a2,-⟩
     ·have st:=ix p[i].params (fT (p.take i)) rfl W.params (by have:=W.plen;simp[bi];omega) a1
      have hhi:=st.hi
      have hpl4:=W.plen
      have h00:(bi (p.take i)).vars.length=0:=rfl
      have b1:=qL p[i].body m _ b0
      have hb:jg (p.take i) p[i] (p[i].body.take m)=(cK (bi (p.take i)) p[i].params).1.stmts (p[i].body.take m):=by unfold jg;rw[if_pos a1]
      rw[hb,if_pos b1,hst]
      rcases j3 4 (p[i].body.take m) (lv W.body m) a2 st.good st.held (by rw[st.p];exact hti) (by omega)with⟨-,b2⟩|⟨b2,-⟩
      ·exact .inr ⟨_,_,rfl,rfl,b2⟩
      ·exact absurd b1 b2
     ·exact absurd a1 a2
    ·rename_i b0;exact absurd hcode b0
   ·rename_i a1;exact absurd hcode a1
  ·rw[if_neg hn]
   refine .inl ⟨?_,rfl⟩
   unfold atS
   rw[if_pos ⟨hfine,h0,h1⟩,dj,aw hi]
   simp only
   rw[if_neg hn]
 ·refine .inl ⟨?_,?_⟩
  ·unfold atS;rw[if_neg hc]
  ·unfold iQ;rw[if_neg (fun h=>hc ⟨h.1,h.2.1,by omega⟩)]
def iJ(x:Vr):List AC:=[S x.name,.sl 2 none (x.loans.map Pl.enc)]
def kJ(x:Vr):Bool:=x.lent&&(!x.dead&&!x.param)
def tc(vs:List Vr):List Vr:=vs.filter kJ
section
variable {P:Program}{F:Ids}
theorem B5(L:Lib P F){p:Pg}(hf:p.fit)(hpl:p.length<=2^20)(fn n:Int):bz P 28 [.agg (Pg.enc p),I fn,I n] .empty fun q H'=>match iQ p fn n with
 |none=>∃a,q=.tup [.ptr a 0,B false]/\H'.get a=some (.cells [NIL,I 0,NIL,NIL,I 0])
 |some e=>∃a VS NS,q=.tup [.ptr a 0,B true]/\bE H' a e VS NS/\e.ok/\0<e.vars.length:=by
 refine(L.a Tryz.func28 y28) (by simp[y28]) ?_
 simp only[y28,go_sem,rE,rA,rL,Pg.enc]
 intro b3 hb3
 have g3:=ai .empty b3 (.cells [.sl 12 none (p.map Fu.enc)])
 generalize aj.empty.set b3 (.cells [.sl 12 none (p.map Fu.enc)])=H0 at*
 clear hb3
 refine ao (x8 L hf) (by simp only[go_sem,rE,Pg.enc]) ?_
 have e0:∀(E':Env) (a:Nat) (H':aj),H'.get a=none->E' 6=.ptr a 0->E' 7=B false->iQ p fn n=none->bm.post [.slot 6,.slot 7] (fun q H'=>match iQ p fn n with
  |none=>∃a,q=.tup [.ptr a 0,B false]/\H'.get a=some (.cells [NIL,I 0,NIL,NIL,I 0])
  |some e=>∃a VS NS,q=.tup [.ptr a 0,B true]/\bE H' a e VS NS/\e.ok/\0<e.vars.length) .ret E' (H'.set a (.cells [NIL,I 0,NIL,NIL,I 0])):=by
  intro E' a H' ha h6 h7 hn
  refine gE (aj.sub_refl _) ?_
  rw[hn,h6,h7]
  exact⟨a,rfl,ai _ _ _⟩
 have hsf:=uB p
 cases hfine:iP p with
 |false=>
  rw[hfine,kT]at hsf
  simp only[go_sem,rE,rA,rL,hsf]
  intro a ha
  exact e0 _ a _ ha rfl rfl (by simp[iQ,hfine])
 |true=>
 rw[hfine,Bool.not_true]at hsf
 have w0:=aJ (n:=(p.length:Int) - 1) (by omega) (by omega)
 simp only[go_sem,rE,rA,rL,hsf,g3,am,w0]
 refine ao (oC L fn 0 ((p.length:Int) - 1)) (by simp only[go_sem,rE]) ?_
 by_cases hin:¬(0<=fn/\fn<=(p.length:Int) - 1)
 ·simp only[go_sem,rE,rA,rL,hin,decide_false]
  intro a ha
  exact e0 _ a _ ha rfl rfl (by simp only[iQ,hfine,true_and,if_neg hin])
 have hin:=Decidable.not_not.1 hin
 obtain⟨i,rfl⟩:=cx hin.1
 have hi:i<p.length:=by omega
 obtain⟨cf,hcf,CF⟩:=fuC p[i]
 have hgf:(p.map Fu.enc)[i]?=some cf:=by rw[<-hcf];simp[hi]
 have cfb:(cf.drop 4)[0]?=some (.sl 15 none (St.encs p[i].body)):=by rw[bW];exact CF.body
 simp only[go_sem,rE,rA,rL,hin,decide_true,g3,hgf,CF.len,CF.body,cfb,am]
 refine ao (oC L n 0 p[i].body.length) (by simp only[go_sem,rE,St.encs_map,am]) ?_
 have hat:iQ p i n=if 0<=n/\n<=p[i].body.length then some ((cz p i).body (p[i].body.take n.toNat))else none:=by
  unfold iQ
  rw[if_pos ⟨hfine,by omega,by omega⟩,dj,aw hi]
 by_cases hn:¬(0<=n/\n<=p[i].body.length)
 ·simp only[go_sem,rE,rA,rL,hn,decide_false]
  intro a ha
  exact e0 _ a _ ha rfl rfl (by rw[hat,if_neg hn])
 have hn:=Decidable.not_not.1 hn
 obtain⟨m,rfl⟩:=cx hn.1
 have hm:m<=p[i].body.length:=by omega
 rw[if_pos ⟨by omega,by omega⟩,dj]at hat
 clear e0
 rw[hat]
 simp only[iP,a6]at hfine
 obtain⟨hfo,-⟩:=hfine
 obtain⟨-,hw⟩:=fk hfo
 have W:=hw p[i] (ax hi)
 obtain⟨hp1,hcnt⟩:=hf.2 p[i] (ax hi)
 obtain⟨s1,s2,s3,s4,s5⟩:=pE hfo hi
 have hwp:=W.plen
 have hokS:∀f∈p,f.okS:=fun f hf=>(hw f hf).okS
 have hst:=lH 4 _ W.body
 have htk:=jA p[i].body m
 have hbs:=(En.stmt_step _).2 (p[i].body.take m) (aD _) (fun s hs=>(hst s (bC hs)).1) (cz p i) s1 (by omega) (by rw[s2];exact hokS)
 simp only[go_sem,rE,rA,rL,hn,decide_true,g3,and_self,Int.natCast_nonneg]
 refine pH L p i hi (by omega) (by omega) (by simp only[go_sem,rE,Pg.enc]) (.refl _) ?_
 intro a VS NS H1 fp hE1 hs1 hn1
 have g3:=hs1 _ _ g3
 have n3:¬aP a VS NS b3:=fun hb=>by have:=hn1 _ hb;simp_all
 generalize cz p i=v0 at*
 simp only[go_sem,rE,rA,rL,g3,hgf,CF.len,cfb,CF.body]
 have hel:(St.encs p[i].body).length=p[i].body.length:=by rw[St.encs_map,am]
 have hle:0<=m/\m<=(St.encs p[i].body).length:=⟨by omega,by omega⟩
 have htke:(St.encs p[i].body).take m=St.encs (p[i].body.take m):=by rw[St.encs_map,St.encs_map,ip]
 simp only[go_sem,rE,rA,rL,hle,and_self,htke]
 refine bP (yv L _ a (p[i].body.take m) (aD _) (fun s hs=>(hst s (bC hs)).1) v0 s1 (by omega) (by omega) (by omega) (by rw[s2];exact hokS) (by rw[s2];omega) (by omega)) hE1 (rfl) (.refl _) (by simp) trivial ?_
 rintro q v1 VS1 NS1 H2' fp1 ⟨rfl,hv1⟩ hE2 hk2 -
 rw[<-hv1]at hbs⊢
 have hlo:=hbs.lo
 simp only[go_sem,rE,rA,rL]
 exact gE (aj.sub_refl _) ⟨a,VS1,NS1,rfl,hE2,hbs.ok,by omega⟩
end
def ke(ro:Option Nat):Fence:={Fence.wide with round:=ro}
theorem Af(ro:Option Nat)(l:Nat):(ke ro).inRound l=ke (some l):=rfl
theorem mB(ro:Option Nat)(n:Nat):(ke ro).depth.isSome=true->1<=n:=fun h=>by simp[ke,Fence.wide]at h
theorem callsR{ro:Option Nat}{n:Nat}{P:Program}{f:FuncId}{args:Array Value}{w:World}{R:Ending->World->Prop}(h:Calls P f args w R):CallsIn (ke ro) n P f args w R:=
 (callsIn_wide.2 h:CallsIn Fence.wide n P f args w R)
section
variable {P:Program}{ro:Option Nat}{n:Nat}
theorem Aj{o:Oper}{a:Act}{next next':Act->World->Prop}{Q:Exit->Act->World->Prop}(hn:∀a w,next a w->next' a w){r:Result Next}(h:o.upon P a next Q r):
 o.uponIn (ke ro) n P a next' Q r:=by
 cases r with
 |halt x w'=>
  cases x<;>first|exact h|exact h.elim
 |ok x w'=>
  cases x<;>first
   |exact hn _ _ h
   |exact h.elim
   |exact⟨mB _ _,callsR (Calls.mono h fun e w'' he=>by cases e<;>first|exact hn _ _ he|exact he)⟩
   |exact⟨mB _ _,fun c cs _=>let⟨v,w'',hr,hs⟩:=h c cs;⟨v,w'',hn _ _ hr,stepsIn_wide.2 hs⟩⟩
def pD(F:Fence)(n:Nat)(P:Program)(ops:Array Oper)(Q:Exit->Act->World->Prop)(i:Nat)(next:Act->World->Prop)(a:Act)(w:World):Prop:=
 match ops[i]? with
 |none=>next a w
 |some o=>if Region.wanted o (yielded ops a.tmps)then o.wpIn F n P a w next Q else(∀f,o.about P w a.eval=some f->F.fn f)/\next (a.put o.dst undef) w
theorem oL{F:Fence}{ops:Array Oper}{Q:Exit->Act->World->Prop}(i:Nat)(rest:List Nat)(a:Act)(w:World):wpOpsIn F n P ops Q (i::rest) a w=pD F n P ops Q i (wpOpsIn F n P ops Q rest) a w:=by
 cases h:ops[i]?<;>simp[wpOpsIn,pD,h]
theorem Ae{ops:Array Oper}{Q:Exit->Act->World->Prop}(hQ:¬LetsOut Q){i:Nat}(hd:∀o,ops[i]?=some o->∀c,o.op≠.defer c){next next':Act->World->Prop}(hn:∀a w,next a w->next' a w){a:Act}{w:World}
(h:wpOp P ops Q i next a w):pD (ke ro) n P ops Q i next' a w:=by
 unfold wpOp at h
 unfold pD
 split at h
 ·rename_i ho
  simp only[ho]
  exact hn _ _ h
 ·rename_i o ho
  simp only[ho]
  split at h
  ·rename_i hw
   rw[if_pos hw]
   rcases h with h|⟨-,h⟩
   ·refine⟨fun _ _=>trivial,?_⟩
    rw[Oper.semAt_eq _ _ _ (hd o ho)]
    exact Aj hn h
   ·exact absurd h hQ
  ·rename_i hw
   rw[if_neg hw]
   exact⟨fun _ _=>trivial,hn _ _ h⟩
theorem s9{N:Nat}{ops:Array Oper}{i:Nat}{inc:List Nat}{x:aM}(h:eJ P N ops i inc=some x):∀o,ops[i]?=some o->∀c,o.op≠.defer c:=by
 intro o ho c hc
 simp only[eJ,ho]at h
 have:qc P o.op=none:=by
  rw[hc]
  simp[qc,yl,qY,s8,resL,iq]
 rw[this]at h
 simp at h
theorem qK{N:Nat}{ops:Array Oper}{Q:Exit->Act->World->Prop}(hQ:¬LetsOut Q){dr:Bool}{K:Env->aj->Prop}{rest:List Nat}:∀(xs:List aM),(∀x∈xs,eJ P N ops x.id x.inc=some x)->∀{M:bY} {E:Env} {H:aj} {a:Act} {w:World} {l:Lds} {f:Fps},
 cD N M E a->Sim M H w->bF P dr K (xs.map aM.toM) E H l f->(∀a' w',l8 P N K M H w a a' w'->wpOpsIn (ke ro) n P ops Q rest a' w')->wpOpsIn (ke ro) n P ops Q (xs.map (·.id)++rest) a w:=by
 intro xs
 induction xs with
 |nil=>intro _ M E H a w l f hE s h hq;exact hq a w ⟨E,H,M,h,hE,s,bO.refl _ _ _,rfl⟩
 |cons x xs ih=>
  intro hres M E H a w l f hE s h hq
  rw[aS,cH,oL]
  simp only[aS,bF]at h
  refine Ae hQ (s9 (hres x (by simp))) (fun _ _ h=>h) (mH (hres x (by simp)) hE s h fun r H' l' f' M' a' w' hk hE' s' t' hd'=>?_)
  refine ih (fun y hy=>hres y (by simp[hy])) hE' s' hk fun a'' w'' hp=>hq a'' w'' ?_
  obtain⟨E'',H'',M'',p1,p2,p3,p4,p5⟩:=hp
  exact⟨E'',H'',M'',p1,p2,p3,t'.trans p4,p5.trans hd'⟩
end
section
variable {P:Program}{ro:Option Nat}{n:Nat}
theorem toLit_X{ops:Array Oper}{d:Option Nat}{x:XOp}{c:we}{zas:List aI}(h:mG ops d x=.eff (.callX c zas)):x=.eff (.callX c zas):=by
 unfold mG at h
 repeat' (split at h)
 all_goals first|exact h|simp at h
theorem resOp_X{op:Op}{c:we}{zas:List aI}(h:qc P op=some (.eff (.callX c zas))):iq P op=some (.callX c zas):=by
 simp only[qc]at h
 split at h
 ·simp at h
 ·split at h
  ·simp at h
  ·simp only[a9,XOp.eff.injEq]at h
   obtain⟨e,he,rfl⟩:=h
   exact he
theorem yY{o:Oper}{zas:List aI}(hres:iq P o.op=some (.callX .clos zas)):∃t args ts,o.op=.call ⟨.value (.tmp t),args,ts⟩/\kc (.tmp t::args.toList)=some zas:=by
 obtain⟨dst,op,ty,pos,after,guard⟩:=o
 cases op<;>simp only[iq]at hres<;>try(simp at hres;done)
 case lookup=>repeat' split at hres
              all_goals simp at hres
 case mapUpdate=>repeat' split at hres
                 all_goals simp at hres
 case buildSlice=>repeat' split at hres
                  all_goals simp at hres
 case store=>repeat' split at hres
             all_goals simp at hres
 case makeMap t r=>
  cases r with
  |some r=>simp at hres
  |none=>
   simp only[]at hres
   split at hres<;>simp at hres
 case call c=>
  obtain⟨callee,args,argTypes⟩:=c
  cases callee with
  |invoke r m=>simp[iq]at hres
  |builtin b=>
   cases b<;>simp only[iq]at hres<;>try(simp at hres;done)
   repeat' split at hres
   all_goals simp at hres
  |value f=>
   cases f with
   |tmp t=>
    simp only[iq,a9,EOp.callX.injEq,true_and]at hres
    obtain⟨as',has,rfl⟩:=hres
    exact⟨t,args,argTypes,rfl,has⟩
   |func f=>
    simp only[iq]at hres
    repeat' split at hres
    all_goals simp at hres
   |_=>simp[iq]at hres
theorem Ab{N:Nat}{ops:Array Oper}{Q:Exit->Act->World->Prop}{i:Nat}{d:Option Nat}{inc:List Nat}{zas:List aI}(hx:eJ P N ops i inc=some ⟨i,d,none,.eff (.callX .clos zas),inc⟩){M:bY}{E:Env}{a:Act}{w:World}(hE:cD N M E a)
{l:Nat}{xs:List AC}(ha:zas.map (aI.ev E)=.lit (.func (.yield l) #[] #[])::xs){R:Value->World->Prop}(hy:∀vs:List Value,ic M xs vs->YieldAt (ke ro) (n - 1) P l vs.toArray w fun e w'=>∃v,e=.returned v/\R v w')
{next:Act->World->Prop}(hn:∀v w',R v w'->next (a.put d v) w'):pD (ke ro) n P ops Q i next a w:=by
 simp only[eJ]at hx
 split at hx
 ·rename_i o ho
  split at hx
  ·rename_i xo g hxo hg
   split at hx
   ·rename_i hc
    simp only[a6]at hc
    simp only[Option.some.injEq,aM.mk.injEq,true_and,and_true]at hx
    obtain⟨rfl,rfl,hop⟩:=hx
    have hlit:=toLit_X hop
    subst hlit
    obtain⟨t,args,ts,hcall,has⟩:=yY (resOp_X hxo)
    have hargs:=iY (fun x xa hx=>hE.arg x xa hx) _ _ has
    rw[ha]at hargs
    unfold pD
    simp only[ho]
    rw[jL hg hc.2 hE (b:=true) rfl]
    simp only[if_true]
    have h0:=lj (hargs.2 0 _ _ rfl rfl)
    have hrest:ic M xs (args.toList.map a.eval):=⟨by simpa using hargs.1,fun j x v hx hv=>hargs.2 (j+1) x v (by simpa using hx) (by simpa using hv)⟩
    obtain⟨fn,tmps,assign,body,hrun,hround⟩:=hy _ hrest
    have hex:(execOp a.eval o).run P w=.ok (.round l fn tmps assign body) w:=by
     obtain⟨dst,op,ty,pos,after,guard⟩:=o
     simp only at hcall
     subst hcall
     have hmap:args.map a.eval=(args.toList.map a.eval).toArray:=by apply fq.1;simp only[Array.toList_map]
     simp[execOp,resolve,h0,Deferred.ofValue,invoke,callFunc,Sem.run_bind,Sem.run_pure,Result.andThen,hmap,hrun]
    refine⟨fun _ _=>trivial,?_⟩
    rw[Oper.semAt_eq _ _ _ (by rw[hcall];intro c hc;cases hc),hex,Oper.uponIn_round]
    refine⟨mB _ _,hround.mono fun e w' he=>?_⟩
    obtain⟨v,rfl,hv⟩:=he
    exact hn _ _ hv
   ·simp at hx
  ·simp at hx
 ·simp at hx
end
def YC(P:Program)(ro:Option Nat)(n l:Nat)(xs:List AC)(M:bY)(Sd:World->Prop)(H:aj)(R:aj->Prop):Prop:=
 ∀(M':bY) (w':World) (vs:List Value),M.le M'->Sim M' H w'->Sd w'->ic M' xs vs->
  YieldAt (ke ro) n P l vs.toArray w' fun e w''=>e=.returned (.bool true)/\∃M'' H'',Sim M'' H'' w''/\bO M' H w' M'' H'' w''/\R H''
section
variable {P:Program}{ro:Option Nat}{n:Nat}
theorem l7{N:Nat}{K:cS->Env->aj->Prop}{M:bY}{H:aj}{w:World}{a:Act}:¬LetsOut (sn N K M H w a):=by
 rintro⟨a',w',xe,-,-,-,he,-⟩
 simp[dT]at he
theorem mN{N id:Nat}{ops:Array Oper}{xc:aW}(h:dc P N ops false=some xc){K:cS->Env->aj->Prop}{M:bY}{E:Env}{H:aj}{a:Act}{w:World}
(hE:cD N M E a)(s:Sim M H w)(hw:xc.wp P K E H):(Code.region id ops false).wpIn (ke ro) n P (sn N K M H w a) a w:=by
 simp only[dc,a9]at h
 obtain⟨xs,hxs,rfl⟩:=h
 obtain⟨h1,h2⟩:=kj hxs
 refine wpIn_region ?_
 rw[<-h1,<-cB (xs.map (·.id))]
 refine qK l7 xs h2 hE s hw fun a' w' hp=>?_
 obtain⟨E',H',M',p1,p2,p3,p4,p5⟩:=hp
 exact⟨.normal,E',H',M',rfl,p1,p2,p3,p4,p5⟩
theorem uJ{N id:Nat}{ops:Array Oper}{zs1 zs2:List aM}{i:Nat}{d:Option Nat}{zas:List aI}(h:dc P N ops false=some (.region false (zs1++⟨i,d,none,.eff (.callX .clos zas),[]⟩::zs2)))
{K:cS->Env->aj->Prop}{M:bY}{E:Env}{H:aj}{a:Act}{w:World}(hE:cD N M E a)(s:Sim M H w)(hd:∀k,d=some k->k<N){Sd:World->Prop}(hSd:∀M' H' w',bO M H w M' H' w'->Sd w')
(hw:bF P false (fun E' H'=>∃l xs R,zas.map (aI.ev E')=.lit (.func (.yield l) #[] #[])::xs/\YC P ro (n - 1) l xs M Sd H' R/\∀H'',R H''->bF P false (K .normal) zs2 (E'.put d (B true)) H'' [] []) zs1 E H [] []):
 (Code.region id ops false).wpIn (ke ro) n P (sn N K M H w a) a w:=by
 simp only[dc,a9]at h
 obtain⟨xs,hxs,hz⟩:=h
 simp only[aW.region.injEq,true_and]at hz
 obtain⟨h1,h2⟩:=kj hxs
 obtain⟨ys,q,hys,e1,e2⟩:=List.map_eq_append_iff.1 hz
 subst hys
 obtain⟨y,ys2,hq,e3,e4⟩:=List.map_eq_cons_iff.1 e2
 subst hq
 refine wpIn_region ?_
 rw[<-h1,bf]
 rw[<-e1]at hw
 refine qK l7 ys (fun x hx=>h2 x (by simp[hx])) hE s hw fun a' w' hp=>?_
 obtain⟨E',H',M',⟨l,xs,R,ha,hy,hR⟩,hE',s',t',hd'⟩:=hp
 rw[aS,oL]
 have hyM:y=⟨i,d,none,.eff (.callX .clos zas),[]⟩:=by
  by_cases hap:∀q b c d,y.op≠.eff (.append q b c d)
  ·rw[Am hap]at e3;exact e3
  ·simp only[ne_eq,Classical.not_forall,Classical.not_not]at hap
   obtain⟨sz,bb,sa,ya,hop⟩:=hap
   simp[aM.toM,hop,xW]at e3
 have hy2:=h2 y (by simp)
 subst hyM
 refine Ab hy2 hE' ha (R:=fun v w''=>v=.bool true/\∃M'' H'',Sim M'' H'' w''/\bO M' H' w' M'' H'' w''/\R H'') (fun vs hvs=>?_) ?_
 ·obtain⟨fn,tmps,assign,body,hrun,hround⟩:=hy M' w' vs t'.le s' (hSd _ _ _ t') hvs
  refine⟨fn,tmps,assign,body,hrun,hround.mono fun e w'' he=>?_⟩
  obtain⟨rfl,he⟩:=he
  exact⟨_,rfl,rfl,he⟩
 ·rintro v w'' ⟨rfl,M'',H'',s'',t'',hR''⟩
  have hE'':cD N M'' (E'.put d (B true)) (a'.put d (.bool true)):=(hE'.mono t''.le).put hd (.lit trivial)
  have hr:=hR _ hR''
  rw[<-e4]at hr
  rw[<-cB (ys2.map (·.id))]
  refine qK l7 ys2 (fun x hx=>h2 x (by simp[hx])) hE'' s'' hr fun a3 w3 hp=>?_
  obtain⟨E3,H3,M3,p1,p2,p3,p4,p5⟩:=hp
  have hdef:(a'.put d (.bool true)).defers=a'.defers:=by cases d<;>rfl
  exact⟨.normal,E3,H3,M3,rfl,p1,p2,p3,(t'.trans t'').trans p4,p5.trans (hdef.trans hd')⟩
end
theorem Sim.noCells{M:bY}{H:aj}{w:World}(s:Sim M H w){l:Nat}{r:Obj}(h:w.heap[l]?=some r)(hr:∀a b c,r≠.cells a b c)(k:Nat):M l k=none:=by
 cases hm:M l k with
 |none=>rfl
 |some v=>
  have:=s.mem l k v hm
  rw[fH,h]at this
  cases r<;>first|exact absurd rfl (hr _ _ _)|simp at this
theorem Sim.putRec{M:bY}{H:aj}{w:World}(s:Sim M H w){l:Nat}{r:Obj}(h:w.heap[l]?=some r)(hr:∀a b c,r≠.cells a b c)(hn:H.get l=none)(o:Obj):Sim M H (w.putObj l o):=by
 have other:∀b,b≠l->(w.putObj l o).heap[b]?=w.heap[b]?:=fun b hb=>World.putObj_heap_other hb
 refine⟨fun b k v hm=>?_,fun b ho hb=>?_⟩
 ·have hbl:b≠l:=by rintro rfl;rw[s.noCells h hr]at hm;simp at hm
  have:=s.mem b k v hm
  rw[fH]at this⊢
  rw[other b hbl];exact this
 ·have hbl:b≠l:=by rintro rfl;rw[hn]at hb;simp at hb
  have:=s.obj b ho hb
  cases ho<;>simp only[iD,other b hbl]at this⊢<;>exact this
theorem vh(w:World)(l:Nat)(o:Obj):sh w (w.putObj l o):=⟨rfl,rfl⟩
def Env.puts(E:Env):List Nat->List AC->Env
 |p::ps,x::xs=>(E.put (some p) x).puts ps xs
 |_,_=>E
theorem cD.puts{N:Nat}{M:bY}:∀{ps:List Nat} {xs:List AC} {vs:List Value} {E:Env} {tmps:Array Value},cD N M E {tmps:=tmps,defers:=[]}->(∀p∈ps,p<N)->ic M xs vs->
 cD N M (E.puts ps xs) {tmps:=(ps.zip vs).foldl (fun t pv=>t.setIfInBounds pv.1 pv.2) tmps,defers:=[]}
 |[],xs,vs,E,tmps,h,_,_=>by simpa[Env.puts]using h
 |p::ps,[],vs,E,tmps,h,_,hr=>by
  have:vs=[]:=bu hr.1.symm
  subst this
  simpa[Env.puts]using h
 |p::ps,x::xs,[],E,tmps,h,_,hr=>by have:=hr.1;simp at this
 |p::ps,x::xs,v::vs,E,tmps,h,hp,hr=>by
  have hx:Rep M x v:=hr.2 0 _ _ rfl rfl
  have hrest:ic M xs vs:=⟨by simpa using hr.1,fun j a b ha hb=>hr.2 (j+1) a b (by simpa using ha) (by simpa using hb)⟩
  have h1:cD N M (E.put (some p) x) {tmps:=tmps.setIfInBounds p v,defers:=[]}:=h.put (d:=some p) (fun n hn=>by simp at hn;subst hn;exact hp _ (by simp)) hx
  exact(cD.puts (E:=E.put (some p) x) (tmps:=tmps.setIfInBounds p v) h1 (fun q hq=>hp q (dV _ hq)) hrest:)
section
variable {P:Program}
theorem qH{N l:Nat}{fn:FuncId}{tmps:Array Value}{ps:List Nat}{assign body:Code}{D:Nat}{M:bY}{E:Env}(hE:cD N M E {tmps:=tmps,defers:=[]})(hps:∀p∈ps,p<N){Sx:World->Prop}{Pre:List AC->aj->Prop}{l8:List AC->aj->aj->Prop}{EA:List AC->Env}
(hSx:∀w r,Sx w->Sx (w.putObj l r))(hSt:∀M H w M' H' w',H.get l=none->Sx w->bO M H w M' H' w'->(∃xs,Pre xs H)->Sx w')
(hP:∀xs H,Pre xs H->xs.length=ps.length/\H.get l=none)
(hA:∀n xs H M1 w1 a1,M.le M1->cD N M1 (E.puts ps xs) a1->Sim M1 H w1->Pre xs H->assign.wpIn (ke (some l)) n P (sn N (fun e E' H'=>e=.normal/\E'=EA xs/\H'=H) M1 H w1 a1) a1 w1)
(hB:∀n xs H M1 w1 a1,M.le M1->cD N M1 (EA xs) a1->Sim M1 H w1->Pre xs H->Sx w1->l<w1.heap.size->body.wpIn (ke (some l)) n P (sn N (fun e E' H'=>e=.normal/\l8 xs H H') M1 H w1 a1) a1 w1):
 ∀ro n xs H,Pre xs H->YC P ro n l xs M (fun w=>w.heap[l]?=some (.loop {state:=.ready,pending:=none,fn,tmps,params:=ps.toArray,assign,body,defers:=D})/\Sx w) H (l8 xs H):=by
 intro ro n xs H hpre M' w' vs hle s hSd hr
 obtain⟨hl,hx⟩:=hSd
 obtain⟨hlen,hnl⟩:=hP xs H hpre
 obtain⟨rec,hrec⟩:∃rec:LoopState->Loop,rec=fun st=>{state:=st,pending:=none,fn,tmps,params:=ps.toArray,assign,body,defers:=D}:=⟨_,rfl⟩
 have hl0:w'.heap[l]?=some (.loop (rec .ready)):=by rw[hrec];exact hl
 have hnc:∀st a b c,Obj.loop (rec st)≠.cells a b c:=fun st a b c h=>by cases h
 have hlt:l<w'.heap.size:=(dt.1 hl).1
 have hy:=run_yield (P:=P) (args:=vs.toArray) hl (by simp;rw[<-hr.1];exact hlen)
 refine⟨fn,_,assign,body,hy,roundIn_of_wpIn trivial ?_⟩
 rw[Af]
 have hE1:cD N M' (E.puts ps xs) {tmps:=(ps.toArray.zip vs.toArray).foldl (fun t pv=>t.setIfInBounds pv.1 pv.2) tmps,defers:=[]}:=by
  have:=cD.puts (hE.mono hle) hps hr
  have e:(ps.toArray.zip vs.toArray).foldl (fun t pv=>t.setIfInBounds pv.1 pv.2) tmps=(ps.zip vs).foldl (fun t pv=>t.setIfInBounds pv.1 pv.2) tmps:=by
   rw[<-Array.foldl_toList];simp
  rw[e];exact this
 refine wpIn_mono (hA n xs H M' w' _ hle hE1 s hpre) ?_
 rintro e a1 w1 ⟨xe,E',H',M1,he,⟨rfl,rfl,rfl⟩,hE',s1,t1,hd1⟩
 have hen:e=.normal:=by cases e<;>simp[dT]at he⊢
 subst hen
 have hl1:w1.heap[l]?=some (.loop (rec .ready)):=by rw[(t1.same l hlt hnl).1];exact hl0
 have hbr:=run_beginRound (P:=P) hl1 (by rw[hrec])
 have s2:=s1.putRec hl1 (hnc _) hnl (.loop {rec .ready with state:=.busy})
 have hlt1:l<w1.heap.size:=(dt.1 hl1).1
 refine⟨_,hbr,?_⟩
 have hx1:Sx w1:=hSt _ _ _ _ _ _ hnl hx t1 ⟨xs,hpre⟩
 refine wpIn_mono (hB n xs H' M1 _ a1 (bY.le_trans hle t1.le) hE' s2 hpre (hSx _ _ hx1) (by rw[World.putObj_size];exact hlt1)) ?_
 rintro e a3 w3 ⟨xe,E3,H3,M3,he,⟨rfl,hpost⟩,hE3,s3,t3,hd3⟩
 have hen:e=.normal:=by cases e<;>simp[dT]at he⊢
 subst hen
 have hsz2:(w1.putObj l (.loop {rec .ready with state:=.busy})).heap.size=w1.heap.size:=World.putObj_size
 have hl3:w3.heap[l]?=some (.loop {rec .ready with state:=.busy}):=by
  rw[(t3.same l (by rw[hsz2];exact hlt1) hnl).1];exact World.putObj_heap_same hlt1
 have hend:=run_endRound (P:=P) none hl3
 have hn3:H3.get l=none:=by
  cases h:H3.get l with
  |none=>rfl
  |some o=>
   rcases t3.fresh l (by rw[h];simp)with h'|h'
   ·exact absurd hnl h'
   ·rw[hsz2]at h';omega
 refine⟨_,_,hend,rfl,M3,H3,s3.putRec hl3 (fun a b c h=>by cases h) hn3 _,⟨bY.le_trans t1.le t3.le,?_,fun b hb hn=>?_,fun b hb=>?_,?_⟩,hpost⟩
 ·have:=t1.size;have:=t3.size;rw[hsz2]at this;rw[World.putObj_size];omega
 ·have hb1:b<w1.heap.size:=Nat.lt_of_lt_of_le hb t1.size
  obtain⟨e1,m1⟩:=t1.same b hb hn
  obtain⟨e3,m3⟩:=t3.same b (by rw[hsz2];exact hb1) hn
  refine⟨?_,fun o=>(m3 o).trans (m1 o)⟩
  by_cases hbl:b=l
  ·subst hbl
   rw[World.putObj_heap_same (dt.1 hl3).1,hl0,hrec]
   rfl
  ·rw[World.putObj_heap_other hbl,e3,World.putObj_heap_other hbl,e1]
 ·rcases t3.fresh b hb with h|h
  ·exact .inl h
  ·rw[hsz2]at h;exact .inr (bV t1.size h)
 ·exact((t1.io.trans (vh _ _ _)).trans t3.io).trans (vh _ _ _)
end
section
variable {P:Program}
theorem vw{f:FuncId}(h:iZ P f=true)(args:Array Value)(w:World):(callFunc f args).run P w=.ok (.enter f args) w:=by
 simp only[iZ]at h
 split at h
 ·rename_i fn hfn
  simp only[a6,bne_iff_ne,ne_eq]at h
  obtain⟨hb,hnm⟩:=h
  have hbn':fn.body≠none:=by intro h;simp[h]at hb
  simp[callFunc,program,hfn,hnm,hbn',Sem.run,Result.andThen]
 ·simp at h
def ItC(P:Program)(gf:FuncId)(cap:List AC)(H:aj)(Sx:World->Prop)(Pre:Nat->List AC->aj->Prop)(l8:Nat->List AC->aj->aj->Prop)(K:aj->Prop):Prop:=
 ∀(l:Nat) (o:Obj) (M:bY) (w:World) (us:List Value),(∀a b c,o≠.cells a b c)->Sim M H w->w.heap[l]?=some o->H.get l=none->ic M cap us->(∀M' H' w',bO M H w M' H' w'->Sx w')->
  (∀ro n xs H',Pre l xs H'->YC P ro n l xs M (fun w=>w.heap[l]?=some o/\Sx w) H' (l8 l xs H'))->
  CallsIn Fence.wide 0 P gf (#[.func (.yield l) #[] #[]]++us.toArray) w fun e w'=>(∃v,e=.returned v)/\∃M' H',Sim M' H' w'/\bO M H w M' H' w'/\K H'
theorem z8{n m:Nat}{f:FuncId}{args:Array Value}{w:World}{R:Ending->World->Prop}(h:CallsIn Fence.wide n P f args w R):CallsIn Fence.wide m P f args w R:=
 callsIn_wide.2 (callsIn_wide.1 h)
theorem ym{N n:Nat}{g:Operand}{ps:List Nat}{assign body:Code}{a:Act}{w:World}{M:bY}{E:Env}{H:aj}{Q:Exit->Act->World->Prop}{gf:FuncId}{us:List Value}{cap:List AC}
(hE:cD N M E a)(s:Sim M H w)(hg:a.eval g=.func (.func gf) #[] us.toArray)(hgood:iZ P gf=true)(hcap:ic M cap us)
{Pre:Nat->List AC->aj->Prop}{l8:Nat->List AC->aj->aj->Prop}{K:aj->Prop}{Sx:World->Prop}(hit:ItC P gf cap H Sx Pre l8 K)(hSx:∀M' H' w',bO M H w M' H' w'->Sx w')
(hround:∀l D fn,w.heap.size<=l->∀ro n xs H',Pre l xs H'->YC P ro n l xs M (fun w'=>w'.heap[l]?=some (.loop {state:=.ready,pending:=none,fn,tmps:=a.tmps,params:=ps.toArray,assign,body,defers:=D})/\Sx w') H' (l8 l xs H'))
(hQ:∀D M' H' w4,w.heap.size<=D->K H'->Sim M' H' w4->bO M H w M' H' w4->H'.get D=none->w4.heap[D]?=some (.deferred (some []))->Q .normal {a with defers:={target:=.collected D,args:=#[]}::a.defers} w4):
 (Code.rangeFunc g ps.toArray assign body).wpIn Fence.wide n P Q a w:=by
 refine wpIn_rangeFunc ?_
 intro fn hfn
 show ∃l mark w₁ d w₁' f args w₂,(Instr.enterLoop fn a.tmps ps.toArray assign body none).run P w=.ok (l,mark) w₁/\_
 obtain⟨rec,hrec⟩:∃rec:LoopState->Loop,rec=fun st=>{state:=st,pending:=none,fn,tmps:=a.tmps,params:=ps.toArray,assign,body,defers:=w.heap.size}:=⟨_,rfl⟩
 obtain⟨W1,hW1⟩:∃W1,(w.alloc (.deferred (some []))).alloc (.loop (rec .ready))=W1:=⟨_,rfl⟩
 have hL1:W1.heap[w.heap.size+1]?=some (.loop (rec .ready)):=by
  rw[<-hW1];have:=World.alloc_heap_new (w.alloc (.deferred (some []))) (.loop (rec .ready));rwa[World.size_alloc]at this
 have hold:∀b,b<w.heap.size->W1.heap[b]?=w.heap[b]?:=fun b hb=>by
  rw[<-hW1]
  show((w.heap.push _).push _)[b]?=_
  rw[Array.getElem?_push_lt (by simp;omega),Array.getElem_push_lt hb,iT hb]
 have hK1:W1.heap[w.heap.size]?=some (.deferred (some [])):=by
  rw[<-hW1]
  show((w.heap.push _).push _)[w.heap.size]?=_
  rw[Array.getElem?_push_lt (by simp),Array.getElem_push_eq]
 have hsz:W1.heap.size=w.heap.size+2:=by rw[<-hW1];simp
 have hn0:H.get w.heap.size=none:=s.free (aD _)
 have hn1:H.get (w.heap.size+1)=none:=s.free (by omega)
 have s1:Sim M H W1:=by
  refine⟨fun b o v hm=>?_,fun b o hb=>?_⟩
  ·have hb:=s.mem_lt hm
   have:=s.mem b o v hm
   rw[fH]at this⊢
   rw[hold b hb];exact this
  ·have hlt:=s.lt hb
   have:=s.obj b o hb
   cases o<;>simp only[iD,hold b hlt]at this⊢<;>exact this
 have t1:bO M H w M H W1:=⟨bY.le_refl _,by omega,fun b hb _=>⟨hold b hb,fun _=>rfl⟩,fun b hb=>.inl hb,by rw[<-hW1];exact⟨rfl,rfl⟩⟩
 have eg:=vw hgood
 refine⟨w.heap.size+1,[{target:=.collected w.heap.size,args:=#[]}],W1,{target:=.fn (.func gf) us.toArray,args:=#[.func (.yield (w.heap.size+1)) #[] #[]]},W1,gf,
  #[.func (.yield (w.heap.size+1)) #[] #[]]++us.toArray,W1,?_,?_,?_,?_,fun h=>by simp[Fence.wide]at h,?_⟩
 ·rw[<-hW1,hrec];exact run_enterLoop_outer _ _ _ _ _
 ·simp only[resolve,hg]
  simp[go_sem]
 ·intro f' hf';trivial
 ·simp[invoke,go_sem,eg]
 ·have hc:=hit (w.heap.size+1) (.loop (rec .ready)) M W1 us (fun a b c h=>by cases h) s1 hL1 hn1 hcap (fun M' H' w' t=>hSx _ _ _ (t1.trans t)) (by rw[hrec];exact hround (w.heap.size+1) w.heap.size fn (by omega))
  refine(z8 (m:=n - 1) hc).mono ?_
  rintro e W2 ⟨⟨v,rfl⟩,M2,H2,s2,t2,hK⟩
  have hl2:W2.heap[w.heap.size+1]?=some (.loop (rec .ready)):=by rw[(t2.same _ (by omega) hn1).1];exact hL1
  have hd2:W2.heap[w.heap.size]?=some (.deferred (some [])):=by rw[(t2.same _ (by omega) hn0).1];exact hK1
  have hend:=run_endLoop (P:=P) hl2 (by rw[hrec];simp)
  have hnew:∀b,b<W1.heap.size->H.get b=none->H2.get b=none:=fun b hb hn=>by
   cases h:H2.get b with
   |none=>rfl
   |some o=>
    rcases t2.fresh b (by rw[h];simp)with h'|h'
    ·exact absurd hn h'
    ·omega
  refine⟨none,_,by rw[hend,hrec],?_⟩
  refine hQ w.heap.size M2 H2 _ (aD _) hK (s2.putRec hl2 (fun a b c h=>by cases h) (hnew _ (by omega) hn1) _) ?_ (hnew _ (by omega) hn0) ?_
  ·have t:=t1.trans t2
   refine⟨t.le,by rw[World.putObj_size];exact t.size,fun b hb hn=>?_,t.fresh,t.io.trans (vh _ _ _)⟩
   rw[World.putObj_heap_other (by omega)]
   exact t.same b hb hn
  ·rw[World.putObj_heap_other (by omega)];exact hd2
end
section
variable {P:Program}
theorem oQ{N n:Nat}{c y:Code}{xc:aW}(h:eK P N c=some xc)(hok:gW P c xc=true){K:Env->aj->Prop}{M:bY}{E:Env}{H:aj}{a:Act}{w:World}{Q:Exit->Act->World->Prop}
(hE:cD N M E a)(s:Sim M H w)(hw:xc.wp P (fun ex E' H'=>ex=.normal/\K E' H') E H)
(hy:∀E' H' M' a' w',K E' H'->cD N M' E' a'->Sim M' H' w'->bO M H w M' H' w'->a'.defers=a.defers->y.wpIn Fence.wide n P Q a' w'):(Code.seq c y).wpIn Fence.wide n P Q a w:=by
 refine wpIn_seq (wpIn_mono (wpIn_wide.2 (aW.sound c h hok hE s hw)) ?_)
 rintro e a' w' ⟨xe,E',H',M',he,⟨rfl,hK⟩,hE',s',t',hd⟩
 cases e<;>simp[dT]at he
 exact hy E' H' M' a' w' hK hE' s' t' hd
theorem rq{n:Nat}{fn:Func}{R:Ending->World->Prop}{a:Act}{w:World}{D:Nat}(hd:a.defers=[{target:=.collected D,args:=#[]}])(hD:w.heap[D]?=some (.deferred (some [])))
{v:Value}(hv:(results fn a.tmps).run P (w.putObj D (.deferred none))=.ok v (w.putObj D (.deferred none)))(hR:R (.returned v) (w.putObj D (.deferred none))):LeavesInM Fence.wide n P fn a.tmps R a.defers .returning w:=by
 rw[hd]
 refine⟨by simp,.inl ⟨_,_,rfl,run_takeDeferred hD,?_⟩⟩
 exact⟨_,hv,hR⟩
theorem cE{N i:Nat}{o:Array Oper}{xc:aW}(h:dc P N o false=some xc):eK P N (.region i o false)=some xc/\gW P (.region i o false) xc=true:=⟨h,rfl⟩
def x_as0:aW:=rg [ef 0 2 (.box 0),mv 1 4 (.const (.slice none 0 0))]
def x_as1:aW:=rg [mv 0 6 1]
def x_as2:aW:=rg [mv 0 5 7]
def Ad:aW:=rg [ld 0 8 none 2,mv 1 9 5,⟨2,some 10,none,.lits 1 1 [.string (bl [])] [(0,(1,9))],[]⟩,ef 3 11 (.appendM 1 16 8 10),en 4 (.store 1 2 11)]
def x_as4:aW:=rg [ld 0 12 none 2,mv 1 4 12]
def ny(P:Program)(f:FuncId):Prop:=∃fn i0 i1 i2 i3 i4 b0 b1 o0 o1 o2 o3 o4,P.funcs[f]?=some fn/\fn.ntmps=13/\fn.results=#[.tmp 4]/\
 fn.body=some (.seq (.region i0 o0 false) (.seq (.seq (.region i1 o1 false) (.block b0 (.rangeFunc (.tmp 6) #[7] (.region i2 o2 false) (.block b1 (.region i3 o3 false))))) (.seq (.region i4 o4 false) .ret)))/\
 dc P 13 o0 false=some x_as0/\dc P 13 o1 false=some x_as1/\dc P 13 o2 false=some x_as2/\dc P 13 o3 false=some Ad/\dc P 13 o4 false=some x_as4
def BX(B:Nat)(l:Nat)(xs:List AC)(H:aj):Prop:=H.get l=none/\l≠B/\∃n ss x,xs=[S n]/\H.get B=some (.cells [x])/\bM H 1 (aB ss) x/\ss.length<=2^30
def oJ(B:Nat)(l:Nat)(xs:List AC)(H H':aj):Prop:=∀n ss x,xs=[S n]->H.get B=some (.cells [x])->bM H 1 (aB ss) x->
 ∃x',H'.get B=some (.cells [x'])/\bM H' 1 (aB (ss++[n])) x'/\(∀d o,H.get d=some o->d≠B->¬co x d->H'.get d=some o)/\∀d,co x' d->co x d\/H.get d=none
def AsEnd(B:Nat)(L:List ByteArray)(H H':aj):Prop:=∃x',H'.get B=some (.cells [x'])/\bM H' 1 (aB L) x'/\∀d o,H.get d=some o->d≠B->H'.get d=some o
theorem tO{a b:List ByteArray}(h:aB a=aB b):a=b:=by
 induction a generalizing b with
 |nil=>cases b with
  |nil=>rfl
  |cons y b=>simp[aB]at h
 |cons x a ih=>
  cases b with
  |nil=>simp[aB]at h
  |cons y b=>
   simp only[aB,aS,List.cons.injEq,AC.lit.injEq,Value.string.injEq,and_true]at h
   rw[h.1,ih h.2]
theorem bM.rows_eq{H:aj}{sz:Nat}{es es':List (List AC)}{x:AC}(h:bM H sz es x)(h':bM H sz es' x):es=es':=by
 rcases h with⟨rfl,hx⟩|⟨b,n,m,hx,-⟩
 ·rcases h' with⟨rfl,-⟩|⟨b,n,m,hx',-⟩
  ·rfl
  ·rw[hx]at hx';simp at hx'
 ·rcases h' with⟨rfl,hx'⟩|⟨b,n,m,hx',-⟩
  ·rw[hx]at hx';simp at hx'
  ·rw[hx]at hx';simp at hx';exact hx'.2
theorem mS{N:Nat}{M:bY}{xs:List AC}{vs:List Value}(hr:ic M xs vs)(hlen:xs.length<=N):cD N M (lZ xs) {tmps:=vs.toArray++fO (N - vs.toArray.size) undef,defers:=[]}:=by
 have hlv:=hr.1
 refine⟨by simp;omega,fun n=>?_⟩
 simp only[lZ]
 by_cases c:n<xs.length
 ·have c':n<vs.length:=hr.1▸c
  rw[aw c]
  have:(vs.toArray++fO (N - vs.toArray.size) undef).getD n undef=vs[n]:=by
   rw[ii,kU (by simpa using c')];simp[c']
  rw[this]
  exact hr.2 n _ _ (aw c) (aw c')
 ·rw[fU (by omega)]
  have:(vs.toArray++fO (N - vs.toArray.size) undef).getD n undef=undef:=by
   rw[ii,Array.getElem?_append_right (by simp;omega),Array.getElem?_replicate]
   split<;>rfl
  rw[this]
  exact .tup rfl (by simp)
theorem YC.side{ro:Option Nat}{n l:Nat}{xs:List AC}{M:bY}{Sd Sd':World->Prop}{H:aj}{R:aj->Prop}(h:YC P ro n l xs M Sd H R)(hs:∀w,Sd' w->Sd w):YC P ro n l xs M Sd' H R:=
 fun M' w' vs h1 h2 h3 h4=>h M' w' vs h1 h2 (hs _ h3) h4
theorem AA{M:bY}{f:FuncId}{cap:List AC}{v:Value}(h:Rep M (.fn (.func f) [] cap) v):∃us:List Value,v=.func (.func f) #[] us.toArray/\ic M cap us:=by
 cases h with
 |@fn _ _ _ vs us h1 h2 h3 h4=>
  have:vs=#[]:=by apply Array.eq_empty_of_size_eq_zero;simpa using h1.symm
  subst this
  exact⟨us.toList,by simp,by simpa using h3,fun j x v hx hv=>h4 j x v hx (by simpa using hv)⟩
theorem as_body{E:Env}{H:aj}{B:Nat}{n:ByteArray}{ss:List ByteArray}{x:AC}(e2:E 2=.ptr B 0)(e5:E 5=S n)(hB:H.get B=some (.cells [x]))(hx:bM H 1 (aB ss) x)(hl:ss.length<=2^30){K:Env->aj->Prop}
(h:∀E' H' x',H'.get B=some (.cells [x'])->bM H' 1 (aB (ss++[n])) x'->(∀d o,H.get d=some o->d≠B->¬co x d->H'.get d=some o)->(∀d,co x' d->co x d\/H.get d=none)->K E' H'):
 Ad.wp P (fun e E' H'=>e=.normal/\K E' H') E H:=by
 simp only[Ad,go_sem,rE,rA,e2,e5,hB,az,aq,ay,a7]
 refine dD (es:=aB ss) (ys:=[[S n]]) (by simp only[go_sem,rE,rA];exact hx) (by simp[go_sem,bh]) (by simp) (by simp[aB];omega) ?_
 intro x' H2 fp hx' hfp hkeep hnew
 simp only[go_sem,rE,rA]at hkeep hnew
 have hBt:¬co x B:=fun ht=>by obtain⟨n,m,e⟩:=hx.tok ht;rw[hB]at e;simp at e
 have hB2:H2.get B=some (.cells [x]):=by rw[hkeep B (by rw[hB];simp) hBt];exact hB
 simp only[go_sem,rE,rA,e2,hB2,hx'.one]
 have hrow:aB (ss++[n])=aB ss++[[S n]]:=by simp[aB]
 refine h _ _ x' (ai _ _ _) ?_ (fun d o hd hdB hdt=>?_) hnew
 ·rw[hrow]
  refine hx'.mono fun b hb=>ae _ _ ?_
  rintro rfl
  obtain⟨n,m,e⟩:=hx'.tok hb
  rw[hB2]at e;simp at e
 ·rw[ae _ _ hdB,hkeep d (by rw[hd];simp) hdt];exact hd
theorem ud{f:FuncId}(hA:ny P f){gf:FuncId}{cap:List AC}(hgood:iZ P gf=true)(L:List ByteArray)(H:aj)
(hit:∀B,H.get B=none->ItC P gf cap (H.set B (.cells [NIL])) (fun _=>True) (BX B) (oJ B) (AsEnd B L (H.set B (.cells [NIL])))):
 bz P f [NIL,.fn (.func gf) [] cap] H fun q H'=>q=.sl 1 none (aB L)/\H'=H:=by
 obtain⟨fn,i0,i1,i2,i3,i4,b0,b1,o0,o1,o2,o3,o4,hf,hN,hres,hb,r0,r1,r2,r3,r4⟩:=hA
 intro M w vs s hr
 refine(callsIn_wide (n:=0)).1 (callsIn_of_wp_marks hf hb trivial ?_ rfl)
 rw[hN]
 have hE:=mS (N:=13) hr (by simp)
 refine oQ (cE r0).1 (cE r0).2 hE s (K:=fun E' H'=>∃B,H.get B=none/\E' 2=.ptr B 0/\E' 1=.fn (.func gf) [] cap/\H'=H.set B (.cells [NIL])) ?_ ?_
 ·simp only[x_as0,go_sem,rE,rA]
  intro B hB
  exact⟨B,hB,rfl,rfl⟩
 rintro E1 H1 M1 a1 w1 ⟨B,hB,e2,e1,rfl⟩ hE1 s1 t1 hd1
 refine wpIn_seq (oQ (cE r1).1 (cE r1).2 hE1 s1 (K:=fun E' H'=>E' 2=.ptr B 0/\E' 6=.fn (.func gf) [] cap/\H'=H.set B (.cells [NIL])) ?_ ?_)
 ·simp only[x_as1,go_sem,rE,rA,e2,e1,and_self]
 rintro E2 H2 M2 a2 w2 ⟨f2,f6,rfl⟩ hE2 s2 t2 hd2
 refine wpIn_block ?_
 have hrep:=hE2.rep 6
 rw[f6]at hrep
 obtain⟨us,hus,hcap⟩:=AA hrep
 have hE2':cD 13 M2 E2 {tmps:=a2.tmps,defers:=[]}:=⟨hE2.size,hE2.rep⟩
 refine ym (ps:=[7]) (us:=us) (cap:=cap) hE2 s2 (by simpa[Act.eval]using hus) hgood hcap (hit B hB) (Sx:=fun _=>True) (fun _ _ _ _=>trivial) ?_ ?_
 ·intro l D fid hl ro n xs H' hpre
  refine(qH (Sx:=fun _=>True) (Pre:=BX B l) (l8:=oJ B l) (EA:=fun xs=>(E2.puts [7] xs).put (some 5) ((E2.puts [7] xs) 7)) hE2' (by simp) (fun _ _ _=>trivial) (fun _ _ _ _ _ _ _ _ _ _=>trivial) ?_ ?_ ?_ ro n xs H' hpre)
  ·rintro xs H ⟨h1,-,n,ss,x,rfl,-⟩
   exact⟨rfl,h1⟩
  ·intro n xs H M1 w1 a1 hle hE s hp
   refine mN r2 hE s ?_
   simp only[x_as2,go_sem,rE,rA,and_self]
  ·rintro n xs H M1 w1 a1 hle hE s ⟨h1,hlB,nm,ss,x,rfl,hBx,hx,hss⟩ - -
   refine wpIn_block (wpIn_mono (mN r3 hE s (K:=fun e E' H'=>e=.normal/\oJ B l [S nm] H H') ?_) ?_)
   ·refine as_body (n:=nm) (ss:=ss) (x:=x) ?_ ?_ hBx hx hss ?_
    ·simp only[Env.puts,go_sem,rE];exact f2
    ·simp only[Env.puts,go_sem,rE]
    ·intro E' H' x' g1 g2 g3 g4 n2 ss2 x2 hn2 hB2 hx2
     simp only[List.cons.injEq,AC.lit.injEq,Value.string.injEq,and_true]at hn2
     subst hn2
     rw[hBx]at hB2
     simp at hB2
     subst hB2
     have:=tO (hx.rows_eq hx2)
     subst this
     exact⟨x',g1,g2,g3,g4⟩
   ·rintro e a' w' ⟨xe,E',H',M',he,⟨rfl,hP⟩,h1,h2,h3,h4⟩
    cases e<;>simp[dT]at he
    exact⟨.normal,E',H',M',rfl,⟨rfl,hP⟩,h1,h2,h3,h4⟩
 ·intro D M3 H3 w3 hD ⟨x',hBx,hx',hkeep⟩ s3 t3 hDn hDr
  have hE3:cD 13 M3 E2 {a2 with defers:={target:=.collected D,args:=#[]}::a2.defers}:=⟨hE2.size,fun n=>(hE2.rep n).mono t3.le⟩
  refine oQ (cE r4).1 (cE r4).2 hE3 s3 (K:=fun E' H'=>E' 4=x'/\H'=H3) ?_ ?_
  ·simp only[x_as4,go_sem,rE,rA,f2,hBx,a7,and_self]
  rintro E4 H4 M4 a4 w4 ⟨e4,rfl⟩ hE4 s4 t4 hd4
  refine wpIn_ret ?_
  have hDw4:w4.heap[D]?=some (.deferred (some [])):=by rw[(t4.same D (dt.1 hDr).1 hDn).1];exact hDr
  have s5:=s4.putRec hDw4 (fun a b c h=>by cases h) hDn (.deferred none)
  obtain⟨v,hv,hrv⟩:=jH (P:=P) (fn:=fn) (rs:=[.slot 4]) (by rw[hres];rfl) hE4 s5 (q:=E4 4) rfl
  have hdef:a4.defers=[{target:=.collected D,args:=#[]}]:=by rw[hd4];simp only[hd2,hd1]
  refine rq (a:=a4) hdef hDw4 hv ?_
  have t13:bO M H w M4 H4 w4:=(((t1.trans t2).trans t3).trans t4)
  have hsub:H.sub H4:=fun b o hb'=>by
   have hbB:b≠B:=by rintro rfl;rw[hB]at hb';simp at hb'
   exact hkeep b o (by rw[ae _ _ hbB];exact hb') hbB
  refine⟨.sl 1 none (aB L),v,M4,H,rfl,?_,s5.sub hsub,?_,rfl,rfl⟩
  ·rw[e4]at hrv
   exact hx'.le _ _ hrv
  ·have t:=t13.weaken hsub
   refine⟨t.le,by rw[World.putObj_size];exact t.size,fun b hb' hn=>?_,t.fresh,t.io.trans (vh _ _ _)⟩
   have:w.heap.size<=w2.heap.size:=(t1.trans t2).size
   rw[World.putObj_heap_other (by omega)]
   exact t.same b hb' hn
end
section
variable {P:Program}
def Ac:aW:=rg [ld 0 4 none 1,pu 1 5 (.lenSl 4),pu 2 6 (.bin .sub 5 (ci 1)),mv 3 3 6]
def x_bk1:aW:=rg [mv 0 7 3,pu 1 8 (.bin .geq 7 (ci 0))]
def x_bk2:aW:=rg [mv 0 9 3,pu 1 10 (.bin .sub 9 (ci 1)),mv 2 3 10]
def x_bk3:aW:=rg ([mv 0 11 0,mv 1 12 3,ld 2 13 none 1,mv 3 14 3,ia 4 15 1 13 14,ld 5 16 none 15]++ef 6 17 (.callX .clos [11,12,16])::[pu 7 18 (.not 17)])
def mu(P:Program)(f:FuncId):Prop:=∃fn i0 i1 i2 i3 b0 b1 o0 o1 o2 o3,P.funcs[f]?=some fn/\fn.ntmps=19/\fn.results=#[]/\
 fn.body=some (.seq (.region i0 o0 false) (.block b0 (.loop (.seq (.seq (.region i1 o1 false) (.cond (.tmp 8) .skip (.exit b0))) (.seq (.block b1 (.seq (.region i3 o3 false) (.cond (.tmp 18) .ret .skip))) (.region i2 o2 false))))))/\
 dc P 19 o0 false=some Ac/\dc P 19 o1 false=some x_bk1/\dc P 19 o2 false=some x_bk2/\dc P 19 o3 false=some x_bk3
theorem YC.later{ro:Option Nat}{n l:Nat}{xs:List AC}{M M':bY}{Sd:World->Prop}{H:aj}{R:aj->Prop}(h:YC P ro n l xs M Sd H R)(hm:M.le M'):YC P ro n l xs M' Sd H R:=
 fun M2 w' vs h1 h2 h3 h4=>h M2 w' vs (bY.le_trans hm h1) h2 h3 h4
def iv:Value->Int|.int _ i=>i|_=>0
theorem vQ{f:FuncId}(hB:mu P f){bs:Nat}{x:AC}{L:List ByteArray}{H:aj}{Sx:World->Prop}(hx:bM H 1 (aB L) x)(hL:L.length<=2^30){Pre:Nat->List AC->aj->Prop}{l8:Nat->List AC->aj->aj->Prop}
{J:Nat->List ByteArray->aj->Prop}(h0:∀l,H.get l=none->J l [] H)(hJx:∀l pre H',J l pre H'->H'.get bs=some (.cells [x]))(hPre:∀l pre n i H',J l pre H'->pre.length<L.length->Pre l [I i,S n] H')(hPost:∀l pre n i H' H'',J l pre H'->pre.length<L.length->l8 l [I i,S n] H' H''->J l (pre++[n]) H'')
(hl:∀l pre H',J l pre H'->H'.get l=none):ItC P f [.ptr bs 0] H Sx Pre l8 (fun H'=>∃l,J l L.reverse H'):=by
 obtain⟨fn,i0,i1,i2,i3,b0,b1,o0,o1,o2,o3,hf,hN,hres,hb,r0,r1,r2,r3⟩:=hB
 intro l o M w us hnc s hlo hln hcap hSx hY
 refine callsIn_of_wp_marks hf hb trivial ?_ rfl
 rw[hN]
 have hr:ic M [.lit (.func (.yield l) #[] #[]),.ptr bs 0] ((#[.func (.yield l) #[] #[]]++us.toArray:Array Value).toList):=by
  refine⟨by simp[<-hcap.1],fun j y v hy hv=>?_⟩
  match j,hy,hv with
  |0,hy,hv=>simp at hy hv;subst hy hv;exact .lit trivial
  |1,hy,hv=>simp at hy;subst hy;exact hcap.2 0 _ _ rfl (by simpa using hv)
  |j+2,hy,hv=>simp at hy
 have hE:=mS (N:=19) hr (by simp)
 simp only[Array.toArray_toList]at hE
 have hrows:x=NIL/\L=[]\/∃tok,x=.sl 1 tok (aB L):=by
  rcases hx with⟨e1,e2⟩|⟨b,n,m,e,-⟩
  ·refine .inl ⟨e2,?_⟩
   cases L with
   |nil=>rfl
   |cons a l=>simp[aB]at e1
  ·exact .inr ⟨_,e⟩
 have hlen:(aB L).length=L.length:=by simp[aB]
 have hJ0:=h0 l hln
 refine oQ (cE r0).1 (cE r0).2 hE s (K:=fun E' H'=>E' 0=.lit (.func (.yield l) #[] #[])/\E' 1=.ptr bs 0/\E' 3=I ((L.length:Int) - 1)/\H'=H) ?_ ?_
 ·have g:=hJx l [] H hJ0
  have w1:=aJ (n:=(L.length:Int) - 1) (by omega) (by omega)
  rcases hrows with⟨rfl,rfl⟩|⟨tok,rfl⟩
  ·simp only[Ac,go_sem,rE,rA,g,a7]
   rfl
  ·simp only[Ac,go_sem,rE,rA,g,a7,hlen,w1]
 rintro E1 H1 M1 a1 w1 ⟨e0,e1,e3,rfl⟩ hE1 s1 t1 hd1
 have hSd:∀{M' H' w'},bO M H1 w M' H' w'->w'.heap[l]?=some o/\Sx w':=fun t=>⟨by rw[(t.same l (dt.1 hlo).1 hln).1];exact hlo,hSx _ _ _ t⟩
 refine wpIn_block (wpIn_loop (fun a' w'=>∃k E' H' M',k<=L.length/\E' 0=.lit (.func (.yield l) #[] #[])/\E' 1=.ptr bs 0/\E' 3=I ((k:Int) - 1)/\J l (L.drop k).reverse H'/\cD 19 M' E' a'/\Sim M' H' w'/\bO M H1 w M' H' w'/\a'.defers=[])
  (fun a' _=>(iv (a'.tmps.getD 3 undef)+1).toNat) ⟨L.length,E1,H1,M1,aD _,e0,e1,e3,by rw[kY];exact hJ0,hE1,s1,t1,hd1⟩ ?_)
 have hle:=t1.le
 have t1':=t1
 clear hE1 s1 t1 hd1 e0 e1 e3
 rintro a2 w2 ⟨k,E2,H2,M2,hk,e0,e1,e3,hJ,hE2,s2,t2,hd2⟩
 have hmu:(iv (a2.tmps.getD 3 undef)+1).toNat=k:=by
  have:=hE2.rep 3
  rw[e3]at this
  rw[lj this]
  simp[iv]
 rw[hmu]
 have g:=hJx l _ H2 hJ
 refine wpIn_seq (wpIn_seq (wpIn_mono (mN (ro:=none) r1 hE2 s2 (K:=fun e E' H'=>e=.normal/\E' 0=.lit (.func (.yield l) #[] #[])/\E' 1=.ptr bs 0/\E' 3=I ((k:Int) - 1)/\E' 8=B (decide (0<k))/\H'=H2) ?_) ?_))
 ·simp only[x_bk1,go_sem,rE,rA,e0,e1,e3]
  have:decide ((k:Int) - 1>=0)=decide (0<k):=by
   rw[bg,decide_eq_true_eq,decide_eq_true_eq];omega
  simp[this]
  omega
 rintro e a3 w3 ⟨xe,E3,H3,M3,he,⟨rfl,f0,f1,f3,f8,rfl⟩,hE3,s3,t3,hd3⟩
 cases e<;>simp[dT]at he
 have hr8:=hE3.rep 8
 rw[f8]at hr8
 have hev:a3.eval (.tmp 8)=.bool (decide (0<k)):=by rw[<-lj hr8];rfl
 by_cases hk0:0<k
 ·refine wpIn_cond_true (by rw[hev];simp[hk0]) (wpIn_skip ?_)
  obtain⟨k,rfl⟩:∃j,k=j+1:=⟨k - 1,by omega⟩
  have hkl:k<L.length:=by omega
  rcases hrows with⟨-,rfl⟩|⟨tok,rfl⟩
  ·simp at hkl
  have hget:(aB L)[k]?=some [S L[k]]:=by simp[aB,hkl]
  have hkk:(((k+1:Nat):Int) - 1)=(k:Int):=by omega
  rw[hkk]at f3
  have hplen:(L.drop (k+1)).reverse.length<L.length:=by rw[List.length_reverse,fm];omega
  have hYC:=hY none 0 [I k,S L[k]] H3 (hPre l _ L[k] k H3 hJ hplen)
  refine wpIn_seq (wpIn_block (wpIn_seq (wpIn_mono (uJ (ro:=none) (Sd:=fun w=>w.heap[l]?=some o/\Sx w) (K:=fun e E' H'=>e=.normal/\E' 0=.lit (.func (.yield l) #[] #[])/\E' 1=.ptr bs 0/\E' 3=I k/\E' 18=B false/\l8 l [I k,S L[k]] H3 H') r3 hE3 s3 (by simp) (fun M' H' w' t=>hSd ((t2.trans t3).trans t)) ?_) ?_)))
  ·simp only[go_sem,rE,rA,f0,f1,f3,g,hget,a7]
   exact⟨l,[I k,S L[k]],_,rfl,hYC.later (t2.trans t3).le,fun _ h=>h⟩
  rintro e a4 w4 ⟨xe,E4,H4,M4,he,⟨rfl,q0,q1,q3,q18,hpost⟩,hE4,s4,t4,hd4⟩
  cases e<;>simp[dT]at he
  have hr18:=hE4.rep 18
  rw[q18]at hr18
  refine wpIn_cond_false (by rw[<-lj hr18];rfl) (wpIn_skip ?_)
  refine wpIn_mono (mN (ro:=none) r2 hE4 s4 (K:=fun e E' H'=>e=.normal/\E' 0=.lit (.func (.yield l) #[] #[])/\E' 1=.ptr bs 0/\E' 3=I ((k:Int) - 1)/\H'=H4) ?_) ?_
  ·have w1:=aJ (n:=(k:Int) - 1) (by omega) (by omega)
   simp only[x_bk2,go_sem,rE,rA,q0,q1,q3,w1,and_self]
  rintro e a5 w5 ⟨xe,E5,H5,M5,he,⟨rfl,p0,p1,p3,rfl⟩,hE5,s5,t5,hd5⟩
  cases e<;>simp[dT]at he
  have hdrop:(L.drop (k+1)).reverse++[L[k]]=(L.drop k).reverse:=by rw[cj hkl,List.reverse_cons]
  refine⟨⟨k,E5,H5,M5,by omega,p0,p1,p3,?_,hE5,s5,(((t2.trans t3).trans t4).trans t5),?_⟩,?_⟩
  ·rw[<-hdrop];exact hPost l _ _ _ _ _ hJ hplen hpost
  ·rw[hd5,hd4,hd3,hd2]
  ·have:=hE5.rep 3
   rw[p3]at this
   rw[lj this]
   simp[iv]
 ·refine wpIn_cond_false (by rw[hev];simp[hk0]) (wpIn_exit ?_)
  have:k=0:=by omega
  subst this
  simp only[Exit.then,Exit.inBlock,if_true]
  obtain⟨v,hv,hrv⟩:=jH (P:=P) (fn:=fn) (rs:=[]) (by rw[hres];rfl) hE3 s3 (q:=.tup []) rfl
  have hdef:a3.defers=[]:=by rw[hd3,hd2]
  show LeavesInM _ _ _ _ _ _ a3.defers .returning w3
  rw[hdef]
  refine⟨v,hv,⟨v,rfl⟩,M3,H3,s3,t2.trans t3,l,?_⟩
  rw[iE]at hJ
  exact hJ
end
end Go.Xl
