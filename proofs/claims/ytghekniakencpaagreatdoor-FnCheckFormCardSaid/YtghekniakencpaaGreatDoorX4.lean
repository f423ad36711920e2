/- FnCheckForm: a part of the proof. -/
import Derived.Test.YtghekniakencpaaGreatDoorX3
set_option linter.unusedVariables false
set_option linter.unusedSimpArgs false
namespace Go.Xl
open _root_.Array renaming getD_eq_getD_getElem? -> gH
open _root_.Bool renaming and_eq_false_iff -> cH, and_eq_true -> aw, and_false -> aM, and_self -> fD, and_true -> fC, eq_iff_iff -> aX, false_and -> aL, false_eq_true -> aq, false_ne_true -> fB, false_or -> dG, not_eq_true' -> dF, or_eq_true -> dh, or_false -> dE, or_self -> gG, true_and -> bT, true_or -> dV
open _root_.Int renaming le_refl -> eA, reduceBEq -> aF, reduceEq -> bm, reduceLE -> dN
open _root_.List renaming all_append -> eD, all_eq_false -> dj, all_eq_true -> aS, any_append -> fY, append_assoc -> dU, append_nil -> dA, cons_append -> cq, drop_eq_getElem_cons -> bO, drop_length -> kl, drop_succ_cons -> gq, drop_zero -> gZ, eq_nil_of_length_eq_zero -> bn, findIdx?_eq_none_iff -> ip, findIdx?_eq_some_iff_getElem -> bN, flatten_cons -> av, flatten_nil -> ay, foldl_cons -> d7, getElem?_append_left -> aO, getElem?_append_right -> be, getElem?_cons_succ -> aB, getElem?_cons_zero -> a9, getElem?_drop -> bU, getElem?_eq_getElem -> a6, getElem?_eq_none -> fx, getElem?_eq_some_iff -> aN, getElem?_map -> co, getElem?_take -> eT, getElem?_take_of_lt -> dq, getElem_append_left -> dm, getElem_map -> iO, getElem_mem -> az, length_append -> bv, length_cons -> aR, length_eq_zero_iff -> cG, length_map -> ao, length_nil -> bM, length_take -> bI, map_append -> bL, map_cons -> aU, map_nil -> bB, map_take -> kR, mem_append -> aE, mem_cons -> bi, mem_cons_of_mem -> ew, mem_cons_self -> fA, mem_iff_getElem -> bk, mem_map -> aZ, mem_map_of_mem -> bZ, mem_of_getElem? -> aY, mem_of_mem_take -> cP, mem_or_eq_of_mem_set -> kz, mem_range -> fk, mem_singleton -> bQ, nil_append -> df, nodup_append -> fP, not_mem_nil -> cF, range -> dC, replicate -> ax, take_append_drop -> ic, take_length -> aW, take_of_length_le -> cy, take_succ_eq_append_getElem -> aC
open _root_.Nat renaming reduceEqDiff -> rE, reduceAdd -> rA, reduceLeDiff -> rL, add_eq_zero_iff -> dR, le_refl -> aA, le_trans -> cg, min_eq_left -> eC, mul_le_mul_right -> bu, zero_add -> bY, zero_le -> gN
open _root_.Option renaming map_some -> bW, ne_none_iff_exists' -> aI
open Go.Proofs
noncomputable def dL(v:Sc):List Ag->List Pa->Sc×Int
 |a::zas,p::ps=>if(il v a p).2=0 then dL (il v a p).1 zas ps else il v a p
 |_,_=>(v,0)
noncomputable def gL(v:Sc)(n fn:ByteArray)(zas:List Ag):Sc×Int:=
 match v.p.find? (fun f=>eqB f.name fn)with
 |none=>(v,2)
 |some f=>if zas.length=f.params.length then(if(dL v zas f.params).2=0 then fW (dL v zas f.params).1 n f else dL v zas f.params)else(v,3)
theorem nN:∀(zas:List Ag) (ps:List Pa) (v:Sc),(dL v zas ps).1.vars.map Vr.core=v.vars.map Vr.core/\(dL v zas ps).1.given=v.given/\(dL v zas ps).1.held.length<=v.held.length+zas.length/\(dL v zas ps).1.p=v.p
 |[],_,v=>by simp[dL]
 |_::_,[],v=>by simp[dL]
 |a::zas,p::ps,v=>by
  obtain⟨a1,a2,a3,a4⟩:=mN v a p
  have ah:(il v a p).1.held.length<=v.held.length+1:=by rcases a3 with h|⟨-,h⟩<;>rw[h]<;>simp
  rw[dL]
  split
  ·obtain⟨b1,b2,b3,b4⟩:=nN zas ps (il v a p).1
   exact⟨b1.trans a1,b2.trans a2,by simp only[aR];omega,b4.trans a4⟩
  ·exact⟨a1,a2,by simp only[aR];omega,a4⟩
theorem rc:∀(zas:List Ag) (ps:List Pa) {v:Sc},v.good->(∀a∈zas,a.okB=true)->v.held.length+zas.length<=2^30->(dL v zas ps).1.good
 |[],_,v,h,_,_=>by simpa[dL]using h
 |_::_,[],v,h,_,_=>by simpa[dL]using h
 |a::zas,p::ps,v,h,ha,hl=>by
  simp only[aR]at hl
  obtain⟨a1,a2,a3,a4⟩:=mN v a p
  have ah:(il v a p).1.held.length<=v.held.length+1:=by rcases a3 with h|⟨-,h⟩<;>rw[h]<;>simp
  have g:=sI h a p (ha _ fA) (by omega)
  rw[dL]
  split
  ·exact rc zas ps g (fun x hx=>ha x (ew _ hx)) (by omega)
  ·exact g
section
variable {P:Program}{F:Ids}{er:bK}
theorem c_kcall(L:Lib P F)(T:Tys F)(hC:eB P F er)(s:Nat)(n fn:ByteArray)(zas:List Ag)(ha:∀a∈zas,a.okB=true)(v:Sc)(hv:v.good)(hh:v.held.length+zas.length<=2^30)(hp:v.p.length<=2^30)(hal:zas.length<=2^20):
 ScC P F er 204 [.ptr s 0,.agg [S n,S fn,.sl 8 none (zas.map Ag.enc)]] s v fun q v'=>q=er.ac (gL v n fn zas).2/\v'=(gL v n fn zas).1:=by
 intro H ORD HELD m1 m2 hE
 refine(L.a Tryz.func204 y204) (by simp[y204]) ?_
 simp only[y204,go_sem,rE,rA,rL]
 intro b3 hb3
 have hS3:=hE.new hb3 (.cells [S n,S fn,.sl 8 none (zas.map Ag.enc)])
 have n3:=hE.notin hb3
 have g3:(H.set b3 (.cells [S n,S fn,.sl 8 none (zas.map Ag.enc)])).get b3=some (.cells [S n,S fn,.sl 8 none (zas.map Ag.enc)]):=ai _ _ _
 clear hE hb3
 generalize H.set b3 _=H1 at*
 refine cX (sF L s v fn hp) hS3 (by simp only[go_sem,rE,aU,bB]) (.refl _) (fun h=>by simp at h) trivial ?_
 rintro q v1 ORD1 HELD1 H2 fp ⟨rfl,rfl⟩ hS2 hfr -
 have k3:=hfr b3 _ g3 n3
 cases hf:v1.p.find? (fun f=>eqB f.name fn)with
 |none=>
  have hx:gL v1 n fn zas=(v1,2):=by unfold gL;rw[hf]
  rw[hx]
  simp only[lu,hf]
  simp only[go_sem,nD,rE,rA,rL,a9,aB]
  intro b5 hb5
  simp only[go_sem,rE,rA,rL,hS2.e2,al hS2.e2 hb5]
  exact ak (.refl _) (aj.sub_refl _) ⟨_,ORD1,HELD1,⟨by rw[bK.acn er (by decide)];rfl,rfl⟩,hS2.new hb5 _⟩
 |some f=>
  simp only[lu,hf,Fu.enc_eq]
  simp only[go_sem,nD,rE,rA,rL,a9,aB]
  intro b5 hb5
  have d35:=al k3.1 hb5
  have hS5:=hS2.new hb5 (.cells [S f.name,.sl 3 none (f.params.map Pa.enc),B f.lent,.sl 1 none (Ty.encs f.type.kids),.sl 15 none (St.encs f.body),I f.says.kind,I f.says.num,S f.says.place.name,au f.says.place.path,.sl 5 none (Ex.encs f.says.kids),S f.gives.name,au f.gives.path])
  have n5:=hS2.notin hb5
  have g5:(H2.set b5 (.cells [S f.name,.sl 3 none (f.params.map Pa.enc),B f.lent,.sl 1 none (Ty.encs f.type.kids),.sl 15 none (St.encs f.body),I f.says.kind,I f.says.num,S f.says.place.name,au f.says.place.path,.sl 5 none (Ex.encs f.says.kids),S f.gives.name,au f.gives.path])).get b5=some (.cells [S f.name,.sl 3 none (f.params.map Pa.enc),B f.lent,.sl 1 none (Ty.encs f.type.kids),.sl 15 none (St.encs f.body),I f.says.kind,I f.says.num,S f.says.place.name,au f.says.place.path,.sl 5 none (Ex.encs f.says.kids),S f.gives.name,au f.gives.path]):=ai _ _ _
  have g3':(H2.set b5 (.cells [S f.name,.sl 3 none (f.params.map Pa.enc),B f.lent,.sl 1 none (Ty.encs f.type.kids),.sl 15 none (St.encs f.body),I f.says.kind,I f.says.num,S f.says.place.name,au f.says.place.path,.sl 5 none (Ex.encs f.says.kids),S f.gives.name,au f.gives.path])).get b3=_:=(ae _ _ d35).trans k3.1
  have n3':=k3.2
  simp only[go_sem,rE,rA,rL,k3.1,d35,ao]
  clear hb5 hS2 k3
  generalize H2.set b5 _=H3 at*
  by_cases hlen:zas.length=f.params.length
  ·have hx:gL v1 n fn zas=if(dL v1 zas f.params).2=0 then fW (dL v1 zas f.params).1 n f else dL v1 zas f.params:=by unfold gL;rw[hf];simp only[hlen,if_true]
   have hne:((zas.length:Int) !=(f.params.length:Int))=false:=by simp[hlen]
   simp only[hne,go_sem,rE,rA,rL,g3']
   refine aV zas.length (fun k E' H'=>E' 0=.ptr s 0/\E' 3=.ptr b3 0/\E' 5=.ptr b5 0/\E' 29=.sl 8 none (zas.map Ag.enc)/\E' 30=I zas.length/\E' 31=I k/\
    ∃w ORD' HELD',cw F er H' s w ORD' HELD' m1 m2/\dL v1 zas f.params=dL w (zas.drop k) (f.params.drop k)/\w.good/\w.held.length<=v1.held.length+k/\
     (H'.get b3=some (.cells [S n,S fn,.sl 8 none (zas.map Ag.enc)])/\¬cV F s ORD' HELD' m1 m2 b3)/\
     (H'.get b5=some (.cells [S f.name,.sl 3 none (f.params.map Pa.enc),B f.lent,.sl 1 none (Ty.encs f.type.kids),.sl 15 none (St.encs f.body),I f.says.kind,I f.says.num,S f.says.place.name,au f.says.place.path,.sl 5 none (Ex.encs f.says.kids),S f.gives.name,au f.gives.path])/\¬cV F s ORD' HELD' m1 m2 b5))
    ⟨rfl,rfl,rfl,rfl,by simp only[go_sem,rE,ao],rfl,v1,ORD1,HELD1,hS5,rfl,hv,by omega,⟨g3',n3'⟩,⟨g5,n5⟩⟩ ?_
   rintro k E' H' hk ⟨q0,q3,q5,q29,q30,q31,w,ORD',HELD',hS,hgv,hw,hwl,⟨h3,m3⟩,⟨h5,m5⟩⟩
   simp only[go_sem,rE,rA,rL,q30,q31]
   refine aH (fun hlt=>?_) (fun hge=>?_)
   ·have hk1:k<zas.length:=by omega
    have hk2:k<f.params.length:=by omega
    have w1:=aP (n:=(k:Int)+1) (by omega) (by omega)
    have hga:(zas.map Ag.enc)[k]?=some [B zas[k].lent,S zas[k].place.name,au zas[k].place.path,I zas[k].expr.kind,I zas[k].expr.num,S zas[k].expr.place.name,au zas[k].expr.place.path,.sl 5 none (Ex.encs zas[k].expr.kids)]:=by simp[hk1,Ag.enc,Pl.enc,Ex.enc_eq]
    have hgp:(f.params.map Pa.enc)[k]?=some [S f.params[k].name,B f.params[k].lent,.sl 1 none (Ty.encs f.params[k].type.kids)]:=by simp[hk2,Pa.enc,Ty.enc_eq]
    rw[bO hk1,bO hk2,dL]at hgv
    have hka:=c_karg (er:=er) L T hC s zas[k] f.params[k] (ha _ (az hk1)) w hw (by omega)
    simp only[Ag.enc,Pa.enc,Ex.enc_eq,Ty.enc_eq,Pl.enc,cq,df]at hka
    simp only[go_sem,rE,rA,rL,q0,q5,q29,q31,hga]
    intro b8 hb8
    have d58:=al h5 hb8
    have d38:=al h3 hb8
    simp only[go_sem,rE,rA,rL,q0,q5,h5,d58,Ne.symm d58,hgp]
    have hS8:=hS.new hb8 (.cells [B zas[k].lent,S zas[k].place.name,au zas[k].place.path,I zas[k].expr.kind,I zas[k].expr.num,S zas[k].expr.place.name,au zas[k].expr.place.path,.sl 5 none (Ex.encs zas[k].expr.kids)])
    refine cX hka hS8 rfl (.refl _) (fun _=>⟨_,_,rfl,rfl⟩) trivial ?_
    rintro q w2 ORD2 HELD2 H4 fp2 ⟨rfl,rfl⟩ hS4 hfr2 -
    have k3:=hfr2 b3 _ ((ae _ _ d38).trans h3) m3
    have k5:=hfr2 b5 _ ((ae _ _ d58).trans h5) m5
    by_cases hz:(il w zas[k] f.params[k]).2=0
    ·rw[if_pos hz]at hgv
     rw[hz,dw]
     have hc:=mN w zas[k] f.params[k]
     have hg:=sI hw zas[k] f.params[k] (ha _ (az hk1)) (by omega)
     simp only[go_sem,rE,rA,rL,q0,q31,w1]
     refine⟨hk1,H4,aj.sub_refl _,q3,q5,q29,q30,rfl,_,ORD2,HELD2,hS4,hgv,hg,?_,k3,k5⟩
     rcases hc.2.2.1 with h|⟨-,h⟩
     ·rw[h];omega
     ·rw[h,bv,List.length_singleton];omega
    ·rw[if_neg hz]at hgv
     rw[bK.acn er hz]
     simp only[go_sem,rE,rA,rL,q0,q31,w1]
     refine ak (.refl _) (aj.sub_refl _) ⟨_,ORD2,HELD2,⟨?_,rfl⟩,?_⟩
     ·rw[hx,hgv,if_neg hz,bK.acn er hz];rfl
     ·rw[hx,hgv,if_neg hz];exact hS4
   ·have hkk:k=zas.length:=by omega
    subst hkk
    have h00:dL w [] (f.params.drop zas.length)=(w,0):=by simp[dL]
    rw[kl,h00]at hgv
    rw[hgv,if_pos rfl]at hx
    have hcd:=zf (er:=er) L s n f w hw
    rw[Fu.enc_eq]at hcd
    rw[hx]
    simp only[go_sem,rE,rA,rL,q0,q3,q5,h3,h5]
    refine cX hcd hS (by simp only[go_sem,rE,aU,bB,q0]) (.refl _) (fun h=>by simp at h) trivial ?_
    rintro q w2 ORD2 HELD2 H4 fp2 ⟨rfl,rfl⟩ hS4 - -
    simp only[go_sem,rE,rA,rL]
    exact ak (.refl _) (aj.sub_refl _) ⟨_,ORD2,HELD2,⟨rfl,rfl⟩,hS4⟩
  ·have hx:gL v1 n fn zas=(v1,3):=by unfold gL;rw[hf];simp only[hlen,if_false]
   have hne:((zas.length:Int) !=(f.params.length:Int))=true:=by simp;omega
   rw[hx]
   simp only[hne,go_sem,rE,rA,rL,hS5.e3]
   exact ak (.refl _) (aj.sub_refl _) ⟨_,ORD1,HELD1,⟨by rw[bK.acn er (by decide)];rfl,rfl⟩,hS5⟩
end
def Sc.clear(v:Sc):Sc:={v with held:=[],lost:=false}
def Sc.hold1(v:Sc)(p:Pl):Sc:={v with held:=[p],lost:=false}
noncomputable def oe(t:Ty)(q:Sc×(Ty×Int))(n:ByteArray)(p o:Pl):Sc×Int:=
 if q.2.2=0 then if eqB t q.2.1 then if q.1.lost then(q.1.clear,4)else eI q.1.clear ⟨n,true,false,t,[p,o],false⟩else(q.1.clear,3)else(q.1.clear,q.2.2)
noncomputable def iI(v:Sc)(n:ByteArray)(p o:Pl):Sc×Int:=
 if(v.use p).2.2=0 then oe (v.use p).2.1 (((v.use p).1.hold1 p).use o) n p o else((v.use p).1,(v.use p).2.2)
noncomputable def ij(v:Sc)(n:ByteArray)(p o:Pl)(e:Ex):Sc×Int:=
 if(v.number e).2=0 then iI (v.number e).1 n p o else v.number e
theorem mZ{v:Sc}(h:v.good):v.clear.good:=⟨h.ok,h.nd,h.len,by simp[Sc.clear],by simp[Sc.clear],h.lp,h.ll,h.ty⟩
theorem jf{v:Sc}(h:v.good){p:Pl}(hp:p.path.length<=2^30):(v.hold1 p).good:=⟨h.ok,h.nd,h.len,by simp[Sc.hold1],by simpa[Sc.hold1]using hp,h.lp,h.ll,h.ty⟩
section
variable {P:Program}{F:Ids}{er:bK}
theorem cw.hold1{H:aj}{s:Nat}{v:Sc}{ORD HELD:AC}{m1 m2:Nat}(h:cw F er H s v ORD HELD m1 m2){b n m:Nat}(hb:H.get b=none)(p:Pl):
 cw F er ((H.set b (.tail n m)).set s (ScO v.p ORD (.sl 2 (some (b,n,m)) [p.enc]) m1 m2 false)) s (v.hold1 p) ORD (.sl 2 (some (b,n,m)) [p.enc]) m1 m2:=by
 have h1:=(h.new hb (.tail n m)).clear
 have hbs:b≠s:=by rintro rfl;rw[h.obj]at hb;simp at hb
 refine⟨ai _ _ _,?_,?_,?_,.inr ⟨b,n,m,rfl,by rw[ae _ _ hbs,ai]⟩,fun c hc hc2=>?_,h.ne,fun c hc=>?_,h.far,fun h=>by simp[Sc.hold1]at h,h.onil⟩
 ·rw[ae _ _ h.blk_s.1.1.symm];exact(h.new hb (.tail n m)).names
 ·rw[ae _ _ h.blk_s.1.2.symm];exact(h.new hb (.tail n m)).given
 ·exact(h.new hb (.tail n m)).ord.mono fun c hc=>ae _ _ (h.blk_s.2.1 c hc)
 ·obtain⟨_,_,_,_,e⟩:=hc2
  simp at e
  obtain⟨-,⟨rfl,-⟩,-⟩:=e
  exact h.mem (.inr (.inr (.inr (.inl hc)))) hb
 ·rw[ae _ _ (Ne.symm (h.far c hc))];exact(h.new hb (.tail n m)).errs c hc
theorem zb(L:Lib P F)(hC:eB P F er)(s:Nat)(n:ByteArray)(p o:Pl)(e:Ex)(hp:p.path.length<=2^30)(ho:o.path.length<=2^30)(v:Sc)(hv:v.good):
 ScC P F er 234 [.ptr s 0,.agg (S n::(p.enc++(o.enc++e.enc)))] s v fun q v'=>q=er.ac (iI v n p o).2/\v'=(iI v n p o).1:=by
 intro H ORD HELD m1 m2 hE
 refine(L.a Tryz.func234 y234) (by simp[y234]) ?_
 rw[Ex.enc_eq]
 simp only[y234,go_sem,rE,rA,rL,Pl.enc,cq,df]
 intro b3 hb3
 have hS3:=hE.new hb3 (.cells [S n,S p.name,au p.path,S o.name,au o.path,I e.kind,I e.num,S e.place.name,au e.place.path,.sl 5 none (Ex.encs e.kids)])
 have n3:=hE.notin hb3
 have g3:(H.set b3 (.cells [S n,S p.name,au p.path,S o.name,au o.path,I e.kind,I e.num,S e.place.name,au e.place.path,.sl 5 none (Ex.encs e.kids)])).get b3=some (.cells [S n,S p.name,au p.path,S o.name,au o.path,I e.kind,I e.num,S e.place.name,au e.place.path,.sl 5 none (Ex.encs e.kids)]):=ai _ _ _
 clear hE hb3
 generalize H.set b3 _=H1 at*
 have hu:=nM L hC s v p hv hp
 rw[Pl.enc]at hu
 refine cX hu hS3 rfl (.refl _) (fun h=>by simp at h) trivial ?_
 rintro q v1 ORD1 HELD1 H2 fp ⟨rfl,rfl⟩ hS2 hfr -
 have k3:=hfr b3 _ g3 n3
 have hv1:(v.use p).1.good:=ky hv p
 have hty:(v.use p).2.1.okB=true:=iE hv p
 have hpick:iI v n p o=if(v.use p).2.2=0 then oe (v.use p).2.1 (((v.use p).1.hold1 p).use o) n p o else((v.use p).1,(v.use p).2.2):=by unfold iI;rfl
 simp only[gR,Ty.enc_eq]
 generalize hrd:v.use p=r at*
 simp only[go_sem,rE,rA,rL,a9,aB]
 intro b5 hb5
 have d35:=al k3.1 hb5
 have hS5:=hS2.new hb5 (.cells [.sl 1 none (Ty.encs r.2.1.kids)])
 have n5:=hS2.notin hb5
 have g5:(H2.set b5 (.cells [.sl 1 none (Ty.encs r.2.1.kids)])).get b5=some (.cells [.sl 1 none (Ty.encs r.2.1.kids)]):=ai _ _ _
 have g3':(H2.set b5 (.cells [.sl 1 none (Ty.encs r.2.1.kids)])).get b3=_:=(ae _ _ d35).trans k3.1
 have n3':=k3.2
 clear hb5 hS2 k3
 generalize H2.set b5 _=H3 at*
 by_cases hz:r.2.2=0
 ·rw[if_pos hz]at hpick
  rw[hz,dw]
  have ho5:=hS5.obj
  simp only[ScO]at ho5
  simp only[go_sem,rE,rA,rL,g3',ho5,ax,av,ay,dA,aR,bM,gq,gZ,aA,if_true]
  intro bt hbt
  have dts:=al ho5 hbt
  have hSt:=hS5.hold1 (n:=1*2) (m:=1*2) hbt p
  simp only[ScO]at hSt
  have d3t:=al g3' hbt
  have d5t:=al g5 hbt
  have d3s:b3≠s:=fun e=>n3' (.inl e)
  have d5s:b5≠s:=fun e=>n5 (.inl e)
  have nt:∀b,b≠bt->¬cV F s ORD1 HELD1 m1 m2 b->¬cV F s ORD1 (.sl 2 (some (bt,1*2,1*2)) [p.enc]) m1 m2 b:=by
   rintro b hb hn (h|h|h|h|h|h)
   ·exact hn (.inl h)
   ·exact hn (.inr (.inl h))
   ·exact hn (.inr (.inr (.inl h)))
   ·exact hn (.inr (.inr (.inr (.inl h))))
   ·obtain⟨_,_,_,_,e⟩:=h
    simp at e
    exact hb e.2.1.1.symm
   ·exact hn (.inr (.inr (.inr (.inr (.inr h)))))
  have hch:bg 2 1 [S p.name,au p.path]=[p.enc]:=by simp[bg,Pl.enc]
  simp only[go_sem,rE,rA,rL,ho5,dts,Ne.symm dts,d3t,d3s,g3',hch]
  have hu2:=nM L hC s (r.1.hold1 p) o (jf hv1 hp) ho
  rw[Pl.enc]at hu2
  refine cX hu2 hSt rfl (.refl _) (fun h=>by simp at h) trivial ?_
  rintro q v2 ORD2 HELD2 H6 fp2 ⟨rfl,rfl⟩ hS6 hfr2 -
  have k3:=hfr2 b3 _ (by rw[ae _ _ d3s,ae _ _ d3t];exact g3') (nt _ d3t n3')
  have k5:=hfr2 b5 _ (by rw[ae _ _ d5s,ae _ _ d5t];exact g5) (nt _ d5t n5)
  have hv2:((r.1.hold1 p).use o).1.good:=ky (jf hv1 hp) o
  have hty2:((r.1.hold1 p).use o).2.1.okB=true:=iE (jf hv1 hp) o
  simp only[gR,Ty.enc_eq]
  clear hfr2 hSt
  generalize(r.1.hold1 p).use o=w at*
  simp only[go_sem,rE,rA,rL,a9,aB]
  intro b7 hb7
  have d57:=al k5.1 hb7
  have d37:=al k3.1 hb7
  have d7s:s≠b7:=al hS6.obj hb7
  have hS7:=(hS6.new hb7 (.cells [.sl 1 none (Ty.encs w.2.1.kids)])).clear
  have ho6:=hS6.obj
  simp only[ScO]at ho6 hS7
  simp only[go_sem,rE,rA,rL,ho6,d7s,Ne.symm d7s]
  have g7:((H6.set b7 (.cells [.sl 1 none (Ty.encs w.2.1.kids)])).set s (.cells [.sl 12 none (w.1.p.map Fu.enc),ORD2,.mp m1,.mp m2,NIL,B false,.lit .nilFunc])).get b7=some (.cells [.sl 1 none (Ty.encs w.2.1.kids)]):=by
   rw[ae _ _ (Ne.symm d7s),ai]
  have g5':((H6.set b7 (.cells [.sl 1 none (Ty.encs w.2.1.kids)])).set s (.cells [.sl 12 none (w.1.p.map Fu.enc),ORD2,.mp m1,.mp m2,NIL,B false,.lit .nilFunc])).get b5=_:=(ae _ _ d5s).trans ((ae _ _ d57).trans k5.1)
  have g3'':((H6.set b7 (.cells [.sl 1 none (Ty.encs w.2.1.kids)])).set s (.cells [.sl 12 none (w.1.p.map Fu.enc),ORD2,.mp m1,.mp m2,NIL,B false,.lit .nilFunc])).get b3=_:=(ae _ _ d3s).trans ((ae _ _ d37).trans k3.1)
  clear hb7 hS6 ho6 k3 k5
  change cw F er _ s w.1.clear ORD2 NIL m1 m2 at hS7
  generalize((H6.set b7 _).set s _)=H8 at*
  rw[hpick,oe]
  by_cases hz2:w.2.2=0
  ·rw[if_pos hz2,hz2,dw]
   have hsm:=lv L 4 r.2.1 w.2.1 hty
   rw[Ty.enc_eq,Ty.enc_eq]at hsm
   simp only[go_sem,rE,rA,rL,g5',g7]
   refine am hsm rfl ?_
   cases hq:eqB r.2.1 w.2.1
   ·simp only[go_sem,rE,rA,rL,hS7.e3,aq,if_false]
    exact ak (.refl _) (aj.sub_refl _) ⟨_,ORD2,NIL,⟨by rw[bK.acn er (by decide)];rfl,rfl⟩,hS7⟩
   cases hlo:w.1.lost
   ·simp only[go_sem,rE,rA,rL,aq,if_false,if_true,g3'',g5',ax,av,ay,dA,aR,bM,gq,gZ,aA,cq,df,bv]
    intro b9 hb9
    have hch2:bg 2 2 [S p.name,au p.path,S o.name,au o.path]=[p.enc,o.enc]:=by simp[bg,Pl.enc]
    rw[hch2]
    refine cX (mH L s w.1.clear (mZ hv2).ok ⟨n,true,false,r.2.1,[p,o],false⟩ rfl (by simp) hv2.len) (hS7.new hb9 _) rfl ?_ (fun h=>by simp at h) trivial ?_
    ·exact⟨.refl _,.refl _,.agg ⟨⟨.refl _,rfl⟩,⟨.refl _,rfl⟩,⟨.refl _,rfl⟩,⟨.refl _,rfl⟩,⟨.refl _,rfl⟩,⟨.tok _ _ _,rfl⟩,trivial⟩,trivial⟩
    rintro q v3 ORD3 HELD3 H9 fp3 ⟨rfl,rfl⟩ hS9 - -
    simp only[go_sem,rE,rA,rL]
    exact ak (.refl _) (aj.sub_refl _) ⟨_,ORD3,HELD3,⟨rfl,rfl⟩,hS9⟩
   ·simp only[go_sem,rE,rA,rL,hS7.e4,aq,if_false,if_true]
    exact ak (.refl _) (aj.sub_refl _) ⟨_,ORD2,NIL,⟨by rw[bK.acn er (by decide)];rfl,rfl⟩,hS7⟩
  ·rw[if_neg hz2,bK.acn er hz2]
   simp only[go_sem,rE,rA,rL]
   exact ak (.refl _) (aj.sub_refl _) ⟨_,ORD2,NIL,⟨rfl,rfl⟩,hS7⟩
 ·rw[if_neg hz]at hpick
  rw[bK.acn er hz,hpick]
  simp only[go_sem,rE,rA,rL]
  exact ak (.refl _) (aj.sub_refl _) ⟨_,ORD1,HELD1,⟨by rw[bK.acn er hz];rfl,rfl⟩,hS5⟩
theorem c_kpick(L:Lib P F)(T:Tys F)(hC:eB P F er)(s:Nat)(n:ByteArray)(p o:Pl)(e:Ex)(hp:p.path.length<=2^30)(ho:o.path.length<=2^30)(d:Nat)(hd:d<=100)(he:e.okD d=true)(v:Sc)(hv:v.good):
 ScC P F er 206 [.ptr s 0,.agg (S n::(p.enc++(o.enc++e.enc)))] s v fun q v'=>q=er.ac (ij v n p o e).2/\v'=(ij v n p o e).1:=by
 intro H ORD HELD m1 m2 hE
 refine(L.a Tryz.func206 y206) (by simp[y206]) ?_
 have hn:=sE (er:=er) L T hC s d hd e he v hv
 have hvn:(v.number e).1.good:=by rw[eQ];exact Sc.expr_good hv e
 have hpk:=zb (er:=er) L hC s n p o e hp ho (v.number e).1 hvn
 rw[Ex.enc_eq]at hn hpk⊢
 simp only[Pl.enc,cq,df]at hpk
 simp only[y206,go_sem,rE,rA,rL,Pl.enc,cq,df]
 intro b3 hb3
 have hS3:=hE.new hb3 (.cells [S n,S p.name,au p.path,S o.name,au o.path,I e.kind,I e.num,S e.place.name,au e.place.path,.sl 5 none (Ex.encs e.kids)])
 have n3:=hE.notin hb3
 have g3:(H.set b3 (.cells [S n,S p.name,au p.path,S o.name,au o.path,I e.kind,I e.num,S e.place.name,au e.place.path,.sl 5 none (Ex.encs e.kids)])).get b3=some (.cells [S n,S p.name,au p.path,S o.name,au o.path,I e.kind,I e.num,S e.place.name,au e.place.path,.sl 5 none (Ex.encs e.kids)]):=ai _ _ _
 clear hE hb3
 generalize H.set b3 _=H1 at*
 refine cX hn hS3 rfl (.refl _) (fun h=>by simp at h) trivial ?_
 rintro q v1 ORD1 HELD1 H2 fp ⟨rfl,rfl⟩ hS2 hfr -
 have k3:=hfr b3 _ g3 n3
 by_cases hz:(v.number e).2=0
 ·have hx:ij v n p o e=iI (v.number e).1 n p o:=by unfold ij;rw[if_pos hz]
  rw[hx,hz,dw]
  simp only[go_sem,rE,rA,rL,k3.1]
  refine cX hpk hS2 (by simp only[go_sem,rE,aU,bB]) (.refl _) (fun h=>by simp at h) trivial ?_
  rintro q v2 ORD2 HELD2 H4 fp2 ⟨rfl,rfl⟩ hS4 - -
  simp only[go_sem,rE,rA,rL]
  exact ak (.refl _) (aj.sub_refl _) ⟨_,ORD2,HELD2,⟨rfl,rfl⟩,hS4⟩
 ·have hx:ij v n p o e=v.number e:=by unfold ij;rw[if_neg hz]
  rw[hx,bK.acn er hz]
  simp only[go_sem,rE,rA,rL,k3.1]
  exact ak (.refl _) (aj.sub_refl _) ⟨_,ORD1,HELD1,⟨rfl,rfl⟩,hS2⟩
end
noncomputable def oK(v:Sc)(f:Fu):Sc×(Ty×Int):=if f.lent then v.use f.gives else v.expr f.says
noncomputable def rF(r:Sc×(Ty×Int))(f:Fu):Int:=
 if r.2.2=0 then if eqB r.2.1 f.type then if(f.lent&&!fz r.1.vars f.gives.name)=true then 5 else 0 else 3 else r.2.2
section
variable {P:Program}{F:Ids}{er:bK}
def ko2(F:Ids):aT:=.seq (.seq (rg [mv 0 23 6,pu 1 24 (.isNil true 23)]) (.cond 24 (.seq (rg [mv 0 25 6,mv 1 4 25]) .ret) .skip)) (.seq (.seq (rg [ld 0 26 (some 1) 5,fa 1 27 3 3,ld 2 28 (some 1) 27,ca 3 29 172 [26,28],pu 4 30 (.not 29)]) (.cond 30 (.seq (rg [ld 0 31 none (.glob 1),mv 1 4 31]) .ret) .skip)) (.seq (.seq (.region true [fa 0 32 2 3,ld 1 33 none 32,mv 2 34 33,gp 3 35 34 true (.move 0),gp 4 36 34 true (.nilCheck 35),gp 5 37 34 true (.fieldAddr 2 36),gl 6 38 34 true none 37,gp 7 39 34 true (.fieldAddr 10 3),gp 8 40 34 true (.fieldAddr 0 39),gl 9 41 34 true none 40,⟨10,some 42,some (34,true),.eff (.callX (.lookup (.agg [.lit (.slice none 0 0),.lit (.bool false),.lit (.bool false),.lit (.bool false),.lit (.bool false),.lit (.slice none 0 0)]) false) [38,41]),[]⟩,gp 11 43 34 true (.field 4 none 42),gp 12 44 34 true (.not 43),pu 13 45 (.pick 34 44 cf)]) (.cond 45 (.seq (rg [ld 0 46 none (.glob 5),mv 1 4 46]) .ret) .skip)) (.seq (rg [mv 0 4 (.const .nilIface)]) .ret)))
theorem Aq(L:Lib P F){s:Nat}{r:Sc×(Ty×Int)}{ORD HELD:AC}{m1 m2 b3 b5:Nat}{E:Env}{H:aj}{f:Fu}{R:AC->aj->Prop}(hE:cw F er H s r.1 ORD HELD m1 m2)(e6:E 6=er.ac r.2.2)(e5:E 5=.ptr b5 0)(e3:E 3=.ptr b3 0)(e0:E 0=.ptr s 0)
(g5:H.get b5=some (.cells [.sl 1 none (Ty.encs r.2.1.kids)]))(g3:H.get b3=some (.cells f.enc))(hr:r.2.1.okB=true)
(hR:R (er.ac (rF r f)) H):(ko2 F).wp P (bh.post [.slot 4] R) E H:=by
 rw[Fu.enc_eq]at g3
 unfold rF at hR
 by_cases hz:r.2.2=0
 ·have hs:=lv L 4 r.2.1 f.type hr
  rw[Ty.enc_eq,Ty.enc_eq]at hs
  rw[if_pos hz]at hR
  rw[hz,dw]at e6
  simp only[ko2,go_sem,rE,rA,rL,e6,e5,e3,g5,g3]
  refine am hs rfl ?_
  cases hq:eqB r.2.1 f.type
  ·rw[hq]at hR
   simp only[aq,if_false]at hR
   simp only[go_sem,rE,rA,rL,hE.e3]
   exact ak (.refl _) (aj.sub_refl _) (by rw[bK.acn er (by decide)]at hR;exact hR)
  ·rw[hq,if_pos rfl]at hR
   have ho:=hE.obj
   simp only[ScO]at ho
   cases hl:f.lent
   ·simp only[go_sem,rE,rA,rL,e0,e3,g3,hl,ho]
    simp only[hl,aL,aq,if_false]at hR
    exact ak (.refl _) (aj.sub_refl _) hR
   ·simp only[go_sem,rE,rA,rL,e0,e3,g3,hl,ho]
    refine fT (k:=f.gives.name) (g:=di r.1.vars) rfl hE.names trivial ?_
    obtain⟨x1,x2,x3,x4,x5,hlk⟩:=u9 r.1.vars f.gives.name
    rw[hlk]
    simp only[go_sem,rE,rA,rL,a9,aB]
    cases ho:fz r.1.vars f.gives.name
    ·simp only[hl,ho,Bool.not_false,fD,if_true]at hR
     simp only[go_sem,rE,rA,rL,hE.e5]
     exact ak (.refl _) (aj.sub_refl _) (by rw[bK.acn er (by decide)]at hR;exact hR)
    ·simp only[hl,ho,Bool.not_true,aM,aq,if_false]at hR
     simp only[go_sem,rE,rA,rL]
     exact ak (.refl _) (aj.sub_refl _) hR
 ·rw[if_neg hz,bK.acn er hz]at hR
  rw[bK.acn er hz]at e6
  simp only[ko2,go_sem,rE,rA,rL,e6,e5,e3,g5,g3]
  exact ak (.refl _) (aj.sub_refl _) hR
theorem c_kout(L:Lib P F)(T:Tys F)(hC:eB P F er)(s:Nat)(f:Fu)(hf:if f.lent then f.gives.path.length<=2^30 else f.says.okD 4=true)(v:Sc)(hv:v.good):
 ScC P F er 114 [.ptr s 0,.agg f.enc] s v fun q v'=>q=er.ac (rF (oK v f) f)/\v'=(oK v f).1:=by
 intro H ORD HELD m1 m2 hE
 refine(L.a Tryz.func114 y114) (by simp[y114]) ?_
 have hfe:=Fu.enc_eq f
 rw[hfe]
 simp only[y114,go_sem,rE,rA,rL]
 intro b3 hb3 b5 hb5
 rw[<-hfe]at hb5⊢
 have d35:=al (ai _ _ _) hb5
 have hS3:=hE.new hb3 (.cells f.enc)
 have hS5:=hS3.new hb5 (.cells [NIL])
 have n3:=hE.notin hb3
 have n5:=hS3.notin hb5
 have g3:((H.set b3 (.cells f.enc)).set b5 (.cells [NIL])).get b3=some (.cells f.enc):=by rw[ae _ _ d35,ai]
 have g5:((H.set b3 (.cells f.enc)).set b5 (.cells [NIL])).get b5=some (.cells [NIL]):=ai _ _ _
 clear hb3 hb5 hS3 hE
 generalize(H.set b3 _).set b5 _=H1 at*
 generalize hkg:(aT.seq (.seq (rg [mv 0 23 6,_]) (.cond 24 _ .skip)) _)=KG
 have hkg':KG=ko2 F:=hkg.symm
 subst hkg'
 have g3o:=g3
 rw[hfe]at g3
 cases hl:f.lent
 ·rw[hl]at hf
  simp only[aq,if_false]at hf
  have hx:oK v f=v.expr f.says:=by unfold oK;rw[hl];rfl
  rw[hx]
  have hu:=ow (er:=er) L T hC s 4 (by omega) f.says hf v hv
  rw[Ex.enc_eq]at hu
  simp only[go_sem,rE,rA,rL,g3,hl]
  refine cX hu hS5 rfl (.refl _) (fun h=>by simp at h) trivial ?_
  rintro q v1 ORD1 HELD1 H3 fp ⟨rfl,rfl⟩ hS3 hfr -
  have k3:=hfr b3 _ g3o n3
  have k5:=hfr b5 _ g5 n5
  simp only[gR,Ty.enc_eq]
  simp only[go_sem,rE,rA,rL,a9,aB,k5.1]
  exact Aq L (r:=v.expr f.says) (f:=f) (hS3.put k5.2 _) rfl rfl rfl rfl (ai _ _ _) (by rw[ae _ _ d35];exact k3.1) (i9 _ hv) ⟨_,ORD1,HELD1,⟨rfl,rfl⟩,hS3.put k5.2 _⟩
 ·rw[hl]at hf
  simp only[if_true]at hf
  have hx:oK v f=v.use f.gives:=by unfold oK;rw[hl];rfl
  rw[hx]
  have hu:=nM L hC s v f.gives hv hf
  rw[Pl.enc]at hu
  simp only[go_sem,rE,rA,rL,g3,hl]
  refine cX hu hS5 rfl (.refl _) (fun h=>by simp at h) trivial ?_
  rintro q v1 ORD1 HELD1 H3 fp ⟨rfl,rfl⟩ hS3 hfr -
  have k3:=hfr b3 _ g3o n3
  have k5:=hfr b5 _ g5 n5
  simp only[gR,Ty.enc_eq]
  simp only[go_sem,rE,rA,rL,a9,aB,k5.1]
  exact Aq L (r:=v.use f.gives) (f:=f) (hS3.put k5.2 _) rfl rfl rfl rfl (ai _ _ _) (by rw[ae _ _ d35];exact k3.1) (iE hv _) ⟨_,ORD1,HELD1,⟨rfl,rfl⟩,hS3.put k5.2 _⟩
end
noncomputable def lI(v:Sc)(a:Sc×Int)(b:Sc->Sc×Int):Sc×Int:=
 if a.2=0 then
  if(b {v with given:=a.1.given}).2=0 then({v with vars:=gk v.vars (v.vars.map (·.name)) [a.1.vars,(b {v with given:=a.1.given}).1.vars],given:=(b {v with given:=a.1.given}).1.given},0)
  else({v with given:=(b {v with given:=a.1.given}).1.given},(b {v with given:=a.1.given}).2)
 else({v with given:=a.1.given},a.2)
mutual
noncomputable def Sc.stmt (v:Sc):St->Sc×Int
 |.mk k n p o e f zas t l=>
  if k=1 then if(v.expr e).2.2=0 then eI (v.expr e).1 ⟨n,false,false,(v.expr e).2.1,[],false⟩else((v.expr e).1,(v.expr e).2.2)
  else if k=2 then if(v.use p).2.2=0 then eI (v.use p).1 ⟨n,true,false,(v.use p).2.1,[p],false⟩else((v.use p).1,(v.use p).2.2)
  else if k=3 then if(v.expr e).2.2=0 then(((v.expr e).1.use p).1,if((v.expr e).1.use p).2.2=0 then(if eqB (v.expr e).2.1 ((v.expr e).1.use p).2.1 then 0 else 3)else((v.expr e).1.use p).2.2)else((v.expr e).1,(v.expr e).2.2)
  else if k=4 then gL v n f zas
  else if k=6 then ij v n p o e
  else if(v.number e).2=0 then
   if((v.number e).1.stmts t).2=0 then
    if(({(v.number e).1 with given:=((v.number e).1.stmts t).1.given}:Sc).stmts l).2=0 then({(v.number e).1 with vars:=gk (v.number e).1.vars ((v.number e).1.vars.map (·.name)) [((v.number e).1.stmts t).1.vars,(({(v.number e).1 with given:=((v.number e).1.stmts t).1.given}:Sc).stmts l).1.vars],given:=(({(v.number e).1 with given:=((v.number e).1.stmts t).1.given}:Sc).stmts l).1.given},0)
    else({(v.number e).1 with given:=(({(v.number e).1 with given:=((v.number e).1.stmts t).1.given}:Sc).stmts l).1.given},(({(v.number e).1 with given:=((v.number e).1.stmts t).1.given}:Sc).stmts l).2)
   else({(v.number e).1 with given:=((v.number e).1.stmts t).1.given},((v.number e).1.stmts t).2)
  else v.number e
termination_by x=>SizeOf.sizeOf x
noncomputable def Sc.stmts (v:Sc):List St->Sc×Int
 |[]=>(v,0)
 |s::l=>if(v.stmt s).2=0 then(v.stmt s).1.stmts l else v.stmt s
termination_by x=>SizeOf.sizeOf x
end
noncomputable def Sc.ways(v:Sc)(t l:List St):Sc×Int:=lI v (v.stmts t) fun w=>w.stmts l
theorem Sc.stmt_eq(v:Sc)(s:St):v.stmt s=if s.kind=1 then if(v.expr s.expr).2.2=0 then eI (v.expr s.expr).1 ⟨s.name,false,false,(v.expr s.expr).2.1,[],false⟩else((v.expr s.expr).1,(v.expr s.expr).2.2)
 else if s.kind=2 then if(v.use s.place).2.2=0 then eI (v.use s.place).1 ⟨s.name,true,false,(v.use s.place).2.1,[s.place],false⟩else((v.use s.place).1,(v.use s.place).2.2)
 else if s.kind=3 then if(v.expr s.expr).2.2=0 then(((v.expr s.expr).1.use s.place).1,if((v.expr s.expr).1.use s.place).2.2=0 then(if eqB (v.expr s.expr).2.1 ((v.expr s.expr).1.use s.place).2.1 then 0 else 3)else((v.expr s.expr).1.use s.place).2.2)else((v.expr s.expr).1,(v.expr s.expr).2.2)
 else if s.kind=4 then gL v s.name s.fn s.args
 else if s.kind=6 then ij v s.name s.place s.other s.expr
 else if(v.number s.expr).2=0 then(v.number s.expr).1.ways s.thn s.els else v.number s.expr:=by
 obtain⟨k,n,p,o,e,f,zas,t,l⟩:=s
 rw[Sc.stmt.eq_def];rfl
theorem eL(v:Sc):v.stmts []=(v,0):=by rw[Sc.stmts.eq_def]
theorem dZ(v:Sc)(s:St)(l:List St):v.stmts (s::l)=if(v.stmt s).2=0 then(v.stmt s).1.stmts l else v.stmt s:=by rw[Sc.stmts.eq_def]
structure Sc.step(v w:Sc)(n:Nat):Prop where
 p:w.p=v.p
 good:w.good
 held:w.held=[]
 lost:w.lost=v.lost
 hi:w.vars.length<=v.vars.length+n
 lo:v.vars.length<=w.vars.length
 pre:(w.vars.take v.vars.length).map Vr.core=v.vars.map Vr.core
 giv:∃g,w.given=v.given++g
theorem Sc.step.refl{v:Sc}(h:v.good)(hh:v.held=[]):v.step v 0:=⟨rfl,h,hh,rfl,aA _,aA _,by rw[aW],[],by simp⟩
theorem Sc.step.mono{v w:Sc}{n m:Nat}(h:v.step w n)(hm:n<=m):v.step w m:=⟨h.p,h.good,h.held,h.lost,by have:=h.hi;omega,h.lo,h.pre,h.giv⟩
theorem Sc.step.trans{u v w:Sc}{n m:Nat}(h:u.step v n)(h':v.step w m):u.step w (n+m):=by
 refine⟨h'.p.trans h.p,h'.good,h'.held,h'.lost.trans h.lost,by have:=h.hi;have:=h'.hi;omega,cg h.lo h'.lo,?_,?_⟩
 ·rw[<-h.pre]
  have e:=h'.pre
  have:w.vars.take u.vars.length=(w.vars.take v.vars.length).take u.vars.length:=by rw[List.take_take,eC h.lo]
  rw[this,kR,e,<-kR]
 ·obtain⟨g,hg⟩:=h.giv
  obtain⟨g',hg'⟩:=h'.giv
  exact⟨g++g',by rw[hg',hg,dU]⟩
theorem Sc.step.of_core{v w:Sc}(h:v.good)(hh:v.held=[])(hc:w.vars.map Vr.core=v.vars.map Vr.core)(hg:w.given=v.given)(hd:w.held=v.held)(hp:w.p=v.p)(hl:w.lost=v.lost):v.step w 0:=
 ⟨hp,h.core hc hg hd,hd.trans hh,hl,by rw[gn hc];omega,by rw[gn hc];omega,by rw[<-gn hc,aW];exact hc,[],by simp[hg]⟩
theorem mi{v:Sc}(h:v.good)(hh:v.held=[])(p:Pl):v.step (v.use p).1 0:=
 .of_core h hh (v.use_core p).1 (v.use_core p).2.1 (v.use_core p).2.2.1 (v.use_core p).2.2.2 (by unfold Sc.use;split<;>simp[hh])
theorem lz:∀(e:Ex) (v:Sc),v.held=[]->(v.expr e).1.lost=v.lost
 |.mk k n p ks,v,hh=>by
  rw[Sc.expr_eq]
  split
  ·rfl
  ·split
   ·unfold Sc.use;split<;>simp[hh]
   ·split
    ·rename_i a b l
     have ha:=lz a v hh
     have hb:=lz b (v.expr a).1 ((Sc.expr_core a v).2.2.1.trans hh)
     split
     ·split
      ·split
       ·exact hb.trans ha
       ·exact hb.trans ha
      ·exact hb.trans ha
     ·exact ha
    ·rfl
termination_by e=>SizeOf.sizeOf e
theorem jB{v:Sc}(h:v.good)(hh:v.held=[])(e:Ex):v.step (v.expr e).1 0:=
 .of_core h hh (Sc.expr_core e v).1 (Sc.expr_core e v).2.1 (Sc.expr_core e v).2.2.1 (Sc.expr_core e v).2.2.2 (lz e v hh)
theorem po{v:Sc}(h:v.ok){n:ByteArray}(hn:(v.given.any fun m=>eqB m n)=false):n∉v.vars.map (·.name):=by
 intro hm
 obtain⟨x,hx⟩:=oN hm
 rw[h.fresh hn]at hx
 simp at hx
theorem jW{v:Sc}(h:v.good)(hh:v.held=[]){x:Vr}(ht:x.type.okB=true)(hl:x.loans.length<=2^30)(hp:∀q∈x.loans,q.path.length<=2^30)(hn:v.vars.length+1<=2^30)(hz:(eI v x).2=0):v.step (eI v x).1 1:=by
 have hok:=qJ h.ok x
 unfold eI at hz hok⊢
 split at hz
 ·simp at hz
 rename_i hg
 rw[if_neg hg]at hok⊢
 refine⟨rfl,⟨hok,?_,by simp;omega,h.hl,h.hp,?_,?_,?_⟩,hh,rfl,by simp,by simp,by simp,[x.name],rfl⟩
 ·simp only[bL,aU,bB]
  rw[fP]
  refine⟨h.nd,by simp,?_⟩
  intro a ha b hb
  simp at hb
  subst hb
  rintro rfl
  exact po h.ok (by simpa using hg) ha
 ·intro y hy
  rcases aE.1 hy with hy|hy
  ·exact h.lp y hy
  ·rw[bQ.1 hy];exact hp
 ·intro y hy
  rcases aE.1 hy with hy|hy
  ·exact h.ll y hy
  ·rw[bQ.1 hy];exact hl
 ·intro y hy
  rcases aE.1 hy with hy|hy
  ·exact h.ty y hy
  ·rw[bQ.1 hy];exact ht
theorem wj(vs:List Vr)(n:ByteArray)(ws:List (List Vr)):(jl vs n ws).map Vr.core=vs.map Vr.core:=by
 unfold jl
 induction ws generalizing vs with
 |nil=>rfl
 |cons w ws ihw=>
  rw[d7,ihw]
  split
  ·exact sq _ _
  ·rfl
theorem qE(vs:List Vr)(ns:List ByteArray)(ws:List (List Vr)):(gk vs ns ws).map Vr.core=vs.map Vr.core:=by
 unfold gk
 induction ns generalizing vs with
 |nil=>rfl
 |cons n ns ih=>rw[d7,ih,wj]
theorem tw{v:Sc}(h:v.good){n:ByteArray}{f:Fu}(hf:f.type.okB=true)(hn:v.vars.length+1<=2^30)(hz:(fW v n f).2=0):v.lost=false/\v.clear.step (fW v n f).1 1:=by
 unfold fW at hz⊢
 split at hz
 ·simp at hz
 rename_i hl
 rw[if_neg hl]
 refine⟨by simpa using hl,jW (v:=v.clear) (mZ h) rfl (x:=⟨n,f.lent,false,f.type,if f.lent then v.held else [],false⟩) hf ?_ ?_ hn hz⟩
 ·simp only;split
  ·exact h.hl
  ·simp
 ·simp only;split
  ·exact h.hp
  ·simp
theorem wH{v:Sc}(h:v.good)(hh:v.held=[])(hlo:v.lost=false){n fn:ByteArray}{zas:List Ag}(ha:∀a∈zas,a.okB=true)(hal:zas.length<=2^20)(hp:∀f∈v.p,f.type.okB=true)(hn:v.vars.length+1<=2^30)(hz:(gL v n fn zas).2=0):v.step (gL v n fn zas).1 1:=by
 unfold gL at hz⊢
 split at hz
 ·simp at hz
 rename_i f hf
 split at hz
 ·rename_i hl
  rw[if_pos hl]
  split at hz
  ·rename_i h0
   rw[if_pos h0]
   obtain⟨c1,c2,c3,c4⟩:=nN zas f.params v
   have g:=rc zas f.params h ha (by rw[hh];simp;omega)
   have hl1:=gn c1
   obtain⟨s1,s2⟩:=tw g (hp f (List.mem_of_find?_eq_some hf)) (by rw[hl1];exact hn) hz
   have s0:v.step (dL v zas f.params).1.clear 0:=.of_core h hh c1 c2 (by simp[Sc.clear,hh]) c4 (by simp[Sc.clear,hlo])
   exact(s0.trans s2).mono (by omega)
  ·rename_i h0
   exact absurd hz h0
 ·simp at hz
theorem vW{v:Sc}(h:v.good)(hh:v.held=[])(hlo:v.lost=false){n:ByteArray}{p o:Pl}{e:Ex}(hp:p.path.length<=2^30)(ho:o.path.length<=2^30)(hn:v.vars.length+1<=2^30)(hz:(ij v n p o e).2=0):v.step (ij v n p o e).1 1:=by
 unfold ij at hz⊢
 split at hz
 ·rename_i h0
  rw[if_pos h0]
  have s1:=jB h hh e
  rw[<-eQ]at s1
  generalize(v.number e).1=u at*
  unfold iI at hz⊢
  split at hz
  ·rename_i h1
   rw[if_pos h1]
   have s2:=mi s1.good s1.held p
   have t2:=iE s1.good p
   generalize u.use p=r at*
   obtain⟨c1,c2,c3,c4⟩:=Sc.use_core (r.1.hold1 p) o
   have g2:=ky (jf s2.good hp) o
   generalize(r.1.hold1 p).use o=w at*
   unfold oe at hz⊢
   split at hz
   ·rename_i h2
    rw[if_pos h2]
    split at hz
    ·rename_i h3
     rw[if_pos h3]
     split at hz
     ·simp at hz
     ·rename_i h4
      rw[if_neg h4]
      have hl1:w.1.vars.length=r.1.vars.length:=gn c1
      have s3:r.1.step w.1.clear 0:=.of_core s2.good s2.held c1 c2 (by simp[Sc.clear,s2.held]) c4 (by simp[Sc.clear,s2.lost,s1.lost,hlo])
      have b1:=s1.hi;have b2:=s2.hi;have b3:=s3.hi
      have s4:=jW s3.good s3.held (x:=⟨n,true,false,r.2.1,[p,o],false⟩) t2 (by simp) (by simp;exact⟨hp,ho⟩) (by omega) hz
      exact(((s1.trans s2).trans s3).trans s4).mono (by omega)
    ·simp at hz
   ·rename_i h2;exact absurd hz h2
  ·rename_i h1;exact absurd hz h1
 ·rename_i h0;exact absurd hz h0
theorem Rel.nil{e:En}{u:Sc}{T:List Vr}(h:Rel e u T)(hh:u.held=[]):T=[]:=by
 have:=h.tmp.len
 rw[hh]at this
 exact bn this
theorem qp{d:Nat}{x:Ex}(hx:x.okD d=true){e:En}{u:Sc}{T:List Vr}(h:Rel e u T):
 ((u.number x).2=0/\∃T',Rel ((e.expr x).1.num (e.expr x).2) (u.number x).1 T')\/((u.number x).2≠0/\((e.expr x).1.num (e.expr x).2).code=(u.number x).2):=by
 simp only[Sc.number]
 rcases mb d x hx h with⟨a,⟨T',b⟩,c⟩|⟨a,b⟩
 ·rw[if_pos a,c]
  by_cases hk:(u.expr x).2.1.kids.length=0
  ·left;simp only[hk,if_true];exact⟨trivial,T',b.num hk⟩
  ·right;simp only[hk,if_false];exact⟨by decide,by rw[og b.code,if_neg hk]⟩
 ·rw[if_neg a]
  right
  exact⟨a,by rw[fS (by rw[b];exact a)];exact b⟩
theorem Rel.push{e:En}{u:Sc}{T:List Vr}(h:Rel e u T){p:Pl}(hp:∃x∈u.vars,x.name=p.name):Rel (e.push (cK p)) {u with held:=u.held++[p]} (T++[cK p])where
 vars:=by simp only[En.push,h.vars,dU]
 names:=h.names
 code:=h.code
 p:=h.p
 ok:=h.ok
 tmp:=by
  refine⟨by simp[h.tmp.len],fun i hi hi'=>?_,fun q hq=>?_⟩
  ·by_cases hlt:i<T.length
   ·have hlt':i<u.held.length:=by rw[<-h.tmp.len];exact hlt
    have:=h.tmp.tmp i hlt hlt'
    simp only[dm hlt,dm hlt']
    exact this
   ·have e1:i=T.length:=by simp at hi;omega
    subst e1
    simp only[h.tmp.len]
    simp[cK,h.tmp.len]
  ·rcases aE.1 hq with hq|hq
   ·exact h.tmp.nm q hq
   ·rw[bQ.1 hq];exact hp
 lost:=by simp[h.lost,cK]
 giv:=h.giv
theorem Rel.pop{e:En}{u:Sc}{T:List Vr}(h:Rel e u T):Rel (e.pop u.vars.length) {u with held:=[],lost:=false} []where
 vars:=by simp[En.pop,h.vars]
 names:=h.names
 code:=h.code
 p:=h.p
 ok:=h.ok
 tmp:=⟨rfl,fun i hi=>by simp at hi,fun q hq=>by simp at hq⟩
 lost:=rfl
 giv:=h.giv
theorem rb:∀(zas:List Ag) (ps:List Pa),(∀a∈zas,a.okB=true)->zas.length=ps.length->∀{e:En} {u:Sc} {T:List Vr},Rel e u T->
 ((dL u zas ps).2=0/\∃w T',e.args (ps.zip zas) u.held=(w,some (dL u zas ps).1.held)/\Rel w (dL u zas ps).1 T')\/((dL u zas ps).2≠0/\(e.args (ps.zip zas) u.held).1.code=(dL u zas ps).2)
 |[],[],_,_,e,u,T,h=>.inl ⟨rfl,e,T,rfl,h⟩
 |[],p::ps,_,hl,e,u,T,h=>by simp at hl
 |a::zas,[],_,hl,e,u,T,h=>by simp at hl
 |a::zas,p::ps,ha,hl,e,u,T,h=>by
  have hao:=ha a fA
  have hrest:∀x∈zas,x.okB=true:=fun x hx=>ha x (ew _ hx)
  simp only[aR,Nat.add_right_cancel_iff]at hl
  rw[List.zip_cons_cons,En.args,dL]
  by_cases hne:a.lent=p.lent
  ·have hb:¬(a.lent !=p.lent)=true:=by simp[hne]
   simp only[hne,ne_eq,not_true_eq_false,if_false]
   by_cases hlt:a.lent=true
   ·have hpl:p.lent=true:=by rw[<-hne];exact hlt
    have hA:il u a p=({(u.use a.place).1 with held:=(u.use a.place).1.held++[a.place]},if(u.use a.place).2.2=0 then(if eqB (u.use a.place).2.1 p.type then 0 else 3)else(u.use a.place).2.2):=by
     unfold il;rw[if_neg hb,if_pos hlt]
    rw[hA]
    simp only[hpl,if_true]
    have hpok:a.place.okB=true:=by
     simp only[Ag.okB,hlt,if_true,aw]at hao;exact hao.1
    have hheld:=(u.use_core a.place).2.2.1
    rcases kW h (p:=a.place) (jS hpok)with⟨a1,⟨T1,a2⟩,a3,a4⟩|⟨a1,a2⟩
    ·have hin:∃x∈(u.use a.place).1.vars,x.name=a.place.name:=by
      obtain⟨x,hx,hn⟩:=a4
      have:x.core∈(u.use a.place).1.vars.map Vr.core:=by rw[(u.use_core a.place).1];exact bZ hx
      obtain⟨y,hy,ey⟩:=aZ.1 this
      exact⟨y,hy,by have:=congrArg Vr.name ey;exact this.trans hn⟩
     rw[if_pos a1,a3]
     by_cases hq:eqB (u.use a.place).2.1 p.type=true
     ·rw[if_pos hq]
      simp only[if_true]
      have r:=(a2.same hq).push hin
      have:=rb zas ps hrest hl r
      simp only[hheld]at this⊢
      exact this
     ·have hq':eqB (u.use a.place).2.1 p.type=false:=by simpa using hq
      simp only[hq',aq,if_false]
      right
      refine⟨by simp,?_⟩
      have hc:=iT a2.code (u.use a.place).2.1 p.type
      rw[hq',if_neg (by simp)]at hc
      rw[ii _ _ (by show(En.same _ _ _).code≠0;rw[hc];decide)]
      exact hc
    ·rw[if_neg a1,if_neg a1]
     right
     refine⟨a1,?_⟩
     have h1:((e.use a.place).1.same (e.use a.place).2 p.type).code=(u.use a.place).2.2:=(eM (by rw[a2];exact a1) _ _).trans a2
     rw[ii _ _ (by show(En.same _ _ _).code≠0;rw[h1];exact a1)]
     exact h1
   ·have hpl:¬p.lent=true:=by rw[<-hne];exact hlt
    have hA:il u a p=((u.expr a.expr).1,if(u.expr a.expr).2.2=0 then(if eqB (u.expr a.expr).2.1 p.type then 0 else 3)else(u.expr a.expr).2.2):=by
     unfold il;rw[if_neg hb,if_neg hlt]
    rw[hA]
    simp only[hpl,aq,if_false]
    have hx:a.expr.okD 4=true:=by
     have hf:a.lent=false:=by simpa using hlt
     simp only[Ag.okB,hf,aq,if_false,aw]at hao;exact hao.2
    have hheld:=(Sc.expr_core a.expr u).2.2.1
    rcases mb 4 a.expr hx h with⟨a1,⟨T1,a2⟩,a3⟩|⟨a1,a2⟩
    ·rw[if_pos a1,a3]
     by_cases hq:eqB (u.expr a.expr).2.1 p.type=true
     ·rw[if_pos hq]
      simp only[if_true]
      have:=rb zas ps hrest hl (a2.same hq)
      rw[hheld]at this
      exact this
     ·have hq':eqB (u.expr a.expr).2.1 p.type=false:=by simpa using hq
      simp only[hq',aq,if_false]
      right
      refine⟨by simp,?_⟩
      have hc:=iT a2.code (u.expr a.expr).2.1 p.type
      rw[hq',if_neg (by simp)]at hc
      rw[ii _ _ (by rw[hc];decide)]
      exact hc
    ·rw[if_neg a1,if_neg a1]
     right
     refine⟨a1,?_⟩
     have h1:((e.expr a.expr).1.same (e.expr a.expr).2 p.type).code=(u.expr a.expr).2.2:=(eM (by rw[a2];exact a1) _ _).trans a2
     rw[ii _ _ (by rw[h1];exact a1)]
     exact h1
  ·have hb:(a.lent !=p.lent)=true:=by simpa using hne
   have hA:il u a p=(u,3):=by unfold il;rw[if_pos hb]
   rw[hA]
   simp only[ne_eq,hne,not_false_eq_true,if_true]
   right
   exact⟨by simp,by simp[En.fail,dv,h.code]⟩
theorem oz{e:En}{u:Sc}(h:Rel e u []){x:Vr}(hn:x.name≠bl [])(hl:∀q∈x.loans,∃y∈u.vars,y.name=q.name)(hh:u.held=[]):
 ((eI u x).2=0/\Rel (e.add x) (eI u x).1 [])\/((eI u x).2≠0/\(e.add x).code=(eI u x).2):=by
 have hany:(e.names.any fun m=>decide (m=x.name))=u.given.any fun m=>eqB m x.name:=by
  rw[h.names]
  congr 1
  funext m
  rw[aX,cN,decide_eq_true_eq]
 have hok:=qJ h.giv x
 unfold eI at hok⊢
 by_cases hg:(u.given.any fun m=>eqB m x.name)=true
 ·rw[if_pos hg]
  right
  refine⟨by simp,?_⟩
  simp only[En.add,zn,hany,hg,if_true,dv,h.code]
 ·rw[if_neg hg]at hok⊢
  left
  refine⟨rfl,?_,?_,?_,h.p,⟨?_,fun y hy=>?_,fun i hi q hq=>?_⟩,⟨?_,?_,?_⟩,?_,hok⟩
  ·simp[En.add,h.vars]
  ·simp[En.add,h.names]
  ·simp only[En.add,zn,hany,if_neg hg,h.code]
  ·simp only[bL,aU,bB]
   rw[fP]
   refine⟨h.ok.nd,by simp,?_⟩
   intro a ha b hb
   simp at hb
   subst hb
   rintro rfl
   exact po h.giv (by simpa using hg) ha
  ·rcases aE.1 hy with hy|hy
   ·exact h.ok.ne y hy
   ·rw[bQ.1 hy];exact hn
  ·by_cases hlt:i<u.vars.length
   ·simp only[dm hlt]at hq
    obtain⟨j,hj,e⟩:=h.ok.up i hlt q hq
    exact⟨j,hj,by rw[aO (by omega)];exact e⟩
   ·have:i=u.vars.length:=by simp at hi;omega
    subst this
    simp at hq
    obtain⟨y,hy,e⟩:=hl q hq
    obtain⟨j,hj,rfl⟩:=bk.1 hy
    exact⟨j,hj,by rw[aO hj,a6 hj];simp[e]⟩
  ·simp[hh]
  ·intro i hi;simp at hi
  ·simp[hh]
  ·have:=h.lost;simpa using this
theorem xE(fs:List Fu)(n:ByteArray)(m:Nat):(fs.take m).find? (fun f=>eqB f.name n)=(j4 fs n m).bind fun i=>fs[i]?:=by
 unfold j4
 have key:∀l:List Fu,l.find? (fun f=>eqB f.name n)=(l.findIdx? fun f=>decide (f.name=n)).bind fun i=>l[i]?:=by
  intro l
  induction l with
  |nil=>rfl
  |cons x l ih=>
   rw[List.find?_cons,List.findIdx?_cons]
   by_cases h:x.name=n
   ·subst h;simp[dT]
   ·have:eqB x.name n=false:=cC.2 h
    rw[this]
    simp only[decide_eq_true_eq,h,if_false,Option.bind_map,ih]
    rfl
 rw[key]
 cases hi:(fs.take m).findIdx? (fun f=>decide (f.name=n))with
 |none=>rfl
 |some i=>
  obtain⟨hl,-⟩:=bN.1 hi
  have:i<m:=by rw[bI]at hl;omega
  simp only[Option.bind_some,dq this]
theorem argsS_p(zas:List Ag)(ps:List Pa)(v:Sc):(dL v zas ps).1.vars.length=v.vars.length:=gn (nN zas ps v).1
theorem AH{s:St}(hn:bj s.name=true)(ha:∀a∈s.args,a.okB=true){e:En}{u:Sc}(h:Rel e u [])(hh:u.held=[]):
 ((gL u s.name s.fn s.args).2=0/\Rel (e.call s) (gL u s.name s.fn s.args).1 [])\/((gL u s.name s.fn s.args).2≠0/\(e.call s).code=(gL u s.name s.fn s.args).2):=by
 have hname:s.name≠bl []:=by
  intro e;rw[e]at hn;simp[bj,bl]at hn;exact absurd hn.1 (by decide)
 have hf:=xE e.p s.fn e.fn
 rw[<-h.p]at hf
 unfold gL En.call
 rw[hf]
 cases hi:j4 e.p s.fn e.fn with
 |none=>
  right
  simp only[Option.bind_none]
  exact⟨by simp,by simp[En.fail,dv,h.code]⟩
 |some k=>
  simp only[Option.bind_some]
  cases hk:e.p[k]? with
  |none=>
   exfalso
   unfold j4 at hi
   obtain⟨hl,-⟩:=bN.1 hi
   rw[bI]at hl
   rw[List.getElem?_eq_none_iff]at hk
   omega
  |some f=>
   simp only
   by_cases hlen:s.args.length=f.params.length
   ·have hl2:¬(f.params.length≠s.args.length):=by simp[hlen]
    rw[if_pos hlen,if_neg hl2]
    have hsim:=rb s.args f.params ha hlen h
    rw[hh]at hsim
    have hvl:e.vars.length=u.vars.length:=by rw[h.vars];simp
    have hvu:=argsS_p s.args f.params u
    rcases hsim with⟨a1,w,T',a2,a3⟩|⟨a1,a2⟩
    ·rw[if_pos a1,a2]
     simp only
     generalize dL u s.args f.params=r at*
     unfold fW
     have hgone:((w.vars.drop e.vars.length).any fun x=>x.dead)=r.1.lost:=by
      rw[a3.vars,hvl,<-hvu,List.drop_left,a3.lost]
     cases hlo:r.1.lost
     ·have hg:w.gone e.vars.length=w:=by unfold En.gone;rw[hgone,hlo];rfl
      rw[hg,hvl,<-hvu]
      simp only[aq,if_false]
      refine oz a3.pop hname ?_ rfl
      intro q hq
      simp only at hq
      split at hq
      ·exact a3.tmp.nm q hq
      ·simp at hq
     ·have hg:w.gone e.vars.length=w.fail 4:=by unfold En.gone;rw[hgone,hlo];rfl
      rw[hg]
      simp only[if_true]
      right
      refine⟨by simp,?_⟩
      have hc:(w.fail 4).code=4:=by simp[En.fail,dv,a3.code]
      rw[eE (by show(w.fail 4).code≠0;rw[hc];decide)]
      exact hc
    ·rw[if_neg a1]
     right
     refine⟨a1,?_⟩
     rcases hw:e.args (f.params.zip s.args) []with⟨w,o⟩
     rw[hw]at a2
     cases o with
     |none=>exact a2
     |some pl=>
      simp only at a2⊢
      have h1:(w.gone e.vars.length).code=w.code:=tM (by rw[a2];exact a1) _
      rw[eE (by show(w.gone _).code≠0;rw[h1,a2];exact a1)]
      exact h1.trans a2
   ·have hl2:f.params.length≠s.args.length:=fun e=>hlen e.symm
    rw[if_neg hlen,if_pos hl2]
    right
    exact⟨by simp,by simp[En.fail,dv,h.code]⟩
theorem Ab{s:St}(hn:bj s.name=true)(hp:s.place.okB=true)(ho:s.other.okB=true)(hx:s.expr.okD 4=true){e:En}{u:Sc}(h:Rel e u [])(hh:u.held=[]):
 ((ij u s.name s.place s.other s.expr).2=0/\Rel (e.pick s) (ij u s.name s.place s.other s.expr).1 [])\/((ij u s.name s.place s.other s.expr).2≠0/\(e.pick s).code=(ij u s.name s.place s.other s.expr).2):=by
 have hname:s.name≠bl []:=by
  intro e;rw[e]at hn;simp[bj,bl]at hn;exact absurd hn.1 (by decide)
 have hheld1:(u.number s.expr).1.held=[]:=by rw[eQ,(Sc.expr_core s.expr u).2.2.1];exact hh
 have keep:∀{c:Int},c≠0->∀{v:En},v.code=c->∀(T:Ty) (n:Nat) (x:Vr),(((if cZ (((v.push (cK s.place)).use s.other).1.same ((v.push (cK s.place)).use s.other).2 T).vars n then(((v.push (cK s.place)).use s.other).1.same ((v.push (cK s.place)).use s.other).2 T).fail 4 else(((v.push (cK s.place)).use s.other).1.same ((v.push (cK s.place)).use s.other).2 T)).pop n).add x).code=c:=by
  intro c hc v hv T n x
  have h1:((v.push (cK s.place)).use s.other).1.code=c:=(jt (by show v.code≠0;rw[hv];exact hc) _).trans hv
  have h2:(((v.push (cK s.place)).use s.other).1.same ((v.push (cK s.place)).use s.other).2 T).code=c:=(eM (by rw[h1];exact hc) _ _).trans h1
  split
  ·have h3:=(fy (v:=((v.push (cK s.place)).use s.other).1.same ((v.push (cK s.place)).use s.other).2 T) (by rw[h2];exact hc) 4).trans h2
   rw[eE (by show(En.fail _ 4).code≠0;rw[h3];exact hc)]
   exact h3
  ·rw[eE (by show(En.same _ _ _).code≠0;rw[h2];exact hc)]
   exact h2
 unfold ij
 simp only[En.pick]
 rcases qp hx h with⟨a1,T1,a2⟩|⟨a1,a2⟩
 ·rw[if_pos a1]
  obtain rfl:=a2.nil hheld1
  generalize(u.number s.expr).1=u1 at*
  generalize(e.expr s.expr).1.num (e.expr s.expr).2=e1 at*
  unfold iI
  have hheld2:(u1.use s.place).1.held=[]:=by rw[(u1.use_core s.place).2.2.1];exact hheld1
  rcases kW a2 (p:=s.place) (jS hp)with⟨b1,⟨T2,b2⟩,b3,b4⟩|⟨b1,b2⟩
  ·rw[if_pos b1,b3]
   obtain rfl:=b2.nil hheld2
   have hin:∃x∈(u1.use s.place).1.vars,x.name=s.place.name:=by
    obtain⟨x,hx,hn⟩:=b4
    have:x.core∈(u1.use s.place).1.vars.map Vr.core:=by rw[(u1.use_core s.place).1];exact bZ hx
    obtain⟨y,hy,ey⟩:=aZ.1 this
    exact⟨y,hy,by have:=congrArg Vr.name ey;exact this.trans hn⟩
   have hvl:(e1.use s.place).1.vars.length=(u1.use s.place).1.vars.length:=by rw[b2.vars];simp
   rw[hvl]
   have r:=b2.push hin
   rw[hheld2]at r
   have hr1:({(u1.use s.place).1 with held:=[]++[s.place]}:Sc)=(u1.use s.place).1.hold1 s.place:=by
    have hl:(u1.use s.place).1.lost=false:=by have:=b2.lost;simpa using this
    generalize(u1.use s.place).1=z at*
    obtain⟨z1,z2,z3,z4,z5⟩:=z
    simp only at hl
    subst hl
    rfl
   rw[hr1]at r
   generalize(u1.use s.place).2.1=t at*
   have hcore:=Sc.use_core ((u1.use s.place).1.hold1 s.place) s.other
   have hinv:∀x,x.name=s.place.name->x∈(u1.use s.place).1.vars->∃y∈(((u1.use s.place).1.hold1 s.place).use s.other).1.vars,y.name=s.place.name:=by
    intro x hn hx
    have:x.core∈(((u1.use s.place).1.hold1 s.place).use s.other).1.vars.map Vr.core:=by rw[hcore.1];exact bZ hx
    obtain⟨y,hy,ey⟩:=aZ.1 this
    exact⟨y,hy,by have:=congrArg Vr.name ey;exact this.trans hn⟩
   obtain⟨x0,hx0,hn0⟩:=hin
   have hp1:=hinv x0 hn0 hx0
   have hlen1:(((u1.use s.place).1.hold1 s.place).use s.other).1.vars.length=(u1.use s.place).1.vars.length:=gn hcore.1
   have hheld3:(((u1.use s.place).1.hold1 s.place).use s.other).1.held=[s.place]:=hcore.2.2.1
   rcases kW r (p:=s.other) (jS ho)with⟨c1,⟨T3,c2⟩,c3,c4⟩|⟨c1,c2⟩
   ·have ho1:∃y∈(((u1.use s.place).1.hold1 s.place).use s.other).1.vars,y.name=s.other.name:=by
     obtain⟨x,hx,hn⟩:=c4
     have:x.core∈(((u1.use s.place).1.hold1 s.place).use s.other).1.vars.map Vr.core:=by rw[hcore.1];exact bZ hx
     obtain⟨y,hy,ey⟩:=aZ.1 this
     exact⟨y,hy,by have:=congrArg Vr.name ey;exact this.trans hn⟩
    rw[c3]
    unfold oe
    rw[if_pos c1]
    rw[<-hlen1]
    generalize((u1.use s.place).1.hold1 s.place).use s.other=q at*
    generalize((e1.use s.place).1.push (cK s.place)).use s.other=w at*
    have hT3:T3.length=1:=by rw[c2.tmp.len,hheld3];rfl
    by_cases hq:eqB t q.2.1=true
    ·rw[if_pos hq]
     have hq2:eqB q.2.1 t=true:=cN.2 (cN.1 hq).symm
     have r2:=c2.same hq2
     have hdead:cZ (w.1.same q.2.1 t).vars q.1.vars.length=q.1.lost:=by
      rw[r2.vars,r2.lost]
      match T3,hT3 with
      |[y],_=>simp[cZ]
     rw[hdead]
     cases hlo:q.1.lost
     ·simp only[aq,if_false]
      refine oz r2.pop hname ?_ rfl
      intro z hz
      simp only[bi,cF,or_false]at hz
      rcases hz with rfl|rfl
      ·exact hp1
      ·exact ho1
     ·simp only[if_true]
      right
      refine⟨by simp,?_⟩
      have hc:((w.1.same q.2.1 t).fail 4).code=4:=by simp[En.fail,dv,r2.code]
      rw[eE (by show(En.fail _ 4).code≠0;rw[hc];decide)]
      exact hc
    ·have hq':eqB t q.2.1=false:=by simpa using hq
     have hq2:eqB q.2.1 t=false:=cC.2 fun e=>cC.1 hq' e.symm
     simp only[hq',aq,if_false]
     right
     refine⟨by simp,?_⟩
     have hc:=iT c2.code q.2.1 t
     rw[hq2,if_neg (by simp)]at hc
     split
     ·have h3:=(fy (v:=w.1.same q.2.1 t) (by rw[hc];decide) 4).trans hc
      rw[eE (by show(En.fail _ 4).code≠0;rw[h3];decide)]
      exact h3
     ·rw[eE (by show(En.same _ _ _).code≠0;rw[hc];decide)]
      exact hc
   ·right
    unfold oe
    rw[if_neg c1]
    refine⟨c1,?_⟩
    generalize((u1.use s.place).1.hold1 s.place).use s.other=q at*
    generalize((e1.use s.place).1.push (cK s.place)).use s.other=w at*
    have hc:(w.1.same w.2 t).code=q.2.2:=(eM (by rw[c2];exact c1) _ _).trans c2
    split
    ·have h3:=(fy (v:=w.1.same w.2 t) (by rw[hc];exact c1) 4).trans hc
     rw[eE (by show(En.fail _ 4).code≠0;rw[h3];exact c1)]
     exact h3
    ·rw[eE (by show(En.same _ _ _).code≠0;rw[hc];exact c1)]
     exact hc
  ·rw[if_neg b1]
   right
   exact⟨b1,keep b1 b2 _ _ _⟩
 ·rw[if_neg a1]
  right
  refine⟨a1,?_⟩
  have h1:(((e.expr s.expr).1.num (e.expr s.expr).2).use s.place).1.code=(u.number s.expr).2:=(jt (by rw[a2];exact a1) _).trans a2
  exact keep a1 h1 _ _ _
def iSt(f:List St->Int->Bool×Int)(s:St)(n:Int):Bool×Int:=
 if s.kind=1 then(s.rest1.noneB&&(bj s.name&&s.expr.okD 4),n)
 else if s.kind=2 then(s.rest2.noneB&&(bj s.name&&s.place.okB),n)
 else if s.kind=3 then(s.rest3.noneB&&(s.place.okB&&s.expr.okD 4),n)
 else if s.kind=4 then(s.rest4.noneB&&(bj s.name&&(bj s.fn&&eG s.args)),n)
 else if s.kind=5 then(if s.rest5.noneB&&s.expr.okD 4 then(if(f s.thn n).1 then f s.els (f s.thn n).2 else(false,(f s.thn n).2))else(false,n))
 else if s.kind=6 then(s.rest6.noneB&&(bj s.name&&(s.place.okB&&(s.other.okB&&s.expr.okD 4))),n)
 else(false,n)
def fJ(ok:Bool)(f:St->Int->Bool×Int):List St->Int->Bool×Int
 |[],n=>(true,n)
 |s::l,n=>if ok&&decide (0<=n - 1)then(if(f s (n - 1)).1 then fJ ok f l (f s (n - 1)).2 else(false,(f s (n - 1)).2))else(false,n - 1)
def fi:Nat->List St->Int->Bool×Int
 |0,l,n=>fJ false (fun _ n=>(false,n)) l n
 |d+1,l,n=>fJ true (iSt (fi d)) l n
theorem uI{ok:Bool}{f:St->Int->Bool×Int}:∀(l:List St) (n:Int),(∀s∈l,∀n,n - s.cnt+1<=(f s n).2/\(f s n).2<=n)->n - bq l<=(fJ ok f l n).2/\(fJ ok f l n).2<=n
 |[],n,_=>by simp[fJ];omega
 |s::l,n,h=>by
  have hs:=h s (by simp) (n - 1)
  have hl:=uI (ok:=ok) l (f s (n - 1)).2 fun x hx=>h x (by simp[hx])
  have hc:1<=s.cnt:=by rw[dx];omega
  rw[fJ,cQ]
  split
  ·split
   ·omega
   ·simp only;omega
  ·simp only;omega
theorem Aw{f:List St->Int->Bool×Int}{s:St}(h:∀l n,l=s.thn\/l=s.els->n - bq l<=(f l n).2/\(f l n).2<=n)(n:Int):n - s.cnt+1<=(iSt f s n).2/\(iSt f s n).2<=n:=by
 have h1:=h s.thn n (.inl rfl)
 have h2:=h s.els (f s.thn n).2 (.inr rfl)
 have hc:=dx s
 have q:∀b:Bool,n - s.cnt+1<=((b,n):Bool×Int).2/\((b,n):Bool×Int).2<=n:=fun b=>by simp only;omega
 rw[iSt]
 split
 ·exact q _
 split
 ·exact q _
 split
 ·exact q _
 split
 ·exact q _
 split
 ·split
  ·split
   ·omega
   ·simp only;omega
  ·exact q _
 split
 ·exact q _
 ·exact q _
theorem uJ:∀(d:Nat) (l:List St) (n:Int),n - bq l<=(fi d l n).2/\(fi d l n).2<=n
 |0,l,n=>by
  cases l with
  |nil=>simp[fi,fJ];omega
  |cons s l=>
   have hc:1<=s.cnt:=by rw[dx];omega
   simp[fi,fJ,cQ];omega
 |d+1,l,n=>uI l n fun s _ n=>Aw (fun l n _=>uJ d l n) n
theorem sy:∀(l:List St) (k:Nat),bq (l.drop k)<=bq l
 |_,0=>aA _
 |[],_+1=>aA _
 |s::l,k+1=>by rw[gq,cQ];have:=sy l k;omega
theorem iSt_nil{F:Ids}{f:List St->Int->Bool×Int}{s:St}{n:Int}(h:shS F s=gE):iSt f s n=(false,n):=by
 rw[iSt]
 by_cases k1:s.kind=1
 ·rw[xv k1]at h
  cases hc:s.rest1.noneB<;>simp[hc,k1]at h⊢
 by_cases k2:s.kind=2
 ·rw[xu k2]at h
  cases hc:s.rest2.noneB<;>simp[hc,k2]at h⊢
 by_cases k3:s.kind=3
 ·rw[xr k3]at h
  cases hc:s.rest3.noneB<;>simp[hc,k3]at h⊢
 by_cases k4:s.kind=4
 ·rw[xq k4]at h
  cases hc:s.rest4.noneB<;>simp[hc,k4]at h⊢
 by_cases k5:s.kind=5
 ·rw[xn k5]at h
  cases hc:s.rest5.noneB<;>simp[hc,k5]at h⊢
 by_cases k6:s.kind=6
 ·rw[xm k6]at h
  cases hc:s.rest6.noneB<;>simp[hc,k6]at h⊢
 simp[k1,k2,k3,k4,k5,k6]
theorem wp_nrm{P:Program}{c:aT}{K:cE->Env->aj->Prop}{E:Env}{H:aj}(Q:Env->aj->Prop)(hc:c.wp P (fun e E' H'=>e=.normal/\Q E' H') E H)(hk:∀E' H',Q E' H'->K .normal E' H'):c.wp P K E H:=
 aT.wp_mono (fun e E' H' ⟨he,hq⟩=>he▸hk E' H' hq) hc
theorem sR{P:Program}{dr:Bool}{K:Env->aj->Prop}{xs:List aJ}{E:Env}{H:aj}{l:Lds}{f:Fps}{i:Nat}{g:FuncId}{args:List aG}{d:Option Nat}{inc:List Nat}{zas:List AC}{r:Nat}{o o':cz}{q0:AC}
(hc:ACalls P g zas (one r o) fun q H'=>q=q0/\H'=one r o')(ha:args.map (aG.ev E)=zas)(hr:H.get r=some o)(hlive:dr=true->False)(hchk:dQ inc l (·=r))
(h:bp P dr K xs (E.put d q0) (H.set r o') l ((i,fun b=>b=r\/H.get b=none)::f)):
 bp P dr K (⟨i,d,none,.eff (.call g args),inc⟩::xs) E H l f:=by
 refine oH (R:=fun q H'=>q=q0/\H'=one r o') (hc.mono fun q H' ⟨h1,h2⟩=>⟨o',⟨h1,rfl⟩,h2⟩) ha hr (fun h=>(hlive h).elim) hchk ?_
 rintro q o2 ⟨rfl,h2⟩
 have:o2=o':=by have:=congrArg (fun H=>H.get r) h2;simp only[bD]at this;exact Option.some.inj this
 rw[this];exact h
def formQ(r0:Bool×Int)(d b:Nat)(l:List St)(k:Nat)(E':Env)(H':aj):Prop:=∃r:Bool×Int,r=r0/\E' 9=B r.1/\H'.get b=some (.cells [I r.2])/\E' 1=I d/\E' 2=.ptr b 0/\E' 16=.sl 15 none (l.map St.enc)/\E' 17=I l.length/\E' 18=I k
section
variable {P:Program}{F:Ids}
theorem ou(L:Lib P F)(T:Tys F)(d:Nat)(hd:d<=100)(f:List St->Int->Bool×Int)(hf:∀l n,n - bq l<=(f l n).2/\(f l n).2<=n)
(ih:1<=d->∀l n b,bq l<=2^20->-(2^29)<=n->n<=2^20->ACalls P 105 [.sl 15 none (St.encs l),I (d - 1:Nat),.ptr b 0] (one b (.cells [I n])) fun q H'=>q=B (f l n).1/\H'=one b (.cells [I (f l n).2]))
(l:List St)(n:Int)(b:Nat)(hl:bq l<=2^20)(hn:-(2^29)<=n)(hn2:n<=2^20):
 ACalls P 105 [.sl 15 none (St.encs l),I d,.ptr b 0] (one b (.cells [I n])) fun q H'=>q=B (fJ (decide (1<=d)) (iSt f) l n).1/\H'=one b (.cells [I (fJ (decide (1<=d)) (iSt f) l n).2]):=by
 refine(L.a Tryz.func105 y105) (by simp[y105]) ?_
 have fin:∀(E':Env) (H':aj) (q:Bool×Int),E' 6=B q.1->H'.get b=some (.cells [I q.2])->q=fJ (decide (1<=d)) (iSt f) l n->bh.post [.slot 6] (fun q H'=>q=B (fJ (decide (1<=d)) (iSt f) l n).1/\H'=one b (.cells [I (fJ (decide (1<=d)) (iSt f) l n).2])) .ret E' H':=fun E' H' q h1 h2 h3=>ak (by rw[h1,h3];exact .refl _) (gK h2) ⟨rfl,by rw[h3]⟩
 have hb0:=bD b (.cells [I n])
 simp only[y105,go_sem,rE,rA,St.encs_map,ao]
 refine aV l.length (fun k E H=>∃m,H.get b=some (.cells [I m])/\E 1=I d/\E 2=.ptr b 0/\E 16=.sl 15 none (l.map St.enc)/\E 17=I l.length/\E 18=I k/\-(2^29) - 2^20+bq (l.drop k)<=m/\m<=2^20/\fJ (decide (1<=d)) (iSt f) (l.drop k) m=fJ (decide (1<=d)) (iSt f) l n)
  ⟨n,hb0,rfl,rfl,rfl,rfl,rfl,by simp;omega,hn2,rfl⟩ ?_
 clear hb0
 rintro k E H hk ⟨m,hb,e1,e2,e16,e17,e18,hm1,hm2,hit⟩
 simp only[wp_seq,go_sem,rE,e17,e18]
 refine aH (fun hlt=>?_) (fun hge=>?_)
 ·have hk1:k<l.length:=by omega
  have hll:=iD l
  have w1:=aP (n:=(k:Int)+1) (by omega) (by omega)
  have wm:=aP (n:=m - 1) (by omega) (by omega)
  have hdr:l.drop k=l[k]::l.drop (k+1):=bO hk1
  have hcl:=sy l k
  rw[hdr,cQ]at hm1 hcl
  have hcnt:=dx l[k]
  rw[hdr,fJ]at hit
  have dl:(d:Int)<1↔¬1<=d:=by omega
  have hg:(l.map St.enc)[k]?=some l[k].enc:=vN hk1
  rw[St.enc_eq]at hg
  generalize l[k]=s at*
  simp only[go_sem,rE,rA,rL,e16,e18,hg]
  intro b8 hb8
  have d8:b≠b8:=al hb hb8
  simp only[go_sem,rE,rA,rL,hb,d8,Ne.symm d8,e2,e1,wm]
  have ret:∀(E':Env) (H':aj),H'.get b=some (.cells [I (m - 1)])->(fJ (decide (1<=d)) (iSt f) l n)=(false,m - 1)->E' 6=B false->bh.post [.slot 6] (fun q H'=>q=B (fJ (decide (1<=d)) (iSt f) l n).1/\H'=one b (.cells [I (fJ (decide (1<=d)) (iSt f) l n).2])) .ret E' H':=fun E' H' h1 h2 h3=>fin E' H' (false,m - 1) h3 h1 h2.symm
  by_cases h1:(d:Int)<1
  ·simp only[go_sem,rE,rA,rL,h1,decide_true]
   exact ret _ _ (by simp only[go_sem,rE,rA,rL,d8,Ne.symm d8]) (by rw[<-hit,show decide (1<=d)=false from decide_eq_false (dl.1 h1)];rfl) (rfl)
  by_cases h0:m - 1<0
  ·simp only[go_sem,rE,rA,rL,h1,h0,decide_false,decide_true,e2,hb,d8,Ne.symm d8]
   exact ret _ _ (by simp only[go_sem,rE,rA,rL,d8,Ne.symm d8]) (by rw[<-hit,show decide (0<=m - 1)=false from decide_eq_false (by omega),aM];rfl) (rfl)
  have hd1:1<=d:=by omega
  rw[decide_eq_true hd1,decide_eq_true (show 0<=m - 1 by omega)]at hit
  simp only[fD,if_true]at hit
  have wd:=aP (n:=((d - 1:Nat):Int)) (by omega) (by omega)
  have hdd:(d:Int) - 1=(d - 1:Nat):=by omega
  have hdt:=decide_eq_true hd1
  simp only[go_sem,rE,rA,rL,h1,h0,decide_false,e2,hb,d8,Ne.symm d8]
  refine am (uY L s) (by simp only[go_sem,rE,rA,rL,St.enc_eq s]) ?_
  have hb2:((H.set b8 (.cells [I s.kind,S s.name,S s.place.name,au s.place.path,S s.other.name,au s.other.path,I s.expr.kind,I s.expr.num,S s.expr.place.name,au s.expr.place.path,.sl 5 none (Ex.encs s.expr.kids),S s.fn,.sl 8 none (s.args.map Ag.enc),.sl 15 none (St.encs s.thn),.sl 15 none (St.encs s.els)])).set b (.cells [I (m - 1)])).get b=some (.cells [I (m - 1)]):=ai _ _ _
  generalize((H.set b8 (.cells [I s.kind,S s.name,S s.place.name,au s.place.path,S s.other.name,au s.other.path,I s.expr.kind,I s.expr.num,S s.expr.place.name,au s.expr.place.path,.sl 5 none (Ex.encs s.expr.kids),S s.fn,.sl 8 none (s.args.map Ag.enc),.sl 15 none (St.encs s.thn),.sl 15 none (St.encs s.els)])).set b (.cells [I (m - 1)]))=H2 at*
  rw[kr,cu]
  refine wp_nrm (formQ (iSt f s (m - 1)) d b l k) ?_ ?_
  ·clear hb
   have out:∀(E':Env) (H':aj) (r:Bool×Int),E' 9=B r.1->H'.get b=some (.cells [I r.2])->r=iSt f s (m - 1)->(E' 1=I d/\E' 2=.ptr b 0/\E' 16=.sl 15 none (l.map St.enc)/\E' 17=I l.length/\E' 18=I k)->
    formQ (iSt f s (m - 1)) d b l k E' H':=fun E' H' r h1 h2 h3 h4=>⟨r,h3,h1,h2,h4⟩
   by_cases hn:shS F s=gE
   ·rw[hn]
    simp only[go_sem,rE,rA,rL]
    exact out _ _ (false,m - 1) (rfl) hb2 (iSt_nil hn).symm (⟨e1,e2,e16,e17,e18⟩)
   by_cases k1:s.kind=1
   ·have q:∀i:Int,i≠1->¬s.kind=i:=fun i hi=>by rw[k1];exact Ne.symm hi
    rw[xv k1]at hn⊢
    cases hc:s.rest1.noneB
    ·rw[hc]at hn;exact absurd rfl hn
    have hi:iSt f s (m - 1)=(bj s.name&&(s.expr.okD 4),m - 1):=by rw[iSt,if_pos k1,hc];rfl
    simp only[go_sem,rE,rA,rL,if_true]
    intro b9 hb9
    have hb9':=(ae H2 (.cells []) (al hb2 hb9)).trans hb2
    have d9:=al hb2 hb9
    refine am (gW L s.name) (rfl) ?_
    cases h0:bj s.name
    ·simp only[go_sem,rE,rA,rL]
     exact out _ _ (false,m - 1) (rfl) (by simp only[go_sem,rE,rA,rL,d9,hb2]) (by rw[hi,h0];rfl) (⟨e1,e2,e16,e17,e18⟩)
    simp only[go_sem,rE,rA,rL]
    refine am (ja L T 4 (by omega) s.expr) (by simp only[go_sem,rE,rA,rL,Ex.enc_eq s.expr];rfl) ?_
    simp only[go_sem,rE,rA,rL]
    exact out _ _ (s.expr.okD 4,m - 1) (rfl) (by simp only[go_sem,rE,rA,rL,d9,hb2]) (by rw[hi,h0];rfl) (⟨e1,e2,e16,e17,e18⟩)
   by_cases k2:s.kind=2
   ·have q:∀i:Int,i≠2->¬s.kind=i:=fun i hi=>by rw[k2];exact Ne.symm hi
    rw[xu k2]at hn⊢
    cases hc:s.rest2.noneB
    ·rw[hc]at hn;exact absurd rfl hn
    have hi:iSt f s (m - 1)=(bj s.name&&(s.place.okB),m - 1):=by rw[iSt,if_neg (q 1 (by decide)),if_pos k2,hc];rfl
    simp only[go_sem,rE,rA,rL,if_true,T.s12,if_false]
    intro b9 hb9
    have hb9':=(ae H2 (.cells []) (al hb2 hb9)).trans hb2
    have d9:=al hb2 hb9
    refine am (gW L s.name) (rfl) ?_
    cases h0:bj s.name
    ·simp only[go_sem,rE,rA,rL]
     exact out _ _ (false,m - 1) (rfl) (by simp only[go_sem,rE,rA,rL,d9,hb2]) (by rw[hi,h0];rfl) (⟨e1,e2,e16,e17,e18⟩)
    simp only[go_sem,rE,rA,rL]
    refine am (gV L s.place) (by simp only[go_sem,rE,rA,rL,Pl.enc]) ?_
    simp only[go_sem,rE,rA,rL]
    exact out _ _ (s.place.okB,m - 1) (rfl) (by simp only[go_sem,rE,rA,rL,d9,hb2]) (by rw[hi,h0];rfl) (⟨e1,e2,e16,e17,e18⟩)
   by_cases k3:s.kind=3
   ·have q:∀i:Int,i≠3->¬s.kind=i:=fun i hi=>by rw[k3];exact Ne.symm hi
    rw[xr k3]at hn⊢
    cases hc:s.rest3.noneB
    ·rw[hc]at hn;exact absurd rfl hn
    have hi:iSt f s (m - 1)=(s.place.okB&&(s.expr.okD 4),m - 1):=by rw[iSt,if_neg (q 1 (by decide)),if_neg (q 2 (by decide)),if_pos k3,hc];rfl
    simp only[go_sem,rE,rA,rL,if_true,T.s13,T.s23,if_false]
    intro b9 hb9
    have hb9':=(ae H2 (.cells []) (al hb2 hb9)).trans hb2
    have d9:=al hb2 hb9
    refine am (gV L s.place) (by simp only[go_sem,rE,rA,rL,Pl.enc]) ?_
    cases h0:s.place.okB
    ·simp only[go_sem,rE,rA,rL]
     exact out _ _ (false,m - 1) (rfl) (by simp only[go_sem,rE,rA,rL,d9,hb2]) (by rw[hi,h0];rfl) (⟨e1,e2,e16,e17,e18⟩)
    simp only[go_sem,rE,rA,rL]
    refine am (ja L T 4 (by omega) s.expr) (by simp only[go_sem,rE,rA,rL,Ex.enc_eq s.expr];rfl) ?_
    simp only[go_sem,rE,rA,rL]
    exact out _ _ (s.expr.okD 4,m - 1) (rfl) (by simp only[go_sem,rE,rA,rL,d9,hb2]) (by rw[hi,h0];rfl) (⟨e1,e2,e16,e17,e18⟩)
   by_cases k4:s.kind=4
   ·have q:∀i:Int,i≠4->¬s.kind=i:=fun i hi=>by rw[k4];exact Ne.symm hi
    rw[xq k4]at hn⊢
    cases hc:s.rest4.noneB
    ·rw[hc]at hn;exact absurd rfl hn
    have hi:iSt f s (m - 1)=(bj s.name&&(bj s.fn&&(eG s.args)),m - 1):=by rw[iSt,if_neg (q 1 (by decide)),if_neg (q 2 (by decide)),if_neg (q 3 (by decide)),if_pos k4,hc];rfl
    simp only[go_sem,rE,rA,rL,if_true,T.s14,T.s24,T.s34,if_false]
    intro b9 hb9
    have hb9':=(ae H2 (.cells []) (al hb2 hb9)).trans hb2
    have d9:=al hb2 hb9
    refine am (gW L s.name) (rfl) ?_
    cases h0:bj s.name
    ·simp only[go_sem,rE,rA,rL]
     exact out _ _ (false,m - 1) (rfl) (by simp only[go_sem,rE,rA,rL,d9,hb2]) (by rw[hi,h0];rfl) (⟨e1,e2,e16,e17,e18⟩)
    simp only[go_sem,rE,rA,rL]
    refine am (gW L s.fn) (rfl) ?_
    cases h1:bj s.fn
    ·simp only[go_sem,rE,rA,rL]
     exact out _ _ (false,m - 1) (rfl) (by simp only[go_sem,rE,rA,rL,d9,hb2]) (by rw[hi,h0,h1];rfl) (⟨e1,e2,e16,e17,e18⟩)
    simp only[go_sem,rE,rA,rL]
    refine am (wO L T s.args) (rfl) ?_
    simp only[go_sem,rE,rA,rL]
    exact out _ _ (eG s.args,m - 1) (rfl) (by simp only[go_sem,rE,rA,rL,d9,hb2]) (by rw[hi,h0,h1];rfl) (⟨e1,e2,e16,e17,e18⟩)
   by_cases k5:s.kind=5
   ·have q:∀i:Int,i≠5->¬s.kind=i:=fun i hi=>by rw[k5];exact Ne.symm hi
    rw[xn k5]at hn⊢
    cases hc:s.rest5.noneB
    ·rw[hc]at hn;exact absurd rfl hn
    simp only[go_sem,rE,rA,rL,if_true,T.s15,T.s25,T.s35,T.s45,if_false]
    intro b9 hb9
    have d9:=al hb2 hb9
    refine am (ja L T 4 (by omega) s.expr) (by simp only[go_sem,rE,rA,rL,Ex.enc_eq s.expr];rfl) ?_
    cases h0:s.expr.okD 4
    ·simp only[go_sem,rE,rA,rL]
     exact out _ _ (false,m - 1) (rfl) (by simp only[go_sem,rE,rA,rL,d9,hb2]) (by rw[iSt,if_neg (q 1 (by decide)),if_neg (q 2 (by decide)),if_neg (q 3 (by decide)),if_neg (q 4 (by decide)),if_pos k5,hc,h0];rfl) (⟨e1,e2,e16,e17,e18⟩)
    have hb9':=(ae H2 (.cells [I s.expr.kind,I s.expr.num,S s.expr.place.name,au s.expr.place.path,.sl 5 none (Ex.encs s.expr.kids),.sl 15 none (St.encs s.thn),.sl 15 none (St.encs s.els)]) d9).trans hb2
    have g9:=ai H2 b9 (.cells [I s.expr.kind,I s.expr.num,S s.expr.place.name,au s.expr.place.path,.sl 5 none (Ex.encs s.expr.kids),.sl 15 none (St.encs s.thn),.sl 15 none (St.encs s.els)])
    simp only[go_sem,rE,rA,rL,e1,e2,wd,hdd]
    have ht:=hf s.thn (m - 1)
    refine sR (ih hd1 s.thn (m - 1) b (by omega) (by omega) (by omega)) (by simp only[go_sem,rE,rA,rL,hdd,wd]) hb9' (by simp) trivial ?_
    have hi:iSt f s (m - 1)=if(f s.thn (m - 1)).1 then f s.els (f s.thn (m - 1)).2 else(false,(f s.thn (m - 1)).2):=by rw[iSt,if_neg (q 1 (by decide)),if_neg (q 2 (by decide)),if_neg (q 3 (by decide)),if_neg (q 4 (by decide)),if_pos k5,hc,h0];rfl
    generalize f s.thn (m - 1)=r1 at*
    obtain⟨ok1,m1⟩:=r1
    simp only at hi ht
    cases ok1
    ·simp only[go_sem,rE,rA,rL]
     exact out _ _ (false,m1) (by simp only[go_sem,rE,rA,rL]) (by simp only[go_sem,rE,rA,rL]) (by rw[hi];rfl) (by simp only[go_sem,rE,rA,rL,e1,e2,e16,e17,e18,and_self])
    simp only[go_sem,rE,rA,rL,e1,e2,wd,hdd,d9,Ne.symm d9,g9]
    refine sR (ih hd1 s.els m1 b (by omega) (by omega) (by omega)) (by simp only[go_sem,rE,rA,rL,hdd,wd]) (ai _ _ _) (by simp) trivial ?_
    simp only[go_sem,rE,rA,rL]
    exact out _ _ (f s.els m1) (by simp only[go_sem,rE,rA,rL]) (by simp only[go_sem,rE,rA,rL]) (by rw[hi];rfl) (by simp only[go_sem,rE,rA,rL,e1,e2,e16,e17,e18,and_self])
   by_cases k6:s.kind=6
   ·have q:∀i:Int,i≠6->¬s.kind=i:=fun i hi=>by rw[k6];exact Ne.symm hi
    rw[xm k6]at hn⊢
    cases hc:s.rest6.noneB
    ·rw[hc]at hn;exact absurd rfl hn
    have hi:iSt f s (m - 1)=(bj s.name&&(s.place.okB&&(s.other.okB&&(s.expr.okD 4))),m - 1):=by rw[iSt,if_neg (q 1 (by decide)),if_neg (q 2 (by decide)),if_neg (q 3 (by decide)),if_neg (q 4 (by decide)),if_neg (q 5 (by decide)),if_pos k6,hc];rfl
    simp only[go_sem,rE,rA,rL,if_true,T.s16,T.s26,T.s36,T.s46,T.s56,if_false]
    intro b9 hb9
    have hb9':=(ae H2 (.cells []) (al hb2 hb9)).trans hb2
    have d9:=al hb2 hb9
    refine am (gW L s.name) (rfl) ?_
    cases h0:bj s.name
    ·simp only[go_sem,rE,rA,rL]
     exact out _ _ (false,m - 1) (rfl) (by simp only[go_sem,rE,rA,rL,d9,hb2]) (by rw[hi,h0];rfl) (⟨e1,e2,e16,e17,e18⟩)
    simp only[go_sem,rE,rA,rL]
    refine am (gV L s.place) (by simp only[go_sem,rE,rA,rL,Pl.enc]) ?_
    cases h1:s.place.okB
    ·simp only[go_sem,rE,rA,rL]
     exact out _ _ (false,m - 1) (rfl) (by simp only[go_sem,rE,rA,rL,d9,hb2]) (by rw[hi,h0,h1];rfl) (⟨e1,e2,e16,e17,e18⟩)
    simp only[go_sem,rE,rA,rL]
    refine am (gV L s.other) (by simp only[go_sem,rE,rA,rL,Pl.enc]) ?_
    cases h2:s.other.okB
    ·simp only[go_sem,rE,rA,rL]
     exact out _ _ (false,m - 1) (rfl) (by simp only[go_sem,rE,rA,rL,d9,hb2]) (by rw[hi,h0,h1,h2];rfl) (⟨e1,e2,e16,e17,e18⟩)
    simp only[go_sem,rE,rA,rL]
    refine am (ja L T 4 (by omega) s.expr) (by simp only[go_sem,rE,rA,rL,Ex.enc_eq s.expr];rfl) ?_
    simp only[go_sem,rE,rA,rL]
    exact out _ _ (s.expr.okD 4,m - 1) (rfl) (by simp only[go_sem,rE,rA,rL,d9,hb2]) (by rw[hi,h0,h1,h2];rfl) (⟨e1,e2,e16,e17,e18⟩)
   exact absurd (shS_0 (by omega)) hn
  ·rintro E' H' ⟨r,hr,f9,hb',f1,f2,f16,f17,f18⟩
   rw[<-hr]at hit
   have hbd:=Aw (f:=f) (s:=s) (fun l n _=>hf l n) (m - 1)
   rw[<-hr]at hbd
   obtain⟨ok,m2⟩:=r
   simp only at f9 hb' hit hbd
   cases ok
   ·simp only[go_sem,rE,rA,rL,f9]
    exact fin _ _ (false,m2) (rfl) hb' (by rw[hdt];simpa using hit)
   ·simp only[go_sem,rE,rA,rL,f9,f18,w1]
    refine⟨hk1,H',aj.sub_refl _,m2,hb',f1,f2,f16,f17,rfl,by omega,by omega,by rw[hdt];simpa using hit⟩
 ·have hkk:k=l.length:=by omega
  subst hkk
  simp only[go_sem,rE]
  rw[kl]at hit
  exact fin _ _ (true,m) (rfl) hb hit
theorem py(L:Lib P F)(T:Tys F):∀(d:Nat),d<=100->∀(l:List St) (n:Int) (b:Nat),bq l<=2^20->-(2^29)<=n->n<=2^20->
 ACalls P 105 [.sl 15 none (St.encs l),I d,.ptr b 0] (one b (.cells [I n])) fun q H'=>q=B (fi d l n).1/\H'=one b (.cells [I (fi d l n).2])
 |0,hd,l,n,b,h1,h2,h3=>by
  have e:∀(l:List St) (n:Int),fi 0 l n=fJ (decide (1<=0)) (iSt fun _ n=>(false,n)) l n:=fun l n=>by cases l<;>simp[fi,fJ]
  rw[e]
  exact ou L T 0 hd (fun _ n=>(false,n)) (fun l n=>by simp only;omega) (fun h=>by omega) l n b h1 h2 h3
 |d+1,hd,l,n,b,h1,h2,h3=>
  ou L T (d+1) hd (fi d) (uJ d) (fun _=>py L T d (by omega)) l n b h1 h2 h3
end
theorem ur:bj (bl [])=false:=rfl
theorem vq{l:List Ag}(h:l.length=0):eG l=true:=by
 rw[bn h];rfl
theorem iSt_1{f:List St->Int->Bool×Int}{s:St}{n:Int}(h:s.kind=1):iSt f s n=(s.rest1.noneB&&(bj s.name&&s.expr.okD 4),n):=by
 have q:∀i:Int,i≠1->¬s.kind=i:=fun i hi=>by rw[h];exact Ne.symm hi
 rw[iSt,if_pos h]
theorem iSt_2{f:List St->Int->Bool×Int}{s:St}{n:Int}(h:s.kind=2):iSt f s n=(s.rest2.noneB&&(bj s.name&&s.place.okB),n):=by
 have q:∀i:Int,i≠2->¬s.kind=i:=fun i hi=>by rw[h];exact Ne.symm hi
 rw[iSt,if_neg (q 1 (by decide)),if_pos h]
theorem iSt_3{f:List St->Int->Bool×Int}{s:St}{n:Int}(h:s.kind=3):iSt f s n=(s.rest3.noneB&&(s.place.okB&&s.expr.okD 4),n):=by
 have q:∀i:Int,i≠3->¬s.kind=i:=fun i hi=>by rw[h];exact Ne.symm hi
 rw[iSt,if_neg (q 1 (by decide)),if_neg (q 2 (by decide)),if_pos h]
theorem iSt_4{f:List St->Int->Bool×Int}{s:St}{n:Int}(h:s.kind=4):iSt f s n=(s.rest4.noneB&&(bj s.name&&(bj s.fn&&eG s.args)),n):=by
 have q:∀i:Int,i≠4->¬s.kind=i:=fun i hi=>by rw[h];exact Ne.symm hi
 rw[iSt,if_neg (q 1 (by decide)),if_neg (q 2 (by decide)),if_neg (q 3 (by decide)),if_pos h]
theorem iSt_5{f:List St->Int->Bool×Int}{s:St}{n:Int}(h:s.kind=5):iSt f s n=if s.rest5.noneB&&s.expr.okD 4 then(if(f s.thn n).1 then f s.els (f s.thn n).2 else(false,(f s.thn n).2))else(false,n):=by
 have q:∀i:Int,i≠5->¬s.kind=i:=fun i hi=>by rw[h];exact Ne.symm hi
 rw[iSt,if_neg (q 1 (by decide)),if_neg (q 2 (by decide)),if_neg (q 3 (by decide)),if_neg (q 4 (by decide)),if_pos h]
theorem iSt_6{f:List St->Int->Bool×Int}{s:St}{n:Int}(h:s.kind=6):iSt f s n=(s.rest6.noneB&&(bj s.name&&(s.place.okB&&(s.other.okB&&s.expr.okD 4))),n):=by
 have q:∀i:Int,i≠6->¬s.kind=i:=fun i hi=>by rw[h];exact Ne.symm hi
 rw[iSt,if_neg (q 1 (by decide)),if_neg (q 2 (by decide)),if_neg (q 3 (by decide)),if_neg (q 4 (by decide)),if_neg (q 5 (by decide)),if_pos h]
theorem gj(k:Int)(n:ByteArray)(p o:Pl)(e:Ex)(f:ByteArray)(zas:List Ag)(t l:List St):(St.mk k n p o e f zas t l).noneB=(decide (k=0)&&(decide (n=bl [])&&(p.noneB&&(o.noneB&&(e.noneB&&(decide (f=bl [])&&(decide (zas.length=0)&&(decide (t.length=0)&&decide (l.length=0))))))))):=rfl
theorem lM{Bd:List St->Bool}{s:St}{x:Bool}(h5:s.kind≠5)(n:Int)(hn:0<=n)(h:x=cU Bd s)(hs:bH s.thn+bH s.els+1=s.num):
 ((x,n):Bool×Int).1=(cU Bd s&&decide ((s.num:Int) - 1<=n))/\(((x,n):Bool×Int).1=true->((x,n):Bool×Int).2=n - ((s.num:Int) - 1)):=by
 subst h
 have key:cU Bd s=true->s.num=1:=by
  intro h
  simp only[cU,stD,if_neg h5,aw,decide_eq_true_eq]at h
  have h1:s.thn=[]:=bn (by omega)
  have h2:s.els=[]:=bn (by omega)
  rw[h1,h2,fO]at hs;omega
 cases ho:cU Bd s
 ·simp
 ·have:=key ho
  simp[this,hn]
theorem Av(d:Nat)(s:St)(n:Int)(hn:0<=n)(h:∀l n,(l=s.thn\/l=s.els)->s.kind=5->0<=n->n<=40->(fi d l n).1=(bX d l&&decide ((bH l:Int)<=n))/\((fi d l n).1=true->(fi d l n).2=n - bH l))(hn2:n<=40):
 (iSt (fi d) s n).1=(cU (bX d) s&&decide ((s.num:Int) - 1<=n))/\((iSt (fi d) s n).1=true->(iSt (fi d) s n).2=n - ((s.num:Int) - 1)):=by
 have hs:bH s.thn+bH s.els+1=s.num:=by have:=kP s;omega
 have an:=@vq s.args
 have p0:P0.noneB=true:=rfl
 have e0:E0.noneB=true:=rfl
 by_cases k1:s.kind=1
 ·rw[iSt_1 k1]
  refine lM (by rw[k1];decide) n hn ?_ hs
  clear hs h
  rw[aX]
  simp only[cU,stA,stB,jN,stD,isN,isP,isE,St.rest1,gj,k1,bm,dN,decide_true,decide_false,dG,dV,dE,gG,if_true,if_false,reduceIte,aq,aw,decide_eq_true_eq]
  simp only[p0,e0,true_and,and_self,cG,dR,dF]at an⊢
  constructor
  ·rintro⟨⟨h1,h2,h3,h4,h5,h6⟩,h7,h8⟩;simp_all
  ·rintro⟨h1,h2,h3,h4⟩;simp_all
 by_cases k2:s.kind=2
 ·rw[iSt_2 k2]
  refine lM (by rw[k2];decide) n hn ?_ hs
  clear hs h
  rw[aX]
  simp only[cU,stA,stB,jN,stD,isN,isP,isE,St.rest2,gj,k2,bm,dN,decide_true,decide_false,dG,dV,dE,gG,if_true,if_false,reduceIte,aq,aw,decide_eq_true_eq]
  simp only[p0,e0,true_and,and_self,cG,dR,dF]at an⊢
  constructor
  ·rintro⟨⟨h1,h2,h3,h4,h5,h6⟩,h7,h8⟩;simp_all
  ·rintro⟨h1,h2,h3,h4⟩;simp_all
 by_cases k3:s.kind=3
 ·rw[iSt_3 k3]
  refine lM (by rw[k3];decide) n hn ?_ hs
  clear hs h
  rw[aX]
  simp only[cU,stA,stB,jN,stD,isN,isP,isE,St.rest3,gj,k3,bm,dN,decide_true,decide_false,dG,dV,dE,gG,if_true,if_false,reduceIte,aq,aw,decide_eq_true_eq]
  simp only[p0,e0,true_and,and_self,cG,dR,dF]at an⊢
  constructor
  ·rintro⟨⟨h1,h2,h3,h4,h5,h6⟩,h7,h8⟩;simp_all [ur]
  ·rintro⟨h1,h2,h3,h4⟩;simp_all
 by_cases k4:s.kind=4
 ·rw[iSt_4 k4]
  refine lM (by rw[k4];decide) n hn ?_ hs
  clear hs h
  rw[aX]
  simp only[cU,stA,stB,jN,stD,isN,isP,isE,St.rest4,gj,k4,bm,dN,decide_true,decide_false,dG,dV,dE,gG,if_true,if_false,reduceIte,aq,aw,decide_eq_true_eq]
  simp only[p0,e0,true_and,and_self,cG,dR,dF]at an⊢
  constructor
  ·rintro⟨⟨h1,h2,h3,h4,h5⟩,h6,h7,h8⟩;simp_all
  ·rintro⟨h1,h2,h3,h4⟩;simp_all
 by_cases k6:s.kind=6
 ·rw[iSt_6 k6]
  refine lM (by rw[k6];decide) n hn ?_ hs
  clear hs h
  rw[aX]
  simp only[cU,stA,stB,jN,stD,isN,isP,isE,St.rest6,gj,k6,bm,dN,decide_true,decide_false,dG,dV,dE,gG,if_true,if_false,reduceIte,aq,aw,decide_eq_true_eq]
  simp only[p0,e0,true_and,and_self,cG,dR,dF]at an⊢
  constructor
  ·rintro⟨⟨h1,h2,h3,h4⟩,h5,h6,h7,h8⟩;simp_all
  ·rintro⟨h1,h2,h3,h4⟩;simp_all
 by_cases k5:s.kind=5
 ·have hg:cU (bX d) s=((s.rest5.noneB&&s.expr.okD 4)&&(bX d s.thn&&bX d s.els)):=by
   clear hs h
   rw[aX]
   simp only[cU,stA,stB,jN,stD,isN,isP,isE,St.rest5,gj,k5,bm,dN,decide_true,decide_false,dG,dV,dE,gG,if_true,if_false,reduceIte,aq,aw,decide_eq_true_eq]
   simp only[p0,e0,true_and,and_self,cG,dR,dF]at an⊢
   constructor
   ·rintro⟨h1,h2,h3,h4⟩;simp_all
   ·intro h;simp_all [ur]
  rw[iSt_5 k5,hg]
  generalize(s.rest5.noneB&&s.expr.okD 4)=c at*
  generalize s.thn=t at*
  generalize s.els=l at*
  generalize s.num=N at*
  have ht:=h t n (.inl rfl) k5 hn hn2
  cases c
  ·simp
  ·simp only[if_true,bT]
   rw[ht.1]
   cases hb:bX d t&&decide ((bH t:Int)<=n)
   ·simp only[aq,if_false]
    refine⟨?_,by simp⟩
    rw[cH]at hb
    rcases hb with hb|hb
    ·rw[hb];simp
    ·simp only[decide_eq_false_iff_not]at hb
     rw[show decide ((N:Int) - 1<=n)=false from decide_eq_false (by omega),aM]
   ·simp only[aw,decide_eq_true_eq]at hb
    rw[ht.2 (by rw[ht.1,hb.1];simpa using hb.2)]
    have hl:=h l (n - bH t) (.inr rfl) k5 (by omega) (by omega)
    simp only[if_true]
    refine⟨?_,fun ho=>?_⟩
    ·rw[hl.1,hb.1,bT]
     congr 1
     rw[decide_eq_decide];omega
    ·rw[hl.2 ho];omega
 ·have hi:iSt (fi d) s n=(false,n):=by
   rw[iSt,if_neg k1,if_neg k2,if_neg k3,if_neg k4,if_neg k5,if_neg k6]
  have hg:cU (bX d) s=false:=by
   have hk:¬(1<=s.kind/\s.kind<=6):=by omega
   simp only[cU,stD,if_neg k5,decide_eq_false hk,aL,aM]
  rw[hi,hg];simp
theorem qF{d:Nat}:∀(l:List St) (n:Int),0<=n->n<=40->(∀s∈l,∀n,0<=n->n<=40->(iSt (fi d) s n).1=(cU (bX d) s&&decide ((s.num:Int) - 1<=n))/\((iSt (fi d) s n).1=true->(iSt (fi d) s n).2=n - ((s.num:Int) - 1)))->
 (fJ true (iSt (fi d)) l n).1=(l.all (cU (bX d))&&decide ((bH l:Int)<=n))/\((fJ true (iSt (fi d)) l n).1=true->(fJ true (iSt (fi d)) l n).2=n - bH l)
 |[],n,hn,_,_=>by simp[fJ,fO,hn]
 |s::l,n,hn,hn2,h=>by
  have h1:1<=s.num:=by rw[kP];omega
  rw[fJ,fX,List.all_cons,bT]
  by_cases h0:0<=n - 1
  ·have hs:=h s (by simp) (n - 1) h0 (by omega)
   rw[decide_eq_true h0]
   simp only[if_true]
   cases ho:(iSt (fi d) s (n - 1)).1
   ·simp only[aq,if_false]
    refine⟨?_,by simp⟩
    rw[ho]at hs
    have hs1:=hs.1.symm
    rw[cH]at hs1
    rcases hs1 with h2|h2
    ·rw[h2];simp
    ·simp only[decide_eq_false_iff_not]at h2
     rw[show decide (((s.num+bH l:Nat):Int)<=n)=false from decide_eq_false (by omega),aM]
   ·have h2:=hs.2 ho
    have h3:=hs.1
    rw[ho]at h3
    have h3:=h3.symm
    simp only[aw,decide_eq_true_eq]at h3
    have hl:=qF l (iSt (fi d) s (n - 1)).2 (by omega) (by omega) fun x hx=>h x (by simp[hx])
    rw[h2]at hl⊢
    simp only[if_true]
    refine⟨?_,fun ho=>?_⟩
    ·rw[hl.1,h3.1,bT]
     congr 1
     rw[decide_eq_decide];omega
    ·rw[hl.2 ho];omega
  ·rw[decide_eq_false h0]
   simp only[aq,if_false]
   refine⟨?_,by simp⟩
   rw[show decide (((s.num+bH l:Nat):Int)<=n)=false from decide_eq_false (by omega),aM]
theorem St.sm.kids{i:Nat}{s:St}(h:s.sm (i+1)):(∀x∈s.thn,x.sm i)/\∀x∈s.els,x.sm i:=by
 cases h with|mk he ha ht hl=>exact⟨ht,hl⟩
theorem qG:∀(d i:Nat) (l:List St) (n:Int),i+1<=d->(∀s∈l,s.sm i)->0<=n->n<=40->
 (fi d l n).1=(bX d l&&decide ((bH l:Int)<=n))/\((fi d l n).1=true->(fi d l n).2=n - bH l)
 |0,i,l,n,h,_,_,_=>by omega
 |d+1,i,l,n,hd,hs,hn,hn2=>by
  have key:=qF (d:=d) l n hn hn2 fun s hx n hn hn2=>Av d s n hn (fun l' n hl _ hn hn2=>by
   have h:=hs s hx
   cases i with
   |zero=>cases h
   |succ i=>
    have hk:=h.kids
    exact qG d i l' n (by omega) (by rcases hl with rfl|rfl;exact hk.1;exact hk.2) hn hn2) hn2
  refine⟨?_,key.2⟩
  rw[fi,key.1,bX]
  have hlen:=rk l
  by_cases h40:(bH l:Int)<=n
  ·rw[show decide (l.length<=40)=true from decide_eq_true (by omega),bT]
  ·rw[decide_eq_false h40,aM,aM]
theorem iBody4{l:List St}(h:∀s∈l,s.sm 3):(fi 4 l 40).1=(bX 4 l&&decide (bH l<=40)):=by
 rw[(qG 4 3 l 40 (by omega) h (by omega) (by omega)).1]
 congr 1
 rw[decide_eq_decide];omega
inductive StW(Bd:List St->Bool)(s:St):Prop
 |k1 (h:s.kind=1) (r:s.rest1.noneB=true) (n:bj s.name=true) (e:s.expr.okD 4=true)
 |k2 (h:s.kind=2) (r:s.rest2.noneB=true) (n:bj s.name=true) (p:s.place.okB=true)
 |k3 (h:s.kind=3) (r:s.rest3.noneB=true) (p:s.place.okB=true) (e:s.expr.okD 4=true)
 |k4 (h:s.kind=4) (r:s.rest4.noneB=true) (n:bj s.name=true) (f:bj s.fn=true) (a:eG s.args=true)
 |k5 (h:s.kind=5) (r:s.rest5.noneB=true) (e:s.expr.okD 4=true) (t:Bd s.thn=true) (l:Bd s.els=true)
 |k6 (h:s.kind=6) (r:s.rest6.noneB=true) (n:bj s.name=true) (p:s.place.okB=true) (o:s.other.okB=true) (e:s.expr.okD 4=true)
theorem stW{Bd:List St->Bool}{s:St}(h:cU Bd s=true):StW Bd s:=by
 have an:=@vq s.args
 have p0:P0.noneB=true:=rfl
 have e0:E0.noneB=true:=rfl
 by_cases k1:s.kind=1
 ·simp only[cU,stA,stB,jN,stD,isN,isP,isE,k1,bm,dN,decide_true,decide_false,dG,dV,dE,gG,if_true,if_false,reduceIte,aq,aw,decide_eq_true_eq]at h
  have hr:s.rest1.noneB=true/\bj s.name=true/\s.expr.okD 4=true:=by
   simp only[St.rest1,gj,aw,decide_eq_true_eq]
   simp only[p0,e0,true_and,and_self,cG,dR,dF]at an h⊢
   simp_all
  exact .k1 k1 hr.1 hr.2.1 hr.2.2
 by_cases k2:s.kind=2
 ·simp only[cU,stA,stB,jN,stD,isN,isP,isE,k2,bm,dN,decide_true,decide_false,dG,dV,dE,gG,if_true,if_false,reduceIte,aq,aw,decide_eq_true_eq]at h
  have hr:s.rest2.noneB=true/\bj s.name=true/\s.place.okB=true:=by
   simp only[St.rest2,gj,aw,decide_eq_true_eq]
   simp only[p0,e0,true_and,and_self,cG,dR,dF]at an h⊢
   simp_all
  exact .k2 k2 hr.1 hr.2.1 hr.2.2
 by_cases k3:s.kind=3
 ·simp only[cU,stA,stB,jN,stD,isN,isP,isE,k3,bm,dN,decide_true,decide_false,dG,dV,dE,gG,if_true,if_false,reduceIte,aq,aw,decide_eq_true_eq]at h
  have hr:s.rest3.noneB=true/\s.place.okB=true/\s.expr.okD 4=true:=by
   simp only[St.rest3,gj,aw,decide_eq_true_eq]
   simp only[p0,e0,true_and,and_self,cG,dR,dF]at an h⊢
   simp_all
  exact .k3 k3 hr.1 hr.2.1 hr.2.2
 by_cases k4:s.kind=4
 ·simp only[cU,stA,stB,jN,stD,isN,isP,isE,k4,bm,dN,decide_true,decide_false,dG,dV,dE,gG,if_true,if_false,reduceIte,aq,aw,decide_eq_true_eq]at h
  have hr:s.rest4.noneB=true/\bj s.name=true/\bj s.fn=true/\eG s.args=true:=by
   simp only[St.rest4,gj,aw,decide_eq_true_eq]
   simp only[p0,e0,true_and,and_self,cG,dR,dF]at an h⊢
   simp_all
  exact .k4 k4 hr.1 hr.2.1 hr.2.2.1 hr.2.2.2
 by_cases k6:s.kind=6
 ·simp only[cU,stA,stB,jN,stD,isN,isP,isE,k6,bm,dN,decide_true,decide_false,dG,dV,dE,gG,if_true,if_false,reduceIte,aq,aw,decide_eq_true_eq]at h
  have hr:s.rest6.noneB=true/\bj s.name=true/\s.place.okB=true/\s.other.okB=true/\s.expr.okD 4=true:=by
   simp only[St.rest6,gj,aw,decide_eq_true_eq]
   simp only[p0,e0,true_and,and_self,cG,dR,dF]at an h⊢
   simp_all
  exact .k6 k6 hr.1 hr.2.1 hr.2.2.1 hr.2.2.2.1 hr.2.2.2.2
 by_cases k5:s.kind=5
 ·simp only[cU,stA,stB,jN,stD,isN,isP,isE,k5,bm,dN,decide_true,decide_false,dG,dV,dE,gG,if_true,if_false,reduceIte,aq,aw,decide_eq_true_eq]at h
  have hr:s.rest5.noneB=true/\s.expr.okD 4=true/\Bd s.thn=true/\Bd s.els=true:=by
   simp only[St.rest5,gj,aw,decide_eq_true_eq]
   simp only[p0,e0,true_and,and_self,cG,dR,dF]at an h⊢
   simp_all
  exact .k5 k5 hr.1 hr.2.1 hr.2.2.1 hr.2.2.2
 ·simp only[cU,stD,if_neg k5,aw,decide_eq_true_eq]at h
  omega
theorem jj{p:Pl}(h:p.okB=true):p.path.length<=2^30:=by
 simp only[Pl.okB,fU,aw,decide_eq_true_eq]at h
 omega
theorem nO{zas:List Ag}(h:eG zas=true):(∀a∈zas,a.okB=true)/\zas.length<=4:=by
 simp only[eG,aw,decide_eq_true_eq,aS]at h
 exact⟨h.2,h.1⟩
theorem vG{v:Sc}(h:v.good)(hh:v.held=[]){a:Sc×Int}{b:Sc->Sc×Int}{n m:Nat}(ha:a.2=0->v.step a.1 n)
(hb:∀w:Sc,w.good->w.held=[]->w.lost=v.lost->w.p=v.p->w.vars=v.vars->(b w).2=0->w.step (b w).1 m)(hz:(lI v a b).2=0):v.step (lI v a b).1 0:=by
 unfold lI at hz⊢
 split at hz
 ·rename_i h0
  rw[if_pos h0]
  have s1:=ha h0
  split at hz
  ·rename_i h1
   rw[if_pos h1]
   obtain⟨g,hg⟩:=s1.giv
   have gg:∀(ns:List ByteArray),Sc.good {v with given:=v.given++ns}:=fun ns=>⟨fun y hy=>by simp only[fY,h.ok y hy,dV],h.nd,h.len,h.hl,h.hp,h.lp,h.ll,h.ty⟩
   have s2:=hb {v with given:=a.1.given} (by rw[hg];exact gg g) hh rfl rfl rfl h1
   obtain⟨g',hg'⟩:=s2.giv
   have hgv:(b {v with given:=a.1.given}).1.given=v.given++(g++g'):=by rw[hg'];simp only;rw[hg,dU]
   have hc:(gk v.vars (v.vars.map (·.name)) [a.1.vars,(b {v with given:=a.1.given}).1.vars]).map Vr.core=v.vars.map Vr.core:=qE _ _ _
   refine⟨rfl,?_,hh,rfl,by simp only;rw[gn hc];omega,by simp only;rw[gn hc];omega,by simp only;rw[<-gn hc,aW];exact hc,g++g',hgv⟩
   exact(gg (g++g')).core hc hgv rfl
  ·rename_i h1;exact absurd hz h1
 ·rename_i h0;exact absurd hz h0
theorem iy:∀(d:Nat) (l:List St),bX d l=true->∀v:Sc,v.good->v.held=[]->v.lost=false->(∀f∈v.p,f.type.okB=true)->v.vars.length+100*d<=2^30->(v.stmts l).2=0->v.step (v.stmts l).1 l.length:=by
 intro d
 induction d with
 |zero=>intro l h;simp[bX]at h
 |succ d ih=>
  have one:∀s:St,cU (bX d) s=true->∀v:Sc,v.good->v.held=[]->v.lost=false->(∀f∈v.p,f.type.okB=true)->v.vars.length+1+100*d<=2^30->(v.stmt s).2=0->v.step (v.stmt s).1 1:=by
   intro s hs v hv hh hl hp hn hz
   have se:=jB hv hh s.expr
   have su:=mi hv hh s.place
   rw[Sc.stmt_eq]at hz⊢
   rcases stW hs with⟨k,r,n,e⟩|⟨k,r,n,p⟩|⟨k,r,p,e⟩|⟨k,r,n,f,a⟩|⟨k,r,e,t,l⟩|⟨k,r,n,p,o,e⟩
   ·simp only[k,bm,if_true,if_false]at hz⊢
    split at hz
    ·rename_i h0
     rw[if_pos h0]
     have:=se.hi
     exact(se.trans (jW se.good se.held (x:=⟨s.name,false,false,(v.expr s.expr).2.1,[],false⟩) (i9 _ hv) (by simp) (by simp) (by omega) hz)).mono (by omega)
    ·rename_i h0;exact absurd hz h0
   ·simp only[k,bm,if_true,if_false]at hz⊢
    split at hz
    ·rename_i h0
     rw[if_pos h0]
     have:=su.hi
     exact(su.trans (jW su.good su.held (x:=⟨s.name,true,false,(v.use s.place).2.1,[s.place],false⟩) (iE hv _) (by simp) (by simp;exact jj p) (by omega) hz)).mono (by omega)
    ·rename_i h0;exact absurd hz h0
   ·simp only[k,bm,if_true,if_false]at hz⊢
    split at hz
    ·rename_i h0
     rw[if_pos h0]
     exact(se.trans (mi se.good se.held s.place)).mono (by omega)
    ·rename_i h0;exact absurd hz h0
   ·simp only[k,bm,if_true,if_false]at hz⊢
    obtain⟨a1,a2⟩:=nO a
    exact wH hv hh hl a1 (by omega) hp (by omega) hz
   ·simp only[k,bm,if_true,if_false]at hz⊢
    rw[<-eQ]at se
    split at hz
    ·rename_i h0
     rw[if_pos h0]
     have:=se.hi
     refine(se.trans (vG se.good se.held (n:=s.thn.length) (m:=s.els.length) (fun hz'=>ih s.thn t _ se.good se.held (by rw[se.lost];exact hl) (by rw[se.p];exact hp) (by omega) hz') (fun w hw hwh hwl hwp hwv hwz=>?_) hz)).mono (by omega)
     exact ih s.els l w hw hwh (by rw[hwl,se.lost];exact hl) (by rw[hwp,se.p];exact hp) (by rw[hwv];omega) hwz
    ·rename_i h0;exact absurd hz h0
   ·simp only[k,bm,if_true,if_false]at hz⊢
    exact vW hv hh hl (jj p) (jj o) (by omega) hz
  have many:∀l:List St,(∀s∈l,cU (bX d) s=true)->∀v:Sc,v.good->v.held=[]->v.lost=false->(∀f∈v.p,f.type.okB=true)->v.vars.length+l.length+100*d<=2^30->(v.stmts l).2=0->v.step (v.stmts l).1 l.length:=by
   intro l
   induction l with
   |nil=>intro _ v hv hh _ _ _ _;rw[eL];exact .refl hv hh
   |cons s l ihl=>
    intro hs v hv hh hl hp hn hz
    simp only[aR]at hn⊢
    rw[dZ]at hz⊢
    split at hz
    ·rename_i h0
     rw[if_pos h0]
     have s1:=one s (hs s fA) v hv hh hl hp (by omega) h0
     have:=s1.hi
     exact(s1.trans (ihl (fun x hx=>hs x (ew _ hx)) _ s1.good s1.held (by rw[s1.lost];exact hl) (by rw[s1.p];exact hp) (by omega) hz)).mono (by omega)
    ·rename_i h0;exact absurd hz h0
  intro l hl v hv hh hlo hp hn hz
  simp only[bX,aw,decide_eq_true_eq,aS]at hl
  exact many l hl.2 v hv hh hlo hp (by omega) hz
def Mon(vs ws:List Vr):Prop:=∀i,cZ vs i=true->cZ ws i=true
theorem Mon.refl(vs:List Vr):Mon vs vs:=fun _ h=>h
theorem Mon.trans{a b c:List Vr}(h:Mon a b)(h':Mon b c):Mon a c:=fun i hi=>h' i (h i hi)
theorem Mon.map{vs:List Vr}{f:Vr->Vr}(hf:∀x,x.dead=true->(f x).dead=true):Mon vs (vs.map f):=fun i h=>by
 unfold cZ at h⊢
 rw[co]
 cases hx:vs[i]? with
 |none=>rw[hx]at h;simp at h
 |some x=>rw[hx]at h;exact hf x h
theorem Mon.append(vs ws:List Vr):Mon vs (vs++ws):=fun i h=>by
 unfold cZ at h⊢
 cases hx:vs[i]? with
 |none=>rw[hx]at h;simp at h
 |some x=>
  obtain⟨hl,-⟩:=aN.1 hx
  rw[aO hl,hx];rw[hx]at h;exact h
theorem Mon.endN(vs:List Vr)(n:ByteArray):Mon vs (ir vs n):=Mon.map fun x h=>by split<;>simp[h]
theorem vA:∀(ns:List ByteArray) (vs:List Vr),Mon vs (ns.foldl Go.Xl.ir vs)
 |[],vs=>.refl vs
 |n::ns,vs=>by rw[d7];exact(Mon.endN vs n).trans (vA ns _)
theorem Mon.use(v:Sc)(p:Pl):Mon v.vars (v.use p).1.vars:=by
 unfold Sc.use
 split
 ·exact vA _ _
 ·exact .refl _
theorem Mon.expr:∀(e:Ex) (v:Sc),Mon v.vars (v.expr e).1.vars
 |.mk k n p ks,v=>by
  rw[Sc.expr_eq]
  split
  ·exact .refl _
  ·split
   ·exact Mon.use v p
   ·split
    ·rename_i a b l
     have ha:=Mon.expr a v
     have hb:=ha.trans (Mon.expr b (v.expr a).1)
     split
     ·split
      ·split
       ·exact hb
       ·exact hb
      ·exact hb
     ·exact ha
    ·exact .refl _
termination_by e=>SizeOf.sizeOf e
theorem oA(v:Sc)(x:Vr):Mon v.vars (eI v x).1.vars:=by
 unfold eI
 split
 ·exact .refl _
 ·exact Mon.append _ _
theorem Mon.arg(v:Sc)(a:Ag)(p:Pa):Mon v.vars (il v a p).1.vars:=by
 unfold il
 split
 ·exact .refl _
 ·split
  ·exact Mon.use v a.place
  ·exact Mon.expr a.expr v
theorem Mon.args:∀(zas:List Ag) (ps:List Pa) (v:Sc),Mon v.vars (dL v zas ps).1.vars
 |[],_,v=>by simp only[dL];exact .refl _
 |_::_,[],v=>by simp only[dL];exact .refl _
 |a::zas,p::ps,v=>by
  rw[dL]
  split
  ·exact(Mon.arg v a p).trans (Mon.args zas ps _)
  ·exact Mon.arg v a p
theorem Mon.call(v:Sc)(n fn:ByteArray)(zas:List Ag):Mon v.vars (gL v n fn zas).1.vars:=by
 unfold gL
 split
 ·exact .refl _
 ·rename_i f hf
  split
  ·split
   ·refine(Mon.args zas f.params v).trans ?_
    unfold fW
    split
    ·exact .refl _
    ·exact oA {(dL v zas f.params).1 with held:=[],lost:=false} _
   ·exact Mon.args zas f.params v
  ·exact .refl _
theorem Mon.pick(v:Sc)(n:ByteArray)(p o:Pl)(e:Ex):Mon v.vars (ij v n p o e).1.vars:=by
 have h0:Mon v.vars (v.number e).1.vars:=by rw[eQ];exact Mon.expr e v
 unfold ij
 split
 ·refine h0.trans ?_
  unfold iI
  split
  ·refine(Mon.use _ p).trans ?_
   have h2:=Mon.use (((v.number e).1.use p).1.hold1 p) o
   unfold oe
   split
   ·split
    ·split
     ·exact h2
     ·exact h2.trans (oA ((((v.number e).1.use p).1.hold1 p).use o).1.clear _)
    ·exact h2
   ·exact h2
  ·exact Mon.use _ p
 ·exact h0
theorem Mon.joinW(n:ByteArray):∀(ws:List (List Vr)) (vs:List Vr),Mon vs (Go.Xl.jl vs n ws)
 |[],vs=>.refl _
 |w::ws,vs=>by
  have e:Go.Xl.jl vs n (w::ws)=Go.Xl.jl (if dW w n then Go.Xl.ir vs n else vs) n ws:=rfl
  rw[e]
  refine Mon.trans ?_ (Mon.joinW n ws _)
  split
  ·exact Mon.endN _ _
  ·exact .refl _
theorem Mon.join:∀(ns:List ByteArray) (vs:List Vr) (ws:List (List Vr)),Mon vs (gk vs ns ws)
 |[],vs,ws=>.refl _
 |n::ns,vs,ws=>by
  have e:gk vs (n::ns) ws=gk (Go.Xl.jl vs n ws) ns ws:=rfl
  rw[e]
  exact(Mon.joinW n ws vs).trans (Mon.join ns _ ws)
theorem Mon.ways(v:Sc)(t l:List St):Mon v.vars (v.ways t l).1.vars:=by
 unfold Sc.ways lI
 split
 ·split
  ·exact Mon.join _ _ _
  ·exact .refl _
 ·exact .refl _
theorem Mon.stmt(v:Sc)(s:St):Mon v.vars (v.stmt s).1.vars:=by
 rw[Sc.stmt_eq]
 split
 ·split
  ·exact(Mon.expr _ v).trans (oA _ _)
  ·exact Mon.expr _ v
 split
 ·split
  ·exact(Mon.use v _).trans (oA _ _)
  ·exact Mon.use v _
 split
 ·split
  ·exact(Mon.expr _ v).trans (Mon.use _ _)
  ·exact Mon.expr _ v
 split
 ·exact Mon.call _ _ _ _
 split
 ·exact Mon.pick _ _ _ _ _
 have h0:Mon v.vars (v.number s.expr).1.vars:=by rw[eQ];exact Mon.expr _ v
 split
 ·exact h0.trans (Mon.ways _ _ _)
 ·exact h0
theorem Mon.stmts:∀(l:List St) (v:Sc),Mon v.vars (v.stmts l).1.vars
 |[],v=>by rw[eL];exact .refl _
 |s::l,v=>by
  rw[dZ]
  split
  ·exact(Mon.stmt v s).trans (Mon.stmts l _)
  ·exact Mon.stmt v s
theorem kX(v:Sc)(p:Pl):0<=(v.use p).2.2:=by
 unfold Sc.use
 have:0<=(eO v.vars p).2:=by
  unfold eO
  split
  ·simp
  ·split
   ·simp
   ·split<;>simp
 split<;>exact this
theorem jX:∀(e:Ex) (v:Sc),0<=(v.expr e).2.2
 |.mk k n p ks,v=>by
  rw[Sc.expr_eq]
  split
  ·simp
  ·split
   ·exact kX v p
   ·split
    ·rename_i a b l
     split
     ·split
      ·split
       ·split<;>simp
       ·simp only;split<;>simp
      ·exact jX b _
     ·exact jX a v
    ·simp
termination_by e=>SizeOf.sizeOf e
theorem qq(v:Sc)(e:Ex):0<=(v.number e).2:=by
 simp only[Sc.number]
 split
 ·simp only;split<;>simp
 ·exact jX e v
theorem lX(v:Sc)(x:Vr):0<=(eI v x).2:=by unfold eI;split<;>simp
theorem arg_pos(v:Sc)(a:Ag)(p:Pa):0<=(il v a p).2:=by
 unfold il
 split
 ·simp
 ·split
  ·simp only;split
   ·split<;>simp
   ·exact kX _ _
  ·simp only;split
   ·split<;>simp
   ·exact jX _ _
theorem vo:∀(zas:List Ag) (ps:List Pa) (v:Sc),0<=(dL v zas ps).2
 |[],_,v=>by simp[dL]
 |_::_,[],v=>by simp[dL]
 |a::zas,p::ps,v=>by
  rw[dL]
  split
  ·exact vo zas ps _
  ·exact arg_pos v a p
theorem AI(v:Sc)(n fn:ByteArray)(zas:List Ag):0<=(gL v n fn zas).2:=by
 unfold gL
 split
 ·simp
 ·split
  ·split
   ·unfold fW
    split
    ·simp
    ·exact lX _ _
   ·exact vo _ _ _
  ·simp
theorem Ac(v:Sc)(n:ByteArray)(p o:Pl)(e:Ex):0<=(ij v n p o e).2:=by
 unfold ij
 split
 ·unfold iI
  split
  ·unfold oe
   split
   ·split
    ·split
     ·simp
     ·exact lX _ _
    ·simp
   ·exact kX _ _
  ·exact kX _ _
 ·exact qq _ _
mutual
theorem zK:∀(s:St) (v:Sc),0<=(v.stmt s).2
 |.mk k n p o e f zas t l,v=>by
  rw[Sc.stmt_eq]
  split
  ·split
   ·exact lX _ _
   ·exact jX _ _
  split
  ·split
   ·exact lX _ _
   ·exact kX _ _
  split
  ·split
   ·simp only;split
    ·split<;>simp
    ·exact kX _ _
   ·exact jX _ _
  split
  ·exact AI _ _ _ _
  split
  ·exact Ac _ _ _ _ _
  split
  ·unfold Sc.ways lI
   split
   ·split
    ·simp
    ·exact jG l _
   ·exact jG t _
  ·exact qq _ _
termination_by s=>SizeOf.sizeOf s
theorem jG:∀(l:List St) (v:Sc),0<=(v.stmts l).2
 |[],v=>by rw[eL];simp
 |s::l,v=>by
  rw[dZ]
  split
  ·exact jG l _
  ·exact zK s v
termination_by l=>SizeOf.sizeOf l
end
theorem jg{v:En}(h:v.code≠0)(c:Int):(v.fail0 c).code=v.code:=by simp only[En.fail0];split<;>simp[i7 h]
theorem nf{v a b:En}(h:v.code=0)(ha:0<=a.code)(hb:0<=b.code):(v.join a b).code=if a.code=0 then b.code else a.code:=by
 simp only[En.join,En.fail0,h,dv]
 by_cases h1:a.code=0
 ·simp only[h1,if_true]
  by_cases h2:b.code=0
  ·simp[h2]
  ·have:0<b.code:=by omega
   simp[this]
 ·have:0<a.code:=by omega
  simp[this,h1]
theorem wo(ws:List (List Vr)):∀(ns:List ByteArray) (vs:List Vr),∃L:List ByteArray,gk vs ns ws=L.foldl ir vs/\∀n,n∈L↔n∈ns/\∃w∈ws,dW w n=true:=by
 have one:∀(n:ByteArray) (ws:List (List Vr)) (vs:List Vr),∃L:List ByteArray,jl vs n ws=L.foldl ir vs/\∀m,m∈L↔m=n/\∃w∈ws,dW w n=true:=by
  intro n ws
  induction ws with
  |nil=>intro vs;exact⟨[],rfl,by simp⟩
  |cons w ws ih=>
   intro vs
   have e:jl vs n (w::ws)=jl (if dW w n then ir vs n else vs) n ws:=rfl
   obtain⟨L,h1,h2⟩:=ih (if dW w n then ir vs n else vs)
   by_cases hd:dW w n=true
   ·refine⟨n::L,by rw[e,h1,if_pos hd];rfl,fun m=>?_⟩
    simp only[bi,h2]
    constructor
    ·rintro(rfl|⟨rfl,w',hw',h⟩)
     ·exact⟨rfl,w,.inl rfl,hd⟩
     ·exact⟨rfl,w',.inr hw',h⟩
    ·rintro⟨rfl,-⟩;exact .inl rfl
   ·refine⟨L,by rw[e,h1,if_neg hd],fun m=>?_⟩
    simp only[bi,h2]
    constructor
    ·rintro⟨rfl,w',hw',h⟩;exact⟨rfl,w',.inr hw',h⟩
    ·rintro⟨rfl,w',rfl|hw',h⟩
     ·exact absurd h hd
     ·exact⟨rfl,w',hw',h⟩
 intro ns
 induction ns with
 |nil=>intro vs;exact⟨[],rfl,by simp⟩
 |cons n ns ih=>
  intro vs
  have e:gk vs (n::ns) ws=gk (jl vs n ws) ns ws:=rfl
  obtain⟨L1,a1,a2⟩:=one n ws vs
  obtain⟨L2,b1,b2⟩:=ih (jl vs n ws)
  refine⟨L1++L2,by rw[e,b1,a1,List.foldl_append],fun m=>?_⟩
  simp only[aE,a2,b2,bi]
  constructor
  ·rintro(⟨rfl,h⟩|⟨h,h'⟩)
   ·exact⟨.inl rfl,h⟩
   ·exact⟨.inr h,h'⟩
  ·rintro⟨rfl|h,h'⟩
   ·exact .inl ⟨rfl,h'⟩
   ·exact .inr ⟨h,h'⟩
theorem dW_at{vs ws:List Vr}(hnd:(ws.map (·.name)).Nodup)(hpre:(ws.take vs.length).map Vr.core=vs.map Vr.core){i:Nat}(hi:i<vs.length):dW ws vs[i].name=cZ ws i:=by
 have hl:vs.length<=ws.length:=by
  have:=congrArg List.length hpre
  simp at this;omega
 have hiw:i<ws.length:=by omega
 have hn:ws[i].name=vs[i].name:=by
  have:=congrArg (·[i]?) hpre
  simp only[co,dq hi,a6 hi,a6 hiw,bW,Option.some.injEq]at this
  have h:=congrArg Vr.name this
  exact h
 unfold dW cZ
 rw[<-hn,xG hnd hiw,a6 hiw]
theorem wh{vs zas bs:List Vr}(hva:(zas.map (·.name)).Nodup)(hvb:(bs.map (·.name)).Nodup)(ha:(zas.take vs.length).map Vr.core=vs.map Vr.core)(hb:(bs.take vs.length).map Vr.core=vs.map Vr.core)(hm:Mon vs zas):
 fI vs zas bs=gk vs (vs.map (·.name)) [zas,bs]:=by
 obtain⟨L,h1,h2⟩:=wo [zas,bs] (vs.map (·.name)) vs
 rw[h1,mC]
 apply List.ext_getElem (by simp[fI])
 intro i h3 h4
 have hi:i<vs.length:=by simpa[fI]using h3
 simp only[fI,List.getElem_mapIdx,iO]
 have da:=dW_at hva ha hi
 have db:=dW_at hvb hb hi
 have hin:(L.any fun m=>eqB m vs[i].name)=true↔(cZ zas i=true\/cZ bs i=true):=by
  rw[xM,h2,<-da,<-db]
  constructor
  ·rintro⟨-,w,hw,h⟩
   simp only[bi,cF,or_false]at hw
   rcases hw with rfl|rfl
   ·exact .inl h
   ·exact .inr h
  ·intro h
   refine⟨aZ.2 ⟨vs[i],az hi,rfl⟩,?_⟩
   rcases h with h|h
   ·exact⟨zas,by simp,h⟩
   ·exact⟨bs,by simp,h⟩
 by_cases hc:(L.any fun m=>eqB m vs[i].name)=true
 ·rw[if_pos hc]
  have:=hin.1 hc
  have e:(cZ zas i||cZ bs i)=true:=by simpa using this
  rw[e]
 ·rw[if_neg hc]
  have hn:¬(cZ zas i=true\/cZ bs i=true):=fun h=>hc (hin.2 h)
  have e:(cZ zas i||cZ bs i)=false:=by
   cases h1:cZ zas i<;>cases h2:cZ bs i<;>simp[h1,h2]at hn⊢
  rw[e]
  have hd:vs[i].dead=false:=by
   cases hd:vs[i].dead with
   |false=>rfl
   |true=>
    have:=hm i (by unfold cZ;rw[a6 hi];exact hd)
    simp[this]at e
  generalize vs[i]=x at*
  cases x
  simp only at hd
  subst hd
  rfl
theorem sH{v:En}(h:v.code≠0):∀l:List St,v.body l=v
 |[]=>hZ v
 |s::l=>by rw[ig,if_neg h]
theorem m9{n:ByteArray}(hn:bj n=true):n≠bl []:=by
 intro e;rw[e]at hn;simp[bj,bl]at hn;exact absurd hn.1 (by decide)
theorem xI{vs ws:List Vr}(hc:ws.map Vr.core=vs.map Vr.core){n:ByteArray}(h:∃x∈vs,x.name=n):∃y∈ws,y.name=n:=by
 obtain⟨x,hx,hn⟩:=h
 have:x.core∈ws.map Vr.core:=by rw[hc];exact bZ hx
 obtain⟨y,hy,ey⟩:=aZ.1 this
 exact⟨y,hy,by have:=congrArg Vr.name ey;exact this.trans hn⟩
def vw(d:Nat):Prop:=∀(l:List St),bX d l=true->∀{e:En} {u:Sc},Rel e u []->u.good->u.held=[]->(∀f∈u.p,f.type.okB=true)->u.vars.length+200*d<=2^30->
 ((u.stmts l).2=0/\Rel (e.body l) (u.stmts l).1 [])\/((u.stmts l).2≠0/\(e.body l).code=(u.stmts l).2)
theorem Rel.lost0{e:En}{u:Sc}(h:Rel e u []):u.lost=false:=by have:=h.lost;simpa using this
theorem zJ{d:Nat}(ih:vw d){s:St}(hs:cU (bX d) s=true){e:En}{u:Sc}(h:Rel e u [])(hu:u.good)(hh:u.held=[])(hp:∀f∈u.p,f.type.okB=true)(hn:u.vars.length+200*d<=2^30):
 ((u.stmt s).2=0/\Rel (e.stmt s) (u.stmt s).1 [])\/((u.stmt s).2≠0/\(e.stmt s).code=(u.stmt s).2):=by
 have hheldE:=(Sc.expr_core s.expr u).2.2.1
 rcases stW hs with⟨k,r,n,x⟩|⟨k,r,n,p⟩|⟨k,r,p,x⟩|⟨k,r,n,f,a⟩|⟨k,r,x,t,l⟩|⟨k,r,n,p,o,x⟩
 ·rw[En.stmt_eq,Sc.stmt_eq]
  simp only[k,bm,if_true,if_false]
  rcases mb 4 s.expr x h with⟨a1,⟨T1,a2⟩,a3⟩|⟨a1,a2⟩
  ·rw[if_pos a1,a3]
   obtain rfl:=a2.nil (hheldE.trans hh)
   exact oz a2 (m9 n) (by simp) (hheldE.trans hh)
  ·rw[if_neg a1]
   right
   exact⟨a1,(eE (by rw[a2];exact a1) _).trans a2⟩
 ·rw[En.stmt_eq,Sc.stmt_eq]
  simp only[k,bm,if_true,if_false]
  have hheldU:=(u.use_core s.place).2.2.1
  rcases kW h (p:=s.place) (jS p)with⟨a1,⟨T1,a2⟩,a3,a4⟩|⟨a1,a2⟩
  ·rw[if_pos a1,a3]
   obtain rfl:=a2.nil (hheldU.trans hh)
   exact oz a2 (m9 n) (by
    intro q hq
    simp at hq;subst hq
    exact xI (u.use_core s.place).1 a4) (hheldU.trans hh)
  ·rw[if_neg a1]
   right
   exact⟨a1,(eE (by rw[a2];exact a1) _).trans a2⟩
 ·rw[En.stmt_eq,Sc.stmt_eq]
  simp only[k,bm,if_true,if_false]
  rcases mb 4 s.expr x h with⟨a1,⟨T1,a2⟩,a3⟩|⟨a1,a2⟩
  ·rw[if_pos a1,a3]
   obtain rfl:=a2.nil (hheldE.trans hh)
   have hheldU:=((u.expr s.expr).1.use_core s.place).2.2.1
   rcases kW a2 (p:=s.place) (jS p)with⟨b1,⟨T2,b2⟩,b3,b4⟩|⟨b1,b2⟩
   ·obtain rfl:=b2.nil (hheldU.trans (hheldE.trans hh))
    rw[b3]
    simp only[if_pos b1]
    by_cases hq:eqB (u.expr s.expr).2.1 ((u.expr s.expr).1.use s.place).2.1=true
    ·left
     simp only[hq,if_true]
     exact⟨trivial,b2.same (cN.2 (cN.1 hq).symm)⟩
    ·right
     have hq':eqB (u.expr s.expr).2.1 ((u.expr s.expr).1.use s.place).2.1=false:=by simpa using hq
     have hq2:eqB ((u.expr s.expr).1.use s.place).2.1 (u.expr s.expr).2.1=false:=cC.2 fun e=>cC.1 hq' e.symm
     simp only[hq',aq,if_false]
     exact⟨by decide,by rw[iT b2.code,hq2];simp⟩
   ·right
    simp only[if_neg b1]
    exact⟨b1,(eM (by rw[b2];exact b1) _ _).trans b2⟩
  ·rw[if_neg a1]
   right
   refine⟨a1,?_⟩
   have h2:=(jt (by rw[a2];exact a1) s.place).trans a2
   exact(eM (by rw[h2];exact a1) _ _).trans h2
 ·rw[En.stmt_eq,Sc.stmt_eq]
  simp only[k,bm,if_true,if_false]
  exact AH n (nO a).1 h hh
 ·rw[En.stmt_eq,Sc.stmt_eq]
  simp only[k,bm,if_true,if_false]
  rcases qp x h with⟨a1,T1,a2⟩|⟨a1,a2⟩
  ·rw[if_pos a1]
   have se:=jB hu hh s.expr
   rw[<-eQ]at se
   obtain rfl:=a2.nil se.held
   have hhi:=se.hi
   generalize(u.number s.expr).1=v at*
   generalize(e.expr s.expr).1.num (e.expr s.expr).2=w at*
   have hvp:∀f∈v.p,f.type.okB=true:=by rw[se.p];exact hp
   unfold En.fork Sc.ways lI
   have hA:=ih s.thn t a2 se.good se.held hvp (by omega)
   have hpa:=jG s.thn v
   rcases hA with⟨b1,b2⟩|⟨b1,b2⟩
   ·rw[if_pos b1]
    have st:=iy d s.thn t v se.good se.held a2.lost0 hvp (by omega) b1
    obtain⟨g,hg⟩:=st.giv
    have gg:Sc.good {v with given:=(v.stmts s.thn).1.given}:=by
     rw[hg]
     exact⟨fun y hy=>by simp only[fY,se.good.ok y hy,dV],se.good.nd,se.good.len,se.good.hl,se.good.hp,se.good.lp,se.good.ll,se.good.ty⟩
    have rB:Rel {w with names:=(w.body s.thn).names} {v with given:=(v.stmts s.thn).1.given} []:=⟨a2.vars,b2.names,a2.code,a2.p,a2.ok,a2.tmp,a2.lost,gg.ok⟩
    have hB:=ih s.els l rB gg se.held hvp (by show v.vars.length+_<=_;omega)
    have hpb:=jG s.els {v with given:=(v.stmts s.thn).1.given}
    rcases hB with⟨c1,c2⟩|⟨c1,c2⟩
    ·rw[if_pos c1]
     left
     have st2:=iy d s.els l {v with given:=(v.stmts s.thn).1.given} gg se.held a2.lost0 hvp (by show v.vars.length+_<=_;omega) c1
     refine⟨rfl,?_⟩
     have hmon:=Mon.stmts s.thn v
     have hva:w.vars=v.vars:=by rw[a2.vars,dA]
     have hmj:=wh (vs:=v.vars) b2.ok.nd c2.ok.nd st.pre st2.pre hmon
     have hav:(w.body s.thn).vars=(v.stmts s.thn).1.vars:=by rw[b2.vars,dA]
     have hbv:(({w with names:=(w.body s.thn).names}:En).body s.els).vars=(({v with given:=(v.stmts s.thn).1.given}:Sc).stmts s.els).1.vars:=by rw[c2.vars,dA]
     have hcore:(gk v.vars (v.vars.map (·.name)) [(v.stmts s.thn).1.vars,(({v with given:=(v.stmts s.thn).1.given}:Sc).stmts s.els).1.vars]).map Vr.core=v.vars.map Vr.core:=qE _ _ _
     refine⟨?_,c2.names,?_,a2.p,a2.ok.core hcore,?_,a2.lost,?_⟩
     ·simp only[En.join,En.fail0,dA]
      rw[hav,hbv,hva];exact hmj
     ·rw[nf a2.code (by rw[b2.code];simp) (by rw[c2.code];simp),b2.code,c2.code];rfl
     ·refine⟨a2.tmp.len,a2.tmp.tmp,fun q hq=>?_⟩
      have:v.held=[]:=se.held
      simp only[this]at hq
      simp at hq
     ·intro y hy
      obtain⟨x,hx,ex,-⟩:=jZ hcore hy
      obtain⟨g',hg'⟩:=st2.giv
      have:=se.good.ok x hx
      rw[ex]at this
      show((({v with given:=(v.stmts s.thn).1.given}:Sc).stmts s.els).1.given.any fun m=>eqB m y.name)=true
      rw[hg']
      show(((v.stmts s.thn).1.given++g').any fun m=>eqB m y.name)=true
      rw[hg]
      simp only[fY,this,dV]
    ·rw[if_neg c1]
     right
     refine⟨c1,?_⟩
     rw[nf a2.code (by rw[b2.code];simp) (by rw[c2];exact hpb),b2.code,if_pos rfl]
     exact c2
   ·rw[if_neg b1]
    right
    refine⟨b1,?_⟩
    simp only[En.join]
    have hc0:(w.body s.thn).code≠0:=by rw[b2];exact b1
    have h1:(({w with vars:=fI w.vars (w.body s.thn).vars (({w with names:=(w.body s.thn).names}:En).body s.els).vars,names:=(({w with names:=(w.body s.thn).names}:En).body s.els).names}:En).fail0 (w.body s.thn).code).code=(v.stmts s.thn).2:=by
     simp only[En.fail0,dv,a2.code,if_true]
     rw[if_pos (by rw[b2];omega)]
     exact b2
    rw[jg (by rw[h1];exact b1)]
    exact h1
  ·rw[if_neg a1]
   right
   refine⟨a1,?_⟩
   unfold En.fork
   generalize(e.expr s.expr).1.num (e.expr s.expr).2=w at*
   have hw:w.code≠0:=by rw[a2];exact a1
   simp only[En.join]
   have key:∀(x:En) (c d:Int),x.code≠0->((x.fail0 c).fail0 d).code=x.code:=fun x c d hx=>by
    rw[jg (by rw[jg hx];exact hx),jg hx]
   exact(key _ _ _ hw).trans a2
 ·rw[En.stmt_eq,Sc.stmt_eq]
  simp only[k,bm,if_true,if_false]
  exact Ab n p o x h hh
theorem yk:∀d,vw d:=by
 intro d
 induction d with
 |zero=>intro l h;simp[bX]at h
 |succ d ih=>
  have many:∀l:List St,(∀s∈l,cU (bX d) s=true)->∀{e:En} {u:Sc},Rel e u []->u.good->u.held=[]->(∀f∈u.p,f.type.okB=true)->u.vars.length+l.length+200*d+150<=2^30->
   ((u.stmts l).2=0/\Rel (e.body l) (u.stmts l).1 [])\/((u.stmts l).2≠0/\(e.body l).code=(u.stmts l).2):=by
   intro l
   induction l with
   |nil=>intro _ e u h _ _ _ _;rw[eL,hZ];exact .inl ⟨rfl,h⟩
   |cons s l ihl=>
    intro hs e u h hu hh hp hn
    simp only[aR]at hn
    rw[dZ,ig,if_pos h.code]
    rcases zJ ih (hs s fA) h hu hh hp (by omega)with⟨a1,a2⟩|⟨a1,a2⟩
    ·rw[if_pos a1]
     have s1:=iy (d+1) [s] (by simp[bX,hs s fA]) u hu hh h.lost0 hp (by omega) (by rw[dZ,if_pos a1,eL])
     rw[dZ,if_pos a1,eL]at s1
     have hhi:=s1.hi
     simp only[aR,bM]at hhi
     exact ihl (fun x hx=>hs x (ew _ hx)) a2 s1.good s1.held (by rw[s1.p];exact hp) (by omega)
    ·rw[if_neg a1,sH (by rw[a2];exact a1)]
     exact .inr ⟨a1,a2⟩
  intro l hl e u h hu hh hp hn
  simp only[bX,aw,decide_eq_true_eq,aS]at hl
  exact many l hl.2 h hu hh hp (by omega)
theorem dD(H H':aj):H.swap H H'=H':=by
 ext b:1
 rw[bz]
 cases h':H'.get b with
 |some o=>rfl
 |none=>cases h:H.get b<;>simp
def r8(F:Ids)(m2 b:Nat):Prop:=b=m2\/∃c,(c=2\/c=3\/c=4\/c=5)/\b=F.err c
section
variable {P:Program}{F:Ids}{er:bK}
theorem cw.sub{H H':aj}{s:Nat}{v:Sc}{ORD HELD:AC}{m1 m2:Nat}(h:cw F er H s v ORD HELD m1 m2)(hs:∀c o,H.get c=some o->H'.get c=some o):cw F er H' s v ORD HELD m1 m2:=h.mono fun b hb=>by
 obtain⟨o,ho⟩:=aI.1 (h.mem hb)
 rw[ho,hs _ _ ho]
theorem cw.own{H:aj}{s:Nat}{v:Sc}{ORD HELD:AC}{m1 m2:Nat}(h:cw F er H s v ORD HELD m1 m2):¬r8 F m2 s/\¬r8 F m2 m1/\(∀b,cJ ORD b->¬r8 F m2 b)/\∀b,cJ HELD b->¬r8 F m2 b:=by
 refine⟨?_,?_,fun b hb=>?_,fun b hb=>?_⟩
 ·rintro(e|⟨c,hc,e⟩)
  ·exact h.blk_s.1.2 e
  ·exact h.far c hc e
 ·rintro(e|⟨c,hc,e⟩)
  ·exact h.ne e
  ·exact wy h.errs (by rw[h.names];simp) c hc e
 ·obtain⟨n,m,e⟩:=h.ord.tok hb
  rintro(rfl|⟨c,hc,rfl⟩)
  ·rw[h.given]at e;simp at e
  ·rw[h.errs c hc]at e;simp at e
 ·obtain⟨n,m,e⟩:=h.held.tok hb
  rintro(rfl|⟨c,hc,rfl⟩)
  ·rw[h.given]at e;simp at e
  ·rw[h.errs c hc]at e;simp at e
theorem oy{H:aj}{s1 m1 m2:Nat}{ORD:AC}(h1:H.get s1=none)(h2:H.get m1=none)(h3:∀b,cJ ORD b->H.get b=none){b:Nat}(hb:H.get b≠none)(hs:¬r8 F m2 b):¬cV F s1 ORD NIL m1 m2 b:=by
 rintro(rfl|rfl|rfl|h|h|h)
 ·exact hb h1
 ·exact hb h2
 ·exact hs (.inl rfl)
 ·exact hb (h3 b h)
 ·obtain⟨_,_,_,_,e⟩:=h;simp at e
 ·exact hs (.inr h)
theorem cw.share{H H3:aj}{s s1:Nat}{v w:Sc}{ORD HELD ORD1 HELD1:AC}{m1 m2 m1':Nat}(h:cw F er H s v ORD HELD m1 m2)(h1:cw F er H3 s1 w ORD1 HELD1 m1' m2)
(hk:∀b,(b=s\/b=m1\/cJ ORD b\/cJ HELD b)->H3.get b=H.get b):cw F er H3 s {v with given:=w.given} ORD HELD m1 m2 where
 obj:=(hk s (.inl rfl)).trans h.obj
 names:=(hk m1 (.inr (.inl rfl))).trans h.names
 given:=h1.given
 ord:=h.ord.mono fun b hb=>hk b (.inr (.inr (.inl hb)))
 held:=h.held.mono fun b hb=>hk b (.inr (.inr (.inr hb)))
 apart:=h.apart
 ne:=h.ne
 errs:=h1.errs
 far:=h.far
 hnil:=h.hnil
 onil:=h.onil
theorem c_kways(L:Lib P F)(s:Nat)(e:Ex)(t l:List St)(v:Sc)(hv:v.good)(hh:v.held=[])(ht:∀s',ScC P F er 113 [.ptr s' 0,.sl 15 none (St.encs t)] s' v fun q v'=>q=er.ac (v.stmts t).2/\v'=(v.stmts t).1)
(hl:(v.stmts t).2=0->∀s',ScC P F er 113 [.ptr s' 0,.sl 15 none (St.encs l)] s' {v with given:=(v.stmts t).1.given} fun q v'=>q=er.ac (({v with given:=(v.stmts t).1.given}:Sc).stmts l).2/\v'=(({v with given:=(v.stmts t).1.given}:Sc).stmts l).1):
 ScC P F er 233 [.ptr s 0,.agg (e.enc++[.sl 15 none (St.encs t),.sl 15 none (St.encs l)])] s v fun q v'=>q=er.ac (v.ways t l).2/\v'=(v.ways t l).1:=by
 intro H ORD HELD m1 m2 hE
 have hH:=hE.hnil hh
 subst hH
 refine(L.a Tryz.func233 y233) (by simp[y233]) ?_
 rw[Ex.enc_eq]
 simp only[y233,go_sem,rE,rA,rL,cq,df]
 intro b3 hb3
 have hS0:=hE.new hb3 (.cells [I e.kind,I e.num,S e.place.name,au e.place.path,.sl 5 none (Ex.encs e.kids),.sl 15 none (St.encs t),.sl 15 none (St.encs l)])
 have n3:=hE.notin hb3
 have g3:(H.set b3 (.cells [I e.kind,I e.num,S e.place.name,au e.place.path,.sl 5 none (Ex.encs e.kids),.sl 15 none (St.encs t),.sl 15 none (St.encs l)])).get b3=some (.cells [I e.kind,I e.num,S e.place.name,au e.place.path,.sl 5 none (Ex.encs e.kids),.sl 15 none (St.encs t),.sl 15 none (St.encs l)]):=ai _ _ _
 clear hb3 hE
 generalize H.set b3 _=H0 at*
 refine du (sG L s v ORD NIL m1 m2 _ hS0 hh hv.len) rfl (aj.sub_refl _) (fun h=>by simp at h) trivial ?_
 rintro q H1 ⟨s1,ORD1,m1a,rfl,hB1,up1,f1,f2,f3⟩ -
 rw[dD]
 have hS1:=hS0.sub up1
 have g31:=up1 _ _ g3
 simp only[go_sem,rE,rA,rL]
 refine du (sG L s v ORD NIL m1 m2 _ hS1 hh hv.len) rfl (aj.sub_refl _) (fun h=>by simp at h) trivial ?_
 rintro q H2 ⟨s2,ORD2,m1b,rfl,hB2,up2,k1,k2,k3⟩ -
 rw[dD]
 have hS2:=hS1.sub up2
 have hB1':=hB1.sub up2
 have g32:=up2 _ _ g31
 simp only[go_sem,rE,rA,rL,g32]
 have own0:=hS0.own
 have nsh3:¬r8 F m2 b3:=by
  rintro(h|h)
  ·exact n3 (.inr (.inr (.inl h)))
  ·exact n3 (.inr (.inr (.inr (.inr (.inr h)))))
 have prv:∀b,(b=s\/b=m1\/cJ ORD b\/cJ NIL b)->H0.get b≠none/\¬r8 F m2 b:=by
  rintro b (rfl|rfl|h|h)
  ·exact⟨hS0.mem (.inl rfl),own0.1⟩
  ·exact⟨hS0.mem (.inr (.inl rfl)),own0.2.1⟩
  ·exact⟨hS0.mem (.inr (.inr (.inr (.inl h)))),own0.2.2.1 b h⟩
  ·obtain⟨_,_,_,_,e⟩:=h;simp at e
 have up02:∀b,H0.get b≠none->H2.get b=H0.get b:=fun b hb=>by
  obtain⟨o,ho⟩:=aI.1 hb
  rw[ho,up2 _ _ (up1 _ _ ho)]
 have prv2:∀b,(b=s2\/b=m1b\/cJ ORD2 b\/cJ NIL b)->H1.get b=none/\H2.get b≠none:=by
  rintro b (rfl|rfl|h|h)
  ·exact⟨k1,hB2.mem (.inl rfl)⟩
  ·exact⟨k2,hB2.mem (.inr (.inl rfl))⟩
  ·exact⟨k3 b h,hB2.mem (.inr (.inr (.inr (.inl h))))⟩
  ·obtain⟨_,_,_,_,e⟩:=h;simp at e
 have not1:∀b,H0.get b≠none->¬r8 F m2 b->¬cV F s1 ORD1 NIL m1a m2 b:=fun b hb hs=>oy f1 f2 f3 hb hs
 have not12:∀b,H1.get b=none->¬cV F s1 ORD1 NIL m1a m2 b:=fun b hb h=>hB1.mem h hb
 refine cX (ht s1) hB1' (by simp only[go_sem,rE,aU,bB]) (.refl _) (fun h=>by simp at h) trivial ?_
 rintro q v1 ORDa HELDa H3 fp ⟨rfl,rfl⟩ hA hfr -
 have keepS:∀b,H0.get b≠none->¬r8 F m2 b->H3.get b=H0.get b:=fun b hb hs=>by
  obtain⟨o,ho⟩:=aI.1 hb
  rw[ho,(hfr b o (by rw[up02 b hb,ho]) (not1 b hb hs)).1]
 have hSa:=hS0.share hA fun b hb=>keepS b (prv b hb).1 (prv b hb).2
 have keep2:∀b,H1.get b=none->H2.get b≠none->H3.get b=H2.get b:=fun b hb hb2=>by
  obtain⟨o,ho⟩:=aI.1 hb2
  rw[ho,(hfr b o ho (not12 b hb)).1]
 have hB2a:=hB2.share hA fun b hb=>keep2 b (prv2 b hb).1 (prv2 b hb).2
 have g33:H3.get b3=_:=(keepS b3 (by rw[g3];simp) nsh3).trans g3
 by_cases hz:(v.stmts t).2=0
 ·rw[hz,dw]
  simp only[go_sem,rE,rA,rL,g33]
  refine cX (hl hz s2) hB2a (by simp only[go_sem,rE,aU,bB]) (.refl _) (fun h=>by simp at h) trivial ?_
  rintro q v2 ORDb HELDb H4 fp2 ⟨rfl,rfl⟩ hB hfr2 -
  have h01:∀b,H0.get b≠none->H1.get b≠none:=fun b hb=>by
   obtain⟨o,ho⟩:=aI.1 hb
   rw[up1 _ _ ho];simp
  have keepT:∀b,H1.get b≠none->H3.get b≠none->¬r8 F m2 b->H4.get b=H3.get b:=fun b hb hb3 hs=>by
   obtain⟨o,ho⟩:=aI.1 hb3
   rw[ho,(hfr2 b o ho (oy k1 k2 k3 hb hs)).1]
  have hSb:=hSa.share hB fun b hb=>keepT b (h01 b (prv b hb).1) (by rw[keepS b (prv b hb).1 (prv b hb).2];exact(prv b hb).1) (prv b hb).2
  have o1:H4.get s1=some (ScO (v.stmts t).1.p ORDa HELDa m1a m2 (v.stmts t).1.lost):=(keepT s1 (hB1.mem (.inl rfl)) (by rw[hA.obj];simp[ScO]) hA.own.1).trans hA.obj
  have o2:H4.get m1a=some (.map (di (v.stmts t).1.vars)):=(keepT m1a (hB1.mem (.inr (.inl rfl))) (by rw[hA.names];simp) hA.own.2.1).trans hA.names
  by_cases hz2:(({v with given:=(v.stmts t).1.given}:Sc).stmts l).2=0
  ·have hx:v.ways t l=({v with vars:=gk v.vars (v.vars.map (·.name)) [(v.stmts t).1.vars,(({v with given:=(v.stmts t).1.given}:Sc).stmts l).1.vars],given:=(({v with given:=(v.stmts t).1.given}:Sc).stmts l).1.given},0):=by
    unfold Sc.ways lI;rw[if_pos hz,if_pos hz2]
   rw[hx,hz2,dw]
   generalize hb2:(({v with given:=(v.stmts t).1.given}:Sc).stmts l)=B2 at*
   generalize ha2:v.stmts t=A2 at*
   simp only[go_sem,rE,rA,rL,ax,av,ay,dA,aR,bM,gq,gZ,aA,if_true,cq,df,bv]
   intro bt hbt
   have kt:∀c o,H4.get c=some o->(H4.set bt (.tail (2*1) (2*1))).get c=some o:=fun c o hc=>by rw[ae _ _ (al hc hbt)];exact hc
   have hch:bg 1 2 [AC.ptr s1 0,AC.ptr s2 0]=[[.ptr s1 0],[.ptr s2 0]]:=by simp[bg]
   rw[hch]
   have n1:¬cV F s ORD NIL m1 m2 s1:=fun h=>hS0.mem h f1
   have n2:¬cV F s ORD NIL m1 m2 m1a:=fun h=>hS0.mem h f2
   have n3':¬cV F s ORD NIL m1 m2 s2:=fun h=>hS1.mem h k1
   have n4:¬cV F s ORD NIL m1 m2 m1b:=fun h=>hS1.mem h k2
   have hj:=c_kjoin (er:=er) L s {v with given:=B2.1.given} hv.len [(s1,m1a,A2.1.vars),(s2,m1b,B2.1.vars)] (by simp) (H4.set bt (.tail (2*1) (2*1))) ORD NIL m1 m2 (hSb.sub kt) (by
    intro w hw
    rcases bi.1 hw with rfl|hw
    ·exact⟨⟨_,kt _ _ o1,rfl⟩,kt _ _ o2,n1,n2⟩
    ·rw[bQ.1 hw]
     exact⟨⟨_,kt _ _ hB.obj,rfl⟩,kt _ _ hB.names,n3',n4⟩)
   refine du (hj.args (xs':=[.ptr s 0,.sl 1 (some (bt,2*1,2*1)) [[.ptr s1 0],[.ptr s2 0]]]) ⟨.refl _,.tok _ _ _,trivial⟩) rfl (aj.sub_refl _) (fun h=>by simp at h) trivial ?_
   rintro q H5 ⟨rfl,ORD5,HELD5,hS5,-⟩ -
   rw[dD]
   simp only[go_sem,rE,rA,rL]
   exact ak (.refl _) (aj.sub_refl _) ⟨_,ORD5,HELD5,⟨rfl,rfl⟩,hS5⟩
  ·have hx:v.ways t l=({v with given:=(({v with given:=(v.stmts t).1.given}:Sc).stmts l).1.given},(({v with given:=(v.stmts t).1.given}:Sc).stmts l).2):=by
    unfold Sc.ways lI;rw[if_pos hz,if_neg hz2]
   rw[hx,bK.acn er hz2]
   simp only[go_sem,rE,rA,rL]
   exact ak (.refl _) (aj.sub_refl _) ⟨_,ORD,NIL,⟨rfl,rfl⟩,hSb⟩
 ·have hx:v.ways t l=({v with given:=(v.stmts t).1.given},(v.stmts t).2):=by
   unfold Sc.ways lI;rw[if_neg hz]
  rw[hx,bK.acn er hz]
  simp only[go_sem,rE,rA,rL]
  exact ak (.refl _) (aj.sub_refl _) ⟨_,ORD,NIL,⟨rfl,rfl⟩,hSa⟩
end
section
variable {P:Program}{F:Ids}{er:bK}
noncomputable def Sc.choice(v:Sc)(e:Ex)(t l:List St):Sc×Int:=if(v.number e).2=0 then(v.number e).1.ways t l else v.number e
theorem ze(L:Lib P F)(T:Tys F)(hC:eB P F er)(s:Nat)(e:Ex)(t l:List St)(he:e.okD 4=true)(v:Sc)(hv:v.good)
(hw:(v.number e).2=0->ScC P F er 233 [.ptr s 0,.agg (e.enc++[.sl 15 none (St.encs t),.sl 15 none (St.encs l)])] s (v.number e).1 fun q v'=>q=er.ac ((v.number e).1.ways t l).2/\v'=((v.number e).1.ways t l).1):
 ScC P F er 205 [.ptr s 0,.agg (e.enc++[.sl 15 none (St.encs t),.sl 15 none (St.encs l)])] s v fun q v'=>q=er.ac (v.choice e t l).2/\v'=(v.choice e t l).1:=by
 intro H ORD HELD m1 m2 hE
 refine(L.a Tryz.func205 y205) (by simp[y205]) ?_
 have hn:=sE (er:=er) L T hC s 4 (by omega) e he v hv
 rw[Ex.enc_eq]at hn hw⊢
 simp only[cq,df]at hw
 simp only[y205,go_sem,rE,rA,rL,cq,df]
 intro b3 hb3
 have hS3:=hE.new hb3 (.cells [I e.kind,I e.num,S e.place.name,au e.place.path,.sl 5 none (Ex.encs e.kids),.sl 15 none (St.encs t),.sl 15 none (St.encs l)])
 have n3:=hE.notin hb3
 have g3:(H.set b3 (.cells [I e.kind,I e.num,S e.place.name,au e.place.path,.sl 5 none (Ex.encs e.kids),.sl 15 none (St.encs t),.sl 15 none (St.encs l)])).get b3=some (.cells [I e.kind,I e.num,S e.place.name,au e.place.path,.sl 5 none (Ex.encs e.kids),.sl 15 none (St.encs t),.sl 15 none (St.encs l)]):=ai _ _ _
 clear hE hb3
 generalize H.set b3 _=H1 at*
 refine cX hn hS3 rfl (.refl _) (fun h=>by simp at h) trivial ?_
 rintro q v1 ORD1 HELD1 H2 fp ⟨rfl,rfl⟩ hS2 hfr -
 have k3:=hfr b3 _ g3 n3
 by_cases hz:(v.number e).2=0
 ·have hx:v.choice e t l=(v.number e).1.ways t l:=by unfold Sc.choice;rw[if_pos hz]
  rw[hx,hz,dw]
  simp only[go_sem,rE,rA,rL,k3.1]
  refine cX (hw hz) hS2 (by simp only[go_sem,rE,aU,bB]) (.refl _) (fun h=>by simp at h) trivial ?_
  rintro q v2 ORD2 HELD2 H4 fp2 ⟨rfl,rfl⟩ hS4 - -
  simp only[go_sem,rE,rA,rL]
  exact ak (.refl _) (aj.sub_refl _) ⟨_,ORD2,HELD2,⟨rfl,rfl⟩,hS4⟩
 ·have hx:v.choice e t l=v.number e:=by unfold Sc.choice;rw[if_neg hz]
  rw[hx,bK.acn er hz]
  simp only[go_sem,rE,rA,rL,k3.1]
  exact ak (.refl _) (aj.sub_refl _) ⟨_,ORD1,HELD1,⟨rfl,rfl⟩,hS2⟩
theorem c_kstmt(L:Lib P F)(T:Tys F)(hC:eB P F er)(s:Nat)(x:St)(Bd:List St->Bool)(hx:StW Bd x)(v:Sc)(hv:v.good)(hh:v.held=[])(hp:v.p.length<=2^30)
(hc:x.kind=5->ScC P F er 205 [.ptr s 0,.agg (x.expr.enc++[.sl 15 none (St.encs x.thn),.sl 15 none (St.encs x.els)])] s v fun q v'=>q=er.ac (v.choice x.expr x.thn x.els).2/\v'=(v.choice x.expr x.thn x.els).1):
 ScC P F er 169 [.ptr s 0,.agg x.enc] s v fun q v'=>q=er.ac (v.stmt x).2/\v'=(v.stmt x).1:=by
 intro H ORD HELD m1 m2 hE
 refine(L.a Tryz.func169 y169) (by simp[y169]) ?_
 have hso:=uY L x
 rw[Sc.stmt_eq]
 rw[St.enc_eq]at hso⊢
 simp only[y169,go_sem,rE,rA,rL]
 intro b3 hb3
 have hS3:=hE.new hb3 (.cells x.enc)
 rw[St.enc_eq]at hS3
 refine am hso rfl ?_
 clear hso hE hb3
 generalize H.set b3 _=H1 at*
 rcases hx with⟨k,r,n,e⟩|⟨k,r,n,p⟩|⟨k,r,p,e⟩|⟨k,r,n,f,a⟩|⟨k,r,e,t,l⟩|⟨k,r,n,p,o,e⟩
 ·rw[xv k,r]
  have he:=ow (er:=er) L T hC s 4 (by omega) x.expr e v hv
  have hty:=i9 x.expr hv
  have hg:=Sc.expr_good hv x.expr
  rw[Ex.enc_eq]at he
  simp only[k,bm,if_true,if_false]
  simp only[go_sem,rE,rA,rL,if_true,a9,aB]
  intro b5 hb5
  have hS5:=hS3.new hb5 (.cells [S x.name,I x.expr.kind,I x.expr.num,S x.expr.place.name,au x.expr.place.path,.sl 5 none (Ex.encs x.expr.kids)])
  have n5:=hS3.notin hb5
  refine cX he hS5 rfl (.refl _) (fun h=>by simp at h) trivial ?_
  rintro q v1 ORD1 HELD1 H2 fp ⟨rfl,rfl⟩ hS2 hfr -
  have k5:=hfr b5 _ (ai _ _ _) n5
  simp only[gR,Ty.enc_eq]
  generalize v.expr x.expr=w at*
  simp only[go_sem,rE,rA,rL,a9,aB]
  intro b6 hb6
  have d56:=al k5.1 hb6
  have hS6:=hS2.new hb6 (.cells [.sl 1 none (Ty.encs w.2.1.kids)])
  by_cases hz:w.2.2=0
  ·rw[if_pos hz,hz,dw]
   simp only[go_sem,rE,rA,rL,k5.1,d56]
   refine cX (mH L s w.1 hg.ok ⟨x.name,false,false,w.2.1,[],false⟩ rfl (by simp) hg.len) hS6 rfl ?_ (fun h=>by simp at h) trivial ?_
   ·exact⟨.refl _,.refl _,.agg ⟨⟨.refl _,rfl⟩,⟨.refl _,rfl⟩,⟨.refl _,rfl⟩,⟨.refl _,rfl⟩,⟨.refl _,rfl⟩,⟨.nil 2,rfl⟩,trivial⟩,trivial⟩
   rintro q v2 ORD2 HELD2 H4 fp2 ⟨rfl,rfl⟩ hS4 - -
   simp only[go_sem,rE,rA,rL]
   exact ak (.refl _) (aj.sub_refl _) ⟨_,ORD2,HELD2,⟨rfl,rfl⟩,hS4⟩
  ·rw[if_neg hz,bK.acn er hz]
   simp only[go_sem,rE,rA,rL,k5.1,d56]
   exact ak (.refl _) (aj.sub_refl _) ⟨_,ORD1,HELD1,⟨rfl,rfl⟩,hS6⟩
 ·rw[xu k,r]
  have hu:=nM L hC s v x.place hv (jj p)
  have hty:=iE hv x.place
  have hg:=ky hv x.place
  rw[Pl.enc]at hu
  simp only[k,bm,if_true,if_false]
  simp only[go_sem,rE,rA,rL,if_true,a9,aB,T.s12]
  intro b8 hb8
  have hS8:=hS3.new hb8 (.cells [S x.name,S x.place.name,au x.place.path])
  have n8:=hS3.notin hb8
  refine cX hu hS8 rfl (.refl _) (fun h=>by simp at h) trivial ?_
  rintro q v1 ORD1 HELD1 H2 fp ⟨rfl,rfl⟩ hS2 hfr -
  have k8:=hfr b8 _ (ai _ _ _) n8
  simp only[gR,Ty.enc_eq]
  generalize v.use x.place=w at*
  simp only[go_sem,rE,rA,rL,a9,aB]
  intro b9 hb9
  have d89:=al k8.1 hb9
  have hS9:=hS2.new hb9 (.cells [.sl 1 none (Ty.encs w.2.1.kids)])
  by_cases hz:w.2.2=0
  ·rw[if_pos hz,hz,dw]
   simp only[go_sem,rE,rA,rL,k8.1,d89,ax,av,ay,dA,aR,bM,gq,gZ,aA,if_true,cq,df,bv]
   intro bt hbt
   have hch:bg 2 1 [S x.place.name,au x.place.path]=[x.place.enc]:=by simp[bg,Pl.enc]
   rw[hch]
   refine cX (mH L s w.1 hg.ok ⟨x.name,true,false,w.2.1,[x.place],false⟩ rfl (by simp) hg.len) (hS9.new hbt _) rfl ?_ (fun h=>by simp at h) trivial ?_
   ·exact⟨.refl _,.refl _,.agg ⟨⟨.refl _,rfl⟩,⟨.refl _,rfl⟩,⟨.refl _,rfl⟩,⟨.refl _,rfl⟩,⟨.refl _,rfl⟩,⟨.tok _ _ _,rfl⟩,trivial⟩,trivial⟩
   rintro q v2 ORD2 HELD2 H4 fp2 ⟨rfl,rfl⟩ hS4 - -
   simp only[go_sem,rE,rA,rL]
   exact ak (.refl _) (aj.sub_refl _) ⟨_,ORD2,HELD2,⟨rfl,rfl⟩,hS4⟩
  ·rw[if_neg hz,bK.acn er hz]
   simp only[go_sem,rE,rA,rL,k8.1,d89]
   exact ak (.refl _) (aj.sub_refl _) ⟨_,ORD1,HELD1,⟨rfl,rfl⟩,hS9⟩
 ·rw[xr k,r]
  have he:=ow (er:=er) L T hC s 4 (by omega) x.expr e v hv
  have hty:=i9 x.expr hv
  have hg:=Sc.expr_good hv x.expr
  have hu:=nM L hC s (v.expr x.expr).1 x.place hg (jj p)
  rw[Ex.enc_eq]at he
  rw[Pl.enc]at hu
  simp only[k,bm,if_true,if_false]
  simp only[go_sem,rE,rA,rL,if_true,a9,aB,T.s13,T.s23]
  intro b11 hb11
  have hS11:=hS3.new hb11 (.cells [S x.place.name,au x.place.path,I x.expr.kind,I x.expr.num,S x.expr.place.name,au x.expr.place.path,.sl 5 none (Ex.encs x.expr.kids)])
  have n11:=hS3.notin hb11
  refine cX he hS11 rfl (.refl _) (fun h=>by simp at h) trivial ?_
  rintro q v1 ORD1 HELD1 H2 fp ⟨rfl,rfl⟩ hS2 hfr -
  have k11:=hfr b11 _ (ai _ _ _) n11
  simp only[gR,Ty.enc_eq]
  generalize v.expr x.expr=w at*
  simp only[go_sem,rE,rA,rL,a9,aB]
  intro b12 hb12
  have d1112:=al k11.1 hb12
  have hS12:=hS2.new hb12 (.cells [.sl 1 none (Ty.encs w.2.1.kids)])
  have n12:=hS2.notin hb12
  by_cases hz:w.2.2=0
  ·rw[if_pos hz,hz,dw]
   simp only[go_sem,rE,rA,rL,k11.1,d1112]
   refine cX hu hS12 rfl (.refl _) (fun h=>by simp at h) trivial ?_
   rintro q v2 ORD2 HELD2 H4 fp2 ⟨rfl,rfl⟩ hS4 hfr2 -
   have k12:=hfr2 b12 _ (ai _ _ _) n12
   have hsm:=lv L 4 w.2.1 (w.1.use x.place).2.1 hty
   rw[Ty.enc_eq,Ty.enc_eq]at hsm
   simp only[gR,Ty.enc_eq]
   generalize w.1.use x.place=u at*
   simp only[go_sem,rE,rA,rL,a9,aB]
   intro b14 hb14
   have d1214:=al k12.1 hb14
   have hS14:=hS4.new hb14 (.cells [.sl 1 none (Ty.encs u.2.1.kids)])
   by_cases hz2:u.2.2=0
   ·rw[if_pos hz2,hz2,dw]
    simp only[go_sem,rE,rA,rL,k12.1,d1214]
    refine am hsm rfl ?_
    cases hq:eqB w.2.1 u.2.1
    ·simp only[go_sem,rE,rA,rL,hS4.e3,al hS4.e3 hb14,aq,if_false]
     exact ak (.refl _) (aj.sub_refl _) ⟨_,ORD2,HELD2,⟨by rw[bK.acn er (by decide)];rfl,rfl⟩,hS14⟩
    ·simp only[go_sem,rE,rA,rL,if_true]
     exact ak (.refl _) (aj.sub_refl _) ⟨_,ORD2,HELD2,⟨rfl,rfl⟩,hS14⟩
   ·rw[if_neg hz2,bK.acn er hz2]
    simp only[go_sem,rE,rA,rL,k12.1,d1214]
    exact ak (.refl _) (aj.sub_refl _) ⟨_,ORD2,HELD2,⟨rfl,rfl⟩,hS14⟩
  ·rw[if_neg hz,bK.acn er hz]
   simp only[go_sem,rE,rA,rL,k11.1,d1112]
   exact ak (.refl _) (aj.sub_refl _) ⟨_,ORD1,HELD1,⟨rfl,rfl⟩,hS12⟩
 ·rw[xq k,r]
  obtain⟨a1,a2⟩:=nO a
  have hk:=c_kcall (er:=er) L T hC s x.name x.fn x.args a1 v hv (by rw[hh];simp;omega) hp (by omega)
  simp only[k,bm,if_true,if_false]
  simp only[go_sem,rE,rA,rL,if_true,a9,aB,T.s14,T.s24,T.s34]
  intro b15 hb15
  refine cX hk (hS3.new hb15 _) rfl (.refl _) (fun h=>by simp at h) trivial ?_
  rintro q v2 ORD2 HELD2 H4 fp2 ⟨rfl,rfl⟩ hS4 - -
  simp only[go_sem,rE,rA,rL]
  exact ak (.refl _) (aj.sub_refl _) ⟨_,ORD2,HELD2,⟨rfl,rfl⟩,hS4⟩
 ·rw[xn k,r]
  have hk:=hc k
  rw[Ex.enc_eq]at hk
  simp only[cq,df]at hk
  simp only[k,bm,if_true,if_false]
  rw[show(if(v.number x.expr).2=0 then(v.number x.expr).1.ways x.thn x.els else v.number x.expr)=v.choice x.expr x.thn x.els from rfl]
  simp only[go_sem,rE,rA,rL,if_true,a9,aB,T.s15,T.s25,T.s35,T.s45]
  intro b16 hb16
  refine cX hk (hS3.new hb16 _) rfl (.refl _) (fun h=>by simp at h) trivial ?_
  rintro q v2 ORD2 HELD2 H4 fp2 ⟨rfl,rfl⟩ hS4 - -
  simp only[go_sem,rE,rA,rL]
  exact ak (.refl _) (aj.sub_refl _) ⟨_,ORD2,HELD2,⟨rfl,rfl⟩,hS4⟩
 ·rw[xm k,r]
  have hk:=c_kpick (er:=er) L T hC s x.name x.place x.other x.expr (jj p) (jj o) 4 (by omega) e v hv
  rw[Ex.enc_eq]at hk
  simp only[Pl.enc,cq,df]at hk
  simp only[k,bm,if_true,if_false]
  simp only[go_sem,rE,rA,rL,if_true,a9,aB,T.s16,T.s26,T.s36,T.s46,T.s56]
  intro b17 hb17
  refine cX hk (hS3.new hb17 _) rfl (.refl _) (fun h=>by simp at h) trivial ?_
  rintro q v2 ORD2 HELD2 H4 fp2 ⟨rfl,rfl⟩ hS4 - -
  simp only[go_sem,rE,rA,rL]
  exact ak (.refl _) (aj.sub_refl _) ⟨_,ORD2,HELD2,⟨rfl,rfl⟩,hS4⟩
end
section
variable {P:Program}{F:Ids}{er:bK}
theorem yl{d:Nat}{s:St}(hs:cU (bX d) s=true){v:Sc}(hv:v.good)(hh:v.held=[])(hl:v.lost=false)(hp:∀f∈v.p,f.type.okB=true)(hn:v.vars.length+100*(d+1)<=2^30)(hz:(v.stmt s).2=0):v.step (v.stmt s).1 1:=by
 have:=iy (d+1) [s] (by simp[bX,hs]) v hv hh hl hp hn (by rw[dZ,if_pos hz,eL])
 rw[dZ,if_pos hz,eL]at this
 exact this
theorem AX(L:Lib P F)(T:Tys F)(hC:eB P F er):∀(d:Nat) (l:List St),bX d l=true->∀v:Sc,v.good->v.held=[]->v.lost=false->(∀f∈v.p,f.type.okB=true)->v.p.length<=2^30->v.vars.length+200*d<=2^30->∀s:Nat,
 ScC P F er 113 [.ptr s 0,.sl 15 none (St.encs l)] s v fun q v'=>q=er.ac (v.stmts l).2/\v'=(v.stmts l).1:=by
 intro d
 induction d with
 |zero=>intro l h;simp[bX]at h
 |succ d ih=>
  intro l hl v hv hh hlo hp hpl hn s H ORD HELD m1 m2 hE
  simp only[bX,aw,decide_eq_true_eq,aS]at hl
  obtain⟨hl40,hls⟩:=hl
  refine(L.a Tryz.func113 y113) (by simp[y113]) ?_
  simp only[y113,go_sem,rE,rA,rL,St.encs_map,ao]
  refine aV l.length (fun k E' H'=>E' 0=.ptr s 0/\E' 8=.sl 15 none (l.map St.enc)/\E' 9=I l.length/\E' 10=I k/\
   ∃w ORD' HELD',cw F er H' s w ORD' HELD' m1 m2/\v.stmts l=w.stmts (l.drop k)/\v.step w k)
   ⟨rfl,by simp only[go_sem,rE,St.encs_map],by simp only[go_sem,rE,St.encs_map,ao],rfl,v,ORD,HELD,hE,rfl,.refl hv hh⟩ ?_
  rintro k E' H' hk ⟨q0,q8,q9,q10,w,ORD',HELD',hS,hgv,hst⟩
  simp only[go_sem,rE,rA,rL,q9,q10]
  refine aH (fun hlt=>?_) (fun hge=>?_)
  ·have hk1:k<l.length:=by omega
   have w1:=aP (n:=(k:Int)+1) (by omega) (by omega)
   have hga:(l.map St.enc)[k]?=some l[k].enc:=by simp[hk1]
   have hgo:=hst.hi
   have hsk:=hls l[k] (az hk1)
   have hwp:∀f∈w.p,f.type.okB=true:=by rw[hst.p];exact hp
   rw[bO hk1,dZ]at hgv
   have hks:=c_kstmt (er:=er) L T hC s l[k] (bX d) (stW hsk) w hst.good hst.held (by rw[hst.p];exact hpl) (fun k5=>by
    rcases stW hsk with⟨k',-⟩|⟨k',-⟩|⟨k',-⟩|⟨k',-⟩|⟨-,r,e,t,l'⟩|⟨k',-⟩
    ·rw[k5]at k';simp at k'
    ·rw[k5]at k';simp at k'
    ·rw[k5]at k';simp at k'
    ·rw[k5]at k';simp at k'
    ·refine ze L T hC s l[k].expr l[k].thn l[k].els e w hst.good fun hz=>?_
     have se:=jB hst.good hst.held l[k].expr
     rw[<-eQ]at se
     have hhi:=se.hi
     have hnp:∀f∈(w.number l[k].expr).1.p,f.type.okB=true:=by rw[se.p];exact hwp
     have hnl:(w.number l[k].expr).1.p.length<=2^30:=by rw[se.p,hst.p];exact hpl
     have hlw:(w.number l[k].expr).1.lost=false:=by rw[se.lost,hst.lost];exact hlo
     refine c_kways L s l[k].expr l[k].thn l[k].els _ se.good se.held (fun s'=>ih l[k].thn t _ se.good se.held hlw hnp hnl (by omega) s') (fun hz1 s'=>?_)
     have s1:=iy d l[k].thn t _ se.good se.held hlw hnp (by omega) hz1
     obtain⟨g,hg⟩:=s1.giv
     refine ih l[k].els l' {(w.number l[k].expr).1 with given:=((w.number l[k].expr).1.stmts l[k].thn).1.given} ?_ se.held hlw hnp hnl (by show(w.number l[k].expr).1.vars.length+_<=_;omega) s'
     rw[hg]
     exact⟨fun y hy=>by simp only[fY,se.good.ok y hy,dV],se.good.nd,se.good.len,se.good.hl,se.good.hp,se.good.lp,se.good.ll,se.good.ty⟩
    ·rw[k5]at k';simp at k')
   rw[St.enc_eq]at hga hks
   simp only[go_sem,rE,rA,rL,q0,q8,q10,hga]
   intro b6 hb6
   refine cX hks (hS.new hb6 _) (by simp only[go_sem,rE,aU,bB,q0]) (.refl _) (fun h=>by simp at h) trivial ?_
   rintro q w2 ORD2 HELD2 H4 fp2 ⟨rfl,rfl⟩ hS4 - -
   by_cases hz:(w.stmt l[k]).2=0
   ·rw[if_pos hz]at hgv
    rw[hz,dw]
    have s1:=yl hsk hst.good hst.held (by rw[hst.lost];exact hlo) hwp (by omega) hz
    simp only[go_sem,rE,rA,rL,q0,q10,w1]
    exact⟨hk1,H4,aj.sub_refl _,q8,q9,rfl,_,ORD2,HELD2,hS4,hgv,hst.trans s1⟩
   ·rw[if_neg hz]at hgv
    rw[bK.acn er hz]
    simp only[go_sem,rE,rA,rL,q0,q10,w1]
    refine ak (.refl _) (aj.sub_refl _) ⟨_,ORD2,HELD2,⟨?_,rfl⟩,?_⟩
    ·rw[hgv,bK.acn er hz];rfl
    ·rw[hgv];exact hS4
  ·have hkk:k=l.length:=by omega
   subst hkk
   rw[kl,eL]at hgv
   simp only[go_sem,rE,rA,rL]
   exact ak (.refl _) (aj.sub_refl _) ⟨_,ORD',HELD',⟨by rw[hgv];rfl,rfl⟩,by rw[hgv];exact hS⟩
end
def cA(p:List Fu):Sc:=⟨p,[],[],[],false⟩
theorem ly(p:List Fu):(cA p).good:=⟨fun y hy=>by simp[cA]at hy,by simp[cA],by simp[cA],by simp[cA],by simp[cA],by simp[cA],by simp[cA],by simp[cA]⟩
theorem lW:∀(ps:List Pa) {v:Sc},v.good->v.held=[]->(∀p∈ps,p.okB=true)->v.vars.length+ps.length<=2^30->(dM v ps).2=0->v.step (dM v ps).1 ps.length
 |[],v,h,hh,_,_,_=>.refl h hh
 |p::ps,v,h,hh,hp,hn,hz=>by
  simp only[aR]at hn
  rw[dM]at hz⊢
  split at hz
  ·rename_i h0
   rw[if_pos h0]
   have hpt:p.type.okB=true:=by
    have:=hp p fA
    simp only[Pa.okB,aw]at this
    exact this.2
   have s1:=jW h hh (x:=p.vr) hpt (by simp[Pa.vr]) (by simp[Pa.vr]) (by omega) h0
   have:=s1.hi
   exact(s1.trans (lW ps s1.good s1.held (fun q hq=>hp q (ew _ hq)) (by omega) hz)).mono (by simp;omega)
  ·rename_i h0;exact absurd hz h0
noncomputable def ik(p:List Fu)(f:Fu):Int:=
 if(p.find? fun g=>eqB g.name f.name).isSome then 2
 else if(dM (cA p) f.params).2=0 then
  if((dM (cA p) f.params).1.stmts f.body).2=0 then rF (oK ((dM (cA p) f.params).1.stmts f.body).1 f) f
  else((dM (cA p) f.params).1.stmts f.body).2
 else(dM (cA p) f.params).2
structure FuW(f:Fu):Prop where
 name:bj f.name=true
 plen:f.params.length<=4
 type:f.type.okB=true
 body:bX 4 f.body=true
 num:bH f.body<=40
 params:∀p∈f.params,p.okB=true
 says:f.lent=false->f.says.okD 4=true
 gives:f.lent=true->f.gives.okB=true
theorem fuW{f:Fu}(h:f.okB=true):FuW f:=by
 simp only[Fu.okB,aw,decide_eq_true_eq,aS]at h
 obtain⟨h1,h2,h3,h4,h5,h6,h7⟩:=h
 refine⟨h1,h2,h3,h4,h5,h6,fun hl=>?_,fun hl=>?_⟩
 ·rw[hl]at h7;simp only[aq,if_false,aw]at h7;exact h7.2
 ·rw[hl]at h7;simp only[if_true,aw]at h7;exact h7.1
theorem iW{p:Pg}(h:eS p=true):p.length<=5/\∀f∈p,FuW f:=by
 simp only[eS,aw,decide_eq_true_eq,aS]at h
 exact⟨h.1,fun f hf=>fuW (h.2 f hf)⟩
section
variable {P:Program}{F:Ids}{er:bK}
def rP(F:Ids)(H Hk:aj)(s:Nat)(ORD HELD:AC)(m1 m2:Nat):Prop:=
 ∀b o,H.get b=some o->(∀c,(c=2\/c=3\/c=4\/c=5)->b≠F.err c)->Hk.get b=some o/\¬cV F s ORD HELD m1 m2 b
theorem rP.step{H Hk H':aj}{s m1 m2:Nat}{ORD HELD ORD' HELD':AC}(h:rP F H Hk s ORD HELD m1 m2)(hf:∀b o,Hk.get b=some o->¬cV F s ORD HELD m1 m2 b->H'.get b=some o/\¬cV F s ORD' HELD' m1 m2 b):
 rP F H H' s ORD' HELD' m1 m2:=fun b o hb hn=>hf b o (h b o hb hn).1 (h b o hb hn).2
theorem rP.sub{H Hk:aj}{s m1 m2:Nat}{v:Sc}{ORD HELD:AC}(h:rP F H Hk s ORD HELD m1 m2)(he:iA F er H)(hS:cw F er Hk s v ORD HELD m1 m2):H.sub Hk:=fun b o hb=>by
 rcases Classical.em (∃c,(c=2\/c=3\/c=4\/c=5)/\b=F.err c)with⟨c,hc,rfl⟩|hn
 ·rw[he c hc]at hb;rw[<-hb];exact hS.errs c hc
 ·exact(h b o hb fun c hc e=>hn ⟨c,hc,e⟩).1
theorem rP.begin{H Hk:aj}{s m1 m2:Nat}(hk:∀c o,H.get c=some o->Hk.get c=some o)(h1:H.get s=none)(h2:H.get m1=none)(h3:H.get m2=none):rP F H Hk s NIL NIL m1 m2:=fun b o hb hn=>by
 refine⟨hk b o hb,?_⟩
 rintro(rfl|rfl|rfl|h|h|⟨c,hc,e⟩)
 ·rw[h1]at hb;simp at hb
 ·rw[h2]at hb;simp at hb
 ·rw[h3]at hb;simp at hb
 ·obtain⟨_,_,_,_,e⟩:=h;simp at e
 ·obtain⟨_,_,_,_,e⟩:=h;simp at e
 ·exact hn c hc e
theorem c_kFn(L:Lib P F)(T:Tys F)(hC:eB P F er)(p:Pg)(hp:eS p=true)(i:Nat)(hi:i<p.length)(H:aj)(he:iA F er H):
 ACalls P 59 [.agg (Pg.enc p),I i] H fun q H'=>q=er.ac (ik (p.take i) p[i])/\H'=H:=by
 obtain⟨hpl,hpf⟩:=iW hp
 have W:=hpf p[i] (az hi)
 have hti:∀f∈p.take i,f.type.okB=true:=fun f hf=>(hpf f (cP hf)).type
 refine(L.a Tryz.func59 y59) (by simp[y59]) ?_
 have hga:(p.map Fu.enc)[i]?=some p[i].enc:=by simp[hi]
 simp only[y59,go_sem,rE,rA,rL,Pg.enc]
 intro b2 hb2
 rw[Fu.enc_eq]at hga
 simp only[go_sem,rE,rA,rL,hga]
 intro b5 hb5
 have d25:=al (ai _ _ _) hb5
 have hb5':H.get b5=none:=by rw[ae _ _ (Ne.symm d25)]at hb5;exact hb5
 have hsl:(0<=i/\i<=(p.map Fu.enc).length):=⟨gN _,by simp;omega⟩
 simp only[go_sem,rE,rA,rL,d25,if_pos hsl]
 rw[<-kR]
 have hpil:(p.take i).length<=2^30:=by rw[bI];omega
 generalize p[i]=f at*
 generalize p.take i=pi at*
 have k1:∀c o,H.get c=some o->((H.set b2 (.cells [.sl 12 none (p.map Fu.enc)])).set b5 (.cells f.enc)).get c=some o:=fun c o hc=>by
  rw[ae _ _ (al hc hb5'),ae _ _ (al hc hb2)];exact hc
 have he1:iA F er ((H.set b2 (.cells [.sl 12 none (p.map Fu.enc)])).set b5 (.cells f.enc)):=fun c hc=>k1 _ _ (he c hc)
 have g5:((H.set b2 (.cells [.sl 12 none (p.map Fu.enc)])).set b5 (.cells f.enc)).get b5=some (.cells f.enc):=ai _ _ _
 have e5:∀c,(c=2\/c=3\/c=4\/c=5)->b5≠F.err c:=fun c hc=>Ne.symm (al (he c hc) hb5')
 rw[<-Fu.enc_eq f]
 generalize((H.set b2 _).set b5 _)=H1 at*
 refine du (Be (er:=er) L pi H1 he1) rfl (aj.sub_refl _) (fun h=>by simp at h) trivial ?_
 rintro q H2 ⟨s,m1,m2,rfl,hS,up,f1,f2,f3⟩ -
 rw[dD]
 have hR:rP F H1 H2 s NIL NIL m1 m2:=.begin up f1 f2 f3
 have g5':=hR b5 _ g5 e5
 have fe:=Fu.enc_eq f
 have g52:=g5'.1
 rw[fe]at g52
 simp only[go_sem,rE,rA,rL,g52]
 refine cX (sF L s (cA pi) f.name hpil) hS (by simp only[go_sem,rE,aU,bB]) (.refl _) (fun h=>by simp at h) trivial ?_
 rintro q v1 ORD1 HELD1 H3 fp ⟨rfl,rfl⟩ hS3 hfr -
 have hR3:=hR.step hfr
 have fin:∀(Hk:aj) (w:Sc) (ORD HELD:AC),cw F er Hk s w ORD HELD m1 m2->rP F H1 Hk s ORD HELD m1 m2->H.sub Hk:=fun Hk w ORD HELD h1 h2 b o hb=>(h2.sub he1 h1) b o (k1 b o hb)
 have g53:=hR3 b5 _ g5 e5
 cases hf:pi.find? (fun g=>eqB g.name f.name)with
 |some g=>
  have hx:ik pi f=2:=by unfold ik;rw[hf];rfl
  rw[hx]
  simp only[lu,show(cA pi).p=pi from rfl,hf,Fu.enc_eq]
  simp only[go_sem,nD,rE,rA,rL,a9,aB]
  intro b7 hb7
  simp only[go_sem,rE,rA,rL,hS3.e2,al hS3.e2 hb7]
  exact ak (.refl _) (fun b o hb=>by rw[ae _ _ (al (fin _ _ _ _ hS3 hR3 b o hb) hb7)];exact fin _ _ _ _ hS3 hR3 b o hb) ⟨by rw[bK.acn er (by decide)];rfl,rfl⟩
 |none=>
  have hx:ik pi f=if(dM (cA pi) f.params).2=0 then
   if((dM (cA pi) f.params).1.stmts f.body).2=0 then rF (oK ((dM (cA pi) f.params).1.stmts f.body).1 f) f
   else((dM (cA pi) f.params).1.stmts f.body).2
   else(dM (cA pi) f.params).2:=by unfold ik;rw[hf];rfl
  simp only[lu,show(cA pi).p=pi from rfl,hf]
  simp only[go_sem,nD,rE,rA,rL,a9,aB]
  intro b7 hb7
  have d57:=al g53.1 hb7
  have g53':=g53.1
  rw[fe]at g53'
  simp only[go_sem,rE,rA,rL,d57,g53']
  have hpk:=zd (er:=er) L s (cA pi) (ly pi).ok f (by have:=W.plen;simp[cA];omega)
  rw[fe]at hpk
  have hS7:=hS3.new hb7 (.cells [S .empty,NIL,B false,NIL,NIL,I 0,I 0,S .empty,NIL,NIL,S .empty,NIL])
  have hR7:rP F H1 (H3.set b7 (.cells [S .empty,NIL,B false,NIL,NIL,I 0,I 0,S .empty,NIL,NIL,S .empty,NIL])) s ORD1 HELD1 m1 m2:=fun b o hb hn=>⟨by rw[ae _ _ (al (hR3 b o hb hn).1 hb7)];exact(hR3 b o hb hn).1,(hR3 b o hb hn).2⟩
  refine cX hpk hS7 (by simp only[go_sem,rE,aU,bB]) (.refl _) (fun h=>by simp at h) trivial ?_
  rintro q v2 ORD2 HELD2 H4 fp2 ⟨rfl,rfl⟩ hS4 hfr4 -
  have hR4:=hR7.step hfr4
  have g54:=(hR4 b5 _ g5 e5).1
  rw[fe]at g54
  by_cases hz1:(dM (cA pi) f.params).2=0
  ·rw[if_pos hz1]at hx
   rw[hz1,dw]
   simp only[go_sem,rE,rA,rL,g54]
   have st:=lW f.params (ly pi) rfl W.params (by have:=W.plen;simp[cA];omega) hz1
   have hhi:=st.hi
   have hpl4:=W.plen
   have h0:(cA pi).vars.length=0:=rfl
   refine cX (AX (er:=er) L T hC 4 f.body W.body _ st.good st.held (by rw[st.lost];rfl) (by rw[st.p];exact hti) (by rw[st.p];exact hpil) (by omega) s) hS4 (by simp only[go_sem,rE,aU,bB]) (.refl _) (fun h=>by simp at h) trivial ?_
   rintro q v3 ORD3 HELD3 H5 fp3 ⟨rfl,rfl⟩ hS5 hfr5 -
   have hR5:=hR4.step hfr5
   have g55:=(hR5 b5 _ g5 e5).1
   rw[fe]at g55
   by_cases hz2:((dM (cA pi) f.params).1.stmts f.body).2=0
   ·rw[if_pos hz2]at hx
    rw[hz2,dw]
    simp only[go_sem,rE,rA,rL,g55]
    have st2:=iy 4 f.body W.body _ st.good st.held (by rw[st.lost];rfl) (by rw[st.p];exact hti) (by omega) hz2
    have hok:=c_kout (er:=er) L T hC s f (by
     cases hl:f.lent
     ·simp only[aq,if_false];exact W.says hl
     ·simp only[if_true];exact jj (W.gives hl)) _ st2.good
    rw[fe]at hok
    refine cX hok hS5 (by simp only[go_sem,rE,aU,bB]) (.refl _) (fun h=>by simp at h) trivial ?_
    rintro q v4 ORD4 HELD4 H6 fp4 ⟨rfl,rfl⟩ hS6 hfr6 -
    simp only[go_sem,rE,rA,rL]
    exact ak (.refl _) (fin _ _ _ _ hS6 (hR5.step hfr6)) ⟨by rw[hx];rfl,rfl⟩
   ·rw[if_neg hz2]at hx
    rw[bK.acn er hz2]
    simp only[go_sem,rE,rA,rL,g55]
    exact ak (.refl _) (fin _ _ _ _ hS5 hR5) ⟨by rw[hx,bK.acn er hz2];rfl,rfl⟩
  ·rw[if_neg hz1]at hx
   rw[bK.acn er hz1]
   simp only[go_sem,rE,rA,rL,g54]
   exact ak (.refl _) (fin _ _ _ _ hS4 hR4) ⟨by rw[hx,bK.acn er hz1];rfl,rfl⟩
end
theorem qH:∀(ps:List Pa) {e:En} {u:Sc},Rel e u []->u.held=[]->(∀p∈ps,p.okB=true)->
 ((dM u ps).2=0/\Rel (e.givens ps) (dM u ps).1 [])\/((dM u ps).2≠0/\(e.givens ps).code=(dM u ps).2)
 |[],e,u,h,_,_=>.inl ⟨rfl,h⟩
 |p::ps,e,u,h,hh,hp=>by
  have hpo:=hp p fA
  simp only[Pa.okB,aw]at hpo
  rw[dM,En.givens]
  have keep:∀(l:List Pa) {v:En},v.code≠0->(v.givens l).code=v.code:=by
   intro l
   induction l with
   |nil=>intro v _;rfl
   |cons q l ih=>
    intro v hv
    rw[En.givens]
    have h1:=eE hv q.vr
    rw[ih (by rw[h1];exact hv)];exact h1
  rcases oz h (x:=p.vr) (m9 hpo.1) (by simp[Pa.vr]) hh with⟨a1,a2⟩|⟨a1,a2⟩
  ·rw[if_pos a1]
   have hheld:(eI u p.vr).1.held=[]:=by unfold eI;split<;>exact hh
   exact qH ps a2 hheld fun q hq=>hp q (ew _ hq)
  ·rw[if_neg a1]
   exact .inr ⟨a1,(keep ps (by rw[a2];exact a1)).trans a2⟩
theorem Af:∀(vs:List Vr),mT vs->∀i (h:i<vs.length),fz vs vs[i].name=(vs[i].lent&&(vs[i].param||vs[i].loans.all fun q=>fz vs q.name)):=by
 intro vs
 induction vs using ud with
 |nil=>intro _ i h;simp at h
 |snoc vs x ih=>
  intro hok i hi
  have ihv:=ih hok.front
  have hx:x.name∉vs.map (·.name):=by
   have:=hok.nd
   rw[bL,fP]at this
   intro hm
   exact this.2.2 _ hm x.name (by simp) rfl
  have iK:∀k (hk:k<(vs++[x]).length),∀q∈(vs++[x])[k].loans,q.name≠x.name:=fun k hk q hq e=>by
   obtain⟨j,hj,hn⟩:=hok.up k hk q hq
   simp at hk
   have hjl:j<vs.length:=by omega
   rw[aO hjl,a6 hjl]at hn
   simp at hn
   exact hx (aZ.2 ⟨vs[j],az hjl,hn.trans e⟩)
  have out_ne:∀n,n≠x.name->fz (vs++[x]) n=fz vs n:=fun n hn=>by rw[jH,if_neg (fun h=>hn (cN.1 h))]
  have all_eq:∀k (hk:k<(vs++[x]).length),((vs++[x])[k].loans.all fun q=>fz (vs++[x]) q.name)=(vs++[x])[k].loans.all fun q=>fz vs q.name:=fun k hk=>by
   rw[aX,aS,aS]
   constructor
   ·intro h q hq;rw[<-out_ne _ (iK k hk q hq)];exact h q hq
   ·intro h q hq;rw[out_ne _ (iK k hk q hq)];exact h q hq
  rw[all_eq i hi]
  by_cases hlt:i<vs.length
  ·have e:(vs++[x])[i]=vs[i]:=dm hlt
   have hne:vs[i].name≠x.name:=fun e'=>hx (aZ.2 ⟨vs[i],az hlt,e'⟩)
   rw[e,out_ne _ hne]
   exact ihv i hlt
  ·have hil:i=vs.length:=by simp at hi;omega
   subst hil
   have e:(vs++[x])[vs.length]=x:=by simp
   rw[e,jH,if_pos (dT _)]
   cases x.param<;>cases x.lent<;>simp
theorem xi{vs:List Vr}{n:ByteArray}{i:Nat}(h:fM vs n=some i):∃hi:i<vs.length,vs[i].name=n:=by
 unfold fM at h
 obtain⟨hl,hn,-⟩:=bN.1 h
 exact⟨hl,by simpa using hn⟩
theorem rW{vs:List Vr}(hnd:(vs.map (·.name)).Nodup){j:Nat}(hj:j<vs.length){n:ByteArray}(hn:vs[j].name=n):fM vs n=some j:=by
 cases h:fM vs n with
 |none=>
  unfold fM at h
  rw[ip]at h
  have:=h _ (az hj)
  simp[hn]at this
 |some i=>
  obtain⟨hi,e⟩:=xi h
  rw[uv hnd hi hj (e.trans hn.symm)]
theorem outN_eq{vs:List Vr}(hok:mT vs):∀(i n:Nat) (p:Pl),fM vs p.name=some i->i<n->mS vs n p=fz vs p.name:=by
 intro i
 induction i using Nat.strongRecOn with
 |_ i ih=>
  intro n p hp hn
  obtain⟨hi,hname⟩:=xi hp
  cases n with
  |zero=>omega
  |succ n=>
   rw[mS,hp]
   simp only[a6 hi]
   rw[<-hname,Af vs hok i hi]
   congr 1
   congr 1
   rw[aX,aS,aS]
   have key:∀q∈vs[i].loans,mS vs n q=fz vs q.name:=fun q hq=>by
    obtain⟨j,hj,e⟩:=hok.up i hi q hq
    have hjl:j<vs.length:=by omega
    rw[a6 hjl]at e
    simp at e
    exact ih j hj n q (rW hok.nd hjl e) (by omega)
   constructor
   ·intro h q hq;rw[<-key q hq];exact h q hq
   ·intro h q hq;rw[key q hq];exact h q hq
theorem vZ{e:En}{u:Sc}(h:Rel e u []){p:Pl}(hp:∃x∈u.vars,x.name=p.name):e.outside p=fz u.vars p.name:=by
 have hv:e.vars=u.vars:=by rw[h.vars,dA]
 unfold En.outside
 rw[hv]
 obtain⟨x,hx,hn⟩:=hp
 obtain⟨j,hj,rfl⟩:=bk.1 hx
 exact outN_eq h.ok j _ p (rW h.ok.nd hj hn) hj
noncomputable def En.outCode(e:En)(f:Fu):Int:=
 if f.lent=true then(if((e.use f.gives).1.same (e.use f.gives).2 f.type).code=0/\((e.use f.gives).1.same (e.use f.gives).2 f.type).outside f.gives=false then 5 else((e.use f.gives).1.same (e.use f.gives).2 f.type).code)
 else((e.expr f.says).1.same (e.expr f.says).2 f.type).code
noncomputable def jO(p:Pg)(i:Nat):Int:=match p[i]? with
 |none=>0
 |some f=>if(j4 p f.name i).isSome then 2
  else if 0<((cL p i).body f.body).code then((cL p i).body f.body).code
  else((cL p i).body f.body).outCode f
theorem out_sim{f:Fu}(W:FuW f){e:En}{u:Sc}(h:Rel e u [])(hh:u.held=[]):e.outCode f=rF (oK u f) f:=by
 unfold En.outCode rF oK
 cases hl:f.lent
 ·simp only[aq,if_false]
  rcases mb 4 f.says (W.says hl) h with⟨a1,⟨T1,a2⟩,a3⟩|⟨a1,a2⟩
  ·rw[if_pos a1,iT a2.code,a3]
   simp
  ·rw[if_neg a1]
   exact(eM (by rw[a2];exact a1) _ _).trans a2
 ·simp only[if_true]
  rcases kW h (p:=f.gives) (jS (W.gives hl))with⟨a1,⟨T1,a2⟩,a3,a4⟩|⟨a1,a2⟩
  ·rw[if_pos a1,a3]
   obtain rfl:=a2.nil ((u.use_core f.gives).2.2.1.trans hh)
   by_cases hq:eqB (u.use f.gives).2.1 f.type=true
   ·have r:=a2.same hq
    have ho:=vZ r (xI (u.use_core f.gives).1 a4)
    rw[if_pos hq,r.code,ho]
    cases fz (u.use f.gives).1.vars f.gives.name<;>simp
   ·have hc:=iT a2.code (u.use f.gives).2.1 f.type
    rw[if_neg hq]at hc
    rw[if_neg hq,hc]
    simp
  ·rw[if_neg a1]
   have hc:=(eM (by rw[a2];exact a1) (e.use f.gives).2 f.type).trans a2
   rw[hc,if_neg (fun hx=>a1 hx.1)]
theorem AF{p:Pg}(hp:eS p=true){i:Nat}(hi:i<p.length):jO p i=ik (p.take i) p[i]/\0<=ik (p.take i) p[i]:=by
 obtain⟨hpl,hpf⟩:=iW hp
 have W:=hpf p[i] (az hi)
 have hti:∀f∈p.take i,f.type.okB=true:=fun f hf=>(hpf f (cP hf)).type
 have hfind:=xE p p[i].name i
 unfold jO ik cL
 rw[a6 hi]
 simp only
 have hsome:((p.take i).find? fun g=>eqB g.name p[i].name).isSome=(j4 p p[i].name i).isSome:=by
  rw[hfind]
  cases h:j4 p p[i].name i with
  |none=>rfl
  |some k=>
   unfold j4 at h
   obtain⟨hl,-⟩:=bN.1 h
   have:k<p.length:=by rw[bI]at hl;omega
   simp[this]
 rw[hsome]
 have hr0:Rel (⟨p,i,[],[],0⟩:En) (cA (p.take i)) []:=⟨rfl,rfl,rfl,rfl,⟨by simp[cA],by simp[cA],fun j hj=>by simp[cA]at hj⟩,⟨rfl,fun j hj=>by simp at hj,fun q hq=>by simp[cA]at hq⟩,rfl,fun y hy=>by simp[cA]at hy⟩
 have gpos:∀(ps:List Pa) (v:Sc),0<=(dM v ps).2:=by
  intro ps
  induction ps with
  |nil=>intro v;simp[dM]
  |cons q ps ih=>
   intro v
   rw[dM]
   split
   ·exact ih _
   ·exact lX _ _
 have opos:∀(u:Sc) (f:Fu),0<=rF (oK u f) f:=by
  intro u f
  unfold rF
  split
  ·split
   ·split<;>simp
   ·simp
  ·unfold oK
   split
   ·exact kX _ _
   ·exact jX _ _
 split
 ·exact⟨rfl,by simp⟩
 ·have hg:=gpos p[i].params (cA (p.take i))
  rcases qH p[i].params hr0 rfl W.params with⟨a1,a2⟩|⟨a1,a2⟩
  ·rw[if_pos a1]
   have st:=lW p[i].params (ly (p.take i)) rfl W.params (by have:=W.plen;simp[cA];omega) a1
   have hhi:=st.hi
   have hpl4:=W.plen
   have h0:(cA (p.take i)).vars.length=0:=rfl
   have hs:=jG p[i].body (dM (cA (p.take i)) p[i].params).1
   rcases yk 4 p[i].body W.body a2 st.good st.held (by rw[st.p];exact hti) (by omega)with⟨b1,b2⟩|⟨b1,b2⟩
   ·rw[if_pos b1,b2.code]
    have st2:=iy 4 p[i].body W.body _ st.good st.held (by rw[st.lost];rfl) (by rw[st.p];exact hti) (by omega) b1
    exact⟨by rw[if_neg (by simp)];exact out_sim W b2 st2.held,opos _ _⟩
   ·rw[if_neg b1,b2,if_pos (by omega)]
    exact⟨rfl,hs⟩
  ·rw[if_neg a1]
   have hc:((⟨p,i,[],[],0⟩:En).givens p[i].params).code≠0:=by rw[a2];exact a1
   rw[sH hc,a2,if_pos (by omega)]
   exact⟨rfl,hg⟩
section
variable {P:Program}{F:Ids}
theorem Bf(L:Lib P F)(T:Tys F)(f:Fu)(hc:bq f.body<=2^20)(hs:∀s∈f.body,s.sm 3):cI P 58 [.agg f.enc] (B f.okB):=by
 refine(L.a Tryz.func58 y58) (by simp[y58]) ?_
 rw[Fu.enc_eq]
 simp only[y58,go_sem,rE]
 intro b hb
 obtain⟨cs,hcs⟩:∃cs,cs=[S f.name,.sl 3 none (f.params.map Pa.enc),B f.lent,.sl 1 none (Ty.encs f.type.kids),.sl 15 none (St.encs f.body),I f.says.kind,I f.says.num,S f.says.place.name,au f.says.place.path,.sl 5 none (Ex.encs f.says.kids),S f.gives.name,au f.gives.path]:=⟨_,rfl⟩
 have g1:(aj.empty.set b (.cells cs)).get b=some (.cells cs):=ai _ _ _
 rw[hcs]at g1
 generalize aj.empty.set b (.cells [S f.name,.sl 3 none (f.params.map Pa.enc),B f.lent,.sl 1 none (Ty.encs f.type.kids),.sl 15 none (St.encs f.body),I f.says.kind,I f.says.num,S f.says.place.name,au f.says.place.path,.sl 5 none (Ex.encs f.says.kids),S f.gives.name,au f.gives.path])=H1 at*
 have back:∀(E:Env) (H:aj) (c:Bool),E 2=B c->c=f.okB->bh.post [.slot 2] (fun q H'=>q=B f.okB/\H'=aj.empty) .ret E H:=by
  rintro E H c e4 rfl
  exact ak (.refl _) (aj.sub_empty _) ⟨e4,rfl⟩
 have cut:(!bj f.name||decide (4<f.params.length)||!f.type.okB)=true->f.okB=false:=by
  intro h
  simp only[dh,dF,decide_eq_true_eq]at h
  rcases h with(h|h)|h
  ·simp[Fu.okB,h]
  ·simp[Fu.okB,show ¬f.params.length<=4 by omega]
  ·simp[Fu.okB,h]
 refine am (gW L f.name) (rfl) ?_
 cases hn:bj f.name
 ·simp only[go_sem,rE,rA]
  exact back _ _ false (rfl) (cut (by simp[hn])).symm
 by_cases h4:(f.params.length:Int)>4
 ·simp only[go_sem,rE,rA,g1,ao,h4,decide_true]
  exact back _ _ false (rfl) (cut (by simp;omega)).symm
 simp only[go_sem,rE,rA,rL,g1,ao,h4,decide_false]
 refine am (mL L f.type) (by simp only[go_sem,rE,Ty.enc_eq]) ?_
 cases ht:f.type.okB
 ·simp only[go_sem,rE,rA]
  exact back _ _ false (rfl) (cut (by simp[ht])).symm
 have hpre:f.okB=(bX 4 f.body&&(decide (bH f.body<=40)&&(f.params.all Pa.okB&&(if f.lent then f.gives.okB&&f.says.noneB else f.gives.noneB&&f.says.okD 4)))):=by
  simp only[Fu.okB,hn,ht,show decide (f.params.length<=4)=true from decide_eq_true (by omega),bT]
 simp only[go_sem,rE,rA,g1,ao]
 refine aV f.params.length (fun k E H=>E 1=.ptr b 0/\E 23=.sl 3 none (f.params.map Pa.enc)/\E 24=I f.params.length/\E 25=I k/\H.get b=some (.cells cs)/\(f.params.take k).all Pa.okB=true) ⟨rfl,rfl,rfl,rfl,by rw[hcs];exact g1,by simp⟩ ?_
 clear g1
 rintro k E H hk ⟨e1,e23,e24,e25,g1,hall⟩
 rw[hcs]at g1
 simp only[wp_seq,go_sem,rE,rA,e24,e25]
 refine aH (fun hlt=>?_) (fun hge=>?_)
 ·have hk1:k<f.params.length:=by omega
  have w1:=aP (n:=(k:Int)+1) (by omega) (by omega)
  have hgp:(f.params.map Pa.enc)[k]?=some [S f.params[k].name,B f.params[k].lent,.sl 1 none (Ty.encs f.params[k].type.kids)]:=by simp[hk1,Pa.enc,Ty.enc_eq]
  have no:f.params[k].okB=false->f.okB=false:=by
   intro h
   have:f.params.all Pa.okB=false:=by rw[dj];exact⟨_,az hk1,by rw[h];exact fB⟩
   rw[hpre,this,aL,aM,aM]
  have yes:f.params[k].okB=true->(f.params.take (k+1)).all Pa.okB=true:=by
   intro h
   rw[aC hk1,eD,hall];simp[h]
  have goE:f.params[k].okB=(bj f.params[k].name&&f.params[k].type.okB):=rfl
  generalize f.params[k]=p at*
  simp only[go_sem,rE,rA,rL,e23,e25,hgp]
  intro b4 hb4
  have d4:=al g1 hb4
  refine am (gW L p.name) (rfl) ?_
  cases hpn:bj p.name
  ·simp only[go_sem,rE,rA]
   exact back _ _ false (rfl) (by rw[no (by rw[goE,hpn];rfl)])
  simp only[go_sem,rE,rA,rL]
  refine am (mL L p.type) (by simp only[go_sem,rE,Ty.enc_eq]) ?_
  cases hpt:p.type.okB
  ·simp only[go_sem,rE,rA]
   exact back _ _ false (rfl) (by rw[no (by rw[goE,hpn,hpt];rfl)])
  simp only[go_sem,rE,rA,e25,w1]
  exact⟨hk1,_,aj.sub_refl _,e1,e23,e24,rfl,by simp only[go_sem,d4,hcs,g1],yes (by rw[goE,hpn,hpt];rfl)⟩
 ·have hkk:k=f.params.length:=by omega
  subst hkk
  rw[aW]at hall
  rw[hall,bT]at hpre
  simp only[go_sem,rE]
  intro b5 hb5
  have d5:=al g1 hb5
  simp only[go_sem,rE,rA,rL,e1,g1,d5,Ne.symm d5]
  refine sR (py L T 4 (by omega) f.body 40 b5 hc (by omega) (by omega)) (rfl) (ai _ _ _) (by simp) trivial ?_
  rw[iBody4 hs]
  generalize(fi 4 f.body 40).2=lf
  have hf:(bX 4 f.body&&decide (bH f.body<=40))=false->f.okB=false:=by
   intro h
   rw[hpre,<-Bool.and_assoc,h,aL]
  have htr:(bX 4 f.body&&decide (bH f.body<=40))=true->f.okB=(if f.lent then f.gives.okB&&f.says.noneB else f.gives.noneB&&f.says.okD 4):=by
   intro h
   rw[hpre,<-Bool.and_assoc,h,bT]
  generalize(bX 4 f.body&&decide (bH f.body<=40))=c at*
  clear hpre
  cases c
  ·simp only[go_sem,rE,rA]
   exact back _ _ false (rfl) (hf rfl).symm
  have htr:=htr rfl
  simp only[go_sem,rE,rA,rL,e1,g1,d5,Ne.symm d5]
  cases hl:f.lent
  ·rw[hl]at htr
   simp only[go_sem,rE,rA,rL,e1,g1,d5,Ne.symm d5]
   refine am (ja L T 4 (by omega) f.says) (by simp only[go_sem,rE,Ex.enc_eq];rfl) ?_
   cases hg:f.says.okD 4
   ·simp only[go_sem,rE,rA]
    exact back _ _ false (rfl) (by rw[htr,hg];simp)
   ·simp only[go_sem,rE,rA,rL,e1,g1,d5,Ne.symm d5]
    refine am (gU L f.gives) (by simp only[go_sem,rE,Pl.enc]) ?_
    simp only[go_sem,rE,rA]
    exact back _ _ f.gives.noneB (rfl) (by rw[htr,hg];simp)
  ·rw[hl]at htr
   simp only[go_sem,rE,rA,rL,e1,g1,d5,Ne.symm d5]
   refine am (gV L f.gives) (by simp only[go_sem,rE,Pl.enc]) ?_
   cases hg:f.gives.okB
   ·simp only[go_sem,rE,rA]
    exact back _ _ false (rfl) (by rw[htr,hg];rfl)
   ·simp only[go_sem,rE,rA,rL,e1,g1,d5,Ne.symm d5]
    refine am (gC L f.says) (by simp only[go_sem,rE,Ex.enc_eq]) ?_
    simp only[go_sem,rE,rA]
    exact back _ _ f.says.noneB (rfl) (by rw[htr,hg];rfl)
theorem qV(L:Lib P F)(T:Tys F)(p:Pg)(hc:∀f∈p,bq f.body<=2^20/\∀s∈f.body,s.sm 3):cI P 28 [.agg (Pg.enc p)] (B (eS p)):=by
 refine(L.a Tryz.func28 y28) (by simp[y28]) ?_
 simp only[y28,go_sem,rE,Pg.enc,ao]
 intro b hb
 by_cases h5:(p.length:Int)>5
 ·simp only[go_sem,rE,ao,h5,decide_true]
  refine ak (.refl _) (aj.sub_empty _) ⟨?_,rfl⟩
  have:eS p=false:=by simp only[eS,cH,decide_eq_false_iff_not];exact .inl (by omega)
  simp only[go_sem,this]
 simp only[go_sem,rE,ao,h5,decide_false]
 refine aV p.length (fun k E H=>E 10=.sl 12 none (p.map Fu.enc)/\E 11=I p.length/\E 12=I k/\(p.take k).all Fu.okB=true) ⟨rfl,rfl,rfl,by simp⟩ ?_
 rintro k E H hk ⟨e10,e11,e12,hall⟩
 simp only[wp_seq,go_sem,rE,rA,e11,e12]
 refine aH (fun hlt=>?_) (fun hge=>?_)
 ·have hk1:k<p.length:=by omega
  have w1:=aP (n:=(k:Int)+1) (by omega) (by omega)
  have hg:=tp hk1
  rw[Fu.enc_eq]at hg
  have hcf:=hc _ (az hk1)
  simp only[go_sem,rE,rA,rL,e10,e12,hg]
  intro b4 hb4
  refine am (Bf L T p[k] hcf.1 hcf.2) (by simp only[go_sem,rE,Fu.enc_eq]) ?_
  cases ho:p[k].okB
  ·simp only[go_sem,rE]
   refine ak (.refl _) (aj.sub_empty _) ⟨?_,rfl⟩
   have:p.all Fu.okB=false:=by rw[dj];exact⟨_,az hk1,by rw[ho];exact fB⟩
   simp only[go_sem,eS,this,aM]
  ·simp only[go_sem,rE,e12,w1]
   refine⟨hk1,_,aj.sub_refl _,e10,e11,rfl,?_⟩
   rw[aC hk1,eD,hall]
   simp[ho]
 ·have hkk:k=p.length:=by omega
  subst hkk
  rw[aW]at hall
  simp only[go_sem,rE]
  refine ak (.refl _) (aj.sub_empty _) ⟨?_,rfl⟩
  have:eS p=true:=by simp only[eS,hall,fC,decide_eq_true_eq];omega
  simp only[go_sem,this]
end
noncomputable def dJ(p:Pg)(i:Nat):Int:=match p[i]? with|some f=>ik (p.take i) f|none=>0
noncomputable def pq(p:Pg):Option Nat:=(dC p.length).find? fun i=>decide (dJ p i≠0)
theorem qO{p:Pg}(h:∀i,i<p.length->dJ p i=0):pq p=none:=by
 unfold pq
 rw[List.find?_eq_none]
 intro i hi
 simp[h i (fk.1 hi)]
theorem qN{p:Pg}{i:Nat}(hi:i<p.length)(h:∀j,j<i->dJ p j=0)(hc:dJ p i≠0):pq p=some i:=by
 unfold pq
 rw[List.find?_range_eq_some]
 refine⟨by simpa using hc,by simpa using hi,fun j hj=>by simp[h j hj]⟩
section
variable {P:Program}{F:Ids}{er:bK}
theorem c_kFns(L:Lib P F)(T:Tys F)(hC:eB P F er)(p:Pg)(hp:eS p=true)(H:aj)(he:iA F er H):
 ACalls P 29 [.agg (Pg.enc p)] H fun q H'=>(pq p=none/\q=gE/\H'=H)\/∃i b,pq p=some i/\H.get b=none/\q=.iface 67 (.ptr b 0)/\H'=H.set b (.cells [I i,er.ac (dJ p i)]):=by
 obtain⟨hpl,hpf⟩:=iW hp
 refine(L.a Tryz.func29 y29) (by simp[y29]) ?_
 simp only[y29,go_sem,rE,rA,rL,Pg.enc]
 intro b1 hb1
 have g1:(H.set b1 (.cells [.sl 12 none (p.map Fu.enc)])).get b1=some (.cells [.sl 12 none (p.map Fu.enc)]):=ai _ _ _
 have k1:∀c o,H.get c=some o->(H.set b1 (.cells [.sl 12 none (p.map Fu.enc)])).get c=some o:=fun c o hc=>by rw[ae _ _ (al hc hb1)];exact hc
 have he1:iA F er (H.set b1 (.cells [.sl 12 none (p.map Fu.enc)])):=fun c hc=>k1 _ _ (he c hc)
 generalize H.set b1 _=H1 at*
 simp only[go_sem,rE,rA,rL,g1,ao]
 refine aV p.length (fun k E' H'=>E' 1=.ptr b1 0/\E' 7=I p.length/\E' 8=I k/\H'=H1/\∀j,j<k->dJ p j=0)
  ⟨rfl,by simp only[go_sem,rE,ao],rfl,rfl,fun j hj=>absurd hj (Nat.not_lt_zero _)⟩ ?_
 rintro k E' H' hk ⟨q1,q7,q8,rfl,hall⟩
 simp only[go_sem,rE,rA,rL,q7,q8]
 refine aH (fun hlt=>?_) (fun hge=>?_)
 ·have hk1:k<p.length:=by omega
  have w1:=aP (n:=(k:Int)+1) (by omega) (by omega)
  have hfn:=c_kFn (er:=er) L T hC p hp k hk1 H' he1
  simp only[Pg.enc]at hfn
  have hca:dJ p k=ik (p.take k) p[k]:=by unfold dJ;rw[a6 hk1]
  rw[<-hca]at hfn
  simp only[go_sem,rE,rA,rL,q1,q8,g1]
  refine du hfn (by simp only[go_sem,rE,aU,bB,q8]) (aj.sub_refl _) (fun h=>by simp at h) trivial ?_
  rintro q H3 ⟨rfl,rfl⟩ -
  rw[hG]
  by_cases hz:dJ p k=0
  ·rw[hz,dw]
   simp only[go_sem,rE,rA,rL,q8,w1]
   refine⟨hk1,_,aj.sub_refl _,q1,q7,rfl,rfl,fun j hj=>?_⟩
   by_cases hjk:j=k
   ·rw[hjk];exact hz
   ·exact hall j (by omega)
  ·rw[bK.acn er hz]
   simp only[go_sem,rE,rA,rL,q8]
   intro b hb
   have hbH:H.get b=none:=by
    cases h:H.get b with
    |none=>rfl
    |some o=>rw[k1 b o h]at hb;simp at hb
   refine ak (.refl _) (H':=H.set b (.cells [I k,.iface (er.t (dJ p k)) (er.x (dJ p k))])) (fun c o hc=>?_) (.inr ⟨k,b,qN hk1 hall hz,hbH,rfl,by rw[bK.acn er hz]⟩)
   rw[aK]at hc⊢
   split at hc
   ·rename_i e;rw[if_pos e];exact hc
   ·rename_i e;rw[if_neg e];exact k1 c o hc
 ·have hkk:k=p.length:=by omega
  subst hkk
  simp only[go_sem,rE,rA,rL]
  exact ak (.refl _) (fun b o hb=>k1 b o hb) (.inl ⟨qO hall,rfl,rfl⟩)
def Pg.small(p:Pg):Prop:=∀f∈p,bq f.body<=2^20/\∀s∈f.body,s.sm 3
end
theorem vX{p:List Int}(h:fU p=true):p.length<=4:=by
 simp[fU]at h;exact h.1
theorem ke{p:Pl}(h:p.okB=true):p.name≠bl []/\p.path.length<=4:=by
 simp only[Pl.okB,aw]at h
 exact⟨m9 h.1,vX h.2⟩
theorem l4{p:Pl}(h:p.noneB=true):p.path.length<=4:=by
 simp[Pl.noneB]at h;rw[h.2];simp
theorem rm{p:Pl}{c:Prop}[Decidable c](h:(if c then p.okB else p.noneB)=true):p.path.length<=4:=by
 split at h
 ·exact(ke h).2
 ·exact l4 h
theorem Ex.ok_mk{e:Ex}(hp:e.place.path.length<=2^20)(hk:e.kind≠1->e.kind≠2->2<=e.kids.length)(hs:∀x∈e.kids,x.ok):e.ok:=by cases e;exact .mk hp hk hs
theorem St.ok_mk{s:St}(hp:s.place.path.length<=2^20)(ho:s.other.path.length<=2^20)(he:s.kind≠2->s.kind≠4->s.expr.ok)(ha:∀a∈s.args,a.ok)(ht:∀x∈s.thn,x.ok)(hl:∀x∈s.els,x.ok):s.ok:=by
 cases s;exact .mk hp ho he ha ht hl
theorem Bp{s:St}(ho:s.kind=6->s.other.name≠bl [])(ha:s.kind=4->∀a∈s.args,a.lent=true->a.place.name≠bl [])(ht:∀x∈s.thn,x.nm)(hl:∀x∈s.els,x.nm):s.nm:=by
 cases s;exact .mk ho ha ht hl
theorem mP:∀(d:Nat) (e:Ex),e.okD d=true->e.ok
 |0,e,h=>by simp[Ex.okD]at h
 |d+1,e,h=>by
  simp only[Ex.okD,aw,aS,fq,iX]at h
  obtain⟨⟨-,hg,-⟩,hk,hl⟩:=h
  refine Ex.ok_mk ?_ ?_ fun x hx=>mP d x (hk x hx)
  ·by_cases h2:e.kind=2
   ·rw[if_neg (by omega),if_pos h2]at hl
    simp only[aw]at hl
    have:=(ke hl.1).2
    omega
   ·simp only[h2,decide_false,dG]at hg
    have:=l4 hg
    omega
  ·intro h1 h2
   rw[if_neg h1,if_neg h2]at hl
   simp at hl
   omega
theorem Ag.okB_ok{a:Ag}(h:a.okB=true):a.ok/\(a.lent=true->a.place.name≠bl []):=by
 rw[Ag.okB]at h
 cases hl:a.lent
 ·simp only[hl,if_false,aq,aw]at h
  refine⟨⟨fun _=>mP _ _ h.2,?_⟩,by simp⟩
  have:=l4 h.1;omega
 ·simp only[hl,if_true,aw]at h
  have:=ke h.1
  exact⟨⟨by simp[hl],by omega⟩,fun _=>this.1⟩
theorem Ak(Bd:List St->Bool)(hB:∀l,Bd l=true->∀x∈l,x.ok/\x.nm)(s:St)(h:cU Bd s=true):s.ok/\s.nm:=by
 simp only[cU,stA,stB,jN,stD,aw,eG]at h
 obtain⟨ho,⟨-,hp,he⟩,⟨hc,-,ha⟩,hd⟩:=h
 have hpl:=rm hp
 have hol:=rm ho
 have hbody:∀x,(x∈s.thn\/x∈s.els)->x.ok/\x.nm:=by
  intro x hx
  split at hd
  ·simp only[aw]at hd
   rcases hx with hx|hx
   ·exact hB _ hd.1 x hx
   ·exact hB _ hd.2 x hx
  ·simp at hd
   rw[hd.2.1,hd.2.2]at hx;simp at hx
 refine⟨St.ok_mk (by omega) (by omega) (fun h2 h4=>?_) (fun a hx=>(Ag.okB_ok (aS.1 ha a hx)).1) (fun x hx=>(hbody x (.inl hx)).1) (fun x hx=>(hbody x (.inr hx)).1),Bp (fun h6=>?_) (fun _ a hx=>(Ag.okB_ok (aS.1 ha a hx)).2) (fun x hx=>(hbody x (.inl hx)).2) (fun x hx=>(hbody x (.inr hx)).2)⟩
 ·have hk:isE s.kind=true:=by
   simp only[isE,dh,decide_eq_true_eq]
   split at hd
   ·omega
   ·simp at hd;omega
  rw[if_pos hk]at he
  exact mP _ _ he
 ·rw[if_pos h6]at ho
  exact(ke ho).1
theorem oR:∀(d:Nat) (l:List St),bX d l=true->∀x∈l,x.ok/\x.nm
 |0,l,h=>by simp[bX]at h
 |d+1,l,h=>by
  simp only[bX,aw,aS]at h
  exact fun x hx=>Ak _ (oR d) x (h.2 x hx)
theorem St.okB_ok{d:Nat}{s:St}(h:s.okB d=true):s.ok/\s.nm:=Ak _ (oR _) s h
section
variable {P:Program}{F:Ids}
theorem sd(L:Lib P F){dr:Bool}{K:Env->aj->Prop}{xs:List aJ}{E:Env}{H:aj}{l:Lds}{f:Fps}{i:Nat}{inc:List Nat}{args:List aG}{d:Option Nat}{e:Nat}{v:En}{VS NS:AC}(hE:bA H e v VS NS)
(hl:v.vars.length<=2^30)(hn:v.names.length<=2^30)(ha:args.map (aG.ev E)=[.ptr e 0])(hchk:dQ inc l (aQ e VS NS))
(h:∀a VS' NS' H1 fp,bA H1 a v VS' NS'->H.sub H1->(∀d,aQ a VS' NS' d->H.get d=none)->(∀c,fp c->aQ e VS NS c\/H.get c=none)->bp P dr K xs (E.put d (.ptr a 0)) H1 l ((i,fp)::f)):
 bp P dr K (⟨i,d,none,.eff (.call 94 args),inc⟩::xs) E H l f:=by
 have hge:∀b,(H.only (aQ e VS NS)).get b≠none↔aQ e VS NS b:=by
  intro b
  by_cases hb:aQ e VS NS b
  ·simp only[bf hb,hb,iff_true];exact hE.mem hb
  ·simp[bS hb,hb]
 refine gu (aQ e VS NS) (Bg L e v VS NS (H.only (aQ e VS NS)) hE.only hl hn) ha (.refl _) (fun _ N=>?_) ?_ ?_
 ·obtain⟨M,hM⟩:=(H.only (aQ e VS NS)).fin
  obtain⟨H0,VS0,NS0,hE0,hfar⟩:=ot (N+M) (N+M) v
  have far:∀{b},H0.get b≠none->N+M<=b:=by
   intro b hb
   rcases hfar b hb with h|h<;>omega
  have hget:∀b,N+M<=b->(H0.swap .empty (H.only (aQ e VS NS))).get b=H0.get b:=by
   intro b hb
   rw[bz,hM b (by omega)];simp
  refine⟨.ptr (N+M) 0,H0.swap .empty (H.only (aQ e VS NS)),⟨N+M,VS0,NS0,rfl,hE0.mono fun d hd=>hget d (far (hE0.mem hd)),fun d hd=>?_,fun d hd=>hM d (by have:=far (hE0.mem hd);omega)⟩,fun b hb hnb=>?_⟩
  ·rw[bz]
   obtain⟨o,ho⟩:=aI.1 hd
   simp[ho]
  ·rw[bz,hnb]at hb
   have:=far (b:=b) (by simpa using hb)
   omega
 ·have:(fun b=>(H.only (aQ e VS NS)).get b≠none)=aQ e VS NS:=by funext b;exact propext (hge b)
  rw[this];exact hchk
 rintro q H' H1 ⟨a,VS',NS',rfl,hE',hsame,hnew⟩ hsub hafter hn2 -
 refine h a VS' NS' H1 _ (hE'.sub hsub) (fun b o hb=>?_) (fun d hd=>?_) (fun c hc=>?_)
 ·by_cases hS:aQ e VS NS b
  ·refine hsub b o ?_
   rw[hsame b (by rw[bf hS,hb];simp),bf hS];exact hb
  ·rw[hafter.out b hS (by rw[hb];simp)];exact hb
 ·rcases hn2 d (hE'.mem hd)with h|h
  ·have:=hnew d hd
   rw[bf h]at this;exact this
  ·exact h
 ·rcases hc with hc|hc
  ·exact .inl ((hge c).1 hc)
  ·exact .inr hc
end
def iS:Nat->Nat
 |0=>5
 |d+1=>6+5*iS d
def gJ:Nat->Nat
 |0=>20000
 |d+1=>20000+36*gJ d
def BodyR(n c k:Nat)(N:Nat)(v:En)(p last:Int)(s:Int)(q:AC)(v':En)(p' last':Int):Prop:=
 (∃l:List St,q=.sl 15 none (l.map St.enc)/\l.length<=n/\bq l<=n*c/\∀x∈l,x.sx k)/\(v'.dr (N+n*c)/\v'.p=v.p/\v'.fn=v.fn)/\p<=p'/\p'<=p+s/\last<=last'/\last'<=last+s
def Bn(P:Program)(F:Ids)(d:Nat):Prop:=∀(m r:Nat) (bs:List UInt8),bs.length<=2000->∀(v:En) (N:Nat),v.dr N->N+iS d<=2^19->∀p last:Int,0<=last->last+gJ d<=2^40->0<=p->p+gJ d<=2^50->
 MkC P 148 [.ptr m 0,I (d+1:Nat)] m r bs v p last (StR (iS d) d v p last (gJ d))
def Bv(P:Program)(F:Ids)(d:Nat):Prop:=∀(m r:Nat) (bs:List UInt8),bs.length<=2000->∀(v:En) (N n:Nat),v.dr N->n<=6->N+n*iS d<=2^19->∀p last:Int,0<=last->last+18*gJ d<=2^40->0<=p->p+18*gJ d<=2^50->
 MkC P 92 [.ptr m 0,I n,I (d+1:Nat)] m r bs v p last (BodyR n (iS d) (d+1) N v p last (18*gJ d))
theorem En.dr.mono{v:En}{N M:Nat}(h:v.dr N)(hm:N<=M):v.dr M:=⟨h.ok,h.up,h.ne,cg h.vl hm,cg h.nl hm,h.p,h.pl,h.fn⟩
theorem En.dr.stmt{v:En}{N:Nat}(h:v.dr N){s:St}(hs:s.ok)(hn:s.nm)(hc:(v.stmt s).code=0)(hl:N+s.cnt<=2^20):(v.stmt s).dr (N+s.cnt):=by
 have st:=(En.stmt_step s.cnt).1 s (aA _) hs v h.ok (by have:=h.vl;omega) fun f hf=>(h.p f hf).1
 have up:=(rp hn hc).2 h.up
 refine⟨st.ok,up,by have:=h.ne;have:=st.lo;omega,by have:=h.vl;have:=st.hi;omega,by have:=h.nl;have:=st.names;omega,by rw[st.p];exact h.p,by rw[st.p];exact h.pl,by rw[st.p,st.fn];exact h.fn⟩
section
variable {P:Program}{F:Ids}
theorem uZ(L:Lib P F)(d:Nat)(hd:d<=20)(hst:Bn P F d):Bv P F d:=by
 intro m r bs hbs v N n hv hn hN p last hl hl2 hp hp2 H e VS NS hM
 refine(L.a Tryz.func92 y92) (by simp[y92]) ?_
 generalize hc:iS d=c at*
 generalize hs:(gJ d:Int)=s at*
 have hs0:0<=s:=by omega
 have w3:=aP (n:=3*(n:Int)) (by omega) (by omega)
 simp only[y92,go_sem,rE,rA]
 intro b11 hb11
 have hM1:=hM.new hb11 (.tail 0 0)
 have n11:=hM.notin hb11
 let J:Nat->Env->aj->Prop:=fun k E H=>∃(e':Nat) (v':En) (VS' NS':AC) (p' last':Int) (l:List St) (bt nt mt:Nat),cO H m r bs e' v' VS' NS' p' last'/\v'.dr (N+l.length*c)/\v'.p=v.p/\v'.fn=v.fn/\p<=p'/\p'<=p+k*s/\last<=last'/\last'<=last+k*s/\
  l.length<=n/\bq l<=l.length*c/\(∀x∈l,x.sx (d+1))/\H.get bt=some (.tail nt mt)/\¬cv m r e' VS' NS' bt/\E 0=.ptr m 0/\E 1=I n/\E 2=I (d+1:Nat)/\E 7=.sl 15 (some (bt,nt,mt)) (l.map St.enc)/\E 8=I k
 refine aV (3*n) J ⟨e,v,VS,NS,p,last,[],b11,0,0,hM1,by simpa using hv,rfl,rfl,eA _,by omega,eA _,by omega,by simp,by simp[eP],by simp,ai _ _ _,n11,rfl,rfl,rfl,rfl,rfl⟩ ?_
 clear hM hM1 hb11 n11
 rintro k E H hk ⟨e',v',VS',NS',p',last',l,bt,nt,mt,hM,hv',hvp,hvf,hp1,hp1',hl1,hl1',hln,hcl,hsm,gt,nX,e0,e1,e2,e7,e8⟩
 have hks:(k:Int)*s<=18*s:=Int.mul_le_mul_of_nonneg_right (by omega) hs0
 have hlc:l.length*c<=n*c:=bu _ hln
 by_cases h1:(k:Int)<3*n
 case neg=>
  simp only[go_sem,rE,rA,e1,e8,w3,h1,decide_false]
  refine ak (q':=.sl 15 none (l.map St.enc)) (by simp only[go_sem,rE];rw[e7];exact .tok _ _ _) (aj.sub_refl _) ⟨e',v',VS',NS',p',last',⟨⟨l,rfl,hln,by omega,hsm⟩,⟨hv'.mono (by omega),hvp,hvf⟩,hp1,by omega,hl1,by omega⟩,hM⟩
 by_cases h2:(l.length:Int)<n
 case neg=>
  simp only[go_sem,rE,rA,e1,e7,e8,w3,h1,h2,decide_true,decide_false,ao]
  refine ak (q':=.sl 15 none (l.map St.enc)) (by simp only[go_sem,rE];exact .tok _ _ _) (aj.sub_refl _) ⟨e',v',VS',NS',p',last',⟨⟨l,rfl,hln,by omega,hsm⟩,⟨hv'.mono (by omega),hvp,hvf⟩,hp1,by omega,hl1,by omega⟩,hM⟩
 have hks1:(k:Int)*s+s<=18*s:=by
  have:((k:Int)+1)*s<=18*s:=Int.mul_le_mul_of_nonneg_right (by omega) hs0
  rw[Int.add_mul,Int.one_mul]at this;exact this
 have hkk:((k+1:Nat):Int)*s=k*s+s:=by rw[Int.natCast_succ,Int.add_mul,Int.one_mul]
 have hlc1:(l.length+1)*c<=n*c:=bu _ (by omega)
 have hlcc:(l.length+1)*c=l.length*c+c:=Nat.succ_mul _ _
 have w1:=aP (n:=(k:Int)+1) (by omega) (by omega)
 simp only[go_sem,rE,rA,e0,e1,e2,e7,e8,w3,h1,h2,decide_true,ao]
 refine dP (hst m r bs hbs v' (N+l.length*c) hv' (by omega) p' last' (by omega) (by omega) (by omega) (by omega)) hM (rfl) (.refl _) (by simp) trivial ?_
 rintro q e1' v1 VS1 NS1 p1 last1 H1 fp1 ⟨⟨st,rfl,hst1,hst2⟩,rfl,hq1,hq2,hq3,hq4⟩ hM1 hk1 -
 obtain⟨gt,nX⟩:=hk1 _ _ gt nX
 rw[hc]at hst1
 rw[hs]at hq2 hq4
 clear hk1 hM
 obtain⟨cs,hcs,C⟩:=stC st
 simp only[hcs,go_sem,rE,rA,C.len,rL]
 intro b9 hb9
 have n9:=hM1.notin hb9
 have dt9:=al gt hb9
 have hM2:=hM1.new hb9 (.cells cs)
 have g9:(H1.set b9 (.cells cs)).get b9=some (.cells cs):=ai _ _ _
 have gt:(H1.set b9 (.cells cs)).get bt=some (.tail nt mt):=by rw[ae _ _ dt9];exact gt
 simp only[go_sem,rE,rA,C.len,C.all,rL]
 refine am (AT L (d+1) (by omega) (by omega) st (by omega)) (by simp only[go_sem,rE,hcs,e2]) ?_
 have skip:∀(E':Env) (H':aj),cO H' m r bs e1' v1 VS1 NS1 p1 last1->H'.get bt=some (.tail nt mt)->E' 0=.ptr m 0->E' 1=I n->E' 2=I (d+1:Nat)->E' 7=.sl 15 (some (bt,nt,mt)) (l.map St.enc)->E' 8=I (k+1:Nat)->k<3*n/\∃H'',aj.sub H'' H'/\J (k+1) E' H'':=
  fun E' H' hM gt h0 h1 h2 h7 h8=>⟨by omega,H',aj.sub_refl _,e1',v1,VS1,NS1,p1,last1,l,bt,nt,mt,hM,hv',hvp,hvf,by omega,by rw[hkk];omega,by omega,by rw[hkk];omega,hln,hcl,hsm,gt,nX,h0,h1,h2,h7,h8⟩
 cases hok:st.okB (d+1)
 ·simp only[go_sem,rE,rA,e8,w1]
  exact skip _ _ hM2 gt (e0) (e1) (e2) (e7) (rfl)
 obtain⟨sok,snm⟩:=St.okB_ok hok
 have hob:=hM2.obj
 have hE:=hM2.env
 have hdl:=hv'.vl
 have hdn:=hv'.nl
 have dpl:=hv'.pl
 have dfn:=hv'.fn
 simp only[go_sem,rE,rA,e0,hob]
 refine lO L hE (by omega) (by omega) (rfl) ?_
 intro a VSa NSa H3 fp3 hEa hs3 hnew
 have hM3:cO H3 m r bs e1' v1 VS1 NS1 p1 last1:=hM2.mono fun b hb=>by obtain⟨o,ho⟩:=aI.1 (hM2.mem hb);rw[hs3 _ _ ho,ho]
 have dis:∀b,cv m r e1' VS1 NS1 b->¬aQ a VSa NSa b:=fun b hb hb'=>hM2.mem hb (hnew b hb')
 have na9:¬aQ a VSa NSa b9:=fun h=>by have:=hnew _ h;rw[g9]at this;simp at this
 have nat:¬aQ a VSa NSa bt:=fun h=>by have:=hnew _ h;rw[gt]at this;simp at this
 have g9:=hs3 _ _ g9
 have gt:=hs3 _ _ gt
 clear hnew hs3 hM2 hE hob
 simp only[go_sem,rE,rA,g9,C.len,C.all,rL]
 refine bJ (tr L st.cnt a st (aA _) sok v1 hv'.ok (by omega) (by omega) hv'.ne (fun f hf=>(hv'.p f hf).1) (by omega) (by omega)) hEa (by simp only[go_sem,rE,hcs]) (.refl _) (by simp) trivial ?_
 rintro q va VSa NSa H4 fp4 ⟨rfl,hva⟩ hEa hk4 -
 obtain⟨g9,na9⟩:=hk4 _ _ g9 na9
 obtain⟨gt,nat⟩:=hk4 _ _ gt nat
 have key:∀b,cv m r e1' VS1 NS1 b->H4.get b=H3.get b/\¬aQ a VSa NSa b:=by
  intro b hb
  obtain⟨o,ho⟩:=aI.1 (hM3.mem hb)
  obtain⟨h1,h2⟩:=hk4 b o ho (dis b hb)
  exact⟨by rw[h1,ho],h2⟩
 have hM4:cO H4 m r bs e1' v1 VS1 NS1 p1 last1:=hM3.mono fun b hb=>(key b hb).1
 have nam:=(key m (.inl rfl)).2
 have nar:=(key r (.inr (.inl rfl))).2
 clear hk4 hM3
 have hob:=hEa.obj
 simp only[cR]at hob
 simp only[go_sem,rE,rA,hob]
 by_cases hcode:va.code=0
 ·have hcode':(va.code==0)=true:=by simpa using hcode
  have hom:=hM4.obj
  have dm9:b9≠m:=by rintro rfl;rw[hom]at g9;simp at g9;have:=C.len;rw[<-g9]at this;simp at this
  have dmt:bt≠m:=by rintro rfl;rw[hom]at gt;simp at gt
  simp only[go_sem,rE,rA,hcode',e0,hom,g9,dm9,Ne.symm dm9,e7,C.len,C.all,rL,ax,av,ay,bg]
  have gt5:(H4.set m (.cells [.ptr r 0,.ptr a 0,I last1])).get bt=some (.tail nt mt):=by rw[ae _ _ dmt];exact gt
  have hM5:cO (H4.set m (.cells [.ptr r 0,.ptr a 0,I last1])) m r bs a va VSa NSa p1 last1:=
   ⟨ai _ _ _,by rw[ae _ _ (Ne.symm hM4.mr)];exact hM4.rd,hEa.mono fun b hb=>ae _ _ (by rintro rfl;exact nam hb),hM4.mr,nam,nar⟩
  have nt5:¬cv m r a VSa NSa bt:=by
   rintro(h|h|h)
   ·exact dmt h
   ·rw[h,hM4.rd]at gt;simp[RdO]at gt
   ·exact nat h
  refine dS (es:=l.map St.enc) (ys:=[cs]) (by simp only[go_sem,rE,e7]) gt5 (by simp only[go_sem,rE]) (by simp[C.len]) (by simp;omega) ?_
  intro bt' nt' mt' H6 fp6 gt6 hk6 hbt6 _
  have hM6:cO H6 m r bs a va VSa NSa p1 last1:=hM5.mono fun b hb=>hk6 b (hM5.mem hb) (by rintro rfl;exact nt5 hb)
  have nt6:¬cv m r a VSa NSa bt':=by
   rcases hbt6 with rfl|h
   ·exact nt5
   ·exact hM5.notin h
  have hdr:=hv'.stmt sok snm (by rw[<-hva];exact hcode) (by omega)
  rw[<-hva]at hdr
  have hstep:=(En.stmt_step st.cnt).1 st (aA _) sok v1 hv'.ok (by omega) fun f hf=>(hv'.p f hf).1
  rw[<-hva]at hstep
  simp only[go_sem,rE,rA,e8,w1]
  refine⟨by omega,H6,aj.sub_refl _,a,va,VSa,NSa,p1,last1,l++[st],bt',nt',mt',hM6,hdr.mono (by simp;omega),hstep.p.trans hvp,hstep.fn.trans hvf,by omega,by rw[hkk];omega,by omega,by rw[hkk];omega,by simp;omega,?_,?_,gt6,nt6,e0,e1,e2,?_,rfl⟩
  ·have:bq (l++[st])=bq l+st.cnt:=by
    have:=kM (l++[st]) l.length
    rw[List.take_left',List.drop_left']at this
    ·rw[cQ,eP]at this;omega
    all_goals rfl
   rw[this];simp;omega
  ·intro x hx
   rcases aE.1 hx with h|h
   ·exact hsm x h
   ·simp at h;rw[h];exact hst2
  ·simp only[go_sem,rE,bL,aU,bB,hcs]
 ·have hcode':(va.code==0)=false:=by simpa using hcode
  simp only[go_sem,rE,rA,hcode',e8,w1]
  exact skip _ _ hM4 gt (e0) (e1) (e2) (e7) (rfl)
end
theorem rZ:∀d,20000<=gJ d
 |0=>aA _
 |d+1=>by simp only[gJ];omega
theorem AG:∀d,5<=iS d
 |0=>aA _
 |d+1=>by simp only[iS];omega
theorem leLet(nm:ByteArray)(x:Ex):LeC ([I 1,S nm,S (bl []),NIL,S (bl []),NIL]++x.enc++[S (bl []),NIL,NIL,NIL]) (St.mk 1 nm P0 P0 x (bl []) [] [] []).enc:=by
 rw[St.enc_eq,Ex.enc_eq]
 exact⟨⟨.refl _,rfl⟩,⟨.refl _,rfl⟩,⟨.refl _,rfl⟩,⟨.nil 1,rfl⟩,⟨.refl _,rfl⟩,⟨.nil 1,rfl⟩,⟨.refl _,rfl⟩,⟨.refl _,rfl⟩,⟨.refl _,rfl⟩,⟨.refl _,rfl⟩,⟨.refl _,rfl⟩,⟨.refl _,rfl⟩,⟨.nil 8,rfl⟩,⟨.nil 15,rfl⟩,⟨.nil 15,rfl⟩,trivial⟩
theorem leLend(nm:ByteArray)(p:Pl):LeC [I 2,S nm,S p.name,au p.path,S (bl []),NIL,I 0,I 0,S (bl []),NIL,NIL,S (bl []),NIL,NIL,NIL] (St.mk 2 nm p P0 E0 (bl []) [] [] []).enc:=by
 rw[St.enc_eq]
 exact⟨⟨.refl _,rfl⟩,⟨.refl _,rfl⟩,⟨.refl _,rfl⟩,⟨.refl _,rfl⟩,⟨.refl _,rfl⟩,⟨.nil 1,rfl⟩,⟨.refl _,rfl⟩,⟨.refl _,rfl⟩,⟨.refl _,rfl⟩,⟨.nil 1,rfl⟩,⟨.nil 5,rfl⟩,⟨.refl _,rfl⟩,⟨.nil 8,rfl⟩,⟨.nil 15,rfl⟩,⟨.nil 15,rfl⟩,trivial⟩
theorem leSet(p:Pl)(x:Ex):LeC ([I 3,S (bl []),S p.name,au p.path,S (bl []),NIL]++x.enc++[S (bl []),NIL,NIL,NIL]) (St.mk 3 (bl []) p P0 x (bl []) [] [] []).enc:=by
 rw[St.enc_eq,Ex.enc_eq]
 exact⟨⟨.refl _,rfl⟩,⟨.refl _,rfl⟩,⟨.refl _,rfl⟩,⟨.refl _,rfl⟩,⟨.refl _,rfl⟩,⟨.nil 1,rfl⟩,⟨.refl _,rfl⟩,⟨.refl _,rfl⟩,⟨.refl _,rfl⟩,⟨.refl _,rfl⟩,⟨.refl _,rfl⟩,⟨.refl _,rfl⟩,⟨.nil 8,rfl⟩,⟨.nil 15,rfl⟩,⟨.nil 15,rfl⟩,trivial⟩
theorem leIf(x:Ex)(t l:List St):LeC ([I 5,S (bl []),S (bl []),NIL,S (bl []),NIL]++x.enc++[S (bl []),NIL,.sl 15 none (t.map St.enc),.sl 15 none (l.map St.enc)]) (St.mk 5 (bl []) P0 P0 x (bl []) [] t l).enc:=by
 rw[St.enc_eq,Ex.enc_eq]
 simp only[St.encs_map]
 exact⟨⟨.refl _,rfl⟩,⟨.refl _,rfl⟩,⟨.refl _,rfl⟩,⟨.nil 1,rfl⟩,⟨.refl _,rfl⟩,⟨.nil 1,rfl⟩,⟨.refl _,rfl⟩,⟨.refl _,rfl⟩,⟨.refl _,rfl⟩,⟨.refl _,rfl⟩,⟨.refl _,rfl⟩,⟨.refl _,rfl⟩,⟨.nil 8,rfl⟩,⟨.refl _,rfl⟩,⟨.refl _,rfl⟩,trivial⟩
section
variable {P:Program}{F:Ids}
theorem sB(L:Lib P F)(d:Nat)(hd:d<=20)(hbody:∀d',d=d'+1->Bv P F d'):Bn P F d:=by
 intro m r bs hbs v N hv hN p last hl hl2 hp hp2 H e VS NS hM
 have hsc:=rZ d
 have hcc:=AG d
 refine(L.a Tryz.func148 y148) (by simp[y148,f148]) ?_
 simp only[y148,f148,go_sem,rE,rA]
 intro b4 hb4
 have hM0:=hM.new hb4 (.cells [I 0,S (bl []),S (bl []),NIL,S (bl []),NIL,I 0,I 0,S (bl []),NIL,NIL,S (bl []),NIL,NIL,NIL])
 have n4:=hM.notin hb4
 have g4:(H.set b4 (.cells [I 0,S (bl []),S (bl []),NIL,S (bl []),NIL,I 0,I 0,S (bl []),NIL,NIL,S (bl []),NIL,NIL,NIL])).get b4=some (.cells [I 0,S (bl []),S (bl []),NIL,S (bl []),NIL,I 0,I 0,S (bl []),NIL,NIL,S (bl []),NIL,NIL,NIL]):=ai _ _ _
 generalize H.set b4 (.cells [I 0,S (bl []),S (bl []),NIL,S (bl []),NIL,I 0,I 0,S (bl []),NIL,NIL,S (bl []),NIL,NIL,NIL])=H0 at*
 clear hM hb4
 have fin:∀(E':Env) (H':aj) (cs:List AC) (st:St) (e':Nat) (VS' NS':AC) (p' last':Int),cO H' m r bs e' v VS' NS' p' last'->E' 4=.ptr b4 0->H'.get b4=some (.cells cs)->Le (.agg cs) (.agg st.enc)->cs.length=15->st.cnt<=iS d->st.sx (d+1)->p<=p'->p'<=p+gJ d->last<=last'->last'<=last+gJ d->
  (bh.post [.cell 4 (some 15)] (fun q H'=>∃e' v' VS' NS' p' last',StR (iS d) d v p last (gJ d) q v' p' last'/\cO H' m r bs e' v' VS' NS' p' last')) .ret E' H':=by
  intro E' H' cs st e' VS' NS' p' last' hM e4 g4 hle hlen hc hs h1 h2 h3 h4
  exact bP (q':=.agg st.enc) (off:=0) e4 g4 (by simp[fH,hlen,cy (Nat.le_of_eq hlen)]) hle (aj.sub_refl _) ⟨e',v,VS',NS',p',last',⟨⟨st,rfl,hc,hs⟩,rfl,h1,h2,h3,h4⟩,hM⟩
 have hom:=hM0.obj
 have hmr:=hM0.mr
 simp only[go_sem,rE,rA,hom]
 refine bw (cW L r bs p 5 hbs hp (by omega)) (rfl) hM0.rd (by simp) trivial ?_
 rintro q p1 hp1 hp1' ⟨k1,rfl,hk10,hk11⟩
 have d4r:b4≠r:=fun h=>n4 (.inr (.inl h))
 have hM1:=hM0.setR p1
 have g4:(H0.set r (RdO bs p1)).get b4=_:=(ae _ _ d4r).trans g4
 generalize H0.set r (RdO bs p1)=H1 at*
 clear hM0 hom
 by_cases hk1:k1=0
 ·simp only[hk1,go_sem,rE,rA,aF]
  refine dP (AM L m r bs hbs v hv.ok p1 last hl (by omega) (by omega) (by omega)) hM1 (rfl) (.refl _) (by simp) trivial ?_
  rintro q e2 v2 VS2 NS2 p2 last2 H2 fp2 ⟨⟨st,rfl,hst1,hst2⟩,rfl,h1,h2,h3,h4⟩ hM2 hk2 -
  obtain⟨g4,n4⟩:=hk2 _ _ g4 n4
  obtain⟨cs,hcs,C⟩:=stC st
  simp only[hcs,go_sem,rE,rA,g4,C.len,rL]
  exact fin _ _ cs st e2 VS2 NS2 p2 last2 (hM2.put n4 _) (rfl) (ai _ _ _) (by rw[hcs];exact .refl _) C.len (by omega) (hst2.up (by omega)) (by omega) (by omega) (by omega) (by omega)
 have hk1':(k1==0)=false:=by simpa using hk1
 have hom:=hM1.obj
 simp only[hk1',go_sem,rE,rA,hom]
 refine bw (cW L r bs p1 12 hbs (by omega) (by omega)) (rfl) hM1.rd (by simp) trivial ?_
 rintro q p2 hp2' hp2'' ⟨k2,rfl,hk20,hk21⟩
 have hM2:=hM1.setR p2
 have g4:(H1.set r (RdO bs p2)).get b4=_:=(ae _ _ d4r).trans g4
 generalize H1.set r (RdO bs p2)=H2 at*
 clear hM1 hom
 have dmr:m≠b4:=fun h=>n4 (.inl h.symm)
 have sLet:∀(E:Env),E 0=.ptr m 0->E 4=.ptr b4 0->∀A:Env->aj->Prop,aT.wp P (kd20) (cE.inBlock 0 (cE.then A (bh.post [.cell 4 (some 15)] (fun q H'=>∃e' v' VS' NS' p' last',StR (iS d) d v p last (gJ d) q v' p' last'/\cO H' m r bs e' v' VS' NS' p' last')))) E H2:=by
  intro E e0 e4 A
  rw[kd20,fd20]
  have hom:=hM2.obj
  simp only[go_sem,rE,rA,e0,hom]
  refine⟨?_,?_⟩
  ·refine dP (R:=uw v p2 last) (kN L m r bs v p2 last hl (by omega)) hM2 (rfl) (.refl _) (fun _=>⟨S (bl []),v,p2,last+1,⟨_,rfl,by decide⟩,rfl,rfl,rfl⟩) (by simp[dQ]) ?_
   rintro q e3 v3 VS3 NS3 p3 last3 H3 fp3 ⟨⟨nm,rfl,hnm⟩,rfl,rfl,rfl⟩ hM3 hk3 -
   obtain⟨g4,n4⟩:=hk3 _ _ g4 n4
   have hom:=hM3.obj
   simp only[go_sem,rE,rA,e0,hom]
   refine bw (jK L r bs hbs 3 3 (by omega) (by omega) p3 (by omega) (by simp[eN];omega)) (rfl) hM3.rd (fun _=>⟨by simp[eN],_,.mk [],rfl,by simp[Ty.le]⟩) (by simp[dQ]) ?_
   rintro q p4 hp4 hp4' ⟨t,rfl,ht⟩
   simp only[eN]at hp4'
   have hM4:=hM3.setR p4
   have g4:(H3.set r (RdO bs p4)).get b4=_:=(ae _ _ d4r).trans g4
   generalize H3.set r (RdO bs p4)=H4 at*
   refine dP (jo L m r bs hbs v3 hv.ok (last+1) 3 (by omega) t 3 ⟨3,by omega,ht⟩ (by omega) (by omega) p4 (by omega) (by simp[ej];omega)) hM4 (rfl) (.refl _) (fun _=>fZ _ _ _ _ (by simp[ej])) (by simp[dQ]) ?_
   rintro q e5 v5 VS5 NS5 p5 last5 H5 fp5 ⟨⟨x,rfl,hx,hxsm⟩,rfl,hp5,hp5',rfl⟩ hM5 hk5 -
   simp only[ej]at hp5'
   obtain⟨g4,n4⟩:=hk5 _ _ g4 n4
   simp only[go_sem,rE,rA,e4,Ex.enc_eq x,g4,rL]
   obtain⟨c1,c2⟩:=lc 1 nm P0 P0 x hnm hxsm
   exact fin _ _ _ (.mk 1 nm P0 P0 x (bl []) [] [] []) e5 VS5 NS5 p5 (last+1) (hM5.put n4 _) (e4) (ai _ _ _) (by have:=leLet nm x;rw[Ex.enc_eq x]at this;exact .agg this) rfl (by omega) (c2.up (by omega)) (by omega) (by omega) (by omega) (by omega)
  ·refine dP (R:=uw v p2 last) (kN L m r bs v p2 last hl (by omega)) hM2 (by simp only[go_sem,rE,e0]) (.refl _) (fun _=>⟨S (bl []),v,p2,last+1,⟨_,rfl,by decide⟩,rfl,rfl,rfl⟩) (by simp[dQ]) ?_
   rintro q e3 v3 VS3 NS3 p3 last3 H3 fp3 ⟨⟨nm,rfl,hnm⟩,rfl,rfl,rfl⟩ hM3 hk3 -
   obtain⟨g4,n4⟩:=hk3 _ _ g4 n4
   refine bw (jK L r bs hbs 3 3 (by omega) (by omega) p3 (by omega) (by simp[eN];omega)) (rfl) hM3.rd (fun _=>⟨by simp[eN],_,.mk [],rfl,by simp[Ty.le]⟩) (by simp[dQ]) ?_
   rintro q p4 hp4 hp4' ⟨t,rfl,ht⟩
   simp only[eN]at hp4'
   have hM4:=hM3.setR p4
   have g4:(H3.set r (RdO bs p4)).get b4=_:=(ae _ _ d4r).trans g4
   generalize H3.set r (RdO bs p4)=H4 at*
   refine dP (jo L m r bs hbs v3 hv.ok (last+1) 3 (by omega) t 3 ⟨3,by omega,ht⟩ (by omega) (by omega) p4 (by omega) (by simp[ej];omega)) hM4 (rfl) (.refl _) (fun _=>fZ _ _ _ _ (by simp[ej])) (by simp[dQ]) ?_
   rintro q e5 v5 VS5 NS5 p5 last5 H5 fp5 ⟨⟨x,rfl,hx,hxsm⟩,rfl,hp5,hp5',rfl⟩ hM5 hk5 -
   simp only[ej]at hp5'
   obtain⟨g4,n4⟩:=hk5 _ _ g4 n4
   simp only[go_sem,rE,rA,e4,Ex.enc_eq x,g4,rL]
   obtain⟨c1,c2⟩:=lc 1 nm P0 P0 x hnm hxsm
   exact fin _ _ _ (.mk 1 nm P0 P0 x (bl []) [] [] []) e5 VS5 NS5 p5 (last+1) (hM5.put n4 _) (e4) (ai _ _ _) (by have:=leLet nm x;rw[Ex.enc_eq x]at this;exact .agg this) rfl (by omega) (c2.up (by omega)) (by omega) (by omega) (by omega) (by omega)
 have sLend:∀(E:Env),E 0=.ptr m 0->E 4=.ptr b4 0->∀A:Env->aj->Prop,aT.wp P (kd21) (cE.inBlock 0 (cE.then A (bh.post [.cell 4 (some 15)] (fun q H'=>∃e' v' VS' NS' p' last',StR (iS d) d v p last (gJ d) q v' p' last'/\cO H' m r bs e' v' VS' NS' p' last')))) E H2:=by
  intro E e0 e4 A
  rw[kd21,fd21]
  simp only[go_sem,rE,rA,e0]
  refine dP (ie L m r bs hbs v hv.ok p2 last (by omega) (by omega)) hM2 (rfl) (.refl _) (by simp) trivial ?_
  rintro q e3 v3 VS3 NS3 p3 last3 H3 fp3 ⟨⟨pa,u,rfl,hpa,hu⟩,rfl,hp3,hp3',rfl⟩ hM3 hk3 -
  obtain⟨g4,n4⟩:=hk3 _ _ g4 n4
  simp only[go_sem,rE,rA,Ty.enc_eq u,Pl.enc]
  intro b5 hb5 b6 hb6
  have hb6':=tf hb6 (.cells [S pa.name,au pa.path])
  obtain⟨stay,ga,gb,d56⟩:=mz (c:=.cells [S pa.name,au pa.path]) (c':=.cells [.sl 1 none (Ty.encs u.kids)]) hb5 hb6'
  have hM4:=(hM3.new hb5 (.cells [S pa.name,au pa.path])).new hb6' (.cells [.sl 1 none (Ty.encs u.kids)])
  have n5:=hM3.notin hb5
  have g4:=stay g4
  simp only[go_sem,rE,rA,d56,Ne.symm d56,lx d56]
  generalize((H3.set b5 (.cells [S pa.name,au pa.path])).set b6 (.cells [.sl 1 none (Ty.encs u.kids)]))=H4 at*
  refine dP (R:=uw v3 p3 last3) (kN L m r bs v3 p3 last3 hl (by omega)) hM4 (by simp only[go_sem,rE,e0]) (.refl _) (fun _=>⟨S (bl []),v3,p3,last3+1,⟨_,rfl,by decide⟩,rfl,rfl,rfl⟩) (by simp[dQ]) ?_
  rintro q e5 v5 VS5 NS5 p5 last5 H5 fp5 ⟨⟨nm,rfl,hnm⟩,rfl,rfl,rfl⟩ hM5 hk5 hf5
  obtain⟨g4,n4⟩:=hk5 _ _ g4 n4
  have nf5:¬fp5 b5:=fun h=>by
   rcases hf5 _ h with h|h
   ·exact n5 h
   ·rw[ga]at h;simp at h
  obtain⟨ga,n5⟩:=hk5 _ _ ga n5
  simp only[go_sem,rE,rA,rL,e0,e4,ga,g4,rL]
  refine⟨by simp;exact nf5,?_⟩
  obtain⟨c1,c2⟩:=lc 2 nm pa P0 E0 hnm vC
  exact fin _ _ _ (.mk 2 nm pa P0 E0 (bl []) [] [] []) e5 VS5 NS5 p5 (last3+1) (hM5.put n4 _) (e4) (ai _ _ _) (.agg (leLend nm pa)) rfl (by omega) (c2.up (by omega)) (by omega) (by omega) (by omega) (by omega)
 have sSet:∀(E:Env),E 0=.ptr m 0->E 4=.ptr b4 0->∀A:Env->aj->Prop,aT.wp P (kd22) (cE.inBlock 0 (cE.then A (bh.post [.cell 4 (some 15)] (fun q H'=>∃e' v' VS' NS' p' last',StR (iS d) d v p last (gJ d) q v' p' last'/\cO H' m r bs e' v' VS' NS' p' last')))) E H2:=by
  intro E e0 e4 A
  rw[kd22,fd22]
  simp only[go_sem,rE,rA,e0]
  refine dP (ie L m r bs hbs v hv.ok p2 last (by omega) (by omega)) hM2 (rfl) (.refl _) (by simp) trivial ?_
  rintro q e3 v3 VS3 NS3 p3 last3 H3 fp3 ⟨⟨pa,u,rfl,hpa,hu⟩,rfl,hp3,hp3',rfl⟩ hM3 hk3 -
  obtain⟨g4,n4⟩:=hk3 _ _ g4 n4
  simp only[go_sem,rE,rA,Ty.enc_eq u,Pl.enc]
  intro b5 hb5 b6 hb6
  have hb6':=tf hb6 (.cells [S pa.name,au pa.path])
  obtain⟨stay,ga,gb,d56⟩:=mz (c:=.cells [S pa.name,au pa.path]) (c':=.cells [.sl 1 none (Ty.encs u.kids)]) hb5 hb6'
  have hM4:=(hM3.new hb5 (.cells [S pa.name,au pa.path])).new hb6' (.cells [.sl 1 none (Ty.encs u.kids)])
  have n5:=hM3.notin hb5
  have g4:=stay g4
  simp only[go_sem,rE,rA,d56,Ne.symm d56,lx d56]
  generalize((H3.set b5 (.cells [S pa.name,au pa.path])).set b6 (.cells [.sl 1 none (Ty.encs u.kids)]))=H4 at*
  simp only[go_sem,rE,rA,e0,ga,gb,rL]
  refine dP (jo L m r bs hbs v3 hv.ok last3 3 (by omega) u 3 hu (by omega) (by omega) p3 (by omega) (by simp[ej];omega)) hM4 (by simp only[go_sem,rE,Ty.enc_eq u]) (.refl _) (fun _=>fZ _ _ _ _ (by simp[ej])) (by simp[dQ];exact n5) ?_
  rintro q e5 v5 VS5 NS5 p5 last5 H5 fp5 ⟨⟨x,rfl,hx,hxsm⟩,rfl,hp5,hp5',rfl⟩ hM5 hk5 -
  simp only[ej]at hp5'
  obtain⟨g4,n4⟩:=hk5 _ _ g4 n4
  simp only[go_sem,rE,rA,e4,Ex.enc_eq x,g4,rL]
  obtain⟨c1,c2⟩:=lc 3 (bl []) pa P0 x (by decide) hxsm
  exact fin _ _ _ (.mk 3 (bl []) pa P0 x (bl []) [] [] []) e5 VS5 NS5 p5 last5 (hM5.put n4 _) (e4) (ai _ _ _) (by have:=leSet pa x;rw[Ex.enc_eq x]at this;exact .agg this) rfl (by omega) (c2.up (by omega)) (by omega) (by omega) (by omega) (by omega)
 have sCall:∀(E:Env),E 0=.ptr m 0->E 4=.ptr b4 0->∀A:Env->aj->Prop,aT.wp P (kd23) (cE.inBlock 0 (cE.then A (bh.post [.cell 4 (some 15)] (fun q H'=>∃e' v' VS' NS' p' last',StR (iS d) d v p last (gJ d) q v' p' last'/\cO H' m r bs e' v' VS' NS' p' last')))) E H2:=by
  intro E e0 e4 A
  rw[kd23,fd23]
  simp only[go_sem,rE,rA,e0]
  refine dP (AN L m r bs hbs v N hv p2 last hl (by omega) (by omega) (by omega)) hM2 (rfl) (.refl _) (by simp) trivial ?_
  rintro q e3 v3 VS3 NS3 p3 last3 H3 fp3 ⟨⟨st,rfl,hst1,hst2⟩,rfl,h1,h2,h3,h4⟩ hM3 hk3 -
  obtain⟨g4,n4⟩:=hk3 _ _ g4 n4
  obtain⟨cs,hcs,C⟩:=stC st
  simp only[hcs,go_sem,rE,rA,e4,g4,C.len,rL]
  exact fin _ _ cs st e3 VS3 NS3 p3 last3 (hM3.put n4 _) (e4) (ai _ _ _) (by rw[hcs];exact .refl _) C.len (by omega) (hst2.up (by omega)) (by omega) (by omega) (by omega) (by omega)
 have sSet2:∀(E:Env),E 0=.ptr m 0->E 4=.ptr b4 0->∀A:Env->aj->Prop,aT.wp P (kd24) (cE.then A (bh.post [.cell 4 (some 15)] (fun q H'=>∃e' v' VS' NS' p' last',StR (iS d) d v p last (gJ d) q v' p' last'/\cO H' m r bs e' v' VS' NS' p' last'))) E H2:=by
  intro E e0 e4 A
  rw[kd24,fd24]
  simp only[go_sem,rE,rA,e0]
  refine dP (ie L m r bs hbs v hv.ok p2 last (by omega) (by omega)) hM2 (rfl) (.refl _) (by simp) trivial ?_
  rintro q e3 v3 VS3 NS3 p3 last3 H3 fp3 ⟨⟨pa,u,rfl,hpa,hu⟩,rfl,hp3,hp3',rfl⟩ hM3 hk3 -
  obtain⟨g4,n4⟩:=hk3 _ _ g4 n4
  simp only[go_sem,rE,rA,Ty.enc_eq u,Pl.enc]
  intro b5 hb5 b6 hb6
  have hb6':=tf hb6 (.cells [S pa.name,au pa.path])
  obtain⟨stay,ga,gb,d56⟩:=mz (c:=.cells [S pa.name,au pa.path]) (c':=.cells [.sl 1 none (Ty.encs u.kids)]) hb5 hb6'
  have hM4:=(hM3.new hb5 (.cells [S pa.name,au pa.path])).new hb6' (.cells [.sl 1 none (Ty.encs u.kids)])
  have n5:=hM3.notin hb5
  have g4:=stay g4
  simp only[go_sem,rE,rA,d56,Ne.symm d56,lx d56]
  generalize((H3.set b5 (.cells [S pa.name,au pa.path])).set b6 (.cells [.sl 1 none (Ty.encs u.kids)]))=H4 at*
  simp only[go_sem,rE,rA,e0,ga,gb,rL]
  refine dP (jo L m r bs hbs v3 hv.ok last3 2 (by omega) u 2 hu (by omega) (by omega) p3 (by omega) (by simp[ej];omega)) hM4 (by simp only[go_sem,rE,Ty.enc_eq u]) (.refl _) (fun _=>fZ _ _ _ _ (by simp[ej])) (by simp[dQ];exact n5) ?_
  rintro q e5 v5 VS5 NS5 p5 last5 H5 fp5 ⟨⟨x,rfl,hx,hxsm⟩,rfl,hp5,hp5',rfl⟩ hM5 hk5 -
  simp only[ej]at hp5'
  obtain⟨g4,n4⟩:=hk5 _ _ g4 n4
  simp only[go_sem,rE,rA,e4,Ex.enc_eq x,g4,rL]
  obtain⟨c1,c2⟩:=lc 3 (bl []) pa P0 x (by decide) hxsm
  exact fin _ _ _ (.mk 3 (bl []) pa P0 x (bl []) [] [] []) e5 VS5 NS5 p5 last5 (hM5.put n4 _) (e4) (ai _ _ _) (by have:=leSet pa x;rw[Ex.enc_eq x]at this;exact .agg this) rfl (by omega) (c2.up (by omega)) (by omega) (by omega) (by omega) (by omega)
 have sIf:∀d',d=d'+1->∀(E:Env),E 0=.ptr m 0->E 1=I (d+1:Nat)->E 4=.ptr b4 0->aT.wp P (kd25) (bh.post [.cell 4 (some 15)] (fun q H'=>∃e' v' VS' NS' p' last',StR (iS d) d v p last (gJ d) q v' p' last'/\cO H' m r bs e' v' VS' NS' p' last')) E H2:=by
  intro d' hdd E e0 e1 e4
  rw[kd25,fd25]
  have hbd:=hbody d' hdd
  have hcd:iS d=6+5*iS d':=by rw[hdd,iS]
  have hsd:gJ d=20000+36*gJ d':=by rw[hdd,gJ]
  have hd1:((d+1:Nat):Int) - 1=((d'+1:Nat):Int):=by omega
  have w0:=aP (n:=((d+1:Nat):Int) - 1) (by omega) (by omega)
  rw[hd1]at w0
  have hscd:=rZ d'
  simp only[go_sem,rE,rA,e0]
  refine dP (as':=[.ptr m 0,.agg [NIL],I 3]) (jo L m r bs hbs v hv.ok last 3 (by omega) (.mk []) 3 dK (by omega) (by omega) p2 (by omega) (by simp[ej];omega)) hM2 (rfl) ⟨.refl _,eX,.refl _,trivial⟩ (by simp) trivial ?_
  rintro q e3 v3 VS3 NS3 p3 last3 H3 fp3 ⟨⟨x,rfl,hx,hxsm⟩,rfl,hp3,hp3',rfl⟩ hM3 hk3 -
  simp only[ej]at hp3'
  obtain⟨g4,n4⟩:=hk3 _ _ g4 n4
  simp only[go_sem,rE,rA,e4,Ex.enc_eq x,rL]
  intro b11 hb11
  have n11:=hM3.notin hb11
  have d411:=al g4 hb11
  let C:AC->AC->List AC:=fun t l=>[I 5,S (bl []),S (bl []),NIL,S (bl []),NIL,I x.kind,I x.num,S x.place.name,au x.place.path,.sl 5 none (Ex.encs x.kids),S (bl []),NIL,t,l]
  have hM4:=hM3.new hb11 (.cells (C NIL NIL))
  have g11:(H3.set b11 (.cells (C NIL NIL))).get b11=some (.cells (C NIL NIL)):=ai _ _ _
  have g4:(H3.set b11 (.cells (C NIL NIL))).get b4=_:=(ae _ _ d411).trans g4
  have hom:=hM4.obj
  simp only[C]at hom g11 g4 hM4
  simp only[go_sem,rE,rA,e0,Ex.enc_eq x,rL]
  generalize(H3.set b11 (.cells [I 5,S (bl []),S (bl []),NIL,S (bl []),NIL,I x.kind,I x.num,S x.place.name,au x.place.path,.sl 5 none (Ex.encs x.kids),S (bl []),NIL,NIL,NIL]))=H4 at*
  clear hM3 hb11 hk3
  simp only[go_sem,rE,rA,e0,hom]
  refine sd L hM4.env (by have:=hv.vl;omega) (by have:=hv.nl;omega) (rfl) (by simp[dQ];exact hM4.nm) ?_
  intro a VSa NSa H5 fp5 hEa hs5 hnew hf5
  have hM5:cO H5 m r bs e3 v3 VS3 NS3 p3 last3:=hM4.mono fun b hb=>by obtain⟨o,ho⟩:=aI.1 (hM4.mem hb);rw[hs5 _ _ ho,ho]
  have old:∀{b o},H4.get b=some o->¬aQ a VSa NSa b:=fun hb h=>by have:=hnew _ h;rw[hb]at this;simp at this
  have na4:=old g4
  have na11:=old g11
  have nam:=old hom
  have nar:=old hM4.rd
  have nae:∀b,aQ e3 VS3 NS3 b->¬aQ a VSa NSa b:=fun b hb h=>hM4.env.mem hb (hnew _ h)
  have g4:=hs5 _ _ g4
  have g11:=hs5 _ _ g11
  have nfm:¬fp5 m:=fun h=>by
   rcases hf5 _ h with h|h
   ·exact hM4.nm h
   ·rw[hom]at h;simp at h
  have hom:=hs5 _ _ hom
  clear hM4 hs5 hnew hf5 old
  simp only[go_sem,rE,rA,rL,e0,hom]
  refine⟨by simp;exact nfm,?_⟩
  intro b12 hb12
  have dm12:=al hom hb12
  have dr12:=al hM5.rd hb12
  have d412:=al g4 hb12
  have d1112:=al g11 hb12
  have hMx:cO (H5.set b12 (.cells [.ptr r 0,.ptr a 0,I last3])) b12 r bs a v3 VSa NSa p3 last3:=
   ⟨ai _ _ _,by rw[ae _ _ dr12];exact hM5.rd,hEa.new hb12 _,Ne.symm dr12,hEa.notin hb12,nar⟩
  have hMm:=hM5.new hb12 (.cells [.ptr r 0,.ptr a 0,I last3])
  have nme:¬aQ e3 VS3 NS3 b12:=hM5.env.notin hb12
  have g4:(H5.set b12 (.cells [.ptr r 0,.ptr a 0,I last3])).get b4=_:=(ae _ _ d412).trans g4
  have g11:(H5.set b12 (.cells [.ptr r 0,.ptr a 0,I last3])).get b11=_:=(ae _ _ d1112).trans g11
  have hom:=hMm.obj
  generalize(H5.set b12 (.cells [.ptr r 0,.ptr a 0,I last3]))=H6 at*
  clear hM5 hEa hb12
  simp only[go_sem,rE,rA,e0,e1,hom]
  refine bw (cW L r bs p3 3 hbs (by omega) (by omega)) (rfl) hMx.rd (by simp) trivial ?_
  rintro q p7 hp7 hp7' ⟨k7,rfl,hk70,hk71⟩
  have hEm:bA (H6.set r (RdO bs p7)) e3 v3 VS3 NS3:=hMm.env.mono fun b hb=>ae _ _ (by rintro rfl;exact hMm.nr hb)
  have hMx:=hMx.setR p7
  have n4r:b4≠r:=d4r
  have n11r:b11≠r:=fun h=>n11 (.inr (.inl h))
  have g4:(H6.set r (RdO bs p7)).get b4=_:=(ae _ _ n4r).trans g4
  have g11:(H6.set r (RdO bs p7)).get b11=_:=(ae _ _ n11r).trans g11
  have hom:(H6.set r (RdO bs p7)).get m=_:=(ae _ _ hmr).trans hom
  have nm_:=hMm.nm
  have nr_:=hMm.nr
  generalize H6.set r (RdO bs p7)=H7 at*
  clear hMm
  have w7:=aP (n:=1+k7) (by omega) (by omega)
  have hk7n:1+k7=((1+k7.toNat:Nat):Int):=by omega
  have hkc:(1+k7.toNat)*iS d'<=3*iS d':=bu _ (by omega)
  simp only[go_sem,rE,rA,e0,e1,w7,hd1,w0]
  refine dP (hbd b12 r bs hbs v3 N (1+k7.toNat) hv (by omega) (by omega) p7 last3 (by omega) (by omega) (by omega) (by omega)) hMx (by simp only[go_sem,rE,hk7n]) (.refl _) (by simp) trivial ?_
  rintro q a8 vx VSx NSx p8 lastx H8 fp8 ⟨⟨l1,rfl,hl1a,hl1b,hl1c⟩,⟨hvx,hvx2,hvx3⟩,hp8,hp8',hlx,hlx'⟩ hMx8 hk8 -
  have tx:∀{b},b≠b12->b≠r->¬aQ a VSa NSa b->¬cv b12 r a VSa NSa b:=by
   rintro b h1 h2 h3 (h|h|h)
   ·exact h1 h
   ·exact h2 h
   ·exact h3 h
  obtain⟨g4,n4x⟩:=hk8 _ _ g4 (tx d412 n4r na4)
  obtain⟨g11,n11x⟩:=hk8 _ _ g11 (tx d1112 n11r na11)
  obtain⟨hom,nmx⟩:=hk8 _ _ hom (tx dm12 hmr nam)
  obtain⟨hEm,nex⟩:=hEm.keep hk8 fun b hb=>tx (by rintro rfl;exact nme hb) (by rintro rfl;exact nr_ hb) (nae _ hb)
  clear hk8 hMx
  simp only[go_sem,rE,rA,g11,rL]
  have hMx9:=hMx8.put n11x (.cells (C (.sl 15 none (l1.map St.enc)) NIL))
  have hEm9:bA (H8.set b11 (.cells (C (.sl 15 none (l1.map St.enc)) NIL))) e3 v3 VS3 NS3:=hEm.mono fun b hb=>ae _ _ (by rintro rfl;exact n11 (.inr (.inr hb)))
  have g49:(H8.set b11 (.cells (C (.sl 15 none (l1.map St.enc)) NIL))).get b4=_:=(ae _ _ d411).trans g4
  have d11m:m≠b11:=fun h=>n11 (.inl h.symm)
  have hom9:(H8.set b11 (.cells (C (.sl 15 none (l1.map St.enc)) NIL))).get m=_:=(ae _ _ d11m).trans hom
  have g119:(H8.set b11 (.cells (C (.sl 15 none (l1.map St.enc)) NIL))).get b11=_:=ai _ _ _
  clear g4 g11 hom hEm hMx8
  simp only[C]at hMx9 hEm9 g49 hom9 g119
  generalize(H8.set b11 (.cells [I 5,S (bl []),S (bl []),NIL,S (bl []),NIL,I x.kind,I x.num,S x.place.name,au x.place.path,.sl 5 none (Ex.encs x.kids),S (bl []),NIL,.sl 15 none (l1.map St.enc),NIL]))=H9 at*
  have hx9:=hMx9.obj
  simp only[go_sem,rE,rA,e0,hom9]
  refine sd L hEm9 (by have:=hv.vl;omega) (by have:=hv.nl;omega) (rfl) (by simp[dQ];exact nm_) ?_
  intro a2 VSb NSb H10 fp10 hEb hs10 hnew hf10
  have hEm10:bA H10 e3 v3 VS3 NS3:=hEm9.sub hs10
  have old:∀{b o},H9.get b=some o->¬aQ a2 VSb NSb b:=fun hb h=>by have:=hnew _ h;rw[hb]at this;simp at this
  have na4:=old g49
  have na11:=old g119
  have nam:=old hom9
  have nar:=old hMx9.rd
  have nae:∀b,aQ e3 VS3 NS3 b->¬aQ a2 VSb NSb b:=fun b hb h=>hEm9.mem hb (hnew _ h)
  have hr10:=hs10 _ _ hMx9.rd
  have g4:=hs10 _ _ g49
  have g11:=hs10 _ _ g119
  have nfm:¬fp10 m:=fun h=>by
   rcases hf10 _ h with h|h
   ·exact nm_ h
   ·rw[hom9]at h;simp at h
  have nfx:¬fp10 b12:=fun h=>by
   rcases hf10 _ h with h|h
   ·exact nme h
   ·rw[hx9]at h;simp at h
  have hx10:=hs10 _ _ hx9
  have hom:=hs10 _ _ hom9
  clear hEm9 hMx9 hs10 hnew hf10 old g49 g119 hom9 hx9
  simp only[go_sem,rE,rA,rL,e0,hom,hx10]
  refine⟨by simp;exact nfx,?_⟩
  intro b13 hb13
  have dm13:=al hom hb13
  have dr13:=al hr10 hb13
  have d413:=al g4 hb13
  have d1113:=al g11 hb13
  have hMy:cO (H10.set b13 (.cells [.ptr r 0,.ptr a2 0,I lastx])) b13 r bs a2 v3 VSb NSb p8 lastx:=
   ⟨ai _ _ _,by rw[ae _ _ dr13];exact hr10,hEb.new hb13 _,Ne.symm dr13,hEb.notin hb13,nar⟩
  have hEm:=hEm10.new hb13 (.cells [.ptr r 0,.ptr a2 0,I lastx])
  have nye:¬aQ e3 VS3 NS3 b13:=hEm10.notin hb13
  have g4:(H10.set b13 (.cells [.ptr r 0,.ptr a2 0,I lastx])).get b4=_:=(ae _ _ d413).trans g4
  have g11:(H10.set b13 (.cells [.ptr r 0,.ptr a2 0,I lastx])).get b11=_:=(ae _ _ d1113).trans g11
  have hom:(H10.set b13 (.cells [.ptr r 0,.ptr a2 0,I lastx])).get m=_:=(ae _ _ dm13).trans hom
  generalize(H10.set b13 (.cells [.ptr r 0,.ptr a2 0,I lastx]))=H11 at*
  clear hEm10 hEb hb13 hx10
  simp only[go_sem,rE,rA,e0,e1,hom]
  refine bw (cW L r bs p8 3 hbs (by omega) (by omega)) (rfl) hMy.rd (by simp) trivial ?_
  rintro q p12 hp12 hp12' ⟨k12,rfl,hk120,hk121⟩
  have hEm:bA (H11.set r (RdO bs p12)) e3 v3 VS3 NS3:=hEm.mono fun b hb=>ae _ _ (by rintro rfl;exact nr_ hb)
  have hMy:=hMy.setR p12
  have g4:(H11.set r (RdO bs p12)).get b4=_:=(ae _ _ n4r).trans g4
  have g11:(H11.set r (RdO bs p12)).get b11=_:=(ae _ _ n11r).trans g11
  have hom:(H11.set r (RdO bs p12)).get m=_:=(ae _ _ hmr).trans hom
  generalize H11.set r (RdO bs p12)=H12 at*
  have hk12n:k12=((k12.toNat:Nat):Int):=by omega
  have hkc2:k12.toNat*iS d'<=2*iS d':=bu _ (by omega)
  simp only[go_sem,rE,rA,e0,e1,hd1,w0]
  refine dP (hbd b13 r bs hbs v3 N k12.toNat hv (by omega) (by omega) p12 lastx (by omega) (by omega) (by omega) (by omega)) hMy (by simp only[go_sem,rE,<-hk12n]) (.refl _) (by simp) trivial ?_
  rintro q a13 vy VSy NSy p13 lasty H13 fp13 ⟨⟨l2,rfl,hl2a,hl2b,hl2c⟩,⟨hvy,hvy2,hvy3⟩,hp13,hp13',hly,hly'⟩ hMy13 hk13 -
  have ty:∀{b},b≠b13->b≠r->¬aQ a2 VSb NSb b->¬cv b13 r a2 VSb NSb b:=by
   rintro b h1 h2 h3 (h|h|h)
   ·exact h1 h
   ·exact h2 h
   ·exact h3 h
  obtain⟨g4,n4y⟩:=hk13 _ _ g4 (ty d413 n4r na4)
  obtain⟨g11,n11y⟩:=hk13 _ _ g11 (ty d1113 n11r na11)
  obtain⟨hom,nmy⟩:=hk13 _ _ hom (ty dm13 hmr nam)
  obtain⟨hEm,ney⟩:=hEm.keep hk13 fun b hb=>ty (by rintro rfl;exact nye hb) (by rintro rfl;exact nr_ hb) (nae _ hb)
  clear hk13 hMy
  have hoy:=hMy13.obj
  have hry:=hMy13.rd
  have d13m:b13≠m:=fun h=>nmy (.inl h.symm)
  have d1311:b13≠b11:=fun h=>n11y (.inl h.symm)
  simp only[go_sem,rE,rA,e0,e4,g11,g4,hom,hoy,d13m,Ne.symm d13m,d1311,Ne.symm d1311,d11m,Ne.symm d11m,d411,Ne.symm d411,dmr,Ne.symm dmr,rL]
  have hMm:cO H13 m r bs e3 v3 VS3 NS3 p13 last3:=⟨hom,hry,hEm,hmr,nm_,nr_⟩
  refine fin _ _ _ (.mk 5 (bl []) P0 P0 x (bl []) [] l1 l2) e3 VS3 NS3 p13 lasty (((hMm.put n11 _).setL lasty).put n4 _) (e4) (ai _ _ _) (by have:=leIf x l1 l2;rw[Ex.enc_eq x]at this;exact .agg this) rfl ?_ (by rw[hdd];exact .mk (by decide) hxsm (by simp) hl1c hl2c) (by omega) (by omega) (by omega) (by omega)
  rw[dx]
  simp[St.args,St.thn,St.els]
  omega
 have rest:∀(E:Env),E 0=.ptr m 0->E 1=I (d+1:Nat)->E 4=.ptr b4 0->aT.wp P (kd26) (bh.post [.cell 4 (some 15)] (fun q H'=>∃e' v' VS' NS' p' last',StR (iS d) d v p last (gJ d) q v' p' last'/\cO H' m r bs e' v' VS' NS' p' last')) E H2:=by
  intro E e0 e1 e4
  rw[kd26,fd26]
  by_cases hd0:d=0
  ·have:((d+1:Nat):Int)<2:=by omega
   simp only[go_sem,rE,rA,e1,this,decide_true]
   exact sSet2 _ (by simp only[go_sem,rE,e0]) (by simp only[go_sem,rE,e4]) _
  ·have:¬((d+1:Nat):Int)<2:=by omega
   simp only[go_sem,rE,rA,e1,this,decide_false]
   exact sIf (d - 1) (by omega) _ (e0) (e1) (e4)
 have hk:k2=0\/k2=1\/k2=2\/k2=3\/k2=4\/k2=5\/k2=6\/k2=7\/k2=8\/k2=9\/k2=10\/k2=11:=by omega
 rcases hk with rfl|rfl|rfl|rfl|rfl|rfl|rfl|rfl|rfl|rfl|rfl|rfl
 all_goals simp only[go_sem,rE,rA,aF]
 ·exact sLet _ (by first|rfl|simp only[go_sem,rE]) (by first|rfl|simp only[go_sem,rE]) _
 ·exact sLend _ (by first|rfl|simp only[go_sem,rE]) (by first|rfl|simp only[go_sem,rE]) _
 ·exact sLend _ (by first|rfl|simp only[go_sem,rE]) (by first|rfl|simp only[go_sem,rE]) _
 ·exact sLend _ (by first|rfl|simp only[go_sem,rE]) (by first|rfl|simp only[go_sem,rE]) _
 ·exact sSet _ (by first|rfl|simp only[go_sem,rE]) (by first|rfl|simp only[go_sem,rE]) _
 ·exact sSet _ (by first|rfl|simp only[go_sem,rE]) (by first|rfl|simp only[go_sem,rE]) _
 ·exact sSet _ (by first|rfl|simp only[go_sem,rE]) (by first|rfl|simp only[go_sem,rE]) _
 ·exact sCall _ (by first|rfl|simp only[go_sem,rE]) (by first|rfl|simp only[go_sem,rE]) _
 ·exact sCall _ (by first|rfl|simp only[go_sem,rE]) (by first|rfl|simp only[go_sem,rE]) _
 ·exact sCall _ (by first|rfl|simp only[go_sem,rE]) (by first|rfl|simp only[go_sem,rE]) _
 ·exact rest _ (by first|rfl|simp only[go_sem,rE]) (by first|rfl|simp only[go_sem,rE]) (by first|rfl|simp only[go_sem,rE])
 ·exact rest _ (by first|rfl|simp only[go_sem,rE]) (by first|rfl|simp only[go_sem,rE]) (by first|rfl|simp only[go_sem,rE])
theorem sA(L:Lib P F):∀d,d<=20->Bn P F d
 |0,h=>sB L 0 h (by intro d' h;omega)
 |d+1,h=>sB L (d+1) h fun d' hd=>by
  have:d'=d:=by omega
  subst this
  exact uZ L d' (by omega) (sA L d' (by omega))
theorem yS(L:Lib P F)(d:Nat)(h:d<=20):Bv P F d:=uZ L d h (sA L d h)
end
def FC:Int:=10^12
structure Fu.good(f:Fu):Prop where
 okS:f.okS
 pars:0<f.params.length/\f.params.length<=4
 blen:f.body.length<=6
 body:bq f.body<=966
 sms:∀s∈f.body,s.sx 3
 says:f.says.sm
 nm:f.name.size≠5
 pnm:∀x∈f.params,x.name.size<=2
structure nQ(H:aj)(r:Nat)(bs:List UInt8)(p:Int)(b4 b6:Nat)(c6:List AC):Prop where
 rd:H.get r=some (RdO bs p)
 z:H.get b4=some (.cells [S (bl []),NIL,B false,NIL,NIL,I 0,I 0,S (bl []),NIL,NIL,S (bl []),NIL])
 f:H.get b6=some (.cells c6)
theorem nQ.mono{H H':aj}{r:Nat}{bs:List UInt8}{p:Int}{b4 b6:Nat}{c6:List AC}(h:nQ H r bs p b4 b6 c6)(hk:∀d,(d=r\/d=b4\/d=b6)->H'.get d=H.get d):nQ H' r bs p b4 b6 c6:=
 ⟨(hk r (.inl rfl)).trans h.rd,(hk b4 (.inr (.inl rfl))).trans h.z,(hk b6 (.inr (.inr rfl))).trans h.f⟩
theorem nQ.new{H:aj}{r:Nat}{bs:List UInt8}{p:Int}{b4 b6:Nat}{c6:List AC}(h:nQ H r bs p b4 b6 c6){b:Nat}(hb:H.get b=none)(o:cz):nQ (H.set b o) r bs p b4 b6 c6:=
 h.mono fun d hd=>ae _ _ (by
  rintro rfl
  rcases hd with rfl|rfl|rfl
  ·rw[h.rd]at hb;simp at hb
  ·rw[h.z]at hb;simp at hb
  ·rw[h.f]at hb;simp at hb)
theorem sg{b m r e:Nat}{VS NS:AC}(h1:b≠m)(h2:b≠r)(h3:¬aQ e VS NS b):¬cv m r e VS NS b:=by
 rintro(h|h|h)
 ·exact h1 h
 ·exact h2 h
 ·exact h3 h
theorem Ay(f:Fu):∀x∈f.enc,x.one=true:=by
 rw[Fu.enc,Ty.enc_eq,Ex.enc_eq];simp[AC.one,au,Pl.enc]
theorem tG:∀p:List Fu,LeR (p.map Fu.enc) (p.map Fu.enc)
 |[]=>trivial
 |f::p=>⟨.refl (Ay f),tG p⟩
theorem Ao(f:Fu){X T Bd s1 s2 s3 s4 s5 g1 g2:AC}(hX:Le X (.sl 3 none (f.params.map Pa.enc)))(hT:Le T (.sl 1 none (Ty.encs f.type.kids)))(hB:Le Bd (.sl 15 none (St.encs f.body)))(hs:LeC [s1,s2,s3,s4,s5] f.says.enc)(hg:LeC [g1,g2] f.gives.enc):
 LeC [S f.name,X,B f.lent,T,Bd,s1,s2,s3,s4,s5,g1,g2] f.enc:=by
 rw[Ex.enc_eq]at hs
 rw[Fu.enc,Ty.enc_eq f.type,Ex.enc_eq f.says]
 obtain⟨h1,h2,h3,h4,h5,-⟩:=hs
 obtain⟨h6,h7,-⟩:=hg
 exact⟨⟨.refl _,rfl⟩,⟨hX,rfl⟩,⟨.refl _,rfl⟩,⟨hT,rfl⟩,⟨hB,rfl⟩,h1,h2,h3,h4,h5,h6,h7,trivial⟩
theorem zM(p:Pg)(f:Fu)(hp:∀g∈p,g.okS/\g.params.length<=4)(hf:f.okS)(hpl:p.length<=4)(h1:1<=f.params.length)(h2:f.params.length<=4):(cL (p++[f]) p.length).dr 4:=by
 have hst:cL (p++[f]) p.length=(⟨p++[f],p.length,[],[],0⟩:En).givens f.params:=by simp[cL]
 have hup:=pA (p++[f]) p.length
 rw[hst]at hup⊢
 obtain⟨g1,g2,g3,g4⟩:=kg f.params (⟨p++[f],p.length,[],[],0⟩:En)
 refine⟨⟨by rw[g3];simp;omega,fun x hx=>?_⟩,hup,by rw[g3];simp;omega,by rw[g3];simp;omega,by rw[g4];simp;omega,fun g hg=>?_,by rw[g1];simp;omega,by rw[g1,g2];simp⟩
 ·rw[g3]at hx
  simp at hx
  obtain⟨y,hy,rfl⟩:=hx
  exact⟨⟨by simp[Pa.vr],by simp[Pa.vr]⟩,(hf.params y hy).type⟩
 ·rw[g1]at hg
  simp at hg
  rcases hg with hg|rfl
  ·exact hp g hg
  ·exact⟨hf,h2⟩
section
variable {P:Program}{F:Ids}
theorem sc(L:Lib P F){K:Env->aj->Prop}{xs:List aJ}{E:Env}{H:aj}{l:Lds}{f:Fps}{i:Nat}{args:List aG}{d:Option Nat}(p:Pg)(fn:Nat)(hfn:fn<p.length)(hpl:p.length<=2^20)(hpa:(p[fn]).params.length<=2^20){as':List AC}
(ha:args.map (aG.ev E)=as')(hle:LeA as' [.agg (Pg.enc p),I fn])
(h:∀a VS NS H1 fp,bA H1 a (cL p fn) VS NS->H.sub H1->(∀d,aQ a VS NS d->H.get d=none)->bp P false K xs (E.put d (.ptr a 0)) H1 l ((i,fp)::f)):
 bp P false K (⟨i,d,none,.eff (.call 91 args),[]⟩::xs) E H l f:=by
 have h0:H.only (fun _=>False)=.empty:=aj.ext fun b=>by rw[bS (by simp)];rfl
 have hc:=c_start L p fn hfn hpl hpa
 rw[<-h0]at hc
 refine gu (fun _=>False) hc ha hle (by simp) trivial ?_
 rintro q H' H1 ⟨a,VS,NS,rfl,hE⟩ hsub hafter hnew -
 refine h a VS NS H1 _ (hE.sub hsub) (fun b o hb=>?_) (fun d hd=>?_)
 ·rw[hafter.out b (by simp) (by rw[hb];simp)];exact hb
 ·rcases hnew d (hE.mem hd)with h|h
  ·exact h.elim
  ·exact h
theorem fn_tail(L:Lib P F)(r:Nat)(bs:List UInt8)(hbs:bs.length<=2000)(nm:ByteArray)(ps:List Pa)(bd:List St)(v:En)(N:Nat)(hv:v.dr N)(hN:N<=2^19)(p:Int)(hp:0<=p)(hp2:p+FC<=2^50)
(hps:∀x∈ps,x.ok)(hnm:nm.size≠5)(hpn:∀x∈ps,x.name.size<=2)(hpl:0<ps.length/\ps.length<=4)(hbl:bd.length<=6)(hbd:bq bd<=966)(hbs2:∀s∈bd,s.sx 3)(b4 b6 b10 e:Nat)(VS NS X:AC)(p1 last:Int)(E:Env)(H:aj)(hM:cO H b10 r bs e v VS NS p1 last)(d46:b4≠b6)
(g4:H.get b4=some (.cells [S (bl []),NIL,B false,NIL,NIL,I 0,I 0,S (bl []),NIL,NIL,S (bl []),NIL]))(g6:H.get b6=some (.cells [S nm,X,B false,NIL,.sl 15 none (bd.map St.enc),I 0,I 0,S (bl []),NIL,NIL,S (bl []),NIL]))(n4:¬cv b10 r e VS NS b4)(n6:¬cv b10 r e VS NS b6)
(e0:E 0=.ptr r 0)(e4:E 4=.ptr b4 0)(e6:E 6=.ptr b6 0)(e10:E 10=.ptr b10 0)(hX:Le X (.sl 3 none (ps.map Pa.enc)))(hp1:p<=p1)(hp1':p1<=p+10^11)(hl0:0<=last):
 aT.wp P (kd28) (bh.post [.cell 4 (some 12)] (RdR r bs p FC fun q=>∃f:Fu,q=.agg f.enc/\f.good)) E H:=by
 rw[kd28,fd28]
 simp only[FC]at hp2
 have fin:∀(E':Env) (H':aj) (c6:List AC) (f:Fu) (p':Int),H'.get r=some (RdO bs p')->E' 4=.ptr b4 0->b4≠r->LeC c6 f.enc->c6.length=12->f.good->p<=p'->p'<=p+FC->(bh.post [.cell 4 (some 12)] (RdR r bs p FC fun q=>∃f:Fu,q=.agg f.enc/\f.good)) .ret E' (H'.set b4 (.cells c6)):=by
  intro E' H' c6 f p' hr h4 hn hle hlen hg h1 h2
  exact bP (q':=.agg f.enc) (off:=0) h4 (ai _ _ _) (by simp[fH,hlen,cy (Nat.le_of_eq hlen)]) (.agg hle) (gK (by rw[ae _ _ (Ne.symm hn)];exact hr)) ⟨p',h1,h2,rfl,f,rfl,hg⟩
 have d4r:b4≠r:=fun h=>n4 (.inr (.inl h))
 have d6r:b6≠r:=fun h=>n6 (.inr (.inl h))
 have tail2:∀(E:Env) (H:aj) (e:Nat) (VS NS:AC) (p1 last:Int),cO H b10 r bs e v VS NS p1 last->H.get b4=some (.cells [S (bl []),NIL,B false,NIL,NIL,I 0,I 0,S (bl []),NIL,NIL,S (bl []),NIL])->H.get b6=some (.cells [S nm,X,B false,NIL,.sl 15 none (bd.map St.enc),I 0,I 0,S (bl []),NIL,NIL,S (bl []),NIL])->
  ¬cv b10 r e VS NS b4->¬cv b10 r e VS NS b6->E 0=.ptr r 0->E 4=.ptr b4 0->E 6=.ptr b6 0->E 10=.ptr b10 0->p<=p1->p1<=p+10^11+1000->0<=last->
  aT.wp P (kd27) (bh.post [.cell 4 (some 12)] (RdR r bs p FC fun q=>∃f:Fu,q=.agg f.enc/\f.good)) E H:=by
  intro E H e VS NS p1 last hM g4 g6 n4 n6 e0 e4 e6 e10 hp1 hp1' hl0
  rw[kd27,fd27]
  simp only[go_sem,rE,rA]
  let J:Nat->Env->aj->Prop:=fun k E H=>∃(e:Nat) (VS NS:AC) (p':Int) (T s1 s2 s3 s4 s5:AC),cO H b10 r bs e v VS NS p' last/\H.get b4=some (.cells [S (bl []),NIL,B false,NIL,NIL,I 0,I 0,S (bl []),NIL,NIL,S (bl []),NIL])/\H.get b6=some (.cells [S nm,X,B false,T,.sl 15 none (bd.map St.enc),s1,s2,s3,s4,s5,S (bl []),NIL])/\
   ¬cv b10 r e VS NS b4/\¬cv b10 r e VS NS b6/\p<=p'/\p'<=p+10^11+1000+5000*k/\E 0=.ptr r 0/\E 4=.ptr b4 0/\E 6=.ptr b6 0/\E 10=.ptr b10 0/\E 15=I k
  refine aV 6 J ⟨e,VS,NS,p1,_,_,_,_,_,_,hM,g4,g6,n4,n6,hp1,by omega,e0,e4,e6,e10,rfl⟩ ?_
  clear hM g4 g6 n4 n6 e0 e4 e6 e10
  rintro k E H hk ⟨e,VS,NS,p',T,s1,s2,s3,s4,s5,hM,g4,g6,n4,n6,hp1,hp1',e0,e4,e6,e10,e15⟩
  simp only[wp_seq,go_sem,rE,rA,e15]
  refine aH (fun hlt=>?_) (fun hge=>?_)
  ·have w1:=aP (n:=(k:Int)+1) (by omega) (by omega)
   simp only[go_sem,rE,rA,e0]
   refine bw (jK L r bs hbs 3 3 (by omega) (by omega) p' (by omega) (by simp[eN];omega)) (rfl) hM.rd (by simp) trivial ?_
   rintro q p2 hp2 hp2' ⟨t,rfl,ht⟩
   simp only[eN]at hp2'
   have hM2:=hM.setR p2
   have g4:(H.set r (RdO bs p2)).get b4=_:=(ae _ _ d4r).trans g4
   have g6:(H.set r (RdO bs p2)).get b6=_:=(ae _ _ d6r).trans g6
   generalize H.set r (RdO bs p2)=H2 at*
   clear hM
   simp only[go_sem,rE,rA,e6,e10,g6,Ty.enc_eq t,rL]
   have hM3:=hM2.put n6 (.cells [S nm,X,B false,.sl 1 none (Ty.encs t.kids),.sl 15 none (bd.map St.enc),s1,s2,s3,s4,s5,S (bl []),NIL])
   have g4:(H2.set b6 (.cells [S nm,X,B false,.sl 1 none (Ty.encs t.kids),.sl 15 none (bd.map St.enc),s1,s2,s3,s4,s5,S (bl []),NIL])).get b4=_:=(ae _ _ d46).trans g4
   have g6:(H2.set b6 (.cells [S nm,X,B false,.sl 1 none (Ty.encs t.kids),.sl 15 none (bd.map St.enc),s1,s2,s3,s4,s5,S (bl []),NIL])).get b6=_:=ai _ _ _
   generalize(H2.set b6 (.cells [S nm,X,B false,.sl 1 none (Ty.encs t.kids),.sl 15 none (bd.map St.enc),s1,s2,s3,s4,s5,S (bl []),NIL]))=H3 at*
   clear hM2
   refine dP (jo L b10 r bs hbs v hv.ok last 3 (by omega) t 3 ⟨3,by omega,ht⟩ (by omega) (by omega) p2 (by omega) (by simp[ej];omega)) hM3 (by simp only[go_sem,rE,Ty.enc_eq t]) (.refl _) (by simp) trivial ?_
   rintro q e4' v4 VS4 NS4 p4 last4 H4 fp4 ⟨⟨x,rfl,hx,hxsm⟩,rfl,hp4,hp4',rfl⟩ hM4 hk4 -
   simp only[ej]at hp4'
   obtain⟨g4,n4⟩:=hk4 _ _ g4 n4
   obtain⟨g6,n6⟩:=hk4 _ _ g6 n6
   clear hk4 hM3
   have d106:b10≠b6:=fun h=>n6 (.inl h.symm)
   let C6:List AC:=[S nm,X,B false,.sl 1 none (Ty.encs t.kids),.sl 15 none (bd.map St.enc),I x.kind,I x.num,S x.place.name,au x.place.path,.sl 5 none (Ex.encs x.kids),S (bl []),NIL]
   have hM5:=hM4.put n6 (.cells C6)
   have g46:(H4.set b6 (.cells C6)).get b4=_:=(ae _ _ d46).trans g4
   have g66:(H4.set b6 (.cells C6)).get b6=some (.cells C6):=ai _ _ _
   simp only[C6]at hM5 g46 g66
   have ho4:=hM4.obj
   simp only[go_sem,rE,rA,e6,e10,g6,d106,ho4,Ex.enc_eq x,rL]
   generalize(H4.set b6 (.cells [S nm,X,B false,.sl 1 none (Ty.encs t.kids),.sl 15 none (bd.map St.enc),I x.kind,I x.num,S x.place.name,au x.place.path,.sl 5 none (Ex.encs x.kids),S (bl []),NIL]))=H5 at*
   clear hM4 g4 g6
   have hE5:=hM5.env
   refine lO L hE5 (by have:=hv.vl;omega) (by have:=hv.nl;omega) (rfl) ?_
   intro a VSa NSa H6 fp6 hEa hs6 hnew
   have dis:∀b,H5.get b≠none->¬aQ a VSa NSa b:=fun b hb h=>hb (hnew _ h)
   have na6:=dis b6 (by rw[g66];simp)
   have na4:=dis b4 (by rw[g46];simp)
   have g6:=hs6 _ _ g66
   have g4:=hs6 _ _ g46
   have hM6:cO H6 b10 r bs e4' v4 VS4 NS4 p4 last4:=hM5.mono fun b hb=>by obtain⟨o,ho⟩:=aI.1 (hM5.mem hb);rw[hs6 _ _ ho,ho]
   have nab:∀b,cv b10 r e4' VS4 NS4 b->¬aQ a VSa NSa b:=fun b hb=>dis b (hM5.mem hb)
   clear hs6 hnew dis hM5 hE5 g46 g66
   simp only[go_sem,rE,rA,e6,g6,rL]
   refine bJ (nJ L a _ x (aA _) hx v4 hv.ok) hEa (by simp only[go_sem,rE,Ex.enc_eq x]) (.refl _) (fun _=>⟨_,_,rfl,rfl⟩) (by simp[dQ]) ?_
   rintro q v7 VS7 NS7 H7 fp7 ⟨rfl,hv7⟩ hE7 hk7 hfp7
   have nf7:¬fp7 b6:=fun h=>(hfp7 b6 h).elim na6 (fun h=>by rw[g6]at h;simp at h)
   obtain⟨g6,na6⟩:=hk7 _ _ g6 na6
   obtain⟨g4,na4⟩:=hk7 _ _ g4 na4
   have key:∀b,cv b10 r e4' VS4 NS4 b->H7.get b=H6.get b/\¬aQ a VS7 NS7 b:=by
    intro b hb
    obtain⟨o,ho⟩:=aI.1 (hM6.mem hb)
    obtain⟨h1,h2⟩:=hk7 b o ho (nab b hb)
    exact⟨by rw[h1,ho],h2⟩
   have hM7:cO H7 b10 r bs e4' v4 VS4 NS4 p4 last4:=hM6.mono fun b hb=>(key b hb).1
   obtain⟨lk,wf1⟩:=En.expr_good x v4 hv.ok
   rw[<-hv7]at lk
   generalize(v4.expr x).2=t1 at*
   simp only[go_sem,rE,rA,e6,g6,jw,bi,cF,or_false,forall_eq,nf7,rL]
   refine bJ (nI L a v7 t1 t wf1) hE7 (by simp only[go_sem,rE,Ty.enc_eq t]) (.refl _) (fun _=>⟨_,_,rfl,rfl⟩) trivial ?_
   rintro q v8 VS8 NS8 H8 fp8 ⟨rfl,hv8⟩ hE8 hk8 -
   obtain⟨g6,na6⟩:=hk8 _ _ g6 na6
   obtain⟨g4,na4⟩:=hk8 _ _ g4 na4
   have key8:∀b,cv b10 r e4' VS4 NS4 b->H8.get b=H7.get b:=by
    intro b hb
    obtain⟨o,ho⟩:=aI.1 (hM7.mem hb)
    obtain⟨h1,h2⟩:=hk8 b o ho (key b hb).2
    rw[h1,ho]
   have hM8:cO H8 b10 r bs e4' v4 VS4 NS4 p4 last4:=hM7.mono key8
   clear key key8 hk8 hk7 hM6 hM7
   have ho8:=hE8.obj
   simp only[cR]at ho8
   simp only[go_sem,rE,rA,ho8]
   by_cases hc:v8.code=0
   ·have hc':(v8.code==0)=true:=by simpa using hc
    simp only[go_sem,rE,rA,hc',e4,e6,g4,g6,rL]
    refine fin _ _ _ ⟨nm,ps,false,t,bd,x,P0⟩ p4 hM8.rd (e4) d4r (Ao ⟨nm,ps,false,t,bd,x,P0⟩ hX (.refl _) (by rw[St.encs_map];exact .refl _) ?_ ⟨⟨.refl _,rfl⟩,⟨.nil 1,rfl⟩,trivial⟩) rfl ⟨⟨hps,⟨3,by omega,ht⟩⟩,hpl,hbl,hbd,hbs2,hxsm,hnm,hpn⟩ (by omega) (by simp only[FC];omega)
    rw[Ex.enc_eq x]
    exact⟨⟨.refl _,rfl⟩,⟨.refl _,rfl⟩,⟨.refl _,rfl⟩,⟨.refl _,rfl⟩,⟨.refl _,rfl⟩,trivial⟩
   ·have hc':(v8.code==0)=false:=by simpa using hc
    simp only[go_sem,rE,rA,hc',e15,w1]
    exact⟨by omega,_,aj.sub_refl _,e4',VS4,NS4,p4,_,_,_,_,_,_,hM8,g4,g6,n4,n6,by omega,by omega,e0,e4,e6,e10,rfl⟩
  ·simp only[go_sem,rE,rA,e4,e6,g4,g6,d46,rL]
   refine fin _ _ _ ⟨nm,ps,false,.mk [],bd,.mk 1 7 P0 [],P0⟩ p' ((ae _ _ (Ne.symm d6r)).trans hM.rd) (e4) d4r (Ao ⟨nm,ps,false,.mk [],bd,.mk 1 7 P0 [],P0⟩ hX (.nil 1) (by rw[St.encs_map];exact .refl _) ?_ ⟨⟨.refl _,rfl⟩,⟨.nil 1,rfl⟩,trivial⟩) rfl ⟨⟨hps,dK⟩,hpl,hbl,hbd,hbs2,.mk (by decide) (by simp),hnm,hpn⟩ (by omega) (by simp only[FC];omega)
   rw[Ex.enc]
   exact⟨⟨.refl _,rfl⟩,⟨.refl _,rfl⟩,⟨.refl _,rfl⟩,⟨.nil 1,rfl⟩,⟨.nil 5,rfl⟩,trivial⟩
 simp only[go_sem,rE,rA,e0]
 refine bw (cW L r bs p1 2 hbs (by omega) (by omega)) (rfl) hM.rd (by simp) trivial ?_
 rintro q p2 hp2' hp2'' ⟨k1,rfl,hk10,hk11⟩
 have hM2:=hM.setR p2
 have g4:(H.set r (RdO bs p2)).get b4=_:=(ae _ _ d4r).trans g4
 have g6:(H.set r (RdO bs p2)).get b6=_:=(ae _ _ d6r).trans g6
 generalize H.set r (RdO bs p2)=H2 at*
 clear hM
 by_cases hk1:k1=0
 ·simp only[hk1,go_sem,rE,rA,aF]
  let J:Nat->Env->aj->Prop:=fun k E H=>∃(e:Nat) (VS NS:AC) (p':Int),cO H b10 r bs e v VS NS p' last/\H.get b4=some (.cells [S (bl []),NIL,B false,NIL,NIL,I 0,I 0,S (bl []),NIL,NIL,S (bl []),NIL])/\H.get b6=some (.cells [S nm,X,B false,NIL,.sl 15 none (bd.map St.enc),I 0,I 0,S (bl []),NIL,NIL,S (bl []),NIL])/\
   ¬cv b10 r e VS NS b4/\¬cv b10 r e VS NS b6/\p<=p'/\p'<=p+10^11+10+50*k/\E 0=.ptr r 0/\E 4=.ptr b4 0/\E 6=.ptr b6 0/\E 10=.ptr b10 0/\E 11=I k
  refine aV 8 J ⟨e,VS,NS,p2,hM2,g4,g6,n4,n6,by omega,by omega,e0,e4,e6,e10,rfl⟩ ?_
  clear hM2 g4 g6 n4 n6 e0 e4 e6 e10
  rintro k E H hk ⟨e,VS,NS,p',hM,g4,g6,n4,n6,hp1,hp1',e0,e4,e6,e10,e11⟩
  simp only[wp_seq,go_sem,rE,rA,e11]
  refine aH (fun hlt=>?_) (fun hge=>?_)
  ·have w1:=aP (n:=(k:Int)+1) (by omega) (by omega)
   simp only[go_sem,rE,rA,e10]
   refine dP (ie L b10 r bs hbs v hv.ok p' last (by omega) (by omega)) hM (rfl) (.refl _) (by simp) trivial ?_
   rintro q e3 v3 VS3 NS3 p3 last3 H3 fp3 ⟨⟨pa,u,rfl,hpa,hu⟩,rfl,hp3,hp3',rfl⟩ hM3 hk3 -
   obtain⟨g4,n4⟩:=hk3 _ _ g4 n4
   obtain⟨g6,n6⟩:=hk3 _ _ g6 n6
   simp only[go_sem,rE,rA,Ty.enc_eq u,Pl.enc]
   intro b12 hb12 b13 hb13
   have hb13':=tf hb13 (.cells [S pa.name,au pa.path])
   obtain⟨stay,ga,gb,d56⟩:=mz (c:=.cells [S pa.name,au pa.path]) (c':=.cells [.sl 1 none (Ty.encs u.kids)]) hb12 hb13'
   have hM4:=(hM3.new hb12 (.cells [S pa.name,au pa.path])).new hb13' (.cells [.sl 1 none (Ty.encs u.kids)])
   have g4:=stay g4
   have g6:=stay g6
   simp only[go_sem,rE,rA,d56,Ne.symm d56,lx d56]
   generalize((H3.set b12 (.cells [S pa.name,au pa.path])).set b13 (.cells [.sl 1 none (Ty.encs u.kids)]))=H5 at*
   clear hk3 hM3 hb12 hb13 hb13' stay
   have ho5:=hM4.obj
   have hE5:=hM4.env
   simp only[go_sem,rE,rA,e10,ho5]
   refine lO L hE5 (by have:=hv.vl;omega) (by have:=hv.nl;omega) (rfl) ?_
   intro a VSa NSa H6 fp6 hEa hs6 hnew
   have dis:∀b,H5.get b≠none->¬aQ a VSa NSa b:=fun b hb h=>hb (hnew _ h)
   have na6:=dis b6 (by rw[g6];simp)
   have na4:=dis b4 (by rw[g4];simp)
   have na12:=dis b12 (by rw[ga];simp)
   have na13:=dis b13 (by rw[gb];simp)
   have g6:=hs6 _ _ g6
   have g4:=hs6 _ _ g4
   have ga:=hs6 _ _ ga
   have gb:=hs6 _ _ gb
   have hM6:cO H6 b10 r bs e3 v3 VS3 NS3 p3 last3:=hM4.mono fun b hb=>by obtain⟨o,ho⟩:=aI.1 (hM4.mem hb);rw[hs6 _ _ ho,ho]
   have nab:∀b,cv b10 r e3 VS3 NS3 b->¬aQ a VSa NSa b:=fun b hb=>dis b (hM4.mem hb)
   clear hs6 hnew dis hM4 hE5 ho5
   simp only[go_sem,rE,rA,ga,rL]
   refine bJ (e_use L a v3 hv.ok.len hv.ok.all pa (by omega)) hEa (by simp only[go_sem,rE,Pl.enc]) (.refl _) (by simp) trivial ?_
   rintro q v7 VS7 NS7 H7 fp7 ⟨rfl,hv7⟩ hE7 hk7 -
   obtain⟨g6,na6⟩:=hk7 _ _ g6 na6
   obtain⟨g4,na4⟩:=hk7 _ _ g4 na4
   obtain⟨ga,na12⟩:=hk7 _ _ ga na12
   obtain⟨gb,na13⟩:=hk7 _ _ gb na13
   have key:∀b,cv b10 r e3 VS3 NS3 b->H7.get b=H6.get b/\¬aQ a VS7 NS7 b:=by
    intro b hb
    obtain⟨o,ho⟩:=aI.1 (hM6.mem hb)
    obtain⟨h1,h2⟩:=hk7 b o ho (nab b hb)
    exact⟨by rw[h1,ho],h2⟩
   have hM7:cO H7 b10 r bs e3 v3 VS3 NS3 p3 last3:=hM6.mono fun b hb=>(key b hb).1
   have lk:v3.like v7:=hv7▸v3.use_like pa
   have hup7:Up v7.vars:=hv.up.core lk.vars
   have hok7:=lk.ok hv.ok
   have ho7:=hE7.obj
   simp only[cR]at ho7
   have skip:∀(E':Env) (H':aj),cO H' b10 r bs e3 v3 VS3 NS3 p3 last3->H'.get b4=some (.cells [S (bl []),NIL,B false,NIL,NIL,I 0,I 0,S (bl []),NIL,NIL,S (bl []),NIL])->H'.get b6=some (.cells [S nm,X,B false,NIL,.sl 15 none (bd.map St.enc),I 0,I 0,S (bl []),NIL,NIL,S (bl []),NIL])->E' 0=.ptr r 0->E' 4=.ptr b4 0->E' 6=.ptr b6 0->E' 10=.ptr b10 0->E' 11=I (k+1:Nat)->k<8/\∃H'',aj.sub H'' H'/\J (k+1) E' H'':=
    fun E' H' hM g4 g6 h0 h4 h6 h10 h11=>⟨by omega,H',aj.sub_refl _,e3,VS3,NS3,p3,hM,g4,g6,n4,n6,by omega,by omega,h0,h4,h6,h10,h11⟩
   by_cases hc:v7.code=0
   ·have hc':(v7.code==0)=true:=by simpa using hc
    simp only[go_sem,rE,rA,ho7,hc',ga,rL]
    refine bJ (sv L a v7 hok7.len (fun x hx=>(hok7.all x hx).1) hup7 pa) hE7 (by simp only[go_sem,rE,Pl.enc]) (.refl _) (by simp) trivial ?_
    rintro q v8 VS8 NS8 H8 fp8 ⟨rfl,hv8⟩ hE8 hk8 -
    obtain⟨g6,na6⟩:=hk8 _ _ g6 na6
    obtain⟨g4,na4⟩:=hk8 _ _ g4 na4
    obtain⟨ga,na12⟩:=hk8 _ _ ga na12
    obtain⟨gb,na13⟩:=hk8 _ _ gb na13
    have key8:∀b,cv b10 r e3 VS3 NS3 b->H8.get b=H7.get b:=by
     intro b hb
     obtain⟨o,ho⟩:=aI.1 (hM7.mem hb)
     obtain⟨h1,h2⟩:=hk8 b o ho (key b hb).2
     rw[h1,ho]
    have hM8:cO H8 b10 r bs e3 v3 VS3 NS3 p3 last3:=hM7.mono key8
    clear key key8 hk8 hk7 hM6 hM7
    cases hout:v7.outside pa
    ·simp only[go_sem,rE,rA,e11,w1]
     exact skip _ _ hM8 g4 g6 (e0) (e4) (e6) (e10) (rfl)
    ·have d126:b12≠b6:=by rintro rfl;rw[ga]at g6;simp at g6
     have d136:b13≠b6:=by rintro rfl;rw[gb]at g6;simp at g6
     simp only[go_sem,rE,rA,e4,e6,g4,g6,ga,gb,d46,d126,d136,rL]
     refine fin _ _ _ ⟨nm,ps,true,u,bd,E0,pa⟩ p3 ((ae _ _ (Ne.symm d6r)).trans hM8.rd) (e4) d4r (Ao ⟨nm,ps,true,u,bd,E0,pa⟩ hX (.refl _) (by rw[St.encs_map];exact .refl _) ⟨⟨.refl _,rfl⟩,⟨.refl _,rfl⟩,⟨.refl _,rfl⟩,⟨.nil 1,rfl⟩,⟨.nil 5,rfl⟩,trivial⟩ ⟨⟨.refl _,rfl⟩,⟨.refl _,rfl⟩,trivial⟩) rfl ⟨⟨hps,hu⟩,hpl,hbl,hbd,hbs2,vC,hnm,hpn⟩ (by omega) (by simp only[FC];omega)
   ·have hc':(v7.code==0)=false:=by simpa using hc
    simp only[go_sem,rE,rA,ho7,hc',e11,w1]
    exact skip _ _ hM7 g4 g6 (e0) (e4) (e6) (e10) (rfl)
  ·simp only[go_sem,rE,rA]
   exact tail2 _ _ e VS NS p' last hM g4 g6 n4 n6 (e0) (e4) (e6) (e10) (by omega) (by omega) hl0
 ·have hk1':(k1==0)=false:=by simpa using hk1
  simp only[hk1',go_sem,rE,rA]
  exact tail2 _ _ e VS NS p2 last hM2 g4 g6 n4 n6 (e0) (e4) (e6) (e10) (by omega) (by omega) hl0
theorem c_l71Fn(L:Lib P F)(r:Nat)(bs:List UInt8)(hbs:bs.length<=2000)(pr:Pg)(hpr:∀g∈pr,g.okS/\g.params.length<=4)(hpl:pr.length<=3)(p:Int)(hp:0<=p)(hp2:p+FC<=2^50):
 ACalls P 53 [.ptr r 0,.agg (Pg.enc pr)] (one r (RdO bs p)) (RdR r bs p FC fun q=>∃f:Fu,q=.agg f.enc/\f.good):=by
 simp only[FC]at hp2
 refine(L.a Tryz.func53 y53) (by simp[y53,f53]) ?_
 simp only[y53,f53,go_sem,rE,rA,Pg.enc]
 intro b3 hb3 b4 hb4
 have hr3:r≠b3:=by rintro rfl;rw[bD]at hb3;simp at hb3
 have d34:b3≠b4:=ny hb4
 have hr4:r≠b4:=by rintro rfl;rw[ae _ _ hr3,bD]at hb4;simp at hb4
 have hk:pr.length=0\/pr.length=1\/pr.length=2\/pr.length=3:=by omega
 obtain⟨nm,hnm,hn5⟩:∃nm,[[S (bl [102,97])],[S (bl [102,98])],[S (bl [102,99])],[S (bl [102,100])],[S (bl [102,101])]][pr.length]?=some [S nm]/\nm.size≠5:=by
  rcases hk with h|h|h|h<;>rw[h]<;>exact⟨_,rfl,by decide⟩
 simp only[go_sem,rE,rA,d34,Ne.symm d34,ao,hnm,ax,av,ay,rL,bg]
 intro b6 hb6
 have hrd0:(((one r (RdO bs p)).set b3 (.cells [.sl 12 none (pr.map Fu.enc)])).set b4 (.cells [S (bl []),NIL,B false,NIL,NIL,I 0,I 0,S (bl []),NIL,NIL,S (bl []),NIL])).get r=some (RdO bs p):=by rw[ae _ _ hr4,ae _ _ hr3,bD]
 have hb30:(((one r (RdO bs p)).set b3 (.cells [.sl 12 none (pr.map Fu.enc)])).set b4 (.cells [S (bl []),NIL,B false,NIL,NIL,I 0,I 0,S (bl []),NIL,NIL,S (bl []),NIL])).get b3=some (.cells [.sl 12 none (pr.map Fu.enc)]):=by rw[ae _ _ d34,ai]
 have hb40:(((one r (RdO bs p)).set b3 (.cells [.sl 12 none (pr.map Fu.enc)])).set b4 (.cells [S (bl []),NIL,B false,NIL,NIL,I 0,I 0,S (bl []),NIL,NIL,S (bl []),NIL])).get b4=some (.cells [S (bl []),NIL,B false,NIL,NIL,I 0,I 0,S (bl []),NIL,NIL,S (bl []),NIL]):=ai _ _ _
 generalize(((one r (RdO bs p)).set b3 (.cells [.sl 12 none (pr.map Fu.enc)])).set b4 (.cells [S (bl []),NIL,B false,NIL,NIL,I 0,I 0,S (bl []),NIL,NIL,S (bl []),NIL]))=H0 at*
 have hr6:=al hrd0 hb6
 have d36:=al hb30 hb6
 have d46:=al hb40 hb6
 have A0:nQ (H0.set b6 (.cells [S nm,NIL,B false,NIL,NIL,I 0,I 0,S (bl []),NIL,NIL,S (bl []),NIL])) r bs p b4 b6 [S nm,NIL,B false,NIL,NIL,I 0,I 0,S (bl []),NIL,NIL,S (bl []),NIL]:=
  ⟨(ae _ _ hr6).trans hrd0,(ae _ _ d46).trans hb40,ai _ _ _⟩
 have hb30:(H0.set b6 (.cells [S nm,NIL,B false,NIL,NIL,I 0,I 0,S (bl []),NIL,NIL,S (bl []),NIL])).get b3=_:=(ae _ _ d36).trans hb30
 generalize(H0.set b6 (.cells [S nm,NIL,B false,NIL,NIL,I 0,I 0,S (bl []),NIL,NIL,S (bl []),NIL]))=H1 at*
 clear hb3 hb4 hb6 hrd0 hb40
 refine bw (cW L r bs p 3 hbs hp (by omega)) (rfl) A0.rd (by simp) trivial ?_
 rintro q p1 hp1 hp1' ⟨k0,rfl,hk00,hk01⟩
 have A1:nQ (H1.set r (RdO bs p1)) r bs p1 b4 b6 [S nm,NIL,B false,NIL,NIL,I 0,I 0,S (bl []),NIL,NIL,S (bl []),NIL]:=
  ⟨ai _ _ _,(ae _ _ (Ne.symm hr4)).trans A0.z,(ae _ _ (Ne.symm hr6)).trans A0.f⟩
 have hb30:(H1.set r (RdO bs p1)).get b3=_:=(ae _ _ (Ne.symm hr3)).trans hb30
 generalize H1.set r (RdO bs p1)=H2 at*
 clear A0
 have w1:=aP (n:=1+k0) (by omega) (by omega)
 obtain⟨n,hn⟩:∃n:Nat,1+k0=(n:Int):=⟨(1+k0).toNat,by omega⟩
 rw[hn]at w1
 simp only[go_sem,rE,rA,w1,hn]
 let J:Nat->Env->aj->Prop:=fun k E H=>∃(p':Int) (X:AC) (ps:List Pa),nQ H r bs p' b4 b6 [S nm,X,B false,NIL,NIL,I 0,I 0,S (bl []),NIL,NIL,S (bl []),NIL]/\H.get b3=some (.cells [.sl 12 none (pr.map Fu.enc)])/\p<=p'/\p'<=p+1+20*k/\ps.length=k/\(∀x∈ps,x.ok/\x.name.size<=2)/\bR H 3 (ps.map Pa.enc) X/\
  E 0=.ptr r 0/\E 3=.ptr b3 0/\E 4=.ptr b4 0/\E 5=I pr.length/\E 6=.ptr b6 0/\E 7=I n/\E 8=I k
 refine aV n J ⟨p1,NIL,[],A1,hb30,hp1,by omega,rfl,by simp,.nil _ _,rfl,rfl,rfl,rfl,rfl,rfl,rfl⟩ ?_
 clear A1 hb30
 rintro k E H hk ⟨p',X,ps,A,g3,hq1,hq2,hps,hpok,hX,e0,e3,e4,e5,e6,e7,e8⟩
 simp only[wp_seq,go_sem,rE,rA,e7,e8]
 refine aH (fun hlt=>?_) (fun hge=>?_)
 ·have w2:=aP (n:=(k:Int)+1) (by omega) (by omega)
  have hkk:k=0\/k=1\/k=2:=by omega
  obtain⟨pn,hpn,hpn2⟩:∃pn,[[S (bl [112])],[S (bl [113])],[S (bl [114])],[S (bl [115])]][k]?=some [S pn]/\pn.size<=2:=by
   rcases hkk with h|h|h<;>rw[h]<;>exact⟨_,rfl,by decide⟩
  simp only[go_sem,rE,rA,e0,e6,e8,A.f,hpn,ax,av,ay,rL,bg]
  refine bw (cW L r bs p' 3 hbs (by omega) (by omega)) (rfl) A.rd (fun _=>⟨by omega,I 0,0,rfl,by omega,.inr rfl⟩) (by simp[dQ];exact Ne.symm hr6) ?_
  rintro q p2 hp2 hp2' ⟨k2,rfl,hk20,hk21⟩
  have A2:nQ (H.set r (RdO bs p2)) r bs p2 b4 b6 [S nm,X,B false,NIL,NIL,I 0,I 0,S (bl []),NIL,NIL,S (bl []),NIL]:=
   ⟨ai _ _ _,(ae _ _ (Ne.symm hr4)).trans A.z,(ae _ _ (Ne.symm hr6)).trans A.f⟩
  have g3:(H.set r (RdO bs p2)).get b3=_:=(ae _ _ (Ne.symm hr3)).trans g3
  have hX2:bR (H.set r (RdO bs p2)) 3 (ps.map Pa.enc) X:=hX.keepF fun d hd=>ae _ _ (by rintro rfl;obtain⟨n,m,h⟩:=hX.mem hd;rw[A.rd]at h;simp[RdO]at h)
  generalize H.set r (RdO bs p2)=Ha at*
  clear A hX
  simp only[go_sem,rE,rA,e0]
  refine bw (jK L r bs hbs 3 3 (by omega) (by omega) p2 (by omega) (by simp[eN];omega)) (rfl) A2.rd (fun _=>⟨by simp[eN],_,.mk [],rfl,by simp[Ty.le]⟩) (by simp[dQ];exact Ne.symm hr6) ?_
  rintro q p3 hp3 hp3' ⟨t,rfl,ht⟩
  simp only[eN]at hp3'
  have A3:nQ (Ha.set r (RdO bs p3)) r bs p3 b4 b6 [S nm,X,B false,NIL,NIL,I 0,I 0,S (bl []),NIL,NIL,S (bl []),NIL]:=
   ⟨ai _ _ _,(ae _ _ (Ne.symm hr4)).trans A2.z,(ae _ _ (Ne.symm hr6)).trans A2.f⟩
  have g3:(Ha.set r (RdO bs p3)).get b3=_:=(ae _ _ (Ne.symm hr3)).trans g3
  have hX3:bR (Ha.set r (RdO bs p3)) 3 (ps.map Pa.enc) X:=hX2.keepF fun d hd=>ae _ _ (by rintro rfl;obtain⟨n,m,h⟩:=hX2.mem hd;rw[A2.rd]at h;simp[RdO]at h)
  generalize Ha.set r (RdO bs p3)=Hb at*
  clear A2 hX2
  simp only[go_sem,rE,rA,Ty.enc_eq t,ax,av,ay,rL,bg]
  refine fG (es:=ps.map Pa.enc) (ys:=[[S pn,B (decide (0<k2)),.sl 1 none (Ty.encs t.kids)]]) (by simp only[go_sem,rE];exact hX3) (rfl) (by simp) (by simp;omega) ?_
  intro x' Hc fpc hx' _ keep new
  simp only[go_sem,rE]at keep new
  have hx1:=hx'.one
  have A4:nQ Hc r bs p3 b4 b6 [S nm,X,B false,NIL,NIL,I 0,I 0,S (bl []),NIL,NIL,S (bl []),NIL]:=by
   refine A3.mono fun d hd=>?_
   have:∃cs,Hb.get d=some (.cells cs):=by
    rcases hd with rfl|rfl|rfl
    ·exact⟨_,A3.rd⟩
    ·exact⟨_,A3.z⟩
    ·exact⟨_,A3.f⟩
   obtain⟨cs,hcs⟩:=this
   exact keep d (by rw[hcs];simp) fun ht=>by obtain⟨n,m,h⟩:=hX3.mem ht;rw[hcs]at h;simp at h
  have g3:Hc.get b3=_:=(keep b3 (by rw[g3];simp) fun ht=>by obtain⟨n,m,h⟩:=hX3.mem ht;rw[g3]at h;simp at h).trans g3
  simp only[go_sem,rE,rA,e6,e8,A4.f,hx1,w2,rL]
  refine⟨by omega,_,aj.sub_refl _,p3,x',ps++[⟨pn,decide (0<k2),t⟩],⟨(ae _ _ hr6).trans A4.rd,(ae _ _ d46).trans A4.z,ai _ _ _⟩,(ae _ _ d36).trans g3,by omega,by omega,by simp;exact hps,fun x hx=>?_,?_,e0,e3,e4,e5,e6,e7,rfl⟩
  ·rcases aE.1 hx with h|h
   ·exact hpok x h
   ·simp at h;subst h;exact⟨⟨⟨3,by omega,ht⟩⟩,hpn2⟩
  ·rw[bL]
   have:[Pa.mk pn (decide (0<k2)) t].map Pa.enc=[[S pn,B (decide (0<k2)),.sl 1 none (Ty.encs t.kids)]]:=by simp[Pa.enc,Ty.enc_eq t]
   rw[this]
   exact hx'.set A4.f _
 ·have hkn:k=n:=by omega
  have hXle:=hX.le
  simp only[go_sem,rE,rA,e3,g3,rL]
  intro b48 hb48
  have A1:=A.new hb48 (.tail 0 0)
  have g3:(H.set b48 (.tail 0 0)).get b3=_:=(ae _ _ (al g3 hb48)).trans g3
  have g48:(H.set b48 (.tail 0 0)).get b48=_:=ai _ _ _
  simp only[go_sem,rE,rA,e3,g3,rL]
  generalize H.set b48 (.tail 0 0)=Ha at*
  refine dS (es:=[]) (ys:=pr.map Fu.enc) (rfl) g48 (rfl) (by simp;intro f _;exact nC f) (by simp;omega) ?_
  intro bt nt mt Hb fpb gt keep hbt hfb
  have in1:∀{d cs},Ha.get d=some (.cells cs)->Hb.get d=some (.cells cs):=fun {d cs} hd=>by rw[keep d (by rw[hd];simp) (by rintro rfl;rw[g48]at hd;simp at hd)];exact hd
  have A2:nQ Hb r bs p' b4 b6 [S nm,X,B false,NIL,NIL,I 0,I 0,S (bl []),NIL,NIL,S (bl []),NIL]:=⟨in1 A1.rd,in1 A1.z,in1 A1.f⟩
  have nf6:¬fpb b6:=fun h=>by have:=hfb _ h;rw[A1.f]at this;simp at this
  simp only[go_sem,rE,rA,e6,A2.f,ax,av,ay,rL,bg]
  refine⟨by simp;exact nf6,?_⟩
  refine dS (es:=pr.map Fu.enc) (ys:=[[S nm,X,B false,NIL,NIL,I 0,I 0,S (bl []),NIL,NIL,S (bl []),NIL]]) (rfl) gt (rfl) (by simp) (by simp;omega) ?_
  intro bt2 nt2 mt2 Hc fpc gt2 keep2 hbt2 _
  have in2:∀{d cs},Hb.get d=some (.cells cs)->Hc.get d=some (.cells cs):=fun {d cs} hd=>by rw[keep2 d (by rw[hd];simp) (by rintro rfl;rw[gt]at hd;simp at hd)];exact hd
  have A3:nQ Hc r bs p' b4 b6 [S nm,X,B false,NIL,NIL,I 0,I 0,S (bl []),NIL,NIL,S (bl []),NIL]:=⟨in2 A2.rd,in2 A2.z,in2 A2.f⟩
  clear A A1 A2 keep keep2 in1 in2 hfb gt g48 g3 hb48
  simp only[go_sem,rE,rA]
  intro b9 hb9
  have A4:=A3.new hb9 (.cells [.sl 12 (some (bt2,nt2,mt2)) (pr.map Fu.enc++[[S nm,X,B false,NIL,NIL,I 0,I 0,S (bl []),NIL,NIL,S (bl []),NIL]])])
  have g9:(Hc.set b9 (.cells [.sl 12 (some (bt2,nt2,mt2)) (pr.map Fu.enc++[[S nm,X,B false,NIL,NIL,I 0,I 0,S (bl []),NIL,NIL,S (bl []),NIL]])])).get b9=_:=ai _ _ _
  generalize(Hc.set b9 (.cells [.sl 12 (some (bt2,nt2,mt2)) (pr.map Fu.enc++[[S nm,X,B false,NIL,NIL,I 0,I 0,S (bl []),NIL,NIL,S (bl []),NIL]])]))=Hd at*
  simp only[go_sem,rE,rA,e0,e5,g9,rL]
  have hnlt:pr.length<(pr++[(⟨nm,ps,false,.mk [],[],E0,P0⟩:Fu)]).length:=by simp
  refine sc (as':=[.agg [.sl 12 (some (bt2,nt2,mt2)) (pr.map Fu.enc++[[S nm,X,B false,NIL,NIL,I 0,I 0,S (bl []),NIL,NIL,S (bl []),NIL]])],I pr.length]) L (pr++[⟨nm,ps,false,.mk [],[],E0,P0⟩]) pr.length hnlt (by simp;omega) (by simp;omega) (rfl) ⟨.agg ⟨⟨.slR ?_,rfl⟩,trivial⟩,.refl _,trivial⟩ ?_
  ·rw[bL]
   exact(tG pr).snoc (Ao ⟨nm,ps,false,.mk [],[],E0,P0⟩ hXle (.nil 1) (.nil 15) ⟨⟨.refl _,rfl⟩,⟨.refl _,rfl⟩,⟨.refl _,rfl⟩,⟨.nil 1,rfl⟩,⟨.nil 5,rfl⟩,trivial⟩ ⟨⟨.refl _,rfl⟩,⟨.nil 1,rfl⟩,trivial⟩)
  intro a VS NS He fpe hE hs hnew
  have hdr:=zM pr ⟨nm,ps,false,.mk [],[],E0,P0⟩ hpr ⟨fun x hx=>(hpok x hx).1,dK⟩ (by omega) (by simp;omega) (by simp;omega)
  generalize cL (pr++[⟨nm,ps,false,.mk [],[],E0,P0⟩]) pr.length=v at*
  have A5:nQ He r bs p' b4 b6 [S nm,X,B false,NIL,NIL,I 0,I 0,S (bl []),NIL,NIL,S (bl []),NIL]:=⟨hs _ _ A4.rd,hs _ _ A4.z,hs _ _ A4.f⟩
  have na4:¬aQ a VS NS b4:=fun h=>by have:=hnew _ h;rw[A4.z]at this;simp at this
  have na6:¬aQ a VS NS b6:=fun h=>by have:=hnew _ h;rw[A4.f]at this;simp at this
  have nar:¬aQ a VS NS r:=fun h=>by have:=hnew _ h;rw[A4.rd]at this;simp at this
  clear A3 A4 hs hnew g9 hb9
  simp only[go_sem,rE,rA,e0,rL]
  intro b10 hb10
  have hr10:=al A5.rd hb10
  have d410:=al A5.z hb10
  have d610:=al A5.f hb10
  have A6:=A5.new hb10 (.cells [.ptr r 0,.ptr a 0,I 0])
  have hM:cO (He.set b10 (.cells [.ptr r 0,.ptr a 0,I 0])) b10 r bs a v VS NS p' 0:=⟨ai _ _ _,A6.rd,hE.new hb10 _,Ne.symm hr10,hE.notin hb10,nar⟩
  generalize(He.set b10 (.cells [.ptr r 0,.ptr a 0,I 0]))=Hf at*
  clear A5 hE hb10
  refine bw (cW L r bs p' 6 hbs (by omega) (by omega)) (rfl) A6.rd (by simp) trivial ?_
  rintro q p7 hp7 hp7' ⟨k7,rfl,hk70,hk71⟩
  have hM7:=hM.setR p7
  have g4:(Hf.set r (RdO bs p7)).get b4=_:=(ae _ _ (Ne.symm hr4)).trans A6.z
  have g6:(Hf.set r (RdO bs p7)).get b6=_:=(ae _ _ (Ne.symm hr6)).trans A6.f
  generalize Hf.set r (RdO bs p7)=Hg at*
  clear A6 hM
  have w7:=aP (n:=1+k7) (by omega) (by omega)
  have hk7n:1+k7=((1+k7.toNat:Nat):Int):=by omega
  have hcc:iS 2=161:=rfl
  have hsc:(gJ 2:Int)=26660000:=rfl
  have hkc:(1+k7.toNat)*iS 2<=6*iS 2:=bu _ (by omega)
  simp only[go_sem,rE,rA,w7]
  refine dP (yS L 2 (by omega) b10 r bs hbs v 4 (1+k7.toNat) hdr (by omega) (by omega) p7 0 (by omega) (by omega) (by omega) (by omega)) hM7 (by simp only[go_sem,rE,hk7n];rfl) (.refl _) (by simp) trivial ?_
  rintro q e8 v8 VS8 NS8 p8 last8 H8 fp8 ⟨⟨bd,rfl,hbl,hbc,hbsm⟩,⟨hv8,hv82,hv83⟩,hp8,hp8',hl8,hl8'⟩ hM8 hk8 -
  obtain⟨g4,n4⟩:=hk8 _ _ g4 (sg d410 (Ne.symm hr4) na4)
  obtain⟨g6,n6⟩:=hk8 _ _ g6 (sg d610 (Ne.symm hr6) na6)
  have n6':=n6
  have d610':b10≠b6:=Ne.symm d610
  have tl:=fn_tail (F:=F) L r bs hbs nm ps bd v8 (4+(1+k7.toNat)*iS 2) hv8 (by omega) p hp hp2 (fun x hx=>(hpok x hx).1) hn5 (fun x hx=>(hpok x hx).2) (by omega) (by omega) (by omega) hbsm b4 b6 b10 e8 VS8 NS8 X p8 last8
  simp only[go_sem,rE,rA,e6,g6,rL]
  refine tl _ _ (hM8.put n6 _) d46 ((ae _ _ d46).trans g4) (ai _ _ _) n4 n6 (e0) (e4) (e6) (rfl) hXle (by omega) (by omega) (by omega)
end
def Pg.fit(p:Pg):Prop:=p.small/\∀f∈p,0<f.params.length/\bq f.body<=2^19
theorem FuW.okS{f:Fu}(h:FuW f):f.okS:=by
 refine⟨fun x hx=>⟨?_⟩,rh h.type⟩
 have:=h.params x hx
 simp only[Pa.okB,aw]at this
 exact rh this.2
theorem ym{p:Pg}(h:eS p=true){i:Nat}(hi:i<p.length):(cL p i).ok/\(cL p i).p=p/\(cL p i).fn=i/\(cL p i).vars.length=(p[i]).params.length/\(cL p i).names.length=(p[i]).params.length:=by
 obtain⟨h1,h2⟩:=iW h
 have W:=h2 p[i] (az hi)
 have hst:cL p i=(⟨p,i,[],[],0⟩:En).givens p[i].params:=by simp only[cL,a6 hi]
 obtain⟨g1,g2,g3,g4⟩:=kg p[i].params (⟨p,i,[],[],0⟩:En)
 have:=W.plen
 rw[hst]
 refine⟨⟨by rw[g3];simp;omega,fun x hx=>?_⟩,g1,g2,by rw[g3];simp,by rw[g4];simp⟩
 rw[g3]at hx
 simp at hx
 obtain⟨y,hy,rfl⟩:=hx
 exact⟨⟨by simp[Pa.vr],by simp[Pa.vr]⟩,(W.okS.params y hy).type⟩
section
variable {P:Program}{F:Ids}
theorem AS(L:Lib P F){p:Pg}(h:eS p=true)(hf:p.fit){i:Nat}(hi:i<p.length):cI P 57 [.agg (Pg.enc p),I i] (I (jO p i)):=by
 obtain⟨hpl,hw⟩:=iW h
 have W:=hw p[i] (az hi)
 obtain⟨hp1,hcnt⟩:=hf.2 p[i] (az hi)
 obtain⟨s1,s2,s3,s4,s5⟩:=ym h hi
 have hwp:=W.plen
 have hokS:∀f∈p,f.okS:=fun f hf=>(hw f hf).okS
 have hst:=oR 4 _ W.body
 have hbs:=(En.stmt_step _).2 p[i].body (aA _) (fun s hs=>(hst s hs).1) (cL p i) s1 (by omega) (by rw[s2];exact hokS)
 have hspec:jO p i=if(j4 p p[i].name i).isSome then 2 else if 0<((cL p i).body p[i].body).code then((cL p i).body p[i].body).code else((cL p i).body p[i].body).outCode p[i]:=by
  simp only[jO,a6 hi]
 refine(L.a Tryz.func57 y57) (by simp[y57]) ?_
 obtain⟨cf,hcf,CF⟩:=fuC p[i]
 have hgf:(p.map Fu.enc)[i]?=some cf:=by rw[<-hcf];simp[hi]
 simp only[y57,go_sem,rE,rA,rL,Pg.enc]
 intro b2 hb2
 have g2:=ai .empty b2 (.cells [.sl 12 none (p.map Fu.enc)])
 generalize aj.empty.set b2 (.cells [.sl 12 none (p.map Fu.enc)])=H2 at*
 simp only[go_sem,rE,rA,rL,g2,hgf,CF.len,CF.all]
 intro b5 hb5
 have d25:=al g2 hb5
 simp only[go_sem,rE,rA,rL,CF.len,CF.all,d25,g2,CF.name]
 have g5:=ai H2 b5 (.cells cf)
 have g2:(H2.set b5 (.cells cf)).get b2=some (.cells [.sl 12 none (p.map Fu.enc)]):=by rw[ae _ _ d25];exact g2
 generalize H2.set b5 (.cells cf)=H5 at*
 clear hb2 hb5
 refine am (AR L p p[i].name i (by omega) (by omega)) (by simp only[go_sem,rE,Pg.enc]) ?_
 have hfn:decide (wx p p[i].name i>=0)=(j4 p p[i].name i).isSome:=by
  have:wx p p[i].name i=match j4 p p[i].name i with|some i=>(i:Int)|none=>-1:=rfl
  rw[this]
  cases j4 p p[i].name i<;>simp
 simp only[go_sem,rE,rA,rL,hfn]
 cases hfi:(j4 p p[i].name i).isSome with
 |true=>
  simp only[go_sem,rE,rA,rL]
  exact ak (.refl _) (aj.sub_empty _) ⟨by rw[hspec,hfi];rfl,rfl⟩
 |false=>
 have hspec:jO p i=if 0<((cL p i).body p[i].body).code then((cL p i).body p[i].body).code else((cL p i).body p[i].body).outCode p[i]:=by
  rw[hspec,hfi];rfl
 simp only[go_sem,rE,rA,rL,g2]
 refine sc L p i hi (by omega) (by omega) (by simp only[go_sem,rE,Pg.enc]) (.refl _) ?_
 intro a VS NS H1 fp hE1 hs1 hn1
 have g2:=hs1 _ _ g2
 have g5:=hs1 _ _ g5
 have n2:¬aQ a VS NS b2:=fun hb=>by have:=hn1 _ hb;simp_all
 have n5:¬aQ a VS NS b5:=fun hb=>by have:=hn1 _ hb;simp_all
 have hstu:=pA p i
 generalize cL p i=v0 at*
 have cfb:(cf.drop 4)[0]?=some (.sl 15 none (St.encs p[i].body)):=by rw[bU];exact CF.body
 simp only[go_sem,rE,rA,rL,g5,CF.len,cfb,CF.body]
 refine bJ (e_bodyN L _ a p[i].body (aA _) (fun s hs=>(hst s hs).1) v0 s1 (by omega) (by omega) (by omega) (by rw[s2];exact hokS) (by rw[s2];omega) (by omega)) hE1 (by simp only[go_sem,rE]) (.refl _) (by simp) trivial ?_
 rintro q v1 VS1 NS1 H2' fp1 ⟨rfl,hv1⟩ hE2 hk2 -
 obtain⟨g2,n2⟩:=hk2 _ _ g2 n2
 obtain⟨g5,n5⟩:=hk2 _ _ g5 n5
 have hup:v1.code=0->Up v1.vars:=fun h=>by
  have:=(rq p[i].body (fun s hs=>(hst s hs).2) v0 (by rw[<-hv1];exact h)).2 hstu
  rw[hv1];exact this
 rw[<-hv1]at hbs hspec
 have hok1:=hbs.ok
 have ho2:=hE2.obj
 simp only[cR]at ho2
 generalize H2'=H3 at*
 simp only[go_sem,rE,rA,rL,ho2]
 refine aH (fun hgt=>?_) (fun hle=>?_)
 ·simp only[go_sem,rE,rA,rL,ho2]
  exact ak (.refl _) (aj.sub_empty _) ⟨by rw[hspec,if_pos hgt];rfl,rfl⟩
 rw[if_neg hle]at hspec
 have cfl:(cf.drop 2)[0]?=some (.lit (.bool p[i].lent)):=by rw[bU];exact CF.lent
 simp only[go_sem,rE,rA,rL,g5,CF.len,CF.lent,cfl]
 refine kV (fun hl=>?_) (fun hl=>?_)
 ·have hl:p[i].lent=false:=by simpa using hl
  have ho1:=En.expr_good p[i].says v1 hok1
  simp only[En.outCode,hl,aq,if_false]at hspec
  simp only[go_sem,rE,rA,rL,g5,CF.len,CF.says]
  refine bJ (nJ L a _ p[i].says (aA _) (mP 4 _ (W.says hl)) v1 hok1) hE2 (rfl) (.refl _) (fun _=>⟨_,_,rfl,rfl⟩) (by simp[dQ]) ?_
  rintro q v2 VS2 NS2 H4 fp2 ⟨rfl,hv2⟩ hE3 hk3 hfp2
  rw[<-hv2]at hspec ho1
  have wf2:=ho1.2
  have nf5:¬fp2 b5:=fun h=>(hfp2 b5 h).elim n5 (fun h=>by rw[g5]at h;simp at h)
  obtain⟨g5,n5⟩:=hk3 _ _ g5 n5
  generalize(v1.expr p[i].says).2=u at*
  simp only[go_sem,rE,rA,rL,g5,CF.len,CF.type,jw,bi,cF,or_false,forall_eq,nf5]
  refine bJ (nI L a v2 u p[i].type wf2) hE3 (rfl) (.refl _) (fun _=>⟨_,_,rfl,rfl⟩) trivial ?_
  rintro q v3 VS3 NS3 H5 fp3 ⟨rfl,hv3⟩ hE4 - -
  have ho4:=hE4.obj
  simp only[cR]at ho4
  rw[<-hv3]at hspec
  simp only[go_sem,rE,rA,rL,ho4]
  exact ak (.refl _) (aj.sub_empty _) ⟨by rw[hspec];rfl,rfl⟩
 ·have hl:p[i].lent=true:=by simpa using hl
  simp only[En.outCode,hl,if_true]at hspec
  have hpath:=(ke (W.gives hl)).2
  simp only[go_sem,rE,rA,rL,g5,CF.len,CF.gives]
  refine bJ (nH L a v1 hok1 p[i].gives (by omega)) hE2 (rfl) (.refl _) (fun _=>⟨_,_,rfl,rfl⟩) (by simp[dQ]) ?_
  rintro q v2 VS2 NS2 H4 fp2 ⟨rfl,hv2⟩ hE3 hk3 hfp2
  have lk2:=v1.use_like p[i].gives
  have wf2:=iF hok1 p[i].gives
  rw[<-hv2]at hspec lk2
  have nf5:¬fp2 b5:=fun h=>(hfp2 b5 h).elim n5 (fun h=>by rw[g5]at h;simp at h)
  obtain⟨g5,n5⟩:=hk3 _ _ g5 n5
  generalize hu:(v1.use p[i].gives).2=u at*
  simp only[go_sem,rE,rA,rL,g5,CF.len,CF.type,jw,bi,cF,or_false,forall_eq,nf5]
  refine bJ (nI L a v2 u p[i].type wf2) hE3 (rfl) (.refl _) (fun _=>⟨_,_,rfl,rfl⟩) trivial ?_
  rintro q v3 VS3 NS3 H5 fp3 ⟨rfl,hv3⟩ hE4 hk4 -
  obtain⟨g5,n5⟩:=hk4 _ _ g5 n5
  have ho4:=hE4.obj
  simp only[cR]at ho4
  have lk3:v2.like v3:=hv3▸eY _ _ _
  rw[<-hv3]at hspec
  simp only[go_sem,rE,rA,rL,ho4]
  by_cases hc:v3.code=0
  ·have hc':(v3.code==0)=true:=by simpa using hc
   have hup3:Up v3.vars:=by
    have c2:v2.code=0:=En.same_code (v:=v2) (a:=u) (t:=p[i].type) (by rw[<-hv3];exact hc)
    have c1:=(fR (v:=v1) (p:=p[i].gives) (by rw[<-hv2];exact c2)).1
    exact((hup c1).core lk2.vars).core lk3.vars
   have hok3:=lk3.ok (lk2.ok hok1)
   simp only[go_sem,rE,rA,rL,hc',g5,CF.len,CF.gives]
   refine bJ (sv L a v3 hok3.len (fun x hx=>(hok3.all x hx).1) hup3 p[i].gives) hE4 (rfl) (.refl _) (by simp) trivial ?_
   rintro q v4 VS4 NS4 H6 fp4 ⟨rfl,e4⟩ hE5 - -
   have ho5:=hE5.obj
   simp only[cR,e4]at ho5
   cases hout:v3.outside p[i].gives with
   |false=>
    simp only[go_sem,rE,rA,rL,ho5]
    exact ak (.refl _) (aj.sub_empty _) ⟨by rw[hspec,if_pos ⟨hc,hout⟩];rfl,rfl⟩
   |true=>
    simp only[go_sem,rE,rA,rL,ho5]
    exact ak (.refl _) (aj.sub_empty _) ⟨by rw[hspec,if_neg (by rintro⟨-,h⟩;rw[hout]at h;simp at h)];rfl,rfl⟩
  ·have hc':(v3.code==0)=false:=by simpa using hc
   simp only[go_sem,rE,rA,rL,hc',ho4]
   exact ak (.refl _) (aj.sub_empty _) ⟨by rw[hspec,if_neg (fun h=>hc h.1)];rfl,rfl⟩
end
section
variable {P:Program}{F:Ids}{er:bK}
theorem li{E:Env}{H:aj}{n m:Nat}{R:AC->aj->Prop}{H':aj}(hs:H'.sub H)(h:R (.tup [E n,E m]) H'):bh.post [.slot n,.slot m] R .ret E H:=
 ⟨.tup [E n,E m],lg rfl rfl,_,H',.of (.refl _) hs,h⟩
end
noncomputable def fF(p:Pg):Int×Int:=if eS p=true then match pq p with|none=>(0,0)|some i=>(dJ p i,i)else(1,0)
theorem uU{p:Pg}(hp:eS p=true){i:Nat}(hi:i<p.length):jO p i=dJ p i/\0<=dJ p i:=by
 have:=AF hp hi
 simp only[dJ,a6 hi]
 exact this
section
variable {P:Program}{F:Ids}
theorem wK(L:Lib P F){p:Pg}(hf:p.fit):cI P 27 [.agg (Pg.enc p)] (.tup [I (fF p).1,I (fF p).2]):=by
 refine(L.a Tryz.func27 y27) (by simp[y27]) ?_
 simp only[y27,go_sem,rE,rA,rL,Pg.enc]
 intro b1 hb1
 have g1:=ai .empty b1 (.cells [.sl 12 none (p.map Fu.enc)])
 generalize aj.empty.set b1 (.cells [.sl 12 none (p.map Fu.enc)])=H1 at*
 refine am (AU L p fun f hf'=>by have:=(hf.2 f hf').2;omega) (by simp only[go_sem,rE,Pg.enc]) ?_
 simp only[go_sem,rE,rA,rL]
 cases hfo:eS p with
 |false=>
  simp only[go_sem,rE,rA,rL]
  exact li (aj.sub_empty _) ⟨by simp only[fF,hfo];rfl,rfl⟩
 |true=>
 obtain⟨hpl,hw⟩:=iW hfo
 simp only[go_sem,rE,rA,rL]
 refine aV p.length (fun k E' H'=>E' 1=.ptr b1 0/\E' 4=I k/\H'=H1/\∀j,j<k->dJ p j=0) ⟨rfl,rfl,rfl,fun j hj=>absurd hj (Nat.not_lt_zero _)⟩ ?_
 rintro k E' H' hk ⟨q1,q4,rfl,hall⟩
 simp only[go_sem,rE,rA,rL,q1,q4,g1,ao]
 refine aH (fun hlt=>?_) (fun hge=>?_)
 ·have hk1:k<p.length:=by omega
  have w1:=aP (n:=(k:Int)+1) (by omega) (by omega)
  obtain⟨cs1,cs2⟩:=uU hfo hk1
  simp only[go_sem,rE,rA,rL,q1,q4,g1]
  refine am (AS L hfo hf hk1) (by simp only[go_sem,rE,Pg.enc]) ?_
  simp only[go_sem,rE,rA,rL,q4]
  rw[cs1]
  refine aH (fun hgt=>?_) (fun hle=>?_)
  ·simp only[go_sem,rE,rA,rL,q4]
   exact li (aj.sub_empty _) ⟨by simp only[fF,hfo,if_true,qN hk1 hall (by omega)];rfl,rfl⟩
  ·simp only[go_sem,rE,rA,rL,q1,q4,w1]
   refine⟨hk1,_,aj.sub_refl _,by simp,rfl,fun j hj=>?_⟩
   by_cases e:j=k
   ·subst e;omega
   ·exact hall j (by omega)
 ·have hkk:k=p.length:=by omega
  subst hkk
  simp only[go_sem,rE,rA,rL]
  exact li (aj.sub_empty _) ⟨by simp only[fF,hfo,if_true,qO hall];rfl,rfl⟩
end
def okc(c:Int):Bool:=c==0||c==2||c==3||c==4
theorem kY(v:Sc)(p:Pl):okc (v.use p).2.2=true:=by
 unfold Sc.use
 have:okc (eO v.vars p).2=true:=by
  unfold eO
  split
  ·rfl
  ·split
   ·rfl
   ·split<;>rfl
 split<;>exact this
theorem jY:∀(e:Ex) (v:Sc),okc (v.expr e).2.2=true
 |.mk k n p ks,v=>by
  rw[Sc.expr_eq]
  split
  ·rfl
  ·split
   ·exact kY v p
   ·split
    ·rename_i a b l
     split
     ·split
      ·split
       ·split<;>rfl
       ·simp only;split<;>rfl
      ·exact jY b _
     ·exact jY a v
    ·rfl
termination_by e=>SizeOf.sizeOf e
theorem qr(v:Sc)(e:Ex):okc (v.number e).2=true:=by
 simp only[Sc.number]
 split
 ·simp only;split<;>rfl
 ·exact jY e v
theorem lY(v:Sc)(x:Vr):okc (eI v x).2=true:=by unfold eI;split<;>rfl
theorem arg_okc(v:Sc)(a:Ag)(p:Pa):okc (il v a p).2=true:=by
 unfold il
 split
 ·rfl
 ·split
  ·simp only;split
   ·split<;>rfl
   ·exact kY _ _
  ·simp only;split
   ·split<;>rfl
   ·exact jY _ _
theorem vp:∀(zas:List Ag) (ps:List Pa) (v:Sc),okc (dL v zas ps).2=true
 |[],_,v=>by simp[dL,okc]
 |_::_,[],v=>by simp[dL,okc]
 |a::zas,p::ps,v=>by
  rw[dL]
  split
  ·exact vp zas ps _
  ·exact arg_okc v a p
theorem AJ(v:Sc)(n fn:ByteArray)(zas:List Ag):okc (gL v n fn zas).2=true:=by
 unfold gL
 split
 ·rfl
 ·split
  ·split
   ·unfold fW
    split
    ·rfl
    ·exact lY _ _
   ·exact vp _ _ _
  ·rfl
theorem Ad(v:Sc)(n:ByteArray)(p o:Pl)(e:Ex):okc (ij v n p o e).2=true:=by
 unfold ij
 split
 ·unfold iI
  split
  ·unfold oe
   split
   ·split
    ·split
     ·rfl
     ·exact lY _ _
    ·rfl
   ·exact kY _ _
  ·exact kY _ _
 ·exact qr _ _
mutual
theorem zL:∀(s:St) (v:Sc),okc (v.stmt s).2=true
 |.mk k n p o e f zas t l,v=>by
  rw[Sc.stmt_eq]
  split
  ·split
   ·exact lY _ _
   ·exact jY _ _
  split
  ·split
   ·exact lY _ _
   ·exact kY _ _
  split
  ·split
   ·simp only;split
    ·split<;>rfl
    ·exact kY _ _
   ·exact jY _ _
  split
  ·exact AJ _ _ _ _
  split
  ·exact Ad _ _ _ _ _
  split
  ·unfold Sc.ways lI
   split
   ·split
    ·rfl
    ·exact mu l _
   ·exact mu t _
  ·exact qr _ _
termination_by s=>SizeOf.sizeOf s
theorem mu:∀(l:List St) (v:Sc),okc (v.stmts l).2=true
 |[],v=>by rw[eL];rfl
 |s::l,v=>by
  rw[dZ]
  split
  ·exact mu l _
  ·exact zL s v
termination_by l=>SizeOf.sizeOf l
end
theorem sn:∀(ps:List Pa) (v:Sc),okc (dM v ps).2=true
 |[],v=>rfl
 |p::ps,v=>by
  rw[dM]
  split
  ·exact sn ps _
  ·exact lY _ _
theorem qL(p:List Fu)(f:Fu):ik p f=0\/ik p f=2\/ik p f=3\/ik p f=4\/ik p f=5:=by
 have of:∀c,okc c=true->c=0\/c=2\/c=3\/c=4\/c=5:=fun c h=>by simp[okc]at h;omega
 unfold ik
 split
 ·exact .inr (.inl rfl)
 split
 ·split
  ·unfold rF
   split
   ·split
    ·split
     ·exact .inr (.inr (.inr (.inr rfl)))
     ·exact .inl rfl
    ·exact .inr (.inr (.inl rfl))
   ·unfold oK
    split
    ·exact of _ (kY _ _)
    ·exact of _ (jY _ _)
  ·exact of _ (mu _ _)
 ·exact of _ (sn _ _)
theorem Az:(⟨bl [],[⟨bl [],false,.mk []⟩],false,.mk [],[],E0,P0⟩:Fu).good:=⟨⟨by simp;exact⟨dK⟩,dK⟩,by simp,by simp,by simp[eP],by simp,vC,by decide,by simp;decide⟩
section
variable {P:Program}{F:Ids}
theorem yT(L:Lib P F)(r:Nat)(bs:List UInt8)(hbs:bs.length<=2000)(p:Int)(hp:0<=p)(hp2:p+5*FC<=2^50):
 ACalls P 24 [.ptr r 0] (one r (RdO bs p)) (RdR r bs p (5*FC) fun q=>∃pr:Pg,q=.agg (Pg.enc pr)/\(∀f∈pr,f.good)/\1<=pr.length/\pr.length<=4):=by
 simp only[FC]at hp2
 refine(L.a Tryz.func24 y24) (by simp[y24]) ?_
 simp only[y24,go_sem,rE,rA]
 intro b2 hb2 b3 hb3
 have hr2:r≠b2:=by rintro rfl;rw[bD]at hb2;simp at hb2
 have d23:b2≠b3:=ny hb3
 have hr3:r≠b3:=by rintro rfl;rw[ae _ _ hr2,bD]at hb3;simp at hb3
 have gr:(((one r (RdO bs p)).set b2 (.cells [NIL])).set b3 (.cells [NIL])).get r=some (RdO bs p):=by rw[ae _ _ hr3,ae _ _ hr2,bD]
 have g2:(((one r (RdO bs p)).set b2 (.cells [NIL])).set b3 (.cells [NIL])).get b2=some (.cells [NIL]):=by rw[ae _ _ d23,ai]
 have g3:(((one r (RdO bs p)).set b2 (.cells [NIL])).set b3 (.cells [NIL])).get b3=some (.cells [NIL]):=ai _ _ _
 generalize(((one r (RdO bs p)).set b2 (.cells [NIL])).set b3 (.cells [NIL]))=H0 at*
 clear hb2 hb3
 refine bw (cW L r bs p 4 hbs hp (by omega)) (rfl) gr (by simp) trivial ?_
 rintro q p1 hp1 hp1' ⟨k0,rfl,hk00,hk01⟩
 have g2:(H0.set r (RdO bs p1)).get b2=_:=(ae _ _ (Ne.symm hr2)).trans g2
 have g3:(H0.set r (RdO bs p1)).get b3=_:=(ae _ _ (Ne.symm hr3)).trans g3
 have gr:(H0.set r (RdO bs p1)).get r=_:=ai _ _ _
 generalize H0.set r (RdO bs p1)=H1 at*
 have w1:=aP (n:=1+k0) (by omega) (by omega)
 obtain⟨n,hn⟩:∃n:Nat,1+k0=(n:Int):=⟨(1+k0).toNat,by omega⟩
 rw[hn]at w1
 simp only[go_sem,rE,rA,w1,hn]
 let J:Nat->Env->aj->Prop:=fun k E H=>∃(p':Int) (X:AC) (pr:Pg),H.get r=some (RdO bs p')/\H.get b2=some (.cells [NIL])/\H.get b3=some (.cells [X])/\p<=p'/\p'<=p+1+FC*k/\pr.length=k/\(∀f∈pr,f.good)/\bR H 12 (pr.map Fu.enc) X/\
  E 0=.ptr r 0/\E 2=.ptr b2 0/\E 3=.ptr b3 0/\E 4=I ((n:Int) - k)
 refine aV n J ⟨p1,NIL,[],gr,g2,g3,hp1,by simp;omega,rfl,by simp,.nil _ _,rfl,rfl,rfl,rfl⟩ ?_
 clear gr g2 g3
 rintro k E H hk ⟨p',X,pr,gr,g2,g3,hq1,hq2,hpr,hgood,hX,e0,e2,e3,e4⟩
 simp only[FC]at hq2
 simp only[wp_seq,go_sem,rE,rA,e4]
 refine aH (fun hlt=>?_) (fun hge=>?_)
 ·have w2:=aP (n:=(n:Int) - k - 1) (by omega) (by omega)
  simp only[go_sem,rE,rA,e0,e3,g3,rL]
  refine bw (zas:=[.ptr r 0,.agg [X]]) ((c_l71Fn L r bs hbs pr (fun g hg=>⟨(hgood g hg).okS,(hgood g hg).pars.2⟩) (by omega) p' (by omega) (by simp only[FC];omega)).args ⟨.refl _,.agg ⟨⟨hX.le,rfl⟩,trivial⟩,trivial⟩) (rfl) gr (fun _=>⟨by simp[FC],_,_,rfl,Az⟩) (by simp[dQ];exact Ne.symm hr3) ?_
  rintro q p2 hp2 hp2' ⟨f,rfl,hf⟩
  simp only[FC]at hp2'
  have g2:(H.set r (RdO bs p2)).get b2=_:=(ae _ _ (Ne.symm hr2)).trans g2
  have g3:(H.set r (RdO bs p2)).get b3=_:=(ae _ _ (Ne.symm hr3)).trans g3
  have hX2:bR (H.set r (RdO bs p2)) 12 (pr.map Fu.enc) X:=hX.keepF fun d hd=>ae _ _ (by rintro rfl;obtain⟨n,m,h⟩:=hX.mem hd;rw[gr]at h;simp[RdO]at h)
  have gr:(H.set r (RdO bs p2)).get r=_:=ai _ _ _
  generalize H.set r (RdO bs p2)=Ha at*
  clear hX
  obtain⟨cf,hcf,CF⟩:=fuC f
  simp only[hcf,go_sem,rE,rA,CF.len,CF.all,ax,av,ay,rL,bg]
  refine fG (es:=pr.map Fu.enc) (ys:=[cf]) (by simp only[go_sem,rE];exact hX2) (rfl) (by simp[CF.len]) (by simp;omega) ?_
  intro x' Hc fpc hx' _ keep new
  simp only[go_sem,rE]at keep new
  have hx1:=hx'.one
  have in1:∀{d cs},Ha.get d=some (.cells cs)->Hc.get d=some (.cells cs):=fun {d cs} hd=>by
   rw[keep d (by rw[hd];simp) fun ht=>by obtain⟨n,m,h⟩:=hX2.mem ht;rw[hd]at h;simp at h];exact hd
  have g2:=in1 g2
  have g3:=in1 g3
  have gr:=in1 gr
  simp only[go_sem,rE,rA,e3,e4,g3,hx1,w2,rL]
  refine⟨by omega,_,aj.sub_refl _,p2,x',pr++[f],(ae _ _ hr3).trans gr,(ae _ _ d23).trans g2,ai _ _ _,by omega,by simp only[FC];omega,by simp;exact hpr,fun x hx=>?_,?_,e0,e2,e3,by simp only[go_sem,rE];congr 2;omega⟩
  ·rcases aE.1 hx with h|h
   ·exact hgood x h
   ·simp at h;subst h;exact hf
  ·rw[bL,aU,bB,hcf]
   exact hx'.set g3 _
 ·simp only[go_sem,rE,rA,e2,e3,g2,g3,rL]
  exact bP (q':=.agg (Pg.enc pr)) (off:=0) (e2) (ai _ _ _) rfl (.agg ⟨⟨hX.le,rfl⟩,trivial⟩) (gK (by rw[ae _ _ hr2];exact gr)) ⟨p',hq1,by simp only[FC];omega,rfl,pr,rfl,hgood,by omega,by omega⟩
end
def j6(ss:List ByteArray):List (List AC):=ss.map fun s=>[S s]
theorem txt_get{ss:List ByteArray}{k:Nat}(h:k<ss.length):(j6 ss)[k]?=some [S ss[k]]:=by simp[j6,h]
theorem txt_len(ss:List ByteArray):(j6 ss).length=ss.length:=by simp[j6]
def Ty.lo(t:Ty):Prop:=∃D,D<=12/\t.le D
section
variable {P:Program}{F:Ids}
theorem c_of(L:Lib P F)(r:Nat)(bs:List UInt8)(hbs:bs.length<=2000)(ss:List ByteArray)(hne:0<ss.length)(hl:ss.length<=1000)(p:Int)(hp:0<=p)(hp2:p+1<=2^50):
 ACalls P 54 [.ptr r 0,.sl 1 none (j6 ss)] (one r (RdO bs p)) (RdR r bs p 1 fun q=>∃s∈ss,q=S s):=by
 refine(L.a Tryz.func54 y54) (by simp[y54]) ?_
 simp only[y54,go_sem,rE,rA,txt_len]
 refine bw (cW L r bs p ss.length hbs hp (by omega)) (rfl) (bD _ _) (by simp) trivial ?_
 rintro q p1 hp1 hp1' ⟨k,rfl,hk0,hk1⟩
 have hkl:k.toNat<ss.length:=by omega
 rw[gI]
 simp only[go_sem,rE,rA,hk0,txt_get hkl]
 exact gA ⟨p1,hp1,hp1',rfl,_,az hkl,rfl⟩
def TyT(r:Nat)(bs:List UInt8)(p c:Int)(d:Nat)(q:AC)(H':aj):Prop:=∃(p':Int) (X:AC) (t:Ty),p<=p'/\p'<=p+c/\q=.agg [X]/\H'.get r=some (RdO bs p')/\bR H' 1 (Ty.encs t.kids) X/\t.le d/\¬cJ X r/\t.kids.length<=2
theorem wM(L:Lib P F)(r:Nat)(bs:List UInt8)(hb:bs.length<=2000)(d:Nat)(dp:Int)(hd:dp<=d+1)(hd':d+1<=100)(hdp:-10<=dp)(p:Int)(hp:0<=p)(hp':p+eN (d+1)<=2^50):
 ACalls P 38 [.ptr r 0,I dp] (one r (RdO bs p)) (TyT r bs p (eN (d+1)) (d+1)):=by
 have tn:=kZ d
 simp only[eN]at hp'
 refine(L.a Tryz.func38 y38) (by simp[y38]) ?_
 simp only[y38,go_sem,rE]
 intro b hb'
 have hrb:r≠b:=by rintro rfl;rw[bD]at hb';simp at hb'
 have hbr:b≠r:=Ne.symm hrb
 have leaf:∀(E:Env) p',p<=p'->p'<=p+eN (d+1)->E 4=.ptr b 0->
  bh.post [jq.cell 4 (some 1)] (TyT r bs p (eN (d+1)) (d+1)) .ret E ((one r (RdO bs p')).set b (.cells [AC.lit (.slice none 0 0)])):=by
  intro E p' h1 h2 hE
  exact bP (q':=.agg [NIL]) hE (ai _ _ _) rfl (.refl _) (mq (fV _ hbr)) ⟨p',NIL,.mk [],h1,h2,rfl,bD _ _,.nil _ _,jM _,by rintro⟨_,_,_,_,h⟩;simp at h,by simp[Ty.kids]⟩
 by_cases h2:dp<2
 ·simp only[go_sem,rE,h2,aA,rA]
  exact leaf _ p (eA _) (by simp only[eN];omega) (rfl)
 ·simp only[go_sem,rE,h2]
  refine bw (cW L r bs p 3 hb hp (by omega)) (rfl) (by simp only[go_sem,hrb,bD]) (by simp) trivial ?_
  rintro q p1 hp1 hp1' ⟨k,rfl,hk0,hk3⟩
  simp only[go_sem,rE]
  rw[fg hbr,gI]
  refine aH (fun hgt=>?_) (fun hle=>?_)
  ·simp only[go_sem,rE,aA,rA]
   exact leaf _ p1 hp1 (by simp only[eN];omega) (rfl)
  ·have w1:=aP (n:=dp - 1) (by omega) (by omega)
   simp only[go_sem,rE,w1]
   refine bw (jK L r bs hb d (dp - 1) (by omega) (by omega) p1 (by omega) (by omega)) (rfl) (by simp only[go_sem,hrb,bD]) (by simp) trivial ?_
   rintro q p2 hp2 hp2' ⟨t1,rfl,ht1⟩
   rw[fg hbr,gI]
   simp only[go_sem,rE,w1]
   refine bw (jK L r bs hb d (dp - 1) (by omega) (by omega) p2 (by omega) (by omega)) (rfl) (by simp only[go_sem,hrb,bD]) (by simp) trivial ?_
   rintro q p3 hp3 hp3' ⟨t2,rfl,ht2⟩
   rw[fg hbr,gI]
   obtain⟨k1⟩:=t1
   obtain⟨k2⟩:=t2
   simp only[go_sem,rE,Ty.enc,ax,av,ay,rA,rL,aA,Nat.reduceMul]
   intro b2 hb2
   have h2b:b≠b2:=by rintro rfl;simp at hb2
   have h2r:r≠b2:=by rintro rfl;rw[ae _ _ hrb,bD]at hb2;simp at hb2
   simp only[go_sem,h2b,bg,aA,rA]
   refine bP (q':=.agg [.sl 1 (some (b2,2,2)) (Ty.encs [.mk k1,.mk k2])]) (off:=0) (rfl) (ai _ _ _) rfl (.refl _) (aj.sub_refl _)
    ⟨p3,_,.mk [.mk k1,.mk k2],by omega,by simp only[eN];omega,rfl,by rw[ae _ _ hrb,ae _ _ h2r,ae _ _ hrb,bD],.inr ⟨b2,2,2,rfl,by rw[ae _ _ (Ne.symm h2b),ai]⟩,?_,?_,by simp[Ty.kids]⟩
   ·simp only[Ty.le,aR,bM,bi,cF,or_false,forall_eq_or_imp,forall_eq]
    exact⟨by omega,ht1,ht2⟩
   ·rintro⟨_,_,_,_,h⟩;simp at h;exact h2r h.2.1.1.symm
end
theorem LeR.tys:∀p:List Ty,LeR (p.map Ty.enc) (p.map Ty.enc)
 |[]=>trivial
 |f::p=>⟨by rw[Ty.enc_eq f];exact⟨⟨.refl _,rfl⟩,trivial⟩,LeR.tys p⟩
theorem Ai{H:aj}{r:Nat}{o:cz}(h:H.get r=some o):H.only (fun d=>d=r)=one r o:=by
 apply aj.ext
 intro b
 by_cases hb:b=r
 ·subst hb;rw[bf (S:=fun d=>d=b) rfl,bD];exact h
 ·rw[bS (S:=fun d=>d=r) hb,fV _ hb]
section
variable {P:Program}{F:Ids}
theorem yn(L:Lib P F){K:Env->aj->Prop}{xs:List aJ}{E:Env}{H:aj}{l:Lds}{f:Fps}{i:Nat}{args:List aG}{d:Option Nat}(r:Nat)(bs:List UInt8)(hb:bs.length<=2000)(dn:Nat)(dp:Int)(hd:dp<=dn+1)(hd':dn+1<=100)(hdp:-10<=dp)(p:Int)(hp:0<=p)(hp':p+eN (dn+1)<=2^50)
(hr:H.get r=some (RdO bs p))(ha:args.map (aG.ev E)=[.ptr r 0,I dp])
(h:∀p' X t H1 fp,p<=p'->p'<=p+eN (dn+1)->H1.get r=some (RdO bs p')->bR H1 1 (Ty.encs t.kids) X->Ty.le (dn+1) t->t.kids.length<=2->(∀c,H.get c≠none->c≠r->H1.get c=H.get c)->bp P false K xs (E.put d (.agg [X])) H1 l ((i,fp)::f)):
 bp P false K (⟨i,d,none,.eff (.call 38 args),[]⟩::xs) E H l f:=by
 have hc:=wM L r bs hb dn dp hd hd' hdp p hp hp'
 rw[<-Ai hr]at hc
 refine gu (fun d=>d=r) hc ha (.refl _) (by simp) trivial ?_
 rintro q H' H1 ⟨p',X,t,h1,h2,rfl,h3,h4,h5,h6,h7⟩ hsub hafter hnew -
 refine h p' X t H1 _ h1 h2 (hsub _ _ h3) ?_ h5 h7 (fun c hc hn=>hafter.out c hn hc)
 rcases h4 with h|⟨b,n,m,rfl,hb⟩
 ·exact .inl h
 ·exact .inr ⟨b,n,m,rfl,hsub _ _ hb⟩
theorem sC(L:Lib P F)(r:Nat)(bs:List UInt8)(hbs:bs.length<=2000)(p:Int)(hp:0<=p)(hp2:p+40<=2^50):
 ACalls P 55 [.ptr r 0] (one r (RdO bs p)) (RdR r bs p 40 fun q=>∃t:Ty,q=.agg t.enc/\t.lo):=by
 refine(L.a Tryz.func55 y55) (by simp[y55]) ?_
 simp only[y55,go_sem,rE,rA]
 intro b2 hb2
 have hr2:r≠b2:=by rintro rfl;rw[bD]at hb2;simp at hb2
 have gr:((one r (RdO bs p)).set b2 (.cells [NIL])).get r=some (RdO bs p):=by rw[ae _ _ hr2,bD]
 have g2:((one r (RdO bs p)).set b2 (.cells [NIL])).get b2=some (.cells [NIL]):=ai _ _ _
 generalize((one r (RdO bs p)).set b2 (.cells [NIL]))=H0 at*
 clear hb2
 refine bw (cW L r bs p 4 hbs hp (by omega)) (rfl) gr (by simp) trivial ?_
 rintro q p1 hp1 hp1' ⟨k0,rfl,hk00,hk01⟩
 have g2:(H0.set r (RdO bs p1)).get b2=_:=(ae _ _ (Ne.symm hr2)).trans g2
 have gr:(H0.set r (RdO bs p1)).get r=_:=ai _ _ _
 generalize H0.set r (RdO bs p1)=H1 at*
 have w1:=aP (n:=1+k0) (by omega) (by omega)
 simp only[go_sem,rE,rA,w1]
 refine yn L r bs hbs 3 (1+k0) (by omega) (by omega) (by omega) p1 (by omega) (by simp[eN];omega) gr (rfl) ?_
 intro p2 X t H2 fp2 hp2 hp2' gr2 hX ht htk keep
 simp only[eN]at hp2'
 have g2:H2.get b2=_:=(keep b2 (by rw[g2];simp) (Ne.symm hr2)).trans g2
 simp only[go_sem,rE,rA]
 intro b3 hb3
 have hr3:=al gr2 hb3
 have d23:=al g2 hb3
 have hx1:=hX.one
 have gr:(H2.set b3 (.cells [X])).get r=_:=(ae _ _ hr3).trans gr2
 have g2:(H2.set b3 (.cells [X])).get b2=_:=(ae _ _ d23).trans g2
 have g3:(H2.set b3 (.cells [X])).get b3=_:=ai _ _ _
 have hX:=hX.new hb3 (.cells [X])
 generalize H2.set b3 (.cells [X])=H3 at*
 clear gr2 keep hb3
 refine bw (cW L r bs p2 12 hbs (by omega) (by omega)) (rfl) gr (by simp) trivial ?_
 rintro q p3 hp3 hp3' ⟨k1,rfl,hk10,hk11⟩
 have g2:(H3.set r (RdO bs p3)).get b2=_:=(ae _ _ (Ne.symm hr2)).trans g2
 have g3:(H3.set r (RdO bs p3)).get b3=_:=(ae _ _ (Ne.symm hr3)).trans g3
 have hX:bR (H3.set r (RdO bs p3)) 1 (Ty.encs t.kids) X:=hX.keepF fun d hd=>ae _ _ (by rintro rfl;obtain⟨n,m,h⟩:=hX.mem hd;rw[gr]at h;simp[RdO]at h)
 have gr:(H3.set r (RdO bs p3)).get r=_:=ai _ _ _
 generalize H3.set r (RdO bs p3)=H4 at*
 have fin:∀(E:Env) (H:aj) (Y:AC) (t:Ty) (p':Int),H.get r=some (RdO bs p')->H.get b2=some (.cells [NIL])->H.get b3=some (.cells [Y])->Le Y (.sl 1 none (Ty.encs t.kids))->t.lo->p<=p'->p'<=p+40->E 2=.ptr b2 0->E 3=.ptr b3 0->
  aT.wp P (.seq (rg [ld 0 30 (some 1) 3,en 1 (.store 1 2 30)]) .ret) (bh.post [.cell 2 (some 1)] (RdR r bs p 40 fun q=>∃t:Ty,q=.agg t.enc/\t.lo)) E H:=by
  intro E H Y t p' gr g2 g3 hY ht h1 h2 e2 e3
  simp only[go_sem,rE,rA,e2,e3,g2,g3,rL]
  exact bP (q':=.agg t.enc) (off:=0) (e2) (ai _ _ _) rfl (by rw[Ty.enc_eq t];exact .agg ⟨⟨hY,rfl⟩,trivial⟩) (gK (by rw[ae _ _ hr2];exact gr)) ⟨p',h1,h2,rfl,t,rfl,ht⟩
 generalize((.seq (rg [ld 0 30 (some 1) 3,en 1 (.store 1 2 30)]) .ret):aT)=RF at fin⊢
 by_cases hk0:k1=0
 ·simp only[hk0,go_sem,rE,rA,aF]
  let J:Nat->Env->aj->Prop:=fun k E H=>∃(Y:AC) (t:Ty),H.get r=some (RdO bs p3)/\H.get b2=some (.cells [NIL])/\H.get b3=some (.cells [Y])/\Le Y (.sl 1 none (Ty.encs t.kids))/\Y.cells?=some [Y]/\t.le (4+k)/\E 0=.ptr r 0/\E 2=.ptr b2 0/\E 3=.ptr b3 0/\E 4=I k
  refine aV 5 J ⟨X,t,gr,g2,g3,hX.le,hx1,ht,rfl,rfl,rfl,rfl⟩ ?_
  clear gr g2 g3 hX
  rintro k E H hk ⟨Y,t,gr,g2,g3,hY,hY1,ht,e0,e2,e3,e4⟩
  simp only[wp_seq,go_sem,rE,rA,e4]
  refine aH (fun hlt=>?_) (fun hge=>?_)
  ·have w2:=aP (n:=(k:Int)+1) (by omega) (by omega)
   simp only[go_sem,rE,rA,e3,g3,hY1,ax,av,ay,rL,bg]
   intro b5 hb5
   have hr5:=al gr hb5
   have d25:=al g2 hb5
   have d35:=al g3 hb5
   simp only[go_sem,rE,rA,e3,e4,g3,d35,w2,rL]
   refine⟨by omega,_,aj.sub_refl _,_,.mk [t,.mk []],by rw[ae _ _ hr3,ae _ _ hr5];exact gr,by rw[ae _ _ d23,ae _ _ d25];exact g2,ai _ _ _,?_,rfl,?_,e0,e2,e3,rfl⟩
   ·simp only[Ty.kids,Ty.encs,Ty.enc_eq t,Ty.enc]
    exact .slR ⟨⟨⟨hY,rfl⟩,trivial⟩,⟨⟨.nil 1,rfl⟩,trivial⟩,trivial⟩
   ·show Ty.le ((4+k)+1) _
    simp only[Ty.le,aR,bM,bi,cF,or_false,forall_eq_or_imp,forall_eq]
    exact⟨by omega,ht,jM _⟩
  ·simp only[go_sem,rE,rA]
   exact fin _ _ Y t p3 gr g2 g3 hY ⟨4+k,by omega,ht⟩ (by omega) (by omega) (e2) (e3)
 have hk0':(k1==0)=false:=by simpa using hk0
 by_cases hk1:k1=1
 ·have hk1':(k1==1)=true:=by simpa using hk1
  simp only[hk0',hk1',go_sem,rE,rA,g3,ax,av,ay,rL,bg]
  refine fG (es:=Ty.encs t.kids) (ys:=[[NIL]]) (by simp only[go_sem,rE];exact hX) (rfl) (by simp) (by rw[Ty.encs_map];simp;omega) ?_
  intro x' Hc fpc hx' _ keep new
  simp only[go_sem,rE]at keep new
  have hx1':=hx'.one
  have in1:∀{d cs},H4.get d=some (.cells cs)->Hc.get d=some (.cells cs):=fun {d cs} hd=>by
   rw[keep d (by rw[hd];simp) fun ht=>by obtain⟨n,m,h⟩:=hX.mem ht;rw[hd]at h;simp at h];exact hd
  have g2:=in1 g2
  have g3:=in1 g3
  have gr:=in1 gr
  simp only[go_sem,rE,rA,g3,hx1',rL]
  refine fin _ _ x' (.mk (t.kids++[.mk []])) p3 ((ae _ _ hr3).trans gr) ((ae _ _ d23).trans g2) (ai _ _ _) ?_ ⟨4,by omega,?_⟩ (by omega) (by omega) (rfl) (rfl)
  ·refine hx'.le.trans ?_
   simp only[Ty.kids,Ty.encs_map,bL,aU,bB,Ty.enc]
   exact .slR (LeR.snoc (LeR.tys t.kids) ⟨⟨.nil 1,rfl⟩,trivial⟩)
  ·obtain⟨ks⟩:=t
   simp only[Ty.kids]at htk⊢
   simp only[Ty.le,bv,aR,bM]at ht⊢
   refine⟨by omega,fun k hk=>?_⟩
   rcases aE.1 hk with h|h
   ·exact ht.2 k h
   ·simp at h;subst h;exact jM _
 ·have hk1':(k1==1)=false:=by simpa using hk1
  simp only[hk0',hk1',go_sem,rE,rA]
  exact fin _ _ X t p3 gr g2 g3 hX.le ⟨4,by omega,ht⟩ (by omega) (by omega) (rfl) (rfl)
end
def FZ(b c sz:Nat)(rows:List (List AC))(x y:AC):Prop:=x=y\/(x=.lit (.slice (some ⟨b,0,none⟩) rows.length c)/\y=.sl sz none rows)
def FZL(b c sz:Nat)(rows:List (List AC)):List AC->List AC->Prop
 |[],[]=>True
 |x::xs,y::ys=>FZ b c sz rows x y/\FZL b c sz rows xs ys
 |_,_=>False
theorem FZL.refl(b c sz:Nat)(rows:List (List AC)):∀xs,FZL b c sz rows xs xs
 |[]=>trivial
 |x::xs=>⟨.inl rfl,FZL.refl b c sz rows xs⟩
theorem FZL.length{b c sz:Nat}{rows:List (List AC)}:∀{xs ys},FZL b c sz rows xs ys->xs.length=ys.length
 |[],[],_=>rfl
 |x::xs,y::ys,h=>by simp[FZL.length h.2]
theorem FZL.get{b c sz:Nat}{rows:List (List AC)}:∀{xs ys},FZL b c sz rows xs ys->∀(j:Nat) {y},ys[j]?=some y->∃x,xs[j]?=some x/\FZ b c sz rows x y
 |[],[],_,j,y,hy=>by simp at hy
 |x::xs,y::ys,h,0,z,hz=>by simp at hz;subst hz;exact⟨x,by simp,h.1⟩
 |x::xs,y::ys,h,j+1,z,hz=>by simpa using FZL.get h.2 j (by simpa using hz)
theorem FZL.append{b c sz:Nat}{rows:List (List AC)}:∀{xs ys us vs},FZL b c sz rows xs ys->FZL b c sz rows us vs->FZL b c sz rows (xs++us) (ys++vs)
 |[],[],_,_,_,h=>h
 |x::xs,y::ys,_,_,h,h'=>⟨h.1,FZL.append h.2 h'⟩
structure wW(H H':aj)(b c sz:Nat)(rows:List (List AC)):Prop where
 gone:H'.get b=none
 keep:∀d o',H'.get d=some o'->H.get d=some o'\/∃xs ys,H.get d=some (.cells xs)/\o'=.cells ys/\FZL b c sz rows xs ys
theorem xF{sz:Nat}:∀{rows:List (List AC)},(∀e∈rows,e.length=sz)->∀{i j:Nat} {e:List AC} {x:AC},rows[i]?=some e->e[j]?=some x->rows.flatten[i*sz+j]?=some x
 |[],_,i,j,e,x,h,_=>by simp at h
 |r::rows,hs,0,j,e,x,h,hx=>by
  simp at h;subst h
  have:=hs r (by simp)
  have hj:j<r.length:=by
   rcases Nat.lt_or_ge j r.length with h|h
   ·exact h
   ·rw[fx h]at hx;simp at hx
  simp only[av,Nat.zero_mul,bY]
  rw[aO hj];exact hx
 |r::rows,hs,i+1,j,e,x,h,hx=>by
  have hr:=hs r (by simp)
  simp only[av]
  rw[be (by rw[hr,Nat.succ_mul];omega),hr,Nat.succ_mul]
  have:i*sz+sz+j - sz=i*sz+j:=by omega
  rw[this]
  exact xF (fun e he=>hs e (by simp[he])) (by simpa using h) hx
theorem oW{H H':aj}{b c sz:Nat}{cs:List AC}{rows:List (List AC)}(hb:H.get b=some (.cells cs))(hrows:cs.take (rows.length*sz)=rows.flatten)(hsz:∀e∈rows,e.length=sz)(hc:rows.length<=c)(hlim:rows.length<=LIM)
(fr:wW H H' b c sz rows){xs ys:List AC}(hxy:FZL b c sz rows xs ys):mV (.agg xs) H (.agg ys) H':=by
 intro M w v s r
 obtain⟨vs,el,hw,hone,hlen,hrep,hM⟩:=s.obj b _ hb
 let M':bF:=fun d o=>if d=b then(if o<rows.length*sz then vs[o]? else none)else M d o
 have hle:M.le M':=by
  intro d o u hu
  by_cases hd:d=b
  ·subst hd;rw[hM]at hu;simp at hu
  ·simp only[M',if_neg hd];exact hu
 have hcs:∀{i j e x},rows[i]?=some e->e[j]?=some x->∃u,vs[i*sz+j]?=some u/\i*sz+j<rows.length*sz/\Rep M x u/\x.one=true:=by
  intro i j e x he hx
  have h1:=xF hsz he hx
  rw[<-hrows,eT]at h1
  split at h1
  ·rename_i hlt
   obtain⟨hl,h2⟩:=aN.1 h1
   have hl2:i*sz+j<vs.size:=hlen▸hl
   exact⟨vs[i*sz+j],by simp[hl2],hlt,hrep _ _ _ h1 (by simp[hl2]),hone _ (aY h1)⟩
  ·simp at h1
 have key:Rep M' (.sl sz none rows) (.slice (some ⟨b,0,none⟩) rows.length c):=by
  refine .sl (fun i j=>vs.getD (i*sz+j) undef) hlim hc (fun e he=>⟨hsz e he,fun x hx=>?_⟩) (fun i j e x he hx=>?_) (fun i j e x he hx=>?_) (fun t ht=>by simp at ht)
  ·obtain⟨i,hi⟩:=List.getElem?_of_mem he
   obtain⟨j,hj⟩:=List.getElem?_of_mem hx
   obtain⟨u,-,-,-,h⟩:=hcs hi hj
   exact h
  ·obtain⟨u,h1,h2,-⟩:=hcs he hx
   simp only[M',if_true,bY,if_pos h2,h1]
   simp only[gH,h1,Option.getD_some]
  ·obtain⟨u,h1,h2,h3,-⟩:=hcs he hx
   simp only[gH,h1,Option.getD_some]
   exact h3.mono hle
 have rep:∀{x y u},FZ b c sz rows x y->Rep M x u->Rep M' y u:=by
  intro x y u h hr
  rcases h with rfl|⟨rfl,rfl⟩
  ·exact hr.mono hle
  ·obtain⟨rfl,-⟩:=hr.lit_inv
   exact key
 have one:∀{x y},FZ b c sz rows x y->x.one=true->y.one=true:=by
  intro x y h hx
  rcases h with rfl|⟨rfl,rfl⟩
  ·exact hx
  ·rfl
 have hne:∀d o',H'.get d=some o'->d≠b:=fun d o' hd e=>by subst e;rw[fr.gone]at hd;simp at hd
 have hMd:∀d,d≠b->∀o,M' d o=M d o:=fun d hd o=>by simp only[M',if_neg hd]
 refine⟨M',⟨fun d o u hu=>?_,fun d o' hd=>?_⟩,⟨hle,aA _,fun d _ hd=>⟨rfl,hMd d (by rintro rfl;rw[hb]at hd;simp at hd)⟩,fun d hd=>?_,rfl,rfl⟩,?_⟩
 ·by_cases hd:d=b
  ·subst hd
   simp only[M',if_true]at hu
   split at hu
   ·rw[eo,hw];exact hu
   ·simp at hu
  ·rw[hMd d hd]at hu;exact s.mem d o u hu
 ·have hdb:=hne d o' hd
  rcases fr.keep d o' hd with h|⟨xs,ys,h,rfl,hz⟩
  ·have:=s.obj d o' h
   cases o' with
   |cells zs=>
    obtain⟨us,el',q1,q2,q3,q4,q5⟩:=this
    exact⟨us,el',q1,q2,q3,fun j x v hx hv=>(q4 j x v hx hv).mono hle,fun o=>by rw[hMd d hdb];exact q5 o⟩
   |tail n m=>
    obtain⟨us,el',q1,q2,q3,q4⟩:=this
    exact⟨us,el',q1,q2,q3,fun o ho=>by rw[hMd d hdb];exact q4 o ho⟩
   |typed ty zs=>
    obtain⟨us,q1,q3,q4,q5⟩:=this
    exact⟨us,q1,q3,fun j x v hx hv=>(q4 j x v hx hv).mono hle,fun o=>by rw[hMd d hdb];exact q5 o⟩
   |map g=>
    obtain⟨es,cl,q1,q2,q3⟩:=this
    exact⟨es,cl,q1,q2.mono hle,fun o=>by rw[hMd d hdb];exact q3 o⟩
   |const ob zs=>
    obtain⟨q1,us,q2,q3,q4⟩:=this
    exact⟨q1,us,q2,fun j hj=>by rw[hMd d hdb];exact q3 j hj,fun j x hx=>(q4 j x hx).mono hle⟩
  ·obtain⟨us,el',q1,q2,q3,q4,q5⟩:=s.obj d _ h
   refine⟨us,el',q1,fun y hy=>?_,hz.length▸q3,fun j y v hy hv=>?_,fun o=>by rw[hMd d hdb];exact q5 o⟩
   ·obtain⟨j,hj⟩:=List.getElem?_of_mem hy
    obtain⟨x,hx,hf⟩:=hz.get j hj
    exact one hf (q2 x (aY hx))
   ·obtain⟨x,hx,hf⟩:=hz.get j hy
    exact rep hf (q4 j x v hx hv)
 ·left
  obtain⟨o',ho⟩:=aI.1 hd
  rcases fr.keep d o' ho with h|⟨xs,ys,h,-⟩<;>rw[h]<;>simp
 ·cases r with
  |agg h1 h2 h3=>
   refine .agg (fun y hy=>?_) (hxy.length▸h2) (fun j y u hy hu=>?_)
   ·obtain⟨j,hj⟩:=List.getElem?_of_mem hy
    obtain⟨x,hx,hf⟩:=hxy.get j hj
    exact one hf (h1 x (aY hx))
   ·obtain⟨x,hx,hf⟩:=hxy.get j hy
    exact rep hf (h3 j x u hx hu)
theorem oX{sz:Nat}(us d:List AC)(hu:us.length=sz):∀(rows:List (List AC)) (k:Nat),(∀e∈rows,e.length=sz)->k<rows.length->
 (rows.flatten++d).take (k*sz)++us++(rows.flatten++d).drop (k*sz+us.length)=(rows.set k us).flatten++d
 |[],k,_,h=>by simp at h
 |e::rows,0,hs,_=>by
  have he:=hs e (by simp)
  simp only[av,Nat.zero_mul,List.take_zero,df,bY,List.set_cons_zero,dU]
  rw[hu,<-he,List.drop_left]
 |e::rows,k+1,hs,h=>by
  have he:=hs e (by simp)
  have ih:=oX us d hu rows k (fun e he=>hs e (by simp[he])) (by simpa using h)
  have e1:(k+1)*sz=e.length+k*sz:=by rw[Nat.succ_mul,he,Nat.add_comm]
  simp only[av,List.set_cons_succ,dU]
  rw[e1,Nat.add_assoc,List.take_length_add_append,List.drop_length_add_append,dU,<-dU (List.take _ _),ih]
theorem lN{sz:Nat}{rows:List (List AC)}{us cs:List AC}{k:Nat}(hs:∀e∈rows,e.length=sz)(hu:us.length=sz)(hk:k<rows.length)(h:cs.take (rows.length*sz)=rows.flatten):
 (bx cs (k*sz) us).take ((rows.set k us).length*sz)=(rows.set k us).flatten:=by
 have hl:(rows.set k us).flatten.length=(rows.set k us).length*sz:=dB fun e he=>by
  rcases kz he with h|h
  ·exact hs e h
  ·rw[h];exact hu
 have hcs:cs=rows.flatten++cs.drop (rows.length*sz):=by rw[<-h,ic]
 have:=oX us (cs.drop (rows.length*sz)) hu rows k hs hk
 rw[<-hcs]at this
 unfold bx
 rw[this,<-hl,List.take_left]
theorem qK(f:Fu):f.enc=[S f.name,.sl 3 none (f.params.map Pa.enc),B f.lent,.sl 1 none (Ty.encs f.type.kids),.sl 15 none (f.body.map St.enc),I f.says.kind,I f.says.num,S f.says.place.name,au f.says.place.path,.sl 5 none (Ex.encs f.says.kids),S f.gives.name,au f.gives.path]:=by
 rw[Fu.enc,Ty.enc_eq,Ex.enc_eq,St.encs_map];rfl
structure Fu.lo(m:Nat)(f:Fu):Prop where
 pars:0<f.params.length/\f.params.length<=4+m
 ptys:∀x∈f.params,x.type.lo
 ty:f.type.lo
 blen:f.body.length<=6+m
 bcnt:∀s∈f.body,s.cnt<=1000
 bsm:∀s∈f.body,s.sx 3
 says:f.says.sm
 nm:f.name.size≠5
 pnm:∀x∈f.params,x.name.size<=2
theorem Ty.wf.lo{t:Ty}(h:t.wf):t.lo:=by
 obtain⟨D,h1,h2⟩:=h
 exact⟨D,by omega,h2⟩
theorem Fu.good.lo{f:Fu}(h:f.good):f.lo 0:=
 ⟨by have:=h.pars;omega,fun x hx=>(h.okS.params x hx).type.lo,h.okS.type.lo,by have:=h.blen;omega,fun s hs=>by have:=tt hs;have:=h.body;omega,h.sms,h.says,h.nm,h.pnm⟩
theorem Fu.lo.up{m:Nat}{f:Fu}(h:f.lo m):f.lo (m+1):=⟨by have:=h.pars;omega,h.ptys,h.ty,by have:=h.blen;omega,h.bcnt,h.bsm,h.says,h.nm,h.pnm⟩
def FuAt(H:aj)(ex:Nat->Prop)(c6:List AC)(f:Fu):Prop:=c6.length=12/\(LeC c6 f.enc\/
 ∃(b c:Nat) (cs:List AC) (rows:List (List AC)) (c6':List AC),H.get b=some (.cells cs)/\cs.take (rows.length*15)=rows.flatten/\(∀e∈rows,e.length=15)/\rows.length<=c/\rows.length<=LIM/\FZL b c 15 rows c6 c6'/\LeC c6' f.enc/\¬ex b)
theorem LeR.set:∀{xs ys:List (List AC)} (k:Nat) {x y:List AC},LeR xs ys->LeC x y->LeR (xs.set k x) (ys.set k y)
 |[],[],_,_,_,_,_=>trivial
 |a::xs,b::ys,0,_,_,h,h'=>⟨h',h.2⟩
 |a::xs,b::ys,k+1,_,_,h,h'=>⟨h.1,LeR.set k h.2 h'⟩
theorem FZL.splice{b c sz:Nat}{rows:List (List AC)}{u u':List AC}(h:FZL b c sz rows u u')(cs:List AC)(o:Nat):FZL b c sz rows (bx cs o u) (bx cs o u'):=by
 unfold bx
 rw[h.length]
 exact((FZL.refl _ _ _ _ _).append h).append (FZL.refl _ _ _ _ _)
theorem qi{E:Env}{H:aj}{n r off:Nat}{g:Option Nat}{cs:List AC}{q q':AC}{R:AC->aj->Prop}(hE:E n=.ptr r off)(hg:H.get r=some (.cells cs))(hq:fH g cs off=some q)
{H':aj}(ht:mV q H q' H')(h:R q' H'):bh.post [.cell n g] R .ret E H:=
 ⟨q,by simp only[lh,iH,jq.val,hE,hg,hq],q',H',ht,h⟩
section
variable {P:Program}{F:Ids}
def sK(m:Nat)(r:Nat)(bs:List UInt8)(p c:Int):AC->aj->Prop:=RdR r bs p c fun q=>∃pr:Pg,q=.agg (Pg.enc pr)/\(∀f∈pr,f.lo m)/\1<=pr.length/\pr.length<=4+m
theorem ra(L:Lib P F){m:Nat}(hm:m<=9)(r:Nat)(bs:List UInt8)(p c:Int)(E:Env)(H:aj)(p':Int)(pr:Pg)(k:Nat)(hk:k<pr.length)(hpl:pr.length<=4+m)(hpr:∀f∈pr,f.lo m)(X:AC)(c6:List AC)(f:Fu)(hf:f.lo m)(b3 b4 b6:Nat)
(gr:H.get r=some (RdO bs p'))(g3:H.get b3=some (.cells [X]))(g4:H.get b4=some (.cells [NIL]))(g6:H.get b6=some (.cells c6))(hX:∀H',gT H' 12 X=some (pr.map Fu.enc))(hf6:FuAt H (fun d=>d=r\/d=b3\/d=b4\/d=b6) c6 f)
(hr3:r≠b3)(hr4:r≠b4)(d34:b3≠b4)(d36:b3≠b6)(d46:b4≠b6)(hr6:r≠b6)(e3:E 3=.ptr b3 0)(e4:E 4=.ptr b4 0)(e5:E 5=I k)(e6:E 6=.ptr b6 0)(h1:p<=p')(h2:p'<=p+c):
 aT.wp P (.seq (.region false [ef 0 185 (.buildSlice 12 0 [.string (bl []),.slice none 0 0,.bool false,.slice none 0 0,.slice none 0 0,.int .i64 0,.int .i64 0,.string (bl []),.slice none 0 0,.slice none 0 0,.string (bl []),.slice none 0 0] []),pu 1 186 (.fieldAddr 0 (sl 3)),ld 2 187 none (sl 186),ef 3 188 (.appendM 12 216 (sl 185) (sl 187)),pu 4 189 (.fieldAddr 0 (sl 3)),en 5 (.store 1 (sl 189) (sl 188))]) (.seq (.region false [pu 0 190 (.fieldAddr 0 (sl 3)),ld 1 191 none (sl 190),mv 2 192 (sl 5),ld 3 193 (some 12) (sl 6),pu 4 194 (.indexAddr 12 (sl 191) (sl 192)),en 5 (.store 12 (sl 194) (sl 193))]) (.seq (.region false [ld 0 195 (some 1) (sl 3),en 1 (.store 1 (sl 4) (sl 195))]) .ret))) (bh.post [.cell 4 (some 1)] (sK m r bs p c)) E H:=by
 obtain⟨hlen6,hf6⟩:=hf6
 simp only[go_sem,rE,rA,e3,ax,av,ay,bg]
 intro b0 hb0
 have hr0:=al gr hb0
 have d30:=al g3 hb0
 have d40:=al g4 hb0
 have d60:=al g6 hb0
 simp only[go_sem,rE,rA,e3,d30,g3,rL]
 have hsz:∀e∈pr.map Fu.enc,e.length=12:=fun e he=>by obtain⟨g,-,rfl⟩:=aZ.1 he;exact nC g
 refine qd (b:=b0) (ys:=pr.map Fu.enc) (rfl) (ai _ _ _) (by simp only[go_sem,rE];exact hX _) hsz (by simp;omega) trivial ?_
 intro x' H1 fp1 hR _ keep new
 rcases hR with⟨h0,-⟩|⟨pp,pc,cs,rfl,gp,hcl,hcc,hct⟩
 ·have:pr=[]:=by simpa using h0
  rw[this]at hk;simp at hk
 have in1:∀{d o},H.get d=some o->H1.get d=some o/\d≠pp:=by
  intro d o hd
  have hd0:=al hd hb0
  refine⟨by rw[keep d (by rw[ae _ _ hd0,hd];simp) hd0,ae _ _ hd0];exact hd,?_⟩
  rintro rfl
  rcases new d ⟨_,_,rfl⟩with h|h
  ·exact hd0 h
  ·rw[ae _ _ hd0,hd]at h;simp at h
 obtain⟨gr,dpr⟩:=in1 gr
 obtain⟨g3,dp3⟩:=in1 g3
 obtain⟨g4,dp4⟩:=in1 g4
 obtain⟨g6,dp6⟩:=in1 g6
 have hlim:pr.length<=LIM:=by simp only[LIM];omega
 have hkl:(k:Int)<pr.length:=by omega
 have hko:k*12+12<=cs.length:=by
  rw[ao]at hcc
  have:(k+1)*12<=pc*12:=bu _ (by omega)
  omega
 simp only[ao]at hct hcc⊢
 simp only[go_sem,rE,rA,e3,e4,e5,e6,g3,g4,g6,d36,Ne.symm d36,d34,Ne.symm d34,d46,dp3,Ne.symm dp3,dp4,Ne.symm dp4,dp6,Ne.symm dp6,gp,hlim,hkl,hlen6,hko,aA,cy,rL]
 have hspl:∀u:List AC,u.length=12->cs.take (k*12)++u++cs.drop (k*12+12)=bx cs (k*12) u:=fun u hu=>by rw[bx,hu]
 rw[hspl c6 hlen6]
 have hlenR:∀u,((pr.map Fu.enc).set k u).length=pr.length:=fun u=>by simp
 have hszR:∀u:List AC,u.length=12->∀e∈(pr.map Fu.enc).set k u,e.length=12:=fun u hu e he=>by
  rcases kz he with h|h
  ·exact hsz e h
  ·rw[h];exact hu
 have hrow:∀u:List AC,u.length=12->(bx cs (k*12) u).take (((pr.map Fu.enc).set k u).length*12)=((pr.map Fu.enc).set k u).flatten:=fun u hu=>
  lN hsz hu (by simp;exact hk) (by simpa using hct)
 have hlo:∀g∈pr.set k f,g.lo m:=fun g hg=>by
  rcases kz hg with h|h
  ·exact hpr g h
  ·rw[h];exact hf
 have hR:∀{q},q=.agg (Pg.enc (pr.set k f))->sK m r bs p c q (one r (RdO bs p')):=fun hq=>⟨p',h1,h2,rfl,pr.set k f,hq,hlo,by simp;omega,by simp;omega⟩
 have last:∀(G:aj) (u:List AC),u.length=12->LeC u f.enc->G.get pp=some (.cells (bx cs (k*12) u))->G.get r=some (RdO bs p')->mV (.agg [.lit (.slice (some ⟨pp,0,none⟩) pr.length pc)]) G (.agg (Pg.enc (pr.set k f))) (one r (RdO bs p')):=by
  intro G u hu hle gp gr
  have fr:wW G (one r (RdO bs p')) pp pc 12 ((pr.map Fu.enc).set k u):=⟨fV _ (Ne.symm dpr),fun d o' hd=>.inl (gK gr d o' hd)⟩
  refine(oW gp (hrow u hu) (hszR u hu) (by rw[hlenR];exact hcc) (by rw[hlenR];exact hlim) fr (xs:=[.lit (.slice (some ⟨pp,0,none⟩) pr.length pc)]) (ys:=[.sl 12 none ((pr.map Fu.enc).set k u)]) ⟨.inr ⟨by rw[hlenR],rfl⟩,trivial⟩).trans_le ?_
  refine .agg ⟨⟨.slR ?_,rfl⟩,trivial⟩
  rw[List.map_set]
  exact(tG pr).set k hle
 refine qi (off:=0) (e4) (ai _ _ _) rfl ?_ (hR rfl)
 have gpE:(((H1.set b3 (.cells [.lit (.slice (some ⟨pp,0,none⟩) pr.length pc)])).set pp (.cells (bx cs (k*12) c6))).set b4 (.cells [.lit (.slice (some ⟨pp,0,none⟩) pr.length pc)])).get pp=some (.cells (bx cs (k*12) c6)):=by
  rw[ae _ _ (Ne.symm dp4),ai]
 have grE:(((H1.set b3 (.cells [.lit (.slice (some ⟨pp,0,none⟩) pr.length pc)])).set pp (.cells (bx cs (k*12) c6))).set b4 (.cells [.lit (.slice (some ⟨pp,0,none⟩) pr.length pc)])).get r=some (RdO bs p'):=by
  rw[ae _ _ hr4,ae _ _ dpr,ae _ _ hr3];exact gr
 rcases hf6 with hle|⟨bb,bc,bcs,rows,c6',gb,hb1,hb2,hb3,hb4,hfz,hle,hex⟩
 ·exact last _ c6 hlen6 hle gpE grE
 ·obtain⟨gb,dpb⟩:=in1 gb
  have n3:bb≠b3:=fun h=>hex (.inr (.inl h))
  have n4:bb≠b4:=fun h=>hex (.inr (.inr (.inl h)))
  have nr:bb≠r:=fun h=>hex (.inl h)
  have gbE:(((H1.set b3 (.cells [.lit (.slice (some ⟨pp,0,none⟩) pr.length pc)])).set pp (.cells (bx cs (k*12) c6))).set b4 (.cells [.lit (.slice (some ⟨pp,0,none⟩) pr.length pc)])).get bb=some (.cells bcs):=by
   rw[ae _ _ n4,ae _ _ dpb,ae _ _ n3];exact gb
  have hlen6':c6'.length=12:=hfz.length▸hlen6
  let G:aj:=(one r (RdO bs p')).set pp (.cells (bx cs (k*12) c6'))
  have fr:wW (((H1.set b3 (.cells [.lit (.slice (some ⟨pp,0,none⟩) pr.length pc)])).set pp (.cells (bx cs (k*12) c6))).set b4 (.cells [.lit (.slice (some ⟨pp,0,none⟩) pr.length pc)])) G bb bc 15 rows:=by
   refine⟨by simp only[G];rw[ae _ _ dpb,fV _ nr],fun d o' hd=>?_⟩
   simp only[G]at hd
   by_cases hdp:d=pp
   ·subst hdp
    rw[ai]at hd
    simp at hd;subst hd
    exact .inr ⟨_,_,gpE,rfl,hfz.splice _ _⟩
   ·rw[ae _ _ hdp]at hd
    exact .inl (gK grE d o' hd)
  refine(oW gbE hb1 hb2 hb3 hb4 fr (xs:=[.lit (.slice (some ⟨pp,0,none⟩) pr.length pc)]) (ys:=[.lit (.slice (some ⟨pp,0,none⟩) pr.length pc)]) (FZL.refl _ _ _ _ _)).trans (last G c6' hlen6' hle (ai _ _ _) ?_)
  simp only[G];rw[ae _ _ dpr,bD]
end
end Go.Xl
