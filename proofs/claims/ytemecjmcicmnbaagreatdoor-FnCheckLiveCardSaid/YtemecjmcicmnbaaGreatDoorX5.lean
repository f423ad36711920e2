/- FnCheckLive: a part of the proof. -/
import Derived.ControlIn
import Derived.RangeFuncSeq
import Derived.RangeFuncIn
import Derived.RangeFuncLeaves
import Derived.RangeFuncRecord
import Derived.Test.YtemecjmcicmnbaaGreatDoorX4
set_option linter.unusedVariables false
set_option linter.unusedSimpArgs false
namespace Go.Xl
open _root_.Array renaming getD_eq_getD_getElem? -> gQ, getElem?_append_left -> l5, getElem?_eq_getElem -> iC, getElem?_eq_some_iff -> dc, replicate -> fz, toList_inj -> eY
open _root_.Bool renaming and_eq_false_iff -> cO, and_eq_true -> aw, and_false -> aO, and_true -> fO, eq_iff_iff -> aZ, false_and -> aK, false_eq_true -> ap, false_ne_true -> fL, false_or -> dK, not_eq_true' -> dJ, or_eq_true -> dq, true_and -> bX, true_or -> dZ
open _root_.Int renaming eq_ofNat_of_zero_le -> dF, le_refl -> dz, reduceBEq -> aH, reduceEq -> bp, reduceLE -> dO, toNat_natCast -> dH
open _root_.List renaming all_append -> eG, all_eq_false -> du, all_eq_true -> aW, any_append -> fy, any_eq_true -> fJ, append_assoc -> dY, append_nil -> cX, cons_append -> cB, drop_eq_getElem_cons -> bU, drop_length -> l8, drop_succ_cons -> gE, drop_zero -> ip, eq_nil_of_length_eq_zero -> bu, ext_getElem? -> gd, findIdx?_eq_none_iff -> iB, findIdx?_eq_some_iff_getElem -> bQ, flatten_cons -> aq, flatten_nil -> az, getElem?_append_left -> aR, getElem?_append_right -> bi, getElem?_cons_succ -> aB, getElem?_cons_zero -> a7, getElem?_drop -> bC, getElem?_eq_getElem -> av, getElem?_eq_none -> fE, getElem?_eq_some_iff -> aQ, getElem?_take -> eU, getElem_append_left -> dv, getElem_mem -> ay, length_append -> bq, length_cons -> aV, length_drop -> eX, length_filter_le -> ix, length_map -> am, length_nil -> bP, length_take -> bk, map_append -> bB, map_cons -> aS, map_nil -> bv, map_take -> gU, mem_append -> aF, mem_cons -> bf, mem_cons_of_mem -> dt, mem_cons_self -> fI, mem_filter -> eF, mem_iff_getElem -> bj, mem_map -> aY, mem_map_of_mem -> cu, mem_of_getElem? -> ba, mem_of_mem_drop -> fV, mem_of_mem_take -> bJ, mem_or_eq_of_mem_set -> lL, mem_range -> eT, mem_singleton -> cn, nil_append -> dm, nodup_append -> fZ, not_mem_nil -> cq, range -> dU, replicate -> ax, take_append_drop -> iw, take_length -> aU, take_of_length_le -> cF, take_succ_eq_append_getElem -> aA
open _root_.Nat renaming reduceEqDiff -> rE, reduceAdd -> rA, reduceLeDiff -> rL, le_refl -> aC, le_trans -> bZ, mul_le_mul_right -> bA, zero_add -> cj, zero_le -> fx
open _root_.Option renaming map_eq_some_iff -> a6, ne_none_iff_exists' -> aJ
theorem uR{v:En}(h:v.code≠0):∀l:List St,v.body l=v
 |[]=>iu v
 |s::l=>by rw[iz,if_neg h]
theorem oD{n:ByteArray}(hn:bn n=true):n≠bl []:=by
 intro e;rw[e]at hn;simp[bn,bl]at hn;exact absurd hn.1 (by decide)
theorem zH{vs ws:List Vr}(hc:ws.map Vr.core=vs.map Vr.core){n:ByteArray}(h:∃x∈vs,x.name=n):∃y∈ws,y.name=n:=by
 obtain⟨x,hx,hn⟩:=h
 have:x.core∈ws.map Vr.core:=by rw[hc];exact cu hx
 obtain⟨y,hy,ey⟩:=aY.1 this
 exact⟨y,hy,by have:=congrArg Vr.name ey;exact this.trans hn⟩
def xQ(d:Nat):Prop:=∀(l:List St),cb d l=true->∀{e:En} {u:Sc},Rel e u []->u.good->u.held=[]->(∀f∈u.p,f.type.okB=true)->u.vars.length+200*d<=2^30->
 ((u.stmts l).2=0/\Rel (e.body l) (u.stmts l).1 [])\/((u.stmts l).2≠0/\(e.body l).code=(u.stmts l).2)
theorem Rel.lost0{e:En}{u:Sc}(h:Rel e u []):u.lost=false:=by have:=h.lost;simpa using this
theorem Bp{d:Nat}(ih:xQ d){s:St}(hs:de (cb d) s=true){e:En}{u:Sc}(h:Rel e u [])(hu:u.good)(hh:u.held=[])(hp:∀f∈u.p,f.type.okB=true)(hn:u.vars.length+200*d<=2^30):
 ((u.stmt s).2=0/\Rel (e.stmt s) (u.stmt s).1 [])\/((u.stmt s).2≠0/\(e.stmt s).code=(u.stmt s).2):=by
 have hheldE:=(Sc.expr_core s.expr u).2.2.1
 rcases stW hs with⟨k,r,n,x⟩|⟨k,r,n,p⟩|⟨k,r,p,x⟩|⟨k,r,n,f,a⟩|⟨k,r,x,t,l⟩|⟨k,r,n,p,o,x⟩
 ·rw[En.stmt_eq,Sc.stmt_eq]
  simp only[k,bp,if_true,if_false]
  rcases oh 4 s.expr x h with⟨a1,⟨T1,a2⟩,a3⟩|⟨a1,a2⟩
  ·rw[if_pos a1,a3]
   obtain rfl:=a2.nil (hheldE.trans hh)
   exact qN a2 (oD n) (by simp) (hheldE.trans hh)
  ·rw[if_neg a1]
   right
   exact⟨a1,(eJ (by rw[a2];exact a1) _).trans a2⟩
 ·rw[En.stmt_eq,Sc.stmt_eq]
  simp only[k,bp,if_true,if_false]
  have hheldU:=(u.use_core s.place).2.2.1
  rcases mG h (p:=s.place) (lj p)with⟨a1,⟨T1,a2⟩,a3,a4⟩|⟨a1,a2⟩
  ·rw[if_pos a1,a3]
   obtain rfl:=a2.nil (hheldU.trans hh)
   exact qN a2 (oD n) (by
    intro q hq
    simp at hq;subst hq
    exact zH (u.use_core s.place).1 a4) (hheldU.trans hh)
  ·rw[if_neg a1]
   right
   exact⟨a1,(eJ (by rw[a2];exact a1) _).trans a2⟩
 ·rw[En.stmt_eq,Sc.stmt_eq]
  simp only[k,bp,if_true,if_false]
  rcases oh 4 s.expr x h with⟨a1,⟨T1,a2⟩,a3⟩|⟨a1,a2⟩
  ·rw[if_pos a1,a3]
   obtain rfl:=a2.nil (hheldE.trans hh)
   have hheldU:=((u.expr s.expr).1.use_core s.place).2.2.1
   rcases mG a2 (p:=s.place) (lj p)with⟨b1,⟨T2,b2⟩,b3,b4⟩|⟨b1,b2⟩
   ·obtain rfl:=b2.nil (hheldU.trans (hheldE.trans hh))
    rw[b3]
    simp only[if_pos b1]
    by_cases hq:eqB (u.expr s.expr).2.1 ((u.expr s.expr).1.use s.place).2.1=true
    ·left
     simp only[hq,if_true]
     exact⟨trivial,b2.same (cQ.2 (cQ.1 hq).symm)⟩
    ·right
     have hq':eqB (u.expr s.expr).2.1 ((u.expr s.expr).1.use s.place).2.1=false:=by simpa using hq
     have hq2:eqB ((u.expr s.expr).1.use s.place).2.1 (u.expr s.expr).2.1=false:=cE.2 fun e=>cE.1 hq' e.symm
     simp only[hq',ap,if_false]
     exact⟨by decide,by rw[jt b2.code,hq2];simp⟩
   ·right
    simp only[if_neg b1]
    exact⟨b1,(eP (by rw[b2];exact b1) _ _).trans b2⟩
  ·rw[if_neg a1]
   right
   refine⟨a1,?_⟩
   have h2:=(jO (by rw[a2];exact a1) s.place).trans a2
   exact(eP (by rw[h2];exact a1) _ _).trans h2
 ·rw[En.stmt_eq,Sc.stmt_eq]
  simp only[k,bp,if_true,if_false]
  exact Cb n (qh a).1 h hh
 ·rw[En.stmt_eq,Sc.stmt_eq]
  simp only[k,bp,if_true,if_false]
  rcases te x h with⟨a1,T1,a2⟩|⟨a1,a2⟩
  ·rw[if_pos a1]
   have se:=kl hu hh s.expr
   rw[<-eB]at se
   obtain rfl:=a2.nil se.held
   have hhi:=se.hi
   generalize(u.number s.expr).1=v at*
   generalize(e.expr s.expr).1.num (e.expr s.expr).2=w at*
   have hvp:∀f∈v.p,f.type.okB=true:=by rw[se.p];exact hp
   unfold En.fork Sc.ways nJ
   have hA:=ih s.thn t a2 se.good se.held hvp (by omega)
   have hpa:=kr s.thn v
   rcases hA with⟨b1,b2⟩|⟨b1,b2⟩
   ·rw[if_pos b1]
    have st:=hU d s.thn t v se.good se.held a2.lost0 hvp (by omega) b1
    obtain⟨g,hg⟩:=st.giv
    have gg:Sc.good {v with given:=(v.stmts s.thn).1.given}:=by
     rw[hg]
     exact⟨fun y hy=>by simp only[fy,se.good.ok y hy,dZ],se.good.nd,se.good.len,se.good.hl,se.good.hp,se.good.lp,se.good.ll,se.good.ty⟩
    have rB:Rel {w with names:=(w.body s.thn).names} {v with given:=(v.stmts s.thn).1.given} []:=⟨a2.vars,b2.names,a2.code,a2.p,a2.ok,a2.tmp,a2.lost,gg.ok⟩
    have hB:=ih s.els l rB gg se.held hvp (by show v.vars.length+_<=_;omega)
    have hpb:=kr s.els {v with given:=(v.stmts s.thn).1.given}
    rcases hB with⟨c1,c2⟩|⟨c1,c2⟩
    ·rw[if_pos c1]
     left
     have st2:=hU d s.els l {v with given:=(v.stmts s.thn).1.given} gg se.held a2.lost0 hvp (by show v.vars.length+_<=_;omega) c1
     refine⟨rfl,?_⟩
     have hmon:=Mon.stmts s.thn v
     have hva:w.vars=v.vars:=by rw[a2.vars,cX]
     have hmj:=yz (vs:=v.vars) b2.ok.nd c2.ok.nd st.pre st2.pre hmon
     have hav:(w.body s.thn).vars=(v.stmts s.thn).1.vars:=by rw[b2.vars,cX]
     have hbv:(({w with names:=(w.body s.thn).names}:En).body s.els).vars=(({v with given:=(v.stmts s.thn).1.given}:Sc).stmts s.els).1.vars:=by rw[c2.vars,cX]
     have hcore:(gC v.vars (v.vars.map (·.name)) [(v.stmts s.thn).1.vars,(({v with given:=(v.stmts s.thn).1.given}:Sc).stmts s.els).1.vars]).map Vr.core=v.vars.map Vr.core:=pR _ _ _
     refine⟨?_,c2.names,?_,a2.p,a2.ok.core hcore,?_,a2.lost,?_⟩
     ·simp only[En.join,En.fail0,cX]
      rw[hav,hbv,hva];exact hmj
     ·rw[oV a2.code (by rw[b2.code];simp) (by rw[c2.code];simp),b2.code,c2.code];rfl
     ·refine⟨a2.tmp.len,a2.tmp.tmp,fun q hq=>?_⟩
      have:v.held=[]:=se.held
      simp only[this]at hq
      simp at hq
     ·intro y hy
      obtain⟨x,hx,ex,-⟩:=lv hcore hy
      obtain⟨g',hg'⟩:=st2.giv
      have:=se.good.ok x hx
      rw[ex]at this
      show((({v with given:=(v.stmts s.thn).1.given}:Sc).stmts s.els).1.given.any fun m=>eqB m y.name)=true
      rw[hg']
      show(((v.stmts s.thn).1.given++g').any fun m=>eqB m y.name)=true
      rw[hg]
      simp only[fy,this,dZ]
    ·rw[if_neg c1]
     right
     refine⟨c1,?_⟩
     rw[oV a2.code (by rw[b2.code];simp) (by rw[c2];exact hpb),b2.code,if_pos rfl]
     exact c2
   ·rw[if_neg b1]
    right
    refine⟨b1,?_⟩
    simp only[En.join]
    have hc0:(w.body s.thn).code≠0:=by rw[b2];exact b1
    have h1:(({w with vars:=fS w.vars (w.body s.thn).vars (({w with names:=(w.body s.thn).names}:En).body s.els).vars,names:=(({w with names:=(w.body s.thn).names}:En).body s.els).names}:En).fail0 (w.body s.thn).code).code=(v.stmts s.thn).2:=by
     simp only[En.fail0,dx,a2.code,if_true]
     rw[if_pos (by rw[b2];omega)]
     exact b2
    rw[jC (by rw[h1];exact b1)]
    exact h1
  ·rw[if_neg a1]
   right
   refine⟨a1,?_⟩
   unfold En.fork
   generalize(e.expr s.expr).1.num (e.expr s.expr).2=w at*
   have hw:w.code≠0:=by rw[a2];exact a1
   simp only[En.join]
   have key:∀(x:En) (c d:Int),x.code≠0->((x.fail0 c).fail0 d).code=x.code:=fun x c d hx=>by
    rw[jC (by rw[jC hx];exact hx),jC hx]
   exact(key _ _ _ hw).trans a2
 ·rw[En.stmt_eq,Sc.stmt_eq]
  simp only[k,bp,if_true,if_false]
  exact B7 n p o x h hh
theorem uu:∀d,xQ d:=by
 intro d
 induction d with
 |zero=>intro l h;simp[cb]at h
 |succ d ih=>
  have many:∀l:List St,(∀s∈l,de (cb d) s=true)->∀{e:En} {u:Sc},Rel e u []->u.good->u.held=[]->(∀f∈u.p,f.type.okB=true)->u.vars.length+l.length+200*d+150<=2^30->
   ((u.stmts l).2=0/\Rel (e.body l) (u.stmts l).1 [])\/((u.stmts l).2≠0/\(e.body l).code=(u.stmts l).2):=by
   intro l
   induction l with
   |nil=>intro _ e u h _ _ _ _;rw[eA,iu];exact .inl ⟨rfl,h⟩
   |cons s l ihl=>
    intro hs e u h hu hh hp hn
    simp only[aV]at hn
    rw[dG,iz,if_pos h.code]
    rcases Bp ih (hs s fI) h hu hh hp (by omega)with⟨a1,a2⟩|⟨a1,a2⟩
    ·rw[if_pos a1]
     have s1:=hU (d+1) [s] (by simp[cb,hs s fI]) u hu hh h.lost0 hp (by omega) (by rw[dG,if_pos a1,eA])
     rw[dG,if_pos a1,eA]at s1
     have hhi:=s1.hi
     simp only[aV,bP]at hhi
     exact ihl (fun x hx=>hs x (dt _ hx)) a2 s1.good s1.held (by rw[s1.p];exact hp) (by omega)
    ·rw[if_neg a1,uR (by rw[a2];exact a1)]
     exact .inr ⟨a1,a2⟩
  intro l hl e u h hu hh hp hn
  simp only[cb,aw,decide_eq_true_eq,aW]at hl
  exact many l hl.2 h hu hh hp (by omega)
theorem fK(H H':aj):H.swap H H'=H':=by
 ext b:1
 rw[bG]
 cases h':H'.get b with
 |some o=>rfl
 |none=>cases h:H.get b<;>simp
def tX(F:bS)(m2 b:Nat):Prop:=b=m2\/∃c,(c=2\/c=3\/c=4\/c=5)/\b=F.err c
section
variable {P:Program}{F:bS}{er:bW}
theorem cy.sub{H H':aj}{s:Nat}{v:Sc}{ORD HELD:AC}{m1 m2:Nat}(h:cy F er H s v ORD HELD m1 m2)(hs:∀c o,H.get c=some o->H'.get c=some o):cy F er H' s v ORD HELD m1 m2:=h.mono fun b hb=>by
 obtain⟨o,ho⟩:=aJ.1 (h.mem hb)
 rw[ho,hs _ _ ho]
theorem cy.own{H:aj}{s:Nat}{v:Sc}{ORD HELD:AC}{m1 m2:Nat}(h:cy F er H s v ORD HELD m1 m2):¬tX F m2 s/\¬tX F m2 m1/\(∀b,cG ORD b->¬tX F m2 b)/\∀b,cG HELD b->¬tX F m2 b:=by
 refine⟨?_,?_,fun b hb=>?_,fun b hb=>?_⟩
 ·rintro(e|⟨c,hc,e⟩)
  ·exact h.blk_s.1.2 e
  ·exact h.far c hc e
 ·rintro(e|⟨c,hc,e⟩)
  ·exact h.ne e
  ·exact yE h.errs (by rw[h.names];simp) c hc e
 ·obtain⟨n,m,e⟩:=h.ord.tok hb
  rintro(rfl|⟨c,hc,rfl⟩)
  ·rw[h.given]at e;simp at e
  ·rw[h.errs c hc]at e;simp at e
 ·obtain⟨n,m,e⟩:=h.held.tok hb
  rintro(rfl|⟨c,hc,rfl⟩)
  ·rw[h.given]at e;simp at e
  ·rw[h.errs c hc]at e;simp at e
theorem qM{H:aj}{s1 m1 m2:Nat}{ORD:AC}(h1:H.get s1=none)(h2:H.get m1=none)(h3:∀b,cG ORD b->H.get b=none){b:Nat}(hb:H.get b≠none)(hs:¬tX F m2 b):¬df F s1 ORD NIL m1 m2 b:=by
 rintro(rfl|rfl|rfl|h|h|h)
 ·exact hb h1
 ·exact hb h2
 ·exact hs (.inl rfl)
 ·exact hb (h3 b h)
 ·obtain⟨_,_,_,_,e⟩:=h;simp at e
 ·exact hs (.inr h)
theorem cy.share{H H3:aj}{s s1:Nat}{v w:Sc}{ORD HELD ORD1 HELD1:AC}{m1 m2 m1':Nat}(h:cy F er H s v ORD HELD m1 m2)(h1:cy F er H3 s1 w ORD1 HELD1 m1' m2)
(hk:∀b,(b=s\/b=m1\/cG ORD b\/cG HELD b)->H3.get b=H.get b):cy F er H3 s {v with given:=w.given} ORD HELD m1 m2 where
 obj:=(hk s (.inl rfl)).trans h.obj
 names:=(hk m1 (.inr (.inl rfl))).trans h.names
 given:=h1.given
 ord:=h.ord.mono fun b hb=>hk b (.inr (.inr (.inl hb)))
 held:=h.held.mono fun b hb=>hk b (.inr (.inr (.inr hb)))
 apart:=h.apart
 ne:=h.ne
 errs:=h1.errs
 far:=h.far
 hnil:=h.hnil
 onil:=h.onil
theorem c_kways(L:eC P F)(s:Nat)(e:Ex)(t l:List St)(v:Sc)(hv:v.good)(hh:v.held=[])(ht:∀s',ScC P F er F.k_stmts [.ptr s' 0,.sl 15 none (St.encs t)] s' v fun q v'=>q=er.ac (v.stmts t).2/\v'=(v.stmts t).1)
(hl:(v.stmts t).2=0->∀s',ScC P F er F.k_stmts [.ptr s' 0,.sl 15 none (St.encs l)] s' {v with given:=(v.stmts t).1.given} fun q v'=>q=er.ac (({v with given:=(v.stmts t).1.given}:Sc).stmts l).2/\v'=(({v with given:=(v.stmts t).1.given}:Sc).stmts l).1):
 ScC P F er F.k_ways [.ptr s 0,.agg (e.enc++[.sl 15 none (St.encs t),.sl 15 none (St.encs l)])] s v fun q v'=>q=er.ac (v.ways t l).2/\v'=(v.ways t l).1:=by
 intro H ORD HELD m1 m2 hE
 have hH:=hE.hnil hh
 subst hH
 refine L.k_ways (by simp[sv]) ?_
 rw[Ex.enc_eq]
 simp only[sv,go_sem,rE,rA,rL,cB,dm]
 intro b3 hb3
 have hS0:=hE.new hb3 (.cells [I e.kind,I e.num,S e.place.name,au e.place.path,.sl 5 none (Ex.encs e.kids),.sl 15 none (St.encs t),.sl 15 none (St.encs l)])
 have n3:=hE.notin hb3
 have g3:(H.set b3 (.cells [I e.kind,I e.num,S e.place.name,au e.place.path,.sl 5 none (Ex.encs e.kids),.sl 15 none (St.encs t),.sl 15 none (St.encs l)])).get b3=some (.cells [I e.kind,I e.num,S e.place.name,au e.place.path,.sl 5 none (Ex.encs e.kids),.sl 15 none (St.encs t),.sl 15 none (St.encs l)]):=ai _ _ _
 clear hb3 hE
 generalize H.set b3 _=H0 at*
 refine dR (uQ L s v ORD NIL m1 m2 _ hS0 hh hv.len) rfl (aj.sub_refl _) (fun h=>by simp at h) trivial ?_
 rintro q H1 ⟨s1,ORD1,m1a,rfl,hB1,up1,f1,f2,f3⟩ -
 rw[fK]
 have hS1:=hS0.sub up1
 have g31:=up1 _ _ g3
 simp only[go_sem,rE,rA,rL]
 refine dR (uQ L s v ORD NIL m1 m2 _ hS1 hh hv.len) rfl (aj.sub_refl _) (fun h=>by simp at h) trivial ?_
 rintro q H2 ⟨s2,ORD2,m1b,rfl,hB2,up2,k1,k2,k3⟩ -
 rw[fK]
 have hS2:=hS1.sub up2
 have hB1':=hB1.sub up2
 have g32:=up2 _ _ g31
 simp only[go_sem,rE,rA,rL,g32]
 have own0:=hS0.own
 have nsh3:¬tX F m2 b3:=by
  rintro(h|h)
  ·exact n3 (.inr (.inr (.inl h)))
  ·exact n3 (.inr (.inr (.inr (.inr (.inr h)))))
 have prv:∀b,(b=s\/b=m1\/cG ORD b\/cG NIL b)->H0.get b≠none/\¬tX F m2 b:=by
  rintro b (rfl|rfl|h|h)
  ·exact⟨hS0.mem (.inl rfl),own0.1⟩
  ·exact⟨hS0.mem (.inr (.inl rfl)),own0.2.1⟩
  ·exact⟨hS0.mem (.inr (.inr (.inr (.inl h)))),own0.2.2.1 b h⟩
  ·obtain⟨_,_,_,_,e⟩:=h;simp at e
 have up02:∀b,H0.get b≠none->H2.get b=H0.get b:=fun b hb=>by
  obtain⟨o,ho⟩:=aJ.1 hb
  rw[ho,up2 _ _ (up1 _ _ ho)]
 have prv2:∀b,(b=s2\/b=m1b\/cG ORD2 b\/cG NIL b)->H1.get b=none/\H2.get b≠none:=by
  rintro b (rfl|rfl|h|h)
  ·exact⟨k1,hB2.mem (.inl rfl)⟩
  ·exact⟨k2,hB2.mem (.inr (.inl rfl))⟩
  ·exact⟨k3 b h,hB2.mem (.inr (.inr (.inr (.inl h))))⟩
  ·obtain⟨_,_,_,_,e⟩:=h;simp at e
 have not1:∀b,H0.get b≠none->¬tX F m2 b->¬df F s1 ORD1 NIL m1a m2 b:=fun b hb hs=>qM f1 f2 f3 hb hs
 have not12:∀b,H1.get b=none->¬df F s1 ORD1 NIL m1a m2 b:=fun b hb h=>hB1.mem h hb
 refine cR (ht s1) hB1' (by simp only[go_sem,rE,aS,bv]) (.refl _) (fun h=>by simp at h) trivial ?_
 rintro q v1 ORDa HELDa H3 fp ⟨rfl,rfl⟩ hA hfr -
 have keepS:∀b,H0.get b≠none->¬tX F m2 b->H3.get b=H0.get b:=fun b hb hs=>by
  obtain⟨o,ho⟩:=aJ.1 hb
  rw[ho,(hfr b o (by rw[up02 b hb,ho]) (not1 b hb hs)).1]
 have hSa:=hS0.share hA fun b hb=>keepS b (prv b hb).1 (prv b hb).2
 have keep2:∀b,H1.get b=none->H2.get b≠none->H3.get b=H2.get b:=fun b hb hb2=>by
  obtain⟨o,ho⟩:=aJ.1 hb2
  rw[ho,(hfr b o ho (not12 b hb)).1]
 have hB2a:=hB2.share hA fun b hb=>keep2 b (prv2 b hb).1 (prv2 b hb).2
 have g33:H3.get b3=_:=(keepS b3 (by rw[g3];simp) nsh3).trans g3
 by_cases hz:(v.stmts t).2=0
 ·rw[hz,dh]
  simp only[go_sem,rE,rA,rL,g33]
  refine cR (hl hz s2) hB2a (by simp only[go_sem,rE,aS,bv]) (.refl _) (fun h=>by simp at h) trivial ?_
  rintro q v2 ORDb HELDb H4 fp2 ⟨rfl,rfl⟩ hB hfr2 -
  have h01:∀b,H0.get b≠none->H1.get b≠none:=fun b hb=>by
   obtain⟨o,ho⟩:=aJ.1 hb
   rw[up1 _ _ ho];simp
  have keepT:∀b,H1.get b≠none->H3.get b≠none->¬tX F m2 b->H4.get b=H3.get b:=fun b hb hb3 hs=>by
   obtain⟨o,ho⟩:=aJ.1 hb3
   rw[ho,(hfr2 b o ho (qM k1 k2 k3 hb hs)).1]
  have hSb:=hSa.share hB fun b hb=>keepT b (h01 b (prv b hb).1) (by rw[keepS b (prv b hb).1 (prv b hb).2];exact(prv b hb).1) (prv b hb).2
  have o1:H4.get s1=some (ScO (v.stmts t).1.p ORDa HELDa m1a m2 (v.stmts t).1.lost):=(keepT s1 (hB1.mem (.inl rfl)) (by rw[hA.obj];simp[ScO]) hA.own.1).trans hA.obj
  have o2:H4.get m1a=some (.map (cU (v.stmts t).1.vars)):=(keepT m1a (hB1.mem (.inr (.inl rfl))) (by rw[hA.names];simp) hA.own.2.1).trans hA.names
  by_cases hz2:(({v with given:=(v.stmts t).1.given}:Sc).stmts l).2=0
  ·have hx:v.ways t l=({v with vars:=gC v.vars (v.vars.map (·.name)) [(v.stmts t).1.vars,(({v with given:=(v.stmts t).1.given}:Sc).stmts l).1.vars],given:=(({v with given:=(v.stmts t).1.given}:Sc).stmts l).1.given},0):=by
    unfold Sc.ways nJ;rw[if_pos hz,if_pos hz2]
   rw[hx,hz2,dh]
   generalize hb2:(({v with given:=(v.stmts t).1.given}:Sc).stmts l)=B2 at*
   generalize ha2:v.stmts t=A2 at*
   simp only[go_sem,rE,rA,rL,ax,aq,az,cX,aV,bP,gE,ip,aC,if_true,cB,dm,bq]
   intro bt hbt
   have kt:∀c o,H4.get c=some o->(H4.set bt (.tail (2*1) (2*1))).get c=some o:=fun c o hc=>by rw[ae _ _ (al hc hbt)];exact hc
   have hch:bh 1 2 [AC.ptr s1 0,AC.ptr s2 0]=[[.ptr s1 0],[.ptr s2 0]]:=by simp[bh]
   rw[hch]
   have n1:¬df F s ORD NIL m1 m2 s1:=fun h=>hS0.mem h f1
   have n2:¬df F s ORD NIL m1 m2 m1a:=fun h=>hS0.mem h f2
   have n3':¬df F s ORD NIL m1 m2 s2:=fun h=>hS1.mem h k1
   have n4:¬df F s ORD NIL m1 m2 m1b:=fun h=>hS1.mem h k2
   have hj:=c_kjoin (er:=er) L s {v with given:=B2.1.given} hv.len [(s1,m1a,A2.1.vars),(s2,m1b,B2.1.vars)] (by simp) (H4.set bt (.tail (2*1) (2*1))) ORD NIL m1 m2 (hSb.sub kt) (by
    intro w hw
    rcases bf.1 hw with rfl|hw
    ·exact⟨⟨_,kt _ _ o1,rfl⟩,kt _ _ o2,n1,n2⟩
    ·rw[cn.1 hw]
     exact⟨⟨_,kt _ _ hB.obj,rfl⟩,kt _ _ hB.names,n3',n4⟩)
   refine dR (hj.args (xs':=[.ptr s 0,.sl 1 (some (bt,2*1,2*1)) [[.ptr s1 0],[.ptr s2 0]]]) ⟨.refl _,.tok _ _ _,trivial⟩) rfl (aj.sub_refl _) (fun h=>by simp at h) trivial ?_
   rintro q H5 ⟨rfl,ORD5,HELD5,hS5,-⟩ -
   rw[fK]
   simp only[go_sem,rE,rA,rL]
   exact ak (.refl _) (aj.sub_refl _) ⟨_,ORD5,HELD5,⟨rfl,rfl⟩,hS5⟩
  ·have hx:v.ways t l=({v with given:=(({v with given:=(v.stmts t).1.given}:Sc).stmts l).1.given},(({v with given:=(v.stmts t).1.given}:Sc).stmts l).2):=by
    unfold Sc.ways nJ;rw[if_pos hz,if_neg hz2]
   rw[hx,bV er hz2]
   simp only[go_sem,rE,rA,rL]
   exact ak (.refl _) (aj.sub_refl _) ⟨_,ORD,NIL,⟨rfl,rfl⟩,hSb⟩
 ·have hx:v.ways t l=({v with given:=(v.stmts t).1.given},(v.stmts t).2):=by
   unfold Sc.ways nJ;rw[if_neg hz]
  rw[hx,bV er hz]
  simp only[go_sem,rE,rA,rL]
  exact ak (.refl _) (aj.sub_refl _) ⟨_,ORD,NIL,⟨rfl,rfl⟩,hSa⟩
end
section
variable {P:Program}{F:bS}{er:bW}
noncomputable def Sc.choice(v:Sc)(e:Ex)(t l:List St):Sc×Int:=if(v.number e).2=0 then(v.number e).1.ways t l else v.number e
theorem AN(L:eC P F)(T:Tys F.toIds)(hC:eD P F er)(s:Nat)(e:Ex)(t l:List St)(he:e.okD 4=true)(v:Sc)(hv:v.good)
(hw:(v.number e).2=0->ScC P F er F.k_ways [.ptr s 0,.agg (e.enc++[.sl 15 none (St.encs t),.sl 15 none (St.encs l)])] s (v.number e).1 fun q v'=>q=er.ac ((v.number e).1.ways t l).2/\v'=((v.number e).1.ways t l).1):
 ScC P F er F.k_choice [.ptr s 0,.agg (e.enc++[.sl 15 none (St.encs t),.sl 15 none (St.encs l)])] s v fun q v'=>q=er.ac (v.choice e t l).2/\v'=(v.choice e t l).1:=by
 intro H ORD HELD m1 m2 hE
 refine L.k_choice (by simp[pz]) ?_
 have hn:=uO (er:=er) L T hC s 4 (by omega) e he v hv
 rw[Ex.enc_eq]at hn hw⊢
 simp only[cB,dm]at hw
 simp only[pz,go_sem,rE,rA,rL,cB,dm]
 intro b3 hb3
 have hS3:=hE.new hb3 (.cells [I e.kind,I e.num,S e.place.name,au e.place.path,.sl 5 none (Ex.encs e.kids),.sl 15 none (St.encs t),.sl 15 none (St.encs l)])
 have n3:=hE.notin hb3
 have g3:(H.set b3 (.cells [I e.kind,I e.num,S e.place.name,au e.place.path,.sl 5 none (Ex.encs e.kids),.sl 15 none (St.encs t),.sl 15 none (St.encs l)])).get b3=some (.cells [I e.kind,I e.num,S e.place.name,au e.place.path,.sl 5 none (Ex.encs e.kids),.sl 15 none (St.encs t),.sl 15 none (St.encs l)]):=ai _ _ _
 clear hE hb3
 generalize H.set b3 _=H1 at*
 refine cR hn hS3 rfl (.refl _) (fun h=>by simp at h) trivial ?_
 rintro q v1 ORD1 HELD1 H2 fp ⟨rfl,rfl⟩ hS2 hfr -
 have k3:=hfr b3 _ g3 n3
 by_cases hz:(v.number e).2=0
 ·have hx:v.choice e t l=(v.number e).1.ways t l:=by unfold Sc.choice;rw[if_pos hz]
  rw[hx,hz,dh]
  simp only[go_sem,rE,rA,rL,k3.1]
  refine cR (hw hz) hS2 (by simp only[go_sem,rE,aS,bv]) (.refl _) (fun h=>by simp at h) trivial ?_
  rintro q v2 ORD2 HELD2 H4 fp2 ⟨rfl,rfl⟩ hS4 - -
  simp only[go_sem,rE,rA,rL]
  exact ak (.refl _) (aj.sub_refl _) ⟨_,ORD2,HELD2,⟨rfl,rfl⟩,hS4⟩
 ·have hx:v.choice e t l=v.number e:=by unfold Sc.choice;rw[if_neg hz]
  rw[hx,bV er hz]
  simp only[go_sem,rE,rA,rL,k3.1]
  exact ak (.refl _) (aj.sub_refl _) ⟨_,ORD1,HELD1,⟨rfl,rfl⟩,hS2⟩
theorem c_kstmt(L:eC P F)(T:Tys F.toIds)(hC:eD P F er)(s:Nat)(x:St)(Bd:List St->Bool)(hx:StW Bd x)(v:Sc)(hv:v.good)(hh:v.held=[])(hp:v.p.length<=2^30)
(hc:x.kind=5->ScC P F er F.k_choice [.ptr s 0,.agg (x.expr.enc++[.sl 15 none (St.encs x.thn),.sl 15 none (St.encs x.els)])] s v fun q v'=>q=er.ac (v.choice x.expr x.thn x.els).2/\v'=(v.choice x.expr x.thn x.els).1):
 ScC P F er F.k_stmt [.ptr s 0,.agg x.enc] s v fun q v'=>q=er.ac (v.stmt x).2/\v'=(v.stmt x).1:=by
 intro H ORD HELD m1 m2 hE
 refine L.k_stmt (by simp[sy]) ?_
 have hso:=xw L.toLib x
 rw[Sc.stmt_eq]
 rw[St.enc_eq]at hso⊢
 simp only[sy,go_sem,rE,rA,rL]
 intro b3 hb3
 have hS3:=hE.new hb3 (.cells x.enc)
 rw[St.enc_eq]at hS3
 refine ao hso rfl ?_
 clear hso hE hb3
 generalize H.set b3 _=H1 at*
 rcases hx with⟨k,r,n,e⟩|⟨k,r,n,p⟩|⟨k,r,p,e⟩|⟨k,r,n,f,a⟩|⟨k,r,e,t,l⟩|⟨k,r,n,p,o,e⟩
 ·rw[zw k,r]
  have he:=qK (er:=er) L T hC s 4 (by omega) x.expr e v hv
  have hty:=iV x.expr hv
  have hg:=Sc.expr_good hv x.expr
  rw[Ex.enc_eq]at he
  simp only[k,bp,if_true,if_false]
  simp only[go_sem,rE,rA,rL,if_true,a7,aB]
  intro b5 hb5
  have hS5:=hS3.new hb5 (.cells [S x.name,I x.expr.kind,I x.expr.num,S x.expr.place.name,au x.expr.place.path,.sl 5 none (Ex.encs x.expr.kids)])
  have n5:=hS3.notin hb5
  refine cR he hS5 rfl (.refl _) (fun h=>by simp at h) trivial ?_
  rintro q v1 ORD1 HELD1 H2 fp ⟨rfl,rfl⟩ hS2 hfr -
  have k5:=hfr b5 _ (ai _ _ _) n5
  simp only[hG,Ty.enc_eq]
  generalize v.expr x.expr=w at*
  simp only[go_sem,rE,rA,rL,a7,aB]
  intro b6 hb6
  have d56:=al k5.1 hb6
  have hS6:=hS2.new hb6 (.cells [.sl 1 none (Ty.encs w.2.1.kids)])
  by_cases hz:w.2.2=0
  ·rw[if_pos hz,hz,dh]
   simp only[go_sem,rE,rA,rL,k5.1,d56]
   refine cR (oH L s w.1 hg.ok ⟨x.name,false,false,w.2.1,[],false⟩ rfl (by simp) hg.len) hS6 rfl ?_ (fun h=>by simp at h) trivial ?_
   ·exact⟨.refl _,.refl _,.agg ⟨⟨.refl _,rfl⟩,⟨.refl _,rfl⟩,⟨.refl _,rfl⟩,⟨.refl _,rfl⟩,⟨.refl _,rfl⟩,⟨.nil 2,rfl⟩,trivial⟩,trivial⟩
   rintro q v2 ORD2 HELD2 H4 fp2 ⟨rfl,rfl⟩ hS4 - -
   simp only[go_sem,rE,rA,rL]
   exact ak (.refl _) (aj.sub_refl _) ⟨_,ORD2,HELD2,⟨rfl,rfl⟩,hS4⟩
  ·rw[if_neg hz,bV er hz]
   simp only[go_sem,rE,rA,rL,k5.1,d56]
   exact ak (.refl _) (aj.sub_refl _) ⟨_,ORD1,HELD1,⟨rfl,rfl⟩,hS6⟩
 ·rw[zu k,r]
  have hu:=qg L hC s v x.place hv (jG p)
  have hty:=ja hv x.place
  have hg:=lK hv x.place
  rw[Pl.enc]at hu
  simp only[k,bp,if_true,if_false]
  simp only[go_sem,rE,rA,rL,if_true,a7,aB,T.s12]
  intro b8 hb8
  have hS8:=hS3.new hb8 (.cells [S x.name,S x.place.name,au x.place.path])
  have n8:=hS3.notin hb8
  refine cR hu hS8 rfl (.refl _) (fun h=>by simp at h) trivial ?_
  rintro q v1 ORD1 HELD1 H2 fp ⟨rfl,rfl⟩ hS2 hfr -
  have k8:=hfr b8 _ (ai _ _ _) n8
  simp only[hG,Ty.enc_eq]
  generalize v.use x.place=w at*
  simp only[go_sem,rE,rA,rL,a7,aB]
  intro b9 hb9
  have d89:=al k8.1 hb9
  have hS9:=hS2.new hb9 (.cells [.sl 1 none (Ty.encs w.2.1.kids)])
  by_cases hz:w.2.2=0
  ·rw[if_pos hz,hz,dh]
   simp only[go_sem,rE,rA,rL,k8.1,d89,ax,aq,az,cX,aV,bP,gE,ip,aC,if_true,cB,dm,bq]
   intro bt hbt
   have hch:bh 2 1 [S x.place.name,au x.place.path]=[x.place.enc]:=by simp[bh,Pl.enc]
   rw[hch]
   refine cR (oH L s w.1 hg.ok ⟨x.name,true,false,w.2.1,[x.place],false⟩ rfl (by simp) hg.len) (hS9.new hbt _) rfl ?_ (fun h=>by simp at h) trivial ?_
   ·exact⟨.refl _,.refl _,.agg ⟨⟨.refl _,rfl⟩,⟨.refl _,rfl⟩,⟨.refl _,rfl⟩,⟨.refl _,rfl⟩,⟨.refl _,rfl⟩,⟨.tok _ _ _,rfl⟩,trivial⟩,trivial⟩
   rintro q v2 ORD2 HELD2 H4 fp2 ⟨rfl,rfl⟩ hS4 - -
   simp only[go_sem,rE,rA,rL]
   exact ak (.refl _) (aj.sub_refl _) ⟨_,ORD2,HELD2,⟨rfl,rfl⟩,hS4⟩
  ·rw[if_neg hz,bV er hz]
   simp only[go_sem,rE,rA,rL,k8.1,d89]
   exact ak (.refl _) (aj.sub_refl _) ⟨_,ORD1,HELD1,⟨rfl,rfl⟩,hS9⟩
 ·rw[zt k,r]
  have he:=qK (er:=er) L T hC s 4 (by omega) x.expr e v hv
  have hty:=iV x.expr hv
  have hg:=Sc.expr_good hv x.expr
  have hu:=qg L hC s (v.expr x.expr).1 x.place hg (jG p)
  rw[Ex.enc_eq]at he
  rw[Pl.enc]at hu
  simp only[k,bp,if_true,if_false]
  simp only[go_sem,rE,rA,rL,if_true,a7,aB,T.s13,T.s23]
  intro b11 hb11
  have hS11:=hS3.new hb11 (.cells [S x.place.name,au x.place.path,I x.expr.kind,I x.expr.num,S x.expr.place.name,au x.expr.place.path,.sl 5 none (Ex.encs x.expr.kids)])
  have n11:=hS3.notin hb11
  refine cR he hS11 rfl (.refl _) (fun h=>by simp at h) trivial ?_
  rintro q v1 ORD1 HELD1 H2 fp ⟨rfl,rfl⟩ hS2 hfr -
  have k11:=hfr b11 _ (ai _ _ _) n11
  simp only[hG,Ty.enc_eq]
  generalize v.expr x.expr=w at*
  simp only[go_sem,rE,rA,rL,a7,aB]
  intro b12 hb12
  have d1112:=al k11.1 hb12
  have hS12:=hS2.new hb12 (.cells [.sl 1 none (Ty.encs w.2.1.kids)])
  have n12:=hS2.notin hb12
  by_cases hz:w.2.2=0
  ·rw[if_pos hz,hz,dh]
   simp only[go_sem,rE,rA,rL,k11.1,d1112]
   refine cR hu hS12 rfl (.refl _) (fun h=>by simp at h) trivial ?_
   rintro q v2 ORD2 HELD2 H4 fp2 ⟨rfl,rfl⟩ hS4 hfr2 -
   have k12:=hfr2 b12 _ (ai _ _ _) n12
   have hsm:=mR L 4 w.2.1 (w.1.use x.place).2.1 hty
   rw[Ty.enc_eq,Ty.enc_eq]at hsm
   simp only[hG,Ty.enc_eq]
   generalize w.1.use x.place=u at*
   simp only[go_sem,rE,rA,rL,a7,aB]
   intro b14 hb14
   have d1214:=al k12.1 hb14
   have hS14:=hS4.new hb14 (.cells [.sl 1 none (Ty.encs u.2.1.kids)])
   by_cases hz2:u.2.2=0
   ·rw[if_pos hz2,hz2,dh]
    simp only[go_sem,rE,rA,rL,k12.1,d1214]
    refine ao hsm rfl ?_
    cases hq:eqB w.2.1 u.2.1
    ·simp only[go_sem,rE,rA,rL,hS4.e3,al hS4.e3 hb14,ap,if_false]
     exact ak (.refl _) (aj.sub_refl _) ⟨_,ORD2,HELD2,⟨by rw[bV er (by decide)];rfl,rfl⟩,hS14⟩
    ·simp only[go_sem,rE,rA,rL,if_true]
     exact ak (.refl _) (aj.sub_refl _) ⟨_,ORD2,HELD2,⟨rfl,rfl⟩,hS14⟩
   ·rw[if_neg hz2,bV er hz2]
    simp only[go_sem,rE,rA,rL,k12.1,d1214]
    exact ak (.refl _) (aj.sub_refl _) ⟨_,ORD2,HELD2,⟨rfl,rfl⟩,hS14⟩
  ·rw[if_neg hz,bV er hz]
   simp only[go_sem,rE,rA,rL,k11.1,d1112]
   exact ak (.refl _) (aj.sub_refl _) ⟨_,ORD1,HELD1,⟨rfl,rfl⟩,hS12⟩
 ·rw[zr k,r]
  obtain⟨a1,a2⟩:=qh a
  have hk:=c_kcall (er:=er) L T hC s x.name x.fn x.args a1 v hv (by rw[hh];simp;omega) hp (by omega)
  simp only[k,bp,if_true,if_false]
  simp only[go_sem,rE,rA,rL,if_true,a7,aB,T.s14,T.s24,T.s34]
  intro b15 hb15
  refine cR hk (hS3.new hb15 _) rfl (.refl _) (fun h=>by simp at h) trivial ?_
  rintro q v2 ORD2 HELD2 H4 fp2 ⟨rfl,rfl⟩ hS4 - -
  simp only[go_sem,rE,rA,rL]
  exact ak (.refl _) (aj.sub_refl _) ⟨_,ORD2,HELD2,⟨rfl,rfl⟩,hS4⟩
 ·rw[zq k,r]
  have hk:=hc k
  rw[Ex.enc_eq]at hk
  simp only[cB,dm]at hk
  simp only[k,bp,if_true,if_false]
  rw[show(if(v.number x.expr).2=0 then(v.number x.expr).1.ways x.thn x.els else v.number x.expr)=v.choice x.expr x.thn x.els from rfl]
  simp only[go_sem,rE,rA,rL,if_true,a7,aB,T.s15,T.s25,T.s35,T.s45]
  intro b16 hb16
  refine cR hk (hS3.new hb16 _) rfl (.refl _) (fun h=>by simp at h) trivial ?_
  rintro q v2 ORD2 HELD2 H4 fp2 ⟨rfl,rfl⟩ hS4 - -
  simp only[go_sem,rE,rA,rL]
  exact ak (.refl _) (aj.sub_refl _) ⟨_,ORD2,HELD2,⟨rfl,rfl⟩,hS4⟩
 ·rw[zp k,r]
  have hk:=c_kpick (er:=er) L T hC s x.name x.place x.other x.expr (jG p) (jG o) 4 (by omega) e v hv
  rw[Ex.enc_eq]at hk
  simp only[Pl.enc,cB,dm]at hk
  simp only[k,bp,if_true,if_false]
  simp only[go_sem,rE,rA,rL,if_true,a7,aB,T.s16,T.s26,T.s36,T.s46,T.s56]
  intro b17 hb17
  refine cR hk (hS3.new hb17 _) rfl (.refl _) (fun h=>by simp at h) trivial ?_
  rintro q v2 ORD2 HELD2 H4 fp2 ⟨rfl,rfl⟩ hS4 - -
  simp only[go_sem,rE,rA,rL]
  exact ak (.refl _) (aj.sub_refl _) ⟨_,ORD2,HELD2,⟨rfl,rfl⟩,hS4⟩
end
section
variable {P:Program}{F:bS}{er:bW}
theorem zV{d:Nat}{s:St}(hs:de (cb d) s=true){v:Sc}(hv:v.good)(hh:v.held=[])(hl:v.lost=false)(hp:∀f∈v.p,f.type.okB=true)(hn:v.vars.length+100*(d+1)<=2^30)(hz:(v.stmt s).2=0):v.step (v.stmt s).1 1:=by
 have:=hU (d+1) [s] (by simp[cb,hs]) v hv hh hl hp hn (by rw[dG,if_pos hz,eA])
 rw[dG,if_pos hz,eA]at this
 exact this
theorem x8(L:eC P F)(T:Tys F.toIds)(hC:eD P F er):∀(d:Nat) (l:List St),cb d l=true->∀v:Sc,v.good->v.held=[]->v.lost=false->(∀f∈v.p,f.type.okB=true)->v.p.length<=2^30->v.vars.length+200*d<=2^30->∀s:Nat,
 ScC P F er F.k_stmts [.ptr s 0,.sl 15 none (St.encs l)] s v fun q v'=>q=er.ac (v.stmts l).2/\v'=(v.stmts l).1:=by
 intro d
 induction d with
 |zero=>intro l h;simp[cb]at h
 |succ d ih=>
  intro l hl v hv hh hlo hp hpl hn s H ORD HELD m1 m2 hE
  simp only[cb,aw,decide_eq_true_eq,aW]at hl
  obtain⟨hl40,hls⟩:=hl
  refine L.k_stmts (by simp[qY]) ?_
  simp only[qY,go_sem,rE,rA,rL,St.encs_map,am]
  refine aT l.length (fun k E' H'=>E' 0=.ptr s 0/\E' 8=.sl 15 none (l.map St.enc)/\E' 9=I l.length/\E' 10=I k/\
   ∃w ORD' HELD',cy F er H' s w ORD' HELD' m1 m2/\v.stmts l=w.stmts (l.drop k)/\v.step w k)
   ⟨rfl,by simp only[go_sem,rE,St.encs_map],by simp only[go_sem,rE,St.encs_map,am],rfl,v,ORD,HELD,hE,rfl,.refl hv hh⟩ ?_
  rintro k E' H' hk ⟨q0,q8,q9,q10,w,ORD',HELD',hS,hgv,hst⟩
  simp only[go_sem,rE,rA,rL,q9,q10]
  refine aG (fun hlt=>?_) (fun hge=>?_)
  ·have hk1:k<l.length:=by omega
   have w1:=aL (n:=(k:Int)+1) (by omega) (by omega)
   have hga:(l.map St.enc)[k]?=some l[k].enc:=by simp[hk1]
   have hgo:=hst.hi
   have hsk:=hls l[k] (ay hk1)
   have hwp:∀f∈w.p,f.type.okB=true:=by rw[hst.p];exact hp
   rw[bU hk1,dG]at hgv
   have hks:=c_kstmt (er:=er) L T hC s l[k] (cb d) (stW hsk) w hst.good hst.held (by rw[hst.p];exact hpl) (fun k5=>by
    rcases stW hsk with⟨k',-⟩|⟨k',-⟩|⟨k',-⟩|⟨k',-⟩|⟨-,r,e,t,l'⟩|⟨k',-⟩
    ·rw[k5]at k';simp at k'
    ·rw[k5]at k';simp at k'
    ·rw[k5]at k';simp at k'
    ·rw[k5]at k';simp at k'
    ·refine AN L T hC s l[k].expr l[k].thn l[k].els e w hst.good fun hz=>?_
     have se:=kl hst.good hst.held l[k].expr
     rw[<-eB]at se
     have hhi:=se.hi
     have hnp:∀f∈(w.number l[k].expr).1.p,f.type.okB=true:=by rw[se.p];exact hwp
     have hnl:(w.number l[k].expr).1.p.length<=2^30:=by rw[se.p,hst.p];exact hpl
     have hlw:(w.number l[k].expr).1.lost=false:=by rw[se.lost,hst.lost];exact hlo
     refine c_kways L s l[k].expr l[k].thn l[k].els _ se.good se.held (fun s'=>ih l[k].thn t _ se.good se.held hlw hnp hnl (by omega) s') (fun hz1 s'=>?_)
     have s1:=hU d l[k].thn t _ se.good se.held hlw hnp (by omega) hz1
     obtain⟨g,hg⟩:=s1.giv
     refine ih l[k].els l' {(w.number l[k].expr).1 with given:=((w.number l[k].expr).1.stmts l[k].thn).1.given} ?_ se.held hlw hnp hnl (by show(w.number l[k].expr).1.vars.length+_<=_;omega) s'
     rw[hg]
     exact⟨fun y hy=>by simp only[fy,se.good.ok y hy,dZ],se.good.nd,se.good.len,se.good.hl,se.good.hp,se.good.lp,se.good.ll,se.good.ty⟩
    ·rw[k5]at k';simp at k')
   rw[St.enc_eq]at hga hks
   simp only[go_sem,rE,rA,rL,q0,q8,q10,hga]
   intro b6 hb6
   refine cR hks (hS.new hb6 _) (by simp only[go_sem,rE,aS,bv,q0]) (.refl _) (fun h=>by simp at h) trivial ?_
   rintro q w2 ORD2 HELD2 H4 fp2 ⟨rfl,rfl⟩ hS4 - -
   by_cases hz:(w.stmt l[k]).2=0
   ·rw[if_pos hz]at hgv
    rw[hz,dh]
    have s1:=zV hsk hst.good hst.held (by rw[hst.lost];exact hlo) hwp (by omega) hz
    simp only[go_sem,rE,rA,rL,q0,q10,w1]
    exact⟨hk1,H4,aj.sub_refl _,q8,q9,rfl,_,ORD2,HELD2,hS4,hgv,hst.trans s1⟩
   ·rw[if_neg hz]at hgv
    rw[bV er hz]
    simp only[go_sem,rE,rA,rL,q0,q10,w1]
    refine ak (.refl _) (aj.sub_refl _) ⟨_,ORD2,HELD2,⟨?_,rfl⟩,?_⟩
    ·rw[hgv,bV er hz];rfl
    ·rw[hgv];exact hS4
  ·have hkk:k=l.length:=by omega
   subst hkk
   rw[l8,eA]at hgv
   simp only[go_sem,rE,rA,rL]
   exact ak (.refl _) (aj.sub_refl _) ⟨_,ORD',HELD',⟨by rw[hgv];rfl,rfl⟩,by rw[hgv];exact hS⟩
end
def bz(p:List Fu):Sc:=⟨p,[],[],[],false⟩
theorem gu(p:List Fu):(bz p).good:=⟨fun y hy=>by simp[bz]at hy,by simp[bz],by simp[bz],by simp[bz],by simp[bz],by simp[bz],by simp[bz],by simp[bz]⟩
theorem iY:∀(ps:List Pa) {v:Sc},v.good->v.held=[]->(∀p∈ps,p.okB=true)->v.vars.length+ps.length<=2^30->(cV v ps).2=0->v.step (cV v ps).1 ps.length
 |[],v,h,hh,_,_,_=>.refl h hh
 |p::ps,v,h,hh,hp,hn,hz=>by
  simp only[aV]at hn
  rw[cV]at hz⊢
  split at hz
  ·rename_i h0
   rw[if_pos h0]
   have hpt:p.type.okB=true:=by
    have:=hp p fI
    simp only[Pa.okB,aw]at this
    exact this.2
   have s1:=ls h hh (x:=p.vr) hpt (by simp[Pa.vr]) (by simp[Pa.vr]) (by omega) h0
   have:=s1.hi
   exact(s1.trans (iY ps s1.good s1.held (fun q hq=>hp q (dt _ hq)) (by omega) hz)).mono (by simp;omega)
  ·rename_i h0;exact absurd hz h0
noncomputable def jT(p:List Fu)(f:Fu):Int:=
 if(p.find? fun g=>eqB g.name f.name).isSome then 2
 else if(cV (bz p) f.params).2=0 then
  if((cV (bz p) f.params).1.stmts f.body).2=0 then vk (sc ((cV (bz p) f.params).1.stmts f.body).1 f) f
  else((cV (bz p) f.params).1.stmts f.body).2
 else(cV (bz p) f.params).2
structure FuW(f:Fu):Prop where
 name:bn f.name=true
 plen:f.params.length<=4
 type:f.type.okB=true
 body:cb 4 f.body=true
 num:bN f.body<=40
 params:∀p∈f.params,p.okB=true
 says:f.lent=false->f.says.okD 4=true
 gives:f.lent=true->f.gives.okB=true
theorem fuW{f:Fu}(h:f.okB=true):FuW f:=by
 simp only[Fu.okB,aw,decide_eq_true_eq,aW]at h
 obtain⟨h1,h2,h3,h4,h5,h6,h7⟩:=h
 refine⟨h1,h2,h3,h4,h5,h6,fun hl=>?_,fun hl=>?_⟩
 ·rw[hl]at h7;simp only[ap,if_false,aw]at h7;exact h7.2
 ·rw[hl]at h7;simp only[if_true,aw]at h7;exact h7.1
theorem fH{p:Pg}(h:eR p=true):p.length<=5/\∀f∈p,FuW f:=by
 simp only[eR,aw,decide_eq_true_eq,aW]at h
 exact⟨h.1,fun f hf=>fuW (h.2 f hf)⟩
section
variable {P:Program}{F:bS}{er:bW}
def ry(F:bS)(H Hk:aj)(s:Nat)(ORD HELD:AC)(m1 m2:Nat):Prop:=
 ∀b o,H.get b=some o->(∀c,(c=2\/c=3\/c=4\/c=5)->b≠F.err c)->Hk.get b=some o/\¬df F s ORD HELD m1 m2 b
theorem ry.step{H Hk H':aj}{s m1 m2:Nat}{ORD HELD ORD' HELD':AC}(h:ry F H Hk s ORD HELD m1 m2)(hf:∀b o,Hk.get b=some o->¬df F s ORD HELD m1 m2 b->H'.get b=some o/\¬df F s ORD' HELD' m1 m2 b):
 ry F H H' s ORD' HELD' m1 m2:=fun b o hb hn=>hf b o (h b o hb hn).1 (h b o hb hn).2
theorem ry.sub{H Hk:aj}{s m1 m2:Nat}{v:Sc}{ORD HELD:AC}(h:ry F H Hk s ORD HELD m1 m2)(he:ft F er H)(hS:cy F er Hk s v ORD HELD m1 m2):H.sub Hk:=fun b o hb=>by
 rcases Classical.em (∃c,(c=2\/c=3\/c=4\/c=5)/\b=F.err c)with⟨c,hc,rfl⟩|hn
 ·rw[he c hc]at hb;rw[<-hb];exact hS.errs c hc
 ·exact(h b o hb fun c hc e=>hn ⟨c,hc,e⟩).1
theorem ry.begin{H Hk:aj}{s m1 m2:Nat}(hk:∀c o,H.get c=some o->Hk.get c=some o)(h1:H.get s=none)(h2:H.get m1=none)(h3:H.get m2=none):ry F H Hk s NIL NIL m1 m2:=fun b o hb hn=>by
 refine⟨hk b o hb,?_⟩
 rintro(rfl|rfl|rfl|h|h|⟨c,hc,e⟩)
 ·rw[h1]at hb;simp at hb
 ·rw[h2]at hb;simp at hb
 ·rw[h3]at hb;simp at hb
 ·obtain⟨_,_,_,_,e⟩:=h;simp at e
 ·obtain⟨_,_,_,_,e⟩:=h;simp at e
 ·exact hn c hc e
theorem c_kFn(L:eC P F)(T:Tys F.toIds)(hC:eD P F er)(p:Pg)(hp:eR p=true)(i:Nat)(hi:i<p.length)(H:aj)(he:ft F er H):
 bD P F.k_Fn [.agg (Pg.enc p),I i] H fun q H'=>q=er.ac (jT (p.take i) p[i])/\H'=H:=by
 obtain⟨hpl,hpf⟩:=fH hp
 have W:=hpf p[i] (ay hi)
 have hti:∀f∈p.take i,f.type.okB=true:=fun f hf=>(hpf f (bJ hf)).type
 refine L.k_Fn (by simp[xW]) ?_
 have hga:(p.map Fu.enc)[i]?=some p[i].enc:=by simp[hi]
 simp only[xW,go_sem,rE,rA,rL,Pg.enc]
 intro b2 hb2
 rw[Fu.enc_eq]at hga
 simp only[go_sem,rE,rA,rL,hga]
 intro b5 hb5
 have d25:=al (ai _ _ _) hb5
 have hb5':H.get b5=none:=by rw[ae _ _ (Ne.symm d25)]at hb5;exact hb5
 have hsl:(0<=i/\i<=(p.map Fu.enc).length):=⟨fx _,by simp;omega⟩
 simp only[go_sem,rE,rA,rL,d25,if_pos hsl]
 rw[<-gU]
 have hpil:(p.take i).length<=2^30:=by rw[bk];omega
 generalize p[i]=f at*
 generalize p.take i=pi at*
 have k1:∀c o,H.get c=some o->((H.set b2 (.cells [.sl 12 none (p.map Fu.enc)])).set b5 (.cells f.enc)).get c=some o:=fun c o hc=>by
  rw[ae _ _ (al hc hb5'),ae _ _ (al hc hb2)];exact hc
 have he1:ft F er ((H.set b2 (.cells [.sl 12 none (p.map Fu.enc)])).set b5 (.cells f.enc)):=fun c hc=>k1 _ _ (he c hc)
 have g5:((H.set b2 (.cells [.sl 12 none (p.map Fu.enc)])).set b5 (.cells f.enc)).get b5=some (.cells f.enc):=ai _ _ _
 have e5:∀c,(c=2\/c=3\/c=4\/c=5)->b5≠F.err c:=fun c hc=>Ne.symm (al (he c hc) hb5')
 rw[<-Fu.enc_eq f]
 generalize((H.set b2 _).set b5 _)=H1 at*
 refine dR (xB (er:=er) L pi H1 he1) rfl (aj.sub_refl _) (fun h=>by simp at h) trivial ?_
 rintro q H2 ⟨s,m1,m2,rfl,hS,up,f1,f2,f3⟩ -
 rw[fK]
 have hR:ry F H1 H2 s NIL NIL m1 m2:=.begin up f1 f2 f3
 have g5':=hR b5 _ g5 e5
 have fe:=Fu.enc_eq f
 have g52:=g5'.1
 rw[fe]at g52
 simp only[go_sem,rE,rA,rL,g52]
 refine cR (uP L s (bz pi) f.name hpil) hS (by simp only[go_sem,rE,aS,bv]) (.refl _) (fun h=>by simp at h) trivial ?_
 rintro q v1 ORD1 HELD1 H3 fp ⟨rfl,rfl⟩ hS3 hfr -
 have hR3:=hR.step hfr
 have fin:∀(Hk:aj) (w:Sc) (ORD HELD:AC),cy F er Hk s w ORD HELD m1 m2->ry F H1 Hk s ORD HELD m1 m2->H.sub Hk:=fun Hk w ORD HELD h1 h2 b o hb=>(h2.sub he1 h1) b o (k1 b o hb)
 have g53:=hR3 b5 _ g5 e5
 cases hf:pi.find? (fun g=>eqB g.name f.name)with
 |some g=>
  have hx:jT pi f=2:=by unfold jT;rw[hf];rfl
  rw[hx]
  simp only[mQ,show(bz pi).p=pi from rfl,hf,Fu.enc_eq]
  simp only[go_sem,pV,rE,rA,rL,a7,aB]
  intro b7 hb7
  simp only[go_sem,rE,rA,rL,hS3.e2,al hS3.e2 hb7]
  exact ak (.refl _) (fun b o hb=>by rw[ae _ _ (al (fin _ _ _ _ hS3 hR3 b o hb) hb7)];exact fin _ _ _ _ hS3 hR3 b o hb) ⟨by rw[bV er (by decide)];rfl,rfl⟩
 |none=>
  have hx:jT pi f=if(cV (bz pi) f.params).2=0 then
   if((cV (bz pi) f.params).1.stmts f.body).2=0 then vk (sc ((cV (bz pi) f.params).1.stmts f.body).1 f) f
   else((cV (bz pi) f.params).1.stmts f.body).2
   else(cV (bz pi) f.params).2:=by unfold jT;rw[hf];rfl
  simp only[mQ,show(bz pi).p=pi from rfl,hf]
  simp only[go_sem,pV,rE,rA,rL,a7,aB]
  intro b7 hb7
  have d57:=al g53.1 hb7
  have g53':=g53.1
  rw[fe]at g53'
  simp only[go_sem,rE,rA,rL,d57,g53']
  have hpk:=uN (er:=er) L s (bz pi) (gu pi).ok f (by have:=W.plen;simp[bz];omega)
  rw[fe]at hpk
  have hS7:=hS3.new hb7 (.cells [S .empty,NIL,B false,NIL,NIL,I 0,I 0,S .empty,NIL,NIL,S .empty,NIL])
  have hR7:ry F H1 (H3.set b7 (.cells [S .empty,NIL,B false,NIL,NIL,I 0,I 0,S .empty,NIL,NIL,S .empty,NIL])) s ORD1 HELD1 m1 m2:=fun b o hb hn=>⟨by rw[ae _ _ (al (hR3 b o hb hn).1 hb7)];exact(hR3 b o hb hn).1,(hR3 b o hb hn).2⟩
  refine cR hpk hS7 (by simp only[go_sem,rE,aS,bv]) (.refl _) (fun h=>by simp at h) trivial ?_
  rintro q v2 ORD2 HELD2 H4 fp2 ⟨rfl,rfl⟩ hS4 hfr4 -
  have hR4:=hR7.step hfr4
  have g54:=(hR4 b5 _ g5 e5).1
  rw[fe]at g54
  by_cases hz1:(cV (bz pi) f.params).2=0
  ·rw[if_pos hz1]at hx
   rw[hz1,dh]
   simp only[go_sem,rE,rA,rL,g54]
   have st:=iY f.params (gu pi) rfl W.params (by have:=W.plen;simp[bz];omega) hz1
   have hhi:=st.hi
   have hpl4:=W.plen
   have h0:(bz pi).vars.length=0:=rfl
   refine cR (x8 (er:=er) L T hC 4 f.body W.body _ st.good st.held (by rw[st.lost];rfl) (by rw[st.p];exact hti) (by rw[st.p];exact hpil) (by omega) s) hS4 (by simp only[go_sem,rE,aS,bv]) (.refl _) (fun h=>by simp at h) trivial ?_
   rintro q v3 ORD3 HELD3 H5 fp3 ⟨rfl,rfl⟩ hS5 hfr5 -
   have hR5:=hR4.step hfr5
   have g55:=(hR5 b5 _ g5 e5).1
   rw[fe]at g55
   by_cases hz2:((cV (bz pi) f.params).1.stmts f.body).2=0
   ·rw[if_pos hz2]at hx
    rw[hz2,dh]
    simp only[go_sem,rE,rA,rL,g55]
    have st2:=hU 4 f.body W.body _ st.good st.held (by rw[st.lost];rfl) (by rw[st.p];exact hti) (by omega) hz2
    have hok:=c_kout (er:=er) L T hC s f (by
     cases hl:f.lent
     ·simp only[ap,if_false];exact W.says hl
     ·simp only[if_true];exact jG (W.gives hl)) _ st2.good
    rw[fe]at hok
    refine cR hok hS5 (by simp only[go_sem,rE,aS,bv]) (.refl _) (fun h=>by simp at h) trivial ?_
    rintro q v4 ORD4 HELD4 H6 fp4 ⟨rfl,rfl⟩ hS6 hfr6 -
    simp only[go_sem,rE,rA,rL]
    exact ak (.refl _) (fin _ _ _ _ hS6 (hR5.step hfr6)) ⟨by rw[hx];rfl,rfl⟩
   ·rw[if_neg hz2]at hx
    rw[bV er hz2]
    simp only[go_sem,rE,rA,rL,g55]
    exact ak (.refl _) (fin _ _ _ _ hS5 hR5) ⟨by rw[hx,bV er hz2];rfl,rfl⟩
  ·rw[if_neg hz1]at hx
   rw[bV er hz1]
   simp only[go_sem,rE,rA,rL,g54]
   exact ak (.refl _) (fin _ _ _ _ hS4 hR4) ⟨by rw[hx,bV er hz1];rfl,rfl⟩
end
theorem pS:∀(ps:List Pa) {e:En} {u:Sc},Rel e u []->u.held=[]->(∀p∈ps,p.okB=true)->
 ((cV u ps).2=0/\Rel (e.givens ps) (cV u ps).1 [])\/((cV u ps).2≠0/\(e.givens ps).code=(cV u ps).2)
 |[],e,u,h,_,_=>.inl ⟨rfl,h⟩
 |p::ps,e,u,h,hh,hp=>by
  have hpo:=hp p fI
  simp only[Pa.okB,aw]at hpo
  rw[cV,En.givens]
  have keep:∀(l:List Pa) {v:En},v.code≠0->(v.givens l).code=v.code:=by
   intro l
   induction l with
   |nil=>intro v _;rfl
   |cons q l ih=>
    intro v hv
    rw[En.givens]
    have h1:=eJ hv q.vr
    rw[ih (by rw[h1];exact hv)];exact h1
  rcases qN h (x:=p.vr) (oD hpo.1) (by simp[Pa.vr]) hh with⟨a1,a2⟩|⟨a1,a2⟩
  ·rw[if_pos a1]
   have hheld:(eI u p.vr).1.held=[]:=by unfold eI;split<;>exact hh
   exact pS ps a2 hheld fun q hq=>hp q (dt _ hq)
  ·rw[if_neg a1]
   exact .inr ⟨a1,(keep ps (by rw[a2];exact a1)).trans a2⟩
theorem BA:∀(vs:List Vr),qi vs->∀i (h:i<vs.length),fC vs vs[i].name=(vs[i].lent&&(vs[i].param||vs[i].loans.all fun q=>fC vs q.name)):=by
 intro vs
 induction vs using wv with
 |nil=>intro _ i h;simp at h
 |snoc vs x ih=>
  intro hok i hi
  have ihv:=ih hok.front
  have hx:x.name∉vs.map (·.name):=by
   have:=hok.nd
   rw[bB,fZ]at this
   intro hm
   exact this.2.2 _ hm x.name (by simp) rfl
  have jj:∀k (hk:k<(vs++[x]).length),∀q∈(vs++[x])[k].loans,q.name≠x.name:=fun k hk q hq e=>by
   obtain⟨j,hj,hn⟩:=hok.up k hk q hq
   simp at hk
   have hjl:j<vs.length:=by omega
   rw[aR hjl,av hjl]at hn
   simp at hn
   exact hx (aY.2 ⟨vs[j],ay hjl,hn.trans e⟩)
  have out_ne:∀n,n≠x.name->fC (vs++[x]) n=fC vs n:=fun n hn=>by rw[ku,if_neg (fun h=>hn (cQ.1 h))]
  have all_eq:∀k (hk:k<(vs++[x]).length),((vs++[x])[k].loans.all fun q=>fC (vs++[x]) q.name)=(vs++[x])[k].loans.all fun q=>fC vs q.name:=fun k hk=>by
   rw[aZ,aW,aW]
   constructor
   ·intro h q hq;rw[<-out_ne _ (jj k hk q hq)];exact h q hq
   ·intro h q hq;rw[out_ne _ (jj k hk q hq)];exact h q hq
  rw[all_eq i hi]
  by_cases hlt:i<vs.length
  ·have e:(vs++[x])[i]=vs[i]:=dv hlt
   have hne:vs[i].name≠x.name:=fun e'=>hx (aY.2 ⟨vs[i],ay hlt,e'⟩)
   rw[e,out_ne _ hne]
   exact ihv i hlt
  ·have hil:i=vs.length:=by simp at hi;omega
   subst hil
   have e:(vs++[x])[vs.length]=x:=by simp
   rw[e,ku,if_pos (dE _)]
   cases x.param<;>cases x.lent<;>simp
theorem zm{vs:List Vr}{n:ByteArray}{i:Nat}(h:fW vs n=some i):∃hi:i<vs.length,vs[i].name=n:=by
 unfold fW at h
 obtain⟨hl,hn,-⟩:=bQ.1 h
 exact⟨hl,by simpa using hn⟩
theorem uq{vs:List Vr}(hnd:(vs.map (·.name)).Nodup){j:Nat}(hj:j<vs.length){n:ByteArray}(hn:vs[j].name=n):fW vs n=some j:=by
 cases h:fW vs n with
 |none=>
  unfold fW at h
  rw[iB]at h
  have:=h _ (ay hj)
  simp[hn]at this
 |some i=>
  obtain⟨hi,e⟩:=zm h
  rw[wK hnd hi hj (e.trans hn.symm)]
theorem outN_eq{vs:List Vr}(hok:qi vs):∀(i n:Nat) (p:Pl),fW vs p.name=some i->i<n->oP vs n p=fC vs p.name:=by
 intro i
 induction i using Nat.strongRecOn with
 |_ i ih=>
  intro n p hp hn
  obtain⟨hi,hname⟩:=zm hp
  cases n with
  |zero=>omega
  |succ n=>
   rw[oP,hp]
   simp only[av hi]
   rw[<-hname,BA vs hok i hi]
   congr 1
   congr 1
   rw[aZ,aW,aW]
   have key:∀q∈vs[i].loans,oP vs n q=fC vs q.name:=fun q hq=>by
    obtain⟨j,hj,e⟩:=hok.up i hi q hq
    have hjl:j<vs.length:=by omega
    rw[av hjl]at e
    simp at e
    exact ih j hj n q (uq hok.nd hjl e) (by omega)
   constructor
   ·intro h q hq;rw[<-key q hq];exact h q hq
   ·intro h q hq;rw[key q hq];exact h q hq
theorem yq{e:En}{u:Sc}(h:Rel e u []){p:Pl}(hp:∃x∈u.vars,x.name=p.name):e.outside p=fC u.vars p.name:=by
 have hv:e.vars=u.vars:=by rw[h.vars,cX]
 unfold En.outside
 rw[hv]
 obtain⟨x,hx,hn⟩:=hp
 obtain⟨j,hj,rfl⟩:=bj.1 hx
 exact outN_eq h.ok j _ p (uq h.ok.nd hj hn) hj
noncomputable def En.outCode(e:En)(f:Fu):Int:=
 if f.lent=true then(if((e.use f.gives).1.same (e.use f.gives).2 f.type).code=0/\((e.use f.gives).1.same (e.use f.gives).2 f.type).outside f.gives=false then 5 else((e.use f.gives).1.same (e.use f.gives).2 f.type).code)
 else((e.expr f.says).1.same (e.expr f.says).2 f.type).code
noncomputable def lc(p:Pg)(i:Nat):Int:=match p[i]? with
 |none=>0
 |some f=>if(jY p f.name i).isSome then 2
  else if 0<((co p i).body f.body).code then((co p i).body f.body).code
  else((co p i).body f.body).outCode f
theorem out_sim{f:Fu}(W:FuW f){e:En}{u:Sc}(h:Rel e u [])(hh:u.held=[]):e.outCode f=vk (sc u f) f:=by
 unfold En.outCode vk sc
 cases hl:f.lent
 ·simp only[ap,if_false]
  rcases oh 4 f.says (W.says hl) h with⟨a1,⟨T1,a2⟩,a3⟩|⟨a1,a2⟩
  ·rw[if_pos a1,jt a2.code,a3]
   simp
  ·rw[if_neg a1]
   exact(eP (by rw[a2];exact a1) _ _).trans a2
 ·simp only[if_true]
  rcases mG h (p:=f.gives) (lj (W.gives hl))with⟨a1,⟨T1,a2⟩,a3,a4⟩|⟨a1,a2⟩
  ·rw[if_pos a1,a3]
   obtain rfl:=a2.nil ((u.use_core f.gives).2.2.1.trans hh)
   by_cases hq:eqB (u.use f.gives).2.1 f.type=true
   ·have r:=a2.same hq
    have ho:=yq r (zH (u.use_core f.gives).1 a4)
    rw[if_pos hq,r.code,ho]
    cases fC (u.use f.gives).1.vars f.gives.name<;>simp
   ·have hc:=jt a2.code (u.use f.gives).2.1 f.type
    rw[if_neg hq]at hc
    rw[if_neg hq,hc]
    simp
  ·rw[if_neg a1]
   have hc:=(eP (by rw[a2];exact a1) (e.use f.gives).2 f.type).trans a2
   rw[hc,if_neg (fun hx=>a1 hx.1)]
theorem BZ{p:Pg}(hp:eR p=true){i:Nat}(hi:i<p.length):lc p i=jT (p.take i) p[i]/\0<=jT (p.take i) p[i]:=by
 obtain⟨hpl,hpf⟩:=fH hp
 have W:=hpf p[i] (ay hi)
 have hti:∀f∈p.take i,f.type.okB=true:=fun f hf=>(hpf f (bJ hf)).type
 have hfind:=zD p p[i].name i
 unfold lc jT co
 rw[av hi]
 simp only
 have hsome:((p.take i).find? fun g=>eqB g.name p[i].name).isSome=(jY p p[i].name i).isSome:=by
  rw[hfind]
  cases h:jY p p[i].name i with
  |none=>rfl
  |some k=>
   unfold jY at h
   obtain⟨hl,-⟩:=bQ.1 h
   have:k<p.length:=by rw[bk]at hl;omega
   simp[this]
 rw[hsome]
 have hr0:Rel (⟨p,i,[],[],0⟩:En) (bz (p.take i)) []:=⟨rfl,rfl,rfl,rfl,⟨by simp[bz],by simp[bz],fun j hj=>by simp[bz]at hj⟩,⟨rfl,fun j hj=>by simp at hj,fun q hq=>by simp[bz]at hq⟩,rfl,fun y hy=>by simp[bz]at hy⟩
 have gpos:∀(ps:List Pa) (v:Sc),0<=(cV v ps).2:=by
  intro ps
  induction ps with
  |nil=>intro v;simp[cV]
  |cons q ps ih=>
   intro v
   rw[cV]
   split
   ·exact ih _
   ·exact oa _ _
 have opos:∀(u:Sc) (f:Fu),0<=vk (sc u f) f:=by
  intro u f
  unfold vk
  split
  ·split
   ·split<;>simp
   ·simp
  ·unfold sc
   split
   ·exact mH _ _
   ·exact lu _ _
 split
 ·exact⟨rfl,by simp⟩
 ·have hg:=gpos p[i].params (bz (p.take i))
  rcases pS p[i].params hr0 rfl W.params with⟨a1,a2⟩|⟨a1,a2⟩
  ·rw[if_pos a1]
   have st:=iY p[i].params (gu (p.take i)) rfl W.params (by have:=W.plen;simp[bz];omega) a1
   have hhi:=st.hi
   have hpl4:=W.plen
   have h0:(bz (p.take i)).vars.length=0:=rfl
   have hs:=kr p[i].body (cV (bz (p.take i)) p[i].params).1
   rcases uu 4 p[i].body W.body a2 st.good st.held (by rw[st.p];exact hti) (by omega)with⟨b1,b2⟩|⟨b1,b2⟩
   ·rw[if_pos b1,b2.code]
    have st2:=hU 4 p[i].body W.body _ st.good st.held (by rw[st.lost];rfl) (by rw[st.p];exact hti) (by omega) b1
    exact⟨by rw[if_neg (by simp)];exact out_sim W b2 st2.held,opos _ _⟩
   ·rw[if_neg b1,b2,if_pos (by omega)]
    exact⟨rfl,hs⟩
  ·rw[if_neg a1]
   have hc:((⟨p,i,[],[],0⟩:En).givens p[i].params).code≠0:=by rw[a2];exact a1
   rw[uR hc,a2,if_pos (by omega)]
   exact⟨rfl,hg⟩
section
variable {P:Program}{F:Ids}
theorem Cu(L:Lib P F)(T:Tys F)(f:Fu)(hc:bx f.body<=2^20)(hs:∀s∈f.body,s.sm 3):cM P F.i_fnForm [.agg f.enc] (B f.okB):=by
 refine L.i_fnForm (by simp[pD]) ?_
 rw[Fu.enc_eq]
 simp only[pD,go_sem,rE]
 intro b hb
 obtain⟨cs,hcs⟩:∃cs,cs=[S f.name,.sl 3 none (f.params.map Pa.enc),B f.lent,.sl 1 none (Ty.encs f.type.kids),.sl 15 none (St.encs f.body),I f.says.kind,I f.says.num,S f.says.place.name,au f.says.place.path,.sl 5 none (Ex.encs f.says.kids),S f.gives.name,au f.gives.path]:=⟨_,rfl⟩
 have g1:(aj.empty.set b (.cells cs)).get b=some (.cells cs):=ai _ _ _
 rw[hcs]at g1
 generalize aj.empty.set b (.cells [S f.name,.sl 3 none (f.params.map Pa.enc),B f.lent,.sl 1 none (Ty.encs f.type.kids),.sl 15 none (St.encs f.body),I f.says.kind,I f.says.num,S f.says.place.name,au f.says.place.path,.sl 5 none (Ex.encs f.says.kids),S f.gives.name,au f.gives.path])=H1 at*
 have back:∀(E:Env) (H:aj) (c:Bool),E 2=B c->c=f.okB->aD.post [.slot 2] (fun q H'=>q=B f.okB/\H'=aj.empty) .ret E H:=by
  rintro E H c e4 rfl
  exact ak (.refl _) (aj.sub_empty _) ⟨e4,rfl⟩
 have cut:(!bn f.name||decide (4<f.params.length)||!f.type.okB)=true->f.okB=false:=by
  intro h
  simp only[dq,dJ,decide_eq_true_eq]at h
  rcases h with(h|h)|h
  ·simp[Fu.okB,h]
  ·simp[Fu.okB,show ¬f.params.length<=4 by omega]
  ·simp[Fu.okB,h]
 refine ao (ij L f.name) (rfl) ?_
 cases hn:bn f.name
 ·simp only[go_sem,rE,rA]
  exact back _ _ false (rfl) (cut (by simp[hn])).symm
 by_cases h4:(f.params.length:Int)>4
 ·simp only[go_sem,rE,rA,g1,am,h4,decide_true]
  exact back _ _ false (rfl) (cut (by simp;omega)).symm
 simp only[go_sem,rE,rA,rL,g1,am,h4,decide_false]
 refine ao (oJ L f.type) (by simp only[go_sem,rE,Ty.enc_eq]) ?_
 cases ht:f.type.okB
 ·simp only[go_sem,rE,rA]
  exact back _ _ false (rfl) (cut (by simp[ht])).symm
 have hpre:f.okB=(cb 4 f.body&&(decide (bN f.body<=40)&&(f.params.all Pa.okB&&(if f.lent then f.gives.okB&&f.says.noneB else f.gives.noneB&&f.says.okD 4)))):=by
  simp only[Fu.okB,hn,ht,show decide (f.params.length<=4)=true from decide_eq_true (by omega),bX]
 simp only[go_sem,rE,rA,g1,am]
 refine aT f.params.length (fun k E H=>E 1=.ptr b 0/\E 23=.sl 3 none (f.params.map Pa.enc)/\E 24=I f.params.length/\E 25=I k/\H.get b=some (.cells cs)/\(f.params.take k).all Pa.okB=true) ⟨rfl,rfl,rfl,rfl,by rw[hcs];exact g1,by simp⟩ ?_
 clear g1
 rintro k E H hk ⟨e1,e23,e24,e25,g1,hall⟩
 rw[hcs]at g1
 simp only[wp_seq,go_sem,rE,rA,e24,e25]
 refine aG (fun hlt=>?_) (fun hge=>?_)
 ·have hk1:k<f.params.length:=by omega
  have w1:=aL (n:=(k:Int)+1) (by omega) (by omega)
  have hgp:(f.params.map Pa.enc)[k]?=some [S f.params[k].name,B f.params[k].lent,.sl 1 none (Ty.encs f.params[k].type.kids)]:=by simp[hk1,Pa.enc,Ty.enc_eq]
  have no:f.params[k].okB=false->f.okB=false:=by
   intro h
   have:f.params.all Pa.okB=false:=by rw[du];exact⟨_,ay hk1,by rw[h];exact fL⟩
   rw[hpre,this,aK,aO,aO]
  have yes:f.params[k].okB=true->(f.params.take (k+1)).all Pa.okB=true:=by
   intro h
   rw[aA hk1,eG,hall];simp[h]
  have goE:f.params[k].okB=(bn f.params[k].name&&f.params[k].type.okB):=rfl
  generalize f.params[k]=p at*
  simp only[go_sem,rE,rA,rL,e23,e25,hgp]
  intro b4 hb4
  have d4:=al g1 hb4
  refine ao (ij L p.name) (rfl) ?_
  cases hpn:bn p.name
  ·simp only[go_sem,rE,rA]
   exact back _ _ false (rfl) (by rw[no (by rw[goE,hpn];rfl)])
  simp only[go_sem,rE,rA,rL]
  refine ao (oJ L p.type) (by simp only[go_sem,rE,Ty.enc_eq]) ?_
  cases hpt:p.type.okB
  ·simp only[go_sem,rE,rA]
   exact back _ _ false (rfl) (by rw[no (by rw[goE,hpn,hpt];rfl)])
  simp only[go_sem,rE,rA,e25,w1]
  exact⟨hk1,_,aj.sub_refl _,e1,e23,e24,rfl,by simp only[go_sem,d4,hcs,g1],yes (by rw[goE,hpn,hpt];rfl)⟩
 ·have hkk:k=f.params.length:=by omega
  subst hkk
  rw[aU]at hall
  rw[hall,bX]at hpre
  simp only[go_sem,rE]
  intro b5 hb5
  have d5:=al g1 hb5
  simp only[go_sem,rE,rA,rL,e1,g1,d5,Ne.symm d5]
  refine vg (rU L T 4 (by omega) f.body 40 b5 hc (by omega) (by omega)) (rfl) (ai _ _ _) (by simp) trivial ?_
  rw[iBody4 hs]
  generalize(fm 4 f.body 40).2=lf
  have hf:(cb 4 f.body&&decide (bN f.body<=40))=false->f.okB=false:=by
   intro h
   rw[hpre,<-Bool.and_assoc,h,aK]
  have htr:(cb 4 f.body&&decide (bN f.body<=40))=true->f.okB=(if f.lent then f.gives.okB&&f.says.noneB else f.gives.noneB&&f.says.okD 4):=by
   intro h
   rw[hpre,<-Bool.and_assoc,h,bX]
  generalize(cb 4 f.body&&decide (bN f.body<=40))=c at*
  clear hpre
  cases c
  ·simp only[go_sem,rE,rA]
   exact back _ _ false (rfl) (hf rfl).symm
  have htr:=htr rfl
  simp only[go_sem,rE,rA,rL,e1,g1,d5,Ne.symm d5]
  cases hl:f.lent
  ·rw[hl]at htr
   simp only[go_sem,rE,rA,rL,e1,g1,d5,Ne.symm d5]
   refine ao (j3 L T 4 (by omega) f.says) (by simp only[go_sem,rE,Ex.enc_eq];rfl) ?_
   cases hg:f.says.okD 4
   ·simp only[go_sem,rE,rA]
    exact back _ _ false (rfl) (by rw[htr,hg];simp)
   ·simp only[go_sem,rE,rA,rL,e1,g1,d5,Ne.symm d5]
    refine ao (ig L f.gives) (by simp only[go_sem,rE,Pl.enc]) ?_
    simp only[go_sem,rE,rA]
    exact back _ _ f.gives.noneB (rfl) (by rw[htr,hg];simp)
  ·rw[hl]at htr
   simp only[go_sem,rE,rA,rL,e1,g1,d5,Ne.symm d5]
   refine ao (ii L f.gives) (by simp only[go_sem,rE,Pl.enc]) ?_
   cases hg:f.gives.okB
   ·simp only[go_sem,rE,rA]
    exact back _ _ false (rfl) (by rw[htr,hg];rfl)
   ·simp only[go_sem,rE,rA,rL,e1,g1,d5,Ne.symm d5]
    refine ao (gM L f.says) (by simp only[go_sem,rE,Ex.enc_eq]) ?_
    simp only[go_sem,rE,rA]
    exact back _ _ f.says.noneB (rfl) (by rw[htr,hg];rfl)
theorem yQ(L:Lib P F)(T:Tys F)(p:Pg)(hc:∀f∈p,bx f.body<=2^20/\∀s∈f.body,s.sm 3):cM P F.i_progForm [.agg (Pg.enc p)] (B (eR p)):=by
 refine L.i_progForm (by simp[mB]) ?_
 simp only[mB,go_sem,rE,Pg.enc,am]
 intro b hb
 by_cases h5:(p.length:Int)>5
 ·simp only[go_sem,rE,am,h5,decide_true]
  refine ak (.refl _) (aj.sub_empty _) ⟨?_,rfl⟩
  have:eR p=false:=by simp only[eR,cO,decide_eq_false_iff_not];exact .inl (by omega)
  simp only[go_sem,this]
 simp only[go_sem,rE,am,h5,decide_false]
 refine aT p.length (fun k E H=>E 10=.sl 12 none (p.map Fu.enc)/\E 11=I p.length/\E 12=I k/\(p.take k).all Fu.okB=true) ⟨rfl,rfl,rfl,by simp⟩ ?_
 rintro k E H hk ⟨e10,e11,e12,hall⟩
 simp only[wp_seq,go_sem,rE,rA,e11,e12]
 refine aG (fun hlt=>?_) (fun hge=>?_)
 ·have hk1:k<p.length:=by omega
  have w1:=aL (n:=(k:Int)+1) (by omega) (by omega)
  have hg:=vC hk1
  rw[Fu.enc_eq]at hg
  have hcf:=hc _ (ay hk1)
  simp only[go_sem,rE,rA,rL,e10,e12,hg]
  intro b4 hb4
  refine ao (Cu L T p[k] hcf.1 hcf.2) (by simp only[go_sem,rE,Fu.enc_eq]) ?_
  cases ho:p[k].okB
  ·simp only[go_sem,rE]
   refine ak (.refl _) (aj.sub_empty _) ⟨?_,rfl⟩
   have:p.all Fu.okB=false:=by rw[du];exact⟨_,ay hk1,by rw[ho];exact fL⟩
   simp only[go_sem,eR,this,aO]
  ·simp only[go_sem,rE,e12,w1]
   refine⟨hk1,_,aj.sub_refl _,e10,e11,rfl,?_⟩
   rw[aA hk1,eG,hall]
   simp[ho]
 ·have hkk:k=p.length:=by omega
  subst hkk
  rw[aU]at hall
  simp only[go_sem,rE]
  refine ak (.refl _) (aj.sub_empty _) ⟨?_,rfl⟩
  have:eR p=true:=by simp only[eR,hall,fO,decide_eq_true_eq];omega
  simp only[go_sem,this]
end
noncomputable def ic(p:Pg)(i:Nat):Int:=match p[i]? with|some f=>jT (p.take i) f|none=>0
noncomputable def og(p:Pg):Option Nat:=(dU p.length).find? fun i=>decide (ic p i≠0)
theorem t8{p:Pg}(h:∀i,i<p.length->ic p i=0):og p=none:=by
 unfold og
 rw[List.find?_eq_none]
 intro i hi
 simp[h i (eT.1 hi)]
theorem t7{p:Pg}{i:Nat}(hi:i<p.length)(h:∀j,j<i->ic p j=0)(hc:ic p i≠0):og p=some i:=by
 unfold og
 rw[List.find?_range_eq_some]
 refine⟨by simpa using hc,by simpa using hi,fun j hj=>by simp[h j hj]⟩
section
variable {P:Program}{F:bS}{er:bW}
theorem c_kFns(L:eC P F)(T:Tys F.toIds)(hC:eD P F er)(p:Pg)(hp:eR p=true)(H:aj)(he:ft F er H):
 bD P F.k_Fns [.agg (Pg.enc p)] H fun q H'=>(og p=none/\q=gW/\H'=H)\/∃i b,og p=some i/\H.get b=none/\q=.iface F.T_k_Fault (.ptr b 0)/\H'=H.set b (.cells [I i,er.ac (ic p i)]):=by
 obtain⟨hpl,hpf⟩:=fH hp
 refine L.k_Fns (by simp[uZ]) ?_
 simp only[uZ,go_sem,rE,rA,rL,Pg.enc]
 intro b1 hb1
 have g1:(H.set b1 (.cells [.sl 12 none (p.map Fu.enc)])).get b1=some (.cells [.sl 12 none (p.map Fu.enc)]):=ai _ _ _
 have k1:∀c o,H.get c=some o->(H.set b1 (.cells [.sl 12 none (p.map Fu.enc)])).get c=some o:=fun c o hc=>by rw[ae _ _ (al hc hb1)];exact hc
 have he1:ft F er (H.set b1 (.cells [.sl 12 none (p.map Fu.enc)])):=fun c hc=>k1 _ _ (he c hc)
 generalize H.set b1 _=H1 at*
 simp only[go_sem,rE,rA,rL,g1,am]
 refine aT p.length (fun k E' H'=>E' 1=.ptr b1 0/\E' 7=I p.length/\E' 8=I k/\H'=H1/\∀j,j<k->ic p j=0)
  ⟨rfl,by simp only[go_sem,rE,am],rfl,rfl,fun j hj=>absurd hj (Nat.not_lt_zero _)⟩ ?_
 rintro k E' H' hk ⟨q1,q7,q8,rfl,hall⟩
 simp only[go_sem,rE,rA,rL,q7,q8]
 refine aG (fun hlt=>?_) (fun hge=>?_)
 ·have hk1:k<p.length:=by omega
  have w1:=aL (n:=(k:Int)+1) (by omega) (by omega)
  have hfn:=c_kFn (er:=er) L T hC p hp k hk1 H' he1
  simp only[Pg.enc]at hfn
  have hca:ic p k=jT (p.take k) p[k]:=by unfold ic;rw[av hk1]
  rw[<-hca]at hfn
  simp only[go_sem,rE,rA,rL,q1,q8,g1]
  refine dR hfn (by simp only[go_sem,rE,aS,bv,q8]) (aj.sub_refl _) (fun h=>by simp at h) trivial ?_
  rintro q H3 ⟨rfl,rfl⟩ -
  rw[iq]
  by_cases hz:ic p k=0
  ·rw[hz,dh]
   simp only[go_sem,rE,rA,rL,q8,w1]
   refine⟨hk1,_,aj.sub_refl _,q1,q7,rfl,rfl,fun j hj=>?_⟩
   by_cases hjk:j=k
   ·rw[hjk];exact hz
   ·exact hall j (by omega)
  ·rw[bV er hz]
   simp only[go_sem,rE,rA,rL,q8]
   intro b hb
   have hbH:H.get b=none:=by
    cases h:H.get b with
    |none=>rfl
    |some o=>rw[k1 b o h]at hb;simp at hb
   refine ak (.refl _) (H':=H.set b (.cells [I k,.iface (er.t (ic p k)) (er.x (ic p k))])) (fun c o hc=>?_) (.inr ⟨k,b,t7 hk1 hall hz,hbH,rfl,by rw[bV er hz]⟩)
   rw[aM]at hc⊢
   split at hc
   ·rename_i e;rw[if_pos e];exact hc
   ·rename_i e;rw[if_neg e];exact k1 c o hc
 ·have hkk:k=p.length:=by omega
  subst hkk
  simp only[go_sem,rE,rA,rL]
  exact ak (.refl _) (fun b o hb=>k1 b o hb) (.inl ⟨t8 hall,rfl,rfl⟩)
noncomputable def jr(p:Pg):Bool:=eR p&&(og p).isNone
def Pg.small(p:Pg):Prop:=∀f∈p,bx f.body<=2^20/\∀s∈f.body,s.sm 3
theorem x9(L:eC P F)(T:Tys F.toIds)(hC:eD P F er)(p:Pg)(hc:p.small)(H:aj)(he:ft F er H):
 bD P F.i_progFine [.agg (Pg.enc p)] H fun q H'=>q=B (jr p)/\H'=H:=by
 refine L.i_progFine (by simp[mC]) ?_
 have hpf:=yQ L.toLib T p hc
 simp only[Pg.enc]at hpf
 simp only[mC,go_sem,rE,rA,rL,Pg.enc]
 intro b1 hb1
 have g1:(H.set b1 (.cells [.sl 12 none (p.map Fu.enc)])).get b1=some (.cells [.sl 12 none (p.map Fu.enc)]):=ai _ _ _
 have k1:∀c o,H.get c=some o->(H.set b1 (.cells [.sl 12 none (p.map Fu.enc)])).get c=some o:=fun c o hc=>by rw[ae _ _ (al hc hb1)];exact hc
 have he1:ft F er (H.set b1 (.cells [.sl 12 none (p.map Fu.enc)])):=fun c hc=>k1 _ _ (he c hc)
 generalize H.set b1 _=H1 at*
 refine ao hpf rfl ?_
 cases hf:eR p
 ·simp only[go_sem,rE,rA,rL]
  exact ak (.refl _) (fun b o hb=>k1 b o hb) ⟨by simp only[jr,hf,aK];rfl,rfl⟩
 ·have hfn:=c_kFns (er:=er) L T hC p hf H1 he1
  simp only[Pg.enc]at hfn
  simp only[go_sem,rE,rA,rL,g1]
  refine dR hfn (by simp only[go_sem,rE,aS,bv]) (aj.sub_refl _) (fun h=>by simp at h) trivial ?_
  rintro q H3 h -
  rw[fK]
  rcases h with⟨h1,rfl,rfl⟩|⟨i,b,h1,h2,rfl,rfl⟩
  ·simp only[go_sem,rE,rA,rL]
   exact ak (.refl _) (fun b o hb=>k1 b o hb) ⟨by simp only[jr,hf,h1];rfl,rfl⟩
  ·simp only[go_sem,rE,rA,rL]
   exact ak (.refl _) (fun c o hc=>by rw[ae _ _ (al (k1 c o hc) h2)];exact k1 c o hc) ⟨by simp only[jr,hf,h1];rfl,rfl⟩
end
theorem yo{p:List Int}(h:gj p=true):p.length<=4:=by
 simp[gj]at h;exact h.1
theorem lx{p:Pl}(h:p.okB=true):p.name≠bl []/\p.path.length<=4:=by
 simp only[Pl.okB,aw]at h
 exact⟨oD h.1,yo h.2⟩
theorem mW{p:Pl}(h:p.noneB=true):p.path.length<=4:=by
 simp[Pl.noneB]at h;rw[h.2];simp
theorem tP{p:Pl}{c:Prop}[Decidable c](h:(if c then p.okB else p.noneB)=true):p.path.length<=4:=by
 split at h
 ·exact(lx h).2
 ·exact mW h
theorem Ex.ok_mk{e:Ex}(hp:e.place.path.length<=2^20)(hk:e.kind≠1->e.kind≠2->2<=e.kids.length)(hs:∀x∈e.kids,x.ok):e.ok:=by cases e;exact .mk hp hk hs
theorem St.ok_mk{s:St}(hp:s.place.path.length<=2^20)(ho:s.other.path.length<=2^20)(he:s.kind≠2->s.kind≠4->s.expr.ok)(ha:∀a∈s.args,a.ok)(ht:∀x∈s.thn,x.ok)(hl:∀x∈s.els,x.ok):s.ok:=by
 cases s;exact .mk hp ho he ha ht hl
theorem C4{s:St}(ho:s.kind=6->s.other.name≠bl [])(ha:s.kind=4->∀a∈s.args,a.lent=true->a.place.name≠bl [])(ht:∀x∈s.thn,x.nm)(hl:∀x∈s.els,x.nm):s.nm:=by
 cases s;exact .mk ho ha ht hl
theorem oO:∀(d:Nat) (e:Ex),e.okD d=true->e.ok
 |0,e,h=>by simp[Ex.okD]at h
 |d+1,e,h=>by
  simp only[Ex.okD,aw,aW,fu,jw]at h
  obtain⟨⟨-,hg,-⟩,hk,hl⟩:=h
  refine Ex.ok_mk ?_ ?_ fun x hx=>oO d x (hk x hx)
  ·by_cases h2:e.kind=2
   ·rw[if_neg (by omega),if_pos h2]at hl
    simp only[aw]at hl
    have:=(lx hl.1).2
    omega
   ·simp only[h2,decide_false,dK]at hg
    have:=mW hg
    omega
  ·intro h1 h2
   rw[if_neg h1,if_neg h2]at hl
   simp at hl
   omega
theorem Ag.okB_ok{a:Ag}(h:a.okB=true):a.ok/\(a.lent=true->a.place.name≠bl []):=by
 rw[Ag.okB]at h
 cases hl:a.lent
 ·simp only[hl,if_false,ap,aw]at h
  refine⟨⟨fun _=>oO _ _ h.2,?_⟩,by simp⟩
  have:=mW h.1;omega
 ·simp only[hl,if_true,aw]at h
  have:=lx h.1
  exact⟨⟨by simp[hl],by omega⟩,fun _=>this.1⟩
theorem BE(Bd:List St->Bool)(hB:∀l,Bd l=true->∀x∈l,x.ok/\x.nm)(s:St)(h:de Bd s=true):s.ok/\s.nm:=by
 simp only[de,stA,stB,kZ,stD,aw,eL]at h
 obtain⟨ho,⟨-,hp,he⟩,⟨hc,-,ha⟩,hd⟩:=h
 have hpl:=tP hp
 have hol:=tP ho
 have hbody:∀x,(x∈s.thn\/x∈s.els)->x.ok/\x.nm:=by
  intro x hx
  split at hd
  ·simp only[aw]at hd
   rcases hx with hx|hx
   ·exact hB _ hd.1 x hx
   ·exact hB _ hd.2 x hx
  ·simp at hd
   rw[hd.2.1,hd.2.2]at hx;simp at hx
 refine⟨St.ok_mk (by omega) (by omega) (fun h2 h4=>?_) (fun a hx=>(Ag.okB_ok (aW.1 ha a hx)).1) (fun x hx=>(hbody x (.inl hx)).1) (fun x hx=>(hbody x (.inr hx)).1),C4 (fun h6=>?_) (fun _ a hx=>(Ag.okB_ok (aW.1 ha a hx)).2) (fun x hx=>(hbody x (.inl hx)).2) (fun x hx=>(hbody x (.inr hx)).2)⟩
 ·have hk:isE s.kind=true:=by
   simp only[isE,dq,decide_eq_true_eq]
   split at hd
   ·omega
   ·simp at hd;omega
  rw[if_pos hk]at he
  exact oO _ _ he
 ·rw[if_pos h6]at ho
  exact(lx ho).1
theorem oK:∀(d:Nat) (l:List St),cb d l=true->∀x∈l,x.ok/\x.nm
 |0,l,h=>by simp[cb]at h
 |d+1,l,h=>by
  simp only[cb,aw,aW]at h
  exact fun x hx=>BE _ (oK d) x (h.2 x hx)
theorem St.okB_ok{d:Nat}{s:St}(h:s.okB d=true):s.ok/\s.nm:=BE _ (oK _) s h
section
variable {P:Program}{F:Ids}
theorem ux(L:Lib P F){dr:Bool}{K:Env->aj->Prop}{xs:List aN}{E:Env}{H:aj}{l:Lds}{f:Fps}{i:Nat}{inc:List Nat}{args:List aI}{d:Option Nat}{e:Nat}{v:En}{VS NS:AC}(hE:bF H e v VS NS)
(hl:v.vars.length<=2^30)(hn:v.names.length<=2^30)(ha:args.map (aI.ev E)=[.ptr e 0])(hchk:dS inc l (aP e VS NS))
(h:∀a VS' NS' H1 fp,bF H1 a v VS' NS'->H.sub H1->(∀d,aP a VS' NS' d->H.get d=none)->(∀c,fp c->aP e VS NS c\/H.get c=none)->bw P dr K xs (E.put d (.ptr a 0)) H1 l ((i,fp)::f)):
 bw P dr K (⟨i,d,none,.eff (.call F.s_l3Env_copy args),inc⟩::xs) E H l f:=by
 have hge:∀b,(H.only (aP e VS NS)).get b≠none↔aP e VS NS b:=by
  intro b
  by_cases hb:aP e VS NS b
  ·simp only[bm hb,hb,iff_true];exact hE.mem hb
  ·simp[cd hb,hb]
 refine gH (aP e VS NS) (Cv L e v VS NS (H.only (aP e VS NS)) hE.only hl hn) ha (.refl _) (fun _ N=>?_) ?_ ?_
 ·obtain⟨M,hM⟩:=(H.only (aP e VS NS)).fin
  obtain⟨H0,VS0,NS0,hE0,hfar⟩:=qH (N+M) (N+M) v
  have far:∀{b},H0.get b≠none->N+M<=b:=by
   intro b hb
   rcases hfar b hb with h|h<;>omega
  have hget:∀b,N+M<=b->(H0.swap .empty (H.only (aP e VS NS))).get b=H0.get b:=by
   intro b hb
   rw[bG,hM b (by omega)];simp
  refine⟨.ptr (N+M) 0,H0.swap .empty (H.only (aP e VS NS)),⟨N+M,VS0,NS0,rfl,hE0.mono fun d hd=>hget d (far (hE0.mem hd)),fun d hd=>?_,fun d hd=>hM d (by have:=far (hE0.mem hd);omega)⟩,fun b hb hnb=>?_⟩
  ·rw[bG]
   obtain⟨o,ho⟩:=aJ.1 hd
   simp[ho]
  ·rw[bG,hnb]at hb
   have:=far (b:=b) (by simpa using hb)
   omega
 ·have:(fun b=>(H.only (aP e VS NS)).get b≠none)=aP e VS NS:=by funext b;exact propext (hge b)
  rw[this];exact hchk
 rintro q H' H1 ⟨a,VS',NS',rfl,hE',hsame,hnew⟩ hsub hafter hn2 -
 refine h a VS' NS' H1 _ (hE'.sub hsub) (fun b o hb=>?_) (fun d hd=>?_) (fun c hc=>?_)
 ·by_cases hS:aP e VS NS b
  ·refine hsub b o ?_
   rw[hsame b (by rw[bm hS,hb];simp),bm hS];exact hb
  ·rw[hafter.out b hS (by rw[hb];simp)];exact hb
 ·rcases hn2 d (hE'.mem hd)with h|h
  ·have:=hnew d hd
   rw[bm h]at this;exact this
  ·exact h
 ·rcases hc with hc|hc
  ·exact .inl ((hge c).1 hc)
  ·exact .inr hc
end
def jq:Nat->Nat
 |0=>5
 |d+1=>6+5*jq d
def gS:Nat->Nat
 |0=>20000
 |d+1=>20000+36*gS d
def BodyR(n c k:Nat)(N:Nat)(v:En)(p last:Int)(s:Int)(q:AC)(v':En)(p' last':Int):Prop:=
 (∃l:List St,q=.sl 15 none (l.map St.enc)/\l.length<=n/\bx l<=n*c/\∀x∈l,x.sm k)/\(v'.dr (N+n*c)/\v'.p=v.p/\v'.fn=v.fn)/\p<=p'/\p'<=p+s/\last<=last'/\last'<=last+s
def C2(P:Program)(F:Ids)(d:Nat):Prop:=∀(m r:Nat) (bs:List UInt8),bs.length<=2000->∀(v:En) (N:Nat),v.dr N->N+jq d<=2^19->∀p last:Int,0<=last->last+gS d<=2^40->0<=p->p+gS d<=2^50->
 MkC P F.s_l71Mk_stmt [.ptr m 0,I (d+1:Nat)] m r bs v p last (StR (jq d) d v p last (gS d))
def C9(P:Program)(F:Ids)(d:Nat):Prop:=∀(m r:Nat) (bs:List UInt8),bs.length<=2000->∀(v:En) (N n:Nat),v.dr N->n<=6->N+n*jq d<=2^19->∀p last:Int,0<=last->last+18*gS d<=2^40->0<=p->p+18*gS d<=2^50->
 MkC P F.s_l71Mk_body [.ptr m 0,I n,I (d+1:Nat)] m r bs v p last (BodyR n (jq d) (d+1) N v p last (18*gS d))
theorem En.dr.mono{v:En}{N M:Nat}(h:v.dr N)(hm:N<=M):v.dr M:=⟨h.ok,h.up,h.ne,bZ h.vl hm,bZ h.nl hm,h.p,h.pl,h.fn⟩
theorem En.dr.stmt{v:En}{N:Nat}(h:v.dr N){s:St}(hs:s.ok)(hn:s.nm)(hc:(v.stmt s).code=0)(hl:N+s.cnt<=2^20):(v.stmt s).dr (N+s.cnt):=by
 have st:=(En.stmt_step s.cnt).1 s (aC _) hs v h.ok (by have:=h.vl;omega) fun f hf=>(h.p f hf).1
 have up:=(tS hn hc).2 h.up
 refine⟨st.ok,up,by have:=h.ne;have:=st.lo;omega,by have:=h.vl;have:=st.hi;omega,by have:=h.nl;have:=st.names;omega,by rw[st.p];exact h.p,by rw[st.p];exact h.pl,by rw[st.p,st.fn];exact h.fn⟩
section
variable {P:Program}{F:Ids}
theorem xz(L:Lib P F)(d:Nat)(hd:d<=20)(hst:C2 P F d):C9 P F d:=by
 intro m r bs hbs v N n hv hn hN p last hl hl2 hp hp2 H e VS NS hM
 refine L.s_l71Mk_body (by simp[kF]) ?_
 generalize hc:jq d=c at*
 generalize hs:(gS d:Int)=s at*
 have hs0:0<=s:=by omega
 have w3:=aL (n:=3*(n:Int)) (by omega) (by omega)
 simp only[kF,go_sem,rE,rA]
 intro b11 hb11
 have hM1:=hM.new hb11 (.tail 0 0)
 have n11:=hM.notin hb11
 let J:Nat->Env->aj->Prop:=fun k E H=>∃(e':Nat) (v':En) (VS' NS':AC) (p' last':Int) (l:List St) (bt nt mt:Nat),cT H m r bs e' v' VS' NS' p' last'/\v'.dr (N+l.length*c)/\v'.p=v.p/\v'.fn=v.fn/\p<=p'/\p'<=p+k*s/\last<=last'/\last'<=last+k*s/\
  l.length<=n/\bx l<=l.length*c/\(∀x∈l,x.sm (d+1))/\H.get bt=some (.tail nt mt)/\¬cD m r e' VS' NS' bt/\E 0=.ptr m 0/\E 1=I n/\E 2=I (d+1:Nat)/\E 7=.sl 15 (some (bt,nt,mt)) (l.map St.enc)/\E 8=I k
 refine aT (3*n) J ⟨e,v,VS,NS,p,last,[],b11,0,0,hM1,by simpa using hv,rfl,rfl,dz _,by omega,dz _,by omega,by simp,by simp[eS],by simp,ai _ _ _,n11,rfl,rfl,rfl,rfl,rfl⟩ ?_
 clear hM hM1 hb11 n11
 rintro k E H hk ⟨e',v',VS',NS',p',last',l,bt,nt,mt,hM,hv',hvp,hvf,hp1,hp1',hl1,hl1',hln,hcl,hsm,gt,nX,e0,e1,e2,e7,e8⟩
 have hks:(k:Int)*s<=18*s:=Int.mul_le_mul_of_nonneg_right (by omega) hs0
 have hlc:l.length*c<=n*c:=bA _ hln
 by_cases h1:(k:Int)<3*n
 case neg=>
  simp only[go_sem,rE,rA,e1,e8,w3,h1,decide_false]
  refine ak (q':=.sl 15 none (l.map St.enc)) (by simp only[go_sem,rE];rw[e7];exact .tok _ _ _) (aj.sub_refl _) ⟨e',v',VS',NS',p',last',⟨⟨l,rfl,hln,by omega,hsm⟩,⟨hv'.mono (by omega),hvp,hvf⟩,hp1,by omega,hl1,by omega⟩,hM⟩
 by_cases h2:(l.length:Int)<n
 case neg=>
  simp only[go_sem,rE,rA,e1,e7,e8,w3,h1,h2,decide_true,decide_false,am]
  refine ak (q':=.sl 15 none (l.map St.enc)) (by simp only[go_sem,rE];exact .tok _ _ _) (aj.sub_refl _) ⟨e',v',VS',NS',p',last',⟨⟨l,rfl,hln,by omega,hsm⟩,⟨hv'.mono (by omega),hvp,hvf⟩,hp1,by omega,hl1,by omega⟩,hM⟩
 have hks1:(k:Int)*s+s<=18*s:=by
  have:((k:Int)+1)*s<=18*s:=Int.mul_le_mul_of_nonneg_right (by omega) hs0
  rw[Int.add_mul,Int.one_mul]at this;exact this
 have hkk:((k+1:Nat):Int)*s=k*s+s:=by rw[Int.natCast_succ,Int.add_mul,Int.one_mul]
 have hlc1:(l.length+1)*c<=n*c:=bA _ (by omega)
 have hlcc:(l.length+1)*c=l.length*c+c:=Nat.succ_mul _ _
 have w1:=aL (n:=(k:Int)+1) (by omega) (by omega)
 simp only[go_sem,rE,rA,e0,e1,e2,e7,e8,w3,h1,h2,decide_true,am]
 refine dQ (hst m r bs hbs v' (N+l.length*c) hv' (by omega) p' last' (by omega) (by omega) (by omega) (by omega)) hM (rfl) (.refl _) (by simp) trivial ?_
 rintro q e1' v1 VS1 NS1 p1 last1 H1 fp1 ⟨⟨st,rfl,hst1,hst2⟩,rfl,hq1,hq2,hq3,hq4⟩ hM1 hk1 -
 obtain⟨gt,nX⟩:=hk1 _ _ gt nX
 rw[hc]at hst1
 rw[hs]at hq2 hq4
 clear hk1 hM
 obtain⟨cs,hcs,C⟩:=stC st
 simp only[hcs,go_sem,rE,rA,C.len,rL]
 intro b9 hb9
 have n9:=hM1.notin hb9
 have dt9:=al gt hb9
 have hM2:=hM1.new hb9 (.cells cs)
 have g9:(H1.set b9 (.cells cs)).get b9=some (.cells cs):=ai _ _ _
 have gt:(H1.set b9 (.cells cs)).get bt=some (.tail nt mt):=by rw[ae _ _ dt9];exact gt
 simp only[go_sem,rE,rA,C.len,C.all,rL]
 refine ao (Ck L (d+1) (by omega) (by omega) st (by omega)) (by simp only[go_sem,rE,hcs,e2]) ?_
 have skip:∀(E':Env) (H':aj),cT H' m r bs e1' v1 VS1 NS1 p1 last1->H'.get bt=some (.tail nt mt)->E' 0=.ptr m 0->E' 1=I n->E' 2=I (d+1:Nat)->E' 7=.sl 15 (some (bt,nt,mt)) (l.map St.enc)->E' 8=I (k+1:Nat)->k<3*n/\∃H'',aj.sub H'' H'/\J (k+1) E' H'':=
  fun E' H' hM gt h0 h1 h2 h7 h8=>⟨by omega,H',aj.sub_refl _,e1',v1,VS1,NS1,p1,last1,l,bt,nt,mt,hM,hv',hvp,hvf,by omega,by rw[hkk];omega,by omega,by rw[hkk];omega,hln,hcl,hsm,gt,nX,h0,h1,h2,h7,h8⟩
 cases hok:st.okB (d+1)
 ·simp only[go_sem,rE,rA,e8,w1]
  exact skip _ _ hM2 gt (e0) (e1) (e2) (e7) (rfl)
 obtain⟨sok,snm⟩:=St.okB_ok hok
 have hob:=hM2.obj
 have hE:=hM2.env
 have hdl:=hv'.vl
 have hdn:=hv'.nl
 have dpl:=hv'.pl
 have dfn:=hv'.fn
 simp only[go_sem,rE,rA,e0,hob]
 refine nP L hE (by omega) (by omega) (rfl) ?_
 intro a VSa NSa H3 fp3 hEa hs3 hnew
 have hM3:cT H3 m r bs e1' v1 VS1 NS1 p1 last1:=hM2.mono fun b hb=>by obtain⟨o,ho⟩:=aJ.1 (hM2.mem hb);rw[hs3 _ _ ho,ho]
 have dis:∀b,cD m r e1' VS1 NS1 b->¬aP a VSa NSa b:=fun b hb hb'=>hM2.mem hb (hnew b hb')
 have na9:¬aP a VSa NSa b9:=fun h=>by have:=hnew _ h;rw[g9]at this;simp at this
 have nat:¬aP a VSa NSa bt:=fun h=>by have:=hnew _ h;rw[gt]at this;simp at this
 have g9:=hs3 _ _ g9
 have gt:=hs3 _ _ gt
 clear hnew hs3 hM2 hE hob
 simp only[go_sem,rE,rA,g9,C.len,C.all,rL]
 refine bL (vF L st.cnt a st (aC _) sok v1 hv'.ok (by omega) (by omega) hv'.ne (fun f hf=>(hv'.p f hf).1) (by omega) (by omega)) hEa (by simp only[go_sem,rE,hcs]) (.refl _) (by simp) trivial ?_
 rintro q va VSa NSa H4 fp4 ⟨rfl,hva⟩ hEa hk4 -
 obtain⟨g9,na9⟩:=hk4 _ _ g9 na9
 obtain⟨gt,nat⟩:=hk4 _ _ gt nat
 have key:∀b,cD m r e1' VS1 NS1 b->H4.get b=H3.get b/\¬aP a VSa NSa b:=by
  intro b hb
  obtain⟨o,ho⟩:=aJ.1 (hM3.mem hb)
  obtain⟨h1,h2⟩:=hk4 b o ho (dis b hb)
  exact⟨by rw[h1,ho],h2⟩
 have hM4:cT H4 m r bs e1' v1 VS1 NS1 p1 last1:=hM3.mono fun b hb=>(key b hb).1
 have nam:=(key m (.inl rfl)).2
 have nar:=(key r (.inr (.inl rfl))).2
 clear hk4 hM3
 have hob:=hEa.obj
 simp only[cZ]at hob
 simp only[go_sem,rE,rA,hob]
 by_cases hcode:va.code=0
 ·have hcode':(va.code==0)=true:=by simpa using hcode
  have hom:=hM4.obj
  have dm9:b9≠m:=by rintro rfl;rw[hom]at g9;simp at g9;have:=C.len;rw[<-g9]at this;simp at this
  have dmt:bt≠m:=by rintro rfl;rw[hom]at gt;simp at gt
  simp only[go_sem,rE,rA,hcode',e0,hom,g9,dm9,Ne.symm dm9,e7,C.len,C.all,rL,ax,aq,az,bh]
  have gt5:(H4.set m (.cells [.ptr r 0,.ptr a 0,I last1])).get bt=some (.tail nt mt):=by rw[ae _ _ dmt];exact gt
  have hM5:cT (H4.set m (.cells [.ptr r 0,.ptr a 0,I last1])) m r bs a va VSa NSa p1 last1:=
   ⟨ai _ _ _,by rw[ae _ _ (Ne.symm hM4.mr)];exact hM4.rd,hEa.mono fun b hb=>ae _ _ (by rintro rfl;exact nam hb),hM4.mr,nam,nar⟩
  have nt5:¬cD m r a VSa NSa bt:=by
   rintro(h|h|h)
   ·exact dmt h
   ·rw[h,hM4.rd]at gt;simp[RdO]at gt
   ·exact nat h
  refine dV (es:=l.map St.enc) (ys:=[cs]) (by simp only[go_sem,rE,e7]) gt5 (by simp only[go_sem,rE]) (by simp[C.len]) (by simp;omega) ?_
  intro bt' nt' mt' H6 fp6 gt6 hk6 hbt6 _
  have hM6:cT H6 m r bs a va VSa NSa p1 last1:=hM5.mono fun b hb=>hk6 b (hM5.mem hb) (by rintro rfl;exact nt5 hb)
  have nt6:¬cD m r a VSa NSa bt':=by
   rcases hbt6 with rfl|h
   ·exact nt5
   ·exact hM5.notin h
  have hdr:=hv'.stmt sok snm (by rw[<-hva];exact hcode) (by omega)
  rw[<-hva]at hdr
  have hstep:=(En.stmt_step st.cnt).1 st (aC _) sok v1 hv'.ok (by omega) fun f hf=>(hv'.p f hf).1
  rw[<-hva]at hstep
  simp only[go_sem,rE,rA,e8,w1]
  refine⟨by omega,H6,aj.sub_refl _,a,va,VSa,NSa,p1,last1,l++[st],bt',nt',mt',hM6,hdr.mono (by simp;omega),hstep.p.trans hvp,hstep.fn.trans hvf,by omega,by rw[hkk];omega,by omega,by rw[hkk];omega,by simp;omega,?_,?_,gt6,nt6,e0,e1,e2,?_,rfl⟩
  ·have:bx (l++[st])=bx l+st.cnt:=by
    have:=kx (l++[st]) l.length
    rw[List.take_left',List.drop_left']at this
    ·rw[cY,eS]at this;omega
    all_goals rfl
   rw[this];simp;omega
  ·intro x hx
   rcases aF.1 hx with h|h
   ·exact hsm x h
   ·simp at h;rw[h];exact hst2
  ·simp only[go_sem,rE,bB,aS,bv,hcs]
 ·have hcode':(va.code==0)=false:=by simpa using hcode
  simp only[go_sem,rE,rA,hcode',e8,w1]
  exact skip _ _ hM4 gt (e0) (e1) (e2) (e7) (rfl)
end
theorem uw:∀d,20000<=gS d
 |0=>aC _
 |d+1=>by simp only[gS];omega
theorem Ca:∀d,5<=jq d
 |0=>aC _
 |d+1=>by simp only[jq];omega
theorem leLet(nm:ByteArray)(x:Ex):LeC ([I 1,S nm,S (bl []),NIL,S (bl []),NIL]++x.enc++[S (bl []),NIL,NIL,NIL]) (St.mk 1 nm P0 P0 x (bl []) [] [] []).enc:=by
 rw[St.enc_eq,Ex.enc_eq]
 exact⟨⟨.refl _,rfl⟩,⟨.refl _,rfl⟩,⟨.refl _,rfl⟩,⟨.nil 1,rfl⟩,⟨.refl _,rfl⟩,⟨.nil 1,rfl⟩,⟨.refl _,rfl⟩,⟨.refl _,rfl⟩,⟨.refl _,rfl⟩,⟨.refl _,rfl⟩,⟨.refl _,rfl⟩,⟨.refl _,rfl⟩,⟨.nil 8,rfl⟩,⟨.nil 15,rfl⟩,⟨.nil 15,rfl⟩,trivial⟩
theorem leLend(nm:ByteArray)(p:Pl):LeC [I 2,S nm,S p.name,au p.path,S (bl []),NIL,I 0,I 0,S (bl []),NIL,NIL,S (bl []),NIL,NIL,NIL] (St.mk 2 nm p P0 E0 (bl []) [] [] []).enc:=by
 rw[St.enc_eq]
 exact⟨⟨.refl _,rfl⟩,⟨.refl _,rfl⟩,⟨.refl _,rfl⟩,⟨.refl _,rfl⟩,⟨.refl _,rfl⟩,⟨.nil 1,rfl⟩,⟨.refl _,rfl⟩,⟨.refl _,rfl⟩,⟨.refl _,rfl⟩,⟨.nil 1,rfl⟩,⟨.nil 5,rfl⟩,⟨.refl _,rfl⟩,⟨.nil 8,rfl⟩,⟨.nil 15,rfl⟩,⟨.nil 15,rfl⟩,trivial⟩
theorem leSet(p:Pl)(x:Ex):LeC ([I 3,S (bl []),S p.name,au p.path,S (bl []),NIL]++x.enc++[S (bl []),NIL,NIL,NIL]) (St.mk 3 (bl []) p P0 x (bl []) [] [] []).enc:=by
 rw[St.enc_eq,Ex.enc_eq]
 exact⟨⟨.refl _,rfl⟩,⟨.refl _,rfl⟩,⟨.refl _,rfl⟩,⟨.refl _,rfl⟩,⟨.refl _,rfl⟩,⟨.nil 1,rfl⟩,⟨.refl _,rfl⟩,⟨.refl _,rfl⟩,⟨.refl _,rfl⟩,⟨.refl _,rfl⟩,⟨.refl _,rfl⟩,⟨.refl _,rfl⟩,⟨.nil 8,rfl⟩,⟨.nil 15,rfl⟩,⟨.nil 15,rfl⟩,trivial⟩
theorem leIf(x:Ex)(t l:List St):LeC ([I 5,S (bl []),S (bl []),NIL,S (bl []),NIL]++x.enc++[S (bl []),NIL,.sl 15 none (t.map St.enc),.sl 15 none (l.map St.enc)]) (St.mk 5 (bl []) P0 P0 x (bl []) [] t l).enc:=by
 rw[St.enc_eq,Ex.enc_eq]
 simp only[St.encs_map]
 exact⟨⟨.refl _,rfl⟩,⟨.refl _,rfl⟩,⟨.refl _,rfl⟩,⟨.nil 1,rfl⟩,⟨.refl _,rfl⟩,⟨.nil 1,rfl⟩,⟨.refl _,rfl⟩,⟨.refl _,rfl⟩,⟨.refl _,rfl⟩,⟨.refl _,rfl⟩,⟨.refl _,rfl⟩,⟨.refl _,rfl⟩,⟨.nil 8,rfl⟩,⟨.refl _,rfl⟩,⟨.refl _,rfl⟩,trivial⟩
section
variable {P:Program}{F:Ids}
theorem uI(L:Lib P F)(d:Nat)(hd:d<=20)(hbody:∀d',d=d'+1->C9 P F d'):C2 P F d:=by
 intro m r bs hbs v N hv hN p last hl hl2 hp hp2 H e VS NS hM
 have hsc:=uw d
 have hcc:=Ca d
 refine L.s_l71Mk_stmt (by simp[kA]) ?_
 simp only[kA,go_sem,rE,rA]
 intro b4 hb4
 have hM0:=hM.new hb4 (.cells [I 0,S (bl []),S (bl []),NIL,S (bl []),NIL,I 0,I 0,S (bl []),NIL,NIL,S (bl []),NIL,NIL,NIL])
 have n4:=hM.notin hb4
 have g4:(H.set b4 (.cells [I 0,S (bl []),S (bl []),NIL,S (bl []),NIL,I 0,I 0,S (bl []),NIL,NIL,S (bl []),NIL,NIL,NIL])).get b4=some (.cells [I 0,S (bl []),S (bl []),NIL,S (bl []),NIL,I 0,I 0,S (bl []),NIL,NIL,S (bl []),NIL,NIL,NIL]):=ai _ _ _
 generalize H.set b4 (.cells [I 0,S (bl []),S (bl []),NIL,S (bl []),NIL,I 0,I 0,S (bl []),NIL,NIL,S (bl []),NIL,NIL,NIL])=H0 at*
 clear hM hb4
 have fin:∀(E':Env) (H':aj) (cs:List AC) (st:St) (e':Nat) (VS' NS':AC) (p' last':Int),cT H' m r bs e' v VS' NS' p' last'->E' 4=.ptr b4 0->H'.get b4=some (.cells cs)->Le (.agg cs) (.agg st.enc)->cs.length=15->st.cnt<=jq d->st.sm (d+1)->p<=p'->p'<=p+gS d->last<=last'->last'<=last+gS d->
  (aD.post [.cell 4 (some 15)] (fun q H'=>∃e' v' VS' NS' p' last',StR (jq d) d v p last (gS d) q v' p' last'/\cT H' m r bs e' v' VS' NS' p' last')) .ret E' H':=by
  intro E' H' cs st e' VS' NS' p' last' hM e4 g4 hle hlen hc hs h1 h2 h3 h4
  exact bY (q':=.agg st.enc) (off:=0) e4 g4 (by simp[fM,hlen,cF (Nat.le_of_eq hlen)]) hle (aj.sub_refl _) ⟨e',v,VS',NS',p',last',⟨⟨st,rfl,hc,hs⟩,rfl,h1,h2,h3,h4⟩,hM⟩
 have hom:=hM0.obj
 have hmr:=hM0.mr
 simp only[go_sem,rE,rA,hom]
 refine bg (cH L r bs p 5 hbs hp (by omega)) (rfl) hM0.rd (by simp) trivial ?_
 rintro q p1 hp1 hp1' ⟨k1,rfl,hk10,hk11⟩
 have d4r:b4≠r:=fun h=>n4 (.inr (.inl h))
 have hM1:=hM0.setR p1
 have g4:(H0.set r (RdO bs p1)).get b4=_:=(ae _ _ d4r).trans g4
 generalize H0.set r (RdO bs p1)=H1 at*
 clear hM0 hom
 by_cases hk1:k1=0
 ·simp only[hk1,go_sem,rE,rA,aH]
  refine dQ (Cf L m r bs hbs v hv.ok p1 last hl (by omega) (by omega) (by omega)) hM1 (rfl) (.refl _) (by simp) trivial ?_
  rintro q e2 v2 VS2 NS2 p2 last2 H2 fp2 ⟨⟨st,rfl,hst1,hst2⟩,rfl,h1,h2,h3,h4⟩ hM2 hk2 -
  obtain⟨g4,n4⟩:=hk2 _ _ g4 n4
  obtain⟨cs,hcs,C⟩:=stC st
  simp only[hcs,go_sem,rE,rA,g4,C.len,rL]
  exact fin _ _ cs st e2 VS2 NS2 p2 last2 (hM2.put n4 _) (rfl) (ai _ _ _) (by rw[hcs];exact .refl _) C.len (by omega) (hst2.up (by omega)) (by omega) (by omega) (by omega) (by omega)
 have hk1':(k1==0)=false:=by simpa using hk1
 have hom:=hM1.obj
 simp only[hk1',go_sem,rE,rA,hom]
 refine bg (cH L r bs p1 12 hbs (by omega) (by omega)) (rfl) hM1.rd (by simp) trivial ?_
 rintro q p2 hp2' hp2'' ⟨k2,rfl,hk20,hk21⟩
 have hM2:=hM1.setR p2
 have g4:(H1.set r (RdO bs p2)).get b4=_:=(ae _ _ d4r).trans g4
 generalize H1.set r (RdO bs p2)=H2 at*
 clear hM1 hom
 have dmr:m≠b4:=fun h=>n4 (.inl h.symm)
 have sLet:∀(E:Env),E 0=.ptr m 0->E 4=.ptr b4 0->∀A:Env->aj->Prop,aX.wp P (kd20 F) (cL.inBlock 0 (cL.then A (aD.post [.cell 4 (some 15)] (fun q H'=>∃e' v' VS' NS' p' last',StR (jq d) d v p last (gS d) q v' p' last'/\cT H' m r bs e' v' VS' NS' p' last')))) E H2:=by
  intro E e0 e4 A
  rw[kd20]
  have hom:=hM2.obj
  simp only[go_sem,rE,rA,e0,hom]
  refine⟨?_,?_⟩
  ·refine dQ (R:=wL v p2 last) (oo L m r bs v p2 last hl (by omega)) hM2 (rfl) (.refl _) (fun _=>⟨S (bl []),v,p2,last+1,⟨_,rfl⟩,rfl,rfl,rfl⟩) (by simp[dS]) ?_
   rintro q e3 v3 VS3 NS3 p3 last3 H3 fp3 ⟨⟨nm,rfl⟩,rfl,rfl,rfl⟩ hM3 hk3 -
   obtain⟨g4,n4⟩:=hk3 _ _ g4 n4
   have hom:=hM3.obj
   simp only[go_sem,rE,rA,e0,hom]
   refine bg (ky L r bs hbs 3 3 (by omega) (by omega) p3 (by omega) (by simp[eQ];omega)) (rfl) hM3.rd (fun _=>⟨by simp[eQ],_,.mk [],rfl,by simp[Ty.le]⟩) (by simp[dS]) ?_
   rintro q p4 hp4 hp4' ⟨t,rfl,ht⟩
   simp only[eQ]at hp4'
   have hM4:=hM3.setR p4
   have g4:(H3.set r (RdO bs p4)).get b4=_:=(ae _ _ d4r).trans g4
   generalize H3.set r (RdO bs p4)=H4 at*
   refine dQ (jK L m r bs hbs v3 hv.ok (last+1) 3 (by omega) t 3 ⟨3,by omega,ht⟩ (by omega) (by omega) p4 (by omega) (by simp[ew];omega)) hM4 (rfl) (.refl _) (fun _=>gv _ _ _ _ (by simp[ew])) (by simp[dS]) ?_
   rintro q e5 v5 VS5 NS5 p5 last5 H5 fp5 ⟨⟨x,rfl,hx,hxsm⟩,rfl,hp5,hp5',rfl⟩ hM5 hk5 -
   simp only[ew]at hp5'
   obtain⟨g4,n4⟩:=hk5 _ _ g4 n4
   simp only[go_sem,rE,rA,e4,Ex.enc_eq x,g4,rL]
   obtain⟨c1,c2⟩:=mJ 1 nm P0 P0 x hxsm
   exact fin _ _ _ (.mk 1 nm P0 P0 x (bl []) [] [] []) e5 VS5 NS5 p5 (last+1) (hM5.put n4 _) (e4) (ai _ _ _) (by have:=leLet nm x;rw[Ex.enc_eq x]at this;exact .agg this) rfl (by omega) (c2.up (by omega)) (by omega) (by omega) (by omega) (by omega)
  ·refine dQ (R:=wL v p2 last) (oo L m r bs v p2 last hl (by omega)) hM2 (by simp only[go_sem,rE,e0]) (.refl _) (fun _=>⟨S (bl []),v,p2,last+1,⟨_,rfl⟩,rfl,rfl,rfl⟩) (by simp[dS]) ?_
   rintro q e3 v3 VS3 NS3 p3 last3 H3 fp3 ⟨⟨nm,rfl⟩,rfl,rfl,rfl⟩ hM3 hk3 -
   obtain⟨g4,n4⟩:=hk3 _ _ g4 n4
   refine bg (ky L r bs hbs 3 3 (by omega) (by omega) p3 (by omega) (by simp[eQ];omega)) (rfl) hM3.rd (fun _=>⟨by simp[eQ],_,.mk [],rfl,by simp[Ty.le]⟩) (by simp[dS]) ?_
   rintro q p4 hp4 hp4' ⟨t,rfl,ht⟩
   simp only[eQ]at hp4'
   have hM4:=hM3.setR p4
   have g4:(H3.set r (RdO bs p4)).get b4=_:=(ae _ _ d4r).trans g4
   generalize H3.set r (RdO bs p4)=H4 at*
   refine dQ (jK L m r bs hbs v3 hv.ok (last+1) 3 (by omega) t 3 ⟨3,by omega,ht⟩ (by omega) (by omega) p4 (by omega) (by simp[ew];omega)) hM4 (rfl) (.refl _) (fun _=>gv _ _ _ _ (by simp[ew])) (by simp[dS]) ?_
   rintro q e5 v5 VS5 NS5 p5 last5 H5 fp5 ⟨⟨x,rfl,hx,hxsm⟩,rfl,hp5,hp5',rfl⟩ hM5 hk5 -
   simp only[ew]at hp5'
   obtain⟨g4,n4⟩:=hk5 _ _ g4 n4
   simp only[go_sem,rE,rA,e4,Ex.enc_eq x,g4,rL]
   obtain⟨c1,c2⟩:=mJ 1 nm P0 P0 x hxsm
   exact fin _ _ _ (.mk 1 nm P0 P0 x (bl []) [] [] []) e5 VS5 NS5 p5 (last+1) (hM5.put n4 _) (e4) (ai _ _ _) (by have:=leLet nm x;rw[Ex.enc_eq x]at this;exact .agg this) rfl (by omega) (c2.up (by omega)) (by omega) (by omega) (by omega) (by omega)
 have sLend:∀(E:Env),E 0=.ptr m 0->E 4=.ptr b4 0->∀A:Env->aj->Prop,aX.wp P (kd21 F) (cL.inBlock 0 (cL.then A (aD.post [.cell 4 (some 15)] (fun q H'=>∃e' v' VS' NS' p' last',StR (jq d) d v p last (gS d) q v' p' last'/\cT H' m r bs e' v' VS' NS' p' last')))) E H2:=by
  intro E e0 e4 A
  rw[kd21]
  simp only[go_sem,rE,rA,e0]
  refine dQ (iy L m r bs hbs v hv.ok p2 last (by omega) (by omega)) hM2 (rfl) (.refl _) (by simp) trivial ?_
  rintro q e3 v3 VS3 NS3 p3 last3 H3 fp3 ⟨⟨pa,u,rfl,hpa,hu⟩,rfl,hp3,hp3',rfl⟩ hM3 hk3 -
  obtain⟨g4,n4⟩:=hk3 _ _ g4 n4
  simp only[go_sem,rE,rA,Ty.enc_eq u,Pl.enc]
  intro b5 hb5 b6 hb6
  have hb6':=vu hb6 (.cells [S pa.name,au pa.path])
  obtain⟨stay,ga,gb,d56⟩:=oB (c:=.cells [S pa.name,au pa.path]) (c':=.cells [.sl 1 none (Ty.encs u.kids)]) hb5 hb6'
  have hM4:=(hM3.new hb5 (.cells [S pa.name,au pa.path])).new hb6' (.cells [.sl 1 none (Ty.encs u.kids)])
  have n5:=hM3.notin hb5
  have g4:=stay g4
  simp only[go_sem,rE,rA,d56,Ne.symm d56,mU d56]
  generalize((H3.set b5 (.cells [S pa.name,au pa.path])).set b6 (.cells [.sl 1 none (Ty.encs u.kids)]))=H4 at*
  refine dQ (R:=wL v3 p3 last3) (oo L m r bs v3 p3 last3 hl (by omega)) hM4 (by simp only[go_sem,rE,e0]) (.refl _) (fun _=>⟨S (bl []),v3,p3,last3+1,⟨_,rfl⟩,rfl,rfl,rfl⟩) (by simp[dS]) ?_
  rintro q e5 v5 VS5 NS5 p5 last5 H5 fp5 ⟨⟨nm,rfl⟩,rfl,rfl,rfl⟩ hM5 hk5 hf5
  obtain⟨g4,n4⟩:=hk5 _ _ g4 n4
  have nf5:¬fp5 b5:=fun h=>by
   rcases hf5 _ h with h|h
   ·exact n5 h
   ·rw[ga]at h;simp at h
  obtain⟨ga,n5⟩:=hk5 _ _ ga n5
  simp only[go_sem,rE,rA,rL,e0,e4,ga,g4,rL]
  refine⟨by simp;exact nf5,?_⟩
  obtain⟨c1,c2⟩:=mJ 2 nm pa P0 E0 xU
  exact fin _ _ _ (.mk 2 nm pa P0 E0 (bl []) [] [] []) e5 VS5 NS5 p5 (last3+1) (hM5.put n4 _) (e4) (ai _ _ _) (.agg (leLend nm pa)) rfl (by omega) (c2.up (by omega)) (by omega) (by omega) (by omega) (by omega)
 have sSet:∀(E:Env),E 0=.ptr m 0->E 4=.ptr b4 0->∀A:Env->aj->Prop,aX.wp P (kd22 F) (cL.inBlock 0 (cL.then A (aD.post [.cell 4 (some 15)] (fun q H'=>∃e' v' VS' NS' p' last',StR (jq d) d v p last (gS d) q v' p' last'/\cT H' m r bs e' v' VS' NS' p' last')))) E H2:=by
  intro E e0 e4 A
  rw[kd22]
  simp only[go_sem,rE,rA,e0]
  refine dQ (iy L m r bs hbs v hv.ok p2 last (by omega) (by omega)) hM2 (rfl) (.refl _) (by simp) trivial ?_
  rintro q e3 v3 VS3 NS3 p3 last3 H3 fp3 ⟨⟨pa,u,rfl,hpa,hu⟩,rfl,hp3,hp3',rfl⟩ hM3 hk3 -
  obtain⟨g4,n4⟩:=hk3 _ _ g4 n4
  simp only[go_sem,rE,rA,Ty.enc_eq u,Pl.enc]
  intro b5 hb5 b6 hb6
  have hb6':=vu hb6 (.cells [S pa.name,au pa.path])
  obtain⟨stay,ga,gb,d56⟩:=oB (c:=.cells [S pa.name,au pa.path]) (c':=.cells [.sl 1 none (Ty.encs u.kids)]) hb5 hb6'
  have hM4:=(hM3.new hb5 (.cells [S pa.name,au pa.path])).new hb6' (.cells [.sl 1 none (Ty.encs u.kids)])
  have n5:=hM3.notin hb5
  have g4:=stay g4
  simp only[go_sem,rE,rA,d56,Ne.symm d56,mU d56]
  generalize((H3.set b5 (.cells [S pa.name,au pa.path])).set b6 (.cells [.sl 1 none (Ty.encs u.kids)]))=H4 at*
  simp only[go_sem,rE,rA,e0,ga,gb,rL]
  refine dQ (jK L m r bs hbs v3 hv.ok last3 3 (by omega) u 3 hu (by omega) (by omega) p3 (by omega) (by simp[ew];omega)) hM4 (by simp only[go_sem,rE,Ty.enc_eq u]) (.refl _) (fun _=>gv _ _ _ _ (by simp[ew])) (by simp[dS];exact n5) ?_
  rintro q e5 v5 VS5 NS5 p5 last5 H5 fp5 ⟨⟨x,rfl,hx,hxsm⟩,rfl,hp5,hp5',rfl⟩ hM5 hk5 -
  simp only[ew]at hp5'
  obtain⟨g4,n4⟩:=hk5 _ _ g4 n4
  simp only[go_sem,rE,rA,e4,Ex.enc_eq x,g4,rL]
  obtain⟨c1,c2⟩:=mJ 3 (bl []) pa P0 x hxsm
  exact fin _ _ _ (.mk 3 (bl []) pa P0 x (bl []) [] [] []) e5 VS5 NS5 p5 last5 (hM5.put n4 _) (e4) (ai _ _ _) (by have:=leSet pa x;rw[Ex.enc_eq x]at this;exact .agg this) rfl (by omega) (c2.up (by omega)) (by omega) (by omega) (by omega) (by omega)
 have sCall:∀(E:Env),E 0=.ptr m 0->E 4=.ptr b4 0->∀A:Env->aj->Prop,aX.wp P (kd23 F) (cL.inBlock 0 (cL.then A (aD.post [.cell 4 (some 15)] (fun q H'=>∃e' v' VS' NS' p' last',StR (jq d) d v p last (gS d) q v' p' last'/\cT H' m r bs e' v' VS' NS' p' last')))) E H2:=by
  intro E e0 e4 A
  rw[kd23]
  simp only[go_sem,rE,rA,e0]
  refine dQ (Cg L m r bs hbs v N hv p2 last hl (by omega) (by omega) (by omega)) hM2 (rfl) (.refl _) (by simp) trivial ?_
  rintro q e3 v3 VS3 NS3 p3 last3 H3 fp3 ⟨⟨st,rfl,hst1,hst2⟩,rfl,h1,h2,h3,h4⟩ hM3 hk3 -
  obtain⟨g4,n4⟩:=hk3 _ _ g4 n4
  obtain⟨cs,hcs,C⟩:=stC st
  simp only[hcs,go_sem,rE,rA,e4,g4,C.len,rL]
  exact fin _ _ cs st e3 VS3 NS3 p3 last3 (hM3.put n4 _) (e4) (ai _ _ _) (by rw[hcs];exact .refl _) C.len (by omega) (hst2.up (by omega)) (by omega) (by omega) (by omega) (by omega)
 have sSet2:∀(E:Env),E 0=.ptr m 0->E 4=.ptr b4 0->∀A:Env->aj->Prop,aX.wp P (kd24 F) (cL.then A (aD.post [.cell 4 (some 15)] (fun q H'=>∃e' v' VS' NS' p' last',StR (jq d) d v p last (gS d) q v' p' last'/\cT H' m r bs e' v' VS' NS' p' last'))) E H2:=by
  intro E e0 e4 A
  rw[kd24]
  simp only[go_sem,rE,rA,e0]
  refine dQ (iy L m r bs hbs v hv.ok p2 last (by omega) (by omega)) hM2 (rfl) (.refl _) (by simp) trivial ?_
  rintro q e3 v3 VS3 NS3 p3 last3 H3 fp3 ⟨⟨pa,u,rfl,hpa,hu⟩,rfl,hp3,hp3',rfl⟩ hM3 hk3 -
  obtain⟨g4,n4⟩:=hk3 _ _ g4 n4
  simp only[go_sem,rE,rA,Ty.enc_eq u,Pl.enc]
  intro b5 hb5 b6 hb6
  have hb6':=vu hb6 (.cells [S pa.name,au pa.path])
  obtain⟨stay,ga,gb,d56⟩:=oB (c:=.cells [S pa.name,au pa.path]) (c':=.cells [.sl 1 none (Ty.encs u.kids)]) hb5 hb6'
  have hM4:=(hM3.new hb5 (.cells [S pa.name,au pa.path])).new hb6' (.cells [.sl 1 none (Ty.encs u.kids)])
  have n5:=hM3.notin hb5
  have g4:=stay g4
  simp only[go_sem,rE,rA,d56,Ne.symm d56,mU d56]
  generalize((H3.set b5 (.cells [S pa.name,au pa.path])).set b6 (.cells [.sl 1 none (Ty.encs u.kids)]))=H4 at*
  simp only[go_sem,rE,rA,e0,ga,gb,rL]
  refine dQ (jK L m r bs hbs v3 hv.ok last3 2 (by omega) u 2 hu (by omega) (by omega) p3 (by omega) (by simp[ew];omega)) hM4 (by simp only[go_sem,rE,Ty.enc_eq u]) (.refl _) (fun _=>gv _ _ _ _ (by simp[ew])) (by simp[dS];exact n5) ?_
  rintro q e5 v5 VS5 NS5 p5 last5 H5 fp5 ⟨⟨x,rfl,hx,hxsm⟩,rfl,hp5,hp5',rfl⟩ hM5 hk5 -
  simp only[ew]at hp5'
  obtain⟨g4,n4⟩:=hk5 _ _ g4 n4
  simp only[go_sem,rE,rA,e4,Ex.enc_eq x,g4,rL]
  obtain⟨c1,c2⟩:=mJ 3 (bl []) pa P0 x hxsm
  exact fin _ _ _ (.mk 3 (bl []) pa P0 x (bl []) [] [] []) e5 VS5 NS5 p5 last5 (hM5.put n4 _) (e4) (ai _ _ _) (by have:=leSet pa x;rw[Ex.enc_eq x]at this;exact .agg this) rfl (by omega) (c2.up (by omega)) (by omega) (by omega) (by omega) (by omega)
 have sIf:∀d',d=d'+1->∀(E:Env),E 0=.ptr m 0->E 1=I (d+1:Nat)->E 4=.ptr b4 0->aX.wp P (kd25 F) (aD.post [.cell 4 (some 15)] (fun q H'=>∃e' v' VS' NS' p' last',StR (jq d) d v p last (gS d) q v' p' last'/\cT H' m r bs e' v' VS' NS' p' last')) E H2:=by
  intro d' hdd E e0 e1 e4
  rw[kd25]
  have hbd:=hbody d' hdd
  have hcd:jq d=6+5*jq d':=by rw[hdd,jq]
  have hsd:gS d=20000+36*gS d':=by rw[hdd,gS]
  have hd1:((d+1:Nat):Int) - 1=((d'+1:Nat):Int):=by omega
  have w0:=aL (n:=((d+1:Nat):Int) - 1) (by omega) (by omega)
  rw[hd1]at w0
  have hscd:=uw d'
  simp only[go_sem,rE,rA,e0]
  refine dQ (as':=[.ptr m 0,.agg [NIL],I 3]) (jK L m r bs hbs v hv.ok last 3 (by omega) (.mk []) 3 dN (by omega) (by omega) p2 (by omega) (by simp[ew];omega)) hM2 (rfl) ⟨.refl _,ff,.refl _,trivial⟩ (by simp) trivial ?_
  rintro q e3 v3 VS3 NS3 p3 last3 H3 fp3 ⟨⟨x,rfl,hx,hxsm⟩,rfl,hp3,hp3',rfl⟩ hM3 hk3 -
  simp only[ew]at hp3'
  obtain⟨g4,n4⟩:=hk3 _ _ g4 n4
  simp only[go_sem,rE,rA,e4,Ex.enc_eq x,rL]
  intro b11 hb11
  have n11:=hM3.notin hb11
  have d411:=al g4 hb11
  let C:AC->AC->List AC:=fun t l=>[I 5,S (bl []),S (bl []),NIL,S (bl []),NIL,I x.kind,I x.num,S x.place.name,au x.place.path,.sl 5 none (Ex.encs x.kids),S (bl []),NIL,t,l]
  have hM4:=hM3.new hb11 (.cells (C NIL NIL))
  have g11:(H3.set b11 (.cells (C NIL NIL))).get b11=some (.cells (C NIL NIL)):=ai _ _ _
  have g4:(H3.set b11 (.cells (C NIL NIL))).get b4=_:=(ae _ _ d411).trans g4
  have hom:=hM4.obj
  simp only[C]at hom g11 g4 hM4
  simp only[go_sem,rE,rA,e0,Ex.enc_eq x,rL]
  generalize(H3.set b11 (.cells [I 5,S (bl []),S (bl []),NIL,S (bl []),NIL,I x.kind,I x.num,S x.place.name,au x.place.path,.sl 5 none (Ex.encs x.kids),S (bl []),NIL,NIL,NIL]))=H4 at*
  clear hM3 hb11 hk3
  simp only[go_sem,rE,rA,e0,hom]
  refine ux L hM4.env (by have:=hv.vl;omega) (by have:=hv.nl;omega) (rfl) (by simp[dS];exact hM4.nm) ?_
  intro a VSa NSa H5 fp5 hEa hs5 hnew hf5
  have hM5:cT H5 m r bs e3 v3 VS3 NS3 p3 last3:=hM4.mono fun b hb=>by obtain⟨o,ho⟩:=aJ.1 (hM4.mem hb);rw[hs5 _ _ ho,ho]
  have old:∀{b o},H4.get b=some o->¬aP a VSa NSa b:=fun hb h=>by have:=hnew _ h;rw[hb]at this;simp at this
  have na4:=old g4
  have na11:=old g11
  have nam:=old hom
  have nar:=old hM4.rd
  have nae:∀b,aP e3 VS3 NS3 b->¬aP a VSa NSa b:=fun b hb h=>hM4.env.mem hb (hnew _ h)
  have g4:=hs5 _ _ g4
  have g11:=hs5 _ _ g11
  have nfm:¬fp5 m:=fun h=>by
   rcases hf5 _ h with h|h
   ·exact hM4.nm h
   ·rw[hom]at h;simp at h
  have hom:=hs5 _ _ hom
  clear hM4 hs5 hnew hf5 old
  simp only[go_sem,rE,rA,rL,e0,hom]
  refine⟨by simp;exact nfm,?_⟩
  intro b12 hb12
  have dm12:=al hom hb12
  have dr12:=al hM5.rd hb12
  have d412:=al g4 hb12
  have d1112:=al g11 hb12
  have hMx:cT (H5.set b12 (.cells [.ptr r 0,.ptr a 0,I last3])) b12 r bs a v3 VSa NSa p3 last3:=
   ⟨ai _ _ _,by rw[ae _ _ dr12];exact hM5.rd,hEa.new hb12 _,Ne.symm dr12,hEa.notin hb12,nar⟩
  have hMm:=hM5.new hb12 (.cells [.ptr r 0,.ptr a 0,I last3])
  have nme:¬aP e3 VS3 NS3 b12:=hM5.env.notin hb12
  have g4:(H5.set b12 (.cells [.ptr r 0,.ptr a 0,I last3])).get b4=_:=(ae _ _ d412).trans g4
  have g11:(H5.set b12 (.cells [.ptr r 0,.ptr a 0,I last3])).get b11=_:=(ae _ _ d1112).trans g11
  have hom:=hMm.obj
  generalize(H5.set b12 (.cells [.ptr r 0,.ptr a 0,I last3]))=H6 at*
  clear hM5 hEa hb12
  simp only[go_sem,rE,rA,e0,e1,hom]
  refine bg (cH L r bs p3 3 hbs (by omega) (by omega)) (rfl) hMx.rd (by simp) trivial ?_
  rintro q p7 hp7 hp7' ⟨k7,rfl,hk70,hk71⟩
  have hEm:bF (H6.set r (RdO bs p7)) e3 v3 VS3 NS3:=hMm.env.mono fun b hb=>ae _ _ (by rintro rfl;exact hMm.nr hb)
  have hMx:=hMx.setR p7
  have n4r:b4≠r:=d4r
  have n11r:b11≠r:=fun h=>n11 (.inr (.inl h))
  have g4:(H6.set r (RdO bs p7)).get b4=_:=(ae _ _ n4r).trans g4
  have g11:(H6.set r (RdO bs p7)).get b11=_:=(ae _ _ n11r).trans g11
  have hom:(H6.set r (RdO bs p7)).get m=_:=(ae _ _ hmr).trans hom
  have nm_:=hMm.nm
  have nr_:=hMm.nr
  generalize H6.set r (RdO bs p7)=H7 at*
  clear hMm
  have w7:=aL (n:=1+k7) (by omega) (by omega)
  have hk7n:1+k7=((1+k7.toNat:Nat):Int):=by omega
  have hkc:(1+k7.toNat)*jq d'<=3*jq d':=bA _ (by omega)
  simp only[go_sem,rE,rA,e0,e1,w7,hd1,w0]
  refine dQ (hbd b12 r bs hbs v3 N (1+k7.toNat) hv (by omega) (by omega) p7 last3 (by omega) (by omega) (by omega) (by omega)) hMx (by simp only[go_sem,rE,hk7n]) (.refl _) (by simp) trivial ?_
  rintro q a8 vx VSx NSx p8 lastx H8 fp8 ⟨⟨l1,rfl,hl1a,hl1b,hl1c⟩,⟨hvx,hvx2,hvx3⟩,hp8,hp8',hlx,hlx'⟩ hMx8 hk8 -
  have tx:∀{b},b≠b12->b≠r->¬aP a VSa NSa b->¬cD b12 r a VSa NSa b:=by
   rintro b h1 h2 h3 (h|h|h)
   ·exact h1 h
   ·exact h2 h
   ·exact h3 h
  obtain⟨g4,n4x⟩:=hk8 _ _ g4 (tx d412 n4r na4)
  obtain⟨g11,n11x⟩:=hk8 _ _ g11 (tx d1112 n11r na11)
  obtain⟨hom,nmx⟩:=hk8 _ _ hom (tx dm12 hmr nam)
  obtain⟨hEm,nex⟩:=hEm.keep hk8 fun b hb=>tx (by rintro rfl;exact nme hb) (by rintro rfl;exact nr_ hb) (nae _ hb)
  clear hk8 hMx
  simp only[go_sem,rE,rA,g11,rL]
  have hMx9:=hMx8.put n11x (.cells (C (.sl 15 none (l1.map St.enc)) NIL))
  have hEm9:bF (H8.set b11 (.cells (C (.sl 15 none (l1.map St.enc)) NIL))) e3 v3 VS3 NS3:=hEm.mono fun b hb=>ae _ _ (by rintro rfl;exact n11 (.inr (.inr hb)))
  have g49:(H8.set b11 (.cells (C (.sl 15 none (l1.map St.enc)) NIL))).get b4=_:=(ae _ _ d411).trans g4
  have d11m:m≠b11:=fun h=>n11 (.inl h.symm)
  have hom9:(H8.set b11 (.cells (C (.sl 15 none (l1.map St.enc)) NIL))).get m=_:=(ae _ _ d11m).trans hom
  have g119:(H8.set b11 (.cells (C (.sl 15 none (l1.map St.enc)) NIL))).get b11=_:=ai _ _ _
  clear g4 g11 hom hEm hMx8
  simp only[C]at hMx9 hEm9 g49 hom9 g119
  generalize(H8.set b11 (.cells [I 5,S (bl []),S (bl []),NIL,S (bl []),NIL,I x.kind,I x.num,S x.place.name,au x.place.path,.sl 5 none (Ex.encs x.kids),S (bl []),NIL,.sl 15 none (l1.map St.enc),NIL]))=H9 at*
  have hx9:=hMx9.obj
  simp only[go_sem,rE,rA,e0,hom9]
  refine ux L hEm9 (by have:=hv.vl;omega) (by have:=hv.nl;omega) (rfl) (by simp[dS];exact nm_) ?_
  intro a2 VSb NSb H10 fp10 hEb hs10 hnew hf10
  have hEm10:bF H10 e3 v3 VS3 NS3:=hEm9.sub hs10
  have old:∀{b o},H9.get b=some o->¬aP a2 VSb NSb b:=fun hb h=>by have:=hnew _ h;rw[hb]at this;simp at this
  have na4:=old g49
  have na11:=old g119
  have nam:=old hom9
  have nar:=old hMx9.rd
  have nae:∀b,aP e3 VS3 NS3 b->¬aP a2 VSb NSb b:=fun b hb h=>hEm9.mem hb (hnew _ h)
  have hr10:=hs10 _ _ hMx9.rd
  have g4:=hs10 _ _ g49
  have g11:=hs10 _ _ g119
  have nfm:¬fp10 m:=fun h=>by
   rcases hf10 _ h with h|h
   ·exact nm_ h
   ·rw[hom9]at h;simp at h
  have nfx:¬fp10 b12:=fun h=>by
   rcases hf10 _ h with h|h
   ·exact nme h
   ·rw[hx9]at h;simp at h
  have hx10:=hs10 _ _ hx9
  have hom:=hs10 _ _ hom9
  clear hEm9 hMx9 hs10 hnew hf10 old g49 g119 hom9 hx9
  simp only[go_sem,rE,rA,rL,e0,hom,hx10]
  refine⟨by simp;exact nfx,?_⟩
  intro b13 hb13
  have dm13:=al hom hb13
  have dr13:=al hr10 hb13
  have d413:=al g4 hb13
  have d1113:=al g11 hb13
  have hMy:cT (H10.set b13 (.cells [.ptr r 0,.ptr a2 0,I lastx])) b13 r bs a2 v3 VSb NSb p8 lastx:=
   ⟨ai _ _ _,by rw[ae _ _ dr13];exact hr10,hEb.new hb13 _,Ne.symm dr13,hEb.notin hb13,nar⟩
  have hEm:=hEm10.new hb13 (.cells [.ptr r 0,.ptr a2 0,I lastx])
  have nye:¬aP e3 VS3 NS3 b13:=hEm10.notin hb13
  have g4:(H10.set b13 (.cells [.ptr r 0,.ptr a2 0,I lastx])).get b4=_:=(ae _ _ d413).trans g4
  have g11:(H10.set b13 (.cells [.ptr r 0,.ptr a2 0,I lastx])).get b11=_:=(ae _ _ d1113).trans g11
  have hom:(H10.set b13 (.cells [.ptr r 0,.ptr a2 0,I lastx])).get m=_:=(ae _ _ dm13).trans hom
  generalize(H10.set b13 (.cells [.ptr r 0,.ptr a2 0,I lastx]))=H11 at*
  clear hEm10 hEb hb13 hx10
  simp only[go_sem,rE,rA,e0,e1,hom]
  refine bg (cH L r bs p8 3 hbs (by omega) (by omega)) (rfl) hMy.rd (by simp) trivial ?_
  rintro q p12 hp12 hp12' ⟨k12,rfl,hk120,hk121⟩
  have hEm:bF (H11.set r (RdO bs p12)) e3 v3 VS3 NS3:=hEm.mono fun b hb=>ae _ _ (by rintro rfl;exact nr_ hb)
  have hMy:=hMy.setR p12
  have g4:(H11.set r (RdO bs p12)).get b4=_:=(ae _ _ n4r).trans g4
  have g11:(H11.set r (RdO bs p12)).get b11=_:=(ae _ _ n11r).trans g11
  have hom:(H11.set r (RdO bs p12)).get m=_:=(ae _ _ hmr).trans hom
  generalize H11.set r (RdO bs p12)=H12 at*
  have hk12n:k12=((k12.toNat:Nat):Int):=by omega
  have hkc2:k12.toNat*jq d'<=2*jq d':=bA _ (by omega)
  simp only[go_sem,rE,rA,e0,e1,hd1,w0]
  refine dQ (hbd b13 r bs hbs v3 N k12.toNat hv (by omega) (by omega) p12 lastx (by omega) (by omega) (by omega) (by omega)) hMy (by simp only[go_sem,rE,<-hk12n]) (.refl _) (by simp) trivial ?_
  rintro q a13 vy VSy NSy p13 lasty H13 fp13 ⟨⟨l2,rfl,hl2a,hl2b,hl2c⟩,⟨hvy,hvy2,hvy3⟩,hp13,hp13',hly,hly'⟩ hMy13 hk13 -
  have ty:∀{b},b≠b13->b≠r->¬aP a2 VSb NSb b->¬cD b13 r a2 VSb NSb b:=by
   rintro b h1 h2 h3 (h|h|h)
   ·exact h1 h
   ·exact h2 h
   ·exact h3 h
  obtain⟨g4,n4y⟩:=hk13 _ _ g4 (ty d413 n4r na4)
  obtain⟨g11,n11y⟩:=hk13 _ _ g11 (ty d1113 n11r na11)
  obtain⟨hom,nmy⟩:=hk13 _ _ hom (ty dm13 hmr nam)
  obtain⟨hEm,ney⟩:=hEm.keep hk13 fun b hb=>ty (by rintro rfl;exact nye hb) (by rintro rfl;exact nr_ hb) (nae _ hb)
  clear hk13 hMy
  have hoy:=hMy13.obj
  have hry:=hMy13.rd
  have d13m:b13≠m:=fun h=>nmy (.inl h.symm)
  have d1311:b13≠b11:=fun h=>n11y (.inl h.symm)
  simp only[go_sem,rE,rA,e0,e4,g11,g4,hom,hoy,d13m,Ne.symm d13m,d1311,Ne.symm d1311,d11m,Ne.symm d11m,d411,Ne.symm d411,dmr,Ne.symm dmr,rL]
  have hMm:cT H13 m r bs e3 v3 VS3 NS3 p13 last3:=⟨hom,hry,hEm,hmr,nm_,nr_⟩
  refine fin _ _ _ (.mk 5 (bl []) P0 P0 x (bl []) [] l1 l2) e3 VS3 NS3 p13 lasty (((hMm.put n11 _).setL lasty).put n4 _) (e4) (ai _ _ _) (by have:=leIf x l1 l2;rw[Ex.enc_eq x]at this;exact .agg this) rfl ?_ (by rw[hdd];exact .mk hxsm (by simp) hl1c hl2c) (by omega) (by omega) (by omega) (by omega)
  rw[dy]
  simp[St.args,St.thn,St.els]
  omega
 have rest:∀(E:Env),E 0=.ptr m 0->E 1=I (d+1:Nat)->E 4=.ptr b4 0->aX.wp P (kd26 F) (aD.post [.cell 4 (some 15)] (fun q H'=>∃e' v' VS' NS' p' last',StR (jq d) d v p last (gS d) q v' p' last'/\cT H' m r bs e' v' VS' NS' p' last')) E H2:=by
  intro E e0 e1 e4
  rw[kd26]
  by_cases hd0:d=0
  ·have:((d+1:Nat):Int)<2:=by omega
   simp only[go_sem,rE,rA,e1,this,decide_true]
   exact sSet2 _ (by simp only[go_sem,rE,e0]) (by simp only[go_sem,rE,e4]) _
  ·have:¬((d+1:Nat):Int)<2:=by omega
   simp only[go_sem,rE,rA,e1,this,decide_false]
   exact sIf (d - 1) (by omega) _ (e0) (e1) (e4)
 have hk:k2=0\/k2=1\/k2=2\/k2=3\/k2=4\/k2=5\/k2=6\/k2=7\/k2=8\/k2=9\/k2=10\/k2=11:=by omega
 rcases hk with rfl|rfl|rfl|rfl|rfl|rfl|rfl|rfl|rfl|rfl|rfl|rfl
 all_goals simp only[go_sem,rE,rA,aH]
 ·exact sLet _ (by first|rfl|simp only[go_sem,rE]) (by first|rfl|simp only[go_sem,rE]) _
 ·exact sLend _ (by first|rfl|simp only[go_sem,rE]) (by first|rfl|simp only[go_sem,rE]) _
 ·exact sLend _ (by first|rfl|simp only[go_sem,rE]) (by first|rfl|simp only[go_sem,rE]) _
 ·exact sLend _ (by first|rfl|simp only[go_sem,rE]) (by first|rfl|simp only[go_sem,rE]) _
 ·exact sSet _ (by first|rfl|simp only[go_sem,rE]) (by first|rfl|simp only[go_sem,rE]) _
 ·exact sSet _ (by first|rfl|simp only[go_sem,rE]) (by first|rfl|simp only[go_sem,rE]) _
 ·exact sSet _ (by first|rfl|simp only[go_sem,rE]) (by first|rfl|simp only[go_sem,rE]) _
 ·exact sCall _ (by first|rfl|simp only[go_sem,rE]) (by first|rfl|simp only[go_sem,rE]) _
 ·exact sCall _ (by first|rfl|simp only[go_sem,rE]) (by first|rfl|simp only[go_sem,rE]) _
 ·exact sCall _ (by first|rfl|simp only[go_sem,rE]) (by first|rfl|simp only[go_sem,rE]) _
 ·exact rest _ (by first|rfl|simp only[go_sem,rE]) (by first|rfl|simp only[go_sem,rE]) (by first|rfl|simp only[go_sem,rE])
 ·exact rest _ (by first|rfl|simp only[go_sem,rE]) (by first|rfl|simp only[go_sem,rE]) (by first|rfl|simp only[go_sem,rE])
theorem uH(L:Lib P F):∀d,d<=20->C2 P F d
 |0,h=>uI L 0 h (by intro d' h;omega)
 |d+1,h=>uI L (d+1) h fun d' hd=>by
  have:d'=d:=by omega
  subst this
  exact xz L d' (by omega) (uH L d' (by omega))
theorem AB(L:Lib P F)(d:Nat)(h:d<=20):C9 P F d:=xz L d h (uH L d h)
end
def FC:Int:=10^12
structure Fu.good(f:Fu):Prop where
 okS:f.okS
 pars:0<f.params.length/\f.params.length<=4
 blen:f.body.length<=6
 body:bx f.body<=966
 sms:∀s∈f.body,s.sm 3
 says:f.says.sm
structure qk(H:aj)(r:Nat)(bs:List UInt8)(p:Int)(b4 b6:Nat)(c6:List AC):Prop where
 rd:H.get r=some (RdO bs p)
 z:H.get b4=some (.cells [S (bl []),NIL,B false,NIL,NIL,I 0,I 0,S (bl []),NIL,NIL,S (bl []),NIL])
 f:H.get b6=some (.cells c6)
theorem qk.mono{H H':aj}{r:Nat}{bs:List UInt8}{p:Int}{b4 b6:Nat}{c6:List AC}(h:qk H r bs p b4 b6 c6)(hk:∀d,(d=r\/d=b4\/d=b6)->H'.get d=H.get d):qk H' r bs p b4 b6 c6:=
 ⟨(hk r (.inl rfl)).trans h.rd,(hk b4 (.inr (.inl rfl))).trans h.z,(hk b6 (.inr (.inr rfl))).trans h.f⟩
theorem qk.new{H:aj}{r:Nat}{bs:List UInt8}{p:Int}{b4 b6:Nat}{c6:List AC}(h:qk H r bs p b4 b6 c6){b:Nat}(hb:H.get b=none)(o:cK):qk (H.set b o) r bs p b4 b6 c6:=
 h.mono fun d hd=>ae _ _ (by
  rintro rfl
  rcases hd with rfl|rfl|rfl
  ·rw[h.rd]at hb;simp at hb
  ·rw[h.z]at hb;simp at hb
  ·rw[h.f]at hb;simp at hb)
theorem uz{b m r e:Nat}{VS NS:AC}(h1:b≠m)(h2:b≠r)(h3:¬aP e VS NS b):¬cD m r e VS NS b:=by
 rintro(h|h|h)
 ·exact h1 h
 ·exact h2 h
 ·exact h3 h
theorem BS(f:Fu):∀x∈f.enc,x.one=true:=by
 rw[Fu.enc,Ty.enc_eq,Ex.enc_eq];simp[AC.one,au,Pl.enc]
theorem vX:∀p:List Fu,LeR (p.map Fu.enc) (p.map Fu.enc)
 |[]=>trivial
 |f::p=>⟨.refl (BS f),vX p⟩
theorem BJ(f:Fu){X T Bd s1 s2 s3 s4 s5 g1 g2:AC}(hX:Le X (.sl 3 none (f.params.map Pa.enc)))(hT:Le T (.sl 1 none (Ty.encs f.type.kids)))(hB:Le Bd (.sl 15 none (St.encs f.body)))(hs:LeC [s1,s2,s3,s4,s5] f.says.enc)(hg:LeC [g1,g2] f.gives.enc):
 LeC [S f.name,X,B f.lent,T,Bd,s1,s2,s3,s4,s5,g1,g2] f.enc:=by
 rw[Ex.enc_eq]at hs
 rw[Fu.enc,Ty.enc_eq f.type,Ex.enc_eq f.says]
 obtain⟨h1,h2,h3,h4,h5,-⟩:=hs
 obtain⟨h6,h7,-⟩:=hg
 exact⟨⟨.refl _,rfl⟩,⟨hX,rfl⟩,⟨.refl _,rfl⟩,⟨hT,rfl⟩,⟨hB,rfl⟩,h1,h2,h3,h4,h5,h6,h7,trivial⟩
theorem Br(p:Pg)(f:Fu)(hp:∀g∈p,g.okS/\g.params.length<=4)(hf:f.okS)(hpl:p.length<=4)(h1:1<=f.params.length)(h2:f.params.length<=4):(co (p++[f]) p.length).dr 4:=by
 have hst:co (p++[f]) p.length=(⟨p++[f],p.length,[],[],0⟩:En).givens f.params:=by simp[co]
 have hup:=rX (p++[f]) p.length
 rw[hst]at hup⊢
 obtain⟨g1,g2,g3,g4⟩:=lz f.params (⟨p++[f],p.length,[],[],0⟩:En)
 refine⟨⟨by rw[g3];simp;omega,fun x hx=>?_⟩,hup,by rw[g3];simp;omega,by rw[g3];simp;omega,by rw[g4];simp;omega,fun g hg=>?_,by rw[g1];simp;omega,by rw[g1,g2];simp⟩
 ·rw[g3]at hx
  simp at hx
  obtain⟨y,hy,rfl⟩:=hx
  exact⟨⟨by simp[Pa.vr],by simp[Pa.vr]⟩,(hf.params y hy).type⟩
 ·rw[g1]at hg
  simp at hg
  rcases hg with hg|rfl
  ·exact hp g hg
  ·exact⟨hf,h2⟩
section
variable {P:Program}{F:Ids}
theorem rh(L:Lib P F){K:Env->aj->Prop}{xs:List aN}{E:Env}{H:aj}{l:Lds}{f:Fps}{i:Nat}{args:List aI}{d:Option Nat}(p:Pg)(fn:Nat)(hfn:fn<p.length)(hpl:p.length<=2^20)(hpa:(p[fn]).params.length<=2^20){as':List AC}
(ha:args.map (aI.ev E)=as')(hle:LeA as' [.agg (Pg.enc p),I fn])
(h:∀a VS NS H1 fp,bF H1 a (co p fn) VS NS->H.sub H1->(∀d,aP a VS NS d->H.get d=none)->bw P false K xs (E.put d (.ptr a 0)) H1 l ((i,fp)::f)):
 bw P false K (⟨i,d,none,.eff (.call F.s_l3Start args),[]⟩::xs) E H l f:=by
 have h0:H.only (fun _=>False)=.empty:=aj.ext fun b=>by rw[cd (by simp)];rfl
 have hc:=c_start L p fn hfn hpl hpa
 rw[<-h0]at hc
 refine gH (fun _=>False) hc ha hle (by simp) trivial ?_
 rintro q H' H1 ⟨a,VS,NS,rfl,hE⟩ hsub hafter hnew -
 refine h a VS NS H1 _ (hE.sub hsub) (fun b o hb=>?_) (fun d hd=>?_)
 ·rw[hafter.out b (by simp) (by rw[hb];simp)];exact hb
 ·rcases hnew d (hE.mem hd)with h|h
  ·exact h.elim
  ·exact h
theorem fn_tail(L:Lib P F)(r:Nat)(bs:List UInt8)(hbs:bs.length<=2000)(nm:ByteArray)(ps:List Pa)(bd:List St)(v:En)(N:Nat)(hv:v.dr N)(hN:N<=2^19)(p:Int)(hp:0<=p)(hp2:p+FC<=2^50)
(hps:∀x∈ps,x.ok)(hpl:0<ps.length/\ps.length<=4)(hbl:bd.length<=6)(hbd:bx bd<=966)(hbs2:∀s∈bd,s.sm 3)(b4 b6 b10 e:Nat)(VS NS X:AC)(p1 last:Int)(E:Env)(H:aj)(hM:cT H b10 r bs e v VS NS p1 last)(d46:b4≠b6)
(g4:H.get b4=some (.cells [S (bl []),NIL,B false,NIL,NIL,I 0,I 0,S (bl []),NIL,NIL,S (bl []),NIL]))(g6:H.get b6=some (.cells [S nm,X,B false,NIL,.sl 15 none (bd.map St.enc),I 0,I 0,S (bl []),NIL,NIL,S (bl []),NIL]))(n4:¬cD b10 r e VS NS b4)(n6:¬cD b10 r e VS NS b6)
(e0:E 0=.ptr r 0)(e4:E 4=.ptr b4 0)(e6:E 6=.ptr b6 0)(e10:E 10=.ptr b10 0)(hX:Le X (.sl 3 none (ps.map Pa.enc)))(hp1:p<=p1)(hp1':p1<=p+10^11)(hl0:0<=last):
 aX.wp P (kd28 F) (aD.post [.cell 4 (some 12)] (RdR r bs p FC fun q=>∃f:Fu,q=.agg f.enc/\f.good)) E H:=by
 rw[kd28]
 simp only[FC]at hp2
 have fin:∀(E':Env) (H':aj) (c6:List AC) (f:Fu) (p':Int),H'.get r=some (RdO bs p')->E' 4=.ptr b4 0->b4≠r->LeC c6 f.enc->c6.length=12->f.good->p<=p'->p'<=p+FC->(aD.post [.cell 4 (some 12)] (RdR r bs p FC fun q=>∃f:Fu,q=.agg f.enc/\f.good)) .ret E' (H'.set b4 (.cells c6)):=by
  intro E' H' c6 f p' hr h4 hn hle hlen hg h1 h2
  exact bY (q':=.agg f.enc) (off:=0) h4 (ai _ _ _) (by simp[fM,hlen,cF (Nat.le_of_eq hlen)]) (.agg hle) (eO (by rw[ae _ _ (Ne.symm hn)];exact hr)) ⟨p',h1,h2,rfl,f,rfl,hg⟩
 have d4r:b4≠r:=fun h=>n4 (.inr (.inl h))
 have d6r:b6≠r:=fun h=>n6 (.inr (.inl h))
 have tail2:∀(E:Env) (H:aj) (e:Nat) (VS NS:AC) (p1 last:Int),cT H b10 r bs e v VS NS p1 last->H.get b4=some (.cells [S (bl []),NIL,B false,NIL,NIL,I 0,I 0,S (bl []),NIL,NIL,S (bl []),NIL])->H.get b6=some (.cells [S nm,X,B false,NIL,.sl 15 none (bd.map St.enc),I 0,I 0,S (bl []),NIL,NIL,S (bl []),NIL])->
  ¬cD b10 r e VS NS b4->¬cD b10 r e VS NS b6->E 0=.ptr r 0->E 4=.ptr b4 0->E 6=.ptr b6 0->E 10=.ptr b10 0->p<=p1->p1<=p+10^11+1000->0<=last->
  aX.wp P (kd27 F) (aD.post [.cell 4 (some 12)] (RdR r bs p FC fun q=>∃f:Fu,q=.agg f.enc/\f.good)) E H:=by
  intro E H e VS NS p1 last hM g4 g6 n4 n6 e0 e4 e6 e10 hp1 hp1' hl0
  rw[kd27]
  simp only[go_sem,rE,rA]
  let J:Nat->Env->aj->Prop:=fun k E H=>∃(e:Nat) (VS NS:AC) (p':Int) (T s1 s2 s3 s4 s5:AC),cT H b10 r bs e v VS NS p' last/\H.get b4=some (.cells [S (bl []),NIL,B false,NIL,NIL,I 0,I 0,S (bl []),NIL,NIL,S (bl []),NIL])/\H.get b6=some (.cells [S nm,X,B false,T,.sl 15 none (bd.map St.enc),s1,s2,s3,s4,s5,S (bl []),NIL])/\
   ¬cD b10 r e VS NS b4/\¬cD b10 r e VS NS b6/\p<=p'/\p'<=p+10^11+1000+5000*k/\E 0=.ptr r 0/\E 4=.ptr b4 0/\E 6=.ptr b6 0/\E 10=.ptr b10 0/\E 15=I k
  refine aT 6 J ⟨e,VS,NS,p1,_,_,_,_,_,_,hM,g4,g6,n4,n6,hp1,by omega,e0,e4,e6,e10,rfl⟩ ?_
  clear hM g4 g6 n4 n6 e0 e4 e6 e10
  rintro k E H hk ⟨e,VS,NS,p',T,s1,s2,s3,s4,s5,hM,g4,g6,n4,n6,hp1,hp1',e0,e4,e6,e10,e15⟩
  simp only[wp_seq,go_sem,rE,rA,e15]
  refine aG (fun hlt=>?_) (fun hge=>?_)
  ·have w1:=aL (n:=(k:Int)+1) (by omega) (by omega)
   simp only[go_sem,rE,rA,e0]
   refine bg (ky L r bs hbs 3 3 (by omega) (by omega) p' (by omega) (by simp[eQ];omega)) (rfl) hM.rd (by simp) trivial ?_
   rintro q p2 hp2 hp2' ⟨t,rfl,ht⟩
   simp only[eQ]at hp2'
   have hM2:=hM.setR p2
   have g4:(H.set r (RdO bs p2)).get b4=_:=(ae _ _ d4r).trans g4
   have g6:(H.set r (RdO bs p2)).get b6=_:=(ae _ _ d6r).trans g6
   generalize H.set r (RdO bs p2)=H2 at*
   clear hM
   simp only[go_sem,rE,rA,e6,e10,g6,Ty.enc_eq t,rL]
   have hM3:=hM2.put n6 (.cells [S nm,X,B false,.sl 1 none (Ty.encs t.kids),.sl 15 none (bd.map St.enc),s1,s2,s3,s4,s5,S (bl []),NIL])
   have g4:(H2.set b6 (.cells [S nm,X,B false,.sl 1 none (Ty.encs t.kids),.sl 15 none (bd.map St.enc),s1,s2,s3,s4,s5,S (bl []),NIL])).get b4=_:=(ae _ _ d46).trans g4
   have g6:(H2.set b6 (.cells [S nm,X,B false,.sl 1 none (Ty.encs t.kids),.sl 15 none (bd.map St.enc),s1,s2,s3,s4,s5,S (bl []),NIL])).get b6=_:=ai _ _ _
   generalize(H2.set b6 (.cells [S nm,X,B false,.sl 1 none (Ty.encs t.kids),.sl 15 none (bd.map St.enc),s1,s2,s3,s4,s5,S (bl []),NIL]))=H3 at*
   clear hM2
   refine dQ (jK L b10 r bs hbs v hv.ok last 3 (by omega) t 3 ⟨3,by omega,ht⟩ (by omega) (by omega) p2 (by omega) (by simp[ew];omega)) hM3 (by simp only[go_sem,rE,Ty.enc_eq t]) (.refl _) (by simp) trivial ?_
   rintro q e4' v4 VS4 NS4 p4 last4 H4 fp4 ⟨⟨x,rfl,hx,hxsm⟩,rfl,hp4,hp4',rfl⟩ hM4 hk4 -
   simp only[ew]at hp4'
   obtain⟨g4,n4⟩:=hk4 _ _ g4 n4
   obtain⟨g6,n6⟩:=hk4 _ _ g6 n6
   clear hk4 hM3
   have d106:b10≠b6:=fun h=>n6 (.inl h.symm)
   let C6:List AC:=[S nm,X,B false,.sl 1 none (Ty.encs t.kids),.sl 15 none (bd.map St.enc),I x.kind,I x.num,S x.place.name,au x.place.path,.sl 5 none (Ex.encs x.kids),S (bl []),NIL]
   have hM5:=hM4.put n6 (.cells C6)
   have g46:(H4.set b6 (.cells C6)).get b4=_:=(ae _ _ d46).trans g4
   have g66:(H4.set b6 (.cells C6)).get b6=some (.cells C6):=ai _ _ _
   simp only[C6]at hM5 g46 g66
   have ho4:=hM4.obj
   simp only[go_sem,rE,rA,e6,e10,g6,d106,ho4,Ex.enc_eq x,rL]
   generalize(H4.set b6 (.cells [S nm,X,B false,.sl 1 none (Ty.encs t.kids),.sl 15 none (bd.map St.enc),I x.kind,I x.num,S x.place.name,au x.place.path,.sl 5 none (Ex.encs x.kids),S (bl []),NIL]))=H5 at*
   clear hM4 g4 g6
   have hE5:=hM5.env
   refine nP L hE5 (by have:=hv.vl;omega) (by have:=hv.nl;omega) (rfl) ?_
   intro a VSa NSa H6 fp6 hEa hs6 hnew
   have dis:∀b,H5.get b≠none->¬aP a VSa NSa b:=fun b hb h=>hb (hnew _ h)
   have na6:=dis b6 (by rw[g66];simp)
   have na4:=dis b4 (by rw[g46];simp)
   have g6:=hs6 _ _ g66
   have g4:=hs6 _ _ g46
   have hM6:cT H6 b10 r bs e4' v4 VS4 NS4 p4 last4:=hM5.mono fun b hb=>by obtain⟨o,ho⟩:=aJ.1 (hM5.mem hb);rw[hs6 _ _ ho,ho]
   have nab:∀b,cD b10 r e4' VS4 NS4 b->¬aP a VSa NSa b:=fun b hb=>dis b (hM5.mem hb)
   clear hs6 hnew dis hM5 hE5 g46 g66
   simp only[go_sem,rE,rA,e6,g6,rL]
   refine bL (qc L a _ x (aC _) hx v4 hv.ok) hEa (by simp only[go_sem,rE,Ex.enc_eq x]) (.refl _) (fun _=>⟨_,_,rfl,rfl⟩) (by simp[dS]) ?_
   rintro q v7 VS7 NS7 H7 fp7 ⟨rfl,hv7⟩ hE7 hk7 hfp7
   have nf7:¬fp7 b6:=fun h=>(hfp7 b6 h).elim na6 (fun h=>by rw[g6]at h;simp at h)
   obtain⟨g6,na6⟩:=hk7 _ _ g6 na6
   obtain⟨g4,na4⟩:=hk7 _ _ g4 na4
   have key:∀b,cD b10 r e4' VS4 NS4 b->H7.get b=H6.get b/\¬aP a VS7 NS7 b:=by
    intro b hb
    obtain⟨o,ho⟩:=aJ.1 (hM6.mem hb)
    obtain⟨h1,h2⟩:=hk7 b o ho (nab b hb)
    exact⟨by rw[h1,ho],h2⟩
   have hM7:cT H7 b10 r bs e4' v4 VS4 NS4 p4 last4:=hM6.mono fun b hb=>(key b hb).1
   obtain⟨lk,wf1⟩:=En.expr_good x v4 hv.ok
   rw[<-hv7]at lk
   generalize(v4.expr x).2=t1 at*
   simp only[go_sem,rE,rA,e6,g6,jy,bf,cq,or_false,forall_eq,nf7,rL]
   refine bL (pZ L a v7 t1 t wf1) hE7 (by simp only[go_sem,rE,Ty.enc_eq t]) (.refl _) (fun _=>⟨_,_,rfl,rfl⟩) trivial ?_
   rintro q v8 VS8 NS8 H8 fp8 ⟨rfl,hv8⟩ hE8 hk8 -
   obtain⟨g6,na6⟩:=hk8 _ _ g6 na6
   obtain⟨g4,na4⟩:=hk8 _ _ g4 na4
   have key8:∀b,cD b10 r e4' VS4 NS4 b->H8.get b=H7.get b:=by
    intro b hb
    obtain⟨o,ho⟩:=aJ.1 (hM7.mem hb)
    obtain⟨h1,h2⟩:=hk8 b o ho (key b hb).2
    rw[h1,ho]
   have hM8:cT H8 b10 r bs e4' v4 VS4 NS4 p4 last4:=hM7.mono key8
   clear key key8 hk8 hk7 hM6 hM7
   have ho8:=hE8.obj
   simp only[cZ]at ho8
   simp only[go_sem,rE,rA,ho8]
   by_cases hc:v8.code=0
   ·have hc':(v8.code==0)=true:=by simpa using hc
    simp only[go_sem,rE,rA,hc',e4,e6,g4,g6,rL]
    refine fin _ _ _ ⟨nm,ps,false,t,bd,x,P0⟩ p4 hM8.rd (e4) d4r (BJ ⟨nm,ps,false,t,bd,x,P0⟩ hX (.refl _) (by rw[St.encs_map];exact .refl _) ?_ ⟨⟨.refl _,rfl⟩,⟨.nil 1,rfl⟩,trivial⟩) rfl ⟨⟨hps,⟨3,by omega,ht⟩⟩,hpl,hbl,hbd,hbs2,hxsm⟩ (by omega) (by simp only[FC];omega)
    rw[Ex.enc_eq x]
    exact⟨⟨.refl _,rfl⟩,⟨.refl _,rfl⟩,⟨.refl _,rfl⟩,⟨.refl _,rfl⟩,⟨.refl _,rfl⟩,trivial⟩
   ·have hc':(v8.code==0)=false:=by simpa using hc
    simp only[go_sem,rE,rA,hc',e15,w1]
    exact⟨by omega,_,aj.sub_refl _,e4',VS4,NS4,p4,_,_,_,_,_,_,hM8,g4,g6,n4,n6,by omega,by omega,e0,e4,e6,e10,rfl⟩
  ·simp only[go_sem,rE,rA,e4,e6,g4,g6,d46,rL]
   refine fin _ _ _ ⟨nm,ps,false,.mk [],bd,.mk 1 7 P0 [],P0⟩ p' ((ae _ _ (Ne.symm d6r)).trans hM.rd) (e4) d4r (BJ ⟨nm,ps,false,.mk [],bd,.mk 1 7 P0 [],P0⟩ hX (.nil 1) (by rw[St.encs_map];exact .refl _) ?_ ⟨⟨.refl _,rfl⟩,⟨.nil 1,rfl⟩,trivial⟩) rfl ⟨⟨hps,dN⟩,hpl,hbl,hbd,hbs2,.mk (by decide) (by simp)⟩ (by omega) (by simp only[FC];omega)
   rw[Ex.enc]
   exact⟨⟨.refl _,rfl⟩,⟨.refl _,rfl⟩,⟨.refl _,rfl⟩,⟨.nil 1,rfl⟩,⟨.nil 5,rfl⟩,trivial⟩
 simp only[go_sem,rE,rA,e0]
 refine bg (cH L r bs p1 2 hbs (by omega) (by omega)) (rfl) hM.rd (by simp) trivial ?_
 rintro q p2 hp2' hp2'' ⟨k1,rfl,hk10,hk11⟩
 have hM2:=hM.setR p2
 have g4:(H.set r (RdO bs p2)).get b4=_:=(ae _ _ d4r).trans g4
 have g6:(H.set r (RdO bs p2)).get b6=_:=(ae _ _ d6r).trans g6
 generalize H.set r (RdO bs p2)=H2 at*
 clear hM
 by_cases hk1:k1=0
 ·simp only[hk1,go_sem,rE,rA,aH]
  let J:Nat->Env->aj->Prop:=fun k E H=>∃(e:Nat) (VS NS:AC) (p':Int),cT H b10 r bs e v VS NS p' last/\H.get b4=some (.cells [S (bl []),NIL,B false,NIL,NIL,I 0,I 0,S (bl []),NIL,NIL,S (bl []),NIL])/\H.get b6=some (.cells [S nm,X,B false,NIL,.sl 15 none (bd.map St.enc),I 0,I 0,S (bl []),NIL,NIL,S (bl []),NIL])/\
   ¬cD b10 r e VS NS b4/\¬cD b10 r e VS NS b6/\p<=p'/\p'<=p+10^11+10+50*k/\E 0=.ptr r 0/\E 4=.ptr b4 0/\E 6=.ptr b6 0/\E 10=.ptr b10 0/\E 11=I k
  refine aT 8 J ⟨e,VS,NS,p2,hM2,g4,g6,n4,n6,by omega,by omega,e0,e4,e6,e10,rfl⟩ ?_
  clear hM2 g4 g6 n4 n6 e0 e4 e6 e10
  rintro k E H hk ⟨e,VS,NS,p',hM,g4,g6,n4,n6,hp1,hp1',e0,e4,e6,e10,e11⟩
  simp only[wp_seq,go_sem,rE,rA,e11]
  refine aG (fun hlt=>?_) (fun hge=>?_)
  ·have w1:=aL (n:=(k:Int)+1) (by omega) (by omega)
   simp only[go_sem,rE,rA,e10]
   refine dQ (iy L b10 r bs hbs v hv.ok p' last (by omega) (by omega)) hM (rfl) (.refl _) (by simp) trivial ?_
   rintro q e3 v3 VS3 NS3 p3 last3 H3 fp3 ⟨⟨pa,u,rfl,hpa,hu⟩,rfl,hp3,hp3',rfl⟩ hM3 hk3 -
   obtain⟨g4,n4⟩:=hk3 _ _ g4 n4
   obtain⟨g6,n6⟩:=hk3 _ _ g6 n6
   simp only[go_sem,rE,rA,Ty.enc_eq u,Pl.enc]
   intro b12 hb12 b13 hb13
   have hb13':=vu hb13 (.cells [S pa.name,au pa.path])
   obtain⟨stay,ga,gb,d56⟩:=oB (c:=.cells [S pa.name,au pa.path]) (c':=.cells [.sl 1 none (Ty.encs u.kids)]) hb12 hb13'
   have hM4:=(hM3.new hb12 (.cells [S pa.name,au pa.path])).new hb13' (.cells [.sl 1 none (Ty.encs u.kids)])
   have g4:=stay g4
   have g6:=stay g6
   simp only[go_sem,rE,rA,d56,Ne.symm d56,mU d56]
   generalize((H3.set b12 (.cells [S pa.name,au pa.path])).set b13 (.cells [.sl 1 none (Ty.encs u.kids)]))=H5 at*
   clear hk3 hM3 hb12 hb13 hb13' stay
   have ho5:=hM4.obj
   have hE5:=hM4.env
   simp only[go_sem,rE,rA,e10,ho5]
   refine nP L hE5 (by have:=hv.vl;omega) (by have:=hv.nl;omega) (rfl) ?_
   intro a VSa NSa H6 fp6 hEa hs6 hnew
   have dis:∀b,H5.get b≠none->¬aP a VSa NSa b:=fun b hb h=>hb (hnew _ h)
   have na6:=dis b6 (by rw[g6];simp)
   have na4:=dis b4 (by rw[g4];simp)
   have na12:=dis b12 (by rw[ga];simp)
   have na13:=dis b13 (by rw[gb];simp)
   have g6:=hs6 _ _ g6
   have g4:=hs6 _ _ g4
   have ga:=hs6 _ _ ga
   have gb:=hs6 _ _ gb
   have hM6:cT H6 b10 r bs e3 v3 VS3 NS3 p3 last3:=hM4.mono fun b hb=>by obtain⟨o,ho⟩:=aJ.1 (hM4.mem hb);rw[hs6 _ _ ho,ho]
   have nab:∀b,cD b10 r e3 VS3 NS3 b->¬aP a VSa NSa b:=fun b hb=>dis b (hM4.mem hb)
   clear hs6 hnew dis hM4 hE5 ho5
   simp only[go_sem,rE,rA,ga,rL]
   refine bL (e_use L a v3 hv.ok.len hv.ok.all pa (by omega)) hEa (by simp only[go_sem,rE,Pl.enc]) (.refl _) (by simp) trivial ?_
   rintro q v7 VS7 NS7 H7 fp7 ⟨rfl,hv7⟩ hE7 hk7 -
   obtain⟨g6,na6⟩:=hk7 _ _ g6 na6
   obtain⟨g4,na4⟩:=hk7 _ _ g4 na4
   obtain⟨ga,na12⟩:=hk7 _ _ ga na12
   obtain⟨gb,na13⟩:=hk7 _ _ gb na13
   have key:∀b,cD b10 r e3 VS3 NS3 b->H7.get b=H6.get b/\¬aP a VS7 NS7 b:=by
    intro b hb
    obtain⟨o,ho⟩:=aJ.1 (hM6.mem hb)
    obtain⟨h1,h2⟩:=hk7 b o ho (nab b hb)
    exact⟨by rw[h1,ho],h2⟩
   have hM7:cT H7 b10 r bs e3 v3 VS3 NS3 p3 last3:=hM6.mono fun b hb=>(key b hb).1
   have lk:v3.like v7:=hv7▸v3.use_like pa
   have hup7:Up v7.vars:=hv.up.core lk.vars
   have hok7:=lk.ok hv.ok
   have ho7:=hE7.obj
   simp only[cZ]at ho7
   have skip:∀(E':Env) (H':aj),cT H' b10 r bs e3 v3 VS3 NS3 p3 last3->H'.get b4=some (.cells [S (bl []),NIL,B false,NIL,NIL,I 0,I 0,S (bl []),NIL,NIL,S (bl []),NIL])->H'.get b6=some (.cells [S nm,X,B false,NIL,.sl 15 none (bd.map St.enc),I 0,I 0,S (bl []),NIL,NIL,S (bl []),NIL])->E' 0=.ptr r 0->E' 4=.ptr b4 0->E' 6=.ptr b6 0->E' 10=.ptr b10 0->E' 11=I (k+1:Nat)->k<8/\∃H'',aj.sub H'' H'/\J (k+1) E' H'':=
    fun E' H' hM g4 g6 h0 h4 h6 h10 h11=>⟨by omega,H',aj.sub_refl _,e3,VS3,NS3,p3,hM,g4,g6,n4,n6,by omega,by omega,h0,h4,h6,h10,h11⟩
   by_cases hc:v7.code=0
   ·have hc':(v7.code==0)=true:=by simpa using hc
    simp only[go_sem,rE,rA,ho7,hc',ga,rL]
    refine bL (uD L a v7 hok7.len (fun x hx=>(hok7.all x hx).1) hup7 pa) hE7 (by simp only[go_sem,rE,Pl.enc]) (.refl _) (by simp) trivial ?_
    rintro q v8 VS8 NS8 H8 fp8 ⟨rfl,hv8⟩ hE8 hk8 -
    obtain⟨g6,na6⟩:=hk8 _ _ g6 na6
    obtain⟨g4,na4⟩:=hk8 _ _ g4 na4
    obtain⟨ga,na12⟩:=hk8 _ _ ga na12
    obtain⟨gb,na13⟩:=hk8 _ _ gb na13
    have key8:∀b,cD b10 r e3 VS3 NS3 b->H8.get b=H7.get b:=by
     intro b hb
     obtain⟨o,ho⟩:=aJ.1 (hM7.mem hb)
     obtain⟨h1,h2⟩:=hk8 b o ho (key b hb).2
     rw[h1,ho]
    have hM8:cT H8 b10 r bs e3 v3 VS3 NS3 p3 last3:=hM7.mono key8
    clear key key8 hk8 hk7 hM6 hM7
    cases hout:v7.outside pa
    ·simp only[go_sem,rE,rA,e11,w1]
     exact skip _ _ hM8 g4 g6 (e0) (e4) (e6) (e10) (rfl)
    ·have d126:b12≠b6:=by rintro rfl;rw[ga]at g6;simp at g6
     have d136:b13≠b6:=by rintro rfl;rw[gb]at g6;simp at g6
     simp only[go_sem,rE,rA,e4,e6,g4,g6,ga,gb,d46,d126,d136,rL]
     refine fin _ _ _ ⟨nm,ps,true,u,bd,E0,pa⟩ p3 ((ae _ _ (Ne.symm d6r)).trans hM8.rd) (e4) d4r (BJ ⟨nm,ps,true,u,bd,E0,pa⟩ hX (.refl _) (by rw[St.encs_map];exact .refl _) ⟨⟨.refl _,rfl⟩,⟨.refl _,rfl⟩,⟨.refl _,rfl⟩,⟨.nil 1,rfl⟩,⟨.nil 5,rfl⟩,trivial⟩ ⟨⟨.refl _,rfl⟩,⟨.refl _,rfl⟩,trivial⟩) rfl ⟨⟨hps,hu⟩,hpl,hbl,hbd,hbs2,xU⟩ (by omega) (by simp only[FC];omega)
   ·have hc':(v7.code==0)=false:=by simpa using hc
    simp only[go_sem,rE,rA,ho7,hc',e11,w1]
    exact skip _ _ hM7 g4 g6 (e0) (e4) (e6) (e10) (rfl)
  ·simp only[go_sem,rE,rA]
   exact tail2 _ _ e VS NS p' last hM g4 g6 n4 n6 (e0) (e4) (e6) (e10) (by omega) (by omega) hl0
 ·have hk1':(k1==0)=false:=by simpa using hk1
  simp only[hk1',go_sem,rE,rA]
  exact tail2 _ _ e VS NS p2 last hM2 g4 g6 n4 n6 (e0) (e4) (e6) (e10) (by omega) (by omega) hl0
theorem c_l71Fn(L:Lib P F)(r:Nat)(bs:List UInt8)(hbs:bs.length<=2000)(pr:Pg)(hpr:∀g∈pr,g.okS/\g.params.length<=4)(hpl:pr.length<=3)(p:Int)(hp:0<=p)(hp2:p+FC<=2^50):
 bD P F.s_l71Fn [.ptr r 0,.agg (Pg.enc pr)] (one r (RdO bs p)) (RdR r bs p FC fun q=>∃f:Fu,q=.agg f.enc/\f.good):=by
 simp only[FC]at hp2
 refine L.s_l71Fn (by simp[qW]) ?_
 simp only[qW,go_sem,rE,rA,Pg.enc]
 intro b3 hb3 b4 hb4
 have hr3:r≠b3:=by rintro rfl;rw[bE]at hb3;simp at hb3
 have d34:b3≠b4:=pO hb4
 have hr4:r≠b4:=by rintro rfl;rw[ae _ _ hr3,bE]at hb4;simp at hb4
 have hk:pr.length=0\/pr.length=1\/pr.length=2\/pr.length=3:=by omega
 obtain⟨nm,hnm⟩:∃nm,[[S (bl [102,97])],[S (bl [102,98])],[S (bl [102,99])],[S (bl [102,100])],[S (bl [102,101])]][pr.length]?=some [S nm]:=by
  rcases hk with h|h|h|h<;>rw[h]<;>exact⟨_,rfl⟩
 simp only[go_sem,rE,rA,d34,Ne.symm d34,am,hnm,ax,aq,az,rL,bh]
 intro b6 hb6
 have hrd0:(((one r (RdO bs p)).set b3 (.cells [.sl 12 none (pr.map Fu.enc)])).set b4 (.cells [S (bl []),NIL,B false,NIL,NIL,I 0,I 0,S (bl []),NIL,NIL,S (bl []),NIL])).get r=some (RdO bs p):=by rw[ae _ _ hr4,ae _ _ hr3,bE]
 have hb30:(((one r (RdO bs p)).set b3 (.cells [.sl 12 none (pr.map Fu.enc)])).set b4 (.cells [S (bl []),NIL,B false,NIL,NIL,I 0,I 0,S (bl []),NIL,NIL,S (bl []),NIL])).get b3=some (.cells [.sl 12 none (pr.map Fu.enc)]):=by rw[ae _ _ d34,ai]
 have hb40:(((one r (RdO bs p)).set b3 (.cells [.sl 12 none (pr.map Fu.enc)])).set b4 (.cells [S (bl []),NIL,B false,NIL,NIL,I 0,I 0,S (bl []),NIL,NIL,S (bl []),NIL])).get b4=some (.cells [S (bl []),NIL,B false,NIL,NIL,I 0,I 0,S (bl []),NIL,NIL,S (bl []),NIL]):=ai _ _ _
 generalize(((one r (RdO bs p)).set b3 (.cells [.sl 12 none (pr.map Fu.enc)])).set b4 (.cells [S (bl []),NIL,B false,NIL,NIL,I 0,I 0,S (bl []),NIL,NIL,S (bl []),NIL]))=H0 at*
 have hr6:=al hrd0 hb6
 have d36:=al hb30 hb6
 have d46:=al hb40 hb6
 have A0:qk (H0.set b6 (.cells [S nm,NIL,B false,NIL,NIL,I 0,I 0,S (bl []),NIL,NIL,S (bl []),NIL])) r bs p b4 b6 [S nm,NIL,B false,NIL,NIL,I 0,I 0,S (bl []),NIL,NIL,S (bl []),NIL]:=
  ⟨(ae _ _ hr6).trans hrd0,(ae _ _ d46).trans hb40,ai _ _ _⟩
 have hb30:(H0.set b6 (.cells [S nm,NIL,B false,NIL,NIL,I 0,I 0,S (bl []),NIL,NIL,S (bl []),NIL])).get b3=_:=(ae _ _ d36).trans hb30
 generalize(H0.set b6 (.cells [S nm,NIL,B false,NIL,NIL,I 0,I 0,S (bl []),NIL,NIL,S (bl []),NIL]))=H1 at*
 clear hb3 hb4 hb6 hrd0 hb40
 refine bg (cH L r bs p 3 hbs hp (by omega)) (rfl) A0.rd (by simp) trivial ?_
 rintro q p1 hp1 hp1' ⟨k0,rfl,hk00,hk01⟩
 have A1:qk (H1.set r (RdO bs p1)) r bs p1 b4 b6 [S nm,NIL,B false,NIL,NIL,I 0,I 0,S (bl []),NIL,NIL,S (bl []),NIL]:=
  ⟨ai _ _ _,(ae _ _ (Ne.symm hr4)).trans A0.z,(ae _ _ (Ne.symm hr6)).trans A0.f⟩
 have hb30:(H1.set r (RdO bs p1)).get b3=_:=(ae _ _ (Ne.symm hr3)).trans hb30
 generalize H1.set r (RdO bs p1)=H2 at*
 clear A0
 have w1:=aL (n:=1+k0) (by omega) (by omega)
 obtain⟨n,hn⟩:∃n:Nat,1+k0=(n:Int):=⟨(1+k0).toNat,by omega⟩
 rw[hn]at w1
 simp only[go_sem,rE,rA,w1,hn]
 let J:Nat->Env->aj->Prop:=fun k E H=>∃(p':Int) (X:AC) (ps:List Pa),qk H r bs p' b4 b6 [S nm,X,B false,NIL,NIL,I 0,I 0,S (bl []),NIL,NIL,S (bl []),NIL]/\H.get b3=some (.cells [.sl 12 none (pr.map Fu.enc)])/\p<=p'/\p'<=p+1+20*k/\ps.length=k/\(∀x∈ps,x.ok)/\bR H 3 (ps.map Pa.enc) X/\
  E 0=.ptr r 0/\E 3=.ptr b3 0/\E 4=.ptr b4 0/\E 5=I pr.length/\E 6=.ptr b6 0/\E 7=I n/\E 8=I k
 refine aT n J ⟨p1,NIL,[],A1,hb30,hp1,by omega,rfl,by simp,.nil _ _,rfl,rfl,rfl,rfl,rfl,rfl,rfl⟩ ?_
 clear A1 hb30
 rintro k E H hk ⟨p',X,ps,A,g3,hq1,hq2,hps,hpok,hX,e0,e3,e4,e5,e6,e7,e8⟩
 simp only[wp_seq,go_sem,rE,rA,e7,e8]
 refine aG (fun hlt=>?_) (fun hge=>?_)
 ·have w2:=aL (n:=(k:Int)+1) (by omega) (by omega)
  have hkk:k=0\/k=1\/k=2:=by omega
  obtain⟨pn,hpn⟩:∃pn,[[S (bl [112])],[S (bl [113])],[S (bl [114])],[S (bl [115])]][k]?=some [S pn]:=by
   rcases hkk with h|h|h<;>rw[h]<;>exact⟨_,rfl⟩
  simp only[go_sem,rE,rA,e0,e6,e8,A.f,hpn,ax,aq,az,rL,bh]
  refine bg (cH L r bs p' 3 hbs (by omega) (by omega)) (rfl) A.rd (fun _=>⟨by omega,I 0,0,rfl,by omega,.inr rfl⟩) (by simp[dS];exact Ne.symm hr6) ?_
  rintro q p2 hp2 hp2' ⟨k2,rfl,hk20,hk21⟩
  have A2:qk (H.set r (RdO bs p2)) r bs p2 b4 b6 [S nm,X,B false,NIL,NIL,I 0,I 0,S (bl []),NIL,NIL,S (bl []),NIL]:=
   ⟨ai _ _ _,(ae _ _ (Ne.symm hr4)).trans A.z,(ae _ _ (Ne.symm hr6)).trans A.f⟩
  have g3:(H.set r (RdO bs p2)).get b3=_:=(ae _ _ (Ne.symm hr3)).trans g3
  have hX2:bR (H.set r (RdO bs p2)) 3 (ps.map Pa.enc) X:=hX.keepF fun d hd=>ae _ _ (by rintro rfl;obtain⟨n,m,h⟩:=hX.mem hd;rw[A.rd]at h;simp[RdO]at h)
  generalize H.set r (RdO bs p2)=Ha at*
  clear A hX
  simp only[go_sem,rE,rA,e0]
  refine bg (ky L r bs hbs 3 3 (by omega) (by omega) p2 (by omega) (by simp[eQ];omega)) (rfl) A2.rd (fun _=>⟨by simp[eQ],_,.mk [],rfl,by simp[Ty.le]⟩) (by simp[dS];exact Ne.symm hr6) ?_
  rintro q p3 hp3 hp3' ⟨t,rfl,ht⟩
  simp only[eQ]at hp3'
  have A3:qk (Ha.set r (RdO bs p3)) r bs p3 b4 b6 [S nm,X,B false,NIL,NIL,I 0,I 0,S (bl []),NIL,NIL,S (bl []),NIL]:=
   ⟨ai _ _ _,(ae _ _ (Ne.symm hr4)).trans A2.z,(ae _ _ (Ne.symm hr6)).trans A2.f⟩
  have g3:(Ha.set r (RdO bs p3)).get b3=_:=(ae _ _ (Ne.symm hr3)).trans g3
  have hX3:bR (Ha.set r (RdO bs p3)) 3 (ps.map Pa.enc) X:=hX2.keepF fun d hd=>ae _ _ (by rintro rfl;obtain⟨n,m,h⟩:=hX2.mem hd;rw[A2.rd]at h;simp[RdO]at h)
  generalize Ha.set r (RdO bs p3)=Hb at*
  clear A2 hX2
  simp only[go_sem,rE,rA,Ty.enc_eq t,ax,aq,az,rL,bh]
  refine eM (es:=ps.map Pa.enc) (ys:=[[S pn,B (decide (0<k2)),.sl 1 none (Ty.encs t.kids)]]) (by simp only[go_sem,rE];exact hX3) (rfl) (by simp) (by simp;omega) ?_
  intro x' Hc fpc hx' _ keep new
  simp only[go_sem,rE]at keep new
  have hx1:=hx'.one
  have A4:qk Hc r bs p3 b4 b6 [S nm,X,B false,NIL,NIL,I 0,I 0,S (bl []),NIL,NIL,S (bl []),NIL]:=by
   refine A3.mono fun d hd=>?_
   have:∃cs,Hb.get d=some (.cells cs):=by
    rcases hd with rfl|rfl|rfl
    ·exact⟨_,A3.rd⟩
    ·exact⟨_,A3.z⟩
    ·exact⟨_,A3.f⟩
   obtain⟨cs,hcs⟩:=this
   exact keep d (by rw[hcs];simp) fun ht=>by obtain⟨n,m,h⟩:=hX3.mem ht;rw[hcs]at h;simp at h
  have g3:Hc.get b3=_:=(keep b3 (by rw[g3];simp) fun ht=>by obtain⟨n,m,h⟩:=hX3.mem ht;rw[g3]at h;simp at h).trans g3
  simp only[go_sem,rE,rA,e6,e8,A4.f,hx1,w2,rL]
  refine⟨by omega,_,aj.sub_refl _,p3,x',ps++[⟨pn,decide (0<k2),t⟩],⟨(ae _ _ hr6).trans A4.rd,(ae _ _ d46).trans A4.z,ai _ _ _⟩,(ae _ _ d36).trans g3,by omega,by omega,by simp;exact hps,fun x hx=>?_,?_,e0,e3,e4,e5,e6,e7,rfl⟩
  ·rcases aF.1 hx with h|h
   ·exact hpok x h
   ·simp at h;subst h;exact⟨⟨3,by omega,ht⟩⟩
  ·rw[bB]
   have:[Pa.mk pn (decide (0<k2)) t].map Pa.enc=[[S pn,B (decide (0<k2)),.sl 1 none (Ty.encs t.kids)]]:=by simp[Pa.enc,Ty.enc_eq t]
   rw[this]
   exact hx'.set A4.f _
 ·have hkn:k=n:=by omega
  have hXle:=hX.le
  simp only[go_sem,rE,rA,e3,g3,rL]
  intro b48 hb48
  have A1:=A.new hb48 (.tail 0 0)
  have g3:(H.set b48 (.tail 0 0)).get b3=_:=(ae _ _ (al g3 hb48)).trans g3
  have g48:(H.set b48 (.tail 0 0)).get b48=_:=ai _ _ _
  simp only[go_sem,rE,rA,e3,g3,rL]
  generalize H.set b48 (.tail 0 0)=Ha at*
  refine dV (es:=[]) (ys:=pr.map Fu.enc) (rfl) g48 (rfl) (by simp;intro f _;exact pU f) (by simp;omega) ?_
  intro bt nt mt Hb fpb gt keep hbt hfb
  have in1:∀{d cs},Ha.get d=some (.cells cs)->Hb.get d=some (.cells cs):=fun {d cs} hd=>by rw[keep d (by rw[hd];simp) (by rintro rfl;rw[g48]at hd;simp at hd)];exact hd
  have A2:qk Hb r bs p' b4 b6 [S nm,X,B false,NIL,NIL,I 0,I 0,S (bl []),NIL,NIL,S (bl []),NIL]:=⟨in1 A1.rd,in1 A1.z,in1 A1.f⟩
  have nf6:¬fpb b6:=fun h=>by have:=hfb _ h;rw[A1.f]at this;simp at this
  simp only[go_sem,rE,rA,e6,A2.f,ax,aq,az,rL,bh]
  refine⟨by simp;exact nf6,?_⟩
  refine dV (es:=pr.map Fu.enc) (ys:=[[S nm,X,B false,NIL,NIL,I 0,I 0,S (bl []),NIL,NIL,S (bl []),NIL]]) (rfl) gt (rfl) (by simp) (by simp;omega) ?_
  intro bt2 nt2 mt2 Hc fpc gt2 keep2 hbt2 _
  have in2:∀{d cs},Hb.get d=some (.cells cs)->Hc.get d=some (.cells cs):=fun {d cs} hd=>by rw[keep2 d (by rw[hd];simp) (by rintro rfl;rw[gt]at hd;simp at hd)];exact hd
  have A3:qk Hc r bs p' b4 b6 [S nm,X,B false,NIL,NIL,I 0,I 0,S (bl []),NIL,NIL,S (bl []),NIL]:=⟨in2 A2.rd,in2 A2.z,in2 A2.f⟩
  clear A A1 A2 keep keep2 in1 in2 hfb gt g48 g3 hb48
  simp only[go_sem,rE,rA]
  intro b9 hb9
  have A4:=A3.new hb9 (.cells [.sl 12 (some (bt2,nt2,mt2)) (pr.map Fu.enc++[[S nm,X,B false,NIL,NIL,I 0,I 0,S (bl []),NIL,NIL,S (bl []),NIL]])])
  have g9:(Hc.set b9 (.cells [.sl 12 (some (bt2,nt2,mt2)) (pr.map Fu.enc++[[S nm,X,B false,NIL,NIL,I 0,I 0,S (bl []),NIL,NIL,S (bl []),NIL]])])).get b9=_:=ai _ _ _
  generalize(Hc.set b9 (.cells [.sl 12 (some (bt2,nt2,mt2)) (pr.map Fu.enc++[[S nm,X,B false,NIL,NIL,I 0,I 0,S (bl []),NIL,NIL,S (bl []),NIL]])]))=Hd at*
  simp only[go_sem,rE,rA,e0,e5,g9,rL]
  have hnlt:pr.length<(pr++[(⟨nm,ps,false,.mk [],[],E0,P0⟩:Fu)]).length:=by simp
  refine rh (as':=[.agg [.sl 12 (some (bt2,nt2,mt2)) (pr.map Fu.enc++[[S nm,X,B false,NIL,NIL,I 0,I 0,S (bl []),NIL,NIL,S (bl []),NIL]])],I pr.length]) L (pr++[⟨nm,ps,false,.mk [],[],E0,P0⟩]) pr.length hnlt (by simp;omega) (by simp;omega) (rfl) ⟨.agg ⟨⟨.slR ?_,rfl⟩,trivial⟩,.refl _,trivial⟩ ?_
  ·rw[bB]
   exact(vX pr).snoc (BJ ⟨nm,ps,false,.mk [],[],E0,P0⟩ hXle (.nil 1) (.nil 15) ⟨⟨.refl _,rfl⟩,⟨.refl _,rfl⟩,⟨.refl _,rfl⟩,⟨.nil 1,rfl⟩,⟨.nil 5,rfl⟩,trivial⟩ ⟨⟨.refl _,rfl⟩,⟨.nil 1,rfl⟩,trivial⟩)
  intro a VS NS He fpe hE hs hnew
  have hdr:=Br pr ⟨nm,ps,false,.mk [],[],E0,P0⟩ hpr ⟨hpok,dN⟩ (by omega) (by simp;omega) (by simp;omega)
  generalize co (pr++[⟨nm,ps,false,.mk [],[],E0,P0⟩]) pr.length=v at*
  have A5:qk He r bs p' b4 b6 [S nm,X,B false,NIL,NIL,I 0,I 0,S (bl []),NIL,NIL,S (bl []),NIL]:=⟨hs _ _ A4.rd,hs _ _ A4.z,hs _ _ A4.f⟩
  have na4:¬aP a VS NS b4:=fun h=>by have:=hnew _ h;rw[A4.z]at this;simp at this
  have na6:¬aP a VS NS b6:=fun h=>by have:=hnew _ h;rw[A4.f]at this;simp at this
  have nar:¬aP a VS NS r:=fun h=>by have:=hnew _ h;rw[A4.rd]at this;simp at this
  clear A3 A4 hs hnew g9 hb9
  simp only[go_sem,rE,rA,e0,rL]
  intro b10 hb10
  have hr10:=al A5.rd hb10
  have d410:=al A5.z hb10
  have d610:=al A5.f hb10
  have A6:=A5.new hb10 (.cells [.ptr r 0,.ptr a 0,I 0])
  have hM:cT (He.set b10 (.cells [.ptr r 0,.ptr a 0,I 0])) b10 r bs a v VS NS p' 0:=⟨ai _ _ _,A6.rd,hE.new hb10 _,Ne.symm hr10,hE.notin hb10,nar⟩
  generalize(He.set b10 (.cells [.ptr r 0,.ptr a 0,I 0]))=Hf at*
  clear A5 hE hb10
  refine bg (cH L r bs p' 6 hbs (by omega) (by omega)) (rfl) A6.rd (by simp) trivial ?_
  rintro q p7 hp7 hp7' ⟨k7,rfl,hk70,hk71⟩
  have hM7:=hM.setR p7
  have g4:(Hf.set r (RdO bs p7)).get b4=_:=(ae _ _ (Ne.symm hr4)).trans A6.z
  have g6:(Hf.set r (RdO bs p7)).get b6=_:=(ae _ _ (Ne.symm hr6)).trans A6.f
  generalize Hf.set r (RdO bs p7)=Hg at*
  clear A6 hM
  have w7:=aL (n:=1+k7) (by omega) (by omega)
  have hk7n:1+k7=((1+k7.toNat:Nat):Int):=by omega
  have hcc:jq 2=161:=rfl
  have hsc:(gS 2:Int)=26660000:=rfl
  have hkc:(1+k7.toNat)*jq 2<=6*jq 2:=bA _ (by omega)
  simp only[go_sem,rE,rA,w7]
  refine dQ (AB L 2 (by omega) b10 r bs hbs v 4 (1+k7.toNat) hdr (by omega) (by omega) p7 0 (by omega) (by omega) (by omega) (by omega)) hM7 (by simp only[go_sem,rE,hk7n];rfl) (.refl _) (by simp) trivial ?_
  rintro q e8 v8 VS8 NS8 p8 last8 H8 fp8 ⟨⟨bd,rfl,hbl,hbc,hbsm⟩,⟨hv8,hv82,hv83⟩,hp8,hp8',hl8,hl8'⟩ hM8 hk8 -
  obtain⟨g4,n4⟩:=hk8 _ _ g4 (uz d410 (Ne.symm hr4) na4)
  obtain⟨g6,n6⟩:=hk8 _ _ g6 (uz d610 (Ne.symm hr6) na6)
  have n6':=n6
  have d610':b10≠b6:=Ne.symm d610
  have tl:=fn_tail (F:=F) L r bs hbs nm ps bd v8 (4+(1+k7.toNat)*jq 2) hv8 (by omega) p hp hp2 hpok (by omega) (by omega) (by omega) hbsm b4 b6 b10 e8 VS8 NS8 X p8 last8
  simp only[go_sem,rE,rA,e6,g6,rL]
  refine tl _ _ (hM8.put n6 _) d46 ((ae _ _ d46).trans g4) (ai _ _ _) n4 n6 (e0) (e4) (e6) (rfl) hXle (by omega) (by omega) (by omega)
end
def Pg.fit(p:Pg):Prop:=p.small/\∀f∈p,0<f.params.length/\bx f.body<=2^19
theorem FuW.okS{f:Fu}(h:FuW f):f.okS:=by
 refine⟨fun x hx=>⟨?_⟩,tL h.type⟩
 have:=h.params x hx
 simp only[Pa.okB,aw]at this
 exact tL this.2
theorem uv{p:Pg}(h:eR p=true){i:Nat}(hi:i<p.length):(co p i).ok/\(co p i).p=p/\(co p i).fn=i/\(co p i).vars.length=(p[i]).params.length/\(co p i).names.length=(p[i]).params.length:=by
 obtain⟨h1,h2⟩:=fH h
 have W:=h2 p[i] (ay hi)
 have hst:co p i=(⟨p,i,[],[],0⟩:En).givens p[i].params:=by simp only[co,av hi]
 obtain⟨g1,g2,g3,g4⟩:=lz p[i].params (⟨p,i,[],[],0⟩:En)
 have:=W.plen
 rw[hst]
 refine⟨⟨by rw[g3];simp;omega,fun x hx=>?_⟩,g1,g2,by rw[g3];simp,by rw[g4];simp⟩
 rw[g3]at hx
 simp at hx
 obtain⟨y,hy,rfl⟩:=hx
 exact⟨⟨by simp[Pa.vr],by simp[Pa.vr]⟩,(W.okS.params y hy).type⟩
section
variable {P:Program}{F:bS}
theorem Cj(L:eC P F){p:Pg}(h:eR p=true)(hf:p.fit){i:Nat}(hi:i<p.length):cM P F.s_l3Code [.agg (Pg.enc p),I i] (I (lc p i)):=by
 obtain⟨hpl,hw⟩:=fH h
 have W:=hw p[i] (ay hi)
 obtain⟨hp1,hcnt⟩:=hf.2 p[i] (ay hi)
 obtain⟨s1,s2,s3,s4,s5⟩:=uv h hi
 have hwp:=W.plen
 have hokS:∀f∈p,f.okS:=fun f hf=>(hw f hf).okS
 have hst:=oK 4 _ W.body
 have hbs:=(En.stmt_step _).2 p[i].body (aC _) (fun s hs=>(hst s hs).1) (co p i) s1 (by omega) (by rw[s2];exact hokS)
 have hspec:lc p i=if(jY p p[i].name i).isSome then 2 else if 0<((co p i).body p[i].body).code then((co p i).body p[i].body).code else((co p i).body p[i].body).outCode p[i]:=by
  simp only[lc,av hi]
 refine L.s_l3Code (by simp[pd]) ?_
 obtain⟨cf,hcf,CF⟩:=fuC p[i]
 have hgf:(p.map Fu.enc)[i]?=some cf:=by rw[<-hcf];simp[hi]
 simp only[pd,go_sem,rE,rA,rL,Pg.enc]
 intro b2 hb2
 have g2:=ai .empty b2 (.cells [.sl 12 none (p.map Fu.enc)])
 generalize aj.empty.set b2 (.cells [.sl 12 none (p.map Fu.enc)])=H2 at*
 simp only[go_sem,rE,rA,rL,g2,hgf,CF.len,CF.all]
 intro b5 hb5
 have d25:=al g2 hb5
 simp only[go_sem,rE,rA,rL,CF.len,CF.all,d25,g2,CF.name]
 have g5:=ai H2 b5 (.cells cf)
 have g2:(H2.set b5 (.cells cf)).get b2=some (.cells [.sl 12 none (p.map Fu.enc)]):=by rw[ae _ _ d25];exact g2
 generalize H2.set b5 (.cells cf)=H5 at*
 clear hb2 hb5
 refine ao (Ci L.toLib p p[i].name i (by omega) (by omega)) (by simp only[go_sem,rE,Pg.enc]) ?_
 have hfn:decide (yD p p[i].name i>=0)=(jY p p[i].name i).isSome:=by
  have:yD p p[i].name i=match jY p p[i].name i with|some i=>(i:Int)|none=>-1:=rfl
  rw[this]
  cases jY p p[i].name i<;>simp
 simp only[go_sem,rE,rA,rL,hfn]
 cases hfi:(jY p p[i].name i).isSome with
 |true=>
  simp only[go_sem,rE,rA,rL]
  exact ak (.refl _) (aj.sub_empty _) ⟨by rw[hspec,hfi];rfl,rfl⟩
 |false=>
 have hspec:lc p i=if 0<((co p i).body p[i].body).code then((co p i).body p[i].body).code else((co p i).body p[i].body).outCode p[i]:=by
  rw[hspec,hfi];rfl
 simp only[go_sem,rE,rA,rL,g2]
 refine rh L.toLib p i hi (by omega) (by omega) (by simp only[go_sem,rE,Pg.enc]) (.refl _) ?_
 intro a VS NS H1 fp hE1 hs1 hn1
 have g2:=hs1 _ _ g2
 have g5:=hs1 _ _ g5
 have n2:¬aP a VS NS b2:=fun hb=>by have:=hn1 _ hb;simp_all
 have n5:¬aP a VS NS b5:=fun hb=>by have:=hn1 _ hb;simp_all
 have hstu:=rX p i
 generalize co p i=v0 at*
 have cfb:(cf.drop 4)[0]?=some (.sl 15 none (St.encs p[i].body)):=by rw[bC];exact CF.body
 simp only[go_sem,rE,rA,rL,g5,CF.len,cfb,CF.body]
 refine bL (zF L.toLib _ a p[i].body (aC _) (fun s hs=>(hst s hs).1) v0 s1 (by omega) (by omega) (by omega) (by rw[s2];exact hokS) (by rw[s2];omega) (by omega)) hE1 (by simp only[go_sem,rE]) (.refl _) (by simp) trivial ?_
 rintro q v1 VS1 NS1 H2' fp1 ⟨rfl,hv1⟩ hE2 hk2 -
 obtain⟨g2,n2⟩:=hk2 _ _ g2 n2
 obtain⟨g5,n5⟩:=hk2 _ _ g5 n5
 have hup:v1.code=0->Up v1.vars:=fun h=>by
  have:=(tT p[i].body (fun s hs=>(hst s hs).2) v0 (by rw[<-hv1];exact h)).2 hstu
  rw[hv1];exact this
 rw[<-hv1]at hbs hspec
 have hok1:=hbs.ok
 have ho2:=hE2.obj
 simp only[cZ]at ho2
 generalize H2'=H3 at*
 simp only[go_sem,rE,rA,rL,ho2]
 refine aG (fun hgt=>?_) (fun hle=>?_)
 ·simp only[go_sem,rE,rA,rL,ho2]
  exact ak (.refl _) (aj.sub_empty _) ⟨by rw[hspec,if_pos hgt];rfl,rfl⟩
 rw[if_neg hle]at hspec
 have cfl:(cf.drop 2)[0]?=some (.lit (.bool p[i].lent)):=by rw[bC];exact CF.lent
 simp only[go_sem,rE,rA,rL,g5,CF.len,CF.lent,cfl]
 refine mF (fun hl=>?_) (fun hl=>?_)
 ·have hl:p[i].lent=false:=by simpa using hl
  have ho1:=En.expr_good p[i].says v1 hok1
  simp only[En.outCode,hl,ap,if_false]at hspec
  simp only[go_sem,rE,rA,rL,g5,CF.len,CF.says]
  refine bL (qc L.toLib a _ p[i].says (aC _) (oO 4 _ (W.says hl)) v1 hok1) hE2 (rfl) (.refl _) (fun _=>⟨_,_,rfl,rfl⟩) (by simp[dS]) ?_
  rintro q v2 VS2 NS2 H4 fp2 ⟨rfl,hv2⟩ hE3 hk3 hfp2
  rw[<-hv2]at hspec ho1
  have wf2:=ho1.2
  have nf5:¬fp2 b5:=fun h=>(hfp2 b5 h).elim n5 (fun h=>by rw[g5]at h;simp at h)
  obtain⟨g5,n5⟩:=hk3 _ _ g5 n5
  generalize(v1.expr p[i].says).2=u at*
  simp only[go_sem,rE,rA,rL,g5,CF.len,CF.type,jy,bf,cq,or_false,forall_eq,nf5]
  refine bL (pZ L.toLib a v2 u p[i].type wf2) hE3 (rfl) (.refl _) (fun _=>⟨_,_,rfl,rfl⟩) trivial ?_
  rintro q v3 VS3 NS3 H5 fp3 ⟨rfl,hv3⟩ hE4 - -
  have ho4:=hE4.obj
  simp only[cZ]at ho4
  rw[<-hv3]at hspec
  simp only[go_sem,rE,rA,rL,ho4]
  exact ak (.refl _) (aj.sub_empty _) ⟨by rw[hspec];rfl,rfl⟩
 ·have hl:p[i].lent=true:=by simpa using hl
  simp only[En.outCode,hl,if_true]at hspec
  have hpath:=(lx (W.gives hl)).2
  simp only[go_sem,rE,rA,rL,g5,CF.len,CF.gives]
  refine bL (pY L.toLib a v1 hok1 p[i].gives (by omega)) hE2 (rfl) (.refl _) (fun _=>⟨_,_,rfl,rfl⟩) (by simp[dS]) ?_
  rintro q v2 VS2 NS2 H4 fp2 ⟨rfl,hv2⟩ hE3 hk3 hfp2
  have lk2:=v1.use_like p[i].gives
  have wf2:=jb hok1 p[i].gives
  rw[<-hv2]at hspec lk2
  have nf5:¬fp2 b5:=fun h=>(hfp2 b5 h).elim n5 (fun h=>by rw[g5]at h;simp at h)
  obtain⟨g5,n5⟩:=hk3 _ _ g5 n5
  generalize hu:(v1.use p[i].gives).2=u at*
  simp only[go_sem,rE,rA,rL,g5,CF.len,CF.type,jy,bf,cq,or_false,forall_eq,nf5]
  refine bL (pZ L.toLib a v2 u p[i].type wf2) hE3 (rfl) (.refl _) (fun _=>⟨_,_,rfl,rfl⟩) trivial ?_
  rintro q v3 VS3 NS3 H5 fp3 ⟨rfl,hv3⟩ hE4 hk4 -
  obtain⟨g5,n5⟩:=hk4 _ _ g5 n5
  have ho4:=hE4.obj
  simp only[cZ]at ho4
  have lk3:v2.like v3:=hv3▸fh _ _ _
  rw[<-hv3]at hspec
  simp only[go_sem,rE,rA,rL,ho4]
  by_cases hc:v3.code=0
  ·have hc':(v3.code==0)=true:=by simpa using hc
   have hup3:Up v3.vars:=by
    have c2:v2.code=0:=En.same_code (v:=v2) (a:=u) (t:=p[i].type) (by rw[<-hv3];exact hc)
    have c1:=(gh (v:=v1) (p:=p[i].gives) (by rw[<-hv2];exact c2)).1
    exact((hup c1).core lk2.vars).core lk3.vars
   have hok3:=lk3.ok (lk2.ok hok1)
   simp only[go_sem,rE,rA,rL,hc',g5,CF.len,CF.gives]
   refine bL (uD L.toLib a v3 hok3.len (fun x hx=>(hok3.all x hx).1) hup3 p[i].gives) hE4 (rfl) (.refl _) (by simp) trivial ?_
   rintro q v4 VS4 NS4 H6 fp4 ⟨rfl,e4⟩ hE5 - -
   have ho5:=hE5.obj
   simp only[cZ,e4]at ho5
   cases hout:v3.outside p[i].gives with
   |false=>
    simp only[go_sem,rE,rA,rL,ho5]
    exact ak (.refl _) (aj.sub_empty _) ⟨by rw[hspec,if_pos ⟨hc,hout⟩];rfl,rfl⟩
   |true=>
    simp only[go_sem,rE,rA,rL,ho5]
    exact ak (.refl _) (aj.sub_empty _) ⟨by rw[hspec,if_neg (by rintro⟨-,h⟩;rw[hout]at h;simp at h)];rfl,rfl⟩
  ·have hc':(v3.code==0)=false:=by simpa using hc
   simp only[go_sem,rE,rA,rL,hc',ho4]
   exact ak (.refl _) (aj.sub_empty _) ⟨by rw[hspec,if_neg (fun h=>hc h.1)];rfl,rfl⟩
end
noncomputable def jZ(p:List Fu)(f:Fu)(l:List St):Sc×Int:=if(cV (bz p) f.params).2=0 then(cV (bz p) f.params).1.stmts l else cV (bz p) f.params
noncomputable def atS(p:Pg)(fn n:Int):Option Sc:=
 if jr p=true/\0<=fn/\fn<p.length then match p[fn.toNat]? with
  |some f=>if 0<=n/\n<=f.body.length then(if(jZ (p.take fn.toNat) f (f.body.take n.toNat)).2=0 then some (jZ (p.take fn.toNat) f (f.body.take n.toNat)).1 else none)else none
  |none=>none
 else none
theorem xJ{p:Pg}{i n:Nat}(h:jr p=true)(hi:i<p.length)(hn:n<=p[i].body.length):atS p i n=if(jZ (p.take i) p[i] (p[i].body.take n)).2=0 then some (jZ (p.take i) p[i] (p[i].body.take n)).1 else none:=by
 unfold atS
 rw[if_pos ⟨h,by omega,by omega⟩,dH,av hi]
 simp only
 rw[if_pos ⟨by omega,by omega⟩,dH]
theorem ot{d:Nat}{l:List St}(h:cb d l=true)(m:Nat):cb d (l.take m)=true:=by
 cases d with
 |zero=>simp[cb]at h
 |succ d=>
  simp only[cb,aw,decide_eq_true_eq,aW]at h⊢
  exact⟨by rw[bk];omega,fun s hs=>h.2 s (bJ hs)⟩
theorem uB{p:Pg}(h:jr p=true):eR p=true:=by unfold jr at h;simp only[aw]at h;exact h.1
theorem yV{pi:List Fu}{f:Fu}(W:FuW f)(hti:∀f∈pi,f.type.okB=true)(m:Nat)(hz:(jZ pi f (f.body.take m)).2=0):(bz pi).step (jZ pi f (f.body.take m)).1 100:=by
 unfold jZ at hz⊢
 have hpl4:=W.plen
 have h0:(bz pi).vars.length=0:=rfl
 split at hz
 ·rename_i hz1
  rw[if_pos hz1]
  have st:=iY f.params (gu pi) rfl W.params (by omega) hz1
  have hhi:=st.hi
  have W4:=ot W.body m
  have hl:(f.body.take m).length<=40:=by
   have h:=W4
   simp only[cb,aw,decide_eq_true_eq]at h
   exact h.1
  exact(st.trans (hU 4 (f.body.take m) W4 _ st.good st.held (by rw[st.lost];rfl) (by rw[st.p];exact hti) (by omega) hz)).mono (by omega)
 ·rename_i hz1;exact absurd hz hz1
theorem zM{p:Pg}{fn n:Int}{v:Sc}(h:atS p fn n=some v):∃(i m:Nat) (hi:i<p.length),fn=i/\n=m/\m<=p[i].body.length/\jr p=true/\(jZ (p.take i) p[i] (p[i].body.take m)).2=0/\(jZ (p.take i) p[i] (p[i].body.take m)).1=v:=by
 unfold atS at h
 split at h
 ·rename_i h1
  obtain⟨i,rfl⟩:=dF h1.2.1
  have hi:i<p.length:=by omega
  rw[dH,av hi]at h
  simp only at h
  split at h
  ·rename_i h2
   obtain⟨m,rfl⟩:=dF h2.1
   rw[dH]at h
   split at h
   ·rename_i h3
    exact⟨i,m,hi,rfl,rfl,by omega,h1.1,h3,by simpa using h⟩
   ·simp at h
  ·simp at h
 ·simp at h
theorem xI{p:Pg}{fn n:Int}{v:Sc}(h:atS p fn n=some v):∃pi,(bz pi).step v 100:=by
 obtain⟨i,m,hi,rfl,rfl,hm,hf,hz,rfl⟩:=zM h
 obtain⟨hpl,hpfm⟩:=fH (uB hf)
 exact⟨p.take i,yV (hpfm p[i] (ay hi)) (fun f hf=>(hpfm f (bJ hf)).type) m hz⟩
noncomputable def iX(p:Pg)(fn n:Int):List ByteArray:=match atS p fn n with|none=>[]|some v=>fN v.vars
section
variable {P:Program}{F:bS}{er:bW}
def AtR(F:bS)(er:bW)(H:aj)(r:Option Sc)(q:AC)(H':aj):Prop:=match r with
 |none=>q=.tup [.lit (.pointer none),B false]/\H'=H
 |some v=>∃s ORD HELD m1 m2,q=.tup [.ptr s 0,B true]/\cy F er H' s v ORD HELD m1 m2/\ry F H H' s ORD HELD m1 m2
theorem iO{E:Env}{H:aj}{n m:Nat}{R:AC->aj->Prop}{H':aj}(hs:H'.sub H)(h:R (.tup [E n,E m]) H'):aD.post [.slot n,.slot m] R .ret E H:=
 ⟨.tup [E n,E m],mK rfl rfl,_,H',.of (.refl _) hs,h⟩
theorem c_kAt(L:eC P F)(T:Tys F.toIds)(hC:eD P F er)(p:Pg)(hc:p.small)(fn n:Int)(H:aj)(he:ft F er H):
 bD P F.k_At [.agg (Pg.enc p),I fn,I n] H fun q H'=>AtR F er H (atS p fn n) q H':=by
 refine L.k_At (by simp[xX]) ?_
 have hpf:=fun H1 he1=>x9 (er:=er) L T hC p hc H1 he1
 simp only[Pg.enc]at hpf
 simp only[xX,go_sem,rE,rA,rL,Pg.enc]
 intro b3 hb3
 have g3:(H.set b3 (.cells [.sl 12 none (p.map Fu.enc)])).get b3=some (.cells [.sl 12 none (p.map Fu.enc)]):=ai _ _ _
 have k3:∀c o,H.get c=some o->(H.set b3 (.cells [.sl 12 none (p.map Fu.enc)])).get c=some o:=fun c o hc=>by rw[ae _ _ (al hc hb3)];exact hc
 have he3:ft F er (H.set b3 (.cells [.sl 12 none (p.map Fu.enc)])):=fun c hc=>k3 _ _ (he c hc)
 generalize H.set b3 _=H3 at*
 refine dR (hpf H3 he3) rfl (aj.sub_refl _) (fun h=>by simp at h) trivial ?_
 rintro q H4 ⟨rfl,rfl⟩ -
 rw[iq]
 have none0:atS p fn n=none->∀E:Env,E 6=.lit (.pointer none)->E 7=B false->aD.post [.slot 6,.slot 7] (fun q H'=>AtR F er H (atS p fn n) q H') .ret E H4:=by
  intro h E e6 e7
  exact iO (fun b o hb=>k3 b o hb) (by rw[h,e6,e7];exact⟨rfl,rfl⟩)
 cases hf:jr p
 ·have hx:atS p fn n=none:=by unfold atS;rw[if_neg (by simp[hf])]
  simp only[go_sem,rE,rA,rL]
  exact none0 hx _ rfl rfl
 simp only[go_sem,rE,rA,rL]
 by_cases h1:fn<0
 ·have hx:atS p fn n=none:=by unfold atS;rw[if_neg (by omega)]
  simp only[h1,decide_true,go_sem,rE,rA,rL]
  exact none0 hx _ rfl rfl
 obtain⟨i,rfl⟩:=dF (by omega:0<=fn)
 simp only[h1,decide_false,go_sem,rE,rA,rL,g3,am]
 by_cases h2:(i:Int)>=p.length
 ·have hx:atS p i n=none:=by unfold atS;rw[if_neg (by omega)]
  simp only[h2,decide_true,go_sem,rE,rA,rL]
  exact none0 hx _ rfl rfl
 have hi:i<p.length:=by omega
 simp only[h2,decide_false,go_sem,rE,rA,rL,g3,am]
 by_cases h3:n<0
 ·have hx:atS p i n=none:=by
   unfold atS;rw[if_pos ⟨hf,by omega,by omega⟩,dH,av hi]
   simp only;rw[if_neg (by omega)]
  simp only[h3,decide_true,go_sem,rE,rA,rL]
  exact none0 hx _ rfl rfl
 obtain⟨m,rfl⟩:=dF (by omega:0<=n)
 have hga:(p.map Fu.enc)[i]?=some p[i].enc:=by simp[hi]
 rw[Fu.enc_eq]at hga
 simp only[h3,decide_false,go_sem,rE,rA,rL,g3,am,hga,St.encs_map]
 by_cases h4:(m:Int)>(p[i].body.length:Int)
 ·have hx:atS p i m=none:=by
   unfold atS;rw[if_pos ⟨hf,by omega,by omega⟩,dH,av hi]
   simp only;rw[if_neg (by omega)]
  simp only[h4,decide_true,go_sem,rE,rA,rL]
  exact none0 hx _ rfl rfl
 have hm:m<=p[i].body.length:=by omega
 simp only[h4,decide_false,go_sem,rE,rA,rL,g3,am,hga,St.encs_map]
 have hx:=xJ hf hi hm
 rw[hx]
 obtain⟨hpl,hpfm⟩:=fH (p:=p) (by unfold jr at hf;simp only[aw]at hf;exact hf.1)
 have W:=hpfm p[i] (ay hi)
 have hti:∀f∈p.take i,f.type.okB=true:=fun f hf=>(hpfm f (bJ hf)).type
 have hpil:(p.take i).length<=2^30:=by rw[bk];omega
 clear hx none0 hga hpf hpfm hpl
 intro b8 hb8
 have d38:=al g3 hb8
 have hb8':H.get b8=none:=by
  cases h:H.get b8 with
  |none=>rfl
  |some o=>rw[k3 b8 o h]at hb8;simp at hb8
 have hsl:(0<=i/\i<=(p.map Fu.enc).length):=⟨fx _,by simp;omega⟩
 simp only[go_sem,rE,rA,rL,d38,g3,if_pos hsl]
 rw[<-gU]
 generalize p[i]=f at*
 generalize p.take i=pi at*
 have fe:=Fu.enc_eq f
 rw[St.encs_map]at fe
 rw[<-fe]
 have k8:∀c o,H.get c=some o->(H4.set b8 (.cells f.enc)).get c=some o:=fun c o hc=>by
  rw[ae _ _ (al hc hb8')];exact k3 c o hc
 have he8:ft F er (H4.set b8 (.cells f.enc)):=fun c hc=>k8 _ _ (he c hc)
 have g8:(H4.set b8 (.cells f.enc)).get b8=some (.cells f.enc):=ai _ _ _
 have e8:∀c,(c=2\/c=3\/c=4\/c=5)->b8≠F.err c:=fun c hc=>Ne.symm (al (he c hc) hb8')
 generalize H4.set b8 _=H5 at*
 refine dR (xB (er:=er) L pi H5 he8) rfl (aj.sub_refl _) (fun h=>by simp at h) trivial ?_
 rintro q H2 ⟨s,m1,m2,rfl,hS,up,f1,f2,f3⟩ -
 rw[fK]
 have hR:ry F H5 H2 s NIL NIL m1 m2:=.begin up f1 f2 f3
 have g8':=(hR b8 _ g8 e8).1
 rw[fe]at g8'
 simp only[go_sem,rE,rA,rL,g8']
 have hpk:=uN (er:=er) L s (bz pi) (gu pi).ok f (by have:=W.plen;simp[bz];omega)
 rw[fe]at hpk
 refine cR hpk hS (by simp only[go_sem,rE,aS,bv]) (.refl _) (fun h=>by simp at h) trivial ?_
 rintro q v2 ORD2 HELD2 H4 fp2 ⟨rfl,rfl⟩ hS4 hfr4 -
 have hR4:=hR.step hfr4
 have g84:=(hR4 b8 _ g8 e8).1
 rw[fe]at g84
 have fin:∀(Hk:aj) (w:Sc) (ORD HELD:AC),cy F er Hk s w ORD HELD m1 m2->ry F H5 Hk s ORD HELD m1 m2->H.sub Hk:=fun Hk w ORD HELD h1 h2 b o hb=>(h2.sub he8 h1) b o (k8 b o hb)
 by_cases hz1:(cV (bz pi) f.params).2=0
 ·have hb:∀l,jZ pi f l=(cV (bz pi) f.params).1.stmts l:=fun l=>by unfold jZ;rw[if_pos hz1]
  rw[hz1,dh,hb]
  have hsl2:(0<=m/\m<=(f.body.map St.enc).length):=⟨fx _,by simp;omega⟩
  simp only[go_sem,rE,rA,rL,g84,if_pos hsl2]
  rw[<-gU]
  have st:=iY f.params (gu pi) rfl W.params (by have:=W.plen;simp[bz];omega) hz1
  have hhi:=st.hi
  have hpl4:=W.plen
  have h0:(bz pi).vars.length=0:=rfl
  have hst:=x8 (er:=er) L T hC 4 (f.body.take m) (ot W.body m) _ st.good st.held (by rw[st.lost];rfl) (by rw[st.p];exact hti) (by rw[st.p];exact hpil) (by omega) s
  rw[St.encs_map]at hst
  refine cR hst hS4 (by simp only[go_sem,rE,aS,bv]) (.refl _) (fun h=>by simp at h) trivial ?_
  rintro q v3 ORD3 HELD3 H5 fp3 ⟨rfl,rfl⟩ hS5 hfr5 -
  have hR5:=hR4.step hfr5
  by_cases hz2:((cV (bz pi) f.params).1.stmts (f.body.take m)).2=0
  ·rw[if_pos hz2,hz2,dh]
   simp only[go_sem,rE,rA,rL]
   refine iO (aj.sub_refl _) ⟨s,ORD3,HELD3,m1,m2,rfl,hS5,fun b o hb hn=>hR5 b o (k8 b o hb) hn⟩
  ·rw[if_neg hz2,bV er hz2]
   simp only[go_sem,rE,rA,rL]
   exact iO (fin _ _ _ _ hS5 hR5) ⟨rfl,rfl⟩
 ·have hb:∀l,jZ pi f l=cV (bz pi) f.params:=fun l=>by unfold jZ;rw[if_neg hz1]
  rw[hb,if_neg hz1,bV er hz1]
  simp only[go_sem,rE,rA,rL,g84]
  exact iO (fin _ _ _ _ hS4 hR4) ⟨rfl,rfl⟩
theorem vP(L:eC P F)(T:Tys F.toIds)(hC:eD P F er)(p:Pg)(hc:p.small)(fn n:Int)(H:aj)(he:ft F er H):
 bD P F.i_CheckLive [.agg (Pg.enc p),I fn,I n] H fun q H'=>q=.sl 1 none (a9 (iX p fn n))/\H'=H:=by
 refine L.i_CheckLive (by simp[lV]) ?_
 have hat:=fun H1 he1=>c_kAt (er:=er) L T hC p hc fn n H1 he1
 simp only[Pg.enc]at hat
 simp only[lV,go_sem,rE,rA,rL,Pg.enc]
 intro b3 hb3
 have k3:∀c o,H.get c=some o->(H.set b3 (.cells [.sl 12 none (p.map Fu.enc)])).get c=some o:=fun c o hc=>by rw[ae _ _ (al hc hb3)];exact hc
 have he3:ft F er (H.set b3 (.cells [.sl 12 none (p.map Fu.enc)])):=fun c hc=>k3 _ _ (he c hc)
 generalize H.set b3 _=H3 at*
 refine dR (hat H3 he3) rfl (aj.sub_refl _) (fun h=>by simp at h) trivial ?_
 intro q H4 hr _
 rw[fK]
 cases ha:atS p fn n with
 |none=>
  rw[ha]at hr
  obtain⟨rfl,rfl⟩:=hr
  simp only[go_sem,rE,rA,rL,a7,aB]
  exact ak (.nil 1) (fun b o hb=>k3 b o hb) ⟨by simp only[iX,ha];rfl,rfl⟩
 |some v=>
  rw[ha]at hr
  obtain⟨s,ORD,HELD,m1,m2,rfl,hS,hR⟩:=hr
  obtain⟨pi,st⟩:=xI ha
  simp only[go_sem,rE,rA,rL,a7,aB]
  refine cR (vM L s v st.good.nd st.good.len) hS (by simp only[go_sem,rE,aS,bv]) (.refl _) (fun h=>by simp at h) trivial ?_
  rintro q w ORD2 HELD2 H5 fp ⟨rfl,rfl⟩ hS5 hfr -
  simp only[go_sem,rE,rA,rL]
  exact ak (.refl _) (fun b o hb=>(hR.step hfr).sub he3 hS5 b o (k3 b o hb)) ⟨by simp only[iX,ha];rfl,rfl⟩
end
noncomputable def pL(p:Pg):Int×Int:=if eR p=true then match og p with|none=>(0,0)|some i=>(ic p i,i)else(1,0)
theorem rT{p:Pg}(hp:eR p=true){i:Nat}(hi:i<p.length):lc p i=ic p i/\0<=ic p i:=by
 have:=BZ hp hi
 simp only[ic,av hi]
 exact this
theorem wu(p:Pg):decide ((pL p).1>0)=!jr p:=by
 unfold pL jr
 cases hf:eR p with
 |false=>simp
 |true=>
  simp only[if_true,bX]
  cases h:og p with
  |none=>simp
  |some i=>
   unfold og at h
   rw[List.find?_range_eq_some]at h
   obtain⟨h1,h2,-⟩:=h
   have:=(rT hf (eT.1 (by simpa using h2))).2
   simp at h1
   simp
   omega
section
variable {P:Program}{F:bS}
theorem yP(L:eC P F){p:Pg}(hf:p.fit):cM P F.s_CheckOf [.agg (Pg.enc p)] (.tup [I (pL p).1,I (pL p).2]):=by
 refine L.s_CheckOf (by simp[nC]) ?_
 simp only[nC,go_sem,rE,rA,rL,Pg.enc]
 intro b1 hb1
 have g1:=ai .empty b1 (.cells [.sl 12 none (p.map Fu.enc)])
 generalize aj.empty.set b1 (.cells [.sl 12 none (p.map Fu.enc)])=H1 at*
 refine ao (Cl L.toLib p fun f hf'=>by have:=(hf.2 f hf').2;omega) (by simp only[go_sem,rE,Pg.enc]) ?_
 simp only[go_sem,rE,rA,rL]
 cases hfo:eR p with
 |false=>
  simp only[go_sem,rE,rA,rL]
  exact iO (aj.sub_empty _) ⟨by simp only[pL,hfo];rfl,rfl⟩
 |true=>
 obtain⟨hpl,hw⟩:=fH hfo
 simp only[go_sem,rE,rA,rL]
 refine aT p.length (fun k E' H'=>E' 1=.ptr b1 0/\E' 4=I k/\H'=H1/\∀j,j<k->ic p j=0) ⟨rfl,rfl,rfl,fun j hj=>absurd hj (Nat.not_lt_zero _)⟩ ?_
 rintro k E' H' hk ⟨q1,q4,rfl,hall⟩
 simp only[go_sem,rE,rA,rL,q1,q4,g1,am]
 refine aG (fun hlt=>?_) (fun hge=>?_)
 ·have hk1:k<p.length:=by omega
  have w1:=aL (n:=(k:Int)+1) (by omega) (by omega)
  obtain⟨cs1,cs2⟩:=rT hfo hk1
  simp only[go_sem,rE,rA,rL,q1,q4,g1]
  refine ao (Cj L hfo hf hk1) (by simp only[go_sem,rE,Pg.enc]) ?_
  simp only[go_sem,rE,rA,rL,q4]
  rw[cs1]
  refine aG (fun hgt=>?_) (fun hle=>?_)
  ·simp only[go_sem,rE,rA,rL,q4]
   exact iO (aj.sub_empty _) ⟨by simp only[pL,hfo,if_true,t7 hk1 hall (by omega)];rfl,rfl⟩
  ·simp only[go_sem,rE,rA,rL,q1,q4,w1]
   refine⟨hk1,_,aj.sub_refl _,by simp,rfl,fun j hj=>?_⟩
   by_cases e:j=k
   ·subst e;omega
   ·exact hall j (by omega)
 ·have hkk:k=p.length:=by omega
  subst hkk
  simp only[go_sem,rE,rA,rL]
  exact iO (aj.sub_empty _) ⟨by simp only[pL,hfo,if_true,t8 hall];rfl,rfl⟩
end
noncomputable def jS(p:Pg)(fn n:Int):Option En:=
 if jr p=true/\0<=fn/\fn<=(p.length:Int) - 1 then match p[fn.toNat]? with
  |some f=>if 0<=n/\n<=f.body.length then some ((co p fn.toNat).body (f.body.take n.toNat))else none
  |none=>none
 else none
section
variable {P:Program}{F:bS}
theorem vK(L:eC P F){p:Pg}(hf:p.fit)(hpl:p.length<=2^20)(fn n:Int):bD P F.s_CheckLive [.agg (Pg.enc p),I fn,I n] .empty fun q H'=>q=.sl 1 none (a9 (match jS p fn n with|none=>[]|some e=>fN e.vars))/\H'=.empty:=by
 refine L.s_CheckLive (by simp[lQ]) ?_
 simp only[lQ,go_sem,rE,rA,rL,Pg.enc]
 intro b3 hb3 bt hbt
 have d3:=al (ai _ _ _) hbt
 have g3:((aj.empty.set b3 (.cells [.sl 12 none (p.map Fu.enc)])).set bt (.tail 0 0)).get b3=some (.cells [.sl 12 none (p.map Fu.enc)]):=by rw[ae _ _ d3,ai]
 have gt:=ai (aj.empty.set b3 (.cells [.sl 12 none (p.map Fu.enc)])) bt (.tail 0 0)
 generalize(aj.empty.set b3 (.cells [.sl 12 none (p.map Fu.enc)])).set bt (.tail 0 0)=H0 at*
 clear hb3 hbt
 simp only[go_sem,rE,rA,rL,g3]
 refine ao (yP L hf) (by simp only[go_sem,rE,Pg.enc]) ?_
 have e0:∀(E':Env) (H':aj),E' 7=.sl 1 (some (bt,0,0)) []->jS p fn n=none->aD.post [.slot 6] (fun q H'=>q=.sl 1 none (a9 (match jS p fn n with|none=>[]|some e=>fN e.vars))/\H'=.empty) .ret (E'.put (some 6) (E' 7)) H':=by
  intro E' H' h7 hn
  refine ak (q':=.sl 1 none []) ?_ (aj.sub_empty _) ⟨by rw[hn];rfl,rfl⟩
  simp only[go_sem,h7]
  exact .tok 1 _ _
 have hsf:=wu p
 cases hfine:jr p with
 |false=>
  rw[hfine,Bool.not_false]at hsf
  simp only[go_sem,rE,rA,rL,hsf]
  exact e0 _ _ rfl (by simp[jS,hfine])
 |true=>
 rw[hfine,Bool.not_true]at hsf
 have w0:=aL (n:=(p.length:Int) - 1) (by omega) (by omega)
 simp only[go_sem,rE,rA,rL,hsf,g3,am,w0]
 refine ao (qe L.toLib fn 0 ((p.length:Int) - 1)) (by simp only[go_sem,rE]) ?_
 by_cases hin:¬(0<=fn/\fn<=(p.length:Int) - 1)
 ·simp only[go_sem,rE,rA,rL,hin,decide_false]
  exact e0 _ _ rfl (by simp only[jS,hfine,true_and,if_neg hin])
 have hin:=Decidable.not_not.1 hin
 obtain⟨i,rfl⟩:=dF hin.1
 have hi:i<p.length:=by omega
 obtain⟨cf,hcf,CF⟩:=fuC p[i]
 have hgf:(p.map Fu.enc)[i]?=some cf:=by rw[<-hcf];simp[hi]
 have cfb:(cf.drop 4)[0]?=some (.sl 15 none (St.encs p[i].body)):=by rw[bC];exact CF.body
 simp only[go_sem,rE,rA,rL,hin,decide_true,g3,hgf,CF.len,CF.body,cfb,am]
 refine ao (qe L.toLib n 0 p[i].body.length) (by simp only[go_sem,rE,St.encs_map,am]) ?_
 have hat:jS p i n=if 0<=n/\n<=p[i].body.length then some ((co p i).body (p[i].body.take n.toNat))else none:=by
  unfold jS
  rw[if_pos ⟨hfine,by omega,by omega⟩,dH,av hi]
 by_cases hn:¬(0<=n/\n<=p[i].body.length)
 ·simp only[go_sem,rE,rA,rL,hn,decide_false]
  exact e0 _ _ rfl (by rw[hat,if_neg hn])
 have hn:=Decidable.not_not.1 hn
 obtain⟨m,rfl⟩:=dF hn.1
 have hm:m<=p[i].body.length:=by omega
 rw[if_pos ⟨by omega,by omega⟩,dH]at hat
 rw[hat]
 simp only[jr,aw]at hfine
 obtain⟨hfo,-⟩:=hfine
 obtain⟨-,hw⟩:=fH hfo
 have W:=hw p[i] (ay hi)
 obtain⟨hp1,hcnt⟩:=hf.2 p[i] (ay hi)
 obtain⟨s1,s2,s3,s4,s5⟩:=uv hfo hi
 have hwp:=W.plen
 have hokS:∀f∈p,f.okS:=fun f hf=>(hw f hf).okS
 have hst:=oK 4 _ W.body
 have htk:=kx p[i].body m
 have hbs:=(En.stmt_step _).2 (p[i].body.take m) (aC _) (fun s hs=>(hst s (bJ hs)).1) (co p i) s1 (by omega) (by rw[s2];exact hokS)
 simp only[go_sem,rE,rA,rL,hn,decide_true,g3,and_self,Int.natCast_nonneg]
 refine rh L.toLib p i hi (by omega) (by omega) (by simp only[go_sem,rE,Pg.enc]) (.refl _) ?_
 intro a VS NS H1 fp hE1 hs1 hn1
 have g3:=hs1 _ _ g3
 have gt:=hs1 _ _ gt
 have n3:¬aP a VS NS b3:=fun hb=>by have:=hn1 _ hb;simp_all
 have nt:¬aP a VS NS bt:=fun hb=>by have:=hn1 _ hb;simp_all
 generalize co p i=v0 at*
 simp only[go_sem,rE,rA,rL,g3,hgf,CF.len,cfb,CF.body]
 have hel:(St.encs p[i].body).length=p[i].body.length:=by rw[St.encs_map,am]
 have hle:0<=m/\m<=(St.encs p[i].body).length:=⟨by omega,by omega⟩
 have htke:(St.encs p[i].body).take m=St.encs (p[i].body.take m):=by rw[St.encs_map,St.encs_map,gU]
 simp only[go_sem,rE,rA,rL,hle,and_self,htke]
 refine bL (zF L.toLib _ a (p[i].body.take m) (aC _) (fun s hs=>(hst s (bJ hs)).1) v0 s1 (by omega) (by omega) (by omega) (by rw[s2];exact hokS) (by rw[s2];omega) (by omega)) hE1 (rfl) (.refl _) (by simp) trivial ?_
 rintro q v1 VS1 NS1 H2' fp1 ⟨rfl,hv1⟩ hE2 hk2 -
 obtain⟨gt,nt⟩:=hk2 _ _ gt nt
 rw[<-hv1]at hbs⊢
 have hlo:=hbs.lo
 have hhi:=hbs.hi
 generalize H2'=H3 at*
 simp only[go_sem,rE,rA,rL]
 refine aT v1.vars.length (fun k E' H'=>bF H' a v1 VS1 NS1/\E' 10=.ptr a 0/\E' 11=I k/\bR H' 1 (a9 (fN (v1.vars.take k))) (E' 7)/\∀c,cG (E' 7) c->¬aP a VS1 NS1 c)
  ⟨hE2,rfl,rfl,.inr ⟨bt,0,0,rfl,gt⟩,fun c ⟨_,_,_,_,e⟩=>by simp[fR,md]at e;obtain⟨-,⟨rfl,-⟩,-⟩:=e;exact nt⟩ ?_
 rintro k E' H' hk ⟨hE,q10,q11,qa,qt⟩
 have ho:=hE.obj
 simp only[cZ]at ho
 obtain⟨vb,vc,cs,rfl,hr0⟩:=hE.vars.row (i:=0) (by omega)
 have hlim:v1.vars.length<=LIM:=by have:=hbs.ok.len;simp[LIM];omega
 simp only[go_sem,rE,rA,rL,q10,q11,ho,hlim]
 refine aG (fun hlt=>?_) (fun hge=>?_)
 ·have hk1:k<v1.vars.length:=by omega
  have hltk:(k:Int)<v1.vars.length:=by omega
  have w1:=aL (n:=(k:Int)+1) (by omega) (by omega)
  obtain⟨vb',vc',cs',e',hr⟩:=hE.vars.row hk1
  simp at e'
  obtain⟨rfl,rfl⟩:=e'
  have rd:=hr.dead
  have hsn:=tm (v1.vars.take k) v1.vars[k]
  rw[<-aA hk1]at hsn
  cases hd:v1.vars[k].dead with
  |true=>
   rw[hd]at rd
   simp only[go_sem,rE,rA,rL,q10,q11,ho,hltk,hr.get,rd,w1]
   exact⟨hk1,H',aj.sub_refl _,hE,by simp,by rw[hsn,hd];exact qa,qt⟩
  |false=>
   rw[hd]at rd
   simp only[go_sem,rE,rA,rL,q10,q11,ho,hltk,hr.get,rd,hr.name,ax,aq,az]
   refine eM (es:=a9 (fN (v1.vars.take k))) (ys:=[[S v1.vars[k].name]]) (by simp only[go_sem,rE,rA,rL];exact qa) (by simp[go_sem,bh]) (by simp) (by
    have:(fN (v1.vars.take k)).length<=v1.vars.length:=by
     unfold fN
     rw[am]
     exact bZ (ix _ _) (by rw[bk];omega)
    have:=hbs.ok.len
    simp[a9];omega) ?_
   intro x' H4 fp hx' hfp hkeep hnew
   have hrow:a9 (fN (v1.vars.take (k+1)))=a9 (fN (v1.vars.take k))++[[S v1.vars[k].name]]:=by rw[hsn,hd];simp[a9]
   simp only[go_sem,rE,rA,rL,q10,q11,w1]at hkeep hnew⊢
   refine⟨hk1,H4,aj.sub_refl _,hE.mono fun d hd=>hkeep d (hE.mem hd) fun h=>qt d h hd,by simp,by rw[hrow];exact hx',fun c hc hb=>?_⟩
   rcases hnew c hc with h|h
   ·exact qt c h hb
   ·exact hE.mem hb h
 ·have hkk:k=v1.vars.length:=by omega
  subst hkk
  rw[aU]at qa
  simp only[go_sem,rE,rA,rL]
  exact ak qa.le (aj.sub_empty _) ⟨rfl,rfl⟩
end
theorem sH:∀(l:List St) (m:Nat) (v:Sc),(v.stmts l).2=0->(v.stmts (l.take m)).2=0
 |[],m,v,h=>by rw[List.take_nil];exact h
 |s::l,0,v,h=>by rw[List.take_zero,eA]
 |s::l,m+1,v,h=>by
  rw[List.take_succ_cons,dG]
  rw[dG]at h
  split at h
  ·rename_i h0;rw[if_pos h0];exact sH l m _ h
  ·rename_i h0;exact absurd h h0
theorem Cx(p:Pg)(fn n:Int):(atS p fn n=none/\jS p fn n=none)\/∃v e,atS p fn n=some v/\jS p fn n=some e/\Rel e v []:=by
 by_cases hc:jr p=true/\0<=fn/\fn<p.length
 ·obtain⟨hfine,h0,h1⟩:=hc
  obtain⟨i,rfl⟩:=dF h0
  have hi:i<p.length:=by omega
  unfold jS
  rw[if_pos ⟨hfine,by omega,by omega⟩,dH,av hi]
  simp only
  by_cases hn:0<=n/\n<=p[i].body.length
  ·obtain⟨m,rfl⟩:=dF hn.1
   have hm:m<=p[i].body.length:=by omega
   rw[xJ hfine hi hm,if_pos hn,dH]
   have hfo:=uB hfine
   obtain⟨hpl,hpf⟩:=fH hfo
   have W:=hpf p[i] (ay hi)
   have hti:∀f∈p.take i,f.type.okB=true:=fun f hf=>(hpf f (bJ hf)).type
   have hcode:jT (p.take i) p[i]=0:=by
    simp only[jr,aw]at hfine
    have h2:=hfine.2
    rw[Option.isNone_iff_eq_none]at h2
    unfold og at h2
    rw[List.find?_eq_none]at h2
    have:=h2 i (eT.2 hi)
    simp only[ic,av hi]at this
    simpa using this
   have hr0:Rel (⟨p,i,[],[],0⟩:En) (bz (p.take i)) []:=⟨rfl,rfl,rfl,rfl,⟨by simp[bz],by simp[bz],fun j hj=>by simp[bz]at hj⟩,⟨rfl,fun j hj=>by simp at hj,fun q hq=>by simp[bz]at hq⟩,rfl,fun y hy=>by simp[bz]at hy⟩
   unfold jT at hcode
   split at hcode
   ·simp at hcode
   split at hcode
   ·rename_i a1
    split at hcode
    ·rename_i b0
     have hst:co p i=(⟨p,i,[],[],0⟩:En).givens p[i].params:=by simp only[co,av hi]
     rcases pS p[i].params hr0 rfl W.params with⟨-,a2⟩|⟨a2,-⟩
     ·have st:=iY p[i].params (gu (p.take i)) rfl W.params (by have:=W.plen;simp[bz];omega) a1
      have hhi:=st.hi
      have hpl4:=W.plen
      have h00:(bz (p.take i)).vars.length=0:=rfl
      have b1:=sH p[i].body m _ b0
      have hb:jZ (p.take i) p[i] (p[i].body.take m)=(cV (bz (p.take i)) p[i].params).1.stmts (p[i].body.take m):=by unfold jZ;rw[if_pos a1]
      rw[hb,if_pos b1,hst]
      rcases uu 4 (p[i].body.take m) (ot W.body m) a2 st.good st.held (by rw[st.p];exact hti) (by omega)with⟨-,b2⟩|⟨b2,-⟩
      ·exact .inr ⟨_,_,rfl,rfl,b2⟩
      ·exact absurd b1 b2
     ·exact absurd a1 a2
    ·rename_i b0;exact absurd hcode b0
   ·rename_i a1;exact absurd hcode a1
  ·rw[if_neg hn]
   refine .inl ⟨?_,rfl⟩
   unfold atS
   rw[if_pos ⟨hfine,h0,h1⟩,dH,av hi]
   simp only
   rw[if_neg hn]
 ·refine .inl ⟨?_,?_⟩
  ·unfold atS;rw[if_neg hc]
  ·unfold jS;rw[if_neg (fun h=>hc ⟨h.1,h.2.1,by omega⟩)]
theorem BH(p:Pg)(fn n:Int):(match jS p fn n with|none=>[]|some e=>fN e.vars)=iX p fn n:=by
 unfold iX
 rcases Cx p fn n with⟨h1,h2⟩|⟨v,e,h1,h2,hr⟩
 ·rw[h1,h2]
 ·rw[h1,h2]
  simp only
  rw[hr.vars,cX]
theorem oc(v:Sc)(x:Vr):∀m∈(eI v x).1.vars.map (·.name),m∈v.vars.map (·.name)\/m=x.name:=by
 intro m hm
 unfold eI at hm
 split at hm
 ·exact .inl hm
 ·rw[bB,aF]at hm
  rcases hm with h|h
  ·exact .inl h
  ·exact .inr (by simpa using h)
theorem sI(v:Sc)(s:St):∀m∈(v.stmt s).1.vars.map (·.name),m∈v.vars.map (·.name)\/m=s.name:=by
 intro m hm
 have hn:∀e,(v.number e).1.vars.map (·.name)=v.vars.map (·.name):=fun e=>by rw[eB];exact iT (Sc.expr_core e v).1
 have he:∀e,(v.expr e).1.vars.map (·.name)=v.vars.map (·.name):=fun e=>iT (Sc.expr_core e v).1
 have hu:∀(w:Sc) p,(w.use p).1.vars.map (·.name)=w.vars.map (·.name):=fun w p=>iT (w.use_core p).1
 have hg:∀(w:Sc) (x:Vr),w.vars.map (·.name)=v.vars.map (·.name)->x.name=s.name->m∈(eI w x).1.vars.map (·.name)->m∈v.vars.map (·.name)\/m=s.name:=fun w x hw hx h=>by
  have:=oc w x m h
  rw[hw,hx]at this;exact this
 rw[Sc.stmt_eq]at hm
 split at hm
 ·split at hm
  ·exact hg _ _ (he _) rfl hm
  ·rw[he]at hm;exact .inl hm
 split at hm
 ·split at hm
  ·exact hg _ _ (hu _ _) rfl hm
  ·rw[hu]at hm;exact .inl hm
 split at hm
 ·split at hm
  ·rw[hu,he]at hm;exact .inl hm
  ·rw[he]at hm;exact .inl hm
 split at hm
 ·unfold ie at hm
  split at hm
  ·exact .inl hm
  split at hm
  ·have ha:=iT (mT s.args (by assumption:Fu).params v).1
   split at hm
   ·unfold gn at hm
    split at hm
    ·rw[ha]at hm;exact .inl hm
    ·refine hg _ _ ?_ ?_ hm
     ·exact ha
     ·rfl
   ·rw[ha]at hm;exact .inl hm
  ·exact .inl hm
 split at hm
 ·unfold iD at hm
  split at hm
  ·unfold jh at hm
   split at hm
   ·unfold qz at hm
    have h2:(((v.number s.expr).1.use s.place).1.hold1 s.place|>.use s.other).1.vars.map (·.name)=v.vars.map (·.name):=(hu _ _).trans ((hu _ _).trans (hn _))
    split at hm
    ·split at hm
     ·split at hm
      ·exact .inl (by rw[<-h2];exact hm)
      ·refine hg _ _ ?_ ?_ hm
       ·exact h2
       ·rfl
     ·exact .inl (by rw[<-h2];exact hm)
    ·exact .inl (by rw[<-h2];exact hm)
   ·rw[hu,hn]at hm;exact .inl hm
  ·rw[hn]at hm;exact .inl hm
 split at hm
 ·unfold Sc.ways nJ at hm
  split at hm
  ·split at hm
   ·rw[iT (pR _ _ _),hn]at hm;exact .inl hm
   ·rw[hn]at hm;exact .inl hm
  ·rw[hn]at hm;exact .inl hm
 ·rw[hn]at hm;exact .inl hm
theorem rC:∀(l:List St) (v:Sc),∀m∈(v.stmts l).1.vars.map (·.name),m∈v.vars.map (·.name)\/m∈l.map (·.name)
 |[],v,m,hm=>by rw[eA]at hm;exact .inl hm
 |s::l,v,m,hm=>by
  rw[dG]at hm
  split at hm
  ·rcases rC l _ m hm with h|h
   ·rcases sI v s m h with h|h
    ·exact .inl h
    ·exact .inr (by simp[h])
   ·exact .inr (dt _ h)
  ·rcases sI v s m hm with h|h
   ·exact .inl h
   ·exact .inr (by simp[h])
theorem rO:∀(l:List Pa) (v:Sc),∀m∈(cV v l).1.vars.map (·.name),m∈v.vars.map (·.name)\/m∈l.map (·.name)
 |[],v,m,hm=>.inl hm
 |x::l,v,m,hm=>by
  rw[cV]at hm
  split at hm
  ·rcases rO l _ m hm with h|h
   ·rcases oc v x.vr m h with h|h
    ·exact .inl h
    ·exact .inr (by simp[h,Pa.vr])
   ·exact .inr (dt _ h)
  ·rcases oc v x.vr m hm with h|h
   ·exact .inl h
   ·exact .inr (by simp[h,Pa.vr])
noncomputable def nZ(f:Fu)(n:Nat):List ByteArray:=f.params.map (·.name)++((f.body.take n).map (·.name)).filter fun m=>!eqB m (bl [])
theorem y0{p:Pg}{fn n:Int}(h:iX p fn n≠[]):∃(i m:Nat) (hi:i<p.length),fn=i/\n=m/\m<=p[i].body.length/\(iX p fn n).Nodup/\∀x∈iX p fn n,x∈nZ p[i] m:=by
 unfold iX at h⊢
 cases ha:atS p fn n with
 |none=>rw[ha]at h;exact absurd rfl h
 |some v=>
  simp only
  obtain⟨i,m,hi,rfl,rfl,hm,hfine,hz,hv⟩:=zM ha
  have hR:∃e,Rel e v []:=by
   rcases Cx p i m with⟨h1,-⟩|⟨v',e,h1,-,hr⟩
   ·rw[ha]at h1;simp at h1
   ·rw[ha]at h1;simp at h1;subst h1;exact⟨e,hr⟩
  obtain⟨e,hr⟩:=hR
  refine⟨i,m,hi,rfl,rfl,hm,?_,fun x hx=>?_⟩
  ·unfold fN
   exact(List.filter_sublist.map _).nodup hr.ok.nd
  ·unfold fN at hx
   rw[aY]at hx
   obtain⟨y,hy,rfl⟩:=hx
   have hyv:=(eF.1 hy).1
   have hne:=hr.ok.ne y hyv
   have hmem:y.name∈v.vars.map (·.name):=aY.2 ⟨y,hyv,rfl⟩
   rw[<-hv]at hmem
   unfold jZ at hmem
   have g0:∀z∈(cV (bz (p.take i)) p[i].params).1.vars.map (·.name),z∈p[i].params.map (·.name):=fun z hz=>by
    rcases rO _ _ z hz with h|h
    ·simp[bz]at h
    ·exact h
   unfold nZ
   rw[aF,eF]
   split at hmem
   ·rcases rC _ _ _ hmem with h|h
    ·exact .inl (g0 _ h)
    ·exact .inr ⟨h,by simp[cE.2 hne]⟩
   ·exact .inl (g0 _ hmem)
section
variable {P:Program}{F:bS}
theorem ki{a:List ByteArray}{k:Nat}(h:k<a.length):(a9 a)[k]?=some [S a[k]]:=by simp[a9,h]
theorem uJ(L:eC P F)(a:List ByteArray)(hl:a.length<=2^30):cM P F.l_lhTexts [.sl 1 none (a9 a),.sl 1 none (a9 a)] (B true):=by
 refine L.l_lhTexts (by simp[nD]) ?_
 have hlen:(a9 a).length=a.length:=by simp[a9]
 simp only[nD,go_sem,rE,rA,rL,hlen,fg,eZ,dE]
 refine aT a.length (fun k E' H'=>E' 0=.sl 1 none (a9 a)/\E' 1=.sl 1 none (a9 a)/\E' 5=I k) ⟨rfl,rfl,rfl⟩ ?_
 rintro k E H hk ⟨q0,q1,q5⟩
 simp only[go_sem,rE,rA,rL,q0,q5,hlen]
 refine aG (fun hlt=>?_) (fun hge=>?_)
 ·have hk1:k<a.length:=by omega
  have w1:=aL (n:=(k:Int)+1) (by omega) (by omega)
  simp only[go_sem,rE,rA,rL,q0,q1,q5,ki hk1,dE,w1]
  exact⟨hk1,H,aj.sub_refl _,by simp⟩
 ·have hkk:k=a.length:=by omega
  subst hkk
  simp only[go_sem,rE,rA,rL]
  exact ak (.refl _) (aj.sub_empty _) ⟨rfl,rfl⟩
theorem zJ(L:eC P F)(a:List ByteArray)(s:ByteArray)(hl:a.length<=2^30):cM P F.l_lhHas [.sl 1 none (a9 a),S s] (B (a.any fun m=>eqB m s)):=by
 refine L.l_lhHas (by simp[qX]) ?_
 have hlen:(a9 a).length=a.length:=by simp[a9]
 simp only[qX,go_sem,rE,rA,rL]
 refine aT a.length (fun k E' H'=>E' 0=.sl 1 none (a9 a)/\E' 1=S s/\E' 5=I k/\(a.take k).any (fun m=>eqB m s)=false) ⟨rfl,rfl,rfl,by simp⟩ ?_
 rintro k E H hk ⟨q0,q1,q5,hall⟩
 simp only[go_sem,rE,rA,rL,q0,q5,hlen]
 refine aG (fun hlt=>?_) (fun hge=>?_)
 ·have hk1:k<a.length:=by omega
  have w1:=aL (n:=(k:Int)+1) (by omega) (by omega)
  simp only[go_sem,rE,rA,rL,q0,q1,q5,ki hk1,dg]
  cases h:eqB a[k] s with
  |true=>
   simp only[go_sem,rE,rA,rL]
   refine ak (.refl _) (aj.sub_empty _) ⟨?_,rfl⟩
   have:a.any (fun m=>eqB m s)=true:=fJ.2 ⟨a[k],ay hk1,h⟩
   rw[this];rfl
  |false=>
   simp only[go_sem,rE,rA,rL,q0,q1,q5,w1]
   refine⟨hk1,H,aj.sub_refl _,by simp,?_⟩
   rw[aA hk1,fy,hall]
   simp[h]
 ·have hkk:k=a.length:=by omega
  subst hkk
  rw[aU]at hall
  simp only[go_sem,rE,rA,rL]
  exact ak (.refl _) (aj.sub_empty _) ⟨by rw[hall];rfl,rfl⟩
noncomputable def iR(ps:List Pa)(ss:List St):List ByteArray:=ps.map (·.name)++(ss.map (·.name)).filter fun m=>!eqB m (bl [])
theorem AD(L:eC P F)(f:Fu)(m:Nat)(hm:m<=f.body.length)(h1:f.params.length<=2^20)(h2:f.body.length<=2^20):bD P F.l_lhGiven [.agg f.enc,I m] .empty fun q H'=>q=.sl 1 none (a9 (nZ f m))/\H'=.empty:=by
 refine L.l_lhGiven (by simp[nE]) ?_
 obtain⟨cf,hcf,CF⟩:=fuC f
 rw[hcf]
 simp only[nE,go_sem,rE,rA,rL]
 intro b2 hb2 bt hbt
 have d2:=al (ai _ _ _) hbt
 have g2:((aj.empty.set b2 (.cells cf)).set bt (.tail 0 0)).get b2=some (.cells cf):=by rw[ae _ _ d2,ai]
 have gt:=ai (aj.empty.set b2 (.cells cf)) bt (.tail 0 0)
 generalize(aj.empty.set b2 (.cells cf)).set bt (.tail 0 0)=H0 at*
 clear hb2 hbt
 have cfb:(cf.drop 4)[0]?=some (.sl 15 none (St.encs f.body)):=by rw[bC];exact CF.body
 have cfp:(cf.drop 1)[0]?=some (.sl 3 none (f.params.map Pa.enc)):=by rw[bC];exact CF.params
 have hel:(St.encs f.body).length=f.body.length:=by rw[St.encs_map,am]
 refine aT f.params.length (fun k E' H'=>E' 1=I m/\E' 2=.ptr b2 0/\E' 6=I k/\H'.get b2=some (.cells cf)/\bR H' 1 (a9 (iR (f.params.take k) [])) (E' 5)/\¬cG (E' 5) b2)
  ⟨rfl,rfl,rfl,g2,.inr ⟨bt,0,0,rfl,gt⟩,fun⟨_,_,_,_,e⟩=>by simp[fR,md]at e;obtain⟨-,⟨rfl,-⟩,-⟩:=e;exact d2 rfl⟩ ?_
 rintro k E H hk ⟨q1,q2,q6,g,qa,qt⟩
 simp only[go_sem,rE,rA,rL,q2,q6,g,CF.len,CF.params,cfp,am]
 refine aG (fun hlt=>?_) (fun hge=>?_)
 ·have hk1:k<f.params.length:=by omega
  have w1:=aL (n:=(k:Int)+1) (by omega) (by omega)
  obtain⟨cp,hcp,CP⟩:=paC f.params[k]
  have hgp:(f.params.map Pa.enc)[k]?=some cp:=by rw[<-hcp];simp[hk1]
  simp only[go_sem,rE,rA,rL,q2,q6,g,CF.len,CF.params,cfp,hgp,CP.name,CP.len,ax,aq,az]
  refine eM (es:=a9 (iR (f.params.take k) [])) (ys:=[[S f.params[k].name]]) (by simp only[go_sem,rE,rA,rL];exact qa) (by simp[go_sem,bh]) (by simp) (by simp[a9,iR];omega) ?_
  intro x' H4 fp hx' hfp hkeep hnew
  have hrow:a9 (iR (f.params.take (k+1)) [])=a9 (iR (f.params.take k) [])++[[S f.params[k].name]]:=by simp only[iR,aA hk1,a9,bB,aS,bv,List.filter_nil,cX]
  simp only[go_sem,rE,rA,rL,q1,q2,q6,w1]at hkeep hnew⊢
  refine⟨hk1,H4,aj.sub_refl _,by simp,by rw[hkeep b2 (by rw[g];simp) qt];exact g,by rw[hrow];exact hx',fun h=>?_⟩
  rcases hnew b2 h with h|h
  ·exact qt h
  ·rw[g]at h;simp at h
 ·have hkk:k=f.params.length:=by omega
  subst hkk
  rw[aU]at qa
  simp only[go_sem,rE,rA,rL]
  refine aT m (fun k E' H'=>E' 1=I m/\E' 2=.ptr b2 0/\E' 7=I k/\H'.get b2=some (.cells cf)/\bR H' 1 (a9 (iR f.params (f.body.take k))) (E' 5)/\¬cG (E' 5) b2)
   ⟨q1,q2,rfl,g,by simp only[go_sem,rE];exact qa,by simp only[go_sem,rE];exact qt⟩ ?_
  clear qa qt q1 q2 g q6
  rintro k E H hk ⟨q1,q2,q7,g,qa,qt⟩
  simp only[go_sem,rE,rA,rL,q1,q7]
  refine aG (fun hlt=>?_) (fun hge=>?_)
  ·have hk1:k<f.body.length:=by omega
   have hkm:k<m:=by omega
   have w1:=aL (n:=(k:Int)+1) (by omega) (by omega)
   obtain⟨cs,hcs,CS⟩:=stC f.body[k]
   have hgs:(St.encs f.body)[k]?=some cs:=by rw[St.encs_map,<-hcs];simp[hk1]
   have csn:(cs.drop 1)[0]?=some (S f.body[k].name):=by rw[bC];exact CS.name
   have htk:(f.body.take (k+1)).map (·.name)=(f.body.take k).map (·.name)++[f.body[k].name]:=by rw[aA hk1,bB];rfl
   simp only[go_sem,rE,rA,rL,q2,q7,g,CF.len,CF.body,cfb,hgs,CS.name,csn,CS.len,dg]
   cases hne:eqB f.body[k].name (bl [])with
   |true=>
    simp only[go_sem,rE,rA,rL,q1,q2,q7,w1]
    have hrow:iR f.params (f.body.take (k+1))=iR f.params (f.body.take k):=by
     unfold iR
     rw[htk,List.filter_append]
     simp[hne]
    exact⟨hkm,H,aj.sub_refl _,by simp,g,by rw[hrow];exact qa,qt⟩
   |false=>
    simp only[go_sem,rE,rA,rL,q2,q7,g,CF.len,CF.body,cfb,hgs,CS.name,csn,CS.len,ax,aq,az]
    refine eM (es:=a9 (iR f.params (f.body.take k))) (ys:=[[S f.body[k].name]]) (by simp only[go_sem,rE,rA,rL];exact qa) (by simp[go_sem,bh]) (by simp) (by
     have:((f.body.take k).map (·.name)|>.filter fun m=>!eqB m (bl [])).length<=f.body.length:=bZ (ix _ _) (by simp;omega)
     simp[a9,iR]at this⊢;omega) ?_
    intro x' H4 fp hx' hfp hkeep hnew
    have hrow:a9 (iR f.params (f.body.take (k+1)))=a9 (iR f.params (f.body.take k))++[[S f.body[k].name]]:=by
     unfold iR
     rw[htk,List.filter_append]
     simp[hne,a9]
    simp only[go_sem,rE,rA,rL,q1,q2,q7,w1]at hkeep hnew⊢
    refine⟨hkm,H4,aj.sub_refl _,by simp,by rw[hkeep b2 (by rw[g];simp) qt];exact g,by rw[hrow];exact hx',fun h=>?_⟩
    rcases hnew b2 h with h|h
    ·exact qt h
    ·rw[g]at h;simp at h
  ·have hkk:k=m:=by omega
   subst hkk
   simp only[go_sem,rE,rA,rL]
   exact ak qa.le (aj.sub_empty _) ⟨rfl,rfl⟩
end
theorem BT:(⟨bl [],[⟨bl [],false,.mk []⟩],false,.mk [],[],E0,P0⟩:Fu).good:=⟨⟨by simp;exact⟨dN⟩,dN⟩,by simp,by simp,by simp[eS],by simp,xU⟩
section
variable {P:Program}{F:Ids}
theorem AG(L:Lib P F)(r:Nat)(bs:List UInt8)(hbs:bs.length<=2000)(p:Int)(hp:0<=p)(hp2:p+5*FC<=2^50):
 bD P F.s_l71Prog [.ptr r 0] (one r (RdO bs p)) (RdR r bs p (5*FC) fun q=>∃pr:Pg,q=.agg (Pg.enc pr)/\(∀f∈pr,f.good)/\1<=pr.length/\pr.length<=4):=by
 simp only[FC]at hp2
 refine L.s_l71Prog (by simp[nu]) ?_
 simp only[nu,go_sem,rE,rA]
 intro b2 hb2 b3 hb3
 have hr2:r≠b2:=by rintro rfl;rw[bE]at hb2;simp at hb2
 have d23:b2≠b3:=pO hb3
 have hr3:r≠b3:=by rintro rfl;rw[ae _ _ hr2,bE]at hb3;simp at hb3
 have gr:(((one r (RdO bs p)).set b2 (.cells [NIL])).set b3 (.cells [NIL])).get r=some (RdO bs p):=by rw[ae _ _ hr3,ae _ _ hr2,bE]
 have g2:(((one r (RdO bs p)).set b2 (.cells [NIL])).set b3 (.cells [NIL])).get b2=some (.cells [NIL]):=by rw[ae _ _ d23,ai]
 have g3:(((one r (RdO bs p)).set b2 (.cells [NIL])).set b3 (.cells [NIL])).get b3=some (.cells [NIL]):=ai _ _ _
 generalize(((one r (RdO bs p)).set b2 (.cells [NIL])).set b3 (.cells [NIL]))=H0 at*
 clear hb2 hb3
 refine bg (cH L r bs p 4 hbs hp (by omega)) (rfl) gr (by simp) trivial ?_
 rintro q p1 hp1 hp1' ⟨k0,rfl,hk00,hk01⟩
 have g2:(H0.set r (RdO bs p1)).get b2=_:=(ae _ _ (Ne.symm hr2)).trans g2
 have g3:(H0.set r (RdO bs p1)).get b3=_:=(ae _ _ (Ne.symm hr3)).trans g3
 have gr:(H0.set r (RdO bs p1)).get r=_:=ai _ _ _
 generalize H0.set r (RdO bs p1)=H1 at*
 have w1:=aL (n:=1+k0) (by omega) (by omega)
 obtain⟨n,hn⟩:∃n:Nat,1+k0=(n:Int):=⟨(1+k0).toNat,by omega⟩
 rw[hn]at w1
 simp only[go_sem,rE,rA,w1,hn]
 let J:Nat->Env->aj->Prop:=fun k E H=>∃(p':Int) (X:AC) (pr:Pg),H.get r=some (RdO bs p')/\H.get b2=some (.cells [NIL])/\H.get b3=some (.cells [X])/\p<=p'/\p'<=p+1+FC*k/\pr.length=k/\(∀f∈pr,f.good)/\bR H 12 (pr.map Fu.enc) X/\
  E 0=.ptr r 0/\E 2=.ptr b2 0/\E 3=.ptr b3 0/\E 4=I ((n:Int) - k)
 refine aT n J ⟨p1,NIL,[],gr,g2,g3,hp1,by simp;omega,rfl,by simp,.nil _ _,rfl,rfl,rfl,rfl⟩ ?_
 clear gr g2 g3
 rintro k E H hk ⟨p',X,pr,gr,g2,g3,hq1,hq2,hpr,hgood,hX,e0,e2,e3,e4⟩
 simp only[FC]at hq2
 simp only[wp_seq,go_sem,rE,rA,e4]
 refine aG (fun hlt=>?_) (fun hge=>?_)
 ·have w2:=aL (n:=(n:Int) - k - 1) (by omega) (by omega)
  simp only[go_sem,rE,rA,e0,e3,g3,rL]
  refine bg (as:=[.ptr r 0,.agg [X]]) ((c_l71Fn L r bs hbs pr (fun g hg=>⟨(hgood g hg).okS,(hgood g hg).pars.2⟩) (by omega) p' (by omega) (by simp only[FC];omega)).args ⟨.refl _,.agg ⟨⟨hX.le,rfl⟩,trivial⟩,trivial⟩) (rfl) gr (fun _=>⟨by simp[FC],_,_,rfl,BT⟩) (by simp[dS];exact Ne.symm hr3) ?_
  rintro q p2 hp2 hp2' ⟨f,rfl,hf⟩
  simp only[FC]at hp2'
  have g2:(H.set r (RdO bs p2)).get b2=_:=(ae _ _ (Ne.symm hr2)).trans g2
  have g3:(H.set r (RdO bs p2)).get b3=_:=(ae _ _ (Ne.symm hr3)).trans g3
  have hX2:bR (H.set r (RdO bs p2)) 12 (pr.map Fu.enc) X:=hX.keepF fun d hd=>ae _ _ (by rintro rfl;obtain⟨n,m,h⟩:=hX.mem hd;rw[gr]at h;simp[RdO]at h)
  have gr:(H.set r (RdO bs p2)).get r=_:=ai _ _ _
  generalize H.set r (RdO bs p2)=Ha at*
  clear hX
  obtain⟨cf,hcf,CF⟩:=fuC f
  simp only[hcf,go_sem,rE,rA,CF.len,CF.all,ax,aq,az,rL,bh]
  refine eM (es:=pr.map Fu.enc) (ys:=[cf]) (by simp only[go_sem,rE];exact hX2) (rfl) (by simp[CF.len]) (by simp;omega) ?_
  intro x' Hc fpc hx' _ keep new
  simp only[go_sem,rE]at keep new
  have hx1:=hx'.one
  have in1:∀{d cs},Ha.get d=some (.cells cs)->Hc.get d=some (.cells cs):=fun {d cs} hd=>by
   rw[keep d (by rw[hd];simp) fun ht=>by obtain⟨n,m,h⟩:=hX2.mem ht;rw[hd]at h;simp at h];exact hd
  have g2:=in1 g2
  have g3:=in1 g3
  have gr:=in1 gr
  simp only[go_sem,rE,rA,e3,e4,g3,hx1,w2,rL]
  refine⟨by omega,_,aj.sub_refl _,p2,x',pr++[f],(ae _ _ hr3).trans gr,(ae _ _ d23).trans g2,ai _ _ _,by omega,by simp only[FC];omega,by simp;exact hpr,fun x hx=>?_,?_,e0,e2,e3,by simp only[go_sem,rE];congr 2;omega⟩
  ·rcases aF.1 hx with h|h
   ·exact hgood x h
   ·simp at h;subst h;exact hf
  ·rw[bB,aS,bv,hcf]
   exact hx'.set g3 _
 ·simp only[go_sem,rE,rA,e2,e3,g2,g3,rL]
  exact bY (q':=.agg (Pg.enc pr)) (off:=0) (e2) (ai _ _ _) rfl (.agg ⟨⟨hX.le,rfl⟩,trivial⟩) (eO (by rw[ae _ _ hr2];exact gr)) ⟨p',hq1,by simp only[FC];omega,rfl,pr,rfl,hgood,by omega,by omega⟩
end
def ke(ss:List ByteArray):List (List AC):=ss.map fun s=>[S s]
theorem txt_get{ss:List ByteArray}{k:Nat}(h:k<ss.length):(ke ss)[k]?=some [S ss[k]]:=by simp[ke,h]
theorem txt_len(ss:List ByteArray):(ke ss).length=ss.length:=by simp[ke]
def Ty.lo(t:Ty):Prop:=∃D,D<=12/\t.le D
section
variable {P:Program}{F:Ids}
theorem c_of(L:Lib P F)(r:Nat)(bs:List UInt8)(hbs:bs.length<=2000)(ss:List ByteArray)(hne:0<ss.length)(hl:ss.length<=1000)(p:Int)(hp:0<=p)(hp2:p+1<=2^50):
 bD P F.s_l6Rd_of [.ptr r 0,.sl 1 none (ke ss)] (one r (RdO bs p)) (RdR r bs p 1 fun q=>∃s,q=S s):=by
 refine L.s_l6Rd_of (by simp[ny]) ?_
 simp only[ny,go_sem,rE,rA,txt_len]
 refine bg (cH L r bs p ss.length hbs hp (by omega)) (rfl) (bE _ _) (by simp) trivial ?_
 rintro q p1 hp1 hp1' ⟨k,rfl,hk0,hk1⟩
 have hkl:k.toNat<ss.length:=by omega
 rw[gR]
 simp only[go_sem,rE,rA,hk0,txt_get hkl]
 exact gK ⟨p1,hp1,hp1',rfl,_,rfl⟩
def TyT(r:Nat)(bs:List UInt8)(p c:Int)(d:Nat)(q:AC)(H':aj):Prop:=∃(p':Int) (X:AC) (t:Ty),p<=p'/\p'<=p+c/\q=.agg [X]/\H'.get r=some (RdO bs p')/\bR H' 1 (Ty.encs t.kids) X/\t.le d/\¬cG X r/\t.kids.length<=2
theorem yS(L:Lib P F)(r:Nat)(bs:List UInt8)(hb:bs.length<=2000)(d:Nat)(dp:Int)(hd:dp<=d+1)(hd':d+1<=100)(hdp:-10<=dp)(p:Int)(hp:0<=p)(hp':p+eQ (d+1)<=2^50):
 bD P F.s_l71Type [.ptr r 0,I dp] (one r (RdO bs p)) (TyT r bs p (eQ (d+1)) (d+1)):=by
 have tn:=mI d
 simp only[eQ]at hp'
 refine L.s_l71Type (by simp[gZ]) ?_
 simp only[gZ,go_sem,rE]
 intro b hb'
 have hrb:r≠b:=by rintro rfl;rw[bE]at hb';simp at hb'
 have hbr:b≠r:=Ne.symm hrb
 have leaf:∀(E:Env) p',p<=p'->p'<=p+eQ (d+1)->E 4=.ptr b 0->
  aD.post [j4.cell 4 (some 1)] (TyT r bs p (eQ (d+1)) (d+1)) .ret E ((one r (RdO bs p')).set b (.cells [AC.lit (.slice none 0 0)])):=by
  intro E p' h1 h2 hE
  exact bY (q':=.agg [NIL]) hE (ai _ _ _) rfl (.refl _) (o9 (gk _ hbr)) ⟨p',NIL,.mk [],h1,h2,rfl,bE _ _,.nil _ _,k9 _,by rintro⟨_,_,_,_,h⟩;simp at h,by simp[Ty.kids]⟩
 by_cases h2:dp<2
 ·simp only[go_sem,rE,h2,aC,rA]
  exact leaf _ p (dz _) (by simp only[eQ];omega) (rfl)
 ·simp only[go_sem,rE,h2]
  refine bg (cH L r bs p 3 hb hp (by omega)) (rfl) (by simp only[go_sem,hrb,bE]) (by simp) trivial ?_
  rintro q p1 hp1 hp1' ⟨k,rfl,hk0,hk3⟩
  simp only[go_sem,rE]
  rw[fk hbr,gR]
  refine aG (fun hgt=>?_) (fun hle=>?_)
  ·simp only[go_sem,rE,aC,rA]
   exact leaf _ p1 hp1 (by simp only[eQ];omega) (rfl)
  ·have w1:=aL (n:=dp - 1) (by omega) (by omega)
   simp only[go_sem,rE,w1]
   refine bg (ky L r bs hb d (dp - 1) (by omega) (by omega) p1 (by omega) (by omega)) (rfl) (by simp only[go_sem,hrb,bE]) (by simp) trivial ?_
   rintro q p2 hp2 hp2' ⟨t1,rfl,ht1⟩
   rw[fk hbr,gR]
   simp only[go_sem,rE,w1]
   refine bg (ky L r bs hb d (dp - 1) (by omega) (by omega) p2 (by omega) (by omega)) (rfl) (by simp only[go_sem,hrb,bE]) (by simp) trivial ?_
   rintro q p3 hp3 hp3' ⟨t2,rfl,ht2⟩
   rw[fk hbr,gR]
   obtain⟨k1⟩:=t1
   obtain⟨k2⟩:=t2
   simp only[go_sem,rE,Ty.enc,ax,aq,az,rA,rL,aC,Nat.reduceMul]
   intro b2 hb2
   have h2b:b≠b2:=by rintro rfl;simp at hb2
   have h2r:r≠b2:=by rintro rfl;rw[ae _ _ hrb,bE]at hb2;simp at hb2
   simp only[go_sem,h2b,bh,aC,rA]
   refine bY (q':=.agg [.sl 1 (some (b2,2,2)) (Ty.encs [.mk k1,.mk k2])]) (off:=0) (rfl) (ai _ _ _) rfl (.refl _) (aj.sub_refl _)
    ⟨p3,_,.mk [.mk k1,.mk k2],by omega,by simp only[eQ];omega,rfl,by rw[ae _ _ hrb,ae _ _ h2r,ae _ _ hrb,bE],.inr ⟨b2,2,2,rfl,by rw[ae _ _ (Ne.symm h2b),ai]⟩,?_,?_,by simp[Ty.kids]⟩
   ·simp only[Ty.le,aV,bP,bf,cq,or_false,forall_eq_or_imp,forall_eq]
    exact⟨by omega,ht1,ht2⟩
   ·rintro⟨_,_,_,_,h⟩;simp at h;exact h2r h.2.1.1.symm
end
theorem LeR.tys:∀p:List Ty,LeR (p.map Ty.enc) (p.map Ty.enc)
 |[]=>trivial
 |f::p=>⟨by rw[Ty.enc_eq f];exact⟨⟨.refl _,rfl⟩,trivial⟩,LeR.tys p⟩
theorem BC{H:aj}{r:Nat}{o:cK}(h:H.get r=some o):H.only (fun d=>d=r)=one r o:=by
 apply aj.ext
 intro b
 by_cases hb:b=r
 ·subst hb;rw[bm (S:=fun d=>d=b) rfl,bE];exact h
 ·rw[cd (S:=fun d=>d=r) hb,gk _ hb]
section
variable {P:Program}{F:Ids}
theorem zW(L:Lib P F){K:Env->aj->Prop}{xs:List aN}{E:Env}{H:aj}{l:Lds}{f:Fps}{i:Nat}{args:List aI}{d:Option Nat}(r:Nat)(bs:List UInt8)(hb:bs.length<=2000)(dn:Nat)(dp:Int)(hd:dp<=dn+1)(hd':dn+1<=100)(hdp:-10<=dp)(p:Int)(hp:0<=p)(hp':p+eQ (dn+1)<=2^50)
(hr:H.get r=some (RdO bs p))(ha:args.map (aI.ev E)=[.ptr r 0,I dp])
(h:∀p' X t H1 fp,p<=p'->p'<=p+eQ (dn+1)->H1.get r=some (RdO bs p')->bR H1 1 (Ty.encs t.kids) X->Ty.le (dn+1) t->t.kids.length<=2->(∀c,H.get c≠none->c≠r->H1.get c=H.get c)->bw P false K xs (E.put d (.agg [X])) H1 l ((i,fp)::f)):
 bw P false K (⟨i,d,none,.eff (.call F.s_l71Type args),[]⟩::xs) E H l f:=by
 have hc:=yS L r bs hb dn dp hd hd' hdp p hp hp'
 rw[<-BC hr]at hc
 refine gH (fun d=>d=r) hc ha (.refl _) (by simp) trivial ?_
 rintro q H' H1 ⟨p',X,t,h1,h2,rfl,h3,h4,h5,h6,h7⟩ hsub hafter hnew -
 refine h p' X t H1 _ h1 h2 (hsub _ _ h3) ?_ h5 h7 (fun c hc hn=>hafter.out c hn hc)
 rcases h4 with h|⟨b,n,m,rfl,hb⟩
 ·exact .inl h
 ·exact .inr ⟨b,n,m,rfl,hsub _ _ hb⟩
theorem uK(L:Lib P F)(r:Nat)(bs:List UInt8)(hbs:bs.length<=2000)(p:Int)(hp:0<=p)(hp2:p+40<=2^50):
 bD P F.s_l71Deep [.ptr r 0] (one r (RdO bs p)) (RdR r bs p 40 fun q=>∃t:Ty,q=.agg t.enc/\t.lo):=by
 refine L.s_l71Deep (by simp[nw]) ?_
 simp only[nw,go_sem,rE,rA]
 intro b2 hb2
 have hr2:r≠b2:=by rintro rfl;rw[bE]at hb2;simp at hb2
 have gr:((one r (RdO bs p)).set b2 (.cells [NIL])).get r=some (RdO bs p):=by rw[ae _ _ hr2,bE]
 have g2:((one r (RdO bs p)).set b2 (.cells [NIL])).get b2=some (.cells [NIL]):=ai _ _ _
 generalize((one r (RdO bs p)).set b2 (.cells [NIL]))=H0 at*
 clear hb2
 refine bg (cH L r bs p 4 hbs hp (by omega)) (rfl) gr (by simp) trivial ?_
 rintro q p1 hp1 hp1' ⟨k0,rfl,hk00,hk01⟩
 have g2:(H0.set r (RdO bs p1)).get b2=_:=(ae _ _ (Ne.symm hr2)).trans g2
 have gr:(H0.set r (RdO bs p1)).get r=_:=ai _ _ _
 generalize H0.set r (RdO bs p1)=H1 at*
 have w1:=aL (n:=1+k0) (by omega) (by omega)
 simp only[go_sem,rE,rA,w1]
 refine zW L r bs hbs 3 (1+k0) (by omega) (by omega) (by omega) p1 (by omega) (by simp[eQ];omega) gr (rfl) ?_
 intro p2 X t H2 fp2 hp2 hp2' gr2 hX ht htk keep
 simp only[eQ]at hp2'
 have g2:H2.get b2=_:=(keep b2 (by rw[g2];simp) (Ne.symm hr2)).trans g2
 simp only[go_sem,rE,rA]
 intro b3 hb3
 have hr3:=al gr2 hb3
 have d23:=al g2 hb3
 have hx1:=hX.one
 have gr:(H2.set b3 (.cells [X])).get r=_:=(ae _ _ hr3).trans gr2
 have g2:(H2.set b3 (.cells [X])).get b2=_:=(ae _ _ d23).trans g2
 have g3:(H2.set b3 (.cells [X])).get b3=_:=ai _ _ _
 have hX:=hX.new hb3 (.cells [X])
 generalize H2.set b3 (.cells [X])=H3 at*
 clear gr2 keep hb3
 refine bg (cH L r bs p2 12 hbs (by omega) (by omega)) (rfl) gr (by simp) trivial ?_
 rintro q p3 hp3 hp3' ⟨k1,rfl,hk10,hk11⟩
 have g2:(H3.set r (RdO bs p3)).get b2=_:=(ae _ _ (Ne.symm hr2)).trans g2
 have g3:(H3.set r (RdO bs p3)).get b3=_:=(ae _ _ (Ne.symm hr3)).trans g3
 have hX:bR (H3.set r (RdO bs p3)) 1 (Ty.encs t.kids) X:=hX.keepF fun d hd=>ae _ _ (by rintro rfl;obtain⟨n,m,h⟩:=hX.mem hd;rw[gr]at h;simp[RdO]at h)
 have gr:(H3.set r (RdO bs p3)).get r=_:=ai _ _ _
 generalize H3.set r (RdO bs p3)=H4 at*
 have fin:∀(E:Env) (H:aj) (Y:AC) (t:Ty) (p':Int),H.get r=some (RdO bs p')->H.get b2=some (.cells [NIL])->H.get b3=some (.cells [Y])->Le Y (.sl 1 none (Ty.encs t.kids))->t.lo->p<=p'->p'<=p+40->E 2=.ptr b2 0->E 3=.ptr b3 0->
  aX.wp P (.seq (rg [ld 0 30 (some 1) 3,en 1 (.store 1 2 30)]) .ret) (aD.post [.cell 2 (some 1)] (RdR r bs p 40 fun q=>∃t:Ty,q=.agg t.enc/\t.lo)) E H:=by
  intro E H Y t p' gr g2 g3 hY ht h1 h2 e2 e3
  simp only[go_sem,rE,rA,e2,e3,g2,g3,rL]
  exact bY (q':=.agg t.enc) (off:=0) (e2) (ai _ _ _) rfl (by rw[Ty.enc_eq t];exact .agg ⟨⟨hY,rfl⟩,trivial⟩) (eO (by rw[ae _ _ hr2];exact gr)) ⟨p',h1,h2,rfl,t,rfl,ht⟩
 generalize((.seq (rg [ld 0 30 (some 1) 3,en 1 (.store 1 2 30)]) .ret):aX)=RF at fin⊢
 by_cases hk0:k1=0
 ·simp only[hk0,go_sem,rE,rA,aH]
  let J:Nat->Env->aj->Prop:=fun k E H=>∃(Y:AC) (t:Ty),H.get r=some (RdO bs p3)/\H.get b2=some (.cells [NIL])/\H.get b3=some (.cells [Y])/\Le Y (.sl 1 none (Ty.encs t.kids))/\Y.cells?=some [Y]/\t.le (4+k)/\E 0=.ptr r 0/\E 2=.ptr b2 0/\E 3=.ptr b3 0/\E 4=I k
  refine aT 5 J ⟨X,t,gr,g2,g3,hX.le,hx1,ht,rfl,rfl,rfl,rfl⟩ ?_
  clear gr g2 g3 hX
  rintro k E H hk ⟨Y,t,gr,g2,g3,hY,hY1,ht,e0,e2,e3,e4⟩
  simp only[wp_seq,go_sem,rE,rA,e4]
  refine aG (fun hlt=>?_) (fun hge=>?_)
  ·have w2:=aL (n:=(k:Int)+1) (by omega) (by omega)
   simp only[go_sem,rE,rA,e3,g3,hY1,ax,aq,az,rL,bh]
   intro b5 hb5
   have hr5:=al gr hb5
   have d25:=al g2 hb5
   have d35:=al g3 hb5
   simp only[go_sem,rE,rA,e3,e4,g3,d35,w2,rL]
   refine⟨by omega,_,aj.sub_refl _,_,.mk [t,.mk []],by rw[ae _ _ hr3,ae _ _ hr5];exact gr,by rw[ae _ _ d23,ae _ _ d25];exact g2,ai _ _ _,?_,rfl,?_,e0,e2,e3,rfl⟩
   ·simp only[Ty.kids,Ty.encs,Ty.enc_eq t,Ty.enc]
    exact .slR ⟨⟨⟨hY,rfl⟩,trivial⟩,⟨⟨.nil 1,rfl⟩,trivial⟩,trivial⟩
   ·show Ty.le ((4+k)+1) _
    simp only[Ty.le,aV,bP,bf,cq,or_false,forall_eq_or_imp,forall_eq]
    exact⟨by omega,ht,k9 _⟩
  ·simp only[go_sem,rE,rA]
   exact fin _ _ Y t p3 gr g2 g3 hY ⟨4+k,by omega,ht⟩ (by omega) (by omega) (e2) (e3)
 have hk0':(k1==0)=false:=by simpa using hk0
 by_cases hk1:k1=1
 ·have hk1':(k1==1)=true:=by simpa using hk1
  simp only[hk0',hk1',go_sem,rE,rA,g3,ax,aq,az,rL,bh]
  refine eM (es:=Ty.encs t.kids) (ys:=[[NIL]]) (by simp only[go_sem,rE];exact hX) (rfl) (by simp) (by rw[Ty.encs_map];simp;omega) ?_
  intro x' Hc fpc hx' _ keep new
  simp only[go_sem,rE]at keep new
  have hx1':=hx'.one
  have in1:∀{d cs},H4.get d=some (.cells cs)->Hc.get d=some (.cells cs):=fun {d cs} hd=>by
   rw[keep d (by rw[hd];simp) fun ht=>by obtain⟨n,m,h⟩:=hX.mem ht;rw[hd]at h;simp at h];exact hd
  have g2:=in1 g2
  have g3:=in1 g3
  have gr:=in1 gr
  simp only[go_sem,rE,rA,g3,hx1',rL]
  refine fin _ _ x' (.mk (t.kids++[.mk []])) p3 ((ae _ _ hr3).trans gr) ((ae _ _ d23).trans g2) (ai _ _ _) ?_ ⟨4,by omega,?_⟩ (by omega) (by omega) (rfl) (rfl)
  ·refine hx'.le.trans ?_
   simp only[Ty.kids,Ty.encs_map,bB,aS,bv,Ty.enc]
   exact .slR (LeR.snoc (LeR.tys t.kids) ⟨⟨.nil 1,rfl⟩,trivial⟩)
  ·obtain⟨ks⟩:=t
   simp only[Ty.kids]at htk⊢
   simp only[Ty.le,bq,aV,bP]at ht⊢
   refine⟨by omega,fun k hk=>?_⟩
   rcases aF.1 hk with h|h
   ·exact ht.2 k h
   ·simp at h;subst h;exact k9 _
 ·have hk1':(k1==1)=false:=by simpa using hk1
  simp only[hk0',hk1',go_sem,rE,rA]
  exact fin _ _ X t p3 gr g2 g3 hX.le ⟨4,by omega,ht⟩ (by omega) (by omega) (rfl) (rfl)
end
def FZ(b c sz:Nat)(rows:List (List AC))(x y:AC):Prop:=x=y\/(x=.lit (.slice (some ⟨b,0,none⟩) rows.length c)/\y=.sl sz none rows)
def FZL(b c sz:Nat)(rows:List (List AC)):List AC->List AC->Prop
 |[],[]=>True
 |x::xs,y::ys=>FZ b c sz rows x y/\FZL b c sz rows xs ys
 |_,_=>False
theorem FZL.refl(b c sz:Nat)(rows:List (List AC)):∀xs,FZL b c sz rows xs xs
 |[]=>trivial
 |x::xs=>⟨.inl rfl,FZL.refl b c sz rows xs⟩
theorem FZL.length{b c sz:Nat}{rows:List (List AC)}:∀{xs ys},FZL b c sz rows xs ys->xs.length=ys.length
 |[],[],_=>rfl
 |x::xs,y::ys,h=>by simp[FZL.length h.2]
theorem FZL.get{b c sz:Nat}{rows:List (List AC)}:∀{xs ys},FZL b c sz rows xs ys->∀(j:Nat) {y},ys[j]?=some y->∃x,xs[j]?=some x/\FZ b c sz rows x y
 |[],[],_,j,y,hy=>by simp at hy
 |x::xs,y::ys,h,0,z,hz=>by simp at hz;subst hz;exact⟨x,by simp,h.1⟩
 |x::xs,y::ys,h,j+1,z,hz=>by simpa using FZL.get h.2 j (by simpa using hz)
theorem FZL.append{b c sz:Nat}{rows:List (List AC)}:∀{xs ys us vs},FZL b c sz rows xs ys->FZL b c sz rows us vs->FZL b c sz rows (xs++us) (ys++vs)
 |[],[],_,_,_,h=>h
 |x::xs,y::ys,_,_,h,h'=>⟨h.1,FZL.append h.2 h'⟩
structure zf(H H':aj)(b c sz:Nat)(rows:List (List AC)):Prop where
 gone:H'.get b=none
 keep:∀d o',H'.get d=some o'->H.get d=some o'\/∃xs ys,H.get d=some (.cells xs)/\o'=.cells ys/\FZL b c sz rows xs ys
theorem zE{sz:Nat}:∀{rows:List (List AC)},(∀e∈rows,e.length=sz)->∀{i j:Nat} {e:List AC} {x:AC},rows[i]?=some e->e[j]?=some x->rows.flatten[i*sz+j]?=some x
 |[],_,i,j,e,x,h,_=>by simp at h
 |r::rows,hs,0,j,e,x,h,hx=>by
  simp at h;subst h
  have:=hs r (by simp)
  have hj:j<r.length:=by
   rcases Nat.lt_or_ge j r.length with h|h
   ·exact h
   ·rw[fE h]at hx;simp at hx
  simp only[aq,Nat.zero_mul,cj]
  rw[aR hj];exact hx
 |r::rows,hs,i+1,j,e,x,h,hx=>by
  have hr:=hs r (by simp)
  simp only[aq]
  rw[bi (by rw[hr,Nat.succ_mul];omega),hr,Nat.succ_mul]
  have:i*sz+sz+j - sz=i*sz+j:=by omega
  rw[this]
  exact zE (fun e he=>hs e (by simp[he])) (by simpa using h) hx
theorem r9{H H':aj}{b c sz:Nat}{cs:List AC}{rows:List (List AC)}(hb:H.get b=some (.cells cs))(hrows:cs.take (rows.length*sz)=rows.flatten)(hsz:∀e∈rows,e.length=sz)(hc:rows.length<=c)(hlim:rows.length<=LIM)
(fr:zf H H' b c sz rows){xs ys:List AC}(hxy:FZL b c sz rows xs ys):oQ (.agg xs) H (.agg ys) H':=by
 intro M w v s r
 obtain⟨vs,el,hw,hone,hlen,hrep,hM⟩:=s.obj b _ hb
 let M':bO:=fun d o=>if d=b then(if o<rows.length*sz then vs[o]? else none)else M d o
 have hle:M.le M':=by
  intro d o u hu
  by_cases hd:d=b
  ·subst hd;rw[hM]at hu;simp at hu
  ·simp only[M',if_neg hd];exact hu
 have hcs:∀{i j e x},rows[i]?=some e->e[j]?=some x->∃u,vs[i*sz+j]?=some u/\i*sz+j<rows.length*sz/\Rep M x u/\x.one=true:=by
  intro i j e x he hx
  have h1:=zE hsz he hx
  rw[<-hrows,eU]at h1
  split at h1
  ·rename_i hlt
   obtain⟨hl,h2⟩:=aQ.1 h1
   have hl2:i*sz+j<vs.size:=hlen▸hl
   exact⟨vs[i*sz+j],by simp[hl2],hlt,hrep _ _ _ h1 (by simp[hl2]),hone _ (ba h1)⟩
  ·simp at h1
 have key:Rep M' (.sl sz none rows) (.slice (some ⟨b,0,none⟩) rows.length c):=by
  refine .sl (fun i j=>vs.getD (i*sz+j) undef) hlim hc (fun e he=>⟨hsz e he,fun x hx=>?_⟩) (fun i j e x he hx=>?_) (fun i j e x he hx=>?_) (fun t ht=>by simp at ht)
  ·obtain⟨i,hi⟩:=List.getElem?_of_mem he
   obtain⟨j,hj⟩:=List.getElem?_of_mem hx
   obtain⟨u,-,-,-,h⟩:=hcs hi hj
   exact h
  ·obtain⟨u,h1,h2,-⟩:=hcs he hx
   simp only[M',if_true,cj,if_pos h2,h1]
   simp only[gQ,h1,Option.getD_some]
  ·obtain⟨u,h1,h2,h3,-⟩:=hcs he hx
   simp only[gQ,h1,Option.getD_some]
   exact h3.mono hle
 have rep:∀{x y u},FZ b c sz rows x y->Rep M x u->Rep M' y u:=by
  intro x y u h hr
  rcases h with rfl|⟨rfl,rfl⟩
  ·exact hr.mono hle
  ·obtain⟨rfl,-⟩:=hr.lit_inv
   exact key
 have one:∀{x y},FZ b c sz rows x y->x.one=true->y.one=true:=by
  intro x y h hx
  rcases h with rfl|⟨rfl,rfl⟩
  ·exact hx
  ·rfl
 have hne:∀d o',H'.get d=some o'->d≠b:=fun d o' hd e=>by subst e;rw[fr.gone]at hd;simp at hd
 have hMd:∀d,d≠b->∀o,M' d o=M d o:=fun d hd o=>by simp only[M',if_neg hd]
 refine⟨M',⟨fun d o u hu=>?_,fun d o' hd=>?_⟩,⟨hle,aC _,fun d _ hd=>⟨rfl,hMd d (by rintro rfl;rw[hb]at hd;simp at hd)⟩,fun d hd=>?_,rfl,rfl⟩,?_⟩
 ·by_cases hd:d=b
  ·subst hd
   simp only[M',if_true]at hu
   split at hu
   ·rw[fo,hw];exact hu
   ·simp at hu
  ·rw[hMd d hd]at hu;exact s.mem d o u hu
 ·have hdb:=hne d o' hd
  rcases fr.keep d o' hd with h|⟨xs,ys,h,rfl,hz⟩
  ·have:=s.obj d o' h
   cases o' with
   |cells zs=>
    obtain⟨us,el',q1,q2,q3,q4,q5⟩:=this
    exact⟨us,el',q1,q2,q3,fun j x v hx hv=>(q4 j x v hx hv).mono hle,fun o=>by rw[hMd d hdb];exact q5 o⟩
   |tail n m=>
    obtain⟨us,el',q1,q2,q3,q4⟩:=this
    exact⟨us,el',q1,q2,q3,fun o ho=>by rw[hMd d hdb];exact q4 o ho⟩
   |typed ty zs=>
    obtain⟨us,q1,q3,q4,q5⟩:=this
    exact⟨us,q1,q3,fun j x v hx hv=>(q4 j x v hx hv).mono hle,fun o=>by rw[hMd d hdb];exact q5 o⟩
   |map g=>
    obtain⟨es,cl,q1,q2,q3⟩:=this
    exact⟨es,cl,q1,q2.mono hle,fun o=>by rw[hMd d hdb];exact q3 o⟩
   |const ob zs=>
    obtain⟨q1,us,q2,q3,q4⟩:=this
    exact⟨q1,us,q2,fun j hj=>by rw[hMd d hdb];exact q3 j hj,fun j x hx=>(q4 j x hx).mono hle⟩
  ·obtain⟨us,el',q1,q2,q3,q4,q5⟩:=s.obj d _ h
   refine⟨us,el',q1,fun y hy=>?_,hz.length▸q3,fun j y v hy hv=>?_,fun o=>by rw[hMd d hdb];exact q5 o⟩
   ·obtain⟨j,hj⟩:=List.getElem?_of_mem hy
    obtain⟨x,hx,hf⟩:=hz.get j hj
    exact one hf (q2 x (ba hx))
   ·obtain⟨x,hx,hf⟩:=hz.get j hy
    exact rep hf (q4 j x v hx hv)
 ·left
  obtain⟨o',ho⟩:=aJ.1 hd
  rcases fr.keep d o' ho with h|⟨xs,ys,h,-⟩<;>rw[h]<;>simp
 ·cases r with
  |agg h1 h2 h3=>
   refine .agg (fun y hy=>?_) (hxy.length▸h2) (fun j y u hy hu=>?_)
   ·obtain⟨j,hj⟩:=List.getElem?_of_mem hy
    obtain⟨x,hx,hf⟩:=hxy.get j hj
    exact one hf (h1 x (ba hx))
   ·obtain⟨x,hx,hf⟩:=hxy.get j hy
    exact rep hf (h3 j x u hx hu)
theorem rD{sz:Nat}(us d:List AC)(hu:us.length=sz):∀(rows:List (List AC)) (k:Nat),(∀e∈rows,e.length=sz)->k<rows.length->
 (rows.flatten++d).take (k*sz)++us++(rows.flatten++d).drop (k*sz+us.length)=(rows.set k us).flatten++d
 |[],k,_,h=>by simp at h
 |e::rows,0,hs,_=>by
  have he:=hs e (by simp)
  simp only[aq,Nat.zero_mul,List.take_zero,dm,cj,List.set_cons_zero,dY]
  rw[hu,<-he,List.drop_left]
 |e::rows,k+1,hs,h=>by
  have he:=hs e (by simp)
  have ih:=rD us d hu rows k (fun e he=>hs e (by simp[he])) (by simpa using h)
  have e1:(k+1)*sz=e.length+k*sz:=by rw[Nat.succ_mul,he,Nat.add_comm]
  simp only[aq,List.set_cons_succ,dY]
  rw[e1,Nat.add_assoc,List.take_length_add_append,List.drop_length_add_append,dY,<-dY (List.take _ _),ih]
theorem nO{sz:Nat}{rows:List (List AC)}{us cs:List AC}{k:Nat}(hs:∀e∈rows,e.length=sz)(hu:us.length=sz)(hk:k<rows.length)(h:cs.take (rows.length*sz)=rows.flatten):
 (bH cs (k*sz) us).take ((rows.set k us).length*sz)=(rows.set k us).flatten:=by
 have hl:(rows.set k us).flatten.length=(rows.set k us).length*sz:=dD fun e he=>by
  rcases lL he with h|h
  ·exact hs e h
  ·rw[h];exact hu
 have hcs:cs=rows.flatten++cs.drop (rows.length*sz):=by rw[<-h,iw]
 have:=rD us (cs.drop (rows.length*sz)) hu rows k hs hk
 rw[<-hcs]at this
 unfold bH
 rw[this,<-hl,List.take_left]
theorem tz(f:Fu):f.enc=[S f.name,.sl 3 none (f.params.map Pa.enc),B f.lent,.sl 1 none (Ty.encs f.type.kids),.sl 15 none (f.body.map St.enc),I f.says.kind,I f.says.num,S f.says.place.name,au f.says.place.path,.sl 5 none (Ex.encs f.says.kids),S f.gives.name,au f.gives.path]:=by
 rw[Fu.enc,Ty.enc_eq,Ex.enc_eq,St.encs_map];rfl
structure Fu.lo(m:Nat)(f:Fu):Prop where
 pars:0<f.params.length/\f.params.length<=4+m
 ptys:∀x∈f.params,x.type.lo
 ty:f.type.lo
 blen:f.body.length<=6+m
 bcnt:∀s∈f.body,s.cnt<=1000
 bsm:∀s∈f.body,s.sm 3
 says:f.says.sm
theorem Ty.wf.lo{t:Ty}(h:t.wf):t.lo:=by
 obtain⟨D,h1,h2⟩:=h
 exact⟨D,by omega,h2⟩
theorem Fu.good.lo{f:Fu}(h:f.good):f.lo 0:=
 ⟨by have:=h.pars;omega,fun x hx=>(h.okS.params x hx).type.lo,h.okS.type.lo,by have:=h.blen;omega,fun s hs=>by have:=vG hs;have:=h.body;omega,h.sms,h.says⟩
theorem Fu.lo.up{m:Nat}{f:Fu}(h:f.lo m):f.lo (m+1):=⟨by have:=h.pars;omega,h.ptys,h.ty,by have:=h.blen;omega,h.bcnt,h.bsm,h.says⟩
def FuAt(H:aj)(ex:Nat->Prop)(c6:List AC)(f:Fu):Prop:=c6.length=12/\(LeC c6 f.enc\/
 ∃(b c:Nat) (cs:List AC) (rows:List (List AC)) (c6':List AC),H.get b=some (.cells cs)/\cs.take (rows.length*15)=rows.flatten/\(∀e∈rows,e.length=15)/\rows.length<=c/\rows.length<=LIM/\FZL b c 15 rows c6 c6'/\LeC c6' f.enc/\¬ex b)
theorem LeR.set:∀{xs ys:List (List AC)} (k:Nat) {x y:List AC},LeR xs ys->LeC x y->LeR (xs.set k x) (ys.set k y)
 |[],[],_,_,_,_,_=>trivial
 |a::xs,b::ys,0,_,_,h,h'=>⟨h',h.2⟩
 |a::xs,b::ys,k+1,_,_,h,h'=>⟨h.1,LeR.set k h.2 h'⟩
theorem FZL.splice{b c sz:Nat}{rows:List (List AC)}{u u':List AC}(h:FZL b c sz rows u u')(cs:List AC)(o:Nat):FZL b c sz rows (bH cs o u) (bH cs o u'):=by
 unfold bH
 rw[h.length]
 exact((FZL.refl _ _ _ _ _).append h).append (FZL.refl _ _ _ _ _)
theorem sX{E:Env}{H:aj}{n r off:Nat}{g:Option Nat}{cs:List AC}{q q':AC}{R:AC->aj->Prop}(hE:E n=.ptr r off)(hg:H.get r=some (.cells cs))(hq:fM g cs off=some q)
{H':aj}(ht:oQ q H q' H')(h:R q' H'):aD.post [.cell n g] R .ret E H:=
 ⟨q,by simp only[lW,iK,j4.val,hE,hg,hq],q',H',ht,h⟩
section
variable {P:Program}{F:Ids}
def uU(m:Nat)(r:Nat)(bs:List UInt8)(p c:Int):AC->aj->Prop:=RdR r bs p c fun q=>∃pr:Pg,q=.agg (Pg.enc pr)/\(∀f∈pr,f.lo m)/\1<=pr.length/\pr.length<=4+m
theorem tG(L:Lib P F){m:Nat}(hm:m<=9)(r:Nat)(bs:List UInt8)(p c:Int)(E:Env)(H:aj)(p':Int)(pr:Pg)(k:Nat)(hk:k<pr.length)(hpl:pr.length<=4+m)(hpr:∀f∈pr,f.lo m)(X:AC)(c6:List AC)(f:Fu)(hf:f.lo m)(b3 b4 b6:Nat)
(gr:H.get r=some (RdO bs p'))(g3:H.get b3=some (.cells [X]))(g4:H.get b4=some (.cells [NIL]))(g6:H.get b6=some (.cells c6))(hX:∀H',i9 H' 12 X=some (pr.map Fu.enc))(hf6:FuAt H (fun d=>d=r\/d=b3\/d=b4\/d=b6) c6 f)
(hr3:r≠b3)(hr4:r≠b4)(d34:b3≠b4)(d36:b3≠b6)(d46:b4≠b6)(hr6:r≠b6)(e3:E 3=.ptr b3 0)(e4:E 4=.ptr b4 0)(e5:E 5=I k)(e6:E 6=.ptr b6 0)(h1:p<=p')(h2:p'<=p+c):
 aX.wp P (.seq (.region false [ef 0 185 (.buildSlice 12 0 [.string (bl []),.slice none 0 0,.bool false,.slice none 0 0,.slice none 0 0,.int .i64 0,.int .i64 0,.string (bl []),.slice none 0 0,.slice none 0 0,.string (bl []),.slice none 0 0] []),pu 1 186 (.fieldAddr 0 (sl 3)),ld 2 187 none (sl 186),ef 3 188 (.appendM 12 216 (sl 185) (sl 187)),pu 4 189 (.fieldAddr 0 (sl 3)),en 5 (.store 1 (sl 189) (sl 188))]) (.seq (.region false [pu 0 190 (.fieldAddr 0 (sl 3)),ld 1 191 none (sl 190),mv 2 192 (sl 5),ld 3 193 (some 12) (sl 6),pu 4 194 (.indexAddr 12 (sl 191) (sl 192)),en 5 (.store 12 (sl 194) (sl 193))]) (.seq (.region false [ld 0 195 (some 1) (sl 3),en 1 (.store 1 (sl 4) (sl 195))]) .ret))) (aD.post [.cell 4 (some 1)] (uU m r bs p c)) E H:=by
 obtain⟨hlen6,hf6⟩:=hf6
 simp only[go_sem,rE,rA,e3,ax,aq,az,bh]
 intro b0 hb0
 have hr0:=al gr hb0
 have d30:=al g3 hb0
 have d40:=al g4 hb0
 have d60:=al g6 hb0
 simp only[go_sem,rE,rA,e3,d30,g3,rL]
 have hsz:∀e∈pr.map Fu.enc,e.length=12:=fun e he=>by obtain⟨g,-,rfl⟩:=aY.1 he;exact pU g
 refine sS (b:=b0) (ys:=pr.map Fu.enc) (rfl) (ai _ _ _) (by simp only[go_sem,rE];exact hX _) hsz (by simp;omega) trivial ?_
 intro x' H1 fp1 hR _ keep new
 rcases hR with⟨h0,-⟩|⟨pp,pc,cs,rfl,gp,hcl,hcc,hct⟩
 ·have:pr=[]:=by simpa using h0
  rw[this]at hk;simp at hk
 have in1:∀{d o},H.get d=some o->H1.get d=some o/\d≠pp:=by
  intro d o hd
  have hd0:=al hd hb0
  refine⟨by rw[keep d (by rw[ae _ _ hd0,hd];simp) hd0,ae _ _ hd0];exact hd,?_⟩
  rintro rfl
  rcases new d ⟨_,_,rfl⟩with h|h
  ·exact hd0 h
  ·rw[ae _ _ hd0,hd]at h;simp at h
 obtain⟨gr,dpr⟩:=in1 gr
 obtain⟨g3,dp3⟩:=in1 g3
 obtain⟨g4,dp4⟩:=in1 g4
 obtain⟨g6,dp6⟩:=in1 g6
 have hlim:pr.length<=LIM:=by simp only[LIM];omega
 have hkl:(k:Int)<pr.length:=by omega
 have hko:k*12+12<=cs.length:=by
  rw[am]at hcc
  have:(k+1)*12<=pc*12:=bA _ (by omega)
  omega
 simp only[am]at hct hcc⊢
 simp only[go_sem,rE,rA,e3,e4,e5,e6,g3,g4,g6,d36,Ne.symm d36,d34,Ne.symm d34,d46,dp3,Ne.symm dp3,dp4,Ne.symm dp4,dp6,Ne.symm dp6,gp,hlim,hkl,hlen6,hko,aC,cF,rL]
 have hspl:∀u:List AC,u.length=12->cs.take (k*12)++u++cs.drop (k*12+12)=bH cs (k*12) u:=fun u hu=>by rw[bH,hu]
 rw[hspl c6 hlen6]
 have hlenR:∀u,((pr.map Fu.enc).set k u).length=pr.length:=fun u=>by simp
 have hszR:∀u:List AC,u.length=12->∀e∈(pr.map Fu.enc).set k u,e.length=12:=fun u hu e he=>by
  rcases lL he with h|h
  ·exact hsz e h
  ·rw[h];exact hu
 have hrow:∀u:List AC,u.length=12->(bH cs (k*12) u).take (((pr.map Fu.enc).set k u).length*12)=((pr.map Fu.enc).set k u).flatten:=fun u hu=>
  nO hsz hu (by simp;exact hk) (by simpa using hct)
 have hlo:∀g∈pr.set k f,g.lo m:=fun g hg=>by
  rcases lL hg with h|h
  ·exact hpr g h
  ·rw[h];exact hf
 have hR:∀{q},q=.agg (Pg.enc (pr.set k f))->uU m r bs p c q (one r (RdO bs p')):=fun hq=>⟨p',h1,h2,rfl,pr.set k f,hq,hlo,by simp;omega,by simp;omega⟩
 have last:∀(G:aj) (u:List AC),u.length=12->LeC u f.enc->G.get pp=some (.cells (bH cs (k*12) u))->G.get r=some (RdO bs p')->oQ (.agg [.lit (.slice (some ⟨pp,0,none⟩) pr.length pc)]) G (.agg (Pg.enc (pr.set k f))) (one r (RdO bs p')):=by
  intro G u hu hle gp gr
  have fr:zf G (one r (RdO bs p')) pp pc 12 ((pr.map Fu.enc).set k u):=⟨gk _ (Ne.symm dpr),fun d o' hd=>.inl (eO gr d o' hd)⟩
  refine(r9 gp (hrow u hu) (hszR u hu) (by rw[hlenR];exact hcc) (by rw[hlenR];exact hlim) fr (xs:=[.lit (.slice (some ⟨pp,0,none⟩) pr.length pc)]) (ys:=[.sl 12 none ((pr.map Fu.enc).set k u)]) ⟨.inr ⟨by rw[hlenR],rfl⟩,trivial⟩).trans_le ?_
  refine .agg ⟨⟨.slR ?_,rfl⟩,trivial⟩
  rw[List.map_set]
  exact(vX pr).set k hle
 refine sX (off:=0) (e4) (ai _ _ _) rfl ?_ (hR rfl)
 have gpE:(((H1.set b3 (.cells [.lit (.slice (some ⟨pp,0,none⟩) pr.length pc)])).set pp (.cells (bH cs (k*12) c6))).set b4 (.cells [.lit (.slice (some ⟨pp,0,none⟩) pr.length pc)])).get pp=some (.cells (bH cs (k*12) c6)):=by
  rw[ae _ _ (Ne.symm dp4),ai]
 have grE:(((H1.set b3 (.cells [.lit (.slice (some ⟨pp,0,none⟩) pr.length pc)])).set pp (.cells (bH cs (k*12) c6))).set b4 (.cells [.lit (.slice (some ⟨pp,0,none⟩) pr.length pc)])).get r=some (RdO bs p'):=by
  rw[ae _ _ hr4,ae _ _ dpr,ae _ _ hr3];exact gr
 rcases hf6 with hle|⟨bb,bc,bcs,rows,c6',gb,hb1,hb2,hb3,hb4,hfz,hle,hex⟩
 ·exact last _ c6 hlen6 hle gpE grE
 ·obtain⟨gb,dpb⟩:=in1 gb
  have n3:bb≠b3:=fun h=>hex (.inr (.inl h))
  have n4:bb≠b4:=fun h=>hex (.inr (.inr (.inl h)))
  have nr:bb≠r:=fun h=>hex (.inl h)
  have gbE:(((H1.set b3 (.cells [.lit (.slice (some ⟨pp,0,none⟩) pr.length pc)])).set pp (.cells (bH cs (k*12) c6))).set b4 (.cells [.lit (.slice (some ⟨pp,0,none⟩) pr.length pc)])).get bb=some (.cells bcs):=by
   rw[ae _ _ n4,ae _ _ dpb,ae _ _ n3];exact gb
  have hlen6':c6'.length=12:=hfz.length▸hlen6
  let G:aj:=(one r (RdO bs p')).set pp (.cells (bH cs (k*12) c6'))
  have fr:zf (((H1.set b3 (.cells [.lit (.slice (some ⟨pp,0,none⟩) pr.length pc)])).set pp (.cells (bH cs (k*12) c6))).set b4 (.cells [.lit (.slice (some ⟨pp,0,none⟩) pr.length pc)])) G bb bc 15 rows:=by
   refine⟨by simp only[G];rw[ae _ _ dpb,gk _ nr],fun d o' hd=>?_⟩
   simp only[G]at hd
   by_cases hdp:d=pp
   ·subst hdp
    rw[ai]at hd
    simp at hd;subst hd
    exact .inr ⟨_,_,gpE,rfl,hfz.splice _ _⟩
   ·rw[ae _ _ hdp]at hd
    exact .inl (eO grE d o' hd)
  refine(r9 gbE hb1 hb2 hb3 hb4 fr (xs:=[.lit (.slice (some ⟨pp,0,none⟩) pr.length pc)]) (ys:=[.lit (.slice (some ⟨pp,0,none⟩) pr.length pc)]) (FZL.refl _ _ _ _ _)).trans (last G c6' hlen6' hle (ai _ _ _) ?_)
  simp only[G];rw[ae _ _ dpr,bE]
end
structure BAt(H:aj)(r:Nat)(bs:List UInt8)(p:Int)(b3 b4 b6:Nat)(c3 c6:List AC):Prop where
 gr:H.get r=some (RdO bs p)
 g3:H.get b3=some (.cells c3)
 g4:H.get b4=some (.cells [NIL])
 g6:H.get b6=some (.cells c6)
 hr3:r≠b3
 hr4:r≠b4
 hr6:r≠b6
 d34:b3≠b4
 d36:b3≠b6
 d46:b4≠b6
section
variable {H H':aj}{r:Nat}{bs:List UInt8}{p:Int}{b3 b4 b6:Nat}{c3 c6:List AC}
theorem BAt.draw(h:BAt H r bs p b3 b4 b6 c3 c6)(p':Int):BAt (H.set r (RdO bs p')) r bs p' b3 b4 b6 c3 c6:=
 ⟨ai _ _ _,(ae _ _ (Ne.symm h.hr3)).trans h.g3,(ae _ _ (Ne.symm h.hr4)).trans h.g4,(ae _ _ (Ne.symm h.hr6)).trans h.g6,h.hr3,h.hr4,h.hr6,h.d34,h.d36,h.d46⟩
theorem BAt.put(h:BAt H r bs p b3 b4 b6 c3 c6)(c:List AC):BAt (H.set b6 (.cells c)) r bs p b3 b4 b6 c3 c:=
 ⟨(ae _ _ h.hr6).trans h.gr,(ae _ _ h.d36).trans h.g3,(ae _ _ h.d46).trans h.g4,ai _ _ _,h.hr3,h.hr4,h.hr6,h.d34,h.d36,h.d46⟩
theorem BAt.put3(h:BAt H r bs p b3 b4 b6 c3 c6)(c:List AC):BAt (H.set b3 (.cells c)) r bs p b3 b4 b6 c c6:=
 ⟨(ae _ _ h.hr3).trans h.gr,ai _ _ _,(ae _ _ (Ne.symm h.d34)).trans h.g4,(ae _ _ (Ne.symm h.d36)).trans h.g6,h.hr3,h.hr4,h.hr6,h.d34,h.d36,h.d46⟩
theorem BAt.keep(h:BAt H r bs p b3 b4 b6 c3 c6)(hk:∀d cs,H.get d=some (.cells cs)->H'.get d=some (.cells cs)):BAt H' r bs p b3 b4 b6 c3 c6:=
 ⟨hk _ _ h.gr,hk _ _ h.g3,hk _ _ h.g4,hk _ _ h.g6,h.hr3,h.hr4,h.hr6,h.d34,h.d36,h.d46⟩
theorem BAt.new(h:BAt H r bs p b3 b4 b6 c3 c6){b:Nat}(hb:H.get b=none)(o:cK):BAt (H.set b o) r bs p b3 b4 b6 c3 c6:=
 h.keep fun d cs hd=>by rw[ae _ _ (al hd hb)];exact hd
end
theorem jk{H H':aj}{b n m:Nat}(g:H.get b=some (.tail n m))(keep:∀c,H.get c≠none->c≠b->H'.get c=H.get c):∀d cs,H.get d=some (.cells cs)->H'.get d=some (.cells cs):=
 fun d cs hd=>by rw[keep d (by rw[hd];simp) (by rintro rfl;rw[g]at hd;simp at hd)];exact hd
theorem kf(l:List St):∀e∈l.map St.enc,e.length=15:=fun e he=>by obtain⟨s,-,rfl⟩:=aY.1 he;exact Bs s
theorem st_one(s:St):∀x∈s.enc,x.one=true:=by
 rw[St.enc_eq];simp[AC.one,au]
theorem zO:∀p:List St,LeR (p.map St.enc) (p.map St.enc)
 |[]=>trivial
 |f::p=>⟨.refl (st_one f),zO p⟩
theorem pa_len(s:Pa):s.enc.length=3:=by
 rw[Pa.enc,Ty.enc_eq];rfl
theorem row_at{sz:Nat}{rows:List (List AC)}{cs:List AC}(hs:∀e∈rows,e.length=sz)(h:cs.take (rows.length*sz)=rows.flatten){k:Nat}(hk:k<rows.length):(cs.drop (k*sz)).take sz=rows[k]:=by
 have hl:=hs _ (ay hk)
 apply gd
 intro j
 rw[eU]
 split
 ·rename_i hj
  rw[bC]
  exact eN.cell hs h hk hj
 ·rename_i hj
  rw[fE (by omega)]
theorem mg(f':Fu){X T Bd s1 s2 s3 s4 s5 g1 g2:AC}(hX:Le X (.sl 3 none (f'.params.map Pa.enc)))(hT:Le T (.sl 1 none (Ty.encs f'.type.kids)))(hB:Le Bd (.sl 15 none (f'.body.map St.enc)))(hs:LeC [s1,s2,s3,s4,s5] f'.says.enc)(hg:LeC [g1,g2] f'.gives.enc):
 LeC [S f'.name,X,B f'.lent,T,Bd,s1,s2,s3,s4,s5,g1,g2] f'.enc:=BJ f' hX hT (by rw[St.encs_map];exact hB) hs hg
section
variable {P:Program}{F:Ids}
theorem AR(L:Lib P F)(r:Nat)(bs:List UInt8)(hbs:bs.length<=2000)(p2:Int)(hp:0<=p2)(hp2:p2+1<=2^50)(f:Fu){m:Nat}(hm:m<=9)(hlo:f.lo m)(hbl:f.body.length<=6+m)(b3 b4 b6:Nat)(c3:List AC)(H3:aj)
(hB:BAt H3 r bs p2 b3 b4 b6 c3 [S f.name,.sl 3 none (f.params.map Pa.enc),B f.lent,.sl 1 none (Ty.encs f.type.kids),.sl 15 none (f.body.map St.enc),I f.says.kind,I f.says.num,S f.says.place.name,au f.says.place.path,.sl 5 none (Ex.encs f.says.kids),S f.gives.name,au f.gives.path])
(K:cL->Env->aj->Prop)(E:Env)(e0:E 0=.ptr r 0)(e6:E 6=.ptr b6 0)
(jn8:∀(E':Env) (H:aj) (p':Int) (c6:List AC) (f':Fu),f'.lo m->BAt H r bs p' b3 b4 b6 c3 c6->FuAt H (fun d=>d=r\/d=b3\/d=b4\/d=b6) c6 f'->(∀i,(i=0\/i=3\/i=4\/i=5\/i=6)->E' i=E i)->p2<=p'->p'<=p2+1->K .normal E' H):
 aX.wp P (kd30 F) K E H3:=by
 rw[kd30]
 have g6:=hB.g6
 have lesays:LeC [I f.says.kind,I f.says.num,S f.says.place.name,au f.says.place.path,.sl 5 none (Ex.encs f.says.kids)] f.says.enc:=by rw[Ex.enc_eq];exact⟨⟨.refl _,rfl⟩,⟨.refl _,rfl⟩,⟨.refl _,rfl⟩,⟨.refl _,rfl⟩,⟨.refl _,rfl⟩,trivial⟩
 have legives:LeC [S f.gives.name,au f.gives.path] f.gives.enc:=⟨⟨.refl _,rfl⟩,⟨.refl _,rfl⟩,trivial⟩
 simp only[go_sem,rE,rA,aH,ax,aq,az,rL,bh,e0,e6,g6,am]
 by_cases hb:(1:Int)<f.body.length
 ·have w0:=aL (n:=(f.body.length:Int) - 1) (by omega) (by omega)
  simp only[hb,decide_true,go_sem,rE,rA,aH,ax,aq,az,rL,bh,e0,e6,g6,am,w0]
  refine bg (cH L r bs p2 (f.body.length - 1) hbs (by omega) (by omega)) (rfl) hB.gr (by simp) trivial ?_
  rintro q p3 hp3 hp3' ⟨n0,rfl,hn0,hn1⟩
  have hB1:=hB.draw p3
  generalize H3.set r (RdO bs p3)=H4 at*
  obtain⟨n,rfl⟩:∃n:Nat,n0=(n:Int):=⟨n0.toNat,by omega⟩
  have hnl:n+1<f.body.length:=by omega
  simp only[go_sem,rE,rA,aH,ax,aq,az,rL,bh,e0,e6]
  intro b58 hb58
  have hB2:=hB1.new hb58 (.tail 0 0)
  have g58:(H4.set b58 (.tail 0 0)).get b58=_:=ai _ _ _
  have g6:=hB2.g6
  generalize H4.set b58 (.tail 0 0)=H5 at*
  simp only[go_sem,rE,rA,aH,ax,aq,az,rL,bh,e0,e6,g6]
  refine sS (b:=b58) (ys:=f.body.map St.enc) (rfl) g58 (rfl) (kf _) (by simp;omega) trivial ?_
  intro x' H6 fp6 hR _ keep new
  rcases hR with⟨h0,-⟩|⟨bb,bc,cs,rfl,gb,hcl,hcc,hct⟩
  ·have:f.body=[]:=by simpa using h0
   rw[this]at hnl;simp at hnl
  have hB3:=hB2.keep (jk g58 keep)
  have hex:∀d o,H5.get d=some (.cells o)->d≠bb:=by
   intro d o hd e
   subst e
   rcases new _ ⟨_,_,rfl⟩with h|h
   ·subst h;rw[g58]at hd;simp at hd
   ·rw[hd]at h;simp at h
  have hb6:=hex _ _ hB2.g6
  have hb3:=hex _ _ hB2.g3
  have hb4:=hex _ _ hB2.g4
  have hbr:=hex _ _ hB2.gr
  have g6:=hB3.g6
  simp only[am]at hcc hct
  have hlim:f.body.length<=LIM:=by simp only[LIM];omega
  have hni:(n:Int)<f.body.length:=by omega
  have hni1:(n:Int)+1<f.body.length:=by omega
  have w1:=aL (n:=(n:Int)+1) (by omega) (by omega)
  have hn1':(0:Int)<=n+1:=by omega
  have hnt:((n:Int)+1).toNat=n+1:=by omega
  have hmul:(n+2)*15<=bc*15:=bA _ (by omega)
  have hof0:n*15+15<=cs.length:=by omega
  have hof1:(n+1)*15+15<=cs.length:=by omega
  have row:∀j (hj:j<f.body.length),(cs.drop (j*15)).take 15=f.body[j].enc:=fun j hj=>by
   have:=row_at (kf f.body) (by simpa using hct) (k:=j) (by simpa using hj)
   simpa using this
  have r0:=row n (by omega)
  have r1:=row (n+1) hnl
  obtain⟨c0,hc0,C0'⟩:=stC f.body[n]
  obtain⟨c1,hc1,C1'⟩:=stC f.body[n+1]
  rw[hc0]at r0
  rw[hc1]at r1
  simp only[go_sem,rE,rA,aH,ax,aq,az,rL,bh,e0,e6,g6,am,hb6,Ne.symm hb6,gb,hlim,hni,hof0,r0,C0'.len,C0'.all]
  have hB4:=hB3.put [S f.name,.sl 3 none (f.params.map Pa.enc),B f.lent,.sl 1 none (Ty.encs f.type.kids),.lit (.slice (some ⟨bb,0,none⟩) f.body.length bc),I f.says.kind,I f.says.num,S f.says.place.name,au f.says.place.path,.sl 5 none (Ex.encs f.says.kids),S f.gives.name,au f.gives.path]
  have gb:(H6.set b6 (.cells [S f.name,.sl 3 none (f.params.map Pa.enc),B f.lent,.sl 1 none (Ty.encs f.type.kids),.lit (.slice (some ⟨bb,0,none⟩) f.body.length bc),I f.says.kind,I f.says.num,S f.says.place.name,au f.says.place.path,.sl 5 none (Ex.encs f.says.kids),S f.gives.name,au f.gives.path])).get bb=_:=(ae _ _ (Ne.symm hb6)).trans gb
  generalize(H6.set b6 (.cells [S f.name,.sl 3 none (f.params.map Pa.enc),B f.lent,.sl 1 none (Ty.encs f.type.kids),.lit (.slice (some ⟨bb,0,none⟩) f.body.length bc),I f.says.kind,I f.says.num,S f.says.place.name,au f.says.place.path,.sl 5 none (Ex.encs f.says.kids),S f.gives.name,au f.gives.path]))=H7 at*
  intro b9 hb9
  have hB5:=hB4.new hb9 (.cells c0)
  have db9:=al gb hb9
  have gb:(H7.set b9 (.cells c0)).get bb=_:=(ae _ _ db9).trans gb
  have g9:(H7.set b9 (.cells c0)).get b9=_:=ai _ _ _
  have g6:=hB5.g6
  generalize H7.set b9 (.cells c0)=H8 at*
  simp only[go_sem,rE,rA,aH,ax,aq,az,rL,bh,e0,e6,g6,gb,w1,hn1',hnt,hlim,hni,hni1,hof0,hof1,r1,C1'.len,C1'.all]
  have hs0:cs.take (n*15)++c1++cs.drop (n*15+15)=bH cs (n*15) c1:=by rw[bH,C1'.len]
  rw[hs0]
  have hl1:(bH cs (n*15) c1).length=cs.length:=fi _ _ _ (by rw[C1'.len];exact hof0)
  have hrow1:=nO (kf f.body) (us:=c1) C1'.len (k:=n) (by simp;omega) (by simpa using hct)
  generalize bH cs (n*15) c1=cs1 at*
  have hB6:BAt (H8.set bb (.cells (cs1))) r bs p3 b3 b4 b6 _ _:=⟨(ae _ _ hbr).trans hB5.gr,(ae _ _ hb3).trans hB5.g3,(ae _ _ hb4).trans hB5.g4,(ae _ _ hb6).trans hB5.g6,hB.hr3,hB.hr4,hB.hr6,hB.d34,hB.d36,hB.d46⟩
  have gb1:(H8.set bb (.cells (cs1))).get bb=_:=ai _ _ _
  have g9:(H8.set bb (.cells (cs1))).get b9=_:=(ae _ _ (Ne.symm db9)).trans g9
  have g6:=hB6.g6
  generalize H8.set bb (.cells (cs1))=H9 at*
  rw[<-hl1]at hof1
  simp only[go_sem,rE,rA,aH,ax,aq,az,rL,bh,e0,e6,g6,gb1,g9,w1,hn1',hnt,hlim,hni,hni1,hof1,C0'.len,C0'.all]
  have hs1:cs1.take ((n+1)*15)++c0++cs1.drop ((n+1)*15+15)=bH cs1 ((n+1)*15) c0:=by rw[bH,C0'.len]
  rw[hs1]
  have hsz1:∀e∈(f.body.map St.enc).set n c1,e.length=15:=fun e he=>by
   rcases lL he with h|h
   ·exact kf _ e h
   ·rw[h];exact C1'.len
  have hrow2:=nO hsz1 (us:=c0) C0'.len (k:=n+1) (by simp;omega) hrow1
  have hmap:((f.body.map St.enc).set n c1).set (n+1) c0=((f.body.set n f.body[n+1]).set (n+1) f.body[n]).map St.enc:=by rw[List.map_set,List.map_set,hc0,hc1]
  rw[hmap]at hrow2
  have hmem:∀s∈(f.body.set n f.body[n+1]).set (n+1) f.body[n],s∈f.body:=fun s hs=>by
   rcases lL hs with h|h
   ·rcases lL h with h|h
    ·exact h
    ·rw[h];exact ay _
   ·rw[h];exact ay _
  have hB7:BAt (H9.set bb (.cells (bH cs1 ((n+1)*15) c0))) r bs p3 b3 b4 b6 _ _:=⟨(ae _ _ hbr).trans hB6.gr,(ae _ _ hb3).trans hB6.g3,(ae _ _ hb4).trans hB6.g4,(ae _ _ hb6).trans hB6.g6,hB.hr3,hB.hr4,hB.hr6,hB.d34,hB.d36,hB.d46⟩
  refine jn8 _ _ p3 _ {f with body:=(f.body.set n f.body[n+1]).set (n+1) f.body[n]} ⟨hlo.pars,hlo.ptys,hlo.ty,by simp;omega,fun s hs=>hlo.bcnt s (hmem s hs),fun s hs=>hlo.bsm s (hmem s hs),hlo.says⟩ hB7 ⟨rfl,.inr ⟨bb,bc,_,((f.body.set n f.body[n+1]).set (n+1) f.body[n]).map St.enc,[S f.name,.sl 3 none (f.params.map Pa.enc),B f.lent,.sl 1 none (Ty.encs f.type.kids),.sl 15 none (((f.body.set n f.body[n+1]).set (n+1) f.body[n]).map St.enc),I f.says.kind,I f.says.num,S f.says.place.name,au f.says.place.path,.sl 5 none (Ex.encs f.says.kids),S f.gives.name,au f.gives.path],
   ai _ _ _,hrow2,kf _,by simp;omega,by simp;exact hlim,⟨.inl rfl,.inl rfl,.inl rfl,.inl rfl,.inr ⟨by simp,rfl⟩,.inl rfl,.inl rfl,.inl rfl,.inl rfl,.inl rfl,.inl rfl,.inl rfl,trivial⟩,
   mg {f with body:=(f.body.set n f.body[n+1]).set (n+1) f.body[n]} (.refl _) (.refl _) (.refl _) lesays legives,?_⟩⟩ (fun i hi=>by rcases hi with rfl|rfl|rfl|rfl|rfl<;>simp only[go_sem,rE]) (by omega) (by omega)
  rintro(h|h|h|h)
  ·exact hbr h.symm
  ·exact hb3 h.symm
  ·exact hb4 h.symm
  ·exact hb6 h.symm
 ·simp only[hb,decide_false,go_sem,rE,rA,aH,ax,aq,az,rL,bh,e0,e6]
  exact jn8 _ _ p2 _ f hlo hB ⟨rfl,.inl (mg f (.refl _) (.refl _) (.refl _) lesays legives)⟩ (fun i hi=>by rcases hi with rfl|rfl|rfl|rfl|rfl<;>simp only[go_sem,rE]) (by omega) (by omega)
theorem uL(L:Lib P F)(r:Nat)(bs:List UInt8)(hbs:bs.length<=2000)(pr:Pg){m:Nat}(hm:m<=8)(hpr:∀f∈pr,f.lo m)(hl1:1<=pr.length)(hl2:pr.length<=4+m)(p:Int)(hp:0<=p)(hp2:p+200<=2^50):
 bD P F.s_l71Bend [.ptr r 0,.agg (Pg.enc pr)] (one r (RdO bs p)) (uU (m+1) r bs p 200):=by
 refine L.s_l71Bend (by simp[nx]) ?_
 simp only[nx,go_sem,rE,rA,Pg.enc]
 intro b3 hb3 b4 hb4
 have hr3:r≠b3:=by rintro rfl;rw[bE]at hb3;simp at hb3
 have d34:b3≠b4:=pO hb4
 have hr4:r≠b4:=by rintro rfl;rw[ae _ _ hr3,bE]at hb4;simp at hb4
 have gr:(((one r (RdO bs p)).set b3 (.cells [.sl 12 none (pr.map Fu.enc)])).set b4 (.cells [NIL])).get r=some (RdO bs p):=by rw[ae _ _ hr4,ae _ _ hr3,bE]
 have g3:(((one r (RdO bs p)).set b3 (.cells [.sl 12 none (pr.map Fu.enc)])).set b4 (.cells [NIL])).get b3=some (.cells [.sl 12 none (pr.map Fu.enc)]):=by rw[ae _ _ d34,ai]
 have g4:(((one r (RdO bs p)).set b3 (.cells [.sl 12 none (pr.map Fu.enc)])).set b4 (.cells [NIL])).get b4=some (.cells [NIL]):=ai _ _ _
 generalize(((one r (RdO bs p)).set b3 (.cells [.sl 12 none (pr.map Fu.enc)])).set b4 (.cells [NIL]))=H0 at*
 clear hb3 hb4
 simp only[go_sem,rE,rA,g3,am]
 refine bg (cH L r bs p pr.length hbs hp (by omega)) (rfl) gr (by simp) trivial ?_
 rintro q p1 hp1 hp1' ⟨k,rfl,hk0,hk1⟩
 have g3:(H0.set r (RdO bs p1)).get b3=_:=(ae _ _ (Ne.symm hr3)).trans g3
 have g4:(H0.set r (RdO bs p1)).get b4=_:=(ae _ _ (Ne.symm hr4)).trans g4
 have gr:(H0.set r (RdO bs p1)).get r=_:=ai _ _ _
 generalize H0.set r (RdO bs p1)=H1 at*
 have hkl:k.toNat<pr.length:=by omega
 obtain⟨f,hf⟩:∃f,f=pr[k.toNat]:=⟨_,rfl⟩
 have hgood:f.lo m:=hf▸hpr _ (ay hkl)
 have hget:(pr.map Fu.enc)[k.toNat]?=some [S f.name,.sl 3 none (f.params.map Pa.enc),B f.lent,.sl 1 none (Ty.encs f.type.kids),.sl 15 none (f.body.map St.enc),I f.says.kind,I f.says.num,S f.says.place.name,au f.says.place.path,.sl 5 none (Ex.encs f.says.kids),S f.gives.name,au f.gives.path]:=by
  rw[<-tz,hf];simp[hkl]
 simp only[go_sem,rE,rA,g3,hk0,hget,rL]
 intro b6 hb6
 have hr6:=al gr hb6
 have d36:=al g3 hb6
 have d46:=al g4 hb6
 let C:ByteArray->AC->Bool->AC->AC->AC->AC->AC->AC->AC->AC->AC->List AC:=fun nm X ln T Bd s1 s2 s3 s4 s5 g1 g2=>[S nm,X,B ln,T,Bd,s1,s2,s3,s4,s5,g1,g2]
 let C0:List AC:=[S f.name,.sl 3 none (f.params.map Pa.enc),B f.lent,.sl 1 none (Ty.encs f.type.kids),.sl 15 none (f.body.map St.enc),I f.says.kind,I f.says.num,S f.says.place.name,au f.says.place.path,.sl 5 none (Ex.encs f.says.kids),S f.gives.name,au f.gives.path]
 have gr:(H1.set b6 (.cells C0)).get r=_:=(ae _ _ hr6).trans gr
 have g3:(H1.set b6 (.cells C0)).get b3=_:=(ae _ _ d36).trans g3
 have g4:(H1.set b6 (.cells C0)).get b4=_:=(ae _ _ d46).trans g4
 have g6:(H1.set b6 (.cells C0)).get b6=some (.cells C0):=ai _ _ _
 simp only[C0]at gr g3 g4 g6
 generalize(H1.set b6 (.cells [S f.name,.sl 3 none (f.params.map Pa.enc),B f.lent,.sl 1 none (Ty.encs f.type.kids),.sl 15 none (f.body.map St.enc),I f.says.kind,I f.says.num,S f.says.place.name,au f.says.place.path,.sl 5 none (Ex.encs f.says.kids),S f.gives.name,au f.gives.path]))=H2 at*
 clear hb6
 refine bg (cH L r bs p1 12 hbs (by omega) (by omega)) (rfl) gr (by simp) trivial ?_
 rintro q p2 hp2' hp2'' ⟨k2,rfl,hk20,hk21⟩
 have hB:BAt (H2.set r (RdO bs p2)) r bs p2 b3 b4 b6 _ _:=(BAt.mk gr g3 g4 g6 hr3 hr4 hr6 d34 d36 d46).draw p2
 generalize H2.set r (RdO bs p2)=H3 at*
 clear gr g3 g4 g6
 have hlo:=hgood.up
 have hbl:=hgood.blen
 have hplo:∀g∈pr,g.lo (m+1):=fun g hg=>(hpr g hg).up
 have jn:∀(E:Env) (H:aj) (p':Int) (c6:List AC) (f':Fu),f'.lo (m+1)->BAt H r bs p' b3 b4 b6 [.sl 12 none (pr.map Fu.enc)] c6->LeC c6 f'.enc->
  E 3=.ptr b3 0->E 4=.ptr b4 0->E 5=I k->E 6=.ptr b6 0->p<=p'->p'<=p+200->aX.wp P (.seq (rg [ef 0 185 (.buildSlice 12 0 [.string (bl []),.slice none 0 0,.bool false,.slice none 0 0,.slice none 0 0,.int .i64 0,.int .i64 0,.string (bl []),.slice none 0 0,.slice none 0 0,.string (bl []),.slice none 0 0] []),fa 1 186 0 3,ld 2 187 none 186,ef 3 188 (.appendM 12 216 185 187),fa 4 189 0 3,en 5 (.store 1 189 188)]) (.seq (rg [fa 0 190 0 3,ld 1 191 none 190,mv 2 192 5,ld 3 193 (some 12) 6,ia 4 194 12 191 192,en 5 (.store 12 194 193)]) (.seq (rg [ld 0 195 (some 1) 3,en 1 (.store 1 4 195)]) .ret))) (aD.post [.cell 4 (some 1)] (uU (m+1) r bs p 200)) E H:=by
  intro E H p' c6 f' hf' h hle e3 e4 e5 e6 h1 h2
  exact tG L (m:=m+1) (by omega) r bs p 200 E H p' pr k.toNat hkl (by omega) hplo _ c6 f' hf' b3 b4 b6 h.gr h.g3 h.g4 h.g6 (fun H'=>rfl) ⟨by rw[hle.length,pU],.inl hle⟩ h.hr3 h.hr4 h.d34 h.d36 h.d46 h.hr6 e3 e4 (by rw[e5];congr 2;omega) e6 h1 h2
 have jn8:∀(E:Env) (H:aj) (p':Int) (c6:List AC) (f':Fu),f'.lo (m+1)->BAt H r bs p' b3 b4 b6 [.sl 12 none (pr.map Fu.enc)] c6->FuAt H (fun d=>d=r\/d=b3\/d=b4\/d=b6) c6 f'->
  E 3=.ptr b3 0->E 4=.ptr b4 0->E 5=I k->E 6=.ptr b6 0->p<=p'->p'<=p+200->aX.wp P (.seq (rg [ef 0 185 (.buildSlice 12 0 [.string (bl []),.slice none 0 0,.bool false,.slice none 0 0,.slice none 0 0,.int .i64 0,.int .i64 0,.string (bl []),.slice none 0 0,.slice none 0 0,.string (bl []),.slice none 0 0] []),fa 1 186 0 3,ld 2 187 none 186,ef 3 188 (.appendM 12 216 185 187),fa 4 189 0 3,en 5 (.store 1 189 188)]) (.seq (rg [fa 0 190 0 3,ld 1 191 none 190,mv 2 192 5,ld 3 193 (some 12) 6,ia 4 194 12 191 192,en 5 (.store 12 194 193)]) (.seq (rg [ld 0 195 (some 1) 3,en 1 (.store 1 4 195)]) .ret))) (aD.post [.cell 4 (some 1)] (uU (m+1) r bs p 200)) E H:=by
  intro E H p' c6 f' hf' h hle e3 e4 e5 e6 h1 h2
  exact tG L (m:=m+1) (by omega) r bs p 200 E H p' pr k.toNat hkl (by omega) hplo _ c6 f' hf' b3 b4 b6 h.gr h.g3 h.g4 h.g6 (fun H'=>rfl) hle h.hr3 h.hr4 h.d34 h.d36 h.d46 h.hr6 e3 e4 (by rw[e5];congr 2;omega) e6 h1 h2
 have jn11:∀(E:Env) (H:aj) (tok:Option (Nat×Nat×Nat)) (pr':Pg),k.toNat<pr'.length->pr'.length<=4+(m+1)->(∀g∈pr',g.lo (m+1))->BAt H r bs p2 b3 b4 b6 [.sl 12 tok (pr'.map Fu.enc)] f.enc->
  E 3=.ptr b3 0->E 4=.ptr b4 0->E 5=I k->E 6=.ptr b6 0->aX.wp P (kd29 F) (aD.post [.cell 4 (some 1)] (uU (m+1) r bs p 200)) E H:=by
  intro E H tok pr' h1 h2 h3 h e3 e4 e5 e6
  rw[kd29]
  exact tG L (m:=m+1) (by omega) r bs p 200 E H p2 pr' k.toNat h1 h2 h3 _ f.enc f hlo b3 b4 b6 h.gr h.g3 h.g4 h.g6 (fun H'=>rfl) ⟨pU f,.inl (.refl (BS f))⟩ h.hr3 h.hr4 h.d34 h.d36 h.d46 h.hr6 e3 e4 (by rw[e5];congr 2;omega) e6 (by omega) (by omega)
 have lesays:LeC [I f.says.kind,I f.says.num,S f.says.place.name,au f.says.place.path,.sl 5 none (Ex.encs f.says.kids)] f.says.enc:=by rw[Ex.enc_eq];exact⟨⟨.refl _,rfl⟩,⟨.refl _,rfl⟩,⟨.refl _,rfl⟩,⟨.refl _,rfl⟩,⟨.refl _,rfl⟩,trivial⟩
 have legives:LeC [S f.gives.name,au f.gives.path] f.gives.enc:=⟨⟨.refl _,rfl⟩,⟨.refl _,rfl⟩,trivial⟩
 have g3:=hB.g3
 have g6:=hB.g6
 have sw:=fun K E e0 e6=>AR (F:=F) L r bs hbs p2 (by omega) (by omega) f (m:=m+1) (by omega) hlo (by omega) b3 b4 b6 _ H3 hB K E e0 e6
 have hk:k2=0\/k2=1\/k2=2\/k2=3\/k2=4\/k2=5\/k2=6\/k2=7\/k2=8\/k2=9\/k2=10\/k2=11:=by omega
 rcases hk with rfl|rfl|rfl|rfl|rfl|rfl|rfl|rfl|rfl|rfl|rfl|rfl
 all_goals simp only[go_sem,rE,rA,aH,ax,aq,az,rL,bh,g3,g6,am]
 ·
  intro b0 hb0
  have hB1:=hB.new hb0 (.tail 5 5)
  generalize H3.set b0 (.tail 5 5)=H4 at*
  refine bg (as:=[.ptr r 0,.sl 1 (some (b0,5,5)) (ke [bl [],bl [102,97],bl [70],bl [116,111,111,108,111,110,103],bl [122,122]])]) ((c_of L r bs hbs [bl [],bl [102,97],bl [70],bl [116,111,111,108,111,110,103],bl [122,122]] (by simp) (by simp) p2 (by omega) (by omega)).args ⟨.refl _,.tok _ _ _,trivial⟩) (rfl) hB1.gr (by simp) trivial ?_
  rintro q p3 hp3 hp3' ⟨s,rfl⟩
  have hB2:=hB1.draw p3
  have g6:=hB2.g6
  generalize H4.set r (RdO bs p3)=H5 at*
  simp only[go_sem,rE,rA,aH,ax,aq,az,rL,bh,g6]
  exact jn _ _ p3 _ {f with name:=s} ⟨hlo.pars,hlo.ptys,hlo.ty,hlo.blen,hlo.bcnt,hlo.bsm,hlo.says⟩ (hB2.put _) (mg {f with name:=s} (.refl _) (.refl _) (.refl _) lesays legives) (by first|rfl|simp only[go_sem,rE]) (by first|rfl|simp only[go_sem,rE]) (by first|rfl|simp only[go_sem,rE]) (by first|rfl|simp only[go_sem,rE]) (by omega) (by omega)
 ·
  refine bg (uK L r bs hbs p2 (by omega) (by omega)) (rfl) hB.gr (by simp) trivial ?_
  rintro q p3 hp3 hp3' ⟨t,rfl,ht⟩
  have hB1:=hB.draw p3
  have g6:=hB1.g6
  generalize H3.set r (RdO bs p3)=H4 at*
  simp only[go_sem,rE,rA,aH,ax,aq,az,rL,bh,Ty.enc_eq t,g6]
  exact jn _ _ p3 _ {f with type:=t} ⟨hlo.pars,hlo.ptys,ht,hlo.blen,hlo.bcnt,hlo.bsm,hlo.says⟩ (hB1.put _) (mg {f with type:=t} (.refl _) (.refl _) (.refl _) lesays legives) (by first|rfl|simp only[go_sem,rE]) (by first|rfl|simp only[go_sem,rE]) (by first|rfl|simp only[go_sem,rE]) (by first|rfl|simp only[go_sem,rE]) (by omega) (by omega)
 ·
  exact jn _ _ p2 _ {f with lent:=!f.lent} ⟨hlo.pars,hlo.ptys,hlo.ty,hlo.blen,hlo.bcnt,hlo.bsm,hlo.says⟩ (hB.put _) (mg {f with lent:=!f.lent} (.refl _) (.refl _) (.refl _) lesays legives) (by first|rfl|simp only[go_sem,rE]) (by first|rfl|simp only[go_sem,rE]) (by first|rfl|simp only[go_sem,rE]) (by first|rfl|simp only[go_sem,rE]) (by omega) (by omega)
 ·
  by_cases hb:(0:Int)<f.body.length
  ·simp only[hb,decide_true,go_sem,rE,rA,aH,ax,aq,az,rL,bh,g6,am]
   refine bg (cH L r bs p2 f.body.length hbs (by omega) (by omega)) (rfl) hB.gr (by simp) trivial ?_
   rintro q p3 hp3 hp3' ⟨n,rfl,hn0,hn1⟩
   have hB1:=hB.draw p3
   have g6:=hB1.g6
   generalize H3.set r (RdO bs p3)=H4 at*
   simp only[go_sem,rE,rA,aH,ax,aq,az,rL,bh,g6]
   intro b58 hb58
   have hB2:=hB1.new hb58 (.tail 0 0)
   have g58:(H4.set b58 (.tail 0 0)).get b58=_:=ai _ _ _
   have g6:=hB2.g6
   generalize H4.set b58 (.tail 0 0)=H5 at*
   have hnl:n.toNat<f.body.length:=by omega
   have w1:=aL (n:=n+1) (by omega) (by omega)
   have hn2:n<=f.body.length:=by omega
   have hnl':n.toNat<=f.body.length:=by omega
   have hn1':(0:Int)<=n+1:=by omega
   have hnt:(n+1).toNat<=f.body.length:=by omega
   simp only[go_sem,rE,rA,aH,ax,aq,az,rL,bh,g6,am,hn0,hn2,hnl',fx]
   refine dV (es:=[]) (ys:=(f.body.map St.enc).take n.toNat) (rfl) g58 (rfl) (fun e he=>kf _ e (bJ he)) (by simp;omega) ?_
   intro bt nt mt H6 fp6 gt keep hbt hfb
   have hB3:=hB2.keep (jk g58 keep)
   have nf6:¬fp6 b6:=fun h=>by have:=hfb _ h;rw[g6]at this;simp at this
   have g6:=hB3.g6
   simp only[go_sem,rE,rA,aH,ax,aq,az,rL,bh,g6,am,w1,hn1',hnt,aC]
   refine⟨by simp;exact nf6,?_⟩
   refine dV (es:=(f.body.map St.enc).take n.toNat) (ys:=((f.body.map St.enc).take f.body.length).drop (n+1).toNat) (rfl) gt (rfl) (fun e he=>kf _ e (bJ (fV he))) (by simp;omega) ?_
   intro bt2 nt2 mt2 H7 fp7 gt2 keep2 hbt2 hfb2
   have hB4:=hB3.keep (jk gt keep2)
   have g6:=hB4.g6
   simp only[go_sem,rE,rA,aH,ax,aq,az,rL,bh,g6]
   have hmem:∀s∈f.body.take n.toNat++f.body.drop (n+1).toNat,s∈f.body:=fun s hs=>by
    rcases aF.1 hs with h|h
    ·exact bJ h
    ·exact fV h
   refine jn _ _ p3 _ {f with body:=f.body.take n.toNat++f.body.drop (n+1).toNat} ⟨hlo.pars,hlo.ptys,hlo.ty,by simp;omega,fun s hs=>hlo.bcnt s (hmem s hs),fun s hs=>hlo.bsm s (hmem s hs),hlo.says⟩ (hB4.put _) (mg {f with body:=f.body.take n.toNat++f.body.drop (n+1).toNat} (.refl _) (.refl _) ?_ lesays legives) (by first|rfl|simp only[go_sem,rE]) (by first|rfl|simp only[go_sem,rE]) (by first|rfl|simp only[go_sem,rE]) (by first|rfl|simp only[go_sem,rE]) (by omega) (by omega)
   rw[bB,gU,List.map_drop]
   have:(f.body.map St.enc).take f.body.length=f.body.map St.enc:=by rw[cF (by simp)]
   rw[this]
   exact .tok _ _ _
  ·simp only[hb,decide_false,go_sem,rE,rA,aH,ax,aq,az,rL,bh]
   exact jn _ _ p2 _ f hlo hB (mg f (.refl _) (.refl _) (.refl _) lesays legives) (by first|rfl|simp only[go_sem,rE]) (by first|rfl|simp only[go_sem,rE]) (by first|rfl|simp only[go_sem,rE]) (by first|rfl|simp only[go_sem,rE]) (by omega) (by omega)
 ·
  by_cases hb:(0:Int)<f.body.length
  ·simp only[hb,decide_true,go_sem,rE,rA,aH,ax,aq,az,rL,bh,g6,am]
   intro b58 hb58
   have hB2:=hB.new hb58 (.tail 0 0)
   have g58:(H3.set b58 (.tail 0 0)).get b58=_:=ai _ _ _
   have g6:=hB2.g6
   generalize H3.set b58 (.tail 0 0)=H5 at*
   simp only[go_sem,rE,rA,aH,ax,aq,az,rL,bh,g6]
   refine dV (es:=[]) (ys:=f.body.map St.enc) (rfl) g58 (rfl) (kf _) (by simp;omega) ?_
   intro bt nt mt H6 fp6 gt keep hbt hfb
   have hB3:=hB2.keep (jk g58 keep)
   have nf6:¬fp6 b6:=fun h=>by have:=hfb _ h;rw[g6]at this;simp at this
   have g6:=hB3.g6
   simp only[go_sem,rE,rA,aH,ax,aq,az,rL,bh,g6,am]
   refine⟨by simp;exact nf6,by simp;exact nf6,?_⟩
   refine bg (cH L r bs p2 f.body.length hbs (by omega) (by omega)) (rfl) hB3.gr (fun _=>⟨by omega,I 0,0,rfl,by omega,.inr rfl⟩) (by simp[dS];exact Ne.symm hr6) ?_
   rintro q p3 hp3 hp3' ⟨m,rfl,hm0,hm1⟩
   have hB4:=hB3.draw p3
   have hnt:bt≠r:=by rintro rfl;rw[hB3.gr]at gt;simp[RdO]at gt
   have gt:(H6.set r (RdO bs p3)).get bt=_:=(ae _ _ hnt).trans gt
   generalize H6.set r (RdO bs p3)=H7 at*
   have hml:m.toNat<f.body.length:=by omega
   obtain⟨cs,hcs,Cs⟩:=stC f.body[m.toNat]
   have hgm:(f.body.map St.enc)[m.toNat]?=some cs:=by rw[<-hcs];simp[hml]
   simp only[go_sem,rE,rA,aH,ax,aq,az,rL,bh,hm0,hgm,Cs.len,Cs.all]
   refine dV (es:=f.body.map St.enc) (ys:=[cs]) (rfl) gt (rfl) (by simp[Cs.len]) (by simp;omega) ?_
   intro bt2 nt2 mt2 H8 fp8 gt2 keep2 hbt2 hfb2
   have hB5:=hB4.keep (jk gt keep2)
   have g6:=hB5.g6
   simp only[go_sem,rE,rA,aH,ax,aq,az,rL,bh,g6]
   have hmem:∀s∈f.body++[f.body[m.toNat]],s∈f.body:=fun s hs=>by
    rcases aF.1 hs with h|h
    ·exact h
    ·simp at h;rw[h];exact ay hml
   refine jn _ _ p3 _ {f with body:=f.body++[f.body[m.toNat]]} ⟨hlo.pars,hlo.ptys,hlo.ty,by simp;omega,fun s hs=>hlo.bcnt s (hmem s hs),fun s hs=>hlo.bsm s (hmem s hs),hlo.says⟩ (hB5.put _) (mg {f with body:=f.body++[f.body[m.toNat]]} (.refl _) (.refl _) ?_ lesays legives) (by first|rfl|simp only[go_sem,rE]) (by first|rfl|simp only[go_sem,rE]) (by first|rfl|simp only[go_sem,rE]) (by first|rfl|simp only[go_sem,rE]) (by omega) (by omega)
   rw[bB,aS,bv,hcs]
   exact .tok _ _ _
  ·simp only[hb,decide_false,go_sem,rE,rA,aH,ax,aq,az,rL,bh]
   exact jn _ _ p2 _ f hlo hB (mg f (.refl _) (.refl _) (.refl _) lesays legives) (by first|rfl|simp only[go_sem,rE]) (by first|rfl|simp only[go_sem,rE]) (by first|rfl|simp only[go_sem,rE]) (by first|rfl|simp only[go_sem,rE]) (by omega) (by omega)
 ·
  intro b58 hb58
  have hB2:=hB.new hb58 (.tail 0 0)
  have g58:(H3.set b58 (.tail 0 0)).get b58=_:=ai _ _ _
  have g6:=hB2.g6
  generalize H3.set b58 (.tail 0 0)=H5 at*
  simp only[go_sem,rE,rA,aH,ax,aq,az,rL,bh,g6]
  refine dV (es:=[]) (ys:=f.params.map Pa.enc) (rfl) g58 (rfl) (by simp;intro s _;exact pa_len s) (by have:=hgood.pars;simp;omega) ?_
  intro bt nt mt H6 fp6 gt keep hbt hfb
  have hB3:=hB2.keep (jk g58 keep)
  simp only[go_sem,rE,rA,aH,ax,aq,az,rL,bh]
  intro b0 hb0
  have d0t:=al gt hb0
  have hB4:=hB3.new hb0 (.tail 3 3)
  have gt:(H6.set b0 (.tail 3 3)).get bt=_:=(ae _ _ d0t).trans gt
  generalize H6.set b0 (.tail 3 3)=H7 at*
  refine bg (as:=[.ptr r 0,.sl 1 (some (b0,3,3)) (ke [bl [112],bl [122],bl [90]])]) ((c_of L r bs hbs [bl [112],bl [122],bl [90]] (by simp) (by simp) p2 (by omega) (by omega)).args ⟨.refl _,.tok _ _ _,trivial⟩) (rfl) hB4.gr (by simp) trivial ?_
  rintro q p3 hp3 hp3' ⟨s,rfl⟩
  have hB5:=hB4.draw p3
  have hnt:bt≠r:=by rintro rfl;rw[hB4.gr]at gt;simp[RdO]at gt
  have gt:(H7.set r (RdO bs p3)).get bt=_:=(ae _ _ hnt).trans gt
  generalize H7.set r (RdO bs p3)=H8 at*
  simp only[go_sem,rE,rA,aH,ax,aq,az,rL,bh]
  refine bg (uK L r bs hbs p3 (by omega) (by omega)) (rfl) hB5.gr (by simp) trivial ?_
  rintro q p4 hp4 hp4' ⟨t,rfl,ht⟩
  have hB6:=hB5.draw p4
  have gt:(H8.set r (RdO bs p4)).get bt=_:=(ae _ _ hnt).trans gt
  generalize H8.set r (RdO bs p4)=H9 at*
  simp only[go_sem,rE,rA,aH,ax,aq,az,rL,bh,Ty.enc_eq t]
  refine dV (es:=f.params.map Pa.enc) (ys:=[[S s,B false,.sl 1 none (Ty.encs t.kids)]]) (rfl) gt (rfl) (by simp) (by have:=hgood.pars;simp;omega) ?_
  intro bt2 nt2 mt2 H10 fp10 gt2 keep2 hbt2 hfb2
  have hB7:=hB6.keep (jk gt keep2)
  have g6:=hB7.g6
  simp only[go_sem,rE,rA,aH,ax,aq,az,rL,bh,g6]
  refine jn _ _ p4 _ {f with params:=f.params++[⟨s,false,t⟩]} ⟨by have:=hgood.pars;simp;omega,fun x hx=>?_,hlo.ty,hlo.blen,hlo.bcnt,hlo.bsm,hlo.says⟩ (hB7.put _) (mg {f with params:=f.params++[⟨s,false,t⟩]} ?_ (.refl _) (.refl _) lesays legives) (by first|rfl|simp only[go_sem,rE]) (by first|rfl|simp only[go_sem,rE]) (by first|rfl|simp only[go_sem,rE]) (by first|rfl|simp only[go_sem,rE]) (by omega) (by omega)
  ·rcases aF.1 hx with h|h
   ·exact hlo.ptys x h
   ·simp at h;subst h;exact ht
  ·rw[bB,aS,bv,Pa.enc,Ty.enc_eq t]
   exact .tok _ _ _
 ·
  intro b0 hb0
  have hB4:=hB.new hb0 (.tail 3 3)
  generalize H3.set b0 (.tail 3 3)=H7 at*
  refine bg (as:=[.ptr r 0,.sl 1 (some (b0,3,3)) (ke [bl [112],bl [113],bl [122,122]])]) ((c_of L r bs hbs [bl [112],bl [113],bl [122,122]] (by simp) (by simp) p2 (by omega) (by omega)).args ⟨.refl _,.tok _ _ _,trivial⟩) (rfl) hB4.gr (by simp) trivial ?_
  rintro q p3 hp3 hp3' ⟨s,rfl⟩
  have hB5:=hB4.draw p3
  generalize H7.set r (RdO bs p3)=H8 at*
  simp only[go_sem,rE,rA,aH,ax,aq,az,rL,bh]
  refine bg (cH L r bs p3 3 hbs (by omega) (by omega)) (rfl) hB5.gr (by simp) trivial ?_
  rintro q p4 hp4 hp4' ⟨m,rfl,hm0,hm1⟩
  have hB6:=hB5.draw p4
  generalize H8.set r (RdO bs p4)=H9 at*
  have w1:=aL (n:=m - 1) (by omega) (by omega)
  simp only[go_sem,rE,rA,aH,ax,aq,az,rL,bh,w1]
  intro b1 hb1
  have hB7:=hB6.new hb1 (.tail 1 1)
  generalize H9.set b1 (.tail 1 1)=H10 at*
  refine bg (cH L r bs p4 2 hbs (by omega) (by omega)) (rfl) hB7.gr (by simp) trivial ?_
  rintro q p5 hp5 hp5' ⟨n,rfl,hn0,hn1⟩
  have hB8:=hB7.draw p5
  have g6:=hB8.g6
  generalize H10.set r (RdO bs p5)=H11 at*
  have hn01:n=0\/n=1:=by omega
  have hn1':n.toNat<=1:=by omega
  simp only[go_sem,rE,rA,aH,ax,aq,az,rL,bh,g6,hn0,hn1',fx]
  refine jn _ _ p5 _ {f with gives:=⟨s,[m - 1].take n.toNat⟩} ⟨hlo.pars,hlo.ptys,hlo.ty,hlo.blen,hlo.bcnt,hlo.bsm,hlo.says⟩ (hB8.put _) (mg {f with gives:=⟨s,[m - 1].take n.toNat⟩} (.refl _) (.refl _) (.refl _) lesays ⟨⟨.refl _,rfl⟩,⟨?_,rfl⟩,trivial⟩) (by first|rfl|simp only[go_sem,rE]) (by first|rfl|simp only[go_sem,rE]) (by first|rfl|simp only[go_sem,rE]) (by first|rfl|simp only[go_sem,rE]) (by omega) (by omega)
  rcases hn01 with rfl|rfl
  ·exact .refl _
  ·exact .refl _
 ·
  refine bg (cH L r bs p2 8 hbs (by omega) (by omega)) (rfl) hB.gr (by simp) trivial ?_
  rintro q p3 hp3 hp3' ⟨n,rfl,hn0,hn1⟩
  have hB1:=hB.draw p3
  generalize H3.set r (RdO bs p3)=H4 at*
  simp only[go_sem,rE,rA,aH,ax,aq,az,rL,bh]
  refine bg (cH L r bs p3 3 hbs (by omega) (by omega)) (rfl) hB1.gr (by simp) trivial ?_
  rintro q p4 hp4 hp4' ⟨m,rfl,hm0,hm1⟩
  have hB2:=hB1.draw p4
  have g6:=hB2.g6
  generalize H4.set r (RdO bs p4)=H5 at*
  simp only[go_sem,rE,rA,aH,ax,aq,az,rL,bh,g6]
  refine jn _ _ p4 _ {f with says:=.mk n m ⟨bl [112],[]⟩ []} ⟨hlo.pars,hlo.ptys,hlo.ty,hlo.blen,hlo.bcnt,hlo.bsm,.mk (by omega) (by simp)⟩ (hB2.put _) (mg {f with says:=.mk n m ⟨bl [112],[]⟩ []} (.refl _) (.refl _) (.refl _) ?_ legives) (by first|rfl|simp only[go_sem,rE]) (by first|rfl|simp only[go_sem,rE]) (by first|rfl|simp only[go_sem,rE]) (by first|rfl|simp only[go_sem,rE]) (by omega) (by omega)
  rw[Ex.enc]
  exact⟨⟨.refl _,rfl⟩,⟨.refl _,rfl⟩,⟨.refl _,rfl⟩,⟨.nil 1,rfl⟩,⟨.nil 5,rfl⟩,trivial⟩
 ·
  exact sw _ _ (by first|rfl|simp only[go_sem,rE]) (by first|rfl|simp only[go_sem,rE]) fun E' H' p' c6 f' hf' hB' hA he h1 h2=>jn8 E' H' p' c6 f' hf' hB' hA ((he 3 (by decide)).trans (by first|rfl|simp only[go_sem,rE])) ((he 4 (by decide)).trans (by first|rfl|simp only[go_sem,rE])) ((he 5 (by decide)).trans (by first|rfl|simp only[go_sem,rE])) ((he 6 (by decide)).trans (by first|rfl|simp only[go_sem,rE])) (by omega) (by omega)
 ·
  exact sw _ _ (by first|rfl|simp only[go_sem,rE]) (by first|rfl|simp only[go_sem,rE]) fun E' H' p' c6 f' hf' hB' hA he h1 h2=>jn8 E' H' p' c6 f' hf' hB' hA ((he 3 (by decide)).trans (by first|rfl|simp only[go_sem,rE])) ((he 4 (by decide)).trans (by first|rfl|simp only[go_sem,rE])) ((he 5 (by decide)).trans (by first|rfl|simp only[go_sem,rE])) ((he 6 (by decide)).trans (by first|rfl|simp only[go_sem,rE])) (by omega) (by omega)
 ·
  intro b58 hb58
  have hB2:=hB.new hb58 (.tail 0 0)
  have g58:(H3.set b58 (.tail 0 0)).get b58=_:=ai _ _ _
  have g6:=hB2.g6
  generalize H3.set b58 (.tail 0 0)=H5 at*
  simp only[go_sem,rE,rA,aH,ax,aq,az,rL,bh,g6]
  refine dV (es:=[]) (ys:=f.body.map St.enc) (rfl) g58 (rfl) (kf _) (by simp;omega) ?_
  intro bt nt mt H6 fp6 gt keep hbt hfb
  have hB3:=hB2.keep (jk g58 keep)
  simp only[go_sem,rE,rA,aH,ax,aq,az,rL,bh]
  intro b0 hb0
  have d0t:=al gt hb0
  have hB4:=hB3.new hb0 (.tail 6 6)
  have gt:(H6.set b0 (.tail 6 6)).get bt=_:=(ae _ _ d0t).trans gt
  generalize H6.set b0 (.tail 6 6)=H7 at*
  refine bg (as:=[.ptr r 0,.sl 1 (some (b0,6,6)) (ke [bl [112],bl [113],bl [97,98],bl [97,99],bl [97,100],bl [97,101]])]) ((c_of L r bs hbs [bl [112],bl [113],bl [97,98],bl [97,99],bl [97,100],bl [97,101]] (by simp) (by simp) p2 (by omega) (by omega)).args ⟨.refl _,.tok _ _ _,trivial⟩) (rfl) hB4.gr (by simp) trivial ?_
  rintro q p3 hp3 hp3' ⟨s,rfl⟩
  have hB5:=hB4.draw p3
  have hnt:bt≠r:=by rintro rfl;rw[hB4.gr]at gt;simp[RdO]at gt
  have gt:(H7.set r (RdO bs p3)).get bt=_:=(ae _ _ hnt).trans gt
  generalize H7.set r (RdO bs p3)=H8 at*
  simp only[go_sem,rE,rA,aH,ax,aq,az,rL,bh]
  refine dV (es:=f.body.map St.enc) (ys:=[[I 1,S (bl [122,122]),S (bl []),NIL,S (bl []),NIL,I 2,I 0,S s,NIL,NIL,S (bl []),NIL,NIL,NIL]]) (rfl) gt (rfl) (by simp) (by simp;omega) ?_
  intro bt2 nt2 mt2 H10 fp10 gt2 keep2 hbt2 hfb2
  have hB7:=hB5.keep (jk gt keep2)
  have g6:=hB7.g6
  simp only[go_sem,rE,rA,aH,ax,aq,az,rL,bh,g6]
  have hxs:(Ex.mk 2 0 ⟨s,[]⟩ []).sm:=.mk (by decide) (by simp)
  obtain⟨c1,c2⟩:=mJ 1 (bl [122,122]) P0 P0 (.mk 2 0 ⟨s,[]⟩ []) hxs
  refine jn _ _ p3 _ {f with body:=f.body++[.mk 1 (bl [122,122]) P0 P0 (.mk 2 0 ⟨s,[]⟩ []) (bl []) [] [] []]} ⟨hlo.pars,hlo.ptys,hlo.ty,by simp;omega,fun x hx=>?_,fun x hx=>?_,hlo.says⟩ (hB7.put _) (mg {f with body:=f.body++[.mk 1 (bl [122,122]) P0 P0 (.mk 2 0 ⟨s,[]⟩ []) (bl []) [] [] []]} (.refl _) (.refl _) ?_ lesays legives) (by first|rfl|simp only[go_sem,rE]) (by first|rfl|simp only[go_sem,rE]) (by first|rfl|simp only[go_sem,rE]) (by first|rfl|simp only[go_sem,rE]) (by omega) (by omega)
  ·rcases aF.1 hx with h|h
   ·exact hlo.bcnt x h
   ·simp at h;subst h;omega
  ·rcases aF.1 hx with h|h
   ·exact hlo.bsm x h
   ·simp at h;subst h;exact c2.up (by omega)
  ·rw[bB,aS,bv]
   refine .slR ((zO f.body).snoc ?_)
   rw[St.enc_eq]
   exact⟨⟨.refl _,rfl⟩,⟨.refl _,rfl⟩,⟨.refl _,rfl⟩,⟨.nil 1,rfl⟩,⟨.refl _,rfl⟩,⟨.nil 1,rfl⟩,⟨.refl _,rfl⟩,⟨.refl _,rfl⟩,⟨.refl _,rfl⟩,⟨.nil 1,rfl⟩,⟨.nil 5,rfl⟩,⟨.refl _,rfl⟩,⟨.nil 8,rfl⟩,⟨.nil 15,rfl⟩,⟨.nil 15,rfl⟩,trivial⟩
 ·
  intro b58 hb58
  have hB2:=hB.new hb58 (.tail 0 0)
  have g58:(H3.set b58 (.tail 0 0)).get b58=_:=ai _ _ _
  have g3:=hB2.g3
  generalize H3.set b58 (.tail 0 0)=H5 at*
  simp only[go_sem,rE,rA,aH,ax,aq,az,rL,bh,g3]
  refine dV (es:=[]) (ys:=pr.map Fu.enc) (rfl) g58 (rfl) (by simp;intro g _;exact pU g) (by simp;omega) ?_
  intro bt nt mt H6 fp6 gt keep hbt hfb
  have nf6:¬fp6 b6:=fun h=>by have:=hfb _ h;rw[hB2.g6]at this;simp at this
  have hB3:=hB2.keep (jk g58 keep)
  have g6:=hB3.g6
  simp only[go_sem,rE,rA,aH,ax,aq,az,rL,bh,g6]
  refine⟨by simp;exact nf6,?_⟩
  refine dV (es:=pr.map Fu.enc) (ys:=[f.enc]) (rfl) gt (by simp only[go_sem,rE];rw[tz]) (by simp[pU]) (by simp;omega) ?_
  intro bt2 nt2 mt2 H8 fp8 gt2 keep2 hbt2 hfb2
  have hB5:=hB3.keep (jk gt keep2)
  have g3:=hB5.g3
  simp only[go_sem,rE,rA,aH,ax,aq,az,rL,bh,g3]
  have hB6:=hB5.put3 [.sl 12 (some (bt2,nt2,mt2)) (pr.map Fu.enc++[f.enc])]
  rw[<-tz]at hB6
  have e1:pr.map Fu.enc++[f.enc]=(pr++[f]).map Fu.enc:=by simp
  rw[e1]at hB6⊢
  exact jn11 _ _ _ (pr++[f]) (by simp;omega) (by simp;omega) (fun g hg=>by rcases aF.1 hg with h|h;exact hplo g h;simp at h;rw[h];exact hlo) hB6 (by first|rfl|simp only[go_sem,rE]) (by first|rfl|simp only[go_sem,rE]) (by first|rfl|simp only[go_sem,rE]) (by first|rfl|simp only[go_sem,rE])
end
section
variable {P:Program}{F:Ids}
def drawn(m:Nat)(pr:Pg):Prop:=(∀f∈pr,f.lo m)/\1<=pr.length/\pr.length<=4+m
theorem AF(L:Lib P F)(r:Nat)(bs:List UInt8)(hbs:bs.length<=2000)(p:Int)(hp:0<=p)(hp2:p+6*FC<=2^50):
 bD P F.s_l71Some [.ptr r 0] (one r (RdO bs p)) (RdR r bs p (6*FC) fun q=>∃pr:Pg,q=.agg (Pg.enc pr)/\drawn 1 pr):=by
 simp only[FC]at hp2
 refine L.s_l71Some (by simp[nq]) ?_
 simp only[nq,go_sem,rE,rA]
 intro b2 hb2
 have hr2:r≠b2:=by rintro rfl;rw[bE]at hb2;simp at hb2
 have gr:((one r (RdO bs p)).set b2 (.cells [NIL])).get r=some (RdO bs p):=by rw[ae _ _ hr2,bE]
 have g2:((one r (RdO bs p)).set b2 (.cells [NIL])).get b2=some (.cells [NIL]):=ai _ _ _
 generalize((one r (RdO bs p)).set b2 (.cells [NIL]))=H0 at*
 clear hb2
 refine bg (AG L r bs hbs p hp (by simp only[FC];omega)) (rfl) gr (by simp) trivial ?_
 rintro q p1 hp1 hp1' ⟨pr,rfl,hgood,hl1,hl2⟩
 simp only[FC]at hp1'
 have g2:(H0.set r (RdO bs p1)).get b2=_:=(ae _ _ (Ne.symm hr2)).trans g2
 have gr:(H0.set r (RdO bs p1)).get r=_:=ai _ _ _
 generalize H0.set r (RdO bs p1)=H1 at*
 simp only[go_sem,rE,rA,Pg.enc]
 intro b3 hb3
 have hr3:=al gr hb3
 have d23:=al g2 hb3
 have gr:(H1.set b3 (.cells [.sl 12 none (pr.map Fu.enc)])).get r=_:=(ae _ _ hr3).trans gr
 have g2:(H1.set b3 (.cells [.sl 12 none (pr.map Fu.enc)])).get b2=_:=(ae _ _ d23).trans g2
 have g3:(H1.set b3 (.cells [.sl 12 none (pr.map Fu.enc)])).get b3=_:=ai _ _ _
 generalize H1.set b3 (.cells [.sl 12 none (pr.map Fu.enc)])=H2 at*
 clear hb3
 refine bg (cH L r bs p1 5 hbs (by omega) (by omega)) (rfl) gr (by simp) trivial ?_
 rintro q p2 hp2 hp2' ⟨k,rfl,hk0,hk1⟩
 have g2:(H2.set r (RdO bs p2)).get b2=_:=(ae _ _ (Ne.symm hr2)).trans g2
 have g3:(H2.set r (RdO bs p2)).get b3=_:=(ae _ _ (Ne.symm hr3)).trans g3
 have gr:(H2.set r (RdO bs p2)).get r=_:=ai _ _ _
 generalize H2.set r (RdO bs p2)=H3 at*
 by_cases hk:k=0
 ·simp only[hk,go_sem,rE,rA,aH,g3,rL]
  refine bg (uL L r bs hbs pr (m:=0) (by omega) (fun f hf=>(hgood f hf).lo) hl1 hl2 p2 (by omega) (by omega)) (by simp only[go_sem,rE,Pg.enc]) gr (by simp) trivial ?_
  rintro q p3 hp3 hp3' ⟨pr',rfl,hlo,hl1',hl2'⟩
  have g2:(H3.set r (RdO bs p3)).get b2=_:=(ae _ _ (Ne.symm hr2)).trans g2
  have gr:(H3.set r (RdO bs p3)).get r=_:=ai _ _ _
  generalize H3.set r (RdO bs p3)=H4 at*
  simp only[go_sem,rE,rA,g2,Pg.enc,rL]
  exact bY (q':=.agg (Pg.enc pr')) (off:=0) (rfl) (ai _ _ _) rfl (.refl _) (eO (by rw[ae _ _ hr2];exact gr)) ⟨p3,by omega,by simp only[FC];omega,rfl,pr',rfl,hlo,hl1',hl2'⟩
 ·have hk':(k==0)=false:=by simpa using hk
  simp only[hk',go_sem,rE,rA,g2,g3,rL]
  exact bY (q':=.agg (Pg.enc pr)) (off:=0) (rfl) (ai _ _ _) rfl (.refl _) (eO (by rw[ae _ _ hr2];exact gr)) ⟨p2,by omega,by simp only[FC];omega,rfl,pr,rfl,fun f hf=>(hgood f hf).lo.up,hl1,by omega⟩
def fq(bs:List UInt8):List (List AC):=bs.map fun b=>[AC.lit (.int .u8 (b.toNat:Int))]
theorem Ch(L:Lib P F)(bs:List UInt8)(hl:bs.length<=2^30):bD P F.s_l6Open [.sl 1 none (fq bs)] .empty fun q H'=>∃r bs',q=.ptr r 0/\H'=one r (RdO bs' 0)/\bs'.length<=2000:=by
 refine L.s_l6Open (by simp[mw]) ?_
 have hlen:(fq bs).length=bs.length:=by simp[fq]
 by_cases h:(2000:Int)<bs.length
 ·have h2:2000<=bs.length:=by omega
  have h3:(0:Int)<=2000:=by decide
  have h4:(2000:Int).toNat=2000:=rfl
  simp only[mw,go_sem,rE,rA,hlen,h,h2,h3,h4,decide_true,fx,dO,Int.reduceToNat]
  intro r hr
  refine ak (q':=.ptr r 0) (by simp only[go_sem,rE];exact .refl _) (aj.sub_refl _) ⟨r,bs.take 2000,rfl,?_,by simp;omega⟩
  simp only[RdO,fq,gU]
  rfl
 ·simp only[mw,go_sem,rE,rA,hlen,h,decide_false]
  intro r hr
  exact ak (q':=.ptr r 0) (by simp only[go_sem,rE];exact .refl _) (aj.sub_refl _) ⟨r,bs,rfl,rfl,by omega⟩
end
theorem iP{E:Env}{H:aj}{n m k r off:Nat}{g:Option Nat}{cs:List AC}{q q1:AC}{R:AC->aj->Prop}(hE:E n=.ptr r off)(hg:H.get r=some (.cells cs))(hq:fM g cs off=some q)
(hl:Le q q1){H':aj}(hs:H'.sub H)(h:R (.tup [q1,E m,E k]) H'):aD.post [.cell n g,.slot m,.slot k] R .ret E H:=
 ⟨.tup [q,E m,E k],by simp only[lW,iK,j4.val,hE,hg,hq],_,H',.of (Le.tup (show LeA [q,E m,E k] [q1,E m,E k]from⟨hl,.refl _,.refl _,trivial⟩)) hs,h⟩
section
variable {P:Program}{F:bS}
theorem AE(L:eC P F)(r:Nat)(bs:List UInt8)(hbs:bs.length<=2000)(p:Int)(hp:0<=p)(hp2:p+7*FC<=2^50):
 bD P F.s_l71Spot [.ptr r 0] (one r (RdO bs p)) (RdR r bs p (7*FC) fun q=>∃(pr:Pg) (fn n:Int),q=.tup [.agg (Pg.enc pr),I fn,I n]/\drawn 1 pr):=by
 simp only[FC]at hp2
 refine L.s_l71Spot (by simp[nk]) ?_
 simp only[nk,go_sem,rE,rA]
 intro b2 hb2
 have hr2:r≠b2:=by rintro rfl;rw[bE]at hb2;simp at hb2
 have gr:((one r (RdO bs p)).set b2 (.cells [NIL])).get r=some (RdO bs p):=by rw[ae _ _ hr2,bE]
 have g2:((one r (RdO bs p)).set b2 (.cells [NIL])).get b2=some (.cells [NIL]):=ai _ _ _
 generalize((one r (RdO bs p)).set b2 (.cells [NIL]))=H0 at*
 clear hb2
 refine bg (AF L.toLib r bs hbs p hp (by simp only[FC];omega)) (rfl) gr (by simp) trivial ?_
 rintro q p1 hp1 hp1' ⟨pr,rfl,hd⟩
 simp only[FC]at hp1'
 have g2:(H0.set r (RdO bs p1)).get b2=_:=(ae _ _ (Ne.symm hr2)).trans g2
 have gr:(H0.set r (RdO bs p1)).get r=_:=ai _ _ _
 generalize H0.set r (RdO bs p1)=H1 at*
 simp only[go_sem,rE,rA,Pg.enc]
 intro b5 hb5
 have hr5:=al gr hb5
 have d25:=al g2 hb5
 have hdl:=hd.2.2
 have hd1:=hd.2.1
 have gr:(H1.set b5 (.cells [.sl 12 none (pr.map Fu.enc)])).get r=_:=(ae _ _ hr5).trans gr
 have g2:(H1.set b5 (.cells [.sl 12 none (pr.map Fu.enc)])).get b2=_:=(ae _ _ d25).trans g2
 have g5:(H1.set b5 (.cells [.sl 12 none (pr.map Fu.enc)])).get b5=_:=ai _ _ _
 generalize H1.set b5 (.cells [.sl 12 none (pr.map Fu.enc)])=H2 at*
 clear hb5
 refine bg (cH L.toLib r bs p1 pr.length hbs (by omega) (by omega)) (by simp only[go_sem,rE,am]) gr (by simp) trivial ?_
 rintro q p2 hp2 hp2' ⟨k,rfl,hk0,hk1⟩
 have g2:(H2.set r (RdO bs p2)).get b2=_:=(ae _ _ (Ne.symm hr2)).trans g2
 have g5:(H2.set r (RdO bs p2)).get b5=_:=(ae _ _ (Ne.symm hr5)).trans g5
 have gr:(H2.set r (RdO bs p2)).get r=_:=ai _ _ _
 generalize H2.set r (RdO bs p2)=H3 at*
 obtain⟨k,rfl⟩:=dF hk0
 have hkl:k<pr.length:=by omega
 obtain⟨cf,hcf,CF⟩:=fuC pr[k]
 have hgf:(pr.map Fu.enc)[k]?=some cf:=by rw[<-hcf];simp[hkl]
 have cfb:(cf.drop 4)[0]?=some (.sl 15 none (St.encs pr[k].body)):=by rw[bC];exact CF.body
 have hel:(St.encs pr[k].body).length=pr[k].body.length:=by rw[St.encs_map,am]
 have hbl:=(hd.1 pr[k] (ay hkl)).blen
 have w1:=aL (n:=(pr[k].body.length:Int)+1) (by omega) (by omega)
 simp only[go_sem,rE,rA,rL,g5,hgf,CF.len,CF.body,cfb,hel,w1]
 refine bg (cH L.toLib r bs p2 (pr[k].body.length+1) hbs (by omega) (by omega)) (by simp only[go_sem,rE]) gr (by simp) trivial ?_
 rintro q p3 hp3 hp3' ⟨m,rfl,hm0,hm1⟩
 have g2:(H3.set r (RdO bs p3)).get b2=_:=(ae _ _ (Ne.symm hr2)).trans g2
 have g5:(H3.set r (RdO bs p3)).get b5=_:=(ae _ _ (Ne.symm hr5)).trans g5
 have gr:(H3.set r (RdO bs p3)).get r=_:=ai _ _ _
 generalize H3.set r (RdO bs p3)=H4 at*
 simp only[go_sem,rE,rA,rL]
 refine bg (cH L.toLib r bs p3 20 hbs (by omega) (by omega)) (by simp only[go_sem,rE]) gr (by simp) trivial ?_
 rintro q p4 hp4 hp4' ⟨j,rfl,hj0,hj1⟩
 have g2:(H4.set r (RdO bs p4)).get b2=_:=(ae _ _ (Ne.symm hr2)).trans g2
 have g5:(H4.set r (RdO bs p4)).get b5=_:=(ae _ _ (Ne.symm hr5)).trans g5
 have gr:(H4.set r (RdO bs p4)).get r=_:=ai _ _ _
 generalize H4.set r (RdO bs p4)=H5 at*
 simp only[go_sem,rE,rA,rL]
 have hch:∀a b:AC,bh 1 2 [a,b]=[[a],[b]]:=fun _ _=>rfl
 have hg0:∀a b:List AC,[a,b][Int.toNat 0]?=some a:=fun _ _=>rfl
 have hg1:∀a b:List AC,[a,b][Int.toNat 1]?=some b:=fun _ _=>rfl
 have h00:(0:Int)<=0:=dz _
 have h01:(0:Int)<=1:=by decide
 by_cases h0:j=0
 ·have h0':(j==0)=true:=by simpa using h0
  simp only[go_sem,rE,rA,rL,h0',g5,am,ax,aq,az,hch,jy,bf,cq,or_false,forall_eq]
  refine bg (cH L.toLib r bs p4 2 hbs (by omega) (by omega)) (rfl) gr (fun _=>⟨by omega,I 0,0,rfl,dz _,.inr rfl⟩) (by simp[dS];exact fun h=>hr5 h.symm) ?_
  rintro q p5 hp5 hp5' ⟨x,rfl,hx0,hx1⟩
  have g2:(H5.set r (RdO bs p5)).get b2=_:=(ae _ _ (Ne.symm hr2)).trans g2
  have g5:(H5.set r (RdO bs p5)).get b5=_:=(ae _ _ (Ne.symm hr5)).trans g5
  have gr:(H5.set r (RdO bs p5)).get r=_:=ai _ _ _
  generalize H5.set r (RdO bs p5)=H6 at*
  have hx:x=0\/x=1:=by omega
  rcases hx with rfl|rfl
  ·simp only[go_sem,rE,rA,rL,hg0,h00,g5,g2]
   exact iP (q1:=.agg (Pg.enc pr)) (off:=0) rfl (ai _ _ _) rfl (.refl _) (eO (by rw[ae _ _ hr2];exact gr)) ⟨p5,by omega,by simp only[FC];omega,rfl,pr,_,_,rfl,hd⟩
  ·simp only[go_sem,rE,rA,rL,hg1,h01,g5,g2]
   exact iP (q1:=.agg (Pg.enc pr)) (off:=0) rfl (ai _ _ _) rfl (.refl _) (eO (by rw[ae _ _ hr2];exact gr)) ⟨p5,by omega,by simp only[FC];omega,rfl,pr,_,_,rfl,hd⟩
 have h0':(j==0)=false:=by simpa using h0
 by_cases h1:j=1
 ·have h1':(j==1)=true:=by simpa using h1
  simp only[go_sem,rE,rA,rL,h0',h1',g5,hgf,CF.len,CF.body,cfb,hel,w1,am,ax,aq,az,hch,jy,bf,cq,or_false,forall_eq]
  refine bg (cH L.toLib r bs p4 2 hbs (by omega) (by omega)) (rfl) gr (fun _=>⟨by omega,I 0,0,rfl,dz _,.inr rfl⟩) (by simp[dS];exact fun h=>hr5 h.symm) ?_
  rintro q p5 hp5 hp5' ⟨x,rfl,hx0,hx1⟩
  have g2:(H5.set r (RdO bs p5)).get b2=_:=(ae _ _ (Ne.symm hr2)).trans g2
  have g5:(H5.set r (RdO bs p5)).get b5=_:=(ae _ _ (Ne.symm hr5)).trans g5
  have gr:(H5.set r (RdO bs p5)).get r=_:=ai _ _ _
  generalize H5.set r (RdO bs p5)=H6 at*
  have hx:x=0\/x=1:=by omega
  rcases hx with rfl|rfl
  ·simp only[go_sem,rE,rA,rL,hg0,h00,g5,g2]
   exact iP (q1:=.agg (Pg.enc pr)) (off:=0) rfl (ai _ _ _) rfl (.refl _) (eO (by rw[ae _ _ hr2];exact gr)) ⟨p5,by omega,by simp only[FC];omega,rfl,pr,_,_,rfl,hd⟩
  ·simp only[go_sem,rE,rA,rL,hg1,h01,g5,g2]
   exact iP (q1:=.agg (Pg.enc pr)) (off:=0) rfl (ai _ _ _) rfl (.refl _) (eO (by rw[ae _ _ hr2];exact gr)) ⟨p5,by omega,by simp only[FC];omega,rfl,pr,_,_,rfl,hd⟩
 have h1':(j==1)=false:=by simpa using h1
 simp only[go_sem,rE,rA,rL,h0',h1',g5,g2]
 exact iP (q1:=.agg (Pg.enc pr)) (off:=0) rfl (ai _ _ _) rfl (.refl _) (eO (by rw[ae _ _ hr2];exact gr)) ⟨p4,by omega,by simp only[FC];omega,rfl,pr,_,_,rfl,hd⟩
theorem sg(L:eC P F)(bs:List UInt8)(hl:bs.length<=2^30):bD P F.s_DrawCheckLive [.sl 1 none (fq bs)] .empty fun q H'=>H'=.empty/\∃(pr:Pg) (fn n:Int),q=.tup [.agg (Pg.enc pr),I fn,I n]/\drawn 2 pr:=by
 refine L.s_DrawCheckLive (by simp[jc]) ?_
 simp only[jc,go_sem,rE,rA]
 intro b2 hb2
 have h0:(aj.empty.set b2 (.cells [NIL])).only (fun _=>False)=.empty:=aj.ext fun b=>by rw[cd (by simp)];rfl
 have hc:=Ch L.toLib bs hl
 rw[<-h0]at hc
 refine gH (fun _=>False) hc (rfl) (.refl _) (by simp) trivial ?_
 rintro q H' H1 ⟨r,bs',rfl,rfl,hbs'⟩ hsub hafter hnew -
 have gr:H1.get r=some (RdO bs' 0):=hsub _ _ (bE _ _)
 have g2:H1.get b2=some (.cells [NIL]):=by rw[hafter.out b2 (by simp) (by rw[ai];simp),ai]
 have hr2:r≠b2:=by rintro rfl;rw[gr]at g2;simp[RdO]at g2
 simp only[go_sem,rE,rA]
 refine bg (AE L r bs' hbs' 0 (by omega) (by simp[FC])) (rfl) gr (by simp) trivial ?_
 rintro q p1 hp1 hp1' ⟨pr,fn,n,rfl,hd⟩
 simp only[FC]at hp1'
 have g2:(H1.set r (RdO bs' p1)).get b2=_:=(ae _ _ (Ne.symm hr2)).trans g2
 have gr:(H1.set r (RdO bs' p1)).get r=_:=ai _ _ _
 generalize H1.set r (RdO bs' p1)=H2 at*
 simp only[go_sem,rE,rA,g2,Pg.enc,rL]
 intro b6 hb6
 have hr6:=al gr hb6
 have d26:=al g2 hb6
 have gr:(H2.set b6 (.cells [.sl 12 none (pr.map Fu.enc)])).get r=_:=(ae _ _ hr6).trans gr
 have g2:(H2.set b6 (.cells [.sl 12 none (pr.map Fu.enc)])).get b2=_:=(ae _ _ d26).trans g2
 have g6:(H2.set b6 (.cells [.sl 12 none (pr.map Fu.enc)])).get b6=_:=ai _ _ _
 generalize H2.set b6 (.cells [.sl 12 none (pr.map Fu.enc)])=H3 at*
 clear hb6
 refine bg (cH L.toLib r bs' p1 5 hbs' (by omega) (by omega)) (rfl) gr (by simp) trivial ?_
 rintro q p2 hp2 hp2' ⟨k,rfl,hk0,hk1⟩
 have g2:(H3.set r (RdO bs' p2)).get b2=_:=(ae _ _ (Ne.symm hr2)).trans g2
 have g6:(H3.set r (RdO bs' p2)).get b6=_:=(ae _ _ (Ne.symm hr6)).trans g6
 have gr:(H3.set r (RdO bs' p2)).get r=_:=ai _ _ _
 generalize H3.set r (RdO bs' p2)=H4 at*
 by_cases hk:k=0
 ·simp only[hk,go_sem,rE,rA,aH,g6,rL]
  refine bg (uL L.toLib r bs' hbs' pr (m:=1) (by omega) hd.1 hd.2.1 hd.2.2 p2 (by omega) (by omega)) (by simp only[go_sem,rE,Pg.enc]) gr (by simp) trivial ?_
  rintro q p3 hp3 hp3' ⟨pr',rfl,hlo,hl1',hl2'⟩
  have g2:(H4.set r (RdO bs' p3)).get b2=_:=(ae _ _ (Ne.symm hr2)).trans g2
  have g6:(H4.set r (RdO bs' p3)).get b6=_:=(ae _ _ (Ne.symm hr6)).trans g6
  generalize H4.set r (RdO bs' p3)=H5 at*
  have d62:b6≠b2:=Ne.symm d26
  simp only[go_sem,rE,rA,g2,g6,Pg.enc,rL,d26,d62]
  exact iP (q1:=.agg (Pg.enc pr')) (off:=0) rfl (ai _ _ _) rfl (.refl _) (aj.sub_empty _) ⟨rfl,pr',fn,n,rfl,hlo,hl1',hl2'⟩
 ·have hk':(k==0)=false:=by simpa using hk
  simp only[hk',go_sem,rE,rA,g2,g6,rL]
  exact iP (q1:=.agg (Pg.enc pr)) (off:=0) rfl (ai _ _ _) rfl (.refl _) (aj.sub_empty _) ⟨rfl,pr,fn,n,rfl,fun f hf=>(hd.1 f hf).up,hd.2.1,by have:=hd.2.2;omega⟩
end
def jX(ro:Option Nat):Fence:={Fence.wide with round:=ro}
theorem Bf(ro:Option Nat)(l:Nat):(jX ro).inRound l=jX (some l):=rfl
theorem nH(ro:Option Nat)(n:Nat):(jX ro).depth.isSome=true->1<=n:=fun h=>by simp[jX,Fence.wide]at h
theorem callsR{ro:Option Nat}{n:Nat}{P:Program}{f:FuncId}{args:Array Value}{w:World}{R:Ending->World->Prop}(h:Calls P f args w R):CallsIn (jX ro) n P f args w R:=
 (callsIn_wide.2 h:CallsIn Fence.wide n P f args w R)
section
variable {P:Program}{ro:Option Nat}{n:Nat}
theorem Bi{o:Oper}{a:Act}{next next':Act->World->Prop}{Q:Exit->Act->World->Prop}(hn:∀a w,next a w->next' a w){r:Result Next}(h:o.upon P a next Q r):
 o.uponIn (jX ro) n P a next' Q r:=by
 cases r with
 |halt x w'=>
  cases x<;>first|exact h|exact h.elim
 |ok x w'=>
  cases x<;>first
   |exact hn _ _ h
   |exact h.elim
   |exact⟨nH _ _,callsR (Calls.mono h fun e w'' he=>by cases e<;>first|exact hn _ _ he|exact he)⟩
   |exact⟨nH _ _,fun c cs _=>let⟨v,w'',hr,hs⟩:=h c cs;⟨v,w'',hn _ _ hr,stepsIn_wide.2 hs⟩⟩
def rc(F:Fence)(n:Nat)(P:Program)(ops:Array Oper)(Q:Exit->Act->World->Prop)(i:Nat)(next:Act->World->Prop)(a:Act)(w:World):Prop:=
 match ops[i]? with
 |none=>next a w
 |some o=>if Region.wanted o (yielded ops a.tmps)then o.wpIn F n P a w next Q else(∀f,o.about P w a.eval=some f->F.fn f)/\next (a.put o.dst undef) w
theorem qr{F:Fence}{ops:Array Oper}{Q:Exit->Act->World->Prop}(i:Nat)(rest:List Nat)(a:Act)(w:World):wpOpsIn F n P ops Q (i::rest) a w=rc F n P ops Q i (wpOpsIn F n P ops Q rest) a w:=by
 cases h:ops[i]?<;>simp[wpOpsIn,rc,h]
theorem Be{ops:Array Oper}{Q:Exit->Act->World->Prop}(hQ:¬LetsOut Q){i:Nat}(hd:∀o,ops[i]?=some o->∀c,o.op≠.defer c){next next':Act->World->Prop}(hn:∀a w,next a w->next' a w){a:Act}{w:World}
(h:wpOp P ops Q i next a w):rc (jX ro) n P ops Q i next' a w:=by
 unfold wpOp at h
 unfold rc
 split at h
 ·rename_i ho
  simp only[ho]
  exact hn _ _ h
 ·rename_i o ho
  simp only[ho]
  split at h
  ·rename_i hw
   rw[if_pos hw]
   rcases h with h|⟨-,h⟩
   ·refine⟨fun _ _=>trivial,?_⟩
    rw[Oper.semAt_eq _ _ _ (hd o ho)]
    exact Bi hn h
   ·exact absurd h hQ
  ·rename_i hw
   rw[if_neg hw]
   exact⟨fun _ _=>trivial,hn _ _ h⟩
theorem tZ{N:Nat}{ops:Array Oper}{i:Nat}{inc:List Nat}{x:aN}(h:ej P N ops i inc=some x):∀o,ops[i]?=some o->∀c,o.op≠.defer c:=by
 intro o ho c hc
 simp only[ej,ho]at h
 have:rF P o.op=none:=by
  rw[hc]
  simp[rF,z8,sU,tY,resL,gV]
 rw[this]at h
 simp at h
theorem sG{N:Nat}{ops:Array Oper}{Q:Exit->Act->World->Prop}(hQ:¬LetsOut Q){dr:Bool}{K:Env->aj->Prop}{rest:List Nat}:∀(xs:List aN),(∀x∈xs,ej P N ops x.id x.inc=some x)->∀{M:bO} {E:Env} {H:aj} {a:Act} {w:World} {l:Lds} {f:Fps},
 cw N M E a->Sim M H w->bw P dr K (xs.map aN.toM) E H l f->(∀a' w',ma P N K M H w a a' w'->wpOpsIn (jX ro) n P ops Q rest a' w')->wpOpsIn (jX ro) n P ops Q (xs.map (·.id)++rest) a w:=by
 intro xs
 induction xs with
 |nil=>intro _ M E H a w l f hE s h hq;exact hq a w ⟨E,H,M,h,hE,s,bI.refl _ _ _,rfl⟩
 |cons x xs ih=>
  intro hres M E H a w l f hE s h hq
  rw[aS,cB,qr]
  simp only[aS,bw]at h
  refine Be hQ (tZ (hres x (by simp))) (fun _ _ h=>h) (nM (hres x (by simp)) hE s h fun r H' l' f' M' a' w' hk hE' s' t' hd'=>?_)
  refine ih (fun y hy=>hres y (by simp[hy])) hE' s' hk fun a'' w'' hp=>hq a'' w'' ?_
  obtain⟨E'',H'',M'',p1,p2,p3,p4,p5⟩:=hp
  exact⟨E'',H'',M'',p1,p2,p3,t'.trans p4,p5.trans hd'⟩
end
section
variable {P:Program}{ro:Option Nat}{n:Nat}
theorem toLit_X{ops:Array Oper}{d:Option Nat}{x:XOp}{c:xO}{as:List aI}(h:nL ops d x=.eff (.callX c as)):x=.eff (.callX c as):=by
 unfold nL at h
 repeat' (split at h)
 all_goals first|exact h|simp at h
theorem resOp_X{op:Op}{c:xO}{as:List aI}(h:rF P op=some (.eff (.callX c as))):gV P op=some (.callX c as):=by
 simp only[rF]at h
 split at h
 ·simp at h
 ·split at h
  ·simp at h
  ·simp only[a6,XOp.eff.injEq]at h
   obtain⟨e,he,rfl⟩:=h
   exact he
theorem Ah{o:Oper}{as:List aI}(hres:gV P o.op=some (.callX .clos as)):∃t args ts,o.op=.call ⟨.value (.tmp t),args,ts⟩/\jW (.tmp t::args.toList)=some as:=by
 obtain⟨dst,op,ty,pos,after,guard⟩:=o
 cases op<;>simp only[gV]at hres<;>try(simp at hres;done)
 case lookup=>repeat' split at hres
              all_goals simp at hres
 case mapUpdate=>repeat' split at hres
                 all_goals simp at hres
 case buildSlice=>repeat' split at hres
                  all_goals simp at hres
 case store=>repeat' split at hres
             all_goals simp at hres
 case makeMap t r=>
  cases r with
  |some r=>simp at hres
  |none=>
   simp only[]at hres
   split at hres<;>simp at hres
 case call c=>
  obtain⟨callee,args,argTypes⟩:=c
  cases callee with
  |invoke r m=>simp[gV]at hres
  |builtin b=>
   cases b<;>simp only[gV]at hres<;>try(simp at hres;done)
   repeat' split at hres
   all_goals simp at hres
  |value f=>
   cases f with
   |tmp t=>
    simp only[gV,a6,EOp.callX.injEq,true_and]at hres
    obtain⟨as',has,rfl⟩:=hres
    exact⟨t,args,argTypes,rfl,has⟩
   |func f=>
    simp only[gV]at hres
    repeat' split at hres
    all_goals simp at hres
   |_=>simp[gV]at hres
theorem Ba{N:Nat}{ops:Array Oper}{Q:Exit->Act->World->Prop}{i:Nat}{d:Option Nat}{inc:List Nat}{as:List aI}(hx:ej P N ops i inc=some ⟨i,d,none,.eff (.callX .clos as),inc⟩){M:bO}{E:Env}{a:Act}{w:World}(hE:cw N M E a)
{l:Nat}{xs:List AC}(ha:as.map (aI.ev E)=.lit (.func (.yield l) #[] #[])::xs){R:Value->World->Prop}(hy:∀vs:List Value,il M xs vs->YieldAt (jX ro) (n - 1) P l vs.toArray w fun e w'=>∃v,e=.returned v/\R v w')
{next:Act->World->Prop}(hn:∀v w',R v w'->next (a.put d v) w'):rc (jX ro) n P ops Q i next a w:=by
 simp only[ej]at hx
 split at hx
 ·rename_i o ho
  split at hx
  ·rename_i xo g hxo hg
   split at hx
   ·rename_i hc
    simp only[aw]at hc
    simp only[Option.some.injEq,aN.mk.injEq,true_and,and_true]at hx
    obtain⟨rfl,rfl,hop⟩:=hx
    have hlit:=toLit_X hop
    subst hlit
    obtain⟨t,args,ts,hcall,has⟩:=Ah (resOp_X hxo)
    have hargs:=iM (fun x xa hx=>hE.arg x xa hx) _ _ has
    rw[ha]at hargs
    unfold rc
    simp only[ho]
    rw[jE hg hc.2 hE (b:=true) rfl]
    simp only[if_true]
    have h0:=lG (hargs.2 0 _ _ rfl rfl)
    have hrest:il M xs (args.toList.map a.eval):=⟨by simpa using hargs.1,fun j x v hx hv=>hargs.2 (j+1) x v (by simpa using hx) (by simpa using hv)⟩
    obtain⟨fn,tmps,assign,body,hrun,hround⟩:=hy _ hrest
    have hex:(execOp a.eval o).run P w=.ok (.round l fn tmps assign body) w:=by
     obtain⟨dst,op,ty,pos,after,guard⟩:=o
     simp only at hcall
     subst hcall
     have hmap:args.map a.eval=(args.toList.map a.eval).toArray:=by apply eY.1;simp only[Array.toList_map]
     simp[execOp,resolve,h0,Deferred.ofValue,invoke,callFunc,Sem.run_bind,Sem.run_pure,Result.andThen,hmap,hrun]
    refine⟨fun _ _=>trivial,?_⟩
    rw[Oper.semAt_eq _ _ _ (by rw[hcall];intro c hc;cases hc),hex,Oper.uponIn_round]
    refine⟨nH _ _,hround.mono fun e w' he=>?_⟩
    obtain⟨v,rfl,hv⟩:=he
    exact hn _ _ hv
   ·simp at hx
  ·simp at hx
 ·simp at hx
end
def YC(P:Program)(ro:Option Nat)(n l:Nat)(xs:List AC)(M:bO)(Sd:World->Prop)(H:aj)(R:aj->Prop):Prop:=
 ∀(M':bO) (w':World) (vs:List Value),M.le M'->Sim M' H w'->Sd w'->il M' xs vs->
  YieldAt (jX ro) n P l vs.toArray w' fun e w''=>e=.returned (.bool true)/\∃M'' H'',Sim M'' H'' w''/\bI M' H w' M'' H'' w''/\R H''
section
variable {P:Program}{ro:Option Nat}{n:Nat}
theorem lZ{N:Nat}{K:cL->Env->aj->Prop}{M:bO}{H:aj}{w:World}{a:Act}:¬LetsOut (tU N K M H w a):=by
 rintro⟨a',w',xe,-,-,-,he,-⟩
 simp[dM]at he
theorem nR{N id:Nat}{ops:Array Oper}{xc:aX}(h:cS P N ops false=some xc){K:cL->Env->aj->Prop}{M:bO}{E:Env}{H:aj}{a:Act}{w:World}
(hE:cw N M E a)(s:Sim M H w)(hw:xc.wp P K E H):(Code.region id ops false).wpIn (jX ro) n P (tU N K M H w a) a w:=by
 simp only[cS,a6]at h
 obtain⟨xs,hxs,rfl⟩:=h
 obtain⟨h1,h2⟩:=kh hxs
 refine wpIn_region ?_
 rw[<-h1,<-cX (xs.map (·.id))]
 refine sG lZ xs h2 hE s hw fun a' w' hp=>?_
 obtain⟨E',H',M',p1,p2,p3,p4,p5⟩:=hp
 exact⟨.normal,E',H',M',rfl,p1,p2,p3,p4,p5⟩
theorem wD{N id:Nat}{ops:Array Oper}{zs1 zs2:List aN}{i:Nat}{d:Option Nat}{as:List aI}(h:cS P N ops false=some (.region false (zs1++⟨i,d,none,.eff (.callX .clos as),[]⟩::zs2)))
{K:cL->Env->aj->Prop}{M:bO}{E:Env}{H:aj}{a:Act}{w:World}(hE:cw N M E a)(s:Sim M H w)(hd:∀k,d=some k->k<N){Sd:World->Prop}(hSd:∀M' H' w',bI M H w M' H' w'->Sd w')
(hw:bw P false (fun E' H'=>∃l xs R,as.map (aI.ev E')=.lit (.func (.yield l) #[] #[])::xs/\YC P ro (n - 1) l xs M Sd H' R/\∀H'',R H''->bw P false (K .normal) zs2 (E'.put d (B true)) H'' [] []) zs1 E H [] []):
 (Code.region id ops false).wpIn (jX ro) n P (tU N K M H w a) a w:=by
 simp only[cS,a6]at h
 obtain⟨xs,hxs,hz⟩:=h
 simp only[aX.region.injEq,true_and]at hz
 obtain⟨h1,h2⟩:=kh hxs
 obtain⟨ys,q,hys,e1,e2⟩:=List.map_eq_append_iff.1 hz
 subst hys
 obtain⟨y,ys2,hq,e3,e4⟩:=List.map_eq_cons_iff.1 e2
 subst hq
 refine wpIn_region ?_
 rw[<-h1,bB]
 rw[<-e1]at hw
 refine sG lZ ys (fun x hx=>h2 x (by simp[hx])) hE s hw fun a' w' hp=>?_
 obtain⟨E',H',M',⟨l,xs,R,ha,hy,hR⟩,hE',s',t',hd'⟩:=hp
 rw[aS,qr]
 have hyM:y=⟨i,d,none,.eff (.callX .clos as),[]⟩:=by
  by_cases hap:∀q b c d,y.op≠.eff (.append q b c d)
  ·rw[Bl hap]at e3;exact e3
  ·simp only[ne_eq,Classical.not_forall,Classical.not_not]at hap
   obtain⟨sz,bb,sa,ya,hop⟩:=hap
   simp[aN.toM,hop,zn]at e3
 have hy2:=h2 y (by simp)
 subst hyM
 refine Ba hy2 hE' ha (R:=fun v w''=>v=.bool true/\∃M'' H'',Sim M'' H'' w''/\bI M' H' w' M'' H'' w''/\R H'') (fun vs hvs=>?_) ?_
 ·obtain⟨fn,tmps,assign,body,hrun,hround⟩:=hy M' w' vs t'.le s' (hSd _ _ _ t') hvs
  refine⟨fn,tmps,assign,body,hrun,hround.mono fun e w'' he=>?_⟩
  obtain⟨rfl,he⟩:=he
  exact⟨_,rfl,rfl,he⟩
 ·rintro v w'' ⟨rfl,M'',H'',s'',t'',hR''⟩
  have hE'':cw N M'' (E'.put d (B true)) (a'.put d (.bool true)):=(hE'.mono t''.le).put hd (.lit trivial)
  have hr:=hR _ hR''
  rw[<-e4]at hr
  rw[<-cX (ys2.map (·.id))]
  refine sG lZ ys2 (fun x hx=>h2 x (by simp[hx])) hE'' s'' hr fun a3 w3 hp=>?_
  obtain⟨E3,H3,M3,p1,p2,p3,p4,p5⟩:=hp
  have hdef:(a'.put d (.bool true)).defers=a'.defers:=by cases d<;>rfl
  exact⟨.normal,E3,H3,M3,rfl,p1,p2,p3,(t'.trans t'').trans p4,p5.trans (hdef.trans hd')⟩
end
theorem Sim.noCells{M:bO}{H:aj}{w:World}(s:Sim M H w){l:Nat}{r:Obj}(h:w.heap[l]?=some r)(hr:∀a b c,r≠.cells a b c)(k:Nat):M l k=none:=by
 cases hm:M l k with
 |none=>rfl
 |some v=>
  have:=s.mem l k v hm
  rw[fo,h]at this
  cases r<;>first|exact absurd rfl (hr _ _ _)|simp at this
theorem Sim.putRec{M:bO}{H:aj}{w:World}(s:Sim M H w){l:Nat}{r:Obj}(h:w.heap[l]?=some r)(hr:∀a b c,r≠.cells a b c)(hn:H.get l=none)(o:Obj):Sim M H (w.putObj l o):=by
 have other:∀b,b≠l->(w.putObj l o).heap[b]?=w.heap[b]?:=fun b hb=>World.putObj_heap_other hb
 refine⟨fun b k v hm=>?_,fun b ho hb=>?_⟩
 ·have hbl:b≠l:=by rintro rfl;rw[s.noCells h hr]at hm;simp at hm
  have:=s.mem b k v hm
  rw[fo]at this⊢
  rw[other b hbl];exact this
 ·have hbl:b≠l:=by rintro rfl;rw[hn]at hb;simp at hb
  have:=s.obj b ho hb
  cases ho<;>simp only[im,other b hbl]at this⊢<;>exact this
theorem wW(w:World)(l:Nat)(o:Obj):tQ w (w.putObj l o):=⟨rfl,rfl⟩
def Env.puts(E:Env):List Nat->List AC->Env
 |p::ps,x::xs=>(E.put (some p) x).puts ps xs
 |_,_=>E
theorem cw.puts{N:Nat}{M:bO}:∀{ps:List Nat} {xs:List AC} {vs:List Value} {E:Env} {tmps:Array Value},cw N M E {tmps:=tmps,defers:=[]}->(∀p∈ps,p<N)->il M xs vs->
 cw N M (E.puts ps xs) {tmps:=(ps.zip vs).foldl (fun t pv=>t.setIfInBounds pv.1 pv.2) tmps,defers:=[]}
 |[],xs,vs,E,tmps,h,_,_=>by simpa[Env.puts]using h
 |p::ps,[],vs,E,tmps,h,_,hr=>by
  have:vs=[]:=bu hr.1.symm
  subst this
  simpa[Env.puts]using h
 |p::ps,x::xs,[],E,tmps,h,_,hr=>by have:=hr.1;simp at this
 |p::ps,x::xs,v::vs,E,tmps,h,hp,hr=>by
  have hx:Rep M x v:=hr.2 0 _ _ rfl rfl
  have hrest:il M xs vs:=⟨by simpa using hr.1,fun j a b ha hb=>hr.2 (j+1) a b (by simpa using ha) (by simpa using hb)⟩
  have h1:cw N M (E.put (some p) x) {tmps:=tmps.setIfInBounds p v,defers:=[]}:=h.put (d:=some p) (fun n hn=>by simp at hn;subst hn;exact hp _ (by simp)) hx
  exact(cw.puts (E:=E.put (some p) x) (tmps:=tmps.setIfInBounds p v) h1 (fun q hq=>hp q (dt _ hq)) hrest:)
section
variable {P:Program}
theorem sk{N l:Nat}{fn:FuncId}{tmps:Array Value}{ps:List Nat}{assign body:Code}{D:Nat}{M:bO}{E:Env}(hE:cw N M E {tmps:=tmps,defers:=[]})(hps:∀p∈ps,p<N){Sx:World->Prop}{Pre:List AC->aj->Prop}{ma:List AC->aj->aj->Prop}{EA:List AC->Env}
(hSx:∀w r,Sx w->Sx (w.putObj l r))(hSt:∀M H w M' H' w',H.get l=none->Sx w->bI M H w M' H' w'->(∃xs,Pre xs H)->Sx w')
(hP:∀xs H,Pre xs H->xs.length=ps.length/\H.get l=none)
(hA:∀n xs H M1 w1 a1,M.le M1->cw N M1 (E.puts ps xs) a1->Sim M1 H w1->Pre xs H->assign.wpIn (jX (some l)) n P (tU N (fun e E' H'=>e=.normal/\E'=EA xs/\H'=H) M1 H w1 a1) a1 w1)
(hB:∀n xs H M1 w1 a1,M.le M1->cw N M1 (EA xs) a1->Sim M1 H w1->Pre xs H->Sx w1->l<w1.heap.size->body.wpIn (jX (some l)) n P (tU N (fun e E' H'=>e=.normal/\ma xs H H') M1 H w1 a1) a1 w1):
 ∀ro n xs H,Pre xs H->YC P ro n l xs M (fun w=>w.heap[l]?=some (.loop {state:=.ready,pending:=none,fn,tmps,params:=ps.toArray,assign,body,defers:=D})/\Sx w) H (ma xs H):=by
 intro ro n xs H hpre M' w' vs hle s hSd hr
 obtain⟨hl,hx⟩:=hSd
 obtain⟨hlen,hnl⟩:=hP xs H hpre
 obtain⟨rec,hrec⟩:∃rec:LoopState->Loop,rec=fun st=>{state:=st,pending:=none,fn,tmps,params:=ps.toArray,assign,body,defers:=D}:=⟨_,rfl⟩
 have hl0:w'.heap[l]?=some (.loop (rec .ready)):=by rw[hrec];exact hl
 have hnc:∀st a b c,Obj.loop (rec st)≠.cells a b c:=fun st a b c h=>by cases h
 have hlt:l<w'.heap.size:=(dc.1 hl).1
 have hy:=run_yield (P:=P) (args:=vs.toArray) hl (by simp;rw[<-hr.1];exact hlen)
 refine⟨fn,_,assign,body,hy,roundIn_of_wpIn trivial ?_⟩
 rw[Bf]
 have hE1:cw N M' (E.puts ps xs) {tmps:=(ps.toArray.zip vs.toArray).foldl (fun t pv=>t.setIfInBounds pv.1 pv.2) tmps,defers:=[]}:=by
  have:=cw.puts (hE.mono hle) hps hr
  have e:(ps.toArray.zip vs.toArray).foldl (fun t pv=>t.setIfInBounds pv.1 pv.2) tmps=(ps.zip vs).foldl (fun t pv=>t.setIfInBounds pv.1 pv.2) tmps:=by
   rw[<-Array.foldl_toList];simp
  rw[e];exact this
 refine wpIn_mono (hA n xs H M' w' _ hle hE1 s hpre) ?_
 rintro e a1 w1 ⟨xe,E',H',M1,he,⟨rfl,rfl,rfl⟩,hE',s1,t1,hd1⟩
 have hen:e=.normal:=by cases e<;>simp[dM]at he⊢
 subst hen
 have hl1:w1.heap[l]?=some (.loop (rec .ready)):=by rw[(t1.same l hlt hnl).1];exact hl0
 have hbr:=run_beginRound (P:=P) hl1 (by rw[hrec])
 have s2:=s1.putRec hl1 (hnc _) hnl (.loop {rec .ready with state:=.busy})
 have hlt1:l<w1.heap.size:=(dc.1 hl1).1
 refine⟨_,hbr,?_⟩
 have hx1:Sx w1:=hSt _ _ _ _ _ _ hnl hx t1 ⟨xs,hpre⟩
 refine wpIn_mono (hB n xs H' M1 _ a1 (bO.le_trans hle t1.le) hE' s2 hpre (hSx _ _ hx1) (by rw[World.putObj_size];exact hlt1)) ?_
 rintro e a3 w3 ⟨xe,E3,H3,M3,he,⟨rfl,hpost⟩,hE3,s3,t3,hd3⟩
 have hen:e=.normal:=by cases e<;>simp[dM]at he⊢
 subst hen
 have hsz2:(w1.putObj l (.loop {rec .ready with state:=.busy})).heap.size=w1.heap.size:=World.putObj_size
 have hl3:w3.heap[l]?=some (.loop {rec .ready with state:=.busy}):=by
  rw[(t3.same l (by rw[hsz2];exact hlt1) hnl).1];exact World.putObj_heap_same hlt1
 have hend:=run_endRound (P:=P) none hl3
 have hn3:H3.get l=none:=by
  cases h:H3.get l with
  |none=>rfl
  |some o=>
   rcases t3.fresh l (by rw[h];simp)with h'|h'
   ·exact absurd hnl h'
   ·rw[hsz2]at h';omega
 refine⟨_,_,hend,rfl,M3,H3,s3.putRec hl3 (fun a b c h=>by cases h) hn3 _,⟨bO.le_trans t1.le t3.le,?_,fun b hb hn=>?_,fun b hb=>?_,?_⟩,hpost⟩
 ·have:=t1.size;have:=t3.size;rw[hsz2]at this;rw[World.putObj_size];omega
 ·have hb1:b<w1.heap.size:=Nat.lt_of_lt_of_le hb t1.size
  obtain⟨e1,m1⟩:=t1.same b hb hn
  obtain⟨e3,m3⟩:=t3.same b (by rw[hsz2];exact hb1) hn
  refine⟨?_,fun o=>(m3 o).trans (m1 o)⟩
  by_cases hbl:b=l
  ·subst hbl
   rw[World.putObj_heap_same (dc.1 hl3).1,hl0,hrec]
   rfl
  ·rw[World.putObj_heap_other hbl,e3,World.putObj_heap_other hbl,e1]
 ·rcases t3.fresh b hb with h|h
  ·exact .inl h
  ·rw[hsz2]at h;exact .inr (bZ t1.size h)
 ·exact((t1.io.trans (wW _ _ _)).trans t3.io).trans (wW _ _ _)
end
section
variable {P:Program}
theorem xm{f:FuncId}(h:iQ P f=true)(args:Array Value)(w:World):(callFunc f args).run P w=.ok (.enter f args) w:=by
 simp only[iQ]at h
 split at h
 ·rename_i fn hfn
  simp only[aw,bne_iff_ne,ne_eq]at h
  obtain⟨hb,hnm⟩:=h
  have hbn':fn.body≠none:=by intro h;simp[h]at hb
  simp[callFunc,program,hfn,hnm,hbn',Sem.run,Result.andThen]
 ·simp at h
def ItC(P:Program)(gf:FuncId)(cap:List AC)(H:aj)(Sx:World->Prop)(Pre:Nat->List AC->aj->Prop)(ma:Nat->List AC->aj->aj->Prop)(K:aj->Prop):Prop:=
 ∀(l:Nat) (o:Obj) (M:bO) (w:World) (us:List Value),(∀a b c,o≠.cells a b c)->Sim M H w->w.heap[l]?=some o->H.get l=none->il M cap us->(∀M' H' w',bI M H w M' H' w'->Sx w')->
  (∀ro n xs H',Pre l xs H'->YC P ro n l xs M (fun w=>w.heap[l]?=some o/\Sx w) H' (ma l xs H'))->
  CallsIn Fence.wide 0 P gf (#[.func (.yield l) #[] #[]]++us.toArray) w fun e w'=>(∃v,e=.returned v)/\∃M' H',Sim M' H' w'/\bI M H w M' H' w'/\K H'
theorem AA{n m:Nat}{f:FuncId}{args:Array Value}{w:World}{R:Ending->World->Prop}(h:CallsIn Fence.wide n P f args w R):CallsIn Fence.wide m P f args w R:=
 callsIn_wide.2 (callsIn_wide.1 h)
theorem z9{N n:Nat}{g:Operand}{ps:List Nat}{assign body:Code}{a:Act}{w:World}{M:bO}{E:Env}{H:aj}{Q:Exit->Act->World->Prop}{gf:FuncId}{us:List Value}{cap:List AC}
(hE:cw N M E a)(s:Sim M H w)(hg:a.eval g=.func (.func gf) #[] us.toArray)(hgood:iQ P gf=true)(hcap:il M cap us)
{Pre:Nat->List AC->aj->Prop}{ma:Nat->List AC->aj->aj->Prop}{K:aj->Prop}{Sx:World->Prop}(hit:ItC P gf cap H Sx Pre ma K)(hSx:∀M' H' w',bI M H w M' H' w'->Sx w')
(hround:∀l D fn,w.heap.size<=l->∀ro n xs H',Pre l xs H'->YC P ro n l xs M (fun w'=>w'.heap[l]?=some (.loop {state:=.ready,pending:=none,fn,tmps:=a.tmps,params:=ps.toArray,assign,body,defers:=D})/\Sx w') H' (ma l xs H'))
(hQ:∀D M' H' w4,w.heap.size<=D->K H'->Sim M' H' w4->bI M H w M' H' w4->H'.get D=none->w4.heap[D]?=some (.deferred (some []))->Q .normal {a with defers:={target:=.collected D,args:=#[]}::a.defers} w4):
 (Code.rangeFunc g ps.toArray assign body).wpIn Fence.wide n P Q a w:=by
 refine wpIn_rangeFunc ?_
 intro fn hfn
 show ∃l mark w₁ d w₁' f args w₂,(Instr.enterLoop fn a.tmps ps.toArray assign body none).run P w=.ok (l,mark) w₁/\_
 obtain⟨rec,hrec⟩:∃rec:LoopState->Loop,rec=fun st=>{state:=st,pending:=none,fn,tmps:=a.tmps,params:=ps.toArray,assign,body,defers:=w.heap.size}:=⟨_,rfl⟩
 obtain⟨W1,hW1⟩:∃W1,(w.alloc (.deferred (some []))).alloc (.loop (rec .ready))=W1:=⟨_,rfl⟩
 have hL1:W1.heap[w.heap.size+1]?=some (.loop (rec .ready)):=by
  rw[<-hW1];have:=World.alloc_heap_new (w.alloc (.deferred (some []))) (.loop (rec .ready));rwa[World.size_alloc]at this
 have hold:∀b,b<w.heap.size->W1.heap[b]?=w.heap[b]?:=fun b hb=>by
  rw[<-hW1]
  show((w.heap.push _).push _)[b]?=_
  rw[Array.getElem?_push_lt (by simp;omega),Array.getElem_push_lt hb,iC hb]
 have hK1:W1.heap[w.heap.size]?=some (.deferred (some [])):=by
  rw[<-hW1]
  show((w.heap.push _).push _)[w.heap.size]?=_
  rw[Array.getElem?_push_lt (by simp),Array.getElem_push_eq]
 have hsz:W1.heap.size=w.heap.size+2:=by rw[<-hW1];simp
 have hn0:H.get w.heap.size=none:=s.free (aC _)
 have hn1:H.get (w.heap.size+1)=none:=s.free (by omega)
 have s1:Sim M H W1:=by
  refine⟨fun b o v hm=>?_,fun b o hb=>?_⟩
  ·have hb:=s.mem_lt hm
   have:=s.mem b o v hm
   rw[fo]at this⊢
   rw[hold b hb];exact this
  ·have hlt:=s.lt hb
   have:=s.obj b o hb
   cases o<;>simp only[im,hold b hlt]at this⊢<;>exact this
 have t1:bI M H w M H W1:=⟨bO.le_refl _,by omega,fun b hb _=>⟨hold b hb,fun _=>rfl⟩,fun b hb=>.inl hb,by rw[<-hW1];exact⟨rfl,rfl⟩⟩
 have eg:=xm hgood
 refine⟨w.heap.size+1,[{target:=.collected w.heap.size,args:=#[]}],W1,{target:=.fn (.func gf) us.toArray,args:=#[.func (.yield (w.heap.size+1)) #[] #[]]},W1,gf,
  #[.func (.yield (w.heap.size+1)) #[] #[]]++us.toArray,W1,?_,?_,?_,?_,fun h=>by simp[Fence.wide]at h,?_⟩
 ·rw[<-hW1,hrec];exact run_enterLoop_outer _ _ _ _ _
 ·simp only[resolve,hg]
  simp[go_sem]
 ·intro f' hf';trivial
 ·simp[invoke,go_sem,eg]
 ·have hc:=hit (w.heap.size+1) (.loop (rec .ready)) M W1 us (fun a b c h=>by cases h) s1 hL1 hn1 hcap (fun M' H' w' t=>hSx _ _ _ (t1.trans t)) (by rw[hrec];exact hround (w.heap.size+1) w.heap.size fn (by omega))
  refine(AA (m:=n - 1) hc).mono ?_
  rintro e W2 ⟨⟨v,rfl⟩,M2,H2,s2,t2,hK⟩
  have hl2:W2.heap[w.heap.size+1]?=some (.loop (rec .ready)):=by rw[(t2.same _ (by omega) hn1).1];exact hL1
  have hd2:W2.heap[w.heap.size]?=some (.deferred (some [])):=by rw[(t2.same _ (by omega) hn0).1];exact hK1
  have hend:=run_endLoop (P:=P) hl2 (by rw[hrec];simp)
  have hnew:∀b,b<W1.heap.size->H.get b=none->H2.get b=none:=fun b hb hn=>by
   cases h:H2.get b with
   |none=>rfl
   |some o=>
    rcases t2.fresh b (by rw[h];simp)with h'|h'
    ·exact absurd hn h'
    ·omega
  refine⟨none,_,by rw[hend,hrec],?_⟩
  refine hQ w.heap.size M2 H2 _ (aC _) hK (s2.putRec hl2 (fun a b c h=>by cases h) (hnew _ (by omega) hn1) _) ?_ (hnew _ (by omega) hn0) ?_
  ·have t:=t1.trans t2
   refine⟨t.le,by rw[World.putObj_size];exact t.size,fun b hb hn=>?_,t.fresh,t.io.trans (wW _ _ _)⟩
   rw[World.putObj_heap_other (by omega)]
   exact t.same b hb hn
  ·rw[World.putObj_heap_other (by omega)];exact hd2
end
section
variable {P:Program}
theorem qy{N n:Nat}{c y:Code}{xc:aX}(h:eo P N c=some xc)(hok:gN P c xc=true){K:Env->aj->Prop}{M:bO}{E:Env}{H:aj}{a:Act}{w:World}{Q:Exit->Act->World->Prop}
(hE:cw N M E a)(s:Sim M H w)(hw:xc.wp P (fun ex E' H'=>ex=.normal/\K E' H') E H)
(hy:∀E' H' M' a' w',K E' H'->cw N M' E' a'->Sim M' H' w'->bI M H w M' H' w'->a'.defers=a.defers->y.wpIn Fence.wide n P Q a' w'):(Code.seq c y).wpIn Fence.wide n P Q a w:=by
 refine wpIn_seq (wpIn_mono (wpIn_wide.2 (aX.sound c h hok hE s hw)) ?_)
 rintro e a' w' ⟨xe,E',H',M',he,⟨rfl,hK⟩,hE',s',t',hd⟩
 cases e<;>simp[dM]at he
 exact hy E' H' M' a' w' hK hE' s' t' hd
theorem to{n:Nat}{fn:Func}{R:Ending->World->Prop}{a:Act}{w:World}{D:Nat}(hd:a.defers=[{target:=.collected D,args:=#[]}])(hD:w.heap[D]?=some (.deferred (some [])))
{v:Value}(hv:(results fn a.tmps).run P (w.putObj D (.deferred none))=.ok v (w.putObj D (.deferred none)))(hR:R (.returned v) (w.putObj D (.deferred none))):LeavesInM Fence.wide n P fn a.tmps R a.defers .returning w:=by
 rw[hd]
 refine⟨by simp,.inl ⟨_,_,rfl,run_takeDeferred hD,?_⟩⟩
 exact⟨_,hv,hR⟩
theorem cx{N i:Nat}{o:Array Oper}{xc:aX}(h:cS P N o false=some xc):eo P N (.region i o false)=some xc/\gN P (.region i o false) xc=true:=⟨h,rfl⟩
def x_as0:aX:=rg [ef 0 2 (.box 0),mv 1 4 (.const (.slice none 0 0))]
def x_as1:aX:=rg [mv 0 6 1]
def x_as2:aX:=rg [mv 0 5 7]
def Bc:aX:=rg [ld 0 8 none 2,mv 1 9 5,⟨2,some 10,none,.lits 1 1 [.string (bl [])] [(0,(1,9))],[]⟩,ef 3 11 (.appendM 1 16 8 10),en 4 (.store 1 2 11)]
def x_as4:aX:=rg [ld 0 12 none 2,mv 1 4 12]
def oz(P:Program)(f:FuncId):Prop:=∃fn i0 i1 i2 i3 i4 b0 b1 o0 o1 o2 o3 o4,P.funcs[f]?=some fn/\fn.ntmps=13/\fn.results=#[.tmp 4]/\
 fn.body=some (.seq (.region i0 o0 false) (.seq (.seq (.region i1 o1 false) (.block b0 (.rangeFunc (.tmp 6) #[7] (.region i2 o2 false) (.block b1 (.region i3 o3 false))))) (.seq (.region i4 o4 false) .ret)))/\
 cS P 13 o0 false=some x_as0/\cS P 13 o1 false=some x_as1/\cS P 13 o2 false=some x_as2/\cS P 13 o3 false=some Bc/\cS P 13 o4 false=some x_as4
def CC(B:Nat)(l:Nat)(xs:List AC)(H:aj):Prop:=H.get l=none/\l≠B/\∃n ss x,xs=[S n]/\H.get B=some (.cells [x])/\bR H 1 (a9 ss) x/\ss.length<=2^30
def ql(B:Nat)(l:Nat)(xs:List AC)(H H':aj):Prop:=∀n ss x,xs=[S n]->H.get B=some (.cells [x])->bR H 1 (a9 ss) x->
 ∃x',H'.get B=some (.cells [x'])/\bR H' 1 (a9 (ss++[n])) x'/\(∀d o,H.get d=some o->d≠B->¬cG x d->H'.get d=some o)/\∀d,cG x' d->cG x d\/H.get d=none
def AsEnd(B:Nat)(L:List ByteArray)(H H':aj):Prop:=∃x',H'.get B=some (.cells [x'])/\bR H' 1 (a9 L) x'/\∀d o,H.get d=some o->d≠B->H'.get d=some o
theorem vv{a b:List ByteArray}(h:a9 a=a9 b):a=b:=by
 induction a generalizing b with
 |nil=>cases b with
  |nil=>rfl
  |cons y b=>simp[a9]at h
 |cons x a ih=>
  cases b with
  |nil=>simp[a9]at h
  |cons y b=>
   simp only[a9,aS,List.cons.injEq,AC.lit.injEq,Value.string.injEq,and_true]at h
   rw[h.1,ih h.2]
theorem bR.rows_eq{H:aj}{sz:Nat}{es es':List (List AC)}{x:AC}(h:bR H sz es x)(h':bR H sz es' x):es=es':=by
 rcases h with⟨rfl,hx⟩|⟨b,n,m,hx,-⟩
 ·rcases h' with⟨rfl,-⟩|⟨b,n,m,hx',-⟩
  ·rfl
  ·rw[hx]at hx';simp at hx'
 ·rcases h' with⟨rfl,hx'⟩|⟨b,n,m,hx',-⟩
  ·rw[hx]at hx';simp at hx'
  ·rw[hx]at hx';simp at hx';exact hx'.2
theorem nY{N:Nat}{M:bO}{xs:List AC}{vs:List Value}(hr:il M xs vs)(hlen:xs.length<=N):cw N M (mN xs) {tmps:=vs.toArray++fz (N - vs.toArray.size) undef,defers:=[]}:=by
 have hlv:=hr.1
 refine⟨by simp;omega,fun n=>?_⟩
 simp only[mN]
 by_cases c:n<xs.length
 ·have c':n<vs.length:=hr.1▸c
  rw[av c]
  have:(vs.toArray++fz (N - vs.toArray.size) undef).getD n undef=vs[n]:=by
   rw[gQ,l5 (by simpa using c')];simp[c']
  rw[this]
  exact hr.2 n _ _ (av c) (av c')
 ·rw[fE (by omega)]
  have:(vs.toArray++fz (N - vs.toArray.size) undef).getD n undef=undef:=by
   rw[gQ,Array.getElem?_append_right (by simp;omega),Array.getElem?_replicate]
   split<;>rfl
  rw[this]
  exact .tup rfl (by simp)
theorem YC.side{ro:Option Nat}{n l:Nat}{xs:List AC}{M:bO}{Sd Sd':World->Prop}{H:aj}{R:aj->Prop}(h:YC P ro n l xs M Sd H R)(hs:∀w,Sd' w->Sd w):YC P ro n l xs M Sd' H R:=
 fun M' w' vs h1 h2 h3 h4=>h M' w' vs h1 h2 (hs _ h3) h4
theorem B1{M:bO}{f:FuncId}{cap:List AC}{v:Value}(h:Rep M (.fn (.func f) [] cap) v):∃us:List Value,v=.func (.func f) #[] us.toArray/\il M cap us:=by
 cases h with
 |@fn _ _ _ vs us h1 h2 h3 h4=>
  have:vs=#[]:=by apply Array.eq_empty_of_size_eq_zero;simpa using h1.symm
  subst this
  exact⟨us.toList,by simp,by simpa using h3,fun j x v hx hv=>h4 j x v hx (by simpa using hv)⟩
theorem as_body{E:Env}{H:aj}{B:Nat}{n:ByteArray}{ss:List ByteArray}{x:AC}(e2:E 2=.ptr B 0)(e5:E 5=S n)(hB:H.get B=some (.cells [x]))(hx:bR H 1 (a9 ss) x)(hl:ss.length<=2^30){K:Env->aj->Prop}
(h:∀E' H' x',H'.get B=some (.cells [x'])->bR H' 1 (a9 (ss++[n])) x'->(∀d o,H.get d=some o->d≠B->¬cG x d->H'.get d=some o)->(∀d,cG x' d->cG x d\/H.get d=none)->K E' H'):
 Bc.wp P (fun e E' H'=>e=.normal/\K E' H') E H:=by
 simp only[Bc,go_sem,rE,rA,e2,e5,hB,ax,aq,az,a7]
 refine eM (es:=a9 ss) (ys:=[[S n]]) (by simp only[go_sem,rE,rA];exact hx) (by simp[go_sem,bh]) (by simp) (by simp[a9];omega) ?_
 intro x' H2 fp hx' hfp hkeep hnew
 simp only[go_sem,rE,rA]at hkeep hnew
 have hBt:¬cG x B:=fun ht=>by obtain⟨n,m,e⟩:=hx.tok ht;rw[hB]at e;simp at e
 have hB2:H2.get B=some (.cells [x]):=by rw[hkeep B (by rw[hB];simp) hBt];exact hB
 simp only[go_sem,rE,rA,e2,hB2,hx'.one]
 have hrow:a9 (ss++[n])=a9 ss++[[S n]]:=by simp[a9]
 refine h _ _ x' (ai _ _ _) ?_ (fun d o hd hdB hdt=>?_) hnew
 ·rw[hrow]
  refine hx'.mono fun b hb=>ae _ _ ?_
  rintro rfl
  obtain⟨n,m,e⟩:=hx'.tok hb
  rw[hB2]at e;simp at e
 ·rw[ae _ _ hdB,hkeep d (by rw[hd];simp) hdt];exact hd
theorem vO{f:FuncId}(hA:oz P f){gf:FuncId}{cap:List AC}(hgood:iQ P gf=true)(L:List ByteArray)(H:aj)
(hit:∀B,H.get B=none->ItC P gf cap (H.set B (.cells [NIL])) (fun _=>True) (CC B) (ql B) (AsEnd B L (H.set B (.cells [NIL])))):
 bD P f [NIL,.fn (.func gf) [] cap] H fun q H'=>q=.sl 1 none (a9 L)/\H'=H:=by
 obtain⟨fn,i0,i1,i2,i3,i4,b0,b1,o0,o1,o2,o3,o4,hf,hN,hres,hb,r0,r1,r2,r3,r4⟩:=hA
 intro M w vs s hr
 refine(callsIn_wide (n:=0)).1 (callsIn_of_wp_marks hf hb trivial ?_ rfl)
 rw[hN]
 have hE:=nY (N:=13) hr (by simp)
 refine qy (cx r0).1 (cx r0).2 hE s (K:=fun E' H'=>∃B,H.get B=none/\E' 2=.ptr B 0/\E' 1=.fn (.func gf) [] cap/\H'=H.set B (.cells [NIL])) ?_ ?_
 ·simp only[x_as0,go_sem,rE,rA]
  intro B hB
  exact⟨B,hB,rfl,rfl⟩
 rintro E1 H1 M1 a1 w1 ⟨B,hB,e2,e1,rfl⟩ hE1 s1 t1 hd1
 refine wpIn_seq (qy (cx r1).1 (cx r1).2 hE1 s1 (K:=fun E' H'=>E' 2=.ptr B 0/\E' 6=.fn (.func gf) [] cap/\H'=H.set B (.cells [NIL])) ?_ ?_)
 ·simp only[x_as1,go_sem,rE,rA,e2,e1,and_self]
 rintro E2 H2 M2 a2 w2 ⟨f2,f6,rfl⟩ hE2 s2 t2 hd2
 refine wpIn_block ?_
 have hrep:=hE2.rep 6
 rw[f6]at hrep
 obtain⟨us,hus,hcap⟩:=B1 hrep
 have hE2':cw 13 M2 E2 {tmps:=a2.tmps,defers:=[]}:=⟨hE2.size,hE2.rep⟩
 refine z9 (ps:=[7]) (us:=us) (cap:=cap) hE2 s2 (by simpa[Act.eval]using hus) hgood hcap (hit B hB) (Sx:=fun _=>True) (fun _ _ _ _=>trivial) ?_ ?_
 ·intro l D fid hl ro n xs H' hpre
  refine(sk (Sx:=fun _=>True) (Pre:=CC B l) (ma:=ql B l) (EA:=fun xs=>(E2.puts [7] xs).put (some 5) ((E2.puts [7] xs) 7)) hE2' (by simp) (fun _ _ _=>trivial) (fun _ _ _ _ _ _ _ _ _ _=>trivial) ?_ ?_ ?_ ro n xs H' hpre)
  ·rintro xs H ⟨h1,-,n,ss,x,rfl,-⟩
   exact⟨rfl,h1⟩
  ·intro n xs H M1 w1 a1 hle hE s hp
   refine nR r2 hE s ?_
   simp only[x_as2,go_sem,rE,rA,and_self]
  ·rintro n xs H M1 w1 a1 hle hE s ⟨h1,hlB,nm,ss,x,rfl,hBx,hx,hss⟩ - -
   refine wpIn_block (wpIn_mono (nR r3 hE s (K:=fun e E' H'=>e=.normal/\ql B l [S nm] H H') ?_) ?_)
   ·refine as_body (n:=nm) (ss:=ss) (x:=x) ?_ ?_ hBx hx hss ?_
    ·simp only[Env.puts,go_sem,rE];exact f2
    ·simp only[Env.puts,go_sem,rE]
    ·intro E' H' x' g1 g2 g3 g4 n2 ss2 x2 hn2 hB2 hx2
     simp only[List.cons.injEq,AC.lit.injEq,Value.string.injEq,and_true]at hn2
     subst hn2
     rw[hBx]at hB2
     simp at hB2
     subst hB2
     have:=vv (hx.rows_eq hx2)
     subst this
     exact⟨x',g1,g2,g3,g4⟩
   ·rintro e a' w' ⟨xe,E',H',M',he,⟨rfl,hP⟩,h1,h2,h3,h4⟩
    cases e<;>simp[dM]at he
    exact⟨.normal,E',H',M',rfl,⟨rfl,hP⟩,h1,h2,h3,h4⟩
 ·intro D M3 H3 w3 hD ⟨x',hBx,hx',hkeep⟩ s3 t3 hDn hDr
  have hE3:cw 13 M3 E2 {a2 with defers:={target:=.collected D,args:=#[]}::a2.defers}:=⟨hE2.size,fun n=>(hE2.rep n).mono t3.le⟩
  refine qy (cx r4).1 (cx r4).2 hE3 s3 (K:=fun E' H'=>E' 4=x'/\H'=H3) ?_ ?_
  ·simp only[x_as4,go_sem,rE,rA,f2,hBx,a7,and_self]
  rintro E4 H4 M4 a4 w4 ⟨e4,rfl⟩ hE4 s4 t4 hd4
  refine wpIn_ret ?_
  have hDw4:w4.heap[D]?=some (.deferred (some [])):=by rw[(t4.same D (dc.1 hDr).1 hDn).1];exact hDr
  have s5:=s4.putRec hDw4 (fun a b c h=>by cases h) hDn (.deferred none)
  obtain⟨v,hv,hrv⟩:=j9 (P:=P) (fn:=fn) (rs:=[.slot 4]) (by rw[hres];rfl) hE4 s5 (q:=E4 4) rfl
  have hdef:a4.defers=[{target:=.collected D,args:=#[]}]:=by rw[hd4];simp only[hd2,hd1]
  refine to (a:=a4) hdef hDw4 hv ?_
  have t13:bI M H w M4 H4 w4:=(((t1.trans t2).trans t3).trans t4)
  have hsub:H.sub H4:=fun b o hb'=>by
   have hbB:b≠B:=by rintro rfl;rw[hB]at hb';simp at hb'
   exact hkeep b o (by rw[ae _ _ hbB];exact hb') hbB
  refine⟨.sl 1 none (a9 L),v,M4,H,rfl,?_,s5.sub hsub,?_,rfl,rfl⟩
  ·rw[e4]at hrv
   exact hx'.le _ _ hrv
  ·have t:=t13.weaken hsub
   refine⟨t.le,by rw[World.putObj_size];exact t.size,fun b hb' hn=>?_,t.fresh,t.io.trans (wW _ _ _)⟩
   have:w.heap.size<=w2.heap.size:=(t1.trans t2).size
   rw[World.putObj_heap_other (by omega)]
   exact t.same b hb' hn
end
section
variable {P:Program}
def Bb:aX:=rg [ld 0 4 none 1,pu 1 5 (.lenSl 4),pu 2 6 (.bin .sub 5 (ci 1)),mv 3 3 6]
def x_bk1:aX:=rg [mv 0 7 3,pu 1 8 (.bin .geq 7 (ci 0))]
def x_bk2:aX:=rg [mv 0 9 3,pu 1 10 (.bin .sub 9 (ci 1)),mv 2 3 10]
def x_bk3:aX:=rg ([mv 0 11 0,mv 1 12 3,ld 2 13 none 1,mv 3 14 3,ia 4 15 1 13 14,ld 5 16 none 15]++ef 6 17 (.callX .clos [11,12,16])::[pu 7 18 (.not 17)])
def mZ(P:Program)(f:FuncId):Prop:=∃fn i0 i1 i2 i3 b0 b1 o0 o1 o2 o3,P.funcs[f]?=some fn/\fn.ntmps=19/\fn.results=#[]/\
 fn.body=some (.seq (.region i0 o0 false) (.block b0 (.loop (.seq (.seq (.region i1 o1 false) (.cond (.tmp 8) .skip (.exit b0))) (.seq (.block b1 (.seq (.region i3 o3 false) (.cond (.tmp 18) .ret .skip))) (.region i2 o2 false))))))/\
 cS P 19 o0 false=some Bb/\cS P 19 o1 false=some x_bk1/\cS P 19 o2 false=some x_bk2/\cS P 19 o3 false=some x_bk3
theorem YC.later{ro:Option Nat}{n l:Nat}{xs:List AC}{M M':bO}{Sd:World->Prop}{H:aj}{R:aj->Prop}(h:YC P ro n l xs M Sd H R)(hm:M.le M'):YC P ro n l xs M' Sd H R:=
 fun M2 w' vs h1 h2 h3 h4=>h M2 w' vs (bO.le_trans hm h1) h2 h3 h4
def iv:Value->Int|.int _ i=>i|_=>0
theorem xC{f:FuncId}(hB:mZ P f){bs:Nat}{x:AC}{L:List ByteArray}{H:aj}{Sx:World->Prop}(hx:bR H 1 (a9 L) x)(hL:L.length<=2^30){Pre:Nat->List AC->aj->Prop}{ma:Nat->List AC->aj->aj->Prop}
{J:Nat->List ByteArray->aj->Prop}(h0:∀l,H.get l=none->J l [] H)(hJx:∀l pre H',J l pre H'->H'.get bs=some (.cells [x]))(hPre:∀l pre n i H',J l pre H'->pre.length<L.length->Pre l [I i,S n] H')(hPost:∀l pre n i H' H'',J l pre H'->pre.length<L.length->ma l [I i,S n] H' H''->J l (pre++[n]) H'')
(hl:∀l pre H',J l pre H'->H'.get l=none):ItC P f [.ptr bs 0] H Sx Pre ma (fun H'=>∃l,J l L.reverse H'):=by
 obtain⟨fn,i0,i1,i2,i3,b0,b1,o0,o1,o2,o3,hf,hN,hres,hb,r0,r1,r2,r3⟩:=hB
 intro l o M w us hnc s hlo hln hcap hSx hY
 refine callsIn_of_wp_marks hf hb trivial ?_ rfl
 rw[hN]
 have hr:il M [.lit (.func (.yield l) #[] #[]),.ptr bs 0] ((#[.func (.yield l) #[] #[]]++us.toArray:Array Value).toList):=by
  refine⟨by simp[<-hcap.1],fun j y v hy hv=>?_⟩
  match j,hy,hv with
  |0,hy,hv=>simp at hy hv;subst hy hv;exact .lit trivial
  |1,hy,hv=>simp at hy;subst hy;exact hcap.2 0 _ _ rfl (by simpa using hv)
  |j+2,hy,hv=>simp at hy
 have hE:=nY (N:=19) hr (by simp)
 simp only[Array.toArray_toList]at hE
 have hrows:x=NIL/\L=[]\/∃tok,x=.sl 1 tok (a9 L):=by
  rcases hx with⟨e1,e2⟩|⟨b,n,m,e,-⟩
  ·refine .inl ⟨e2,?_⟩
   cases L with
   |nil=>rfl
   |cons a l=>simp[a9]at e1
  ·exact .inr ⟨_,e⟩
 have hlen:(a9 L).length=L.length:=by simp[a9]
 have hJ0:=h0 l hln
 refine qy (cx r0).1 (cx r0).2 hE s (K:=fun E' H'=>E' 0=.lit (.func (.yield l) #[] #[])/\E' 1=.ptr bs 0/\E' 3=I ((L.length:Int) - 1)/\H'=H) ?_ ?_
 ·have g:=hJx l [] H hJ0
  have w1:=aL (n:=(L.length:Int) - 1) (by omega) (by omega)
  rcases hrows with⟨rfl,rfl⟩|⟨tok,rfl⟩
  ·simp only[Bb,go_sem,rE,rA,g,a7]
   rfl
  ·simp only[Bb,go_sem,rE,rA,g,a7,hlen,w1]
 rintro E1 H1 M1 a1 w1 ⟨e0,e1,e3,rfl⟩ hE1 s1 t1 hd1
 have hSd:∀{M' H' w'},bI M H1 w M' H' w'->w'.heap[l]?=some o/\Sx w':=fun t=>⟨by rw[(t.same l (dc.1 hlo).1 hln).1];exact hlo,hSx _ _ _ t⟩
 refine wpIn_block (wpIn_loop (fun a' w'=>∃k E' H' M',k<=L.length/\E' 0=.lit (.func (.yield l) #[] #[])/\E' 1=.ptr bs 0/\E' 3=I ((k:Int) - 1)/\J l (L.drop k).reverse H'/\cw 19 M' E' a'/\Sim M' H' w'/\bI M H1 w M' H' w'/\a'.defers=[])
  (fun a' _=>(iv (a'.tmps.getD 3 undef)+1).toNat) ⟨L.length,E1,H1,M1,aC _,e0,e1,e3,by rw[l8];exact hJ0,hE1,s1,t1,hd1⟩ ?_)
 have hle:=t1.le
 have t1':=t1
 clear hE1 s1 t1 hd1 e0 e1 e3
 rintro a2 w2 ⟨k,E2,H2,M2,hk,e0,e1,e3,hJ,hE2,s2,t2,hd2⟩
 have hmu:(iv (a2.tmps.getD 3 undef)+1).toNat=k:=by
  have:=hE2.rep 3
  rw[e3]at this
  rw[lG this]
  simp[iv]
 rw[hmu]
 have g:=hJx l _ H2 hJ
 refine wpIn_seq (wpIn_seq (wpIn_mono (nR (ro:=none) r1 hE2 s2 (K:=fun e E' H'=>e=.normal/\E' 0=.lit (.func (.yield l) #[] #[])/\E' 1=.ptr bs 0/\E' 3=I ((k:Int) - 1)/\E' 8=B (decide (0<k))/\H'=H2) ?_) ?_))
 ·simp only[x_bk1,go_sem,rE,rA,e0,e1,e3]
  have:decide ((k:Int) - 1>=0)=decide (0<k):=by
   rw[aZ,decide_eq_true_eq,decide_eq_true_eq];omega
  simp[this]
  omega
 rintro e a3 w3 ⟨xe,E3,H3,M3,he,⟨rfl,f0,f1,f3,f8,rfl⟩,hE3,s3,t3,hd3⟩
 cases e<;>simp[dM]at he
 have hr8:=hE3.rep 8
 rw[f8]at hr8
 have hev:a3.eval (.tmp 8)=.bool (decide (0<k)):=by rw[<-lG hr8];rfl
 by_cases hk0:0<k
 ·refine wpIn_cond_true (by rw[hev];simp[hk0]) (wpIn_skip ?_)
  obtain⟨k,rfl⟩:∃j,k=j+1:=⟨k - 1,by omega⟩
  have hkl:k<L.length:=by omega
  rcases hrows with⟨-,rfl⟩|⟨tok,rfl⟩
  ·simp at hkl
  have hget:(a9 L)[k]?=some [S L[k]]:=by simp[a9,hkl]
  have hkk:(((k+1:Nat):Int) - 1)=(k:Int):=by omega
  rw[hkk]at f3
  have hplen:(L.drop (k+1)).reverse.length<L.length:=by rw[List.length_reverse,eX];omega
  have hYC:=hY none 0 [I k,S L[k]] H3 (hPre l _ L[k] k H3 hJ hplen)
  refine wpIn_seq (wpIn_block (wpIn_seq (wpIn_mono (wD (ro:=none) (Sd:=fun w=>w.heap[l]?=some o/\Sx w) (K:=fun e E' H'=>e=.normal/\E' 0=.lit (.func (.yield l) #[] #[])/\E' 1=.ptr bs 0/\E' 3=I k/\E' 18=B false/\ma l [I k,S L[k]] H3 H') r3 hE3 s3 (by simp) (fun M' H' w' t=>hSd ((t2.trans t3).trans t)) ?_) ?_)))
  ·simp only[go_sem,rE,rA,f0,f1,f3,g,hget,a7]
   exact⟨l,[I k,S L[k]],_,rfl,hYC.later (t2.trans t3).le,fun _ h=>h⟩
  rintro e a4 w4 ⟨xe,E4,H4,M4,he,⟨rfl,q0,q1,q3,q18,hpost⟩,hE4,s4,t4,hd4⟩
  cases e<;>simp[dM]at he
  have hr18:=hE4.rep 18
  rw[q18]at hr18
  refine wpIn_cond_false (by rw[<-lG hr18];rfl) (wpIn_skip ?_)
  refine wpIn_mono (nR (ro:=none) r2 hE4 s4 (K:=fun e E' H'=>e=.normal/\E' 0=.lit (.func (.yield l) #[] #[])/\E' 1=.ptr bs 0/\E' 3=I ((k:Int) - 1)/\H'=H4) ?_) ?_
  ·have w1:=aL (n:=(k:Int) - 1) (by omega) (by omega)
   simp only[x_bk2,go_sem,rE,rA,q0,q1,q3,w1,and_self]
  rintro e a5 w5 ⟨xe,E5,H5,M5,he,⟨rfl,p0,p1,p3,rfl⟩,hE5,s5,t5,hd5⟩
  cases e<;>simp[dM]at he
  have hdrop:(L.drop (k+1)).reverse++[L[k]]=(L.drop k).reverse:=by rw[bU hkl,List.reverse_cons]
  refine⟨⟨k,E5,H5,M5,by omega,p0,p1,p3,?_,hE5,s5,(((t2.trans t3).trans t4).trans t5),?_⟩,?_⟩
  ·rw[<-hdrop];exact hPost l _ _ _ _ _ hJ hplen hpost
  ·rw[hd5,hd4,hd3,hd2]
  ·have:=hE5.rep 3
   rw[p3]at this
   rw[lG this]
   simp[iv]
 ·refine wpIn_cond_false (by rw[hev];simp[hk0]) (wpIn_exit ?_)
  have:k=0:=by omega
  subst this
  simp only[Exit.then,Exit.inBlock,if_true]
  obtain⟨v,hv,hrv⟩:=j9 (P:=P) (fn:=fn) (rs:=[]) (by rw[hres];rfl) hE3 s3 (q:=.tup []) rfl
  have hdef:a3.defers=[]:=by rw[hd3,hd2]
  show LeavesInM _ _ _ _ _ _ a3.defers .returning w3
  rw[hdef]
  refine⟨v,hv,⟨v,rfl⟩,M3,H3,s3,t2.trans t3,l,?_⟩
  rw[ip]at hJ
  exact hJ
end
end Go.Xl
