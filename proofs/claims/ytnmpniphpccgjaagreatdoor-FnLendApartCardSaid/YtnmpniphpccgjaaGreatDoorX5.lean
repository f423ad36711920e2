/- FnLendApart: a part of the proof. -/
import Derived.Test.YtnmpniphpccgjaaGreatDoorX4
set_option linter.unusedVariables false
set_option linter.unusedSimpArgs false
namespace Go.Xl
open _root_.Array renaming getD_eq_getD_getElem? -> gY, getElem?_append_left -> kL, getElem?_eq_some_iff -> di, replicate -> fF
open _root_.Bool renaming and_eq_true -> ay, and_false -> aN, eq_iff_iff -> bf, false_and -> aH, false_eq_true -> aq, false_or -> dk, not_eq_true' -> dz, not_false -> kK, true_and -> bL, true_or -> dT
open _root_.Int renaming eq_ofNat_of_zero_le -> dK, le_refl -> dD, natCast_zero -> cS, reduceBEq -> aG, reduceEq -> bu, reduceLE -> dS
open _root_.List renaming all_eq_true -> aV, any_append -> fE, any_eq_true -> jl, append_assoc -> eA, append_nil -> dv, drop_eq_getElem_cons -> cb, drop_length -> kO, drop_zero -> iy, eq_nil_of_length_eq_zero -> bm, ext_getElem? -> gq, flatten_cons -> av, flatten_nil -> a6, getElem?_append_left -> aS, getElem?_append_right -> bk, getElem?_cons_succ -> aB, getElem?_cons_zero -> a9, getElem?_drop -> bS, getElem?_eq_getElem -> ax, getElem?_eq_none -> fM, getElem?_eq_some_iff -> aR, getElem?_take -> fg, getElem_map -> fO, getElem_mem -> aw, length_append -> bH, length_cons -> aU, length_drop -> fi, length_filter_le -> fL, length_map -> am, length_nil -> bU, length_take -> bw, map_append -> bv, map_cons -> aT, map_nil -> bz, map_take -> ig, mem_append -> aF, mem_cons -> ba, mem_cons_of_mem -> dR, mem_cons_self -> ff, mem_filter -> cA, mem_iff_getElem -> aZ, mem_map -> aY, mem_map_of_mem -> co, mem_of_getElem? -> bg, mem_of_mem_drop -> fZ, mem_of_mem_take -> bF, mem_or_eq_of_mem_set -> lh, mem_range -> eI, nil_append -> dc, nodup_append -> fB, not_mem_nil -> bY, replicate -> az, take_append_drop -> iC, take_length -> aQ, take_of_length_le -> cL, take_succ_eq_append_getElem -> aA
open _root_.Nat renaming reduceEqDiff -> rE, reduceAdd -> rA, reduceLeDiff -> rL, le_refl -> aC, le_trans -> ce, mul_le_mul_right -> bE, strongRecOn -> lE, zero_add -> cx, zero_le -> fD
open _root_.Option renaming map_some -> bO, ne_none_iff_exists' -> aK
open Go.Proofs
section
variable {P:Program}
theorem oI{N n:Nat}{c y:Code}{xc:aW}(h:eE P N c=some xc)(hok:gQ P c xc=true){K:Env->aj->Prop}{M:bT}{E:Env}{H:aj}{a:Act}{w:World}{Q:Exit->Act->World->Prop}
(hE:cC N M E a)(s:Sim M H w)(hw:xc.wp P (fun ex E' H'=>ex=.normal/\K E' H') E H)
(hy:∀E' H' M' a' w',K E' H'->cC N M' E' a'->Sim M' H' w'->bK M H w M' H' w'->a'.defers=a.defers->y.wpIn Fence.wide n P Q a' w'):(Code.seq c y).wpIn Fence.wide n P Q a w:=by
 refine wpIn_seq (wpIn_mono (wpIn_wide.2 (aW.sound c h hok hE s hw)) ?_)
 rintro e a' w' ⟨xe,E',H',M',he,⟨rfl,hK⟩,hE',s',t',hd⟩
 cases e<;>simp[dP]at he
 exact hy E' H' M' a' w' hK hE' s' t' hd
theorem re{n:Nat}{fn:Func}{R:Ending->World->Prop}{a:Act}{w:World}{D:Nat}(hd:a.defers=[{target:=.collected D,args:=#[]}])(hD:w.heap[D]?=some (.deferred (some [])))
{v:Value}(hv:(results fn a.tmps).run P (w.putObj D (.deferred none))=.ok v (w.putObj D (.deferred none)))(hR:R (.returned v) (w.putObj D (.deferred none))):LeavesInM Fence.wide n P fn a.tmps R a.defers .returning w:=by
 rw[hd]
 refine⟨by simp,.inl ⟨_,_,rfl,run_takeDeferred hD,?_⟩⟩
 exact⟨_,hv,hR⟩
theorem cD{N i:Nat}{o:Array Oper}{xc:aW}(h:cX P N o false=some xc):eE P N (.region i o false)=some xc/\gQ P (.region i o false) xc=true:=⟨h,rfl⟩
def x_as0:aW:=rg [ef 0 2 (.box 0),mv 1 4 (.const (.slice none 0 0))]
def x_as1:aW:=rg [mv 0 6 1]
def x_as2:aW:=rg [mv 0 5 7]
def zL:aW:=rg [ld 0 8 none 2,mv 1 9 5,⟨2,some 10,none,.lits 1 1 [.string (bl [])] [(0,(1,9))],[]⟩,ef 3 11 (.appendM 1 16 8 10),en 4 (.store 1 2 11)]
def x_as4:aW:=rg [ld 0 12 none 2,mv 1 4 12]
def nf(P:Program)(f:FuncId):Prop:=∃fn i0 i1 i2 i3 i4 b0 b1 o0 o1 o2 o3 o4,P.funcs[f]?=some fn/\fn.ntmps=13/\fn.results=#[.tmp 4]/\
 fn.body=some (.seq (.region i0 o0 false) (.seq (.seq (.region i1 o1 false) (.block b0 (.rangeFunc (.tmp 6) #[7] (.region i2 o2 false) (.block b1 (.region i3 o3 false))))) (.seq (.region i4 o4 false) .ret)))/\
 cX P 13 o0 false=some x_as0/\cX P 13 o1 false=some x_as1/\cX P 13 o2 false=some x_as2/\cX P 13 o3 false=some zL/\cX P 13 o4 false=some x_as4
def BE(B:Nat)(l:Nat)(xs:List AC)(H:aj):Prop:=H.get l=none/\l≠B/\∃n ss x,xs=[S n]/\H.get B=some (.cells [x])/\bN H 1 (aD ss) x/\ss.length<=2^30
def oB(B:Nat)(l:Nat)(xs:List AC)(H H':aj):Prop:=∀n ss x,xs=[S n]->H.get B=some (.cells [x])->bN H 1 (aD ss) x->
 ∃x',H'.get B=some (.cells [x'])/\bN H' 1 (aD (ss++[n])) x'/\(∀d o,H.get d=some o->d≠B->¬cu x d->H'.get d=some o)/\∀d,cu x' d->cu x d\/H.get d=none
def AsEnd(B:Nat)(L:List ByteArray)(H H':aj):Prop:=∃x',H'.get B=some (.cells [x'])/\bN H' 1 (aD L) x'/\∀d o,H.get d=some o->d≠B->H'.get d=some o
theorem tF{a b:List ByteArray}(h:aD a=aD b):a=b:=by
 induction a generalizing b with
 |nil=>cases b with
  |nil=>rfl
  |cons y b=>simp[aD]at h
 |cons x a ih=>
  cases b with
  |nil=>simp[aD]at h
  |cons y b=>
   simp only[aD,aT,List.cons.injEq,AC.lit.injEq,Value.string.injEq,and_true]at h
   rw[h.1,ih h.2]
theorem bN.rows_eq{H:aj}{sz:Nat}{es es':List (List AC)}{x:AC}(h:bN H sz es x)(h':bN H sz es' x):es=es':=by
 rcases h with⟨rfl,hx⟩|⟨b,n,m,hx,-⟩
 ·rcases h' with⟨rfl,-⟩|⟨b,n,m,hx',-⟩
  ·rfl
  ·rw[hx]at hx';simp at hx'
 ·rcases h' with⟨rfl,hx'⟩|⟨b,n,m,hx',-⟩
  ·rw[hx]at hx';simp at hx'
  ·rw[hx]at hx';simp at hx';exact hx'.2
theorem mJ{N:Nat}{M:bT}{xs:List AC}{vs:List Value}(hr:gU M xs vs)(hlen:xs.length<=N):cC N M (lP xs) {tmps:=vs.toArray++fF (N - vs.toArray.size) undef,defers:=[]}:=by
 have hlv:=hr.1
 refine⟨by simp;omega,fun n=>?_⟩
 simp only[lP]
 by_cases c:n<xs.length
 ·have c':n<vs.length:=hr.1▸c
  rw[ax c]
  have:(vs.toArray++fF (N - vs.toArray.size) undef).getD n undef=vs[n]:=by
   rw[gY,kL (by simpa using c')];simp[c']
  rw[this]
  exact hr.2 n _ _ (ax c) (ax c')
 ·rw[fM (by omega)]
  have:(vs.toArray++fF (N - vs.toArray.size) undef).getD n undef=undef:=by
   rw[gY,Array.getElem?_append_right (by simp;omega),Array.getElem?_replicate]
   split<;>rfl
  rw[this]
  exact .tup rfl (by simp)
theorem YC.side{ro:Option Nat}{n l:Nat}{xs:List AC}{M:bT}{Sd Sd':World->Prop}{H:aj}{R:aj->Prop}(h:YC P ro n l xs M Sd H R)(hs:∀w,Sd' w->Sd w):YC P ro n l xs M Sd' H R:=
 fun M' w' vs h1 h2 h3 h4=>h M' w' vs h1 h2 (hs _ h3) h4
theorem Ak{M:bT}{f:FuncId}{cap:List AC}{v:Value}(h:Rep M (.fn (.func f) [] cap) v):∃us:List Value,v=.func (.func f) #[] us.toArray/\gU M cap us:=by
 cases h with
 |@fn _ _ _ vs us h1 h2 h3 h4=>
  have:vs=#[]:=by apply Array.eq_empty_of_size_eq_zero;simpa using h1.symm
  subst this
  exact⟨us.toList,by simp,by simpa using h3,fun j x v hx hv=>h4 j x v hx (by simpa using hv)⟩
theorem as_body{E:Env}{H:aj}{B:Nat}{n:ByteArray}{ss:List ByteArray}{x:AC}(e2:E 2=.ptr B 0)(e5:E 5=S n)(hB:H.get B=some (.cells [x]))(hx:bN H 1 (aD ss) x)(hl:ss.length<=2^30){K:Env->aj->Prop}
(h:∀E' H' x',H'.get B=some (.cells [x'])->bN H' 1 (aD (ss++[n])) x'->(∀d o,H.get d=some o->d≠B->¬cu x d->H'.get d=some o)->(∀d,cu x' d->cu x d\/H.get d=none)->K E' H'):
 zL.wp P (fun e E' H'=>e=.normal/\K E' H') E H:=by
 simp only[zL,go_sem,rE,rA,e2,e5,hB,az,av,a6,a9]
 refine dV (es:=aD ss) (ys:=[[S n]]) (by simp only[go_sem,rE,rA];exact hx) (by simp[go_sem,bh]) (by simp) (by simp[aD];omega) ?_
 intro x' H2 fp hx' hfp hkeep hnew
 simp only[go_sem,rE,rA]at hkeep hnew
 have hBt:¬cu x B:=fun ht=>by obtain⟨n,m,e⟩:=hx.tok ht;rw[hB]at e;simp at e
 have hB2:H2.get B=some (.cells [x]):=by rw[hkeep B (by rw[hB];simp) hBt];exact hB
 simp only[go_sem,rE,rA,e2,hB2,hx'.one]
 have hrow:aD (ss++[n])=aD ss++[[S n]]:=by simp[aD]
 refine h _ _ x' (ai _ _ _) ?_ (fun d o hd hdB hdt=>?_) hnew
 ·rw[hrow]
  refine hx'.mono fun b hb=>ae _ _ ?_
  rintro rfl
  obtain⟨n,m,e⟩:=hx'.tok hb
  rw[hB2]at e;simp at e
 ·rw[ae _ _ hdB,hkeep d (by rw[hd];simp) hdt];exact hd
theorem tV{f:FuncId}(hA:nf P f){gf:FuncId}{cap:List AC}(hgood:iS P gf=true)(L:List ByteArray)(H:aj)
(hit:∀B,H.get B=none->ItC P gf cap (H.set B (.cells [NIL])) (fun _=>True) (BE B) (oB B) (AsEnd B L (H.set B (.cells [NIL])))):
 bA P f [NIL,.fn (.func gf) [] cap] H fun q H'=>q=.sl 1 none (aD L)/\H'=H:=by
 obtain⟨fn,i0,i1,i2,i3,i4,b0,b1,o0,o1,o2,o3,o4,hf,hN,hres,hb,r0,r1,r2,r3,r4⟩:=hA
 intro M w vs s hr
 refine(callsIn_wide (n:=0)).1 (callsIn_of_wp_marks hf hb trivial ?_ rfl)
 rw[hN]
 have hE:=mJ (N:=13) hr (by simp)
 refine oI (cD r0).1 (cD r0).2 hE s (K:=fun E' H'=>∃B,H.get B=none/\E' 2=.ptr B 0/\E' 1=.fn (.func gf) [] cap/\H'=H.set B (.cells [NIL])) ?_ ?_
 ·simp only[x_as0,go_sem,rE,rA]
  intro B hB
  exact⟨B,hB,rfl,rfl⟩
 rintro E1 H1 M1 a1 w1 ⟨B,hB,e2,e1,rfl⟩ hE1 s1 t1 hd1
 refine wpIn_seq (oI (cD r1).1 (cD r1).2 hE1 s1 (K:=fun E' H'=>E' 2=.ptr B 0/\E' 6=.fn (.func gf) [] cap/\H'=H.set B (.cells [NIL])) ?_ ?_)
 ·simp only[x_as1,go_sem,rE,rA,e2,e1,and_self]
 rintro E2 H2 M2 a2 w2 ⟨f2,f6,rfl⟩ hE2 s2 t2 hd2
 refine wpIn_block ?_
 have hrep:=hE2.rep 6
 rw[f6]at hrep
 obtain⟨us,hus,hcap⟩:=Ak hrep
 have hE2':cC 13 M2 E2 {tmps:=a2.tmps,defers:=[]}:=⟨hE2.size,hE2.rep⟩
 refine xX (ps:=[7]) (us:=us) (cap:=cap) hE2 s2 (by simpa[Act.eval]using hus) hgood hcap (hit B hB) (Sx:=fun _=>True) (fun _ _ _ _=>trivial) ?_ ?_
 ·intro l D fid hl ro n xs H' hpre
  refine(qw (Sx:=fun _=>True) (Pre:=BE B l) (lu:=oB B l) (EA:=fun xs=>(E2.puts [7] xs).put (some 5) ((E2.puts [7] xs) 7)) hE2' (by simp) (fun _ _ _=>trivial) (fun _ _ _ _ _ _ _ _ _ _=>trivial) ?_ ?_ ?_ ro n xs H' hpre)
  ·rintro xs H ⟨h1,-,n,ss,x,rfl,-⟩
   exact⟨rfl,h1⟩
  ·intro n xs H M1 w1 a1 hle hE s hp
   refine mD r2 hE s ?_
   simp only[x_as2,go_sem,rE,rA,and_self]
  ·rintro n xs H M1 w1 a1 hle hE s ⟨h1,hlB,nm,ss,x,rfl,hBx,hx,hss⟩ - -
   refine wpIn_block (wpIn_mono (mD r3 hE s (K:=fun e E' H'=>e=.normal/\oB B l [S nm] H H') ?_) ?_)
   ·refine as_body (n:=nm) (ss:=ss) (x:=x) ?_ ?_ hBx hx hss ?_
    ·simp only[Env.puts,go_sem,rE];exact f2
    ·simp only[Env.puts,go_sem,rE]
    ·intro E' H' x' g1 g2 g3 g4 n2 ss2 x2 hn2 hB2 hx2
     simp only[List.cons.injEq,AC.lit.injEq,Value.string.injEq,and_true]at hn2
     subst hn2
     rw[hBx]at hB2
     simp at hB2
     subst hB2
     have:=tF (hx.rows_eq hx2)
     subst this
     exact⟨x',g1,g2,g3,g4⟩
   ·rintro e a' w' ⟨xe,E',H',M',he,⟨rfl,hP⟩,h1,h2,h3,h4⟩
    cases e<;>simp[dP]at he
    exact⟨.normal,E',H',M',rfl,⟨rfl,hP⟩,h1,h2,h3,h4⟩
 ·intro D M3 H3 w3 hD ⟨x',hBx,hx',hkeep⟩ s3 t3 hDn hDr
  have hE3:cC 13 M3 E2 {a2 with defers:={target:=.collected D,args:=#[]}::a2.defers}:=⟨hE2.size,fun n=>(hE2.rep n).mono t3.le⟩
  refine oI (cD r4).1 (cD r4).2 hE3 s3 (K:=fun E' H'=>E' 4=x'/\H'=H3) ?_ ?_
  ·simp only[x_as4,go_sem,rE,rA,f2,hBx,a9,and_self]
  rintro E4 H4 M4 a4 w4 ⟨e4,rfl⟩ hE4 s4 t4 hd4
  refine wpIn_ret ?_
  have hDw4:w4.heap[D]?=some (.deferred (some [])):=by rw[(t4.same D (di.1 hDr).1 hDn).1];exact hDr
  have s5:=s4.putRec hDw4 (fun a b c h=>by cases h) hDn (.deferred none)
  obtain⟨v,hv,hrv⟩:=j7 (P:=P) (fn:=fn) (rs:=[.slot 4]) (by rw[hres];rfl) hE4 s5 (q:=E4 4) rfl
  have hdef:a4.defers=[{target:=.collected D,args:=#[]}]:=by rw[hd4];simp only[hd2,hd1]
  refine re (a:=a4) hdef hDw4 hv ?_
  have t13:bK M H w M4 H4 w4:=(((t1.trans t2).trans t3).trans t4)
  have hsub:H.sub H4:=fun b o hb'=>by
   have hbB:b≠B:=by rintro rfl;rw[hB]at hb';simp at hb'
   exact hkeep b o (by rw[ae _ _ hbB];exact hb') hbB
  refine⟨.sl 1 none (aD L),v,M4,H,rfl,?_,s5.sub hsub,?_,rfl,rfl⟩
  ·rw[e4]at hrv
   exact hx'.le _ _ hrv
  ·have t:=t13.weaken hsub
   refine⟨t.le,by rw[World.putObj_size];exact t.size,fun b hb' hn=>?_,t.fresh,t.io.trans (uV _ _ _)⟩
   have:w.heap.size<=w2.heap.size:=(t1.trans t2).size
   rw[World.putObj_heap_other (by omega)]
   exact t.same b hb' hn
end
section
variable {P:Program}
def zK:aW:=rg [ld 0 4 none 1,pu 1 5 (.lenSl 4),pu 2 6 (.bin .sub 5 (ci 1)),mv 3 3 6]
def x_bk1:aW:=rg [mv 0 7 3,pu 1 8 (.bin .geq 7 (ci 0))]
def x_bk2:aW:=rg [mv 0 9 3,pu 1 10 (.bin .sub 9 (ci 1)),mv 2 3 10]
def x_bk3:aW:=rg ([mv 0 11 0,mv 1 12 3,ld 2 13 none 1,mv 3 14 3,ia 4 15 1 13 14,ld 5 16 none 15]++ef 6 17 (.callX .clos [11,12,16])::[pu 7 18 (.not 17)])
def mf(P:Program)(f:FuncId):Prop:=∃fn i0 i1 i2 i3 b0 b1 o0 o1 o2 o3,P.funcs[f]?=some fn/\fn.ntmps=19/\fn.results=#[]/\
 fn.body=some (.seq (.region i0 o0 false) (.block b0 (.loop (.seq (.seq (.region i1 o1 false) (.cond (.tmp 8) .skip (.exit b0))) (.seq (.block b1 (.seq (.region i3 o3 false) (.cond (.tmp 18) .ret .skip))) (.region i2 o2 false))))))/\
 cX P 19 o0 false=some zK/\cX P 19 o1 false=some x_bk1/\cX P 19 o2 false=some x_bk2/\cX P 19 o3 false=some x_bk3
theorem YC.later{ro:Option Nat}{n l:Nat}{xs:List AC}{M M':bT}{Sd:World->Prop}{H:aj}{R:aj->Prop}(h:YC P ro n l xs M Sd H R)(hm:M.le M'):YC P ro n l xs M' Sd H R:=
 fun M2 w' vs h1 h2 h3 h4=>h M2 w' vs (bT.le_trans hm h1) h2 h3 h4
def iv:Value->Int|.int _ i=>i|_=>0
theorem vE{f:FuncId}(hB:mf P f){bs:Nat}{x:AC}{L:List ByteArray}{H:aj}{Sx:World->Prop}(hx:bN H 1 (aD L) x)(hL:L.length<=2^30){Pre:Nat->List AC->aj->Prop}{lu:Nat->List AC->aj->aj->Prop}
{J:Nat->List ByteArray->aj->Prop}(h0:∀l,H.get l=none->J l [] H)(hJx:∀l pre H',J l pre H'->H'.get bs=some (.cells [x]))(hPre:∀l pre n i H',J l pre H'->pre.length<L.length->Pre l [I i,S n] H')(hPost:∀l pre n i H' H'',J l pre H'->pre.length<L.length->lu l [I i,S n] H' H''->J l (pre++[n]) H'')
(hl:∀l pre H',J l pre H'->H'.get l=none):ItC P f [.ptr bs 0] H Sx Pre lu (fun H'=>∃l,J l L.reverse H'):=by
 obtain⟨fn,i0,i1,i2,i3,b0,b1,o0,o1,o2,o3,hf,hN,hres,hb,r0,r1,r2,r3⟩:=hB
 intro l o M w us hnc s hlo hln hcap hSx hY
 refine callsIn_of_wp_marks hf hb trivial ?_ rfl
 rw[hN]
 have hr:gU M [.lit (.func (.yield l) #[] #[]),.ptr bs 0] ((#[.func (.yield l) #[] #[]]++us.toArray:Array Value).toList):=by
  refine⟨by simp[<-hcap.1],fun j y v hy hv=>?_⟩
  match j,hy,hv with
  |0,hy,hv=>simp at hy hv;subst hy hv;exact .lit trivial
  |1,hy,hv=>simp at hy;subst hy;exact hcap.2 0 _ _ rfl (by simpa using hv)
  |j+2,hy,hv=>simp at hy
 have hE:=mJ (N:=19) hr (by simp)
 simp only[Array.toArray_toList]at hE
 have hrows:x=NIL/\L=[]\/∃tok,x=.sl 1 tok (aD L):=by
  rcases hx with⟨e1,e2⟩|⟨b,n,m,e,-⟩
  ·refine .inl ⟨e2,?_⟩
   cases L with
   |nil=>rfl
   |cons a l=>simp[aD]at e1
  ·exact .inr ⟨_,e⟩
 have hlen:(aD L).length=L.length:=by simp[aD]
 have hJ0:=h0 l hln
 refine oI (cD r0).1 (cD r0).2 hE s (K:=fun E' H'=>E' 0=.lit (.func (.yield l) #[] #[])/\E' 1=.ptr bs 0/\E' 3=I ((L.length:Int) - 1)/\H'=H) ?_ ?_
 ·have g:=hJx l [] H hJ0
  have w1:=aJ (n:=(L.length:Int) - 1) (by omega) (by omega)
  rcases hrows with⟨rfl,rfl⟩|⟨tok,rfl⟩
  ·simp only[zK,go_sem,rE,rA,g,a9]
   rfl
  ·simp only[zK,go_sem,rE,rA,g,a9,hlen,w1]
 rintro E1 H1 M1 a1 w1 ⟨e0,e1,e3,rfl⟩ hE1 s1 t1 hd1
 have hSd:∀{M' H' w'},bK M H1 w M' H' w'->w'.heap[l]?=some o/\Sx w':=fun t=>⟨by rw[(t.same l (di.1 hlo).1 hln).1];exact hlo,hSx _ _ _ t⟩
 refine wpIn_block (wpIn_loop (fun a' w'=>∃k E' H' M',k<=L.length/\E' 0=.lit (.func (.yield l) #[] #[])/\E' 1=.ptr bs 0/\E' 3=I ((k:Int) - 1)/\J l (L.drop k).reverse H'/\cC 19 M' E' a'/\Sim M' H' w'/\bK M H1 w M' H' w'/\a'.defers=[])
  (fun a' _=>(iv (a'.tmps.getD 3 undef)+1).toNat) ⟨L.length,E1,H1,M1,aC _,e0,e1,e3,by rw[kO];exact hJ0,hE1,s1,t1,hd1⟩ ?_)
 have hle:=t1.le
 have t1':=t1
 clear hE1 s1 t1 hd1 e0 e1 e3
 rintro a2 w2 ⟨k,E2,H2,M2,hk,e0,e1,e3,hJ,hE2,s2,t2,hd2⟩
 have hmu:(iv (a2.tmps.getD 3 undef)+1).toNat=k:=by
  have:=hE2.rep 3
  rw[e3]at this
  rw[kV this]
  simp[iv]
 rw[hmu]
 have g:=hJx l _ H2 hJ
 refine wpIn_seq (wpIn_seq (wpIn_mono (mD (ro:=none) r1 hE2 s2 (K:=fun e E' H'=>e=.normal/\E' 0=.lit (.func (.yield l) #[] #[])/\E' 1=.ptr bs 0/\E' 3=I ((k:Int) - 1)/\E' 8=B (decide (0<k))/\H'=H2) ?_) ?_))
 ·simp only[x_bk1,go_sem,rE,rA,e0,e1,e3]
  have:decide ((k:Int) - 1>=0)=decide (0<k):=by
   rw[bf,decide_eq_true_eq,decide_eq_true_eq];omega
  simp[this]
  omega
 rintro e a3 w3 ⟨xe,E3,H3,M3,he,⟨rfl,f0,f1,f3,f8,rfl⟩,hE3,s3,t3,hd3⟩
 cases e<;>simp[dP]at he
 have hr8:=hE3.rep 8
 rw[f8]at hr8
 have hev:a3.eval (.tmp 8)=.bool (decide (0<k)):=by rw[<-kV hr8];rfl
 by_cases hk0:0<k
 ·refine wpIn_cond_true (by rw[hev];simp[hk0]) (wpIn_skip ?_)
  obtain⟨k,rfl⟩:∃j,k=j+1:=⟨k - 1,by omega⟩
  have hkl:k<L.length:=by omega
  rcases hrows with⟨-,rfl⟩|⟨tok,rfl⟩
  ·simp at hkl
  have hget:(aD L)[k]?=some [S L[k]]:=by simp[aD,hkl]
  have hkk:(((k+1:Nat):Int) - 1)=(k:Int):=by omega
  rw[hkk]at f3
  have hplen:(L.drop (k+1)).reverse.length<L.length:=by rw[List.length_reverse,fi];omega
  have hYC:=hY none 0 [I k,S L[k]] H3 (hPre l _ L[k] k H3 hJ hplen)
  refine wpIn_seq (wpIn_block (wpIn_seq (wpIn_mono (uB (ro:=none) (Sd:=fun w=>w.heap[l]?=some o/\Sx w) (K:=fun e E' H'=>e=.normal/\E' 0=.lit (.func (.yield l) #[] #[])/\E' 1=.ptr bs 0/\E' 3=I k/\E' 18=B false/\lu l [I k,S L[k]] H3 H') r3 hE3 s3 (by simp) (fun M' H' w' t=>hSd ((t2.trans t3).trans t)) ?_) ?_)))
  ·simp only[go_sem,rE,rA,f0,f1,f3,g,hget,a9]
   exact⟨l,[I k,S L[k]],_,rfl,hYC.later (t2.trans t3).le,fun _ h=>h⟩
  rintro e a4 w4 ⟨xe,E4,H4,M4,he,⟨rfl,q0,q1,q3,q18,hpost⟩,hE4,s4,t4,hd4⟩
  cases e<;>simp[dP]at he
  have hr18:=hE4.rep 18
  rw[q18]at hr18
  refine wpIn_cond_false (by rw[<-kV hr18];rfl) (wpIn_skip ?_)
  refine wpIn_mono (mD (ro:=none) r2 hE4 s4 (K:=fun e E' H'=>e=.normal/\E' 0=.lit (.func (.yield l) #[] #[])/\E' 1=.ptr bs 0/\E' 3=I ((k:Int) - 1)/\H'=H4) ?_) ?_
  ·have w1:=aJ (n:=(k:Int) - 1) (by omega) (by omega)
   simp only[x_bk2,go_sem,rE,rA,q0,q1,q3,w1,and_self]
  rintro e a5 w5 ⟨xe,E5,H5,M5,he,⟨rfl,p0,p1,p3,rfl⟩,hE5,s5,t5,hd5⟩
  cases e<;>simp[dP]at he
  have hdrop:(L.drop (k+1)).reverse++[L[k]]=(L.drop k).reverse:=by rw[cb hkl,List.reverse_cons]
  refine⟨⟨k,E5,H5,M5,by omega,p0,p1,p3,?_,hE5,s5,(((t2.trans t3).trans t4).trans t5),?_⟩,?_⟩
  ·rw[<-hdrop];exact hPost l _ _ _ _ _ hJ hplen hpost
  ·rw[hd5,hd4,hd3,hd2]
  ·have:=hE5.rep 3
   rw[p3]at this
   rw[kV this]
   simp[iv]
 ·refine wpIn_cond_false (by rw[hev];simp[hk0]) (wpIn_exit ?_)
  have:k=0:=by omega
  subst this
  simp only[Exit.then,Exit.inBlock,if_true]
  obtain⟨v,hv,hrv⟩:=j7 (P:=P) (fn:=fn) (rs:=[]) (by rw[hres];rfl) hE3 s3 (q:=.tup []) rfl
  have hdef:a3.defers=[]:=by rw[hd3,hd2]
  show LeavesInM _ _ _ _ _ _ a3.defers .returning w3
  rw[hdef]
  refine⟨v,hv,⟨v,rfl⟩,M3,H3,s3,t2.trans t3,l,?_⟩
  rw[iy]at hJ
  exact hJ
end
theorem pY(ns:List ByteArray)(n:ByteArray):mz (cO ns) n (I 1)=cO (n::ns):=by
 funext k
 by_cases hk:k=n
 ·subst hk;rw[iV];simp[cO,dx]
 ·rw[kQ _ _ hk]
  have:eqB n k=false:=cj.2 (Ne.symm hk)
  simp[cO,this]
theorem wR(ns:List ByteArray)(n:ByteArray):cO (n::n::ns)=cO (n::ns):=by
 funext k
 simp only[cO,List.any_cons]
 by_cases h:eqB n k=true<;>simp[h]
theorem rc(ns:List ByteArray)(n:ByteArray):iH (.lit (.int .i64 0)) false (cO ns n)=I (if ns.any (fun m=>eqB m n)then 1 else 0):=by
 unfold cO
 cases ns.any fun m=>eqB m n<;>simp[iH]
def ken1(F:Ids):aW:=.loop (.seq (rg [pu 0 41 (.bin .lss 40 39)]) (.seq (.cond 41 .skip (.exit 2)) (.seq (.block 3 (.seq (rg [ia 0 42 2 38 40,ld 1 43 (some 2) 42,ef 2 10 (.alloc [.string (bl []),.slice none 0 0]),en 3 (.store 2 10 43)]) (.seq (rg [ld 0 44 (some 2) 10,ld 1 45 (some 2) 2,ca 2 46 33 [44,45],mv 3 47 46,gp 4 48 47 false (.move 4),gp 5 49 47 false (.fieldAddr 0 10),gl 6 50 47 false none 49,⟨7,some 51,some (47,false),.eff (.callX (.lookup (.lit (.int .i64 0)) false) [48,50]),[]⟩,gp 8 52 47 false (.bin .gtr 51 (ci 0)),pu 9 53 (.pick 47 ct 52)]) (.cond 53 (rg [mv 0 54 4,mv 1 55 7,en 2 (.callX .mapSet [54,55,ci 1])]) .skip)))) (rg [pu 0 56 (.bin .add 40 (ci 1)),mv 1 40 56]))))
def uq(F:Ids):aW:=.seq (rg [ld 0 14 none 1,nc 1 15 14,fa 2 16 1 15,ld 3 17 none 16,pu 4 18 (.lenSl 17),mv 5 19 (ci 0)]) (.block 0 (.loop (.seq (rg [pu 0 20 (.bin .lss 19 18)]) (.seq (.cond 20 .skip (.exit 0)) (.seq (.block 1 (.seq (rg [ia 0 21 1 17 19,ld 1 22 none 21,mv 2 7 22]) (.seq (rg [ld 0 23 none 1,nc 1 24 23,fa 2 25 2 24,ld 3 26 none 25,mv 4 27 7,ef 5 28 (.callX (.lookup (.agg [.lit (.slice none 0 0),.lit (.bool false),.lit (.bool false),.lit (.bool false),.lit (.bool false),.lit (.slice none 0 0)]) false) [26,27]),ef 6 8 (.alloc [.slice none 0 0,.bool false,.bool false,.bool false,.bool false,.slice none 0 0]),en 7 (.store 6 8 28)]) (.seq (.seq (rg [fa 0 29 3 8,ld 1 30 none 29,pu 2 31 (.not 30),mv 3 32 31,gp 4 33 32 false (.fieldAddr 2 8),gl 5 34 32 false none 33,gp 6 35 32 false (.not 34),pu 7 36 (.pick 32 ct 35)]) (.cond 36 (.exit 1) .skip)) (.seq (.seq (rg [fa 0 37 5 8,ld 1 38 none 37,pu 2 39 (.lenSl 38),mv 3 40 (ci 0)]) (.block 2 (ken1 F))) (.seq (rg [mv 0 57 4,mv 1 58 7,ef 2 59 (.callX (.lookup (.lit (.int .i64 0)) false) [57,58]),pu 3 60 (.bin .gtr 59 (ci 0))]) (.cond 60 (rg [mv 0 61 5,mv 1 62 7,⟨2,some 63,none,.lits 1 1 [.string (bl [])] [(0,(1,62))],[]⟩,ef 3 64 (.appendM 1 16 61 63),mv 4 5 64]) .skip))))))) (rg [pu 0 65 (.bin .add 19 (ci 1)),mv 1 19 65]))))))
section
variable {P:Program}{F:Ids}{er:bX}
noncomputable def kC(p:Pl)(Es:List ByteArray)(qs:List Pl):Bool:=qs.any fun q=>q.meet p||Es.any fun m=>eqB m q.name
theorem ken1_wp(L:Lib P F){K:cQ->Env->aj->Prop}{E:Env}{H:aj}{p:Pl}{qs:List Pl}{nm:ByteArray}{Es:List ByteArray}{mo c:Nat}(hp:p.path.length<=2^30)(hq:∀q∈qs,q.path.length<=2^30)(hql:qs.length<=2^30)
(e2:E 2=.ptr c 0)(e4:E 4=.mp mo)(e7:E 7=S nm)(e38:E 38=.sl 2 none (qs.map Pl.enc))(e39:E 39=I qs.length)(e40:E 40=I 0)(gc:H.get c=some (.cells [S p.name,au p.path]))(gm:H.get mo=some (.map (cO Es)))
(hK:∀E' H',E' 0=E 0->E' 1=E 1->E' 2=E 2->E' 3=E 3->E' 4=E 4->E' 5=E 5->E' 7=E 7->E' 17=E 17->E' 18=E 18->E' 19=E 19->H'.get mo=some (.map (cO (if kC p Es qs then nm::Es else Es)))->
  (∀d o,H.get d=some o->d≠mo->H'.get d=some o)->K (.exit 2) E' H'):(ken1 F).wp P K E H:=by
 unfold ken1
 have dcm:c≠mo:=by rintro rfl;rw[gc]at gm;simp at gm
 refine aO qs.length (fun j E' H'=>(E' 0=E 0/\E' 1=E 1/\E' 2=.ptr c 0/\E' 3=E 3/\E' 4=.mp mo/\E' 5=E 5/\E' 7=S nm/\E' 17=E 17/\E' 18=E 18/\E' 19=E 19)/\E' 38=.sl 2 none (qs.map Pl.enc)/\E' 39=I qs.length/\E' 40=I j/\
  H'.get mo=some (.map (cO (if kC p Es (qs.take j)then nm::Es else Es)))/\∀d o,H.get d=some o->d≠mo->H'.get d=some o)
  ⟨⟨rfl,rfl,e2,rfl,e4,rfl,e7,rfl,rfl,rfl⟩,e38,e39,e40,by simp only[List.take_zero,kC,List.any_nil,aq,if_false];exact gm,fun _ _ h _=>h⟩ ?_
 rintro j E' H' hj ⟨⟨q0,q1,q2,q3,q4,q5,q7,q17,q18,q19⟩,q38,q39,q40,gmo,kk⟩
 simp only[go_sem,rE,rA,rL,q39,q40]
 refine aE (fun hlt=>?_) (fun hge=>?_)
 ·have hj1:j<qs.length:=by omega
  have w1:=aJ (n:=(j:Int)+1) (by omega) (by omega)
  have hg:=oM (ps:=qs) (k:=j) hj1
  have gc':=kk c _ gc dcm
  have hmt:=tT L qs[j] p (ce (hq _ (aw hj1)) (by decide)) (ce hp (by decide))
  rw[Pl.enc,Pl.enc]at hmt
  have hsnoc:kC p Es (qs.take (j+1))=(kC p Es (qs.take j)||(qs[j].meet p||Es.any fun m=>eqB m qs[j].name)):=by
   unfold kC
   rw[aA hj1,fE]
   simp
  simp only[go_sem,rE,rA,rL,q38,q40,hg]
  intro b10 hb10
  have d10:=al gc' hb10
  have d10m:=al gmo hb10
  have kk10:∀(o':cP) d o,H.get d=some o->d≠mo->(H'.set b10 o').get d=some o:=fun o' d o hd hdm=>by
   have:=kk d o hd hdm
   rw[ae _ _ (al this hb10)];exact this
  simp only[go_sem,rE,rA,rL,q2,gc',d10]
  refine ao hmt rfl ?_
  have gmb:∀o',(H'.set b10 o').get mo=some (.map (cO (if kC p Es (qs.take j)then nm::Es else Es))):=fun o'=>(ae _ _ d10m).trans gmo
  have hset:cO (nm::if kC p Es (qs.take j)then nm::Es else Es)=cO (nm::Es):=by
   cases kC p Es (qs.take j)
   ·rfl
   ·exact wR Es nm
  have h10:decide ((1:Int)>0)=true:=by decide
  have h00:decide ((0:Int)>0)=false:=by decide
  cases hm:qs[j].meet p
  ·simp only[go_sem,rE,rA,rL,q4]
   refine fw (k:=qs[j].name) (g:=cO (if kC p Es (qs.take j)then nm::Es else Es)) (by simp only[go_sem,rE,aT,bz,q4]) (gmb _) trivial ?_
   rw[rc]
   by_cases hx:((if kC p Es (qs.take j)then nm::Es else Es).any fun m=>eqB m qs[j].name)=true
   ·have hh:kC p Es (qs.take (j+1))=true:=by
     rw[hsnoc,hm]
     cases hc:kC p Es (qs.take j)
     ·rw[hc]at hx
      simpa using hx
     ·rfl
    rw[hh,if_pos rfl]
    simp only[hx,if_true]
    simp only[go_sem,rE,rA,rL,q4,q7,h10]
    refine kw (k:=nm) (v:=I 1) (v':=I 1) (g:=cO (if kC p Es (qs.take j)then nm::Es else Es)) (by simp only[go_sem,rE,aT,bz,q4,q7]) (.refl _) (gmb _) trivial ?_
    rw[pY,hset]
    simp only[go_sem,rE,rA,rL,q40,w1]
    exact⟨hj1,_,aj.sub_refl _,⟨q0,q1,q2,q3,q4,q5,q7,q17,q18,q19⟩,q38,q39,rfl,ai _ _ _,fun d o hd hdm=>by rw[ae _ _ hdm];exact kk10 _ d o hd hdm⟩
   ·have hh:kC p Es (qs.take (j+1))=kC p Es (qs.take j):=by
     rw[hsnoc,hm]
     cases hc:kC p Es (qs.take j)
     ·rw[hc]at hx
      simpa using hx
     ·rfl
    rw[hh]
    have hx':((if kC p Es (qs.take j)then nm::Es else Es).any fun m=>eqB m qs[j].name)=false:=by simpa using hx
    simp only[hx',aq,if_false]
    simp only[go_sem,rE,rA,rL,q4,q7,q40,w1,h00]
    exact⟨hj1,_,aj.sub_refl _,⟨q0,q1,q2,q3,q5,q17,q18,q19⟩,q38,q39,rfl,gmb _,kk10 _⟩
  ·have hh:kC p Es (qs.take (j+1))=true:=by rw[hsnoc,hm];simp
   rw[hh,if_pos rfl]
   simp only[go_sem,rE,rA,rL,q4,q7]
   refine kw (k:=nm) (v:=I 1) (v':=I 1) (g:=cO (if kC p Es (qs.take j)then nm::Es else Es)) (by simp only[go_sem,rE,aT,bz,q4,q7]) (.refl _) (gmb _) trivial ?_
   rw[pY,hset]
   simp only[go_sem,rE,rA,rL,q40,w1]
   exact⟨hj1,_,aj.sub_refl _,⟨q0,q1,q2,q3,q4,q5,q7,q17,q18,q19⟩,q38,q39,rfl,ai _ _ _,fun d o hd hdm=>by rw[ae _ _ hdm];exact kk10 _ d o hd hdm⟩
 ·have hjj:j=qs.length:=by omega
  subst hjj
  rw[aQ]at gmo
  simp only[go_sem,rE,rA,rL]
  exact hK _ _ (by simp only[go_sem,rE,q0]) (by simp only[go_sem,rE,q1]) (by simp only[go_sem,rE,q2,e2]) (by simp only[go_sem,rE,q3]) (by simp only[go_sem,rE,q4,e4]) (by simp only[go_sem,rE,q5]) (by simp only[go_sem,rE,q7,e7]) (by simp only[go_sem,rE,q17]) (by simp only[go_sem,rE,q18]) (by simp only[go_sem,rE,q19]) gmo kk
end
section
variable {P:Program}{F:Ids}{er:bX}
theorem ea3_wp(L:Lib P F){K:Env->aj->Prop}{E:Env}{H:aj}{s:Nat}{v:Sc}{ORD HELD:AC}{m1 m2 b c mo:Nat}{p:Pl}(hE:cE F er H s v ORD HELD m1 m2)(hnd:(v.vars.map (·.name)).Nodup)(hvl:v.vars.length<=2^30)(hp:p.path.length<=2^30)
(hqp:∀x∈v.vars,∀q∈x.loans,q.path.length<=2^30)(hql:∀x∈v.vars,x.loans.length<=2^30)(gb:H.get b=some (.cells [.ptr s 0]))(gc:H.get c=some (.cells [S p.name,au p.path]))(gm:H.get mo=some (.map fun _=>none))(hms:mo≠m1)
(e1:E 1=.ptr b 0)(e2:E 2=.ptr c 0)(e4:E 4=.mp mo)(e5:E 5=NIL)
(hK:∀E' H',E' 0=E 0->E' 3=E 3->bN H' 1 (aD (cn v.vars p).reverse) (E' 5)->(∀d o,H.get d=some o->d≠mo->H'.get d=some o)->(∀d,cu (E' 5) d->H.get d=none)->K E' H'):
 (uq F).wp P (fun ex E' H'=>ex=.normal/\K E' H') E H:=by
 have ho:=hE.obj
 simp only[ScO]at ho
 have hlen:(aD (v.vars.map (·.name))).length=v.vars.length:=by simp[aD]
 rcases hE.ord with⟨hnil,hO⟩|⟨ob,on,om,hO,hob⟩
 ·have hv:v.vars=[]:=by rw[hnil]at hlen;exact bm hlen.symm
  subst hO
  simp only[uq,go_sem,rE,rA,rL,e1,gb,ho,a9]
  refine aO 0 (fun k E' H'=>E' 0=E 0/\E' 3=E 3/\E' 5=NIL/\E' 18=I 0/\E' 19=I k/\H'=H) ⟨rfl,rfl,e5,rfl,rfl,rfl⟩ ?_
  rintro k E' H' hk ⟨q0,q3,q5,q18,q19,rfl⟩
  have:k=0:=by omega
  subst this
  simp only[go_sem,rE,rA,rL,q18,q19,cS,Int.lt_irrefl]
  refine hK _ _ (by simp only[go_sem,rE,q0]) (by simp only[go_sem,rE,q3]) ?_ (fun d o hd _=>hd) ?_
  ·simp only[go_sem,rE,q5,hv];exact .inl ⟨rfl,rfl⟩
  ·simp only[go_sem,rE,q5];rintro d ⟨_,_,_,_,e⟩;simp at e
 ·subst hO
  have hms':∀d o,H.get d=some o->(∀f,o≠.map f)->d≠mo:=fun d o hd hn=>by rintro rfl;rw[gm]at hd;simp at hd;exact hn _ hd.symm
  have dbm:=hms' b _ gb (by simp)
  have dcm:=hms' c _ gc (by simp)
  have dsm:=hms' s _ ho (by simp)
  simp only[uq,go_sem,rE,rA,rL,e1,gb,ho,a9,hlen]
  refine aO v.vars.length (fun k E' H'=>(E' 0=E 0/\E' 3=E 3)/\E' 1=.ptr b 0/\E' 2=.ptr c 0/\E' 4=.mp mo/\E' 17=.sl 1 (some (ob,on,om)) (aD (v.vars.map (·.name)))/\E' 18=I v.vars.length/\E' 19=I k/\
   bN H' 1 (aD (cn (v.vars.take k) p).reverse) (E' 5)/\H'.get mo=some (.map (cO (cn (v.vars.take k) p)))/\(∀d o,H.get d=some o->d≠mo->H'.get d=some o)/\∀d,cu (E' 5) d->H.get d=none)
   ⟨⟨rfl,rfl⟩,e1,e2,e4,rfl,rfl,rfl,by simp only[go_sem,rE,e5];exact .inl ⟨rfl,rfl⟩,by rw[gm];simp only[List.take_zero,cn,List.foldl_nil,rp],fun d o hd _=>hd,by simp only[go_sem,rE,e5];rintro d ⟨_,_,_,_,e⟩;simp at e⟩ ?_
  rintro k E' H' hk ⟨⟨q0,q3⟩,q1,q2,q4,q17,q18,q19,qa,qm,kk,kt⟩
  simp only[go_sem,rE,rA,rL,q18,q19]
  refine aE (fun hlt=>?_) (fun hge=>?_)
  ·have hk1:k<v.vars.length:=by omega
   have w1:=aJ (n:=(k:Int)+1) (by omega) (by omega)
   have hg:=kl (ns:=v.vars.map (·.name)) (k:=k) (by simpa using hk1)
   rw[fO]at hg
   have hnm:cU v.vars v.vars[k].name=some (v.vars[k].ent (eY v.vars v.vars[k].name)):=by simp only[cU,oR hnd hk1,bO]
   have hsn:=oo (v.vars.take k) v.vars[k] p
   rw[<-aA hk1]at hsn
   have hbg:=kk b _ gb dbm
   have hsg:=kk s _ ho dsm
   have hcg:=kk c _ gc dcm
   have hmg:=kk m1 _ hE.names (Ne.symm hms)
   simp only[go_sem,rE,rA,rL,q1,q17,q19,hg,hbg,hsg,a9]
   refine fw (k:=v.vars[k].name) (g:=cU v.vars) rfl hmg trivial ?_
   simp only[hnm,iH,aq,if_false,Vr.ent]
   simp only[go_sem,rE,rA,rL]
   intro b8 hb8
   have kk8:∀(o':cP) d o,H.get d=some o->d≠mo->(H'.set b8 o').get d=some o:=fun o' d o hd hdm=>by
    have:=kk d o hd hdm
    rw[ae _ _ (al this hb8)];exact this
   have d8m:=al qm hb8
   have qm8:∀o',(H'.set b8 o').get mo=some (.map (cO (cn (v.vars.take k) p))):=fun o'=>(ae _ _ d8m).trans qm
   have qa8:∀o',bN (H'.set b8 o') 1 (aD (cn (v.vars.take k) p).reverse) (E' 5):=fun o'=>qa.new hb8 o'
   have hnin:v.vars[k].name∉cn (v.vars.take k) p:=fun hm=>by
    obtain⟨i,hi,e⟩:=mO _ p hm
    have hik:i<k:=by rw[bw]at hi;omega
    have hi2:i<v.vars.length:=by omega
    rw[List.getElem_take]at e
    have:=ra hnd hi2 hk1 e
    omega
   cases hdd:v.vars[k].dead
   ·cases hll:v.vars[k].lent
    ·have hsame:cn (v.vars.take (k+1)) p=cn (v.vars.take k) p:=by rw[hsn,hdd,hll];rfl
     simp only[go_sem,rE,rA,rL,q19,w1]
     exact⟨hk1,_,aj.sub_refl _,⟨q0,q3⟩,q1,q2,q4,q17,q18,rfl,by rw[hsame];exact qa8 _,by rw[hsame];exact qm8 _,kk8 _,kt⟩
    ·have hcg8:=kk8 (.cells [.sl 1 none (Ty.encs v.vars[k].type.kids),B v.vars[k].param,B true,B (!false),B (eY v.vars v.vars[k].name),.sl 2 none (v.vars[k].loans.map Pl.enc)]) c _ gc dcm
     have hxm:v.vars[k]∈v.vars:=aw hk1
     simp only[go_sem,rE,rA,rL,am]
     refine ken1_wp L (p:=p) (qs:=v.vars[k].loans) (nm:=v.vars[k].name) (Es:=cn (v.vars.take k) p) (mo:=mo) (c:=c) hp (hqp _ hxm) (hql _ hxm) (by simp only[go_sem,rE,q2]) (by simp only[go_sem,rE,q4]) (by simp only[go_sem,rE]) (by simp only[go_sem,rE]) (by simp only[go_sem,rE,am]) (by simp only[go_sem,rE]) hcg8 (qm8 _) ?_
     intro E2 H2 f0 f1 f2 f3 f4 f5 f7 f17 f18 f19 gm2 kk2
     simp only[go_sem,rE,rA]at f0 f1 f2 f3 f4 f5 f7 f17 f18 f19
     have hh:kC p (cn (v.vars.take k) p) v.vars[k].loans=(v.vars[k].loans.any fun q=>q.meet p||(cn (v.vars.take k) p).any fun m=>eqB m q.name):=rfl
     rw[<-hh]at hsn
     have kkH:∀d o,H.get d=some o->d≠mo->H2.get d=some o:=fun d o hd hdm=>kk2 d o (kk8 _ d o hd hdm) hdm
     have qa2:bN H2 1 (aD (cn (v.vars.take k) p).reverse) (E' 5):=(qa8 (.cells [.sl 1 none (Ty.encs v.vars[k].type.kids),B v.vars[k].param,B true,B (!false),B (eY v.vars v.vars[k].name),.sl 2 none (v.vars[k].loans.map Pl.enc)])).mono fun d hd=>by
      obtain⟨n,m,e⟩:=(qa8 (.cells [.sl 1 none (Ty.encs v.vars[k].type.kids),B v.vars[k].param,B true,B (!false),B (eY v.vars v.vars[k].name),.sl 2 none (v.vars[k].loans.map Pl.enc)])).tok hd
      have hdm:d≠mo:=by rintro rfl;rw[qm8]at e;simp at e
      rw[e];exact kk2 d _ e hdm
     simp only[go_sem,rE,rA,rL,f4,f7,q4]
     refine fw (k:=v.vars[k].name) (g:=cO (if kC p (cn (v.vars.take k) p) v.vars[k].loans then v.vars[k].name::cn (v.vars.take k) p else cn (v.vars.take k) p)) (by simp only[go_sem,rE,aT,bz,f4,f7,q4]) gm2 trivial ?_
     rw[rc]
     cases hhit:kC p (cn (v.vars.take k) p) v.vars[k].loans
     ·have hsame:cn (v.vars.take (k+1)) p=cn (v.vars.take k) p:=by rw[hsn,hdd,hll,hhit];rfl
      rw[hhit]at gm2
      have hany:((cn (v.vars.take k) p).any fun m=>eqB m v.vars[k].name)=false:=by
       cases h:(cn (v.vars.take k) p).any fun m=>eqB m v.vars[k].name with
       |false=>rfl
       |true=>
        obtain⟨m,hm,he⟩:=jl.1 h
        exact absurd (cw.1 he▸hm) hnin
      have h00:decide ((0:Int)>0)=false:=by decide
      simp only[aq,if_false,hany]
      simp only[go_sem,rE,rA,rL,h00,f19,q19,w1]
      refine⟨hk1,H2,aj.sub_refl _,⟨f0.trans q0,f3.trans q3⟩,f1.trans q1,f2.trans q2,f4.trans q4,f17.trans q17,f18.trans q18,rfl,?_,?_,kkH,?_⟩
      ·rw[hsame,f5];exact qa2
      ·rw[hsame];exact gm2
      ·rw[f5];exact kt
     ·have hsame:cn (v.vars.take (k+1)) p=v.vars[k].name::cn (v.vars.take k) p:=by rw[hsn,hdd,hll,hhit];rfl
      rw[hhit,if_pos rfl]at gm2
      have h10:decide ((1:Int)>0)=true:=by decide
      simp only[if_true,List.any_cons,dx,dT]
      simp only[go_sem,rE,rA,rL,h10,f5,f7,az,av,a6]
      have hel:(cn (v.vars.take k) p).length<=v.vars.length:=by
       have:=(jx p (v.vars.take k) [] (v.vars.map (·.name)) (by simp) fun x hx=>aY.2 ⟨x,bF hx,rfl⟩).2
       rw[bw]at this
       simp only[bU,cx]at this
       exact ce this (Nat.min_le_right _ _)
      refine dV (es:=aD (cn (v.vars.take k) p).reverse) (ys:=[[S v.vars[k].name]]) (by simp only[go_sem,rE,rA,rL];exact qa2) (by simp[go_sem,bh]) (by simp) (by simp[aD];omega) ?_
      intro x' H3 fp hx' hfp hkeep hnew
      simp only[go_sem,rE,rA,rL]at hkeep hnew
      have hmt:¬cu (E' 5) mo:=fun ht=>by obtain⟨n,m,e⟩:=qa2.tok ht;rw[gm2]at e;simp at e
      have hrow:aD (v.vars[k].name::cn (v.vars.take k) p).reverse=aD (cn (v.vars.take k) p).reverse++[[S v.vars[k].name]]:=by simp[aD]
      simp only[go_sem,rE,rA,rL,f19,q19,w1]
      refine⟨hk1,H3,aj.sub_refl _,⟨f0.trans q0,f3.trans q3⟩,f1.trans q1,f2.trans q2,f4.trans q4,f17.trans q17,f18.trans q18,rfl,?_,?_,?_,?_⟩
      ·rw[hsame,hrow];exact hx'
      ·rw[hsame,hkeep mo (by rw[gm2];simp) hmt];exact gm2
      ·intro d o hd hdm
       rw[hkeep d (by rw[kkH d o hd hdm];simp) (fun ht=>by rw[kt d ht]at hd;simp at hd)]
       exact kkH d o hd hdm
      ·intro d hd
       rcases hnew d hd with h|h
       ·exact kt d h
       ·cases hq:H.get d with
        |none=>rfl
        |some o=>
         by_cases hdm:d=mo
         ·subst hdm;rw[gm2]at h;simp at h
         ·rw[kkH d o hq hdm]at h;simp at h
   ·have hsame:cn (v.vars.take (k+1)) p=cn (v.vars.take k) p:=by rw[hsn,hdd];rfl
    simp only[go_sem,rE,rA,rL,q19,w1]
    exact⟨hk1,_,aj.sub_refl _,⟨q0,q3⟩,q1,q2,q4,q17,q18,rfl,by rw[hsame];exact qa8 _,by rw[hsame];exact qm8 _,kk8 _,kt⟩
  ·have hkk:k=v.vars.length:=by omega
   subst hkk
   rw[aQ]at qa qm
   simp only[go_sem,rE,rA,rL]
   exact hK _ _ (by simp only[go_sem,rE,q0]) (by simp only[go_sem,rE,q3]) (by simp only[go_sem,rE];exact qa) kk (by simp only[go_sem,rE];exact kt)
end
def x_ea0:aW:=rg [ef 0 3 (.box 0)]
def x_ea1:aW:=rg [ef 0 13 (.callX .mkMap []),mv 1 4 13]
def x_ea2:aW:=rg [mv 0 5 (.const (.slice none 0 0))]
def x_ea4(F:Ids):aW:=rg [mv 0 66 5,ca 1 67 61 [66]]
def x_ea5:aW:=rg [mv 0 12 69]
def x_ea6:aW:=rg ([ld 0 70 none 3,mv 1 71 12]++ef 2 72 (.callX .clos [70,71])::[pu 3 73 (.not 72)])
def xD(P:Program)(F:Ids):Prop:=∃fn i0 i1 i2 i4 i5 i6 b4 b5 o0 o1 o2 c3 o4 o5 o6,P.funcs[60]?=some fn/\fn.ntmps=74/\fn.results=#[]/\
 fn.body=some (.seq (.region i0 o0 false) (.seq (.region i1 o1 false) (.seq (.region i2 o2 false) (.seq c3 (.seq (.region i4 o4 false) (.block b4 (.rangeFunc (.tmp 67) #[68,69] (.region i5 o5 false) (.block b5 (.seq (.region i6 o6 false) (.cond (.tmp 73) .ret .skip))))))))))/\
 cX P 74 o0 false=some x_ea0/\cX P 74 o1 false=some x_ea1/\cX P 74 o2 false=some x_ea2/\eE P 74 c3=some (uq F)/\gQ P c3 (uq F)=true/\cX P 74 o4 false=some (x_ea4 F)/\cX P 74 o5 false=some x_ea5/\cX P 74 o6 false=some x_ea6
section
variable {P:Program}{F:Ids}{er:bX}
theorem tU(L:Lib P F){x:AC}(hx:x.cells?=some [x]):bA P 61 [x] .empty fun q H'=>∃b,q=.fn (.func 75) [] [.ptr b 0]/\H'=aj.empty.set b (.cells [x]):=by
 refine(L.a Tryz.func61 y61) (by simp[y61]) ?_
 simp only[y61,go_sem,rE,rA,hx]
 intro b hb
 exact ak (.refl _) (aj.sub_refl _) ⟨b,rfl,rfl⟩
theorem y0(H:aj){b:Nat}{o:cP}:H.swap .empty (aj.empty.set b o)=H.set b o:=by
 ext d:1
 rw[bD,aM,aM]
 by_cases h1:d=b
 ·simp[h1]
 ·simp[h1]
structure EndJ(Hr:aj)(B l l2:Nat)(pre:List ByteArray)(H':aj):Prop where
 l2n:H'.get l2=none
 l2B:l2≠B
 ln:H'.get l=none
 box:∃x',H'.get B=some (.cells [x'])/\bN H' 1 (aD pre) x'/\∀d,cu x' d->Hr.get d=none
 rest:∀d o,Hr.get d=some o->d≠B->H'.get d=some o
theorem Bs(L:Lib P F)(hC:xD P F)(hB1:mf P 75)(hgB:iS P 75=true){H:aj}{s:Nat}{v:Sc}{ORD HELD:AC}{m1 m2 b c B:Nat}{p:Pl}(hS:cE F er H s v ORD HELD m1 m2)(hnd:(v.vars.map (·.name)).Nodup)(hvl:v.vars.length<=2^30)(hp:p.path.length<=2^30)
(hqp:∀x∈v.vars,∀q∈x.loans,q.path.length<=2^30)(hql:∀x∈v.vars,x.loans.length<=2^30)(gb:H.get b=some (.cells [.ptr s 0]))(gc:H.get c=some (.cells p.enc))(hB:H.get B=none):
 ItC P 60 [.ptr b 0,.ptr c 0] (H.set B (.cells [NIL])) (fun _=>True) (BE B) (oB B) (AsEnd B (cn v.vars p) (H.set B (.cells [NIL]))):=by
 obtain⟨fn,i0,i1,i2,i4,i5,i6,b4,b5,o0,o1,o2,c3,o4,o5,o6,hf,hN,hres,hb,r0,r1,r2,r3,r3ok,r4,r5,r6⟩:=hC
 intro l o M w us hnc s0 hlo hln hcap _ hY
 refine callsIn_of_wp_marks hf hb trivial ?_ rfl
 rw[hN]
 have hr:gU M [.lit (.func (.yield l) #[] #[]),.ptr b 0,.ptr c 0] ((#[.func (.yield l) #[] #[]]++us.toArray:Array Value).toList):=by
  refine⟨by simp[<-hcap.1],fun j y v hy hv=>?_⟩
  match j,hy,hv with
  |0,hy,hv=>simp at hy hv;subst hy hv;exact .lit trivial
  |j+1,hy,hv=>exact hcap.2 j _ _ (by simpa using hy) (by simpa using hv)
 have hE:=mJ (N:=74) hr (by simp)
 simp only[Array.toArray_toList]at hE
 have hS0:cE F er (H.set B (.cells [NIL])) s v ORD HELD m1 m2:=hS.new hB _
 have gb0:(H.set B (.cells [NIL])).get b=some (.cells [.ptr s 0]):=by rw[ae _ _ (al gb hB)];exact gb
 have gc0:(H.set B (.cells [NIL])).get c=some (.cells p.enc):=by rw[ae _ _ (al gc hB)];exact gc
 have gB0:(H.set B (.cells [NIL])).get B=some (.cells [NIL]):=ai _ _ _
 generalize H.set B (.cells [NIL])=H0 at*
 refine oI (cD r0).1 (cD r0).2 hE s0 (K:=fun E' H'=>∃b3,H0.get b3=none/\E' 1=.ptr b 0/\E' 2=.ptr c 0/\E' 3=.ptr b3 0/\H'=H0.set b3 (.cells [.lit (.func (.yield l) #[] #[])])) ?_ ?_
 ·simp only[x_ea0,go_sem,rE,rA,show(AC.lit (Value.func (Fn.yield l) #[] #[])).cells?=some [.lit (.func (.yield l) #[] #[])]from rfl]
  intro b3 hb3
  exact⟨b3,hb3,rfl,rfl⟩
 rintro E1 H1 M1 a1 w1 ⟨b3,hb3,e1,e2,e3,rfl⟩ hE1 s1 t1 hd1
 refine oI (cD r1).1 (cD r1).2 hE1 s1 (K:=fun E' H'=>∃mo,(H0.set b3 (.cells [.lit (.func (.yield l) #[] #[])])).get mo=none/\E' 1=.ptr b 0/\E' 2=.ptr c 0/\E' 3=.ptr b3 0/\E' 4=.mp mo/\H'=(H0.set b3 (.cells [.lit (.func (.yield l) #[] #[])])).set mo (.map fun _=>none)) ?_ ?_
 ·simp only[x_ea1,go_sem,rE,rA]
  refine pz fun mo hmo=>?_
  simp only[go_sem,rE,rA,e1,e2,e3]
  exact⟨mo,hmo,rfl,rfl⟩
 rintro E2 H2 M2 a2 w2 ⟨mo,hmo,f1,f2,f3,f4,rfl⟩ hE2 s2 t2 hd2
 refine oI (cD r2).1 (cD r2).2 hE2 s2 (K:=fun E' H'=>E' 1=.ptr b 0/\E' 2=.ptr c 0/\E' 3=.ptr b3 0/\E' 4=.mp mo/\E' 5=NIL/\H'=(H0.set b3 (.cells [.lit (.func (.yield l) #[] #[])])).set mo (.map fun _=>none)) ?_ ?_
 ·simp only[x_ea2,go_sem,rE,rA,f1,f2,f3,f4,and_self]
 rintro E3 H3 M3 a3 w3 ⟨g1,g2,g3,g4,g5,rfl⟩ hE3 s3 t3 hd3
 have hb3m:b3≠mo:=al (ai _ _ _) hmo
 have hmo0:H0.get mo=none:=by rw[ae _ _ (Ne.symm hb3m)]at hmo;exact hmo
 have up:∀d o,H0.get d=some o->((H0.set b3 (.cells [.lit (.func (.yield l) #[] #[])])).set mo (.map fun _=>none)).get d=some o:=fun d o hd=>by
  rw[ae _ _ (al hd hmo0),ae _ _ (al hd hb3)];exact hd
 have gy:((H0.set b3 (.cells [.lit (.func (.yield l) #[] #[])])).set mo (.map fun _=>none)).get b3=some (.cells [.lit (.func (.yield l) #[] #[])]):=by rw[ae _ _ hb3m,ai]
 have gmo:((H0.set b3 (.cells [.lit (.func (.yield l) #[] #[])])).set mo (.map fun _=>none)).get mo=some (.map fun _=>none):=ai _ _ _
 have hm1:mo≠m1:=by rintro rfl;rw[hS0.names]at hmo0;simp at hmo0
 have hsz:=(di.1 hlo).1
 have hfr:∀{M':bT} {H':aj} {w':World},bK M H0 w M' H' w'->H'.get l=none:=fun t=>by
  rename_i M' H' w'
  cases h:H'.get l with
  |none=>rfl
  |some o'=>
   rcases t.fresh l (by rw[h];simp)with h'|h'
   ·exact absurd hln h'
   ·omega
 have hS3:=hS0.sub up
 have gb3:=up _ _ gb0
 have gc3:=up _ _ gc0
 have gB3:=up _ _ gB0
 generalize hH3:((H0.set b3 (.cells [.lit (.func (.yield l) #[] #[])])).set mo (.map fun _=>none))=H3 at*
 have hBmo:B≠mo:=al gB0 hmo0
 refine oI r3 r3ok hE3 s3 (K:=fun E' H'=>E' 3=.ptr b3 0/\bN H' 1 (aD (cn v.vars p).reverse) (E' 5)/\(∀d o,H3.get d=some o->d≠mo->H'.get d=some o)/\∀d,cu (E' 5) d->H3.get d=none) ?_ ?_
 ·exact ea3_wp L hS3 hnd hvl hp hqp hql gb3 (by rw[gc3,Pl.enc]) gmo hm1 g1 g2 g4 g5 fun E' H' h0 h3 h5 hk ht=>⟨h3.trans g3,h5,hk,ht⟩
 rintro E4 H4 M4 a4 w4 ⟨k3,k5,kk,kt⟩ hE4 s4 t4 hd4
 refine oI (cD r4).1 (cD r4).2 hE4 s4 (K:=fun E' H'=>∃bs,H4.get bs=none/\E' 3=.ptr b3 0/\E' 67=.fn (.func 75) [] [.ptr bs 0]/\H'=H4.set bs (.cells [E4 5])) ?_ ?_
 ·simp only[x_ea4,go_sem,rE,rA,k3]
  refine dY (tU L (x:=E4 5) k5.one) (by simp only[go_sem,rE,aT,bz]) (aj.sub_empty _) (fun h=>by simp at h) trivial ?_
  rintro q H5 ⟨bs,rfl,rfl⟩ hnew
  rw[y0]
  have hbs:=hnew bs (by rw[ai];simp) rfl
  simp only[go_sem,rE,rA,k3]
  exact⟨bs,hbs,rfl,rfl⟩
 rintro E5 H5 M5 a5 w5 ⟨bs,hbs,n3,n67,rfl⟩ hE5 s5 t5 hd5
 have t05:bK M H0 w M5 (H4.set bs (.cells [E4 5])) w5:=(((t1.trans t2).trans t3).trans t4).trans t5
 have hd5':a5.defers=[]:=by rw[hd5,hd4,hd3,hd2,hd1]
 have hx5:bN (H4.set bs (.cells [E4 5])) 1 (aD (cn v.vars p).reverse) (E4 5):=k5.new hbs _
 have keep4:∀d o,H4.get d=some o->(H4.set bs (.cells [E4 5])).get d=some o:=fun d o hd=>by rw[ae _ _ (al hd hbs)];exact hd
 have gyr:(H4.set bs (.cells [E4 5])).get b3=some (.cells [.lit (.func (.yield l) #[] #[])]):=keep4 _ _ (kk _ _ gy hb3m)
 have gBr:(H4.set bs (.cells [E4 5])).get B=some (.cells [NIL]):=keep4 _ _ (kk _ _ gB3 hBmo)
 have gbs:(H4.set bs (.cells [E4 5])).get bs=some (.cells [E4 5]):=ai _ _ _
 have hbsB:bs≠B:=by rintro rfl;have:=keep4 bs _ (kk _ _ gB3 hBmo);have h4:=kk _ _ gB3 hBmo;rw[h4]at hbs;simp at hbs
 have hb3B:b3≠B:=by rintro rfl;rw[gB0]at hb3;simp at hb3
 have restR:∀d o,H0.get d=some o->d≠B->(H4.set bs (.cells [E4 5])).get d=some o:=fun d o hd _=>keep4 _ _ (kk _ _ (up _ _ hd) (al hd hmo0))
 have hlB:l≠B:=by rintro rfl;rw[hln]at gB0;simp at gB0
 have hlr:(H4.set bs (.cells [E4 5])).get l=none:=hfr t05
 have hsz5:l<w5.heap.size:=Nat.lt_of_lt_of_le hsz t05.size
 have hlo5:w5.heap[l]?=some o:=by rw[(t05.same l hsz hln).1];exact hlo
 generalize hHr:H4.set bs (.cells [E4 5])=Hr at*
 refine wpIn_block ?_
 have hrep:=hE5.rep 67
 rw[n67]at hrep
 obtain⟨us2,hus,hcap2⟩:=Ak hrep
 have hE5':cC 74 M5 E5 {tmps:=a5.tmps,defers:=[]}:=⟨hE5.size,hE5.rep⟩
 have hLl:(cn v.vars p).reverse.length<=2^30:=by
  have:=(jx p v.vars [] (v.vars.map (·.name)) (by simp) fun x hx=>aY.2 ⟨x,hx,rfl⟩).2
  rw[List.length_reverse]
  simp only[bU,cx]at this
  exact ce this hvl
 refine xX (ps:=[68,69]) (us:=us2) (cap:=[.ptr bs 0]) (Pre:=fun l2 xs H'=>∃pre i n,xs=[I i,S n]/\EndJ Hr B l l2 pre H'/\pre.length<=2^30)
  (lu:=fun l2 xs H' H''=>(∀i n,xs=[I i,S n]->oB B l [S n] H' H'')/\H''.get l2=none/\H''.get l=none) hE5 s5 (by simpa[Act.eval]using hus) hgB hcap2
  (vE hB1 (bs:=bs) (x:=E4 5) (L:=(cn v.vars p).reverse) hx5 hLl (J:=EndJ Hr B l) ?_ ?_ ?_ ?_ ?_) (Sx:=fun w'=>w'.heap[l]?=some o) ?_ ?_ ?_
 ·intro l2 h
  exact⟨h,by rintro rfl;rw[gBr]at h;simp at h,hlr,⟨NIL,gBr,.inl ⟨rfl,rfl⟩,fun d ⟨_,_,_,_,e⟩=>by simp at e⟩,fun d o hd _=>hd⟩
 ·intro l2 pre H' hj
  exact hj.rest _ _ gbs hbsB
 ·intro l2 pre n i H' hj hl
  exact⟨pre,i,n,rfl,hj,by omega⟩
 ·rintro l2 pre n i H' H'' hj hl ⟨hP,h1,h2⟩
  obtain⟨x',hx1,hx2,hx3⟩:=hj.box
  obtain⟨x2,y1,y2,y3,y4⟩:=hP i n rfl n pre x' rfl hx1 hx2
  have nt:∀d o,Hr.get d=some o->¬cu x' d:=fun d o hd ht=>by rw[hx3 d ht]at hd;simp at hd
  refine⟨h1,hj.l2B,h2,⟨x2,y1,y2,fun d hd=>?_⟩,fun d o hd hdB=>y3 d o (hj.rest d o hd hdB) hdB (nt d o hd)⟩
  rcases y4 d hd with h|h
  ·exact hx3 d h
  ·cases hq:Hr.get d with
   |none=>rfl
   |some o'=>
    by_cases hdB:d=B
    ·subst hdB;rw[hx1]at h;simp at h
    ·rw[hj.rest d o' hq hdB]at h;simp at h
 ·intro l2 pre H' hj;exact hj.l2n
 ·intro M' H' w' t
  show w'.heap[l]?=some o
  rw[(t.same l hsz5 hlr).1];exact hlo5
 ·
  intro l2 D fid hl2 ro n xs H' hpre
  have hl2l:l≠l2:=by omega
  refine(qw (N:=74) (Sx:=fun w'=>w'.heap[l]?=some o) (Pre:=fun xs H'=>∃pre i n,xs=[I i,S n]/\EndJ Hr B l l2 pre H'/\pre.length<=2^30)
   (lu:=fun xs H' H''=>(∀i n,xs=[I i,S n]->oB B l [S n] H' H'')/\H''.get l2=none/\H''.get l=none)
   (EA:=fun xs=>(E5.puts [68,69] xs).put (some 12) ((E5.puts [68,69] xs) 69)) hE5' (by simp) ?_ ?_ ?_ ?_ ?_ ro n xs H' hpre)
  ·intro w' r h
   rw[World.putObj_heap_other hl2l];exact h
  ·rintro M' H' w' M'' H'' w'' - h t ⟨xs',pre',i',n',-,hj,-⟩
   rw[(t.same l (di.1 h).1 hj.ln).1];exact h
  ·rintro xs' H' ⟨pre',i',n',rfl,hj,-⟩
   exact⟨rfl,hj.l2n⟩
  ·rintro n xs' H' M1 w1 a1 hle hE1 s1 -
   refine mD r5 hE1 s1 ?_
   simp only[x_ea5,go_sem,rE,rA,and_self]
  ·rintro n xs' H' M1 w1 a1 hle hE1 s1 ⟨pre',i',n',rfl,hj,hpl⟩ hx hlw
   have hyl:=hj.rest _ _ gyr hb3B
   have hlw1:l<w1.heap.size:=(di.1 hx).1
   obtain⟨x',hbx1,hbx2,hbx3⟩:=hj.box
   refine wpIn_block (wpIn_seq (wpIn_mono (uB (ro:=some l2) (Sd:=fun w=>w.heap[l]?=some o) (K:=fun e E' H''=>e=.normal/\E' 73=.lit (.bool false)/\oB B l [S n'] H' H'') r6 hE1 s1 (by simp) (fun M' H'' w' t=>?_) ?_) ?_))
   ·rw[(t.same l hlw1 hj.ln).1];exact hx
   ·have hYC:=hY (some l2) (n - 1) [S n'] H' ⟨hj.ln,hlB,n',pre',x',rfl,hbx1,hbx2,hpl⟩
    simp only[Env.puts,go_sem,rE,rA,n3,hyl,a9]
    exact⟨l,[S n'],_,rfl,(hYC.later (bT.le_trans t05.le hle)).side fun _ h=>⟨h,trivial⟩,fun _ h=>h⟩
   ·rintro e a2 w2 ⟨xe,E2,H2,M2,he,⟨rfl,q73,hpost⟩,hE2,s2,t2,hd2⟩
    cases e<;>simp[dP]at he
    have hr73:=hE2.rep 73
    rw[q73]at hr73
    have hfr2:∀d,d<w1.heap.size->H'.get d=none->H2.get d=none:=fun d hd hn=>by
     cases h:H2.get d with
     |none=>rfl
     |some o'=>
      rcases t2.fresh d (by rw[h];simp)with h'|h'
      ·exact absurd hn h'
      ·omega
    refine wpIn_cond_false (by rw[<-kV hr73];rfl) (wpIn_skip ?_)
    refine⟨.normal,E2,H2,M2,rfl,⟨rfl,fun i n e=>?_,hfr2 l2 hlw hj.l2n,hfr2 l hlw1 hj.ln⟩,hE2,s2,t2,hd2⟩
    simp only[List.cons.injEq,AC.lit.injEq,Value.string.injEq,and_true]at e
    rw[<-e.2];exact hpost
 ·rintro D M6 H6 w6 hD ⟨l2,hj⟩ s6 t6 hDn hDr
  rw[List.reverse_reverse]at hj
  have s7:=s6.putRec hDr (fun a b c h=>by cases h) hDn (.deferred none)
  have hE6:cC 74 M6 E5 {a5 with defers:={target:=.collected D,args:=#[]}::a5.defers}:=⟨hE5.size,fun n=>(hE5.rep n).mono t6.le⟩
  obtain⟨v,hv,hrv⟩:=j7 (P:=P) (fn:=fn) (rs:=[]) (by rw[hres];rfl) hE6 s7 (q:=.tup []) rfl
  show LeavesInM _ _ _ _ _ _ _ .returning w6
  refine re (a:={a5 with defers:={target:=.collected D,args:=#[]}::a5.defers}) (by rw[hd5']) hDr hv ?_
  obtain⟨x',y1,y2,y3⟩:=hj.box
  have t:=t05.trans t6
  refine⟨⟨v,rfl⟩,M6,H6,s7,⟨t.le,by rw[World.putObj_size];exact t.size,fun b hb' hn=>?_,t.fresh,t.io.trans (uV _ _ _)⟩,x',y1,y2,fun d o hd hdB=>hj.rest d o (restR d o hd hdB) hdB⟩
  have:w.heap.size<=w5.heap.size:=t05.size
  rw[World.putObj_heap_other (by omega)]
  exact t.same b hb' hn
end
section
variable {P:Program}{F:Ids}{er:bX}
theorem xr(L:Lib P F)(hA:nf P 59)(hE:xD P F)(hB:mf P 75)(g1:iS P 75=true)(g2:iS P 60=true):eJ P F er:=by
 intro H s v ORD HELD m1 m2 b c p hS hnd hvl hp hqp hql gb gc
 refine(L.a Tryz.func38 y38) (by simp[y38]) ?_
 simp only[y38,go_sem,rE,rA]
 refine dY (tV hA (gf:=60) (cap:=[.ptr b 0,.ptr c 0]) g2 (cn v.vars p) H fun B hB0=>Bs L hE hB g1 hS hnd hvl hp hqp hql gb gc hB0) ?_ (aj.sub_refl _) (fun h=>by simp at h) trivial ?_
 ·simp only[go_sem,rE,aT,bz]
 rintro q H' ⟨rfl,rfl⟩ -
 simp only[go_sem,rE,rA,iz]
 exact ak (.refl _) (aj.sub_refl _) ⟨rfl,rfl⟩
end
theorem sE{P:Program}{f:FuncId}{sz:Nat}{H:aj}{R:AC->aj->Prop}(h:∀a c,bA P f [.lit (.slice a 0 c)] H R):bA P f [.sl sz none []] H R:=by
 intro M w vs s r
 match vs,r with
 |[v],r=>
  have h0:=r.2 0 _ v rfl rfl
  have:∃a c,v=.slice a 0 c:=by cases h0<;>exact⟨_,_,rfl⟩
  obtain⟨a,c,rfl⟩:=this
  exact h a c M w _ s (gU.cons (.lit trivial) (gU.nil _))
 |[],r=>exact absurd r.1 (by simp)
 |_::_::_,r=>exact absurd r.1 (by simp)
section
variable {P:Program}{F:Ids}{er:bX}
theorem vH(L:Lib P F)(p:List Int)(hl:p.length<=2^31):cJ P 51 [au p] (au p):=by
 have key:∀(x:AC) (b:Bool),qo (.slice none 0 0) x=some b->(b=true->p=[])->(∀H,gS H 1 x=some (p.map fun i=>[I i]))->bA P 51 [x] .empty fun q H'=>q=au p/\H'=.empty:=by
  intro x b h0 hb hx
  refine(L.a Tryz.func51 y51) (by simp[y51]) ?_
  simp only[y51,go_sem,rE,rA,rL,h0,bO]
  cases b with
  |true=>
   obtain rfl:=hb rfl
   simp only[go_sem,rE,rA,rL,aq]
   exact ak (.nil 1) (aj.sub_refl _) ⟨rfl,rfl⟩
  |false=>
   simp only[go_sem,rE,rA,rL,aq,az,a6]
   intro c hc
   refine dV (es:=[]) (ys:=p.map fun i=>[I i]) (.inr ⟨c,0,0,rfl,ai _ _ _⟩) (by simp only[go_sem,rE];exact hx _) (by simp) (by simp;omega) ?_
   intro x' H3 fp hx' hfp hkeep hnew
   simp only[go_sem,rE,rA,rL]
   exact ak (q':=au p) hx'.le (aj.sub_empty _) ⟨rfl,rfl⟩
 cases p with
 |nil=>
  refine sE fun a c=>?_
  cases a with
  |none=>exact key _ true rfl (fun _=>rfl) fun H=>qd _ _ _ _
  |some a=>exact key _ false rfl (fun h=>by simp at h) fun H=>qd _ _ _ _
 |cons i p=>exact key _ false rfl (fun h=>by simp at h) fun H=>rfl
theorem vu(L:Lib P F)(p:Pl)(hl:p.path.length<=2^31):cJ P 31 [.agg p.enc] (.agg p.enc):=by
 refine(L.a Tryz.func31 y31) (by simp[y31]) ?_
 simp only[y31,go_sem,rE,rA,rL,Pl.enc]
 intro b1 hb1 b2 hb2
 have d12:=al (ai _ _ _) hb2
 simp only[go_sem,rE,rA,rL,d12]
 refine ao (vH L p.path hl) rfl ?_
 simp only[go_sem,rE,rA,rL,d12,au]
 exact bV (off:=0) rfl (ai _ _ _) rfl (.refl _) (aj.sub_empty _) ⟨rfl,rfl⟩
end
theorem LeR.append:∀{a b c d:List (List AC)},LeR a b->LeR c d->LeR (a++c) (b++d)
 |[],[],_,_,_,h=>h
 |x::a,y::b,_,_,h,h'=>⟨h.1,LeR.append h.2 h'⟩
def fH(vs:List Vr):List (List AC):=(sR vs).map eZ
noncomputable def oN(p:Pg)(fn n:Int):List Vr:=match atS p fn n with|none=>[]|some v=>sR v.vars
def mg(l:List Vr):List (List AC):=(l.filter fun x=>x.lent&&!x.param).map eZ
theorem wL(l:List Vr)(x:Vr):mg (l++[x])=if x.lent=true/\x.param=false then mg l++[eZ x]else mg l:=by
 unfold mg
 rw[List.filter_append,bv]
 cases h:x.lent<;>cases h':x.param<;>simp[h,h']
theorem yR(vs:List Vr):mg (vs.filter fun x=>!x.dead)=fH vs:=by
 unfold mg fH sR
 rw[List.filter_filter]
 congr 1
 apply List.filter_congr
 intro x _
 cases h:x.lent<;>cases h':x.param<;>cases h2:x.dead<;>simp[kA,h,h',h2]
section
variable {P:Program}{F:Ids}{er:bX}
theorem z8(L:Lib P F)(T:Tys F)(hC:eJ P F er)(p:Pg)(hc:p.small)(fn n:Int)(H:aj)(he:eX F er H):
 bA P 13 [.agg (Pg.enc p),I fn,I n] H fun q H'=>q=.sl 2 none ((oN p fn n).map eZ)/\H'=H:=by
 refine(L.a Tryz.func13 y13) (by simp[y13]) ?_
 have hat:=fun H1 he1=>c_kAt (er:=er) L T hC p hc fn n H1 he1
 simp only[Pg.enc]at hat
 simp only[y13,go_sem,rE,rA,rL,Pg.enc]
 intro b3 hb3
 have k3:∀c o,H.get c=some o->(H.set b3 (.cells [.sl 12 none (p.map Fu.enc)])).get c=some o:=fun c o hc=>by rw[ae _ _ (al hc hb3)];exact hc
 have he3:eX F er (H.set b3 (.cells [.sl 12 none (p.map Fu.enc)])):=fun c hc=>k3 _ _ (he c hc)
 generalize H.set b3 _=H3 at*
 refine dY (hat H3 he3) rfl (aj.sub_refl _) (fun h=>by simp at h) trivial ?_
 intro q H4 hr _
 rw[fP]
 cases ha:atS p fn n with
 |none=>
  rw[ha]at hr
  obtain⟨rfl,rfl⟩:=hr
  simp only[go_sem,rE,rA,rL,a9,aB]
  exact ak (.nil 2) (fun b o hb=>k3 b o hb) ⟨by simp only[oN,ha];rfl,rfl⟩
 |some v=>
  rw[ha]at hr
  obtain⟨s,ORD,HELD,m1,m2,rfl,hS,hR⟩:=hr
  obtain⟨pi,st⟩:=vM ha
  have hg:=st.good
  simp only[go_sem,rE,rA,rL,a9,aB]
  refine cW (tS L s v st.good.nd st.good.len) hS (by simp only[go_sem,rE,aT,bz]) (.refl _) (fun h=>by simp at h) trivial ?_
  rintro q w ORD2 HELD2 H5 fp ⟨rfl,hwv⟩ hS5 hfr -
  rw[hwv]at hS5
  clear hwv
  have hsub:H.sub H5:=fun b o hb=>(hR.step hfr).sub he3 hS5 b o (k3 b o hb)
  have hls:(oN p fn n).map eZ=mg (v.vars.filter fun x=>!x.dead):=by rw[yR];simp only[oN,ha,fH]
  rw[hls]
  have hws:∀x∈v.vars.filter (fun x=>!x.dead),x∈v.vars:=fun x hx=>(cA.1 hx).1
  have hlw:(v.vars.filter fun x=>!x.dead).length<=v.vars.length:=fL _ _
  have hln:jG v.vars=(v.vars.filter fun x=>!x.dead).map (·.name):=rfl
  rw[hln]
  have hfind:∀x∈v.vars,v.vars.find? (fun y=>eqB y.name x.name)=some x:=fun x hx=>by
   obtain⟨k,hk,rfl⟩:=aZ.1 hx
   exact oR hg.nd hk
  have ho:=hS5.obj
  have h1:=hS5.names
  simp only[ScO]at ho
  clear hS hR hat
  have hdead:∀x∈v.vars.filter (fun x=>!x.dead),x.dead=false:=fun x hx=>by have:=(cA.1 hx).2;simpa using this
  generalize(v.vars.filter fun x=>!x.dead)=ws at*
  have hlen:(aD (ws.map (·.name))).length=ws.length:=by simp[aD]
  simp only[go_sem,rE,rA,rL,hlen]
  refine aO ws.length (fun k E' H'=>E' 7=.ptr s 0/\E' 26=.sl 1 none (aD (ws.map (·.name)))/\E' 27=I ws.length/\E' 28=I k/\(∃rs,bN H' 2 rs (E' 9)/\LeR rs (mg (ws.take k)))/\
   (∀c,H5.get c≠none->H'.get c=H5.get c)/\∀c,cu (E' 9) c->H5.get c=none) ⟨rfl,rfl,rfl,rfl,⟨[],.inl ⟨rfl,rfl⟩,trivial⟩,fun _ _=>rfl,fun c ⟨_,_,_,_,e⟩=>by simp[fV,lx]at e⟩ ?_
  rintro k E' H' hk ⟨q7,q26,q27,q28,⟨rs,qa,ql⟩,kk,kt⟩
  have gs:H'.get s=_:=(kk s (by rw[ho];simp)).trans ho
  have gm:H'.get m1=_:=(kk m1 (by rw[h1];simp)).trans h1
  simp only[go_sem,rE,rA,rL,q27,q28]
  refine aE (fun hlt=>?_) (fun hge=>?_)
  ·have hk1:k<ws.length:=by omega
   have w1:=aJ (n:=(k:Int)+1) (by omega) (by have:=hg.len;omega)
   have hgn:=kl (ns:=ws.map (·.name)) (k:=k) (by simpa using hk1)
   rw[fO]at hgn
   have hx:=hws _ (aw hk1)
   have hsn:=wL (ws.take k) ws[k]
   rw[<-aA hk1]at hsn
   have hnm:cU v.vars ws[k].name=some (ws[k].ent (eY v.vars ws[k].name)):=by simp only[cU,hfind _ hx,bO]
   have hnd:=hdead _ (aw hk1)
   have hll:=hg.ll _ hx
   have hlp:=hg.lp _ hx
   generalize ws[k]=x at*
   simp only[go_sem,rE,rA,rL,q7,q26,q28,hgn,gs]
   refine fw (k:=x.name) (g:=cU v.vars) rfl gm trivial ?_
   simp only[hnm,iH,aq,if_false,Vr.ent,hnd,kK]
   simp only[go_sem,rE,rA,rL]
   intro b12 hb12
   have k12:∀c,H5.get c≠none->c≠b12:=fun c hc e=>by subst e;rw[kk c hc]at hb12;exact hc hb12
   have qa12:∀o,bN (H'.set b12 o) 2 rs (E' 9):=fun o=>qa.new hb12 o
   have t12:¬cu (E' 9) b12:=fun ht=>by obtain⟨n,m,e⟩:=qa.tok ht;rw[hb12]at e;simp at e
   have g12:=ai H' b12 (.cells [.sl 1 none (Ty.encs x.type.kids),B x.param,B x.lent,B true,B (eY v.vars x.name),.sl 2 none (x.loans.map Pl.enc)])
   have kk12:∀c,H5.get c≠none->(H'.set b12 (.cells [.sl 1 none (Ty.encs x.type.kids),B x.param,B x.lent,B true,B (eY v.vars x.name),.sl 2 none (x.loans.map Pl.enc)])).get c=H5.get c:=fun c hc=>by rw[ae _ _ (k12 c hc)];exact kk c hc
   have qa:=qa12 (.cells [.sl 1 none (Ty.encs x.type.kids),B x.param,B x.lent,B true,B (eY v.vars x.name),.sl 2 none (x.loans.map Pl.enc)])
   generalize(H'.set b12 (.cells [.sl 1 none (Ty.encs x.type.kids),B x.param,B x.lent,B true,B (eY v.vars x.name),.sl 2 none (x.loans.map Pl.enc)]))=H6 at*
   have skip:¬(x.lent=true/\x.param=false)->mg (ws.take (k+1))=mg (ws.take k):=fun h=>by rw[hsn,if_neg h]
   cases hle:x.lent with
   |false=>
    rw[hle]at g12
    simp only[go_sem,rE,rA,rL,q7,q26,q28,g12,w1]
    exact⟨hk1,H6,aj.sub_refl _,q27,rfl,⟨rs,qa,by rw[skip (by simp[hle])];exact ql⟩,kk12,kt⟩
   |true=>
   rw[hle]at g12
   cases hpa:x.param with
   |true=>
    rw[hpa]at g12
    simp only[go_sem,rE,rA,rL,q7,q26,q28,g12,w1]
    exact⟨hk1,H6,aj.sub_refl _,q27,rfl,⟨rs,qa,by rw[skip (by simp[hpa])];exact ql⟩,kk12,kt⟩
   |false=>
   rw[hpa]at g12
   simp only[go_sem,rE,rA,rL,q7,q26,q28,g12]
   intro b13 hb13
   have d1213:=al g12 hb13
   have hn13:H5.get b13=none:=by
    cases h:H5.get b13 with
    |none=>rfl
    |some o=>have:=kk12 b13 (by rw[h];simp);rw[hb13,h]at this;simp at this
   have qa:=qa.new hb13 (.cells [S x.name,NIL])
   have t13:¬cu (E' 9) b13:=fun ht=>by obtain⟨n,m,e⟩:=qa.tok ht;rw[ai]at e;simp at e
   have g12:(H6.set b13 (.cells [S x.name,NIL])).get b12=_:=(ae _ _ d1213).trans g12
   have g13:(H6.set b13 (.cells [S x.name,NIL])).get b13=_:=ai _ _ _
   have kk13:∀c,H5.get c≠none->(H6.set b13 (.cells [S x.name,NIL])).get c=H5.get c:=fun c hc=>by rw[ae _ _ (by rintro rfl;exact hc hn13)];exact kk12 c hc
   generalize(H6.set b13 (.cells [S x.name,NIL]))=H7 at*
   simp only[go_sem,rE,rA,rL,g12,am]
   refine aO x.loans.length (fun j E2 H2=>E2 7=.ptr s 0/\E2 9=E' 9/\E2 13=.ptr b13 0/\E2 26=.sl 1 none (aD (ws.map (·.name)))/\E2 27=I ws.length/\E2 28=I k/\E2 48=.sl 2 none (x.loans.map Pl.enc)/\E2 49=I x.loans.length/\E2 50=I j/\
    (∃X,H2.get b13=some (.cells [S x.name,X])/\bN H2 2 ((x.loans.take j).map Pl.enc) X/\∀c,cu X c->H7.get c=none)/\∀c,H7.get c≠none->c≠b13->H2.get c=H7.get c)
    ⟨q7,rfl,rfl,q26,q27,q28,rfl,rfl,rfl,⟨NIL,g13,.inl ⟨rfl,rfl⟩,fun c ⟨_,_,_,_,e⟩=>by simp at e⟩,fun _ _ _=>rfl⟩ ?_
   rintro j E2 H2 hj ⟨r7,r9,r13,r26,r27,r28,r48,r49,r50,⟨X,gX,aX,tX⟩,kX⟩
   simp only[go_sem,rE,rA,rL,r49,r50]
   have qa2:bN H2 2 rs (E' 9):=qa.mono fun c hc=>kX c (by obtain⟨n,m,e⟩:=qa.tok hc;rw[e];simp) (by rintro rfl;exact t13 hc)
   refine aE (fun hlt2=>?_) (fun hge2=>?_)
   ·have hj1:j<x.loans.length:=by omega
    have w2:=aJ (n:=(j:Int)+1) (by omega) (by omega)
    have hgp:(x.loans.map Pl.enc)[j]?=some [S x.loans[j].name,au x.loans[j].path]:=by simp[hj1,Pl.enc]
    have hcp:=vu L x.loans[j] (by have:=hlp _ (aw hj1);omega)
    simp only[Pl.enc]at hcp
    have htk:(x.loans.take (j+1)).map Pl.enc=(x.loans.take j).map Pl.enc++[x.loans[j].enc]:=by rw[aA hj1,bv];rfl
    simp only[Pl.enc]at htk
    generalize x.loans[j]=y at*
    simp only[go_sem,rE,rA,rL,r48,r50,hgp]
    intro b15 hb15
    have d1315:=al gX hb15
    have gX2:=fun o=>(ae H2 o d1315).trans gX
    simp only[go_sem,rE,rA,rL,r13,gX2]
    refine ao hcp rfl ?_
    simp only[go_sem,rE,rA,rL,r13,gX2,az,av,a6]
    refine dV (es:=(x.loans.take j).map Pl.enc) (ys:=[[S y.name,au y.path]]) (by simp only[go_sem,rE,rA,rL];exact aX.new hb15 _) (by simp[go_sem,bh]) (by simp) (by simp;omega) ?_
    intro x' H8 fp hx' hfp hkeep hnew
    simp only[go_sem,rE,rA,rL]at hkeep hnew
    have nX:∀c,H7.get c≠none->¬cu X c:=fun c hc h=>hc (tX c h)
    have g8:H8.get b13=some (.cells [S x.name,X]):=by rw[hkeep b13 (by rw[gX2];simp) (nX b13 (by rw[g13];simp))];exact gX2 _
    have hx8:∀c,cu x' c->H7.get c=none/\c≠b13:=fun c hc=>by
     have e0:H7.get c=none:=by
      rcases hnew c hc with h|h
      ·exact tX c h
      ·cases hq:H7.get c with
       |none=>rfl
       |some o=>
        exfalso
        by_cases hcb:c=b13
        ·subst hcb;rw[gX2]at h;simp at h
        have hc2:=kX c (by rw[hq];simp) hcb
        have hne:c≠b15:=by rintro rfl;rw[hb15,hq]at hc2;simp at hc2
        rw[ae _ _ hne,hc2,hq]at h;simp at h
     exact⟨e0,by rintro rfl;rw[g13]at e0;simp at e0⟩
    simp only[go_sem,rE,rA,rL,r13,g8,hx'.one,r50,w2]
    have nb:¬cu x' b13:=fun h=>(hx8 b13 h).2 rfl
    have hx9:∀o,bN (H8.set b13 o) 2 ((x.loans.take (j+1)).map Pl.enc) x':=fun o=>by
     rw[htk]
     exact hx'.mono fun c hc=>ae _ _ (hx8 c hc).2
    refine⟨hj1,_,aj.sub_refl _,r7,r9,r26,r27,r28,r48,r49,rfl,⟨x',ai _ _ _,hx9 _,fun c hc=>(hx8 c hc).1⟩,fun c hc hne=>?_⟩
    rw[ae _ _ hne,hkeep c ?_ (nX c hc),ae _ _ ?_]
    ·exact kX c hc hne
    ·rintro rfl;rw[kX c hc hne]at hb15;exact hc hb15
    ·rw[ae _ _ (by rintro rfl;rw[kX c hc hne]at hb15;exact hc hb15),kX c hc hne];exact hc
   ·have hjj:j=x.loans.length:=by omega
    subst hjj
    rw[aQ]at aX
    simp only[go_sem,rE,rA,rL,r7,r9,r13,r26,r28,gX,az,av,a6]
    refine dV (es:=rs) (ys:=[[S x.name,X]]) (by simp only[go_sem,rE,rA,rL];exact qa2) (by simp[go_sem,bh]) (by simp) (by
     have h1:=ql.length
     have h2:(mg (ws.take k)).length<=ws.length:=by
      unfold mg
      rw[am]
      exact ce (fL _ _) (by rw[bw];omega)
     have:=hg.len
     simp;omega) ?_
    intro x' H8 fp hx' hfp hkeep hnew
    simp only[go_sem,rE,rA,rL]at hkeep hnew
    simp only[go_sem,rE,rA,rL,r28,w1]
    have k2:∀c,H5.get c≠none->H2.get c=H5.get c:=fun c hc=>by
     have:=kk13 c hc
     rw[kX c (by rw[this];exact hc) (by rintro rfl;exact hc hn13),this]
    refine⟨hk1,H8,aj.sub_refl _,r7,r26,r27,rfl,⟨_,hx',by rw[hsn,if_pos ⟨hle,hpa⟩];exact ql.append ⟨⟨⟨.refl _,rfl⟩,⟨aX.le,rfl⟩,trivial⟩,trivial⟩⟩,fun c hc=>?_,fun c hc=>?_⟩
    ·rw[hkeep c (by rw[k2 c hc];exact hc) (fun h=>hc (kt c h))];exact k2 c hc
    ·rcases hnew c hc with h|h
     ·exact kt c h
     ·cases hq:H5.get c with
      |none=>rfl
      |some o=>rw[k2 c (by rw[hq];simp),hq]at h;simp at h
  ·have hkk:k=ws.length:=by omega
   subst hkk
   rw[aQ]at ql
   simp only[go_sem,rE,rA,rL]
   refine ak (Le.trans qa.le (.slR ql)) (fun b o hb=>?_) ⟨rfl,rfl⟩
   have:=hsub b o hb
   rw[kk b (by rw[this];simp)];exact this
end
theorem sk(l:List Vr)(x:Vr):fH (l++[x])=if kA x then fH l++[eZ x]else fH l:=by
 unfold fH sR
 rw[List.filter_append,bv]
 cases h:kA x<;>simp[h]
section
variable {P:Program}{F:Ids}
theorem zj(L:Lib P F){p:Pg}(hf:p.fit)(hpl:p.length<=2^20)(fn n:Int):bA P 12 [.agg (Pg.enc p),I fn,I n] .empty fun q H'=>q=.sl 2 none (match jc p fn n with|none=>[]|some e=>fH e.vars)/\H'=.empty:=by
 refine(L.a Tryz.func12 y12) (by simp[y12]) ?_
 have h4:=c_l4At L hf hpl fn n
 simp only[Pg.enc]at h4
 simp only[y12,go_sem,rE,rA,rL,Pg.enc,az,a6,bh]
 intro b3 hb3 b14 hb14
 have d3:=al (ai _ _ _) hb14
 have g3:((aj.empty.set b3 (.cells [.sl 12 none (p.map Fu.enc)])).set b14 (.tail 0 0)).get b3=some (.cells [.sl 12 none (p.map Fu.enc)]):=by rw[ae _ _ d3,ai]
 have gt:=ai (aj.empty.set b3 (.cells [.sl 12 none (p.map Fu.enc)])) b14 (.tail 0 0)
 generalize(aj.empty.set b3 (.cells [.sl 12 none (p.map Fu.enc)])).set b14 (.tail 0 0)=H0 at*
 clear hb3 hb14
 simp only[go_sem,rE,rA,rL,g3]
 refine dY h4 rfl (aj.sub_empty _) (by simp) trivial ?_
 intro q H1 hq hnew
 have hn1:∀c,H1.get c≠none->H0.get c=none:=fun c hc=>hnew c hc rfl
 have gt1:(H0.swap .empty H1).get b14=some (.tail 0 0):=by
  rw[bD]
  cases h:H1.get b14 with
  |none=>exact gt
  |some o=>have:=hn1 b14 (by rw[h];simp);rw[gt]at this;simp at this
 have up:∀c,H1.get c≠none->(H0.swap .empty H1).get c=H1.get c:=fun c hc=>by
  rw[bD]
  cases h:H1.get c with
  |none=>exact absurd h hc
  |some o=>rfl
 have n14:H1.get b14=none:=by
  cases h:H1.get b14 with
  |none=>rfl
  |some o=>have:=hn1 b14 (by rw[h];simp);rw[gt]at this;simp at this
 cases hs:jc p fn n with
 |none=>
  rw[hs]at hq
  obtain⟨a,rfl,ga⟩:=hq
  have ga1:=(up a (by rw[ga];simp)).trans ga
  generalize H0.swap .empty H1=H2 at*
  simp only[go_sem,rE,rA,rL,ga1]
  refine aO 0 (fun k E' H'=>E' 7=.sl 2 (some (b14,0,0)) []/\E' 8=.ptr a 0/\E' 10=I k/\H'.get a=some (.cells [NIL,I 0,NIL,NIL,I 0])) ⟨rfl,rfl,rfl,ga1⟩ ?_
  rintro k E' H' hk ⟨q7,q8,q10,ga⟩
  obtain rfl:k=0:=by omega
  simp only[go_sem,rE,rA,rL,q7,q8,q10,ga,cS,Int.lt_irrefl]
  exact ak (.tok 2 _ _) (aj.sub_empty _) ⟨rfl,rfl⟩
 |some v=>
  rw[hs]at hq
  obtain⟨a,VS,NS,rfl,hE1,hok,hlo⟩:=hq
  have hE0:bG (H0.swap .empty H1) a v VS NS:=hE1.mono fun d hd=>up d (hE1.mem hd)
  have nt0:¬aP a VS NS b14:=fun h=>hE1.mem h n14
  generalize H0.swap .empty H1=H2 at*
  clear hE1 hn1 up n14 hnew h4
  simp only[go_sem,rE,rA,rL]
  refine aO v.vars.length (fun k E' H'=>bG H' a v VS NS/\E' 8=.ptr a 0/\E' 9=B true/\E' 10=I k/\(∃rs,bN H' 2 rs (E' 7)/\LeR rs (fH (v.vars.take k)))/\∀c,cu (E' 7) c->¬aP a VS NS c)
   ⟨hE0,rfl,rfl,rfl,⟨[],.inr ⟨b14,0,0,rfl,gt1⟩,trivial⟩,fun c ⟨_,_,_,_,e⟩=>by simp[fV,lx]at e;obtain⟨-,⟨rfl,-⟩,-⟩:=e;exact nt0⟩ ?_
  rintro k E' H' hk ⟨hE,q8,q9,q10,⟨rs,qa,ql⟩,qt⟩
  have ho:=hE.obj
  simp only[dh]at ho
  obtain⟨vb,vc,cs,rfl,hr0⟩:=hE.vars.row (i:=0) (by omega)
  have hlim:v.vars.length<=LIM:=by have:=hok.len;simp[LIM];omega
  simp only[go_sem,rE,rA,rL,q8,q9,q10,ho,hlim]
  by_cases hlt:(k:Int)<v.vars.length
  ·have hk1:k<v.vars.length:=by omega
   have w1:=aJ (n:=(k:Int)+1) (by omega) (by have:=hok.len;omega)
   obtain⟨vb',vc',cs',e',hr⟩:=hE.vars.row hk1
   simp at e'
   obtain⟨rfl,rfl⟩:=e'
   have h6:=hr.row6
   have hg:=hr.get
   have hsn:=sk (v.vars.take k) v.vars[k]
   rw[<-aA hk1]at hsn
   have hvo:=(hok.all _ (aw hk1)).1
   have hll:=hvo.loans
   have hlp:=hvo.paths
   clear hr
   generalize v.vars[k]=x at*
   have h61:=h6.1
   have h62:=h6.2
   simp only[Vr.enc]at h61
   simp only[go_sem,rE,rA,rL,hlt,q8,q9,q10,ho,hg,h61,h62]
   intro b11 hb11
   have e11:¬aP a (.lit (.slice (some ⟨vb,0,none⟩) v.vars.length vc)) NS b11:=fun h=>hE.mem h hb11
   have hE6:bG (H'.set b11 (.cells [S x.name,B x.lent,B x.param,.sl 1 none (Ty.encs x.type.kids),.sl 2 none (x.loans.map Pl.enc),B x.dead])) a v (.lit (.slice (some ⟨vb,0,none⟩) v.vars.length vc)) NS:=
    hE.mono fun d hd=>ae _ _ (by rintro rfl;exact e11 hd)
   have qa6:=qa.new hb11 (.cells [S x.name,B x.lent,B x.param,.sl 1 none (Ty.encs x.type.kids),.sl 2 none (x.loans.map Pl.enc),B x.dead])
   have g11:=ai H' b11 (.cells [S x.name,B x.lent,B x.param,.sl 1 none (Ty.encs x.type.kids),.sl 2 none (x.loans.map Pl.enc),B x.dead])
   generalize(H'.set b11 (.cells [S x.name,B x.lent,B x.param,.sl 1 none (Ty.encs x.type.kids),.sl 2 none (x.loans.map Pl.enc),B x.dead]))=H6 at*
   have skip:kA x=false->fH (v.vars.take (k+1))=fH (v.vars.take k):=fun h=>by rw[hsn,h];rfl
   cases hle:x.lent with
   |false=>
    rw[hle]at g11
    simp only[go_sem,rE,rA,rL,q8,q9,q10,g11,w1]
    exact⟨hk1,H6,aj.sub_refl _,hE6,rfl,⟨rs,qa6,by rw[skip (by simp[kA,hle])];exact ql⟩,qt⟩
   |true=>
   rw[hle]at g11
   cases hde:x.dead with
   |true=>
    rw[hde]at g11
    simp only[go_sem,rE,rA,rL,q8,q9,q10,g11,w1]
    exact⟨hk1,H6,aj.sub_refl _,hE6,rfl,⟨rs,qa6,by rw[skip (by simp[kA,hde])];exact ql⟩,qt⟩
   |false=>
   rw[hde]at g11
   cases hpa:x.param with
   |true=>
    rw[hpa]at g11
    simp only[go_sem,rE,rA,rL,q8,q9,q10,g11,w1]
    exact⟨hk1,H6,aj.sub_refl _,hE6,rfl,⟨rs,qa6,by rw[skip (by simp[kA,hpa])];exact ql⟩,qt⟩
   |false=>
   rw[hpa]at g11
   have hil:kA x=true:=by simp[kA,hle,hde,hpa]
   clear hE hg ho hb11 skip qa e11
   simp only[go_sem,rE,rA,rL,q8,q9,q10,g11]
   intro b12 hb12
   have d1112:=al g11 hb12
   have e12:¬aP a (.lit (.slice (some ⟨vb,0,none⟩) v.vars.length vc)) NS b12:=fun h=>hE6.mem h hb12
   have hE7:bG (H6.set b12 (.cells [S x.name,NIL])) a v (.lit (.slice (some ⟨vb,0,none⟩) v.vars.length vc)) NS:=
    hE6.mono fun d hd=>ae _ _ (by rintro rfl;exact e12 hd)
   have qa7:=qa6.new hb12 (.cells [S x.name,NIL])
   have t12:¬cu (E' 7) b12:=fun ht=>by obtain⟨n,m,e⟩:=qa7.tok ht;rw[ai]at e;simp at e
   have g11:(H6.set b12 (.cells [S x.name,NIL])).get b11=_:=(ae _ _ d1112).trans g11
   have g12:(H6.set b12 (.cells [S x.name,NIL])).get b12=_:=ai _ _ _
   generalize(H6.set b12 (.cells [S x.name,NIL]))=H7 at*
   clear hE6 qa6 hb12
   refine aO x.loans.length (fun j E2 H2=>E2 7=E' 7/\E2 8=.ptr a 0/\E2 9=B true/\E2 10=I k/\E2 11=.ptr b11 0/\E2 12=.ptr b12 0/\E2 13=I j/\
    (∃X,H2.get b12=some (.cells [S x.name,X])/\(∃ys,bN H2 2 ys X/\LeR ys ((x.loans.take j).map Pl.enc))/\∀c,cu X c->H7.get c=none)/\∀c,H7.get c≠none->c≠b12->H2.get c=H7.get c)
    ⟨rfl,q8,q9,q10,rfl,rfl,rfl,⟨NIL,g12,⟨[],.inl ⟨rfl,rfl⟩,trivial⟩,fun c ⟨_,_,_,_,e⟩=>by simp at e⟩,fun _ _ _=>rfl⟩ ?_
   rintro j E2 H2 hj ⟨r7,r8,r9,r10,r11,r12,r13,⟨X,gX,⟨ys,aX,lX⟩,tX⟩,kX⟩
   have g11':=(kX b11 (by rw[g11];simp) d1112).trans g11
   simp only[go_sem,rE,rA,rL,r11,r13,g11',am]
   have qa2:bN H2 2 rs (E' 7):=qa7.mono fun c hc=>kX c (by obtain⟨n,m,e⟩:=qa7.tok hc;rw[e];simp) (by rintro rfl;exact t12 hc)
   refine aE (fun hlt2=>?_) (fun hge2=>?_)
   ·have hj1:j<x.loans.length:=by omega
    have w2:=aJ (n:=(j:Int)+1) (by omega) (by omega)
    have hgp:(x.loans.map Pl.enc)[j]?=some [S x.loans[j].name,au x.loans[j].path]:=by simp[hj1,Pl.enc]
    have htk:(x.loans.take (j+1)).map Pl.enc=(x.loans.take j).map Pl.enc++[x.loans[j].enc]:=by rw[aA hj1,bv];rfl
    simp only[Pl.enc]at htk
    have hpl:=hlp _ (aw hj1)
    generalize x.loans[j]=y at*
    simp only[go_sem,rE,rA,rL,r11,r12,r13,g11',gX,hgp,au,az,a6,bh]
    intro bq hbq
    have d12q:=al gX hbq
    have d11q:=al g11' hbq
    have gXq:(H2.set bq (.tail 0 0)).get b12=_:=(ae _ _ d12q).trans gX
    have g11q:(H2.set bq (.tail 0 0)).get b11=_:=(ae _ _ d11q).trans g11'
    have aXq:bN (H2.set bq (.tail 0 0)) 2 ys X:=aX.new hbq _
    have tXq:¬cu X bq:=fun h=>by obtain⟨n,m,e⟩:=aX.tok h;rw[hbq]at e;simp at e
    simp only[go_sem,rE,rA,rL,r11,r13,g11q,hgp,au]
    refine dV (es:=[]) (ys:=y.path.map fun i=>[I i]) (.inr ⟨bq,0,0,rfl,ai _ _ _⟩) (by simp only[go_sem,rE]) (by simp) (by simp;omega) ?_
    intro x1 H8 fp1 hx1 hfp1 hkeep1 hnew1
    simp only[go_sem,rE,rA,rL,az,av,a6,hx1.one]at hkeep1 hnew1⊢
    have k1:∀c,H2.get c≠none->H8.get c=H2.get c:=fun c hc=>by
     have hcq:c≠bq:=by rintro rfl;exact hc hbq
     rw[hkeep1 c (by rw[ae _ _ hcq];exact hc) (fun⟨_,_,_,_,e⟩=>by simp at e;exact hcq e.2.1.1.symm),ae _ _ hcq]
    have aX8:bN H8 2 ys X:=aX.mono fun c hc=>k1 c (by obtain⟨n,m,e⟩:=aX.tok hc;rw[e];simp)
    have gX8:H8.get b12=_:=(k1 b12 (by rw[gX];simp)).trans gX
    refine dV (es:=ys) (ys:=[[S y.name,x1]]) (by simp only[go_sem,rE,rA,rL];exact aX8) (by simp[go_sem,bh]) (by simp) (by have:=lX.length;simp at this⊢;omega) ?_
    intro x' H9 fp2 hx' hfp2 hkeep2 hnew2
    simp only[go_sem,rE,rA,rL]at hkeep2 hnew2
    have nX:∀c,H7.get c≠none->¬cu X c:=fun c hc h=>hc (tX c h)
    have g9:H9.get b12=some (.cells [S x.name,X]):=by rw[hkeep2 b12 (by rw[gX8];simp) (nX b12 (by rw[g12];simp))];exact gX8
    have k27:∀c,H7.get c≠none->H8.get c≠none:=fun c hc=>by
     by_cases hcb:c=b12
     ·subst hcb;rw[gX8];simp
     ·rw[k1 c (by rw[kX c hc hcb];exact hc),kX c hc hcb];exact hc
    have hx9:∀c,cu x' c->H7.get c=none/\c≠b12:=fun c hc=>by
     have e0:H7.get c=none:=by
      rcases hnew2 c hc with h|h
      ·exact tX c h
      ·cases hq:H7.get c with
       |none=>rfl
       |some o=>exact absurd h (k27 c (by rw[hq];simp))
     exact⟨e0,by rintro rfl;rw[g12]at e0;simp at e0⟩
    simp only[go_sem,rE,rA,rL,r12,g9,hx'.one,r13,w2]
    refine⟨hj1,_,aj.sub_refl _,r7,r8,r9,r10,r11,rfl,⟨x',ai _ _ _,⟨_,hx'.mono fun c hc=>ae _ _ (hx9 c hc).2,by rw[htk];exact lX.append ⟨⟨⟨.refl _,rfl⟩,⟨hx1.le,rfl⟩,trivial⟩,trivial⟩⟩,fun c hc=>(hx9 c hc).1⟩,fun c hc hne=>?_⟩
    rw[ae _ _ hne,hkeep2 c (k27 c hc) (nX c hc),k1 c (by rw[kX c hc hne];exact hc)]
    exact kX c hc hne
   ·have hjj:j=x.loans.length:=by omega
    subst hjj
    rw[aQ]at lX
    simp only[go_sem,rE,rA,rL,r7,r8,r9,r10,r12,gX,az,av,a6]
    refine dV (es:=rs) (ys:=[[S x.name,X]]) (by simp only[go_sem,rE,rA,rL];exact qa2) (by simp[go_sem,bh]) (by simp) (by
     have h1:=ql.length
     have h2:(fH (v.vars.take k)).length<=v.vars.length:=by
      unfold fH sR
      rw[am]
      exact ce (fL _ _) (by rw[bw];omega)
     have:=hok.len
     simp;omega) ?_
    intro x' H8 fp hx' hfp hkeep hnew
    simp only[go_sem,rE,rA,rL]at hkeep hnew
    simp only[go_sem,rE,rA,rL,r8,r9,r10,w1]
    have k2:∀c,aP a (.lit (.slice (some ⟨vb,0,none⟩) v.vars.length vc)) NS c->H2.get c=H7.get c:=fun c hc=>kX c (hE7.mem hc) (by rintro rfl;exact e12 hc)
    refine⟨hk1,H8,aj.sub_refl _,hE7.mono fun d hd=>?_,rfl,⟨_,hx',by rw[hsn,hil,if_pos rfl];exact ql.append ⟨⟨⟨.refl _,rfl⟩,⟨Le.trans aX.le (.slR lX),rfl⟩,trivial⟩,trivial⟩⟩,fun c hc hb=>?_⟩
    ·rw[hkeep d (by rw[k2 d hd];exact hE7.mem hd) (fun h=>qt d h hd)];exact k2 d hd
    ·rcases hnew c hc with h|h
     ·exact qt c h hb
     ·rw[k2 c hb]at h;exact hE7.mem hb h
  ·have hkk:k=v.vars.length:=by omega
   subst hkk
   rw[aQ]at ql
   simp only[go_sem,rE,rA,rL,hlt]
   exact ak (Le.trans qa.le (.slR ql)) (aj.sub_empty _) ⟨rfl,rfl⟩
end
theorem AO:(⟨bl [],[⟨bl [],false,.mk []⟩],false,.mk [],[],E0,P0⟩:Fu).good:=⟨⟨by simp;exact⟨dQ⟩,dQ⟩,by simp,by simp,by simp[eW],by simp,vZ⟩
section
variable {P:Program}{F:Ids}
theorem zp(L:Lib P F)(r:Nat)(bs:List UInt8)(hbs:bs.length<=2000)(p:Int)(hp:0<=p)(hp2:p+5*FC<=2^50):
 bA P 66 [.ptr r 0] (one r (RdO bs p)) (RdR r bs p (5*FC) fun q=>∃pr:Pg,q=.agg (Pg.enc pr)/\(∀f∈pr,f.good)/\1<=pr.length/\pr.length<=4):=by
 simp only[FC]at hp2
 refine(L.a Tryz.func66 y66) (by simp[y66]) ?_
 simp only[y66,go_sem,rE,rA]
 intro b2 hb2 b3 hb3
 have hr2:r≠b2:=by rintro rfl;rw[bI]at hb2;simp at hb2
 have d23:b2≠b3:=od hb3
 have hr3:r≠b3:=by rintro rfl;rw[ae _ _ hr2,bI]at hb3;simp at hb3
 have gr:(((one r (RdO bs p)).set b2 (.cells [NIL])).set b3 (.cells [NIL])).get r=some (RdO bs p):=by rw[ae _ _ hr3,ae _ _ hr2,bI]
 have g2:(((one r (RdO bs p)).set b2 (.cells [NIL])).set b3 (.cells [NIL])).get b2=some (.cells [NIL]):=by rw[ae _ _ d23,ai]
 have g3:(((one r (RdO bs p)).set b2 (.cells [NIL])).set b3 (.cells [NIL])).get b3=some (.cells [NIL]):=ai _ _ _
 generalize(((one r (RdO bs p)).set b2 (.cells [NIL])).set b3 (.cells [NIL]))=H0 at*
 clear hb2 hb3
 refine bp (cN L r bs p 4 hbs hp (by omega)) (rfl) gr (by simp) trivial ?_
 rintro q p1 hp1 hp1' ⟨k0,rfl,hk00,hk01⟩
 have g2:(H0.set r (RdO bs p1)).get b2=_:=(ae _ _ (Ne.symm hr2)).trans g2
 have g3:(H0.set r (RdO bs p1)).get b3=_:=(ae _ _ (Ne.symm hr3)).trans g3
 have gr:(H0.set r (RdO bs p1)).get r=_:=ai _ _ _
 generalize H0.set r (RdO bs p1)=H1 at*
 have w1:=aJ (n:=1+k0) (by omega) (by omega)
 obtain⟨n,hn⟩:∃n:Nat,1+k0=(n:Int):=⟨(1+k0).toNat,by omega⟩
 rw[hn]at w1
 simp only[go_sem,rE,rA,w1,hn]
 let J:Nat->Env->aj->Prop:=fun k E H=>∃(p':Int) (X:AC) (pr:Pg),H.get r=some (RdO bs p')/\H.get b2=some (.cells [NIL])/\H.get b3=some (.cells [X])/\p<=p'/\p'<=p+1+FC*k/\pr.length=k/\(∀f∈pr,f.good)/\bN H 12 (pr.map Fu.enc) X/\
  E 0=.ptr r 0/\E 2=.ptr b2 0/\E 3=.ptr b3 0/\E 4=I ((n:Int) - k)
 refine aO n J ⟨p1,NIL,[],gr,g2,g3,hp1,by simp;omega,rfl,by simp,.nil _ _,rfl,rfl,rfl,rfl⟩ ?_
 clear gr g2 g3
 rintro k E H hk ⟨p',X,pr,gr,g2,g3,hq1,hq2,hpr,hgood,hX,e0,e2,e3,e4⟩
 simp only[FC]at hq2
 simp only[wp_seq,go_sem,rE,rA,e4]
 refine aE (fun hlt=>?_) (fun hge=>?_)
 ·have w2:=aJ (n:=(n:Int) - k - 1) (by omega) (by omega)
  simp only[go_sem,rE,rA,e0,e3,g3,rL]
  refine bp (zas:=[.ptr r 0,.agg [X]]) ((c_l71Fn L r bs hbs pr (fun g hg=>⟨(hgood g hg).okS,(hgood g hg).pars.2⟩) (by omega) p' (by omega) (by simp only[FC];omega)).args ⟨.refl _,.agg ⟨⟨hX.le,rfl⟩,trivial⟩,trivial⟩) (rfl) gr (fun _=>⟨by simp[FC],_,_,rfl,AO⟩) (by simp[dZ];exact Ne.symm hr3) ?_
  rintro q p2 hp2 hp2' ⟨f,rfl,hf⟩
  simp only[FC]at hp2'
  have g2:(H.set r (RdO bs p2)).get b2=_:=(ae _ _ (Ne.symm hr2)).trans g2
  have g3:(H.set r (RdO bs p2)).get b3=_:=(ae _ _ (Ne.symm hr3)).trans g3
  have hX2:bN (H.set r (RdO bs p2)) 12 (pr.map Fu.enc) X:=hX.keepF fun d hd=>ae _ _ (by rintro rfl;obtain⟨n,m,h⟩:=hX.mem hd;rw[gr]at h;simp[RdO]at h)
  have gr:(H.set r (RdO bs p2)).get r=_:=ai _ _ _
  generalize H.set r (RdO bs p2)=Ha at*
  clear hX
  obtain⟨cf,hcf,CF⟩:=fuC f
  simp only[hcf,go_sem,rE,rA,CF.len,CF.all,az,av,a6,rL,bh]
  refine dV (es:=pr.map Fu.enc) (ys:=[cf]) (by simp only[go_sem,rE];exact hX2) (rfl) (by simp[CF.len]) (by simp;omega) ?_
  intro x' Hc fpc hx' _ keep new
  simp only[go_sem,rE]at keep new
  have hx1:=hx'.one
  have in1:∀{d cs},Ha.get d=some (.cells cs)->Hc.get d=some (.cells cs):=fun {d cs} hd=>by
   rw[keep d (by rw[hd];simp) fun ht=>by obtain⟨n,m,h⟩:=hX2.mem ht;rw[hd]at h;simp at h];exact hd
  have g2:=in1 g2
  have g3:=in1 g3
  have gr:=in1 gr
  simp only[go_sem,rE,rA,e3,e4,g3,hx1,w2,rL]
  refine⟨by omega,_,aj.sub_refl _,p2,x',pr++[f],(ae _ _ hr3).trans gr,(ae _ _ d23).trans g2,ai _ _ _,by omega,by simp only[FC];omega,by simp;exact hpr,fun x hx=>?_,?_,e0,e2,e3,by simp only[go_sem,rE];congr 2;omega⟩
  ·rcases aF.1 hx with h|h
   ·exact hgood x h
   ·simp at h;subst h;exact hf
  ·rw[bv,aT,bz,hcf]
   exact hx'.set g3 _
 ·simp only[go_sem,rE,rA,e2,e3,g2,g3,rL]
  exact bV (q':=.agg (Pg.enc pr)) (off:=0) (e2) (ai _ _ _) rfl (.agg ⟨⟨hX.le,rfl⟩,trivial⟩) (eS (by rw[ae _ _ hr2];exact gr)) ⟨p',hq1,by simp only[FC];omega,rfl,pr,rfl,hgood,by omega,by omega⟩
end
def jU(ss:List ByteArray):List (List AC):=ss.map fun s=>[S s]
theorem txt_get{ss:List ByteArray}{k:Nat}(h:k<ss.length):(jU ss)[k]?=some [S ss[k]]:=by simp[jU,h]
theorem txt_len(ss:List ByteArray):(jU ss).length=ss.length:=by simp[jU]
def Ty.lo(t:Ty):Prop:=∃D,D<=12/\t.le D
section
variable {P:Program}{F:Ids}
theorem c_of(L:Lib P F)(r:Nat)(bs:List UInt8)(hbs:bs.length<=2000)(ss:List ByteArray)(hne:0<ss.length)(hl:ss.length<=1000)(p:Int)(hp:0<=p)(hp2:p+1<=2^50):
 bA P 55 [.ptr r 0,.sl 1 none (jU ss)] (one r (RdO bs p)) (RdR r bs p 1 fun q=>∃s,q=S s):=by
 refine(L.a Tryz.func55 y55) (by simp[y55]) ?_
 simp only[y55,go_sem,rE,rA,txt_len]
 refine bp (cN L r bs p ss.length hbs hp (by omega)) (rfl) (bI _ _) (by simp) trivial ?_
 rintro q p1 hp1 hp1' ⟨k,rfl,hk0,hk1⟩
 have hkl:k.toNat<ss.length:=by omega
 rw[gZ]
 simp only[go_sem,rE,rA,hk0,txt_get hkl]
 exact gN ⟨p1,hp1,hp1',rfl,_,rfl⟩
def TyT(r:Nat)(bs:List UInt8)(p c:Int)(d:Nat)(q:AC)(H':aj):Prop:=∃(p':Int) (X:AC) (t:Ty),p<=p'/\p'<=p+c/\q=.agg [X]/\H'.get r=some (RdO bs p')/\bN H' 1 (Ty.encs t.kids) X/\t.le d/\¬cu X r/\t.kids.length<=2
theorem xq(L:Lib P F)(r:Nat)(bs:List UInt8)(hb:bs.length<=2000)(d:Nat)(dp:Int)(hd:dp<=d+1)(hd':d+1<=100)(hdp:-10<=dp)(p:Int)(hp:0<=p)(hp':p+eU (d+1)<=2^50):
 bA P 113 [.ptr r 0,I dp] (one r (RdO bs p)) (TyT r bs p (eU (d+1)) (d+1)):=by
 have tn:=lJ d
 simp only[eU]at hp'
 refine(L.a Tryz.func113 tq) (by simp[tq]) ?_
 simp only[tq,go_sem,rE]
 intro b hb'
 have hrb:r≠b:=by rintro rfl;rw[bI]at hb';simp at hb'
 have hbr:b≠r:=Ne.symm hrb
 have leaf:∀(E:Env) p',p<=p'->p'<=p+eU (d+1)->E 4=.ptr b 0->
  bi.post [j4.cell 4 (some 1)] (TyT r bs p (eU (d+1)) (d+1)) .ret E ((one r (RdO bs p')).set b (.cells [AC.lit (.slice none 0 0)])):=by
  intro E p' h1 h2 hE
  exact bV (q':=.agg [NIL]) hE (ai _ _ _) rfl (.refl _) (ni (gB _ hbr)) ⟨p',NIL,.mk [],h1,h2,rfl,bI _ _,.nil _ _,kr _,by rintro⟨_,_,_,_,h⟩;simp at h,by simp[Ty.kids]⟩
 by_cases h2:dp<2
 ·simp only[go_sem,rE,h2,aC,rA]
  exact leaf _ p (dD _) (by simp only[eU];omega) (rfl)
 ·simp only[go_sem,rE,h2]
  refine bp (cN L r bs p 3 hb hp (by omega)) (rfl) (by simp only[go_sem,hrb,bI]) (by simp) trivial ?_
  rintro q p1 hp1 hp1' ⟨k,rfl,hk0,hk3⟩
  simp only[go_sem,rE]
  rw[fq hbr,gZ]
  refine aE (fun hgt=>?_) (fun hle=>?_)
  ·simp only[go_sem,rE,aC,rA]
   exact leaf _ p1 hp1 (by simp only[eU];omega) (rfl)
  ·have w1:=aJ (n:=dp - 1) (by omega) (by omega)
   simp only[go_sem,rE,w1]
   refine bp (kp L r bs hb d (dp - 1) (by omega) (by omega) p1 (by omega) (by omega)) (rfl) (by simp only[go_sem,hrb,bI]) (by simp) trivial ?_
   rintro q p2 hp2 hp2' ⟨t1,rfl,ht1⟩
   rw[fq hbr,gZ]
   simp only[go_sem,rE,w1]
   refine bp (kp L r bs hb d (dp - 1) (by omega) (by omega) p2 (by omega) (by omega)) (rfl) (by simp only[go_sem,hrb,bI]) (by simp) trivial ?_
   rintro q p3 hp3 hp3' ⟨t2,rfl,ht2⟩
   rw[fq hbr,gZ]
   obtain⟨k1⟩:=t1
   obtain⟨k2⟩:=t2
   simp only[go_sem,rE,Ty.enc,az,av,a6,rA,rL,aC,Nat.reduceMul]
   intro b2 hb2
   have h2b:b≠b2:=by rintro rfl;simp at hb2
   have h2r:r≠b2:=by rintro rfl;rw[ae _ _ hrb,bI]at hb2;simp at hb2
   simp only[go_sem,h2b,bh,aC,rA]
   refine bV (q':=.agg [.sl 1 (some (b2,2,2)) (Ty.encs [.mk k1,.mk k2])]) (off:=0) (rfl) (ai _ _ _) rfl (.refl _) (aj.sub_refl _)
    ⟨p3,_,.mk [.mk k1,.mk k2],by omega,by simp only[eU];omega,rfl,by rw[ae _ _ hrb,ae _ _ h2r,ae _ _ hrb,bI],.inr ⟨b2,2,2,rfl,by rw[ae _ _ (Ne.symm h2b),ai]⟩,?_,?_,by simp[Ty.kids]⟩
   ·simp only[Ty.le,aU,bU,ba,bY,or_false,forall_eq_or_imp,forall_eq]
    exact⟨by omega,ht1,ht2⟩
   ·rintro⟨_,_,_,_,h⟩;simp at h;exact h2r h.2.1.1.symm
end
theorem LeR.tys:∀p:List Ty,LeR (p.map Ty.enc) (p.map Ty.enc)
 |[]=>trivial
 |f::p=>⟨by rw[Ty.enc_eq f];exact⟨⟨.refl _,rfl⟩,trivial⟩,LeR.tys p⟩
theorem Ay{H:aj}{r:Nat}{o:cP}(h:H.get r=some o):H.only (fun d=>d=r)=one r o:=by
 apply aj.ext
 intro b
 by_cases hb:b=r
 ·subst hb;rw[bn (S:=fun d=>d=b) rfl,bI];exact h
 ·rw[cg (S:=fun d=>d=r) hb,gB _ hb]
section
variable {P:Program}{F:Ids}
theorem y8(L:Lib P F){K:Env->aj->Prop}{xs:List aL}{E:Env}{H:aj}{l:Lds}{f:Fps}{i:Nat}{args:List aI}{d:Option Nat}(r:Nat)(bs:List UInt8)(hb:bs.length<=2000)(dn:Nat)(dp:Int)(hd:dp<=dn+1)(hd':dn+1<=100)(hdp:-10<=dp)(p:Int)(hp:0<=p)(hp':p+eU (dn+1)<=2^50)
(hr:H.get r=some (RdO bs p))(ha:args.map (aI.ev E)=[.ptr r 0,I dp])
(h:∀p' X t H1 fp,p<=p'->p'<=p+eU (dn+1)->H1.get r=some (RdO bs p')->bN H1 1 (Ty.encs t.kids) X->Ty.le (dn+1) t->t.kids.length<=2->(∀c,H.get c≠none->c≠r->H1.get c=H.get c)->bB P false K xs (E.put d (.agg [X])) H1 l ((i,fp)::f)):
 bB P false K (⟨i,d,none,.eff (.call 113 args),[]⟩::xs) E H l f:=by
 have hc:=xq L r bs hb dn dp hd hd' hdp p hp hp'
 rw[<-Ay hr]at hc
 refine gK (fun d=>d=r) hc ha (.refl _) (by simp) trivial ?_
 rintro q H' H1 ⟨p',X,t,h1,h2,rfl,h3,h4,h5,h6,h7⟩ hsub hafter hnew -
 refine h p' X t H1 _ h1 h2 (hsub _ _ h3) ?_ h5 h7 (fun c hc hn=>hafter.out c hn hc)
 rcases h4 with h|⟨b,n,m,rfl,hb⟩
 ·exact .inl h
 ·exact .inr ⟨b,n,m,rfl,hsub _ _ hb⟩
theorem te(L:Lib P F)(r:Nat)(bs:List UInt8)(hbs:bs.length<=2000)(p:Int)(hp:0<=p)(hp2:p+40<=2^50):
 bA P 85 [.ptr r 0] (one r (RdO bs p)) (RdR r bs p 40 fun q=>∃t:Ty,q=.agg t.enc/\t.lo):=by
 refine(L.a Tryz.func85 y85) (by simp[y85]) ?_
 simp only[y85,go_sem,rE,rA]
 intro b2 hb2
 have hr2:r≠b2:=by rintro rfl;rw[bI]at hb2;simp at hb2
 have gr:((one r (RdO bs p)).set b2 (.cells [NIL])).get r=some (RdO bs p):=by rw[ae _ _ hr2,bI]
 have g2:((one r (RdO bs p)).set b2 (.cells [NIL])).get b2=some (.cells [NIL]):=ai _ _ _
 generalize((one r (RdO bs p)).set b2 (.cells [NIL]))=H0 at*
 clear hb2
 refine bp (cN L r bs p 4 hbs hp (by omega)) (rfl) gr (by simp) trivial ?_
 rintro q p1 hp1 hp1' ⟨k0,rfl,hk00,hk01⟩
 have g2:(H0.set r (RdO bs p1)).get b2=_:=(ae _ _ (Ne.symm hr2)).trans g2
 have gr:(H0.set r (RdO bs p1)).get r=_:=ai _ _ _
 generalize H0.set r (RdO bs p1)=H1 at*
 have w1:=aJ (n:=1+k0) (by omega) (by omega)
 simp only[go_sem,rE,rA,w1]
 refine y8 L r bs hbs 3 (1+k0) (by omega) (by omega) (by omega) p1 (by omega) (by simp[eU];omega) gr (rfl) ?_
 intro p2 X t H2 fp2 hp2 hp2' gr2 hX ht htk keep
 simp only[eU]at hp2'
 have g2:H2.get b2=_:=(keep b2 (by rw[g2];simp) (Ne.symm hr2)).trans g2
 simp only[go_sem,rE,rA]
 intro b3 hb3
 have hr3:=al gr2 hb3
 have d23:=al g2 hb3
 have hx1:=hX.one
 have gr:(H2.set b3 (.cells [X])).get r=_:=(ae _ _ hr3).trans gr2
 have g2:(H2.set b3 (.cells [X])).get b2=_:=(ae _ _ d23).trans g2
 have g3:(H2.set b3 (.cells [X])).get b3=_:=ai _ _ _
 have hX:=hX.new hb3 (.cells [X])
 generalize H2.set b3 (.cells [X])=H3 at*
 clear gr2 keep hb3
 refine bp (cN L r bs p2 12 hbs (by omega) (by omega)) (rfl) gr (by simp) trivial ?_
 rintro q p3 hp3 hp3' ⟨k1,rfl,hk10,hk11⟩
 have g2:(H3.set r (RdO bs p3)).get b2=_:=(ae _ _ (Ne.symm hr2)).trans g2
 have g3:(H3.set r (RdO bs p3)).get b3=_:=(ae _ _ (Ne.symm hr3)).trans g3
 have hX:bN (H3.set r (RdO bs p3)) 1 (Ty.encs t.kids) X:=hX.keepF fun d hd=>ae _ _ (by rintro rfl;obtain⟨n,m,h⟩:=hX.mem hd;rw[gr]at h;simp[RdO]at h)
 have gr:(H3.set r (RdO bs p3)).get r=_:=ai _ _ _
 generalize H3.set r (RdO bs p3)=H4 at*
 have fin:∀(E:Env) (H:aj) (Y:AC) (t:Ty) (p':Int),H.get r=some (RdO bs p')->H.get b2=some (.cells [NIL])->H.get b3=some (.cells [Y])->Le Y (.sl 1 none (Ty.encs t.kids))->t.lo->p<=p'->p'<=p+40->E 2=.ptr b2 0->E 3=.ptr b3 0->
  aW.wp P (.seq (rg [ld 0 30 (some 1) 3,en 1 (.store 1 2 30)]) .ret) (bi.post [.cell 2 (some 1)] (RdR r bs p 40 fun q=>∃t:Ty,q=.agg t.enc/\t.lo)) E H:=by
  intro E H Y t p' gr g2 g3 hY ht h1 h2 e2 e3
  simp only[go_sem,rE,rA,e2,e3,g2,g3,rL]
  exact bV (q':=.agg t.enc) (off:=0) (e2) (ai _ _ _) rfl (by rw[Ty.enc_eq t];exact .agg ⟨⟨hY,rfl⟩,trivial⟩) (eS (by rw[ae _ _ hr2];exact gr)) ⟨p',h1,h2,rfl,t,rfl,ht⟩
 generalize((.seq (rg [ld 0 30 (some 1) 3,en 1 (.store 1 2 30)]) .ret):aW)=RF at fin⊢
 by_cases hk0:k1=0
 ·simp only[hk0,go_sem,rE,rA,aG]
  let J:Nat->Env->aj->Prop:=fun k E H=>∃(Y:AC) (t:Ty),H.get r=some (RdO bs p3)/\H.get b2=some (.cells [NIL])/\H.get b3=some (.cells [Y])/\Le Y (.sl 1 none (Ty.encs t.kids))/\Y.cells?=some [Y]/\t.le (4+k)/\E 0=.ptr r 0/\E 2=.ptr b2 0/\E 3=.ptr b3 0/\E 4=I k
  refine aO 5 J ⟨X,t,gr,g2,g3,hX.le,hx1,ht,rfl,rfl,rfl,rfl⟩ ?_
  clear gr g2 g3 hX
  rintro k E H hk ⟨Y,t,gr,g2,g3,hY,hY1,ht,e0,e2,e3,e4⟩
  simp only[wp_seq,go_sem,rE,rA,e4]
  refine aE (fun hlt=>?_) (fun hge=>?_)
  ·have w2:=aJ (n:=(k:Int)+1) (by omega) (by omega)
   simp only[go_sem,rE,rA,e3,g3,hY1,az,av,a6,rL,bh]
   intro b5 hb5
   have hr5:=al gr hb5
   have d25:=al g2 hb5
   have d35:=al g3 hb5
   simp only[go_sem,rE,rA,e3,e4,g3,d35,w2,rL]
   refine⟨by omega,_,aj.sub_refl _,_,.mk [t,.mk []],by rw[ae _ _ hr3,ae _ _ hr5];exact gr,by rw[ae _ _ d23,ae _ _ d25];exact g2,ai _ _ _,?_,rfl,?_,e0,e2,e3,rfl⟩
   ·simp only[Ty.kids,Ty.encs,Ty.enc_eq t,Ty.enc]
    exact .slR ⟨⟨⟨hY,rfl⟩,trivial⟩,⟨⟨.nil 1,rfl⟩,trivial⟩,trivial⟩
   ·show Ty.le ((4+k)+1) _
    simp only[Ty.le,aU,bU,ba,bY,or_false,forall_eq_or_imp,forall_eq]
    exact⟨by omega,ht,kr _⟩
  ·simp only[go_sem,rE,rA]
   exact fin _ _ Y t p3 gr g2 g3 hY ⟨4+k,by omega,ht⟩ (by omega) (by omega) (e2) (e3)
 have hk0':(k1==0)=false:=by simpa using hk0
 by_cases hk1:k1=1
 ·have hk1':(k1==1)=true:=by simpa using hk1
  simp only[hk0',hk1',go_sem,rE,rA,g3,az,av,a6,rL,bh]
  refine dV (es:=Ty.encs t.kids) (ys:=[[NIL]]) (by simp only[go_sem,rE];exact hX) (rfl) (by simp) (by rw[Ty.encs_map];simp;omega) ?_
  intro x' Hc fpc hx' _ keep new
  simp only[go_sem,rE]at keep new
  have hx1':=hx'.one
  have in1:∀{d cs},H4.get d=some (.cells cs)->Hc.get d=some (.cells cs):=fun {d cs} hd=>by
   rw[keep d (by rw[hd];simp) fun ht=>by obtain⟨n,m,h⟩:=hX.mem ht;rw[hd]at h;simp at h];exact hd
  have g2:=in1 g2
  have g3:=in1 g3
  have gr:=in1 gr
  simp only[go_sem,rE,rA,g3,hx1',rL]
  refine fin _ _ x' (.mk (t.kids++[.mk []])) p3 ((ae _ _ hr3).trans gr) ((ae _ _ d23).trans g2) (ai _ _ _) ?_ ⟨4,by omega,?_⟩ (by omega) (by omega) (rfl) (rfl)
  ·refine hx'.le.trans ?_
   simp only[Ty.kids,Ty.encs_map,bv,aT,bz,Ty.enc]
   exact .slR (LeR.snoc (LeR.tys t.kids) ⟨⟨.nil 1,rfl⟩,trivial⟩)
  ·obtain⟨ks⟩:=t
   simp only[Ty.kids]at htk⊢
   simp only[Ty.le,bH,aU,bU]at ht⊢
   refine⟨by omega,fun k hk=>?_⟩
   rcases aF.1 hk with h|h
   ·exact ht.2 k h
   ·simp at h;subst h;exact kr _
 ·have hk1':(k1==1)=false:=by simpa using hk1
  simp only[hk0',hk1',go_sem,rE,rA]
  exact fin _ _ X t p3 gr g2 g3 hX.le ⟨4,by omega,ht⟩ (by omega) (by omega) (rfl) (rfl)
end
def FZ(b c sz:Nat)(rows:List (List AC))(x y:AC):Prop:=x=y\/(x=.lit (.slice (some ⟨b,0,none⟩) rows.length c)/\y=.sl sz none rows)
def FZL(b c sz:Nat)(rows:List (List AC)):List AC->List AC->Prop
 |[],[]=>True
 |x::xs,y::ys=>FZ b c sz rows x y/\FZL b c sz rows xs ys
 |_,_=>False
theorem FZL.refl(b c sz:Nat)(rows:List (List AC)):∀xs,FZL b c sz rows xs xs
 |[]=>trivial
 |x::xs=>⟨.inl rfl,FZL.refl b c sz rows xs⟩
theorem FZL.length{b c sz:Nat}{rows:List (List AC)}:∀{xs ys},FZL b c sz rows xs ys->xs.length=ys.length
 |[],[],_=>rfl
 |x::xs,y::ys,h=>by simp[FZL.length h.2]
theorem FZL.get{b c sz:Nat}{rows:List (List AC)}:∀{xs ys},FZL b c sz rows xs ys->∀(j:Nat) {y},ys[j]?=some y->∃x,xs[j]?=some x/\FZ b c sz rows x y
 |[],[],_,j,y,hy=>by simp at hy
 |x::xs,y::ys,h,0,z,hz=>by simp at hz;subst hz;exact⟨x,by simp,h.1⟩
 |x::xs,y::ys,h,j+1,z,hz=>by simpa using FZL.get h.2 j (by simpa using hz)
theorem FZL.append{b c sz:Nat}{rows:List (List AC)}:∀{xs ys us vs},FZL b c sz rows xs ys->FZL b c sz rows us vs->FZL b c sz rows (xs++us) (ys++vs)
 |[],[],_,_,_,h=>h
 |x::xs,y::ys,_,_,h,h'=>⟨h.1,FZL.append h.2 h'⟩
structure xB(H H':aj)(b c sz:Nat)(rows:List (List AC)):Prop where
 gone:H'.get b=none
 keep:∀d o',H'.get d=some o'->H.get d=some o'\/∃xs ys,H.get d=some (.cells xs)/\o'=.cells ys/\FZL b c sz rows xs ys
theorem yf{sz:Nat}:∀{rows:List (List AC)},(∀e∈rows,e.length=sz)->∀{i j:Nat} {e:List AC} {x:AC},rows[i]?=some e->e[j]?=some x->rows.flatten[i*sz+j]?=some x
 |[],_,i,j,e,x,h,_=>by simp at h
 |r::rows,hs,0,j,e,x,h,hx=>by
  simp at h;subst h
  have:=hs r (by simp)
  have hj:j<r.length:=by
   rcases Nat.lt_or_ge j r.length with h|h
   ·exact h
   ·rw[fM h]at hx;simp at hx
  simp only[av,Nat.zero_mul,cx]
  rw[aS hj];exact hx
 |r::rows,hs,i+1,j,e,x,h,hx=>by
  have hr:=hs r (by simp)
  simp only[av]
  rw[bk (by rw[hr,Nat.succ_mul];omega),hr,Nat.succ_mul]
  have:i*sz+sz+j - sz=i*sz+j:=by omega
  rw[this]
  exact yf (fun e he=>hs e (by simp[he])) (by simpa using h) hx
theorem pO{H H':aj}{b c sz:Nat}{cs:List AC}{rows:List (List AC)}(hb:H.get b=some (.cells cs))(hrows:cs.take (rows.length*sz)=rows.flatten)(hsz:∀e∈rows,e.length=sz)(hc:rows.length<=c)(hlim:rows.length<=LIM)
(fr:xB H H' b c sz rows){xs ys:List AC}(hxy:FZL b c sz rows xs ys):nJ (.agg xs) H (.agg ys) H':=by
 intro M w v s r
 obtain⟨vs,el,hw,hone,hlen,hrep,hM⟩:=s.obj b _ hb
 let M':bT:=fun d o=>if d=b then(if o<rows.length*sz then vs[o]? else none)else M d o
 have hle:M.le M':=by
  intro d o u hu
  by_cases hd:d=b
  ·subst hd;rw[hM]at hu;simp at hu
  ·simp only[M',if_neg hd];exact hu
 have hcs:∀{i j e x},rows[i]?=some e->e[j]?=some x->∃u,vs[i*sz+j]?=some u/\i*sz+j<rows.length*sz/\Rep M x u/\x.one=true:=by
  intro i j e x he hx
  have h1:=yf hsz he hx
  rw[<-hrows,fg]at h1
  split at h1
  ·rename_i hlt
   obtain⟨hl,h2⟩:=aR.1 h1
   have hl2:i*sz+j<vs.size:=hlen▸hl
   exact⟨vs[i*sz+j],by simp[hl2],hlt,hrep _ _ _ h1 (by simp[hl2]),hone _ (bg h1)⟩
  ·simp at h1
 have key:Rep M' (.sl sz none rows) (.slice (some ⟨b,0,none⟩) rows.length c):=by
  refine .sl (fun i j=>vs.getD (i*sz+j) undef) hlim hc (fun e he=>⟨hsz e he,fun x hx=>?_⟩) (fun i j e x he hx=>?_) (fun i j e x he hx=>?_) (fun t ht=>by simp at ht)
  ·obtain⟨i,hi⟩:=List.getElem?_of_mem he
   obtain⟨j,hj⟩:=List.getElem?_of_mem hx
   obtain⟨u,-,-,-,h⟩:=hcs hi hj
   exact h
  ·obtain⟨u,h1,h2,-⟩:=hcs he hx
   simp only[M',if_true,cx,if_pos h2,h1]
   simp only[gY,h1,Option.getD_some]
  ·obtain⟨u,h1,h2,h3,-⟩:=hcs he hx
   simp only[gY,h1,Option.getD_some]
   exact h3.mono hle
 have rep:∀{x y u},FZ b c sz rows x y->Rep M x u->Rep M' y u:=by
  intro x y u h hr
  rcases h with rfl|⟨rfl,rfl⟩
  ·exact hr.mono hle
  ·obtain⟨rfl,-⟩:=hr.lit_inv
   exact key
 have one:∀{x y},FZ b c sz rows x y->x.one=true->y.one=true:=by
  intro x y h hx
  rcases h with rfl|⟨rfl,rfl⟩
  ·exact hx
  ·rfl
 have hne:∀d o',H'.get d=some o'->d≠b:=fun d o' hd e=>by subst e;rw[fr.gone]at hd;simp at hd
 have hMd:∀d,d≠b->∀o,M' d o=M d o:=fun d hd o=>by simp only[M',if_neg hd]
 refine⟨M',⟨fun d o u hu=>?_,fun d o' hd=>?_⟩,⟨hle,aC _,fun d _ hd=>⟨rfl,hMd d (by rintro rfl;rw[hb]at hd;simp at hd)⟩,fun d hd=>?_,rfl,rfl⟩,?_⟩
 ·by_cases hd:d=b
  ·subst hd
   simp only[M',if_true]at hu
   split at hu
   ·rw[fz,hw];exact hu
   ·simp at hu
  ·rw[hMd d hd]at hu;exact s.mem d o u hu
 ·have hdb:=hne d o' hd
  rcases fr.keep d o' hd with h|⟨xs,ys,h,rfl,hz⟩
  ·have:=s.obj d o' h
   cases o' with
   |cells zs=>
    obtain⟨us,el',q1,q2,q3,q4,q5⟩:=this
    exact⟨us,el',q1,q2,q3,fun j x v hx hv=>(q4 j x v hx hv).mono hle,fun o=>by rw[hMd d hdb];exact q5 o⟩
   |tail n m=>
    obtain⟨us,el',q1,q2,q3,q4⟩:=this
    exact⟨us,el',q1,q2,q3,fun o ho=>by rw[hMd d hdb];exact q4 o ho⟩
   |typed ty zs=>
    obtain⟨us,q1,q3,q4,q5⟩:=this
    exact⟨us,q1,q3,fun j x v hx hv=>(q4 j x v hx hv).mono hle,fun o=>by rw[hMd d hdb];exact q5 o⟩
   |map g=>
    obtain⟨es,cl,q1,q2,q3⟩:=this
    exact⟨es,cl,q1,q2.mono hle,fun o=>by rw[hMd d hdb];exact q3 o⟩
   |const ob zs=>
    obtain⟨q1,us,q2,q3,q4⟩:=this
    exact⟨q1,us,q2,fun j hj=>by rw[hMd d hdb];exact q3 j hj,fun j x hx=>(q4 j x hx).mono hle⟩
  ·obtain⟨us,el',q1,q2,q3,q4,q5⟩:=s.obj d _ h
   refine⟨us,el',q1,fun y hy=>?_,hz.length▸q3,fun j y v hy hv=>?_,fun o=>by rw[hMd d hdb];exact q5 o⟩
   ·obtain⟨j,hj⟩:=List.getElem?_of_mem hy
    obtain⟨x,hx,hf⟩:=hz.get j hj
    exact one hf (q2 x (bg hx))
   ·obtain⟨x,hx,hf⟩:=hz.get j hy
    exact rep hf (q4 j x v hx hv)
 ·left
  obtain⟨o',ho⟩:=aK.1 hd
  rcases fr.keep d o' ho with h|⟨xs,ys,h,-⟩<;>rw[h]<;>simp
 ·cases r with
  |agg h1 h2 h3=>
   refine .agg (fun y hy=>?_) (hxy.length▸h2) (fun j y u hy hu=>?_)
   ·obtain⟨j,hj⟩:=List.getElem?_of_mem hy
    obtain⟨x,hx,hf⟩:=hxy.get j hj
    exact one hf (h1 x (bg hx))
   ·obtain⟨x,hx,hf⟩:=hxy.get j hy
    exact rep hf (h3 j x u hx hu)
theorem pP{sz:Nat}(us d:List AC)(hu:us.length=sz):∀(rows:List (List AC)) (k:Nat),(∀e∈rows,e.length=sz)->k<rows.length->
 (rows.flatten++d).take (k*sz)++us++(rows.flatten++d).drop (k*sz+us.length)=(rows.set k us).flatten++d
 |[],k,_,h=>by simp at h
 |e::rows,0,hs,_=>by
  have he:=hs e (by simp)
  simp only[av,Nat.zero_mul,List.take_zero,dc,cx,List.set_cons_zero,eA]
  rw[hu,<-he,List.drop_left]
 |e::rows,k+1,hs,h=>by
  have he:=hs e (by simp)
  have ih:=pP us d hu rows k (fun e he=>hs e (by simp[he])) (by simpa using h)
  have e1:(k+1)*sz=e.length+k*sz:=by rw[Nat.succ_mul,he,Nat.add_comm]
  simp only[av,List.set_cons_succ,eA]
  rw[e1,Nat.add_assoc,List.take_length_add_append,List.drop_length_add_append,eA,<-eA (List.take _ _),ih]
theorem mA{sz:Nat}{rows:List (List AC)}{us cs:List AC}{k:Nat}(hs:∀e∈rows,e.length=sz)(hu:us.length=sz)(hk:k<rows.length)(h:cs.take (rows.length*sz)=rows.flatten):
 (bJ cs (k*sz) us).take ((rows.set k us).length*sz)=(rows.set k us).flatten:=by
 have hl:(rows.set k us).flatten.length=(rows.set k us).length*sz:=dI fun e he=>by
  rcases lh he with h|h
  ·exact hs e h
  ·rw[h];exact hu
 have hcs:cs=rows.flatten++cs.drop (rows.length*sz):=by rw[<-h,iC]
 have:=pP us (cs.drop (rows.length*sz)) hu rows k hs hk
 rw[<-hcs]at this
 unfold bJ
 rw[this,<-hl,List.take_left]
theorem rt(f:Fu):f.enc=[S f.name,.sl 3 none (f.params.map Pa.enc),B f.lent,.sl 1 none (Ty.encs f.type.kids),.sl 15 none (f.body.map St.enc),I f.says.kind,I f.says.num,S f.says.place.name,au f.says.place.path,.sl 5 none (Ex.encs f.says.kids),S f.gives.name,au f.gives.path]:=by
 rw[Fu.enc,Ty.enc_eq,Ex.enc_eq,St.encs_map];rfl
structure Fu.lo(m:Nat)(f:Fu):Prop where
 pars:0<f.params.length/\f.params.length<=4+m
 ptys:∀x∈f.params,x.type.lo
 ty:f.type.lo
 blen:f.body.length<=6+m
 bcnt:∀s∈f.body,s.cnt<=1000
 bsm:∀s∈f.body,s.sm 3
 says:f.says.sm
theorem Ty.wf.lo{t:Ty}(h:t.wf):t.lo:=by
 obtain⟨D,h1,h2⟩:=h
 exact⟨D,by omega,h2⟩
theorem Fu.good.lo{f:Fu}(h:f.good):f.lo 0:=
 ⟨by have:=h.pars;omega,fun x hx=>(h.okS.params x hx).type.lo,h.okS.type.lo,by have:=h.blen;omega,fun s hs=>by have:=tN hs;have:=h.body;omega,h.sms,h.says⟩
theorem Fu.lo.up{m:Nat}{f:Fu}(h:f.lo m):f.lo (m+1):=⟨by have:=h.pars;omega,h.ptys,h.ty,by have:=h.blen;omega,h.bcnt,h.bsm,h.says⟩
def FuAt(H:aj)(ex:Nat->Prop)(c6:List AC)(f:Fu):Prop:=c6.length=12/\(LeC c6 f.enc\/
 ∃(b c:Nat) (cs:List AC) (rows:List (List AC)) (c6':List AC),H.get b=some (.cells cs)/\cs.take (rows.length*15)=rows.flatten/\(∀e∈rows,e.length=15)/\rows.length<=c/\rows.length<=LIM/\FZL b c 15 rows c6 c6'/\LeC c6' f.enc/\¬ex b)
theorem LeR.set:∀{xs ys:List (List AC)} (k:Nat) {x y:List AC},LeR xs ys->LeC x y->LeR (xs.set k x) (ys.set k y)
 |[],[],_,_,_,_,_=>trivial
 |a::xs,b::ys,0,_,_,h,h'=>⟨h',h.2⟩
 |a::xs,b::ys,k+1,_,_,h,h'=>⟨h.1,LeR.set k h.2 h'⟩
theorem FZL.splice{b c sz:Nat}{rows:List (List AC)}{u u':List AC}(h:FZL b c sz rows u u')(cs:List AC)(o:Nat):FZL b c sz rows (bJ cs o u) (bJ cs o u'):=by
 unfold bJ
 rw[h.length]
 exact((FZL.refl _ _ _ _ _).append h).append (FZL.refl _ _ _ _ _)
theorem qS{E:Env}{H:aj}{n r off:Nat}{g:Option Nat}{cs:List AC}{q q':AC}{R:AC->aj->Prop}(hE:E n=.ptr r off)(hg:H.get r=some (.cells cs))(hq:fR g cs off=some q)
{H':aj}(ht:nJ q H q' H')(h:R q' H'):bi.post [.cell n g] R .ret E H:=
 ⟨q,by simp only[lm,iO,j4.val,hE,hg,hq],q',H',ht,h⟩
section
variable {P:Program}{F:Ids}
def tp(m:Nat)(r:Nat)(bs:List UInt8)(p c:Int):AC->aj->Prop:=RdR r bs p c fun q=>∃pr:Pg,q=.agg (Pg.enc pr)/\(∀f∈pr,f.lo m)/\1<=pr.length/\pr.length<=4+m
theorem rK(L:Lib P F){m:Nat}(hm:m<=9)(r:Nat)(bs:List UInt8)(p c:Int)(E:Env)(H:aj)(p':Int)(pr:Pg)(k:Nat)(hk:k<pr.length)(hpl:pr.length<=4+m)(hpr:∀f∈pr,f.lo m)(X:AC)(c6:List AC)(f:Fu)(hf:f.lo m)(b3 b4 b6:Nat)
(gr:H.get r=some (RdO bs p'))(g3:H.get b3=some (.cells [X]))(g4:H.get b4=some (.cells [NIL]))(g6:H.get b6=some (.cells c6))(hX:∀H',gS H' 12 X=some (pr.map Fu.enc))(hf6:FuAt H (fun d=>d=r\/d=b3\/d=b4\/d=b6) c6 f)
(hr3:r≠b3)(hr4:r≠b4)(d34:b3≠b4)(d36:b3≠b6)(d46:b4≠b6)(hr6:r≠b6)(e3:E 3=.ptr b3 0)(e4:E 4=.ptr b4 0)(e5:E 5=I k)(e6:E 6=.ptr b6 0)(h1:p<=p')(h2:p'<=p+c):
 aW.wp P (.seq (.region false [ef 0 185 (.buildSlice 12 0 [.string (bl []),.slice none 0 0,.bool false,.slice none 0 0,.slice none 0 0,.int .i64 0,.int .i64 0,.string (bl []),.slice none 0 0,.slice none 0 0,.string (bl []),.slice none 0 0] []),pu 1 186 (.fieldAddr 0 (sl 3)),ld 2 187 none (sl 186),ef 3 188 (.appendM 12 216 (sl 185) (sl 187)),pu 4 189 (.fieldAddr 0 (sl 3)),en 5 (.store 1 (sl 189) (sl 188))]) (.seq (.region false [pu 0 190 (.fieldAddr 0 (sl 3)),ld 1 191 none (sl 190),mv 2 192 (sl 5),ld 3 193 (some 12) (sl 6),pu 4 194 (.indexAddr 12 (sl 191) (sl 192)),en 5 (.store 12 (sl 194) (sl 193))]) (.seq (.region false [ld 0 195 (some 1) (sl 3),en 1 (.store 1 (sl 4) (sl 195))]) .ret))) (bi.post [.cell 4 (some 1)] (tp m r bs p c)) E H:=by
 obtain⟨hlen6,hf6⟩:=hf6
 simp only[go_sem,rE,rA,e3,az,av,a6,bh]
 intro b0 hb0
 have hr0:=al gr hb0
 have d30:=al g3 hb0
 have d40:=al g4 hb0
 have d60:=al g6 hb0
 simp only[go_sem,rE,rA,e3,d30,g3,rL]
 have hsz:∀e∈pr.map Fu.enc,e.length=12:=fun e he=>by obtain⟨g,-,rfl⟩:=aY.1 he;exact oj g
 refine qN (b:=b0) (ys:=pr.map Fu.enc) (rfl) (ai _ _ _) (by simp only[go_sem,rE];exact hX _) hsz (by simp;omega) trivial ?_
 intro x' H1 fp1 hR _ keep new
 rcases hR with⟨h0,-⟩|⟨pp,pc,cs,rfl,gp,hcl,hcc,hct⟩
 ·have:pr=[]:=by simpa using h0
  rw[this]at hk;simp at hk
 have in1:∀{d o},H.get d=some o->H1.get d=some o/\d≠pp:=by
  intro d o hd
  have hd0:=al hd hb0
  refine⟨by rw[keep d (by rw[ae _ _ hd0,hd];simp) hd0,ae _ _ hd0];exact hd,?_⟩
  rintro rfl
  rcases new d ⟨_,_,rfl⟩with h|h
  ·exact hd0 h
  ·rw[ae _ _ hd0,hd]at h;simp at h
 obtain⟨gr,dpr⟩:=in1 gr
 obtain⟨g3,dp3⟩:=in1 g3
 obtain⟨g4,dp4⟩:=in1 g4
 obtain⟨g6,dp6⟩:=in1 g6
 have hlim:pr.length<=LIM:=by simp only[LIM];omega
 have hkl:(k:Int)<pr.length:=by omega
 have hko:k*12+12<=cs.length:=by
  rw[am]at hcc
  have:(k+1)*12<=pc*12:=bE _ (by omega)
  omega
 simp only[am]at hct hcc⊢
 simp only[go_sem,rE,rA,e3,e4,e5,e6,g3,g4,g6,d36,Ne.symm d36,d34,Ne.symm d34,d46,dp3,Ne.symm dp3,dp4,Ne.symm dp4,dp6,Ne.symm dp6,gp,hlim,hkl,hlen6,hko,aC,cL,rL]
 have hspl:∀u:List AC,u.length=12->cs.take (k*12)++u++cs.drop (k*12+12)=bJ cs (k*12) u:=fun u hu=>by rw[bJ,hu]
 rw[hspl c6 hlen6]
 have hlenR:∀u,((pr.map Fu.enc).set k u).length=pr.length:=fun u=>by simp
 have hszR:∀u:List AC,u.length=12->∀e∈(pr.map Fu.enc).set k u,e.length=12:=fun u hu e he=>by
  rcases lh he with h|h
  ·exact hsz e h
  ·rw[h];exact hu
 have hrow:∀u:List AC,u.length=12->(bJ cs (k*12) u).take (((pr.map Fu.enc).set k u).length*12)=((pr.map Fu.enc).set k u).flatten:=fun u hu=>
  mA hsz hu (by simp;exact hk) (by simpa using hct)
 have hlo:∀g∈pr.set k f,g.lo m:=fun g hg=>by
  rcases lh hg with h|h
  ·exact hpr g h
  ·rw[h];exact hf
 have hR:∀{q},q=.agg (Pg.enc (pr.set k f))->tp m r bs p c q (one r (RdO bs p')):=fun hq=>⟨p',h1,h2,rfl,pr.set k f,hq,hlo,by simp;omega,by simp;omega⟩
 have last:∀(G:aj) (u:List AC),u.length=12->LeC u f.enc->G.get pp=some (.cells (bJ cs (k*12) u))->G.get r=some (RdO bs p')->nJ (.agg [.lit (.slice (some ⟨pp,0,none⟩) pr.length pc)]) G (.agg (Pg.enc (pr.set k f))) (one r (RdO bs p')):=by
  intro G u hu hle gp gr
  have fr:xB G (one r (RdO bs p')) pp pc 12 ((pr.map Fu.enc).set k u):=⟨gB _ (Ne.symm dpr),fun d o' hd=>.inl (eS gr d o' hd)⟩
  refine(pO gp (hrow u hu) (hszR u hu) (by rw[hlenR];exact hcc) (by rw[hlenR];exact hlim) fr (xs:=[.lit (.slice (some ⟨pp,0,none⟩) pr.length pc)]) (ys:=[.sl 12 none ((pr.map Fu.enc).set k u)]) ⟨.inr ⟨by rw[hlenR],rfl⟩,trivial⟩).trans_le ?_
  refine .agg ⟨⟨.slR ?_,rfl⟩,trivial⟩
  rw[List.map_set]
  exact(uf pr).set k hle
 refine qS (off:=0) (e4) (ai _ _ _) rfl ?_ (hR rfl)
 have gpE:(((H1.set b3 (.cells [.lit (.slice (some ⟨pp,0,none⟩) pr.length pc)])).set pp (.cells (bJ cs (k*12) c6))).set b4 (.cells [.lit (.slice (some ⟨pp,0,none⟩) pr.length pc)])).get pp=some (.cells (bJ cs (k*12) c6)):=by
  rw[ae _ _ (Ne.symm dp4),ai]
 have grE:(((H1.set b3 (.cells [.lit (.slice (some ⟨pp,0,none⟩) pr.length pc)])).set pp (.cells (bJ cs (k*12) c6))).set b4 (.cells [.lit (.slice (some ⟨pp,0,none⟩) pr.length pc)])).get r=some (RdO bs p'):=by
  rw[ae _ _ hr4,ae _ _ dpr,ae _ _ hr3];exact gr
 rcases hf6 with hle|⟨bb,bc,bcs,rows,c6',gb,hb1,hb2,hb3,hb4,hfz,hle,hex⟩
 ·exact last _ c6 hlen6 hle gpE grE
 ·obtain⟨gb,dpb⟩:=in1 gb
  have n3:bb≠b3:=fun h=>hex (.inr (.inl h))
  have n4:bb≠b4:=fun h=>hex (.inr (.inr (.inl h)))
  have nr:bb≠r:=fun h=>hex (.inl h)
  have gbE:(((H1.set b3 (.cells [.lit (.slice (some ⟨pp,0,none⟩) pr.length pc)])).set pp (.cells (bJ cs (k*12) c6))).set b4 (.cells [.lit (.slice (some ⟨pp,0,none⟩) pr.length pc)])).get bb=some (.cells bcs):=by
   rw[ae _ _ n4,ae _ _ dpb,ae _ _ n3];exact gb
  have hlen6':c6'.length=12:=hfz.length▸hlen6
  let G:aj:=(one r (RdO bs p')).set pp (.cells (bJ cs (k*12) c6'))
  have fr:xB (((H1.set b3 (.cells [.lit (.slice (some ⟨pp,0,none⟩) pr.length pc)])).set pp (.cells (bJ cs (k*12) c6))).set b4 (.cells [.lit (.slice (some ⟨pp,0,none⟩) pr.length pc)])) G bb bc 15 rows:=by
   refine⟨by simp only[G];rw[ae _ _ dpb,gB _ nr],fun d o' hd=>?_⟩
   simp only[G]at hd
   by_cases hdp:d=pp
   ·subst hdp
    rw[ai]at hd
    simp at hd;subst hd
    exact .inr ⟨_,_,gpE,rfl,hfz.splice _ _⟩
   ·rw[ae _ _ hdp]at hd
    exact .inl (eS grE d o' hd)
  refine(pO gbE hb1 hb2 hb3 hb4 fr (xs:=[.lit (.slice (some ⟨pp,0,none⟩) pr.length pc)]) (ys:=[.lit (.slice (some ⟨pp,0,none⟩) pr.length pc)]) (FZL.refl _ _ _ _ _)).trans (last G c6' hlen6' hle (ai _ _ _) ?_)
  simp only[G];rw[ae _ _ dpr,bI]
end
structure BAt(H:aj)(r:Nat)(bs:List UInt8)(p:Int)(b3 b4 b6:Nat)(c3 c6:List AC):Prop where
 gr:H.get r=some (RdO bs p)
 g3:H.get b3=some (.cells c3)
 g4:H.get b4=some (.cells [NIL])
 g6:H.get b6=some (.cells c6)
 hr3:r≠b3
 hr4:r≠b4
 hr6:r≠b6
 d34:b3≠b4
 d36:b3≠b6
 d46:b4≠b6
section
variable {H H':aj}{r:Nat}{bs:List UInt8}{p:Int}{b3 b4 b6:Nat}{c3 c6:List AC}
theorem BAt.draw(h:BAt H r bs p b3 b4 b6 c3 c6)(p':Int):BAt (H.set r (RdO bs p')) r bs p' b3 b4 b6 c3 c6:=
 ⟨ai _ _ _,(ae _ _ (Ne.symm h.hr3)).trans h.g3,(ae _ _ (Ne.symm h.hr4)).trans h.g4,(ae _ _ (Ne.symm h.hr6)).trans h.g6,h.hr3,h.hr4,h.hr6,h.d34,h.d36,h.d46⟩
theorem BAt.put(h:BAt H r bs p b3 b4 b6 c3 c6)(c:List AC):BAt (H.set b6 (.cells c)) r bs p b3 b4 b6 c3 c:=
 ⟨(ae _ _ h.hr6).trans h.gr,(ae _ _ h.d36).trans h.g3,(ae _ _ h.d46).trans h.g4,ai _ _ _,h.hr3,h.hr4,h.hr6,h.d34,h.d36,h.d46⟩
theorem BAt.put3(h:BAt H r bs p b3 b4 b6 c3 c6)(c:List AC):BAt (H.set b3 (.cells c)) r bs p b3 b4 b6 c c6:=
 ⟨(ae _ _ h.hr3).trans h.gr,ai _ _ _,(ae _ _ (Ne.symm h.d34)).trans h.g4,(ae _ _ (Ne.symm h.d36)).trans h.g6,h.hr3,h.hr4,h.hr6,h.d34,h.d36,h.d46⟩
theorem BAt.keep(h:BAt H r bs p b3 b4 b6 c3 c6)(hk:∀d cs,H.get d=some (.cells cs)->H'.get d=some (.cells cs)):BAt H' r bs p b3 b4 b6 c3 c6:=
 ⟨hk _ _ h.gr,hk _ _ h.g3,hk _ _ h.g4,hk _ _ h.g6,h.hr3,h.hr4,h.hr6,h.d34,h.d36,h.d46⟩
theorem BAt.new(h:BAt H r bs p b3 b4 b6 c3 c6){b:Nat}(hb:H.get b=none)(o:cP):BAt (H.set b o) r bs p b3 b4 b6 c3 c6:=
 h.keep fun d cs hd=>by rw[ae _ _ (al hd hb)];exact hd
end
theorem jf{H H':aj}{b n m:Nat}(g:H.get b=some (.tail n m))(keep:∀c,H.get c≠none->c≠b->H'.get c=H.get c):∀d cs,H.get d=some (.cells cs)->H'.get d=some (.cells cs):=
 fun d cs hd=>by rw[keep d (by rw[hd];simp) (by rintro rfl;rw[g]at hd;simp at hd)];exact hd
theorem jV(l:List St):∀e∈l.map St.enc,e.length=15:=fun e he=>by obtain⟨s,-,rfl⟩:=aY.1 he;exact Aa s
theorem st_one(s:St):∀x∈s.enc,x.one=true:=by
 rw[St.enc_eq];simp[AC.one,au]
theorem yn:∀p:List St,LeR (p.map St.enc) (p.map St.enc)
 |[]=>trivial
 |f::p=>⟨.refl (st_one f),yn p⟩
theorem pa_len(s:Pa):s.enc.length=3:=by
 rw[Pa.enc,Ty.enc_eq];rfl
theorem row_at{sz:Nat}{rows:List (List AC)}{cs:List AC}(hs:∀e∈rows,e.length=sz)(h:cs.take (rows.length*sz)=rows.flatten){k:Nat}(hk:k<rows.length):(cs.drop (k*sz)).take sz=rows[k]:=by
 have hl:=hs _ (aw hk)
 apply gq
 intro j
 rw[fg]
 split
 ·rename_i hj
  rw[bS]
  exact eR.cell hs h hk hj
 ·rename_i hj
  rw[fM (by omega)]
theorem l5(f':Fu){X T Bd s1 s2 s3 s4 s5 g1 g2:AC}(hX:Le X (.sl 3 none (f'.params.map Pa.enc)))(hT:Le T (.sl 1 none (Ty.encs f'.type.kids)))(hB:Le Bd (.sl 15 none (f'.body.map St.enc)))(hs:LeC [s1,s2,s3,s4,s5] f'.says.enc)(hg:LeC [g1,g2] f'.gives.enc):
 LeC [S f'.name,X,B f'.lent,T,Bd,s1,s2,s3,s4,s5,g1,g2] f'.enc:=AD f' hX hT (by rw[St.encs_map];exact hB) hs hg
section
variable {P:Program}{F:Ids}
theorem zA(L:Lib P F)(r:Nat)(bs:List UInt8)(hbs:bs.length<=2000)(p2:Int)(hp:0<=p2)(hp2:p2+1<=2^50)(f:Fu){m:Nat}(hm:m<=9)(hlo:f.lo m)(hbl:f.body.length<=6+m)(b3 b4 b6:Nat)(c3:List AC)(H3:aj)
(hB:BAt H3 r bs p2 b3 b4 b6 c3 [S f.name,.sl 3 none (f.params.map Pa.enc),B f.lent,.sl 1 none (Ty.encs f.type.kids),.sl 15 none (f.body.map St.enc),I f.says.kind,I f.says.num,S f.says.place.name,au f.says.place.path,.sl 5 none (Ex.encs f.says.kids),S f.gives.name,au f.gives.path])
(K:cQ->Env->aj->Prop)(E:Env)(e0:E 0=.ptr r 0)(e6:E 6=.ptr b6 0)
(jn8:∀(E':Env) (H:aj) (p':Int) (c6:List AC) (f':Fu),f'.lo m->BAt H r bs p' b3 b4 b6 c3 c6->FuAt H (fun d=>d=r\/d=b3\/d=b4\/d=b6) c6 f'->(∀i,(i=0\/i=3\/i=4\/i=5\/i=6)->E' i=E i)->p2<=p'->p'<=p2+1->K .normal E' H):
 aW.wp P (kd30) K E H3:=by
 rw[kd30,fd30]
 have g6:=hB.g6
 have lesays:LeC [I f.says.kind,I f.says.num,S f.says.place.name,au f.says.place.path,.sl 5 none (Ex.encs f.says.kids)] f.says.enc:=by rw[Ex.enc_eq];exact⟨⟨.refl _,rfl⟩,⟨.refl _,rfl⟩,⟨.refl _,rfl⟩,⟨.refl _,rfl⟩,⟨.refl _,rfl⟩,trivial⟩
 have legives:LeC [S f.gives.name,au f.gives.path] f.gives.enc:=⟨⟨.refl _,rfl⟩,⟨.refl _,rfl⟩,trivial⟩
 simp only[go_sem,rE,rA,aG,az,av,a6,rL,bh,e0,e6,g6,am]
 by_cases hb:(1:Int)<f.body.length
 ·have w0:=aJ (n:=(f.body.length:Int) - 1) (by omega) (by omega)
  simp only[hb,decide_true,go_sem,rE,rA,aG,az,av,a6,rL,bh,e0,e6,g6,am,w0]
  refine bp (cN L r bs p2 (f.body.length - 1) hbs (by omega) (by omega)) (rfl) hB.gr (by simp) trivial ?_
  rintro q p3 hp3 hp3' ⟨n0,rfl,hn0,hn1⟩
  have hB1:=hB.draw p3
  generalize H3.set r (RdO bs p3)=H4 at*
  obtain⟨n,rfl⟩:∃n:Nat,n0=(n:Int):=⟨n0.toNat,by omega⟩
  have hnl:n+1<f.body.length:=by omega
  simp only[go_sem,rE,rA,aG,az,av,a6,rL,bh,e0,e6]
  intro b58 hb58
  have hB2:=hB1.new hb58 (.tail 0 0)
  have g58:(H4.set b58 (.tail 0 0)).get b58=_:=ai _ _ _
  have g6:=hB2.g6
  generalize H4.set b58 (.tail 0 0)=H5 at*
  simp only[go_sem,rE,rA,aG,az,av,a6,rL,bh,e0,e6,g6]
  refine qN (b:=b58) (ys:=f.body.map St.enc) (rfl) g58 (rfl) (jV _) (by simp;omega) trivial ?_
  intro x' H6 fp6 hR _ keep new
  rcases hR with⟨h0,-⟩|⟨bb,bc,cs,rfl,gb,hcl,hcc,hct⟩
  ·have:f.body=[]:=by simpa using h0
   rw[this]at hnl;simp at hnl
  have hB3:=hB2.keep (jf g58 keep)
  have hex:∀d o,H5.get d=some (.cells o)->d≠bb:=by
   intro d o hd e
   subst e
   rcases new _ ⟨_,_,rfl⟩with h|h
   ·subst h;rw[g58]at hd;simp at hd
   ·rw[hd]at h;simp at h
  have hb6:=hex _ _ hB2.g6
  have hb3:=hex _ _ hB2.g3
  have hb4:=hex _ _ hB2.g4
  have hbr:=hex _ _ hB2.gr
  have g6:=hB3.g6
  simp only[am]at hcc hct
  have hlim:f.body.length<=LIM:=by simp only[LIM];omega
  have hni:(n:Int)<f.body.length:=by omega
  have hni1:(n:Int)+1<f.body.length:=by omega
  have w1:=aJ (n:=(n:Int)+1) (by omega) (by omega)
  have hn1':(0:Int)<=n+1:=by omega
  have hnt:((n:Int)+1).toNat=n+1:=by omega
  have hmul:(n+2)*15<=bc*15:=bE _ (by omega)
  have hof0:n*15+15<=cs.length:=by omega
  have hof1:(n+1)*15+15<=cs.length:=by omega
  have row:∀j (hj:j<f.body.length),(cs.drop (j*15)).take 15=f.body[j].enc:=fun j hj=>by
   have:=row_at (jV f.body) (by simpa using hct) (k:=j) (by simpa using hj)
   simpa using this
  have r0:=row n (by omega)
  have r1:=row (n+1) hnl
  obtain⟨c0,hc0,C0'⟩:=stC f.body[n]
  obtain⟨c1,hc1,C1'⟩:=stC f.body[n+1]
  rw[hc0]at r0
  rw[hc1]at r1
  simp only[go_sem,rE,rA,aG,az,av,a6,rL,bh,e0,e6,g6,am,hb6,Ne.symm hb6,gb,hlim,hni,hof0,r0,C0'.len,C0'.all]
  have hB4:=hB3.put [S f.name,.sl 3 none (f.params.map Pa.enc),B f.lent,.sl 1 none (Ty.encs f.type.kids),.lit (.slice (some ⟨bb,0,none⟩) f.body.length bc),I f.says.kind,I f.says.num,S f.says.place.name,au f.says.place.path,.sl 5 none (Ex.encs f.says.kids),S f.gives.name,au f.gives.path]
  have gb:(H6.set b6 (.cells [S f.name,.sl 3 none (f.params.map Pa.enc),B f.lent,.sl 1 none (Ty.encs f.type.kids),.lit (.slice (some ⟨bb,0,none⟩) f.body.length bc),I f.says.kind,I f.says.num,S f.says.place.name,au f.says.place.path,.sl 5 none (Ex.encs f.says.kids),S f.gives.name,au f.gives.path])).get bb=_:=(ae _ _ (Ne.symm hb6)).trans gb
  generalize(H6.set b6 (.cells [S f.name,.sl 3 none (f.params.map Pa.enc),B f.lent,.sl 1 none (Ty.encs f.type.kids),.lit (.slice (some ⟨bb,0,none⟩) f.body.length bc),I f.says.kind,I f.says.num,S f.says.place.name,au f.says.place.path,.sl 5 none (Ex.encs f.says.kids),S f.gives.name,au f.gives.path]))=H7 at*
  intro b9 hb9
  have hB5:=hB4.new hb9 (.cells c0)
  have db9:=al gb hb9
  have gb:(H7.set b9 (.cells c0)).get bb=_:=(ae _ _ db9).trans gb
  have g9:(H7.set b9 (.cells c0)).get b9=_:=ai _ _ _
  have g6:=hB5.g6
  generalize H7.set b9 (.cells c0)=H8 at*
  simp only[go_sem,rE,rA,aG,az,av,a6,rL,bh,e0,e6,g6,gb,w1,hn1',hnt,hlim,hni,hni1,hof0,hof1,r1,C1'.len,C1'.all]
  have hs0:cs.take (n*15)++c1++cs.drop (n*15+15)=bJ cs (n*15) c1:=by rw[bJ,C1'.len]
  rw[hs0]
  have hl1:(bJ cs (n*15) c1).length=cs.length:=fm _ _ _ (by rw[C1'.len];exact hof0)
  have hrow1:=mA (jV f.body) (us:=c1) C1'.len (k:=n) (by simp;omega) (by simpa using hct)
  generalize bJ cs (n*15) c1=cs1 at*
  have hB6:BAt (H8.set bb (.cells (cs1))) r bs p3 b3 b4 b6 _ _:=⟨(ae _ _ hbr).trans hB5.gr,(ae _ _ hb3).trans hB5.g3,(ae _ _ hb4).trans hB5.g4,(ae _ _ hb6).trans hB5.g6,hB.hr3,hB.hr4,hB.hr6,hB.d34,hB.d36,hB.d46⟩
  have gb1:(H8.set bb (.cells (cs1))).get bb=_:=ai _ _ _
  have g9:(H8.set bb (.cells (cs1))).get b9=_:=(ae _ _ (Ne.symm db9)).trans g9
  have g6:=hB6.g6
  generalize H8.set bb (.cells (cs1))=H9 at*
  rw[<-hl1]at hof1
  simp only[go_sem,rE,rA,aG,az,av,a6,rL,bh,e0,e6,g6,gb1,g9,w1,hn1',hnt,hlim,hni,hni1,hof1,C0'.len,C0'.all]
  have hs1:cs1.take ((n+1)*15)++c0++cs1.drop ((n+1)*15+15)=bJ cs1 ((n+1)*15) c0:=by rw[bJ,C0'.len]
  rw[hs1]
  have hsz1:∀e∈(f.body.map St.enc).set n c1,e.length=15:=fun e he=>by
   rcases lh he with h|h
   ·exact jV _ e h
   ·rw[h];exact C1'.len
  have hrow2:=mA hsz1 (us:=c0) C0'.len (k:=n+1) (by simp;omega) hrow1
  have hmap:((f.body.map St.enc).set n c1).set (n+1) c0=((f.body.set n f.body[n+1]).set (n+1) f.body[n]).map St.enc:=by rw[List.map_set,List.map_set,hc0,hc1]
  rw[hmap]at hrow2
  have hmem:∀s∈(f.body.set n f.body[n+1]).set (n+1) f.body[n],s∈f.body:=fun s hs=>by
   rcases lh hs with h|h
   ·rcases lh h with h|h
    ·exact h
    ·rw[h];exact aw _
   ·rw[h];exact aw _
  have hB7:BAt (H9.set bb (.cells (bJ cs1 ((n+1)*15) c0))) r bs p3 b3 b4 b6 _ _:=⟨(ae _ _ hbr).trans hB6.gr,(ae _ _ hb3).trans hB6.g3,(ae _ _ hb4).trans hB6.g4,(ae _ _ hb6).trans hB6.g6,hB.hr3,hB.hr4,hB.hr6,hB.d34,hB.d36,hB.d46⟩
  refine jn8 _ _ p3 _ {f with body:=(f.body.set n f.body[n+1]).set (n+1) f.body[n]} ⟨hlo.pars,hlo.ptys,hlo.ty,by simp;omega,fun s hs=>hlo.bcnt s (hmem s hs),fun s hs=>hlo.bsm s (hmem s hs),hlo.says⟩ hB7 ⟨rfl,.inr ⟨bb,bc,_,((f.body.set n f.body[n+1]).set (n+1) f.body[n]).map St.enc,[S f.name,.sl 3 none (f.params.map Pa.enc),B f.lent,.sl 1 none (Ty.encs f.type.kids),.sl 15 none (((f.body.set n f.body[n+1]).set (n+1) f.body[n]).map St.enc),I f.says.kind,I f.says.num,S f.says.place.name,au f.says.place.path,.sl 5 none (Ex.encs f.says.kids),S f.gives.name,au f.gives.path],
   ai _ _ _,hrow2,jV _,by simp;omega,by simp;exact hlim,⟨.inl rfl,.inl rfl,.inl rfl,.inl rfl,.inr ⟨by simp,rfl⟩,.inl rfl,.inl rfl,.inl rfl,.inl rfl,.inl rfl,.inl rfl,.inl rfl,trivial⟩,
   l5 {f with body:=(f.body.set n f.body[n+1]).set (n+1) f.body[n]} (.refl _) (.refl _) (.refl _) lesays legives,?_⟩⟩ (fun i hi=>by rcases hi with rfl|rfl|rfl|rfl|rfl<;>simp only[go_sem,rE]) (by omega) (by omega)
  rintro(h|h|h|h)
  ·exact hbr h.symm
  ·exact hb3 h.symm
  ·exact hb4 h.symm
  ·exact hb6 h.symm
 ·simp only[hb,decide_false,go_sem,rE,rA,aG,az,av,a6,rL,bh,e0,e6]
  exact jn8 _ _ p2 _ f hlo hB ⟨rfl,.inl (l5 f (.refl _) (.refl _) (.refl _) lesays legives)⟩ (fun i hi=>by rcases hi with rfl|rfl|rfl|rfl|rfl<;>simp only[go_sem,rE]) (by omega) (by omega)
theorem zr(L:Lib P F)(r:Nat)(bs:List UInt8)(hbs:bs.length<=2000)(pr:Pg){m:Nat}(hm:m<=8)(hpr:∀f∈pr,f.lo m)(hl1:1<=pr.length)(hl2:pr.length<=4+m)(p:Int)(hp:0<=p)(hp2:p+200<=2^50):
 bA P 67 [.ptr r 0,.agg (Pg.enc pr)] (one r (RdO bs p)) (tp (m+1) r bs p 200):=by
 refine(L.a Tryz.func67 y67) (by simp[y67,f67]) ?_
 simp only[y67,f67,go_sem,rE,rA,Pg.enc]
 intro b3 hb3 b4 hb4
 have hr3:r≠b3:=by rintro rfl;rw[bI]at hb3;simp at hb3
 have d34:b3≠b4:=od hb4
 have hr4:r≠b4:=by rintro rfl;rw[ae _ _ hr3,bI]at hb4;simp at hb4
 have gr:(((one r (RdO bs p)).set b3 (.cells [.sl 12 none (pr.map Fu.enc)])).set b4 (.cells [NIL])).get r=some (RdO bs p):=by rw[ae _ _ hr4,ae _ _ hr3,bI]
 have g3:(((one r (RdO bs p)).set b3 (.cells [.sl 12 none (pr.map Fu.enc)])).set b4 (.cells [NIL])).get b3=some (.cells [.sl 12 none (pr.map Fu.enc)]):=by rw[ae _ _ d34,ai]
 have g4:(((one r (RdO bs p)).set b3 (.cells [.sl 12 none (pr.map Fu.enc)])).set b4 (.cells [NIL])).get b4=some (.cells [NIL]):=ai _ _ _
 generalize(((one r (RdO bs p)).set b3 (.cells [.sl 12 none (pr.map Fu.enc)])).set b4 (.cells [NIL]))=H0 at*
 clear hb3 hb4
 simp only[go_sem,rE,rA,g3,am]
 refine bp (cN L r bs p pr.length hbs hp (by omega)) (rfl) gr (by simp) trivial ?_
 rintro q p1 hp1 hp1' ⟨k,rfl,hk0,hk1⟩
 have g3:(H0.set r (RdO bs p1)).get b3=_:=(ae _ _ (Ne.symm hr3)).trans g3
 have g4:(H0.set r (RdO bs p1)).get b4=_:=(ae _ _ (Ne.symm hr4)).trans g4
 have gr:(H0.set r (RdO bs p1)).get r=_:=ai _ _ _
 generalize H0.set r (RdO bs p1)=H1 at*
 have hkl:k.toNat<pr.length:=by omega
 obtain⟨f,hf⟩:∃f,f=pr[k.toNat]:=⟨_,rfl⟩
 have hgood:f.lo m:=hf▸hpr _ (aw hkl)
 have hget:(pr.map Fu.enc)[k.toNat]?=some [S f.name,.sl 3 none (f.params.map Pa.enc),B f.lent,.sl 1 none (Ty.encs f.type.kids),.sl 15 none (f.body.map St.enc),I f.says.kind,I f.says.num,S f.says.place.name,au f.says.place.path,.sl 5 none (Ex.encs f.says.kids),S f.gives.name,au f.gives.path]:=by
  rw[<-rt,hf];simp[hkl]
 simp only[go_sem,rE,rA,g3,hk0,hget,rL]
 intro b6 hb6
 have hr6:=al gr hb6
 have d36:=al g3 hb6
 have d46:=al g4 hb6
 let C:ByteArray->AC->Bool->AC->AC->AC->AC->AC->AC->AC->AC->AC->List AC:=fun nm X ln T Bd s1 s2 s3 s4 s5 g1 g2=>[S nm,X,B ln,T,Bd,s1,s2,s3,s4,s5,g1,g2]
 let C0:List AC:=[S f.name,.sl 3 none (f.params.map Pa.enc),B f.lent,.sl 1 none (Ty.encs f.type.kids),.sl 15 none (f.body.map St.enc),I f.says.kind,I f.says.num,S f.says.place.name,au f.says.place.path,.sl 5 none (Ex.encs f.says.kids),S f.gives.name,au f.gives.path]
 have gr:(H1.set b6 (.cells C0)).get r=_:=(ae _ _ hr6).trans gr
 have g3:(H1.set b6 (.cells C0)).get b3=_:=(ae _ _ d36).trans g3
 have g4:(H1.set b6 (.cells C0)).get b4=_:=(ae _ _ d46).trans g4
 have g6:(H1.set b6 (.cells C0)).get b6=some (.cells C0):=ai _ _ _
 simp only[C0]at gr g3 g4 g6
 generalize(H1.set b6 (.cells [S f.name,.sl 3 none (f.params.map Pa.enc),B f.lent,.sl 1 none (Ty.encs f.type.kids),.sl 15 none (f.body.map St.enc),I f.says.kind,I f.says.num,S f.says.place.name,au f.says.place.path,.sl 5 none (Ex.encs f.says.kids),S f.gives.name,au f.gives.path]))=H2 at*
 clear hb6
 refine bp (cN L r bs p1 12 hbs (by omega) (by omega)) (rfl) gr (by simp) trivial ?_
 rintro q p2 hp2' hp2'' ⟨k2,rfl,hk20,hk21⟩
 have hB:BAt (H2.set r (RdO bs p2)) r bs p2 b3 b4 b6 _ _:=(BAt.mk gr g3 g4 g6 hr3 hr4 hr6 d34 d36 d46).draw p2
 generalize H2.set r (RdO bs p2)=H3 at*
 clear gr g3 g4 g6
 have hlo:=hgood.up
 have hbl:=hgood.blen
 have hplo:∀g∈pr,g.lo (m+1):=fun g hg=>(hpr g hg).up
 have jn:∀(E:Env) (H:aj) (p':Int) (c6:List AC) (f':Fu),f'.lo (m+1)->BAt H r bs p' b3 b4 b6 [.sl 12 none (pr.map Fu.enc)] c6->LeC c6 f'.enc->
  E 3=.ptr b3 0->E 4=.ptr b4 0->E 5=I k->E 6=.ptr b6 0->p<=p'->p'<=p+200->aW.wp P (.seq (rg [ef 0 185 (.buildSlice 12 0 [.string (bl []),.slice none 0 0,.bool false,.slice none 0 0,.slice none 0 0,.int .i64 0,.int .i64 0,.string (bl []),.slice none 0 0,.slice none 0 0,.string (bl []),.slice none 0 0] []),fa 1 186 0 3,ld 2 187 none 186,ef 3 188 (.appendM 12 216 185 187),fa 4 189 0 3,en 5 (.store 1 189 188)]) (.seq (rg [fa 0 190 0 3,ld 1 191 none 190,mv 2 192 5,ld 3 193 (some 12) 6,ia 4 194 12 191 192,en 5 (.store 12 194 193)]) (.seq (rg [ld 0 195 (some 1) 3,en 1 (.store 1 4 195)]) .ret))) (bi.post [.cell 4 (some 1)] (tp (m+1) r bs p 200)) E H:=by
  intro E H p' c6 f' hf' h hle e3 e4 e5 e6 h1 h2
  exact rK L (m:=m+1) (by omega) r bs p 200 E H p' pr k.toNat hkl (by omega) hplo _ c6 f' hf' b3 b4 b6 h.gr h.g3 h.g4 h.g6 (fun H'=>rfl) ⟨by rw[hle.length,oj],.inl hle⟩ h.hr3 h.hr4 h.d34 h.d36 h.d46 h.hr6 e3 e4 (by rw[e5];congr 2;omega) e6 h1 h2
 have jn8:∀(E:Env) (H:aj) (p':Int) (c6:List AC) (f':Fu),f'.lo (m+1)->BAt H r bs p' b3 b4 b6 [.sl 12 none (pr.map Fu.enc)] c6->FuAt H (fun d=>d=r\/d=b3\/d=b4\/d=b6) c6 f'->
  E 3=.ptr b3 0->E 4=.ptr b4 0->E 5=I k->E 6=.ptr b6 0->p<=p'->p'<=p+200->aW.wp P (.seq (rg [ef 0 185 (.buildSlice 12 0 [.string (bl []),.slice none 0 0,.bool false,.slice none 0 0,.slice none 0 0,.int .i64 0,.int .i64 0,.string (bl []),.slice none 0 0,.slice none 0 0,.string (bl []),.slice none 0 0] []),fa 1 186 0 3,ld 2 187 none 186,ef 3 188 (.appendM 12 216 185 187),fa 4 189 0 3,en 5 (.store 1 189 188)]) (.seq (rg [fa 0 190 0 3,ld 1 191 none 190,mv 2 192 5,ld 3 193 (some 12) 6,ia 4 194 12 191 192,en 5 (.store 12 194 193)]) (.seq (rg [ld 0 195 (some 1) 3,en 1 (.store 1 4 195)]) .ret))) (bi.post [.cell 4 (some 1)] (tp (m+1) r bs p 200)) E H:=by
  intro E H p' c6 f' hf' h hle e3 e4 e5 e6 h1 h2
  exact rK L (m:=m+1) (by omega) r bs p 200 E H p' pr k.toNat hkl (by omega) hplo _ c6 f' hf' b3 b4 b6 h.gr h.g3 h.g4 h.g6 (fun H'=>rfl) hle h.hr3 h.hr4 h.d34 h.d36 h.d46 h.hr6 e3 e4 (by rw[e5];congr 2;omega) e6 h1 h2
 have jn11:∀(E:Env) (H:aj) (tok:Option (Nat×Nat×Nat)) (pr':Pg),k.toNat<pr'.length->pr'.length<=4+(m+1)->(∀g∈pr',g.lo (m+1))->BAt H r bs p2 b3 b4 b6 [.sl 12 tok (pr'.map Fu.enc)] f.enc->
  E 3=.ptr b3 0->E 4=.ptr b4 0->E 5=I k->E 6=.ptr b6 0->aW.wp P (kd29) (bi.post [.cell 4 (some 1)] (tp (m+1) r bs p 200)) E H:=by
  intro E H tok pr' h1 h2 h3 h e3 e4 e5 e6
  rw[kd29,fd29]
  exact rK L (m:=m+1) (by omega) r bs p 200 E H p2 pr' k.toNat h1 h2 h3 _ f.enc f hlo b3 b4 b6 h.gr h.g3 h.g4 h.g6 (fun H'=>rfl) ⟨oj f,.inl (.refl (AN f))⟩ h.hr3 h.hr4 h.d34 h.d36 h.d46 h.hr6 e3 e4 (by rw[e5];congr 2;omega) e6 (by omega) (by omega)
 have lesays:LeC [I f.says.kind,I f.says.num,S f.says.place.name,au f.says.place.path,.sl 5 none (Ex.encs f.says.kids)] f.says.enc:=by rw[Ex.enc_eq];exact⟨⟨.refl _,rfl⟩,⟨.refl _,rfl⟩,⟨.refl _,rfl⟩,⟨.refl _,rfl⟩,⟨.refl _,rfl⟩,trivial⟩
 have legives:LeC [S f.gives.name,au f.gives.path] f.gives.enc:=⟨⟨.refl _,rfl⟩,⟨.refl _,rfl⟩,trivial⟩
 have g3:=hB.g3
 have g6:=hB.g6
 have sw:=fun K E e0 e6=>zA (F:=F) L r bs hbs p2 (by omega) (by omega) f (m:=m+1) (by omega) hlo (by omega) b3 b4 b6 _ H3 hB K E e0 e6
 have hk:k2=0\/k2=1\/k2=2\/k2=3\/k2=4\/k2=5\/k2=6\/k2=7\/k2=8\/k2=9\/k2=10\/k2=11:=by omega
 rcases hk with rfl|rfl|rfl|rfl|rfl|rfl|rfl|rfl|rfl|rfl|rfl|rfl
 all_goals simp only[go_sem,rE,rA,aG,az,av,a6,rL,bh,g3,g6,am]
 ·
  intro b0 hb0
  have hB1:=hB.new hb0 (.tail 5 5)
  generalize H3.set b0 (.tail 5 5)=H4 at*
  refine bp (zas:=[.ptr r 0,.sl 1 (some (b0,5,5)) (jU [bl [],bl [102,97],bl [70],bl [116,111,111,108,111,110,103],bl [122,122]])]) ((c_of L r bs hbs [bl [],bl [102,97],bl [70],bl [116,111,111,108,111,110,103],bl [122,122]] (by simp) (by simp) p2 (by omega) (by omega)).args ⟨.refl _,.tok _ _ _,trivial⟩) (rfl) hB1.gr (by simp) trivial ?_
  rintro q p3 hp3 hp3' ⟨s,rfl⟩
  have hB2:=hB1.draw p3
  have g6:=hB2.g6
  generalize H4.set r (RdO bs p3)=H5 at*
  simp only[go_sem,rE,rA,aG,az,av,a6,rL,bh,g6]
  exact jn _ _ p3 _ {f with name:=s} ⟨hlo.pars,hlo.ptys,hlo.ty,hlo.blen,hlo.bcnt,hlo.bsm,hlo.says⟩ (hB2.put _) (l5 {f with name:=s} (.refl _) (.refl _) (.refl _) lesays legives) (by first|rfl|simp only[go_sem,rE]) (by first|rfl|simp only[go_sem,rE]) (by first|rfl|simp only[go_sem,rE]) (by first|rfl|simp only[go_sem,rE]) (by omega) (by omega)
 ·
  refine bp (te L r bs hbs p2 (by omega) (by omega)) (rfl) hB.gr (by simp) trivial ?_
  rintro q p3 hp3 hp3' ⟨t,rfl,ht⟩
  have hB1:=hB.draw p3
  have g6:=hB1.g6
  generalize H3.set r (RdO bs p3)=H4 at*
  simp only[go_sem,rE,rA,aG,az,av,a6,rL,bh,Ty.enc_eq t,g6]
  exact jn _ _ p3 _ {f with type:=t} ⟨hlo.pars,hlo.ptys,ht,hlo.blen,hlo.bcnt,hlo.bsm,hlo.says⟩ (hB1.put _) (l5 {f with type:=t} (.refl _) (.refl _) (.refl _) lesays legives) (by first|rfl|simp only[go_sem,rE]) (by first|rfl|simp only[go_sem,rE]) (by first|rfl|simp only[go_sem,rE]) (by first|rfl|simp only[go_sem,rE]) (by omega) (by omega)
 ·
  exact jn _ _ p2 _ {f with lent:=!f.lent} ⟨hlo.pars,hlo.ptys,hlo.ty,hlo.blen,hlo.bcnt,hlo.bsm,hlo.says⟩ (hB.put _) (l5 {f with lent:=!f.lent} (.refl _) (.refl _) (.refl _) lesays legives) (by first|rfl|simp only[go_sem,rE]) (by first|rfl|simp only[go_sem,rE]) (by first|rfl|simp only[go_sem,rE]) (by first|rfl|simp only[go_sem,rE]) (by omega) (by omega)
 ·
  by_cases hb:(0:Int)<f.body.length
  ·simp only[hb,decide_true,go_sem,rE,rA,aG,az,av,a6,rL,bh,g6,am]
   refine bp (cN L r bs p2 f.body.length hbs (by omega) (by omega)) (rfl) hB.gr (by simp) trivial ?_
   rintro q p3 hp3 hp3' ⟨n,rfl,hn0,hn1⟩
   have hB1:=hB.draw p3
   have g6:=hB1.g6
   generalize H3.set r (RdO bs p3)=H4 at*
   simp only[go_sem,rE,rA,aG,az,av,a6,rL,bh,g6]
   intro b58 hb58
   have hB2:=hB1.new hb58 (.tail 0 0)
   have g58:(H4.set b58 (.tail 0 0)).get b58=_:=ai _ _ _
   have g6:=hB2.g6
   generalize H4.set b58 (.tail 0 0)=H5 at*
   have hnl:n.toNat<f.body.length:=by omega
   have w1:=aJ (n:=n+1) (by omega) (by omega)
   have hn2:n<=f.body.length:=by omega
   have hnl':n.toNat<=f.body.length:=by omega
   have hn1':(0:Int)<=n+1:=by omega
   have hnt:(n+1).toNat<=f.body.length:=by omega
   simp only[go_sem,rE,rA,aG,az,av,a6,rL,bh,g6,am,hn0,hn2,hnl',fD]
   refine eo (es:=[]) (ys:=(f.body.map St.enc).take n.toNat) (rfl) g58 (rfl) (fun e he=>jV _ e (bF he)) (by simp;omega) ?_
   intro bt nt mt H6 fp6 gt keep hbt hfb
   have hB3:=hB2.keep (jf g58 keep)
   have nf6:¬fp6 b6:=fun h=>by have:=hfb _ h;rw[g6]at this;simp at this
   have g6:=hB3.g6
   simp only[go_sem,rE,rA,aG,az,av,a6,rL,bh,g6,am,w1,hn1',hnt,aC]
   refine⟨by simp;exact nf6,?_⟩
   refine eo (es:=(f.body.map St.enc).take n.toNat) (ys:=((f.body.map St.enc).take f.body.length).drop (n+1).toNat) (rfl) gt (rfl) (fun e he=>jV _ e (bF (fZ he))) (by simp;omega) ?_
   intro bt2 nt2 mt2 H7 fp7 gt2 keep2 hbt2 hfb2
   have hB4:=hB3.keep (jf gt keep2)
   have g6:=hB4.g6
   simp only[go_sem,rE,rA,aG,az,av,a6,rL,bh,g6]
   have hmem:∀s∈f.body.take n.toNat++f.body.drop (n+1).toNat,s∈f.body:=fun s hs=>by
    rcases aF.1 hs with h|h
    ·exact bF h
    ·exact fZ h
   refine jn _ _ p3 _ {f with body:=f.body.take n.toNat++f.body.drop (n+1).toNat} ⟨hlo.pars,hlo.ptys,hlo.ty,by simp;omega,fun s hs=>hlo.bcnt s (hmem s hs),fun s hs=>hlo.bsm s (hmem s hs),hlo.says⟩ (hB4.put _) (l5 {f with body:=f.body.take n.toNat++f.body.drop (n+1).toNat} (.refl _) (.refl _) ?_ lesays legives) (by first|rfl|simp only[go_sem,rE]) (by first|rfl|simp only[go_sem,rE]) (by first|rfl|simp only[go_sem,rE]) (by first|rfl|simp only[go_sem,rE]) (by omega) (by omega)
   rw[bv,ig,List.map_drop]
   have:(f.body.map St.enc).take f.body.length=f.body.map St.enc:=by rw[cL (by simp)]
   rw[this]
   exact .tok _ _ _
  ·simp only[hb,decide_false,go_sem,rE,rA,aG,az,av,a6,rL,bh]
   exact jn _ _ p2 _ f hlo hB (l5 f (.refl _) (.refl _) (.refl _) lesays legives) (by first|rfl|simp only[go_sem,rE]) (by first|rfl|simp only[go_sem,rE]) (by first|rfl|simp only[go_sem,rE]) (by first|rfl|simp only[go_sem,rE]) (by omega) (by omega)
 ·
  by_cases hb:(0:Int)<f.body.length
  ·simp only[hb,decide_true,go_sem,rE,rA,aG,az,av,a6,rL,bh,g6,am]
   intro b58 hb58
   have hB2:=hB.new hb58 (.tail 0 0)
   have g58:(H3.set b58 (.tail 0 0)).get b58=_:=ai _ _ _
   have g6:=hB2.g6
   generalize H3.set b58 (.tail 0 0)=H5 at*
   simp only[go_sem,rE,rA,aG,az,av,a6,rL,bh,g6]
   refine eo (es:=[]) (ys:=f.body.map St.enc) (rfl) g58 (rfl) (jV _) (by simp;omega) ?_
   intro bt nt mt H6 fp6 gt keep hbt hfb
   have hB3:=hB2.keep (jf g58 keep)
   have nf6:¬fp6 b6:=fun h=>by have:=hfb _ h;rw[g6]at this;simp at this
   have g6:=hB3.g6
   simp only[go_sem,rE,rA,aG,az,av,a6,rL,bh,g6,am]
   refine⟨by simp;exact nf6,by simp;exact nf6,?_⟩
   refine bp (cN L r bs p2 f.body.length hbs (by omega) (by omega)) (rfl) hB3.gr (fun _=>⟨by omega,I 0,0,rfl,by omega,.inr rfl⟩) (by simp[dZ];exact Ne.symm hr6) ?_
   rintro q p3 hp3 hp3' ⟨m,rfl,hm0,hm1⟩
   have hB4:=hB3.draw p3
   have hnt:bt≠r:=by rintro rfl;rw[hB3.gr]at gt;simp[RdO]at gt
   have gt:(H6.set r (RdO bs p3)).get bt=_:=(ae _ _ hnt).trans gt
   generalize H6.set r (RdO bs p3)=H7 at*
   have hml:m.toNat<f.body.length:=by omega
   obtain⟨cs,hcs,Cs⟩:=stC f.body[m.toNat]
   have hgm:(f.body.map St.enc)[m.toNat]?=some cs:=by rw[<-hcs];simp[hml]
   simp only[go_sem,rE,rA,aG,az,av,a6,rL,bh,hm0,hgm,Cs.len,Cs.all]
   refine eo (es:=f.body.map St.enc) (ys:=[cs]) (rfl) gt (rfl) (by simp[Cs.len]) (by simp;omega) ?_
   intro bt2 nt2 mt2 H8 fp8 gt2 keep2 hbt2 hfb2
   have hB5:=hB4.keep (jf gt keep2)
   have g6:=hB5.g6
   simp only[go_sem,rE,rA,aG,az,av,a6,rL,bh,g6]
   have hmem:∀s∈f.body++[f.body[m.toNat]],s∈f.body:=fun s hs=>by
    rcases aF.1 hs with h|h
    ·exact h
    ·simp at h;rw[h];exact aw hml
   refine jn _ _ p3 _ {f with body:=f.body++[f.body[m.toNat]]} ⟨hlo.pars,hlo.ptys,hlo.ty,by simp;omega,fun s hs=>hlo.bcnt s (hmem s hs),fun s hs=>hlo.bsm s (hmem s hs),hlo.says⟩ (hB5.put _) (l5 {f with body:=f.body++[f.body[m.toNat]]} (.refl _) (.refl _) ?_ lesays legives) (by first|rfl|simp only[go_sem,rE]) (by first|rfl|simp only[go_sem,rE]) (by first|rfl|simp only[go_sem,rE]) (by first|rfl|simp only[go_sem,rE]) (by omega) (by omega)
   rw[bv,aT,bz,hcs]
   exact .tok _ _ _
  ·simp only[hb,decide_false,go_sem,rE,rA,aG,az,av,a6,rL,bh]
   exact jn _ _ p2 _ f hlo hB (l5 f (.refl _) (.refl _) (.refl _) lesays legives) (by first|rfl|simp only[go_sem,rE]) (by first|rfl|simp only[go_sem,rE]) (by first|rfl|simp only[go_sem,rE]) (by first|rfl|simp only[go_sem,rE]) (by omega) (by omega)
 ·
  intro b58 hb58
  have hB2:=hB.new hb58 (.tail 0 0)
  have g58:(H3.set b58 (.tail 0 0)).get b58=_:=ai _ _ _
  have g6:=hB2.g6
  generalize H3.set b58 (.tail 0 0)=H5 at*
  simp only[go_sem,rE,rA,aG,az,av,a6,rL,bh,g6]
  refine eo (es:=[]) (ys:=f.params.map Pa.enc) (rfl) g58 (rfl) (by simp;intro s _;exact pa_len s) (by have:=hgood.pars;simp;omega) ?_
  intro bt nt mt H6 fp6 gt keep hbt hfb
  have hB3:=hB2.keep (jf g58 keep)
  simp only[go_sem,rE,rA,aG,az,av,a6,rL,bh]
  intro b0 hb0
  have d0t:=al gt hb0
  have hB4:=hB3.new hb0 (.tail 3 3)
  have gt:(H6.set b0 (.tail 3 3)).get bt=_:=(ae _ _ d0t).trans gt
  generalize H6.set b0 (.tail 3 3)=H7 at*
  refine bp (zas:=[.ptr r 0,.sl 1 (some (b0,3,3)) (jU [bl [112],bl [122],bl [90]])]) ((c_of L r bs hbs [bl [112],bl [122],bl [90]] (by simp) (by simp) p2 (by omega) (by omega)).args ⟨.refl _,.tok _ _ _,trivial⟩) (rfl) hB4.gr (by simp) trivial ?_
  rintro q p3 hp3 hp3' ⟨s,rfl⟩
  have hB5:=hB4.draw p3
  have hnt:bt≠r:=by rintro rfl;rw[hB4.gr]at gt;simp[RdO]at gt
  have gt:(H7.set r (RdO bs p3)).get bt=_:=(ae _ _ hnt).trans gt
  generalize H7.set r (RdO bs p3)=H8 at*
  simp only[go_sem,rE,rA,aG,az,av,a6,rL,bh]
  refine bp (te L r bs hbs p3 (by omega) (by omega)) (rfl) hB5.gr (by simp) trivial ?_
  rintro q p4 hp4 hp4' ⟨t,rfl,ht⟩
  have hB6:=hB5.draw p4
  have gt:(H8.set r (RdO bs p4)).get bt=_:=(ae _ _ hnt).trans gt
  generalize H8.set r (RdO bs p4)=H9 at*
  simp only[go_sem,rE,rA,aG,az,av,a6,rL,bh,Ty.enc_eq t]
  refine eo (es:=f.params.map Pa.enc) (ys:=[[S s,B false,.sl 1 none (Ty.encs t.kids)]]) (rfl) gt (rfl) (by simp) (by have:=hgood.pars;simp;omega) ?_
  intro bt2 nt2 mt2 H10 fp10 gt2 keep2 hbt2 hfb2
  have hB7:=hB6.keep (jf gt keep2)
  have g6:=hB7.g6
  simp only[go_sem,rE,rA,aG,az,av,a6,rL,bh,g6]
  refine jn _ _ p4 _ {f with params:=f.params++[⟨s,false,t⟩]} ⟨by have:=hgood.pars;simp;omega,fun x hx=>?_,hlo.ty,hlo.blen,hlo.bcnt,hlo.bsm,hlo.says⟩ (hB7.put _) (l5 {f with params:=f.params++[⟨s,false,t⟩]} ?_ (.refl _) (.refl _) lesays legives) (by first|rfl|simp only[go_sem,rE]) (by first|rfl|simp only[go_sem,rE]) (by first|rfl|simp only[go_sem,rE]) (by first|rfl|simp only[go_sem,rE]) (by omega) (by omega)
  ·rcases aF.1 hx with h|h
   ·exact hlo.ptys x h
   ·simp at h;subst h;exact ht
  ·rw[bv,aT,bz,Pa.enc,Ty.enc_eq t]
   exact .tok _ _ _
 ·
  intro b0 hb0
  have hB4:=hB.new hb0 (.tail 3 3)
  generalize H3.set b0 (.tail 3 3)=H7 at*
  refine bp (zas:=[.ptr r 0,.sl 1 (some (b0,3,3)) (jU [bl [112],bl [113],bl [122,122]])]) ((c_of L r bs hbs [bl [112],bl [113],bl [122,122]] (by simp) (by simp) p2 (by omega) (by omega)).args ⟨.refl _,.tok _ _ _,trivial⟩) (rfl) hB4.gr (by simp) trivial ?_
  rintro q p3 hp3 hp3' ⟨s,rfl⟩
  have hB5:=hB4.draw p3
  generalize H7.set r (RdO bs p3)=H8 at*
  simp only[go_sem,rE,rA,aG,az,av,a6,rL,bh]
  refine bp (cN L r bs p3 3 hbs (by omega) (by omega)) (rfl) hB5.gr (by simp) trivial ?_
  rintro q p4 hp4 hp4' ⟨m,rfl,hm0,hm1⟩
  have hB6:=hB5.draw p4
  generalize H8.set r (RdO bs p4)=H9 at*
  have w1:=aJ (n:=m - 1) (by omega) (by omega)
  simp only[go_sem,rE,rA,aG,az,av,a6,rL,bh,w1]
  intro b1 hb1
  have hB7:=hB6.new hb1 (.tail 1 1)
  generalize H9.set b1 (.tail 1 1)=H10 at*
  refine bp (cN L r bs p4 2 hbs (by omega) (by omega)) (rfl) hB7.gr (by simp) trivial ?_
  rintro q p5 hp5 hp5' ⟨n,rfl,hn0,hn1⟩
  have hB8:=hB7.draw p5
  have g6:=hB8.g6
  generalize H10.set r (RdO bs p5)=H11 at*
  have hn01:n=0\/n=1:=by omega
  have hn1':n.toNat<=1:=by omega
  simp only[go_sem,rE,rA,aG,az,av,a6,rL,bh,g6,hn0,hn1',fD]
  refine jn _ _ p5 _ {f with gives:=⟨s,[m - 1].take n.toNat⟩} ⟨hlo.pars,hlo.ptys,hlo.ty,hlo.blen,hlo.bcnt,hlo.bsm,hlo.says⟩ (hB8.put _) (l5 {f with gives:=⟨s,[m - 1].take n.toNat⟩} (.refl _) (.refl _) (.refl _) lesays ⟨⟨.refl _,rfl⟩,⟨?_,rfl⟩,trivial⟩) (by first|rfl|simp only[go_sem,rE]) (by first|rfl|simp only[go_sem,rE]) (by first|rfl|simp only[go_sem,rE]) (by first|rfl|simp only[go_sem,rE]) (by omega) (by omega)
  rcases hn01 with rfl|rfl
  ·exact .refl _
  ·exact .refl _
 ·
  refine bp (cN L r bs p2 8 hbs (by omega) (by omega)) (rfl) hB.gr (by simp) trivial ?_
  rintro q p3 hp3 hp3' ⟨n,rfl,hn0,hn1⟩
  have hB1:=hB.draw p3
  generalize H3.set r (RdO bs p3)=H4 at*
  simp only[go_sem,rE,rA,aG,az,av,a6,rL,bh]
  refine bp (cN L r bs p3 3 hbs (by omega) (by omega)) (rfl) hB1.gr (by simp) trivial ?_
  rintro q p4 hp4 hp4' ⟨m,rfl,hm0,hm1⟩
  have hB2:=hB1.draw p4
  have g6:=hB2.g6
  generalize H4.set r (RdO bs p4)=H5 at*
  simp only[go_sem,rE,rA,aG,az,av,a6,rL,bh,g6]
  refine jn _ _ p4 _ {f with says:=.mk n m ⟨bl [112],[]⟩ []} ⟨hlo.pars,hlo.ptys,hlo.ty,hlo.blen,hlo.bcnt,hlo.bsm,.mk (by omega) (by simp)⟩ (hB2.put _) (l5 {f with says:=.mk n m ⟨bl [112],[]⟩ []} (.refl _) (.refl _) (.refl _) ?_ legives) (by first|rfl|simp only[go_sem,rE]) (by first|rfl|simp only[go_sem,rE]) (by first|rfl|simp only[go_sem,rE]) (by first|rfl|simp only[go_sem,rE]) (by omega) (by omega)
  rw[Ex.enc]
  exact⟨⟨.refl _,rfl⟩,⟨.refl _,rfl⟩,⟨.refl _,rfl⟩,⟨.nil 1,rfl⟩,⟨.nil 5,rfl⟩,trivial⟩
 ·
  exact sw _ _ (by first|rfl|simp only[go_sem,rE]) (by first|rfl|simp only[go_sem,rE]) fun E' H' p' c6 f' hf' hB' hA he h1 h2=>jn8 E' H' p' c6 f' hf' hB' hA ((he 3 (by decide)).trans (by first|rfl|simp only[go_sem,rE])) ((he 4 (by decide)).trans (by first|rfl|simp only[go_sem,rE])) ((he 5 (by decide)).trans (by first|rfl|simp only[go_sem,rE])) ((he 6 (by decide)).trans (by first|rfl|simp only[go_sem,rE])) (by omega) (by omega)
 ·
  exact sw _ _ (by first|rfl|simp only[go_sem,rE]) (by first|rfl|simp only[go_sem,rE]) fun E' H' p' c6 f' hf' hB' hA he h1 h2=>jn8 E' H' p' c6 f' hf' hB' hA ((he 3 (by decide)).trans (by first|rfl|simp only[go_sem,rE])) ((he 4 (by decide)).trans (by first|rfl|simp only[go_sem,rE])) ((he 5 (by decide)).trans (by first|rfl|simp only[go_sem,rE])) ((he 6 (by decide)).trans (by first|rfl|simp only[go_sem,rE])) (by omega) (by omega)
 ·
  intro b58 hb58
  have hB2:=hB.new hb58 (.tail 0 0)
  have g58:(H3.set b58 (.tail 0 0)).get b58=_:=ai _ _ _
  have g6:=hB2.g6
  generalize H3.set b58 (.tail 0 0)=H5 at*
  simp only[go_sem,rE,rA,aG,az,av,a6,rL,bh,g6]
  refine eo (es:=[]) (ys:=f.body.map St.enc) (rfl) g58 (rfl) (jV _) (by simp;omega) ?_
  intro bt nt mt H6 fp6 gt keep hbt hfb
  have hB3:=hB2.keep (jf g58 keep)
  simp only[go_sem,rE,rA,aG,az,av,a6,rL,bh]
  intro b0 hb0
  have d0t:=al gt hb0
  have hB4:=hB3.new hb0 (.tail 6 6)
  have gt:(H6.set b0 (.tail 6 6)).get bt=_:=(ae _ _ d0t).trans gt
  generalize H6.set b0 (.tail 6 6)=H7 at*
  refine bp (zas:=[.ptr r 0,.sl 1 (some (b0,6,6)) (jU [bl [112],bl [113],bl [97,98],bl [97,99],bl [97,100],bl [97,101]])]) ((c_of L r bs hbs [bl [112],bl [113],bl [97,98],bl [97,99],bl [97,100],bl [97,101]] (by simp) (by simp) p2 (by omega) (by omega)).args ⟨.refl _,.tok _ _ _,trivial⟩) (rfl) hB4.gr (by simp) trivial ?_
  rintro q p3 hp3 hp3' ⟨s,rfl⟩
  have hB5:=hB4.draw p3
  have hnt:bt≠r:=by rintro rfl;rw[hB4.gr]at gt;simp[RdO]at gt
  have gt:(H7.set r (RdO bs p3)).get bt=_:=(ae _ _ hnt).trans gt
  generalize H7.set r (RdO bs p3)=H8 at*
  simp only[go_sem,rE,rA,aG,az,av,a6,rL,bh]
  refine eo (es:=f.body.map St.enc) (ys:=[[I 1,S (bl [122,122]),S (bl []),NIL,S (bl []),NIL,I 2,I 0,S s,NIL,NIL,S (bl []),NIL,NIL,NIL]]) (rfl) gt (rfl) (by simp) (by simp;omega) ?_
  intro bt2 nt2 mt2 H10 fp10 gt2 keep2 hbt2 hfb2
  have hB7:=hB5.keep (jf gt keep2)
  have g6:=hB7.g6
  simp only[go_sem,rE,rA,aG,az,av,a6,rL,bh,g6]
  have hxs:(Ex.mk 2 0 ⟨s,[]⟩ []).sm:=.mk (by decide) (by simp)
  obtain⟨c1,c2⟩:=lK 1 (bl [122,122]) P0 P0 (.mk 2 0 ⟨s,[]⟩ []) hxs
  refine jn _ _ p3 _ {f with body:=f.body++[.mk 1 (bl [122,122]) P0 P0 (.mk 2 0 ⟨s,[]⟩ []) (bl []) [] [] []]} ⟨hlo.pars,hlo.ptys,hlo.ty,by simp;omega,fun x hx=>?_,fun x hx=>?_,hlo.says⟩ (hB7.put _) (l5 {f with body:=f.body++[.mk 1 (bl [122,122]) P0 P0 (.mk 2 0 ⟨s,[]⟩ []) (bl []) [] [] []]} (.refl _) (.refl _) ?_ lesays legives) (by first|rfl|simp only[go_sem,rE]) (by first|rfl|simp only[go_sem,rE]) (by first|rfl|simp only[go_sem,rE]) (by first|rfl|simp only[go_sem,rE]) (by omega) (by omega)
  ·rcases aF.1 hx with h|h
   ·exact hlo.bcnt x h
   ·simp at h;subst h;omega
  ·rcases aF.1 hx with h|h
   ·exact hlo.bsm x h
   ·simp at h;subst h;exact c2.up (by omega)
  ·rw[bv,aT,bz]
   refine .slR ((yn f.body).snoc ?_)
   rw[St.enc_eq]
   exact⟨⟨.refl _,rfl⟩,⟨.refl _,rfl⟩,⟨.refl _,rfl⟩,⟨.nil 1,rfl⟩,⟨.refl _,rfl⟩,⟨.nil 1,rfl⟩,⟨.refl _,rfl⟩,⟨.refl _,rfl⟩,⟨.refl _,rfl⟩,⟨.nil 1,rfl⟩,⟨.nil 5,rfl⟩,⟨.refl _,rfl⟩,⟨.nil 8,rfl⟩,⟨.nil 15,rfl⟩,⟨.nil 15,rfl⟩,trivial⟩
 ·
  intro b58 hb58
  have hB2:=hB.new hb58 (.tail 0 0)
  have g58:(H3.set b58 (.tail 0 0)).get b58=_:=ai _ _ _
  have g3:=hB2.g3
  generalize H3.set b58 (.tail 0 0)=H5 at*
  simp only[go_sem,rE,rA,aG,az,av,a6,rL,bh,g3]
  refine eo (es:=[]) (ys:=pr.map Fu.enc) (rfl) g58 (rfl) (by simp;intro g _;exact oj g) (by simp;omega) ?_
  intro bt nt mt H6 fp6 gt keep hbt hfb
  have nf6:¬fp6 b6:=fun h=>by have:=hfb _ h;rw[hB2.g6]at this;simp at this
  have hB3:=hB2.keep (jf g58 keep)
  have g6:=hB3.g6
  simp only[go_sem,rE,rA,aG,az,av,a6,rL,bh,g6]
  refine⟨by simp;exact nf6,?_⟩
  refine eo (es:=pr.map Fu.enc) (ys:=[f.enc]) (rfl) gt (by simp only[go_sem,rE];rw[rt]) (by simp[oj]) (by simp;omega) ?_
  intro bt2 nt2 mt2 H8 fp8 gt2 keep2 hbt2 hfb2
  have hB5:=hB3.keep (jf gt keep2)
  have g3:=hB5.g3
  simp only[go_sem,rE,rA,aG,az,av,a6,rL,bh,g3]
  have hB6:=hB5.put3 [.sl 12 (some (bt2,nt2,mt2)) (pr.map Fu.enc++[f.enc])]
  rw[<-rt]at hB6
  have e1:pr.map Fu.enc++[f.enc]=(pr++[f]).map Fu.enc:=by simp
  rw[e1]at hB6⊢
  exact jn11 _ _ _ (pr++[f]) (by simp;omega) (by simp;omega) (fun g hg=>by rcases aF.1 hg with h|h;exact hplo g h;simp at h;rw[h];exact hlo) hB6 (by first|rfl|simp only[go_sem,rE]) (by first|rfl|simp only[go_sem,rE]) (by first|rfl|simp only[go_sem,rE]) (by first|rfl|simp only[go_sem,rE])
end
section
variable {P:Program}{F:Ids}
def drawn(m:Nat)(pr:Pg):Prop:=(∀f∈pr,f.lo m)/\1<=pr.length/\pr.length<=4+m
theorem zo(L:Lib P F)(r:Nat)(bs:List UInt8)(hbs:bs.length<=2000)(p:Int)(hp:0<=p)(hp2:p+6*FC<=2^50):
 bA P 42 [.ptr r 0] (one r (RdO bs p)) (RdR r bs p (6*FC) fun q=>∃pr:Pg,q=.agg (Pg.enc pr)/\drawn 1 pr):=by
 simp only[FC]at hp2
 refine(L.a Tryz.func42 y42) (by simp[y42]) ?_
 simp only[y42,go_sem,rE,rA]
 intro b2 hb2
 have hr2:r≠b2:=by rintro rfl;rw[bI]at hb2;simp at hb2
 have gr:((one r (RdO bs p)).set b2 (.cells [NIL])).get r=some (RdO bs p):=by rw[ae _ _ hr2,bI]
 have g2:((one r (RdO bs p)).set b2 (.cells [NIL])).get b2=some (.cells [NIL]):=ai _ _ _
 generalize((one r (RdO bs p)).set b2 (.cells [NIL]))=H0 at*
 clear hb2
 refine bp (zp L r bs hbs p hp (by simp only[FC];omega)) (rfl) gr (by simp) trivial ?_
 rintro q p1 hp1 hp1' ⟨pr,rfl,hgood,hl1,hl2⟩
 simp only[FC]at hp1'
 have g2:(H0.set r (RdO bs p1)).get b2=_:=(ae _ _ (Ne.symm hr2)).trans g2
 have gr:(H0.set r (RdO bs p1)).get r=_:=ai _ _ _
 generalize H0.set r (RdO bs p1)=H1 at*
 simp only[go_sem,rE,rA,Pg.enc]
 intro b3 hb3
 have hr3:=al gr hb3
 have d23:=al g2 hb3
 have gr:(H1.set b3 (.cells [.sl 12 none (pr.map Fu.enc)])).get r=_:=(ae _ _ hr3).trans gr
 have g2:(H1.set b3 (.cells [.sl 12 none (pr.map Fu.enc)])).get b2=_:=(ae _ _ d23).trans g2
 have g3:(H1.set b3 (.cells [.sl 12 none (pr.map Fu.enc)])).get b3=_:=ai _ _ _
 generalize H1.set b3 (.cells [.sl 12 none (pr.map Fu.enc)])=H2 at*
 clear hb3
 refine bp (cN L r bs p1 5 hbs (by omega) (by omega)) (rfl) gr (by simp) trivial ?_
 rintro q p2 hp2 hp2' ⟨k,rfl,hk0,hk1⟩
 have g2:(H2.set r (RdO bs p2)).get b2=_:=(ae _ _ (Ne.symm hr2)).trans g2
 have g3:(H2.set r (RdO bs p2)).get b3=_:=(ae _ _ (Ne.symm hr3)).trans g3
 have gr:(H2.set r (RdO bs p2)).get r=_:=ai _ _ _
 generalize H2.set r (RdO bs p2)=H3 at*
 by_cases hk:k=0
 ·simp only[hk,go_sem,rE,rA,aG,g3,rL]
  refine bp (zr L r bs hbs pr (m:=0) (by omega) (fun f hf=>(hgood f hf).lo) hl1 hl2 p2 (by omega) (by omega)) (by simp only[go_sem,rE,Pg.enc]) gr (by simp) trivial ?_
  rintro q p3 hp3 hp3' ⟨pr',rfl,hlo,hl1',hl2'⟩
  have g2:(H3.set r (RdO bs p3)).get b2=_:=(ae _ _ (Ne.symm hr2)).trans g2
  have gr:(H3.set r (RdO bs p3)).get r=_:=ai _ _ _
  generalize H3.set r (RdO bs p3)=H4 at*
  simp only[go_sem,rE,rA,g2,Pg.enc,rL]
  exact bV (q':=.agg (Pg.enc pr')) (off:=0) (rfl) (ai _ _ _) rfl (.refl _) (eS (by rw[ae _ _ hr2];exact gr)) ⟨p3,by omega,by simp only[FC];omega,rfl,pr',rfl,hlo,hl1',hl2'⟩
 ·have hk':(k==0)=false:=by simpa using hk
  simp only[hk',go_sem,rE,rA,g2,g3,rL]
  exact bV (q':=.agg (Pg.enc pr)) (off:=0) (rfl) (ai _ _ _) rfl (.refl _) (eS (by rw[ae _ _ hr2];exact gr)) ⟨p2,by omega,by simp only[FC];omega,rfl,pr,rfl,fun f hf=>(hgood f hf).lo.up,hl1,by omega⟩
def fA(bs:List UInt8):List (List AC):=bs.map fun b=>[AC.lit (.int .u8 (b.toNat:Int))]
theorem Bl(L:Lib P F)(bs:List UInt8)(hl:bs.length<=2^30):bA P 27 [.sl 1 none (fA bs)] .empty fun q H'=>∃r bs',q=.ptr r 0/\H'=one r (RdO bs' 0)/\bs'.length<=2000:=by
 refine(L.a Tryz.func27 y27) (by simp[y27]) ?_
 have hlen:(fA bs).length=bs.length:=by simp[fA]
 by_cases h:(2000:Int)<bs.length
 ·have h2:2000<=bs.length:=by omega
  have h3:(0:Int)<=2000:=by decide
  have h4:(2000:Int).toNat=2000:=rfl
  simp only[y27,go_sem,rE,rA,hlen,h,h2,h3,h4,decide_true,fD,dS,Int.reduceToNat]
  intro r hr
  refine ak (q':=.ptr r 0) (by simp only[go_sem,rE];exact .refl _) (aj.sub_refl _) ⟨r,bs.take 2000,rfl,?_,by simp;omega⟩
  simp only[RdO,fA,ig]
  rfl
 ·simp only[y27,go_sem,rE,rA,hlen,h,decide_false]
  intro r hr
  exact ak (q':=.ptr r 0) (by simp only[go_sem,rE];exact .refl _) (aj.sub_refl _) ⟨r,bs,rfl,rfl,by omega⟩
end
theorem js{E:Env}{H:aj}{n m k r off:Nat}{g:Option Nat}{cs:List AC}{q q1:AC}{R:AC->aj->Prop}(hE:E n=.ptr r off)(hg:H.get r=some (.cells cs))(hq:fR g cs off=some q)
(hl:Le q q1){H':aj}(hs:H'.sub H)(h:R (.tup [q1,E m,E k]) H'):bi.post [.cell n g,.slot m,.slot k] R .ret E H:=
 ⟨.tup [q,E m,E k],by simp only[lm,iO,j4.val,hE,hg,hq],_,H',.of (Le.tup (show LeA [q,E m,E k] [q1,E m,E k]from⟨hl,.refl _,.refl _,trivial⟩)) hs,h⟩
section
variable {P:Program}{F:Ids}
theorem zn(L:Lib P F)(r:Nat)(bs:List UInt8)(hbs:bs.length<=2000)(p:Int)(hp:0<=p)(hp2:p+7*FC<=2^50):
 bA P 26 [.ptr r 0] (one r (RdO bs p)) (RdR r bs p (7*FC) fun q=>∃(pr:Pg) (fn n:Int),q=.tup [.agg (Pg.enc pr),I fn,I n]/\drawn 1 pr):=by
 simp only[FC]at hp2
 refine(L.a Tryz.func26 y26) (by simp[y26]) ?_
 simp only[y26,go_sem,rE,rA]
 intro b2 hb2
 have hr2:r≠b2:=by rintro rfl;rw[bI]at hb2;simp at hb2
 have gr:((one r (RdO bs p)).set b2 (.cells [NIL])).get r=some (RdO bs p):=by rw[ae _ _ hr2,bI]
 have g2:((one r (RdO bs p)).set b2 (.cells [NIL])).get b2=some (.cells [NIL]):=ai _ _ _
 generalize((one r (RdO bs p)).set b2 (.cells [NIL]))=H0 at*
 clear hb2
 refine bp (zo L r bs hbs p hp (by simp only[FC];omega)) (rfl) gr (by simp) trivial ?_
 rintro q p1 hp1 hp1' ⟨pr,rfl,hd⟩
 simp only[FC]at hp1'
 have g2:(H0.set r (RdO bs p1)).get b2=_:=(ae _ _ (Ne.symm hr2)).trans g2
 have gr:(H0.set r (RdO bs p1)).get r=_:=ai _ _ _
 generalize H0.set r (RdO bs p1)=H1 at*
 simp only[go_sem,rE,rA,Pg.enc]
 intro b5 hb5
 have hr5:=al gr hb5
 have d25:=al g2 hb5
 have hdl:=hd.2.2
 have hd1:=hd.2.1
 have gr:(H1.set b5 (.cells [.sl 12 none (pr.map Fu.enc)])).get r=_:=(ae _ _ hr5).trans gr
 have g2:(H1.set b5 (.cells [.sl 12 none (pr.map Fu.enc)])).get b2=_:=(ae _ _ d25).trans g2
 have g5:(H1.set b5 (.cells [.sl 12 none (pr.map Fu.enc)])).get b5=_:=ai _ _ _
 generalize H1.set b5 (.cells [.sl 12 none (pr.map Fu.enc)])=H2 at*
 clear hb5
 refine bp (cN L r bs p1 pr.length hbs (by omega) (by omega)) (by simp only[go_sem,rE,am]) gr (by simp) trivial ?_
 rintro q p2 hp2 hp2' ⟨k,rfl,hk0,hk1⟩
 have g2:(H2.set r (RdO bs p2)).get b2=_:=(ae _ _ (Ne.symm hr2)).trans g2
 have g5:(H2.set r (RdO bs p2)).get b5=_:=(ae _ _ (Ne.symm hr5)).trans g5
 have gr:(H2.set r (RdO bs p2)).get r=_:=ai _ _ _
 generalize H2.set r (RdO bs p2)=H3 at*
 obtain⟨k,rfl⟩:=dK hk0
 have hkl:k<pr.length:=by omega
 obtain⟨cf,hcf,CF⟩:=fuC pr[k]
 have hgf:(pr.map Fu.enc)[k]?=some cf:=by rw[<-hcf];simp[hkl]
 have cfb:(cf.drop 4)[0]?=some (.sl 15 none (St.encs pr[k].body)):=by rw[bS];exact CF.body
 have hel:(St.encs pr[k].body).length=pr[k].body.length:=by rw[St.encs_map,am]
 have hbl:=(hd.1 pr[k] (aw hkl)).blen
 have w1:=aJ (n:=(pr[k].body.length:Int)+1) (by omega) (by omega)
 simp only[go_sem,rE,rA,rL,g5,hgf,CF.len,CF.body,cfb,hel,w1]
 refine bp (cN L r bs p2 (pr[k].body.length+1) hbs (by omega) (by omega)) (by simp only[go_sem,rE]) gr (by simp) trivial ?_
 rintro q p3 hp3 hp3' ⟨m,rfl,hm0,hm1⟩
 have g2:(H3.set r (RdO bs p3)).get b2=_:=(ae _ _ (Ne.symm hr2)).trans g2
 have g5:(H3.set r (RdO bs p3)).get b5=_:=(ae _ _ (Ne.symm hr5)).trans g5
 have gr:(H3.set r (RdO bs p3)).get r=_:=ai _ _ _
 generalize H3.set r (RdO bs p3)=H4 at*
 simp only[go_sem,rE,rA,rL]
 refine bp (cN L r bs p3 20 hbs (by omega) (by omega)) (by simp only[go_sem,rE]) gr (by simp) trivial ?_
 rintro q p4 hp4 hp4' ⟨j,rfl,hj0,hj1⟩
 have g2:(H4.set r (RdO bs p4)).get b2=_:=(ae _ _ (Ne.symm hr2)).trans g2
 have g5:(H4.set r (RdO bs p4)).get b5=_:=(ae _ _ (Ne.symm hr5)).trans g5
 have gr:(H4.set r (RdO bs p4)).get r=_:=ai _ _ _
 generalize H4.set r (RdO bs p4)=H5 at*
 simp only[go_sem,rE,rA,rL]
 have hch:∀a b:AC,bh 1 2 [a,b]=[[a],[b]]:=fun _ _=>rfl
 have hg0:∀a b:List AC,[a,b][Int.toNat 0]?=some a:=fun _ _=>rfl
 have hg1:∀a b:List AC,[a,b][Int.toNat 1]?=some b:=fun _ _=>rfl
 have h00:(0:Int)<=0:=dD _
 have h01:(0:Int)<=1:=by decide
 by_cases h0:j=0
 ·have h0':(j==0)=true:=by simpa using h0
  simp only[go_sem,rE,rA,rL,h0',g5,am,az,av,a6,hch,jy,ba,bY,or_false,forall_eq]
  refine bp (cN L r bs p4 2 hbs (by omega) (by omega)) (rfl) gr (fun _=>⟨by omega,I 0,0,rfl,dD _,.inr rfl⟩) (by simp[dZ];exact fun h=>hr5 h.symm) ?_
  rintro q p5 hp5 hp5' ⟨x,rfl,hx0,hx1⟩
  have g2:(H5.set r (RdO bs p5)).get b2=_:=(ae _ _ (Ne.symm hr2)).trans g2
  have g5:(H5.set r (RdO bs p5)).get b5=_:=(ae _ _ (Ne.symm hr5)).trans g5
  have gr:(H5.set r (RdO bs p5)).get r=_:=ai _ _ _
  generalize H5.set r (RdO bs p5)=H6 at*
  have hx:x=0\/x=1:=by omega
  rcases hx with rfl|rfl
  ·simp only[go_sem,rE,rA,rL,hg0,h00,g5,g2]
   exact js (q1:=.agg (Pg.enc pr)) (off:=0) rfl (ai _ _ _) rfl (.refl _) (eS (by rw[ae _ _ hr2];exact gr)) ⟨p5,by omega,by simp only[FC];omega,rfl,pr,_,_,rfl,hd⟩
  ·simp only[go_sem,rE,rA,rL,hg1,h01,g5,g2]
   exact js (q1:=.agg (Pg.enc pr)) (off:=0) rfl (ai _ _ _) rfl (.refl _) (eS (by rw[ae _ _ hr2];exact gr)) ⟨p5,by omega,by simp only[FC];omega,rfl,pr,_,_,rfl,hd⟩
 have h0':(j==0)=false:=by simpa using h0
 by_cases h1:j=1
 ·have h1':(j==1)=true:=by simpa using h1
  simp only[go_sem,rE,rA,rL,h0',h1',g5,hgf,CF.len,CF.body,cfb,hel,w1,am,az,av,a6,hch,jy,ba,bY,or_false,forall_eq]
  refine bp (cN L r bs p4 2 hbs (by omega) (by omega)) (rfl) gr (fun _=>⟨by omega,I 0,0,rfl,dD _,.inr rfl⟩) (by simp[dZ];exact fun h=>hr5 h.symm) ?_
  rintro q p5 hp5 hp5' ⟨x,rfl,hx0,hx1⟩
  have g2:(H5.set r (RdO bs p5)).get b2=_:=(ae _ _ (Ne.symm hr2)).trans g2
  have g5:(H5.set r (RdO bs p5)).get b5=_:=(ae _ _ (Ne.symm hr5)).trans g5
  have gr:(H5.set r (RdO bs p5)).get r=_:=ai _ _ _
  generalize H5.set r (RdO bs p5)=H6 at*
  have hx:x=0\/x=1:=by omega
  rcases hx with rfl|rfl
  ·simp only[go_sem,rE,rA,rL,hg0,h00,g5,g2]
   exact js (q1:=.agg (Pg.enc pr)) (off:=0) rfl (ai _ _ _) rfl (.refl _) (eS (by rw[ae _ _ hr2];exact gr)) ⟨p5,by omega,by simp only[FC];omega,rfl,pr,_,_,rfl,hd⟩
  ·simp only[go_sem,rE,rA,rL,hg1,h01,g5,g2]
   exact js (q1:=.agg (Pg.enc pr)) (off:=0) rfl (ai _ _ _) rfl (.refl _) (eS (by rw[ae _ _ hr2];exact gr)) ⟨p5,by omega,by simp only[FC];omega,rfl,pr,_,_,rfl,hd⟩
 have h1':(j==1)=false:=by simpa using h1
 simp only[go_sem,rE,rA,rL,h0',h1',g5,g2]
 exact js (q1:=.agg (Pg.enc pr)) (off:=0) rfl (ai _ _ _) rfl (.refl _) (eS (by rw[ae _ _ hr2];exact gr)) ⟨p4,by omega,by simp only[FC];omega,rfl,pr,_,_,rfl,hd⟩
end
theorem tW{P:Program}{F:Ids}(L:Lib P F)(bs:List UInt8)(hl:bs.length<=2^30):bA P 11 [.sl 1 none (fA bs)] .empty fun q H'=>H'=.empty/\∃(pr:Pg) (fn n:Int),q=.tup [.agg (Pg.enc pr),I fn,I n]/\drawn 1 pr:=by
 refine(L.a Tryz.func11 y11) (by simp[y11]) ?_
 simp only[y11,go_sem,rE,rA]
 intro b2 hb2
 have h0:(aj.empty.set b2 (.cells [NIL])).only (fun _=>False)=.empty:=aj.ext fun b=>by rw[cg (by simp)];rfl
 have hc:=Bl L bs hl
 rw[<-h0]at hc
 refine gK (fun _=>False) hc (rfl) (.refl _) (by simp) trivial ?_
 rintro q H' H1 ⟨r,bs',rfl,rfl,hbs'⟩ hsub hafter hnew -
 have gr:H1.get r=some (RdO bs' 0):=hsub _ _ (bI _ _)
 have g2:H1.get b2=some (.cells [NIL]):=by rw[hafter.out b2 (by simp) (by rw[ai];simp),ai]
 have hr2:r≠b2:=by rintro rfl;rw[gr]at g2;simp[RdO]at g2
 simp only[go_sem,rE,rA]
 refine bp (zn L r bs' hbs' 0 (by omega) (by simp[FC])) (rfl) gr (by simp) trivial ?_
 rintro q p1 hp1 hp1' ⟨pr,fn,n,rfl,hd⟩
 have g2:(H1.set r (RdO bs' p1)).get b2=_:=(ae _ _ (Ne.symm hr2)).trans g2
 generalize H1.set r (RdO bs' p1)=H2 at*
 simp only[go_sem,rE,rA,g2,Pg.enc,rL]
 exact js (q1:=.agg (Pg.enc pr)) (off:=0) rfl (ai _ _ _) rfl (.refl _) (aj.sub_empty _) ⟨rfl,pr,fn,n,rfl,hd⟩
section
variable {P:Program}{F:Ids}
end
theorem A9{f:Fu}{m:Nat}(h:f.lo m):bC f.body<=1000*(6+m):=by
 have key:∀l:List St,(∀s∈l,s.cnt<=1000)->bC l<=1000*l.length:=by
  intro l
  induction l with
  |nil=>intro _;rw[eW];omega
  |cons s l ih=>
   intro h
   have h1:=h s (by simp)
   have h2:=ih fun x hx=>h x (by simp[hx])
   rw[dg,aU];omega
 have:=key f.body h.bcnt
 have:=h.blen
 omega
theorem drawn.fit{m:Nat}{p:Pg}(h:drawn m p)(hm:m<=4):p.fit:=by
 refine⟨fun f hf=>⟨?_,(h.1 f hf).bsm⟩,fun f hf=>⟨(h.1 f hf).pars.1,?_⟩⟩
 ·have:=A9 (h.1 f hf);omega
 ·have:=A9 (h.1 f hf);omega
section
variable {P:Program}{F:Ids}{er:bX}
end
noncomputable def wsS(p:Pg)(fn n:Int):List Vr:=match atS p fn n with|none=>[]|some v=>v.vars.filter fun x=>!x.dead
def lz(x:Vr):Bool:=x.lent&&!x.param
theorem AA(p:Pg)(fn n:Int):oN p fn n=(wsS p fn n).filter lz:=by
 unfold oN wsS
 cases atS p fn n with
 |none=>rfl
 |some v=>
  simp only[sR,List.filter_filter]
  apply List.filter_congr
  intro x _
  cases h:x.lent<;>cases h':x.param<;>cases h2:x.dead<;>simp[kA,lz,h,h',h2]
theorem y7(p:Pg)(fn n:Int):(match jc p fn n with|none=>[]|some e=>fH e.vars)=(oN p fn n).map eZ:=by
 unfold oN
 rcases at_sim p fn n with⟨h1,h2⟩|⟨v,e,h1,h2,hr⟩
 ·rw[h1,h2];rfl
 ·rw[h1,h2]
  simp only
  rw[hr.vars,dv];rfl
theorem wsS_ok(p:Pg)(fn n:Int):(wsS p fn n).length<=2^30/\((wsS p fn n).map (·.name)).Nodup/\(∀x∈wsS p fn n,x.loans.length<=2^30)/\∀x∈wsS p fn n,∀q∈x.loans,q.path.length<=2^30:=by
 unfold wsS
 cases ha:atS p fn n with
 |none=>simp
 |some v=>
  obtain⟨pi,st⟩:=vM ha
  have hg:=st.good
  exact⟨ce (fL _ _) hg.len,(List.filter_sublist.map _).nodup hg.nd,fun x hx=>hg.ll x (cA.1 hx).1,fun x hx=>hg.lp x (cA.1 hx).1⟩
theorem lN{a:List Vr}{k:Nat}(h:k<a.length):(a.map eZ)[k]?=some [S a[k].name,.sl 2 none (a[k].loans.map Pl.enc)]:=by simp[h,eZ]
section
variable {P:Program}{F:Ids}
theorem Bf(L:Lib P F){p:Pg}(hf:p.fit)(hpl:p.length<=2^20)(fn n:Int):bA P 12 [.agg (Pg.enc p),I fn,I n] .empty fun q H'=>q=.sl 2 none ((oN p fn n).map eZ)/\H'=.empty:=
 (zj L hf hpl fn n).mono fun q H' h=>by rw[<-y7];exact h
theorem zm(L:Lib P F)(a:List Vr)(hl:a.length<=2^30)(h1:∀x∈a,x.loans.length<=2^30)(h2:∀x∈a,∀q∈x.loans,q.path.length<=2^30):cJ P 14 [.sl 2 none (a.map eZ),.sl 2 none (a.map eZ)] (B true):=by
 refine(L.a Tryz.func14 y14) (by simp[y14]) ?_
 simp only[y14,go_sem,rE,rA,rL,am,df,de,dx]
 refine aO a.length (fun k E' H'=>E' 0=.sl 2 none (a.map eZ)/\E' 1=.sl 2 none (a.map eZ)/\E' 5=I k) ⟨rfl,rfl,rfl⟩ ?_
 rintro k E H hk ⟨q0,q1,q5⟩
 simp only[go_sem,rE,rA,rL,q0,q5,am]
 refine aE (fun hlt=>?_) (fun hge=>?_)
 ·have hk1:k<a.length:=by omega
  have w1:=aJ (n:=(k:Int)+1) (by omega) (by omega)
  have hgr:=lN hk1
  have hx1:=h1 _ (aw hk1)
  have hx2:=h2 _ (aw hk1)
  generalize a[k]=x at*
  simp only[go_sem,rE,rA,rL,q0,q1,q5,hgr,am,df,de,dx]
  refine aO x.loans.length (fun j E2 H2=>E2 0=.sl 2 none (a.map eZ)/\E2 1=.sl 2 none (a.map eZ)/\E2 5=I k/\E2 6=I j) ⟨q0,q1,q5,rfl⟩ ?_
  rintro j E2 H2 hj ⟨r0,r1,r5,r6⟩
  simp only[go_sem,rE,rA,rL,r0,r5,r6,hgr,am]
  refine aE (fun hlt2=>?_) (fun hge2=>?_)
  ·have hj1:j<x.loans.length:=by omega
   have w2:=aJ (n:=(j:Int)+1) (by omega) (by omega)
   have hgp:(x.loans.map Pl.enc)[j]?=some [S x.loans[j].name,au x.loans[j].path]:=by simp[hj1,Pl.enc]
   have hcp:=zl L x.loans[j] x.loans[j] (by have:=hx2 _ (aw hj1);omega)
   simp only[Pl.enc,dx]at hcp
   generalize x.loans[j]=y at*
   simp only[go_sem,rE,rA,rL,r0,r1,r5,r6,hgr,hgp]
   refine ao hcp rfl ?_
   simp only[go_sem,rE,rA,rL,r0,r1,r5,r6,w2]
   exact⟨hj1,H2,aj.sub_refl _,rfl⟩
  ·simp only[go_sem,rE,rA,rL,r0,r1,r5,w1]
   exact⟨hk1,H2,aj.sub_refl _,rfl⟩
 ·simp only[go_sem,rE,rA,rL]
  exact ak (.refl _) (aj.sub_empty _) ⟨rfl,rfl⟩
end
structure lC(Q:Prop)(vs:List Vr):Prop where
 cl:∀x∈vs,x.dead=false->x.lent=true->∀q∈x.loans,dW vs q.name=false
 ap:∀x∈vs,∀y∈vs,x.name≠y.name->x.dead=false->x.lent=true->y.dead=false->y.lent=true->∀q∈x.loans,∀r∈y.loans,q.meet r=false
 pl:∀x∈vs,x.param=true->x.loans=[]/\x.dead=false/\(x.lent=true->Q)
 ne:∀x∈vs,x.lent=true->x.param=false->x.loans≠[]
def HInv(vs:List Vr)(held:List Pl):Prop:=∀h∈held,dW vs h.name=false/\∀x∈vs,x.dead=false->x.lent=true->∀q∈x.loans,q.meet h=false
structure Sc.G(Q:Prop)(v:Sc):Prop where
 ok:jZ v.vars
 inv:lC Q v.vars
 held:v.lost=false->HInv v.vars v.held
theorem yP{a b:Pl}(h:a.meet b=true):a.name=b.name:=by
 unfold Pl.meet at h
 simp only[ay]at h
 exact of_decide_eq_true h.1
theorem yi(K:List ByteArray)(vs:List Vr)(n:ByteArray):dW (K.foldl gR vs) n=(dW vs n||K.any fun m=>eqB m n):=by
 rw[iW]
 unfold dW
 rw[List.find?_map]
 have:((fun x:Vr=>eqB x.name n)∘fun x:Vr=>if K.any (fun m=>eqB m x.name)then {x with dead:=true}else x)=fun x=>eqB x.name n:=by
  funext x
  simp only[Function.comp]
  split<;>rfl
 rw[this]
 cases h:vs.find? (fun x=>eqB x.name n)with
 |none=>simp
 |some x=>
  have hx:x.name=n:=by have:=List.find?_some h;exact cw.1 this
  subst hx
  simp only[bO]
  cases hk:K.any (fun m=>eqB m x.name)<;>simp
theorem dW_mem{vs:List Vr}{n:ByteArray}(h:dW vs n=false):∃x∈vs,x.name=n/\x.dead=false:=by
 unfold dW at h
 split at h
 ·rename_i x hf
  exact⟨x,List.mem_of_find?_eq_some hf,by have:=List.find?_some hf;exact cw.1 this,h⟩
 ·simp at h
theorem AY{vs:List Vr}(hnd:(vs.map (·.name)).Nodup){x:Vr}(hx:x∈vs):dW vs x.name=x.dead:=by
 obtain⟨k,hk,rfl⟩:=aZ.1 hx
 unfold dW
 rw[oR hnd hk]
theorem wV{vs:List Vr}(hok:jZ vs){p:Pl}:∀(i:Nat) (h:i<vs.length),vs[i].name∈cn vs p->∀k (hk:k<vs.length),vs[k].name=p.name->k<i:=by
 intro i
 induction i using lE with
 |_ i ih=>
  intro h hm k hk hn
  obtain⟨-,-,q,hq,hq2⟩:=(km p vs hok i h).1 hm
  obtain⟨j,hj,e⟩:=hok.up i h q hq
  have hjl:j<vs.length:=by omega
  rw[ax hjl]at e
  simp at e
  rcases hq2 with h1|h1
  ·have h2:=yP h1
   have:j=k:=ra hok.nd hjl hk (by rw[e,h2,hn])
   omega
  ·rw[<-e]at h1
   have:=ih j hj hjl h1 k hk hn
   omega
theorem AU{vs:List Vr}(hok:jZ vs)(p:Pl):p.name∉cn vs p:=by
 intro h
 obtain⟨i,hi,e⟩:=mO vs p h
 have:=wV hok i hi (by rw[e];exact h) i hi e
 omega
theorem wy{vs:List Vr}{p:Pl}(h:(eQ vs p).2=0):dW vs p.name=false:=by
 unfold eQ at h
 unfold dW
 cases hx:vs.find? (fun x=>eqB x.name p.name)with
 |none=>rw[hx]at h;simp at h
 |some x=>
  rw[hx]at h
  cases hd:x.dead with
  |false=>exact hd
  |true=>simp[hd]at h
theorem jF{K:List ByteArray}{vs:List Vr}{y:Vr}(h:y∈K.foldl gR vs)(hd:y.dead=false):y∈vs/\y.name∉K:=by
 rw[iW]at h
 obtain⟨x,hx,e⟩:=aY.1 h
 split at e
 ·subst e;simp at hd
 ·rename_i hk
  subst e
  exact⟨hx,fun hm=>hk ((lW K x.name).2 hm)⟩
theorem pN{Q:Prop}{v:Sc}(h:v.G Q)(p:Pl):(v.use p).1.G Q/\((v.use p).2.2=0->HInv (v.use p).1.vars [p])/\((v.use p).1.lost=false->v.lost=false):=by
 unfold Sc.use
 by_cases hz:(eQ v.vars p).2=0
 ·rw[if_pos hz]
  simp only
  have hp:=wy hz
  have hok':jZ ((cn v.vars p).foldl gR v.vars):=h.ok.core (l7 _ _)
  have hdW:∀n,dW ((cn v.vars p).foldl gR v.vars) n=(dW v.vars n||(cn v.vars p).any fun m=>eqB m n):=yi _ _
  have keep:∀n,dW v.vars n=false->n∉cn v.vars p->dW ((cn v.vars p).foldl gR v.vars) n=false:=fun n h1 h2=>by
   rw[hdW,h1,dk]
   cases hh:(cn v.vars p).any fun m=>eqB m n with
   |false=>rfl
   |true=>exact absurd ((lW _ _).1 hh) h2
  have idx:∀x∈v.vars,x.dead=false->x.lent=true->x.name∉cn v.vars p->∀q∈x.loans,q.meet p=false/\q.name∉cn v.vars p:=by
   intro x hx hd hl hn q hq
   obtain⟨i,hi,rfl⟩:=aZ.1 hx
   have hno:¬_:=fun hc=>hn ((km p v.vars h.ok i hi).2 hc)
   refine⟨?_,fun hm=>hno ⟨hd,hl,q,hq,.inr hm⟩⟩
   cases hm:q.meet p with
   |false=>rfl
   |true=>exact absurd ⟨hd,hl,q,hq,.inl hm⟩ hno
  refine⟨⟨hok',⟨?_,?_,?_,?_⟩,?_⟩,fun _=>?_,fun hl=>?_⟩
  ·intro x hx hd hl q hq
   obtain⟨hx0,hn⟩:=jF hx hd
   exact keep _ (h.inv.cl x hx0 hd hl q hq) (idx x hx0 hd hl hn q hq).2
  ·intro x hx y hy hne hd hl hd2 hl2
   exact h.inv.ap x (jF hx hd).1 y (jF hy hd2).1 hne hd hl hd2 hl2
  ·intro x hx hpa
   have hx2:=hx
   rw[iW]at hx
   obtain⟨y,hy,e⟩:=aY.1 hx
   split at e
   ·rename_i hk
    have hm:=(lW _ _).1 hk
    obtain⟨i,hi,rfl⟩:=aZ.1 hy
    obtain⟨-,-,q,hq,-⟩:=(km p v.vars h.ok i hi).1 hm
    subst e
    have:=(h.inv.pl _ hy hpa).1
    rw[this]at hq;simp at hq
   ·subst e;exact h.inv.pl _ hy hpa
  ·intro x hx hl hpa
   obtain⟨y,hy,-,e2,-,e4,e5⟩:=ji (l7 _ _) hx
   rw[<-e2];exact h.inv.ne y hy (e4.trans hl) (e5.trans hpa)
  ·intro hlo q hq
   simp only[Bool.or_eq_false_iff]at hlo
   have hh:=h.held hlo.1 q hq
   have h2:=List.any_eq_false.1 hlo.2 q hq
   simp only[Bool.not_eq_true,Bool.or_eq_false_iff]at h2
   refine⟨keep _ hh.1 fun hm=>?_,fun x hx hd hl=>hh.2 x (jF hx hd).1 hd hl⟩
   have:=List.any_eq_false.1 h2.2 _ hm
   rw[dx]at this;simp at this
  ·intro q hq
   simp at hq;subst hq
   refine⟨keep _ hp (AU h.ok _),fun x hx hd hl r hr=>?_⟩
   obtain⟨hx0,hn⟩:=jF hx hd
   exact(idx x hx0 hd hl hn r hr).1
  ·simp only[Bool.or_eq_false_iff]at hl
   exact hl.1
 ·rw[if_neg hz]
  exact⟨h,fun h0=>absurd h0 hz,id⟩
theorem ry{Q:Prop}:∀(e:Ex) {v:Sc},v.G Q->(v.expr e).1.G Q/\((v.expr e).1.lost=false->v.lost=false)
 |.mk k n p ks,v,h=>by
  rw[Sc.expr_eq]
  split
  ·exact⟨h,id⟩
  split
  ·exact⟨(pN h p).1,(pN h p).2.2⟩
  split
  ·rename_i a b r
   have h1:=ry a h
   have h2:=ry b h1.1
   split
   ·split
    ·split<;>exact⟨h2.1,fun hl=>h1.2 (h2.2 hl)⟩
    ·exact⟨h2.1,fun hl=>h1.2 (h2.2 hl)⟩
   ·exact h1
  ·exact⟨h,id⟩
termination_by x=>SizeOf.sizeOf x
theorem uG{Q:Prop}{v:Sc}(h:v.G Q)(e:Ex):(v.number e).1.G Q:=by rw[ed];exact(ry e h).1
theorem AM{Q:Prop}{vs:List Vr}{x:Vr}(h:lC Q vs)(hok:jZ (vs++[x]))(hh:HInv vs x.loans)(hd:x.dead=false)(hp:x.param=false)(hne:x.lent=true->x.loans≠[]):lC Q (vs++[x]):=by
 have hnew:x.name∉vs.map (·.name):=by
  have:=hok.nd
  rw[bv,fB]at this
  intro hm
  exact this.2.2 _ hm x.name (by simp) rfl
 have hdW:∀n,dW vs n=false->dW (vs++[x]) n=false:=fun n hn=>by
  obtain⟨y,hy,rfl,hyd⟩:=dW_mem hn
  rw[AY hok.nd (List.mem_append_left _ hy)];exact hyd
 have split:∀y∈vs++[x],y∈vs\/y=x:=fun y hy=>by simpa using hy
 refine⟨fun y hy hyd hyl q hq=>?_,fun y hy z hz hn h1 h2 h3 h4 q hq r hr=>?_,fun y hy hyp=>?_,fun y hy hyl hyp=>?_⟩
 ·rcases split y hy with hy1|rfl
  ·exact hdW _ (h.cl y hy1 hyd hyl q hq)
  ·exact hdW _ (hh q hq).1
 ·rcases split y hy with hy1|rfl
  ·rcases split z hz with hz1|rfl
   ·exact h.ap y hy1 z hz1 hn h1 h2 h3 h4 q hq r hr
   ·exact(hh r hr).2 y hy1 h1 h2 q hq
  ·rcases split z hz with hz1|rfl
   ·rw[mb];exact(hh q hq).2 z hz1 h3 h4 r hr
   ·exact absurd rfl hn
 ·rcases split y hy with hy1|rfl
  ·exact h.pl y hy1 hyp
  ·rw[hp]at hyp;simp at hyp
 ·rcases split y hy with hy1|rfl
  ·exact h.ne y hy1 hyl hyp
  ·exact hne hyl
theorem nx{Q:Prop}{v:Sc}{x:Vr}(h:lC Q v.vars)(hz:(ew v x).2=0)(hok:jZ (ew v x).1.vars)(hh:HInv v.vars x.loans)(hd:x.dead=false)(hp:x.param=false)(hne:x.lent=true->x.loans≠[]):lC Q (ew v x).1.vars:=by
 unfold ew at hz hok⊢
 split at hz
 ·simp at hz
 ·rename_i hc
  rw[if_neg hc]at hok⊢
  exact AM h hok hh hd hp hne
theorem B3{Q:Prop}:∀(zas:List Ag) (ps:List Pa) {v:Sc},v.G Q->zas.length=ps.length->(dJ v zas ps).2=0->(dJ v zas ps).1.G Q/\((v.held≠[]\/∃p∈ps,p.lent=true)->(dJ v zas ps).1.held≠[])
 |[],[],v,h,_,_=>⟨h,fun hc=>by simpa[dJ]using hc⟩
 |a::zas,p::ps,v,h,hl,hz=>by
  rw[dJ]at hz⊢
  split at hz
  ·rename_i h0
   rw[if_pos h0]
   have key:(iE v a p).1.G Q/\((v.held≠[]\/p.lent=true)->(iE v a p).1.held≠[]):=by
    unfold iE at h0⊢
    split at h0
    ·simp at h0
    rename_i hc
    rw[if_neg hc]
    have hap:a.lent=p.lent:=by simpa using hc
    split at h0
    ·rename_i hal
     rw[if_pos hal]
     simp only at h0⊢
     have hu:=pN h a.place
     have hu0:(v.use a.place).2.2=0:=by
      split at h0
      ·assumption
      ·exact h0
     refine⟨⟨hu.1.ok,hu.1.inv,fun hlo q hq=>?_⟩,fun _=>by simp⟩
     rcases aF.1 hq with hq|hq
     ·exact hu.1.held hlo q hq
     ·exact hu.2.1 hu0 q hq
    ·rename_i hal
     rw[if_neg hal]
     refine⟨(ry a.expr h).1,fun hc=>?_⟩
     rcases hc with hc|hc
     ·rw[(Sc.expr_core a.expr v).2.2.1];exact hc
     ·rw[<-hap]at hc;exact absurd hc hal
   have ih:=B3 zas ps key.1 (by simpa using hl) hz
   refine⟨ih.1,fun hc=>ih.2 ?_⟩
   rcases hc with hc|⟨q,hq,hql⟩
   ·exact .inl (key.2 (.inl hc))
   ·rcases ba.1 hq with rfl|hq
    ·exact .inl (key.2 (.inr hql))
    ·exact .inr ⟨q,hq,hql⟩
  ·rename_i h0;exact absurd hz h0
 |[],p::ps,v,h,hl,_=>by simp at hl
 |a::zas,[],v,h,hl,_=>by simp at hl
def mc(p:List Fu):Prop:=∀f∈p,f.lent=true->∃x∈f.params,x.lent=true
theorem Be{Q:Prop}{v:Sc}(h:v.G Q){n fn:ByteArray}{zas:List Ag}(hp:mc v.p)(hz:(gk v n fn zas).2=0)(hok:jZ (gk v n fn zas).1.vars):lC Q (gk v n fn zas).1.vars:=by
 unfold gk at hz hok⊢
 split at hz
 ·simp at hz
 ·rename_i f hf
  rw[hf]at hok
  simp only at hok⊢
  split at hz
  ·rename_i hl
   rw[if_pos hl]at hok⊢
   split at hz
   ·rename_i h0
    rw[if_pos h0]at hok⊢
    have ha:=B3 zas f.params h hl h0
    unfold gC at hz hok⊢
    split at hz
    ·simp at hz
    ·rename_i hlo
     rw[if_neg hlo]at hok⊢
     have hlo':(dJ v zas f.params).1.lost=false:=by simpa using hlo
     refine nx ha.1.inv hz hok ?_ rfl rfl ?_
     ·intro q hq
      simp only at hq
      split at hq
      ·exact ha.1.held hlo' q hq
      ·simp at hq
     ·intro hfl
      simp only at hfl⊢
      rw[if_pos hfl]
      exact ha.2 (.inr (hp f (List.mem_of_find?_eq_some hf) hfl))
   ·rename_i h0;exact absurd hz h0
  ·simp at hz
theorem Ar{Q:Prop}{v:Sc}(h:v.G Q){n:ByteArray}{p o:Pl}{e:Ex}(hz:(ic v n p o e).2=0)(hok:jZ (ic v n p o e).1.vars):lC Q (ic v n p o e).1.vars:=by
 unfold ic at hz hok⊢
 split at hz
 ·rename_i h0
  rw[if_pos h0]at hok⊢
  have h1:=uG h e
  generalize(v.number e).1=v1 at*
  unfold jd at hz hok⊢
  split at hz
  ·rename_i h2
   rw[if_pos h2]at hok⊢
   have h3:=pN h1 p
   have h4:((v1.use p).1.hold1 p).G Q:=⟨h3.1.ok,h3.1.inv,fun _=>h3.2.1 h2⟩
   have h5:=pN h4 o
   unfold oJ at hz hok⊢
   split at hz
   ·rename_i h6
    rw[if_pos h6]at hok⊢
    split at hz
    ·rename_i h7
     rw[if_pos h7]at hok⊢
     split at hz
     ·simp at hz
     ·rename_i h8
      rw[if_neg h8]at hok⊢
      have h8':(((v1.use p).1.hold1 p).use o).1.lost=false:=by simpa using h8
      refine nx (v:=(((v1.use p).1.hold1 p).use o).1.clear) h5.1.inv hz hok ?_ rfl rfl (fun _=>by simp)
      have hH:=h5.1.held h8'
      rw[(((v1.use p).1.hold1 p).use_core o).2.2.1]at hH
      intro q hq
      simp only[ba,bY,or_false]at hq
      rcases hq with rfl|rfl
      ·exact hH q (by simp[Sc.hold1])
      ·exact h5.2.1 h6 q (by simp)
    ·simp at hz
   ·rename_i h6;exact absurd hz h6
  ·rename_i h2;exact absurd hz h2
 ·rename_i h0;exact absurd hz h0
theorem xY{vs ws:List Vr}(h:(ws.take vs.length).map Vr.core=vs.map Vr.core){x:Vr}(hx:x∈vs):∃y∈ws,y.core=x.core:=by
 have:x.core∈(ws.take vs.length).map Vr.core:=by rw[h];exact co hx
 obtain⟨y,hy,e⟩:=aY.1 this
 exact⟨y,bF hy,e⟩
theorem AJ{Q:Prop}{vs zas bs:List Vr}(hv:lC Q vs)(hnd:(vs.map (·.name)).Nodup)(ha:lC Q zas)(na:(zas.map (·.name)).Nodup)(hb:lC Q bs)(nb:(bs.map (·.name)).Nodup)
(pa:(zas.take vs.length).map Vr.core=vs.map Vr.core)(pb:(bs.take vs.length).map Vr.core=vs.map Vr.core):lC Q (gj vs (vs.map (·.name)) [zas,bs]):=by
 have hcore:=oh vs (vs.map (·.name)) [zas,bs]
 obtain⟨L,e,hL⟩:=rj [zas,bs] (vs.map (·.name)) vs
 rw[e]at hcore⊢
 have one:∀ws,lC Q ws->(ws.map (·.name)).Nodup->(ws.take vs.length).map Vr.core=vs.map Vr.core->∀x∈vs,x.lent=true->dW ws x.name=false->∀q∈x.loans,dW ws q.name=false:=by
  intro ws hw nw pw x hx hl hd q hq
  obtain⟨y,hy,ey⟩:=xY pw hx
  have e1:y.name=x.name:=(congrArg Vr.name ey:y.core.name=x.core.name)
  have e2:y.lent=x.lent:=(congrArg Vr.lent ey:y.core.lent=x.core.lent)
  have e3:y.loans=x.loans:=(congrArg Vr.loans ey:y.core.loans=x.core.loans)
  rw[<-e1,AY nw hy]at hd
  exact hw.cl y hy hd (e2.trans hl) q (by rw[e3];exact hq)
 refine⟨fun x hx hd hl q hq=>?_,fun x hx y hy hne h1 h2 h3 h4=>hv.ap x (jF hx h1).1 y (jF hy h3).1 hne h1 h2 h3 h4,fun x hx hp=>?_,fun x hx hl hp=>?_⟩
 ·obtain⟨hx0,hn⟩:=jF hx hd
  have hno:∀w∈[zas,bs],dW w x.name=false:=fun w hw=>by
   cases h:dW w x.name with
   |false=>rfl
   |true=>exact absurd ((hL _).2 ⟨aY.2 ⟨x,hx0,rfl⟩,w,hw,h⟩) hn
  rw[yi,hv.cl x hx0 hd hl q hq,dk]
  cases h:L.any fun m=>eqB m q.name with
  |false=>rfl
  |true=>
   exfalso
   obtain⟨-,w,hw,hd2⟩:=(hL _).1 ((lW _ _).1 h)
   have hxw:=hno w hw
   simp only[ba,bY,or_false]at hw
   rcases hw with rfl|rfl
   ·rw[one _ ha na pa x hx0 hl hxw q hq]at hd2;simp at hd2
   ·rw[one _ hb nb pb x hx0 hl hxw q hq]at hd2;simp at hd2
 ·have hx2:=hx
  rw[iW]at hx
  obtain⟨y,hy,e⟩:=aY.1 hx
  have hyp:y.param=true:=by split at e<;>subst e<;>exact hp
  have hvp:=hv.pl y hy hyp
  split at e
  ·rename_i hk
   exfalso
   obtain⟨-,w,hw,hd2⟩:=(hL _).1 ((lW _ _).1 hk)
   have two:∀ws,lC Q ws->(ws.map (·.name)).Nodup->(ws.take vs.length).map Vr.core=vs.map Vr.core->dW ws y.name=false:=by
    intro ws hw nw pw
    obtain⟨z,hz,ez⟩:=xY pw hy
    have e1:z.name=y.name:=(congrArg Vr.name ez:z.core.name=y.core.name)
    have e2:z.param=y.param:=(congrArg Vr.param ez:z.core.param=y.core.param)
    rw[<-e1,AY nw hz]
    exact(hw.pl z hz (e2.trans hyp)).2.1
   simp only[ba,bY,or_false]at hw
   rcases hw with rfl|rfl
   ·rw[two _ ha na pa]at hd2;simp at hd2
   ·rw[two _ hb nb pb]at hd2;simp at hd2
  ·subst e;exact hvp
 ·obtain⟨y,hy,-,e2,-,e4,e5⟩:=ji hcore hx
  rw[<-e2];exact hv.ne y hy (e4.trans hl) (e5.trans hp)
def vV(Q:Prop)(d:Nat):Prop:=∀(l:List St),bW d l=true->∀{e:En} {u:Sc},Rel e u []->u.good->u.held=[]->(∀f∈u.p,f.type.okB=true)->mc u.p->u.vars.length+200*d<=2^30->lC Q u.vars->
 (u.stmts l).2=0->lC Q (u.stmts l).1.vars
theorem zY{Q:Prop}{d:Nat}(ih:vV Q d){s:St}(hs:cZ (bW d) s=true){e:En}{u:Sc}(h:Rel e u [])(hu:u.good)(hh:u.held=[])(hp:∀f∈u.p,f.type.okB=true)(hg:mc u.p)(hn:u.vars.length+200*d<=2^30)
(hi:lC Q u.vars)(hz:(u.stmt s).2=0):lC Q (u.stmt s).1.vars:=by
 have hr:jZ (u.stmt s).1.vars:=by
  rcases qC (jq d) hs h hu hh hp hn with⟨-,r⟩|⟨r,-⟩
  ·exact r.ok
  ·exact absurd hz r
 have hG:u.G Q:=⟨h.ok,hi,fun _ q hq=>by rw[hh]at hq;simp at hq⟩
 have hE:=ry s.expr hG
 rw[Sc.stmt_eq]at hz hr⊢
 rcases stW hs with⟨k,r,n,x⟩|⟨k,r,n,p⟩|⟨k,r,p,x⟩|⟨k,r,n,f,a⟩|⟨k,r,x,t,l⟩|⟨k,r,n,p,o,x⟩<;>simp only[k,bu,if_true,if_false]at hz hr⊢
 ·split at hz
  ·rename_i h0
   rw[if_pos h0]at hr⊢
   exact nx hE.1.inv hz hr (fun q hq=>by simp at hq) rfl rfl (fun h=>by simp at h)
  ·rename_i h0;exact absurd hz h0
 ·have hU:=pN hG s.place
  split at hz
  ·rename_i h0
   rw[if_pos h0]at hr⊢
   exact nx hU.1.inv hz hr (hU.2.1 h0) rfl rfl (fun _=>by simp)
  ·rename_i h0;exact absurd hz h0
 ·have hU:=pN hE.1 s.place
  split at hz
  ·rename_i h0
   rw[if_pos h0]
   exact hU.1.inv
  ·rename_i h0;exact absurd hz h0
 ·exact Be hG hg hz hr
 ·rcases oc x h with⟨a1,T1,a2⟩|⟨a1,a2⟩
  ·rw[if_pos a1]at hz hr⊢
   have se:=jk hu hh s.expr
   have hN:=(uG hG s.expr).inv
   rw[<-ed]at se
   obtain rfl:=a2.nil se.held
   have hhi:=se.hi
   generalize(u.number s.expr).1=v at*
   generalize(e.expr s.expr).1.num (e.expr s.expr).2=w at*
   have hvp:∀f∈v.p,f.type.okB=true:=by rw[se.p];exact hp
   have hvg:mc v.p:=by rw[se.p];exact hg
   unfold Sc.ways my at hz hr⊢
   have hA:=jq d s.thn t a2 se.good se.held hvp (by omega)
   split at hz
   ·rename_i b1
    rw[if_pos b1]at hr⊢
    rcases hA with⟨-,b2⟩|⟨b2,-⟩
    ·have iA:=ih s.thn t a2 se.good se.held hvp hvg (by omega) hN b1
     have st:=fu d s.thn t v se.good se.held a2.lost0 hvp (by omega) b1
     obtain⟨g,hg'⟩:=st.giv
     have gg:Sc.good {v with given:=(v.stmts s.thn).1.given}:=by
      rw[hg']
      exact⟨fun y hy=>by simp only[fE,se.good.ok y hy,dT],se.good.nd,se.good.len,se.good.hl,se.good.hp,se.good.lp,se.good.ll,se.good.ty⟩
     have rB:Rel {w with names:=(w.body s.thn).names} {v with given:=(v.stmts s.thn).1.given} []:=⟨a2.vars,b2.names,a2.code,a2.p,a2.ok,a2.tmp,a2.lost,gg.ok⟩
     have hB:=jq d s.els l rB gg se.held hvp (by show v.vars.length+_<=_;omega)
     split at hz
     ·rename_i c1
      rw[if_pos c1]at hr⊢
      rcases hB with⟨-,c2⟩|⟨c2,-⟩
      ·have iB:=ih s.els l rB gg se.held hvp hvg (by show v.vars.length+_<=_;omega) hN c1
       have st2:=fu d s.els l {v with given:=(v.stmts s.thn).1.given} gg se.held a2.lost0 hvp (by show v.vars.length+_<=_;omega) c1
       exact AJ hN a2.ok.nd iA b2.ok.nd iB c2.ok.nd st.pre st2.pre
      ·exact absurd c1 c2
     ·rename_i c1;exact absurd hz c1
    ·exact absurd b1 b2
   ·rename_i b1;exact absurd hz b1
  ·rw[if_neg a1]at hz;exact absurd hz a1
 ·exact Ar hG hz hr
theorem y6(Q:Prop):∀d,vV Q d:=by
 intro d
 induction d with
 |zero=>intro l h;simp[bW]at h
 |succ d ih=>
  have many:∀l:List St,(∀s∈l,cZ (bW d) s=true)->∀{e:En} {u:Sc},Rel e u []->u.good->u.held=[]->(∀f∈u.p,f.type.okB=true)->mc u.p->u.vars.length+l.length+200*d+150<=2^30->lC Q u.vars->
   (u.stmts l).2=0->lC Q (u.stmts l).1.vars:=by
   intro l
   induction l with
   |nil=>intro _ e u h _ _ _ _ _ hi _;rw[eG];exact hi
   |cons s l ihl=>
    intro hs e u h hu hh hp hg hn hi hz
    simp only[aU]at hn
    rw[dL]at hz⊢
    split at hz
    ·rename_i h0
     rw[if_pos h0]
     have hss:=hs s ff
     rcases qC (jq d) hss h hu hh hp (by omega)with⟨-,r⟩|⟨r,-⟩
     ·have s1:=sK (d:=d) hss hu hh h.lost0 hp (by omega) h0
      have hhi:=s1.hi
      exact ihl (fun x hx=>hs x (dR _ hx)) r s1.good s1.held (by rw[s1.p];exact hp) (by rw[s1.p];exact hg) (by omega) (zY ih hss h hu hh hp hg (by omega) hi h0) hz
     ·exact absurd h0 r
    ·rename_i h0;exact absurd hz h0
  intro l hl e u h hu hh hp hg hn hi hz
  simp only[bW,ay,decide_eq_true_eq,aV]at hl
  exact many l hl.2 h hu hh hp hg (by omega) hi hz
theorem rn:∀(ps:List Pa) (v:Sc),(cK v ps).2=0->(cK v ps).1.vars=v.vars++ps.map Pa.vr
 |[],v,_=>by simp[cK]
 |p::ps,v,hz=>by
  rw[cK]at hz⊢
  split at hz
  ·rename_i h0
   rw[if_pos h0,rn ps _ hz]
   have:(ew v p.vr).1.vars=v.vars++[p.vr]:=by
    unfold ew at h0⊢
    split at h0
    ·simp at h0
    ·rename_i hc;rw[if_neg hc]
   rw[this];simp
  ·rename_i h0;exact absurd hz h0
theorem wz(p:List Fu)(ps:List Pa)(hz:(cK (be p) ps).2=0):lC (∃x∈ps,x.lent=true) (cK (be p) ps).1.vars:=by
 have h:=rn ps _ hz
 simp only[be,dc]at h
 have key:∀x∈(cK (be p) ps).1.vars,x.loans=[]/\x.dead=false/\x.param=true/\(x.lent=true->∃x∈ps,x.lent=true):=by
  intro x hx
  simp only[be]at hx
  rw[h]at hx
  obtain⟨y,hy,rfl⟩:=aY.1 hx
  exact⟨rfl,rfl,rfl,fun hl=>⟨y,hy,hl⟩⟩
 exact⟨fun x hx _ _ q hq=>by rw[(key x hx).1]at hq;simp at hq,fun x hx y hy _ _ _ _ _ q hq=>by rw[(key x hx).1]at hq;simp at hq,fun x hx _=>⟨(key x hx).1,(key x hx).2.1,(key x hx).2.2.2⟩,fun x hx _ hp=>by rw[(key x hx).2.2.1]at hp;simp at hp⟩
theorem Au:∀(vs:List Vr),(∀x∈vs,x.lent=true->x.param=false->x.loans≠[])->∀n,eY vs n=true->∃x∈vs,x.param=true/\x.lent=true:=by
 intro vs
 induction vs using qG with
 |nil=>intro _ n h;simp[Av]at h
 |snoc vs x ih=>
  intro hne n h
  have ih':=ih fun y hy=>hne y (List.mem_append_left _ hy)
  rw[jt]at h
  split at h
  ·split at h
   ·rename_i hp
    exact⟨x,by simp,hp,h⟩
   ·rename_i hp
    have hp':x.param=false:=by simpa using hp
    simp only[ay,aV]at h
    obtain⟨q,hq⟩:=List.exists_mem_of_ne_nil _ (hne x (by simp) h.1 hp')
    obtain⟨y,hy,h2⟩:=ih' _ (h.2 q hq)
    exact⟨y,List.mem_append_left _ hy,h2⟩
  ·obtain⟨y,hy,h2⟩:=ih' _ h
   exact⟨y,List.mem_append_left _ hy,h2⟩
theorem vg{p:Pg}(hfine:iI p=true){i:Nat}(hi:i<p.length):jg (p.take i) p[i]=0:=by
 simp only[iI,ay]at hfine
 have h2:=hfine.2
 rw[Option.isNone_iff_eq_none]at h2
 unfold mh at h2
 rw[List.find?_eq_none]at h2
 have:=h2 i (eI.2 hi)
 simp only[gT,ax hi]at this
 simpa using this
theorem B0{p:Pg}(hfine:iI p=true){i:Nat}(hi:i<p.length)(hg:mc (p.take i))(m:Nat)(hz:(iX (p.take i) p[i] (p[i].body.take m)).2=0):(iX (p.take i) p[i] (p[i].body.take m)).1.G (∃x∈p[i].params,x.lent=true):=by
 have hfo:=pE hfine
 obtain⟨hpl,hpf⟩:=fy hfo
 have W:=hpf p[i] (aw hi)
 have hti:∀f∈p.take i,f.type.okB=true:=fun f hf=>(hpf f (bF hf)).type
 have hr0:Rel (⟨p,i,[],[],0⟩:En) (be (p.take i)) []:=⟨rfl,rfl,rfl,rfl,⟨by simp[be],by simp[be],fun j hj=>by simp[be]at hj⟩,⟨rfl,fun j hj=>by simp at hj,fun q hq=>by simp[be]at hq⟩,rfl,fun y hy=>by simp[be]at hy⟩
 unfold iX at hz⊢
 split at hz
 ·rename_i a1
  rw[if_pos a1]
  rcases lQ p[i].params hr0 rfl W.params with⟨-,a2⟩|⟨a2,-⟩
  ·have st:=ip p[i].params (fK (p.take i)) rfl W.params (by have:=W.plen;simp[be];omega) a1
   have hhi:=st.hi
   have hpl4:=W.plen
   have h00:(be (p.take i)).vars.length=0:=rfl
   have hb:=lc W.body m
   have hiv:=y6 _ 4 (p[i].body.take m) hb a2 st.good st.held (by rw[st.p];exact hti) (by rw[st.p];exact hg) (by omega) (wz _ _ a1) hz
   have s2:=fu 4 (p[i].body.take m) hb _ st.good st.held a2.lost0 (by rw[st.p];exact hti) (by omega) hz
   rcases jq 4 (p[i].body.take m) hb a2 st.good st.held (by rw[st.p];exact hti) (by omega)with⟨-,b2⟩|⟨b2,-⟩
   ·exact⟨b2.ok,hiv,fun _ q hq=>by rw[s2.held]at hq;simp at hq⟩
   ·exact absurd hz b2
  ·exact absurd a1 a2
 ·rename_i a1;exact absurd hz a1
theorem AP{p:Pg}(hfine:iI p=true):∀i,i<=p.length->mc (p.take i):=by
 intro i
 induction i with
 |zero=>intro _ f hf;simp at hf
 |succ i ih=>
  intro hi
  have hi':i<p.length:=by omega
  have ih:=ih (by omega)
  rw[aA hi']
  intro f hf hl
  rcases aF.1 hf with hf|hf
  ·exact ih f hf hl
  ·simp at hf;subst hf
   have hc:=vg hfine hi'
   unfold jg at hc
   split at hc
   ·simp at hc
   split at hc
   ·rename_i a1
    split at hc
    ·rename_i b0
     have hb:iX (p.take i) p[i] (p[i].body.take p[i].body.length)=(cK (be (p.take i)) p[i].params).1.stmts p[i].body:=by
      rw[aQ];unfold iX;rw[if_pos a1]
     have hG:=B0 hfine hi' ih p[i].body.length (by rw[hb];exact b0)
     rw[hb]at hG
     generalize((cK (be (p.take i)) p[i].params).1.stmts p[i].body).1=v at*
     unfold sj pC at hc
     rw[if_pos hl]at hc
     have hU:=(pN hG p[i].gives).1
     split at hc
     ·split at hc
      ·split at hc
       ·simp at hc
       ·rename_i ho
        rw[hl,bL]at ho
        have ho':eY (v.use p[i].gives).1.vars p[i].gives.name=true:=by simpa using ho
        obtain⟨x,hx,hp,hxl⟩:=Au _ hU.inv.ne _ ho'
        exact(hU.inv.pl x hx hp).2.2 hxl
      ·simp at hc
     ·rename_i hc2;exact absurd hc hc2
    ·rename_i b0;exact absurd hc b0
   ·rename_i a1;exact absurd hc a1
theorem at_G{p:Pg}{fn n:Int}{v:Sc}(h:atS p fn n=some v):∃Q,v.G Q:=by
 obtain⟨i,m,hi,rfl,rfl,hm,hf,hz,rfl⟩:=ym h
 exact⟨_,B0 hf hi (AP hf i (by omega)) m hz⟩
theorem wK(p:Pg)(fn n:Int):∀x∈(wsS p fn n).filter lz,∀y∈(wsS p fn n).filter lz,x.name≠y.name->∀q∈x.loans,∀r∈y.loans,q.meet r=false:=by
 intro x hx y hy hne
 obtain⟨hx,hq⟩:=cA.1 hx
 obtain⟨hy,hr⟩:=cA.1 hy
 simp only[lz,ay,dz]at hq hr
 unfold wsS at hx hy
 cases ha:atS p fn n with
 |none=>rw[ha]at hx;simp at hx
 |some v=>
  rw[ha]at hx hy
  obtain⟨Q,hG⟩:=at_G ha
  obtain⟨hx,hd⟩:=cA.1 hx
  obtain⟨hy,hd2⟩:=cA.1 hy
  exact hG.inv.ap x hx y hy hne (by simpa using hd) hq.1 (by simpa using hd2) hr.1
section
variable {P:Program}{F:Ids}{er:bX}
theorem vF(L:Lib P F)(a b:Pl)(ha:a.path.length<=2^40)(hb:b.path.length<=2^40):cJ P 15 [.agg a.enc,.agg b.enc] (B (a.okB&&(b.okB&&a.meet b))):=by
 refine(L.a Tryz.func15 y15) (by simp[y15]) ?_
 have h1:=fJ L a
 have h2:=fJ L b
 have h3:=tT L a b ha hb
 simp only[Pl.enc]at h1 h2 h3
 simp only[y15,go_sem,rE,rA,rL,Pl.enc]
 intro b2 hb2 b3 hb3
 have d23:=al (ai _ _ _) hb3
 simp only[go_sem,rE,rA,rL,d23]
 refine ao h1 rfl ?_
 have fin:∀(E':Env) (H':aj) (t:Bool),E' 4=B t->bi.post [.slot 4] (fun q H'=>q=B t/\H'=.empty) .ret E' H':=fun E' H' t h=>ak (by rw[h];exact .refl _) (aj.sub_empty _) ⟨rfl,rfl⟩
 cases a.okB with
 |false=>
  simp only[go_sem,rE,rA,rL,d23,aH]
  exact fin _ _ false rfl
 |true=>
  simp only[go_sem,rE,rA,rL,d23,bL]
  refine ao h2 rfl ?_
  cases b.okB with
  |false=>
   simp only[go_sem,rE,rA,rL,d23,aH]
   exact fin _ _ false rfl
  |true=>
   simp only[go_sem,rE,rA,rL,d23,bL]
   refine ao h3 rfl ?_
   simp only[go_sem,rE,rA,rL,d23]
   exact fin _ _ _ rfl
theorem sv(L:Lib P F)(T:Tys F)(hC:eJ P F er){n:FuncId}(hfit:Fits P n (y3.1))(a:List UInt8)(H:aj)(he:eX F er H):bA P n [.sl 1 none (fA a)] H fun q H'=>q=B true/\eX F er H':=by
 refine hfit (by simp[y3]) ?_
 have fin:∀(E':Env) (H':aj),E' 2=B true->eX F er H'->bi.post [.slot 2] (fun q H'=>q=B true/\eX F er H') .ret E' H':=fun E' H' h1 h2=>ak (by rw[h1];exact .refl _) (aj.sub_refl _) ⟨rfl,h2⟩
 have la:(fA a).length=a.length:=by simp[fA]
 simp only[y3,go_sem,rE,rA,rL,la]
 by_cases h1:(a.length:Int)>1048576
 ·simp only[go_sem,rE,rA,rL,h1,decide_true]
  exact fin _ _ (rfl) he
 simp only[go_sem,rE,rA,rL,h1,decide_false]
 refine dY (tW L a (by omega)) (rfl) (aj.sub_empty _) (by simp) trivial ?_
 rintro q H' ⟨rfl,p,fn,m,rfl,hd⟩ -
 rw[iP]
 have hfi:=hd.fit (by omega)
 have hpl:p.length<=2^20:=by have:=hd.2.2;omega
 simp only[go_sem,rE,rA,rL,Pg.enc]
 intro b3 hb3
 have g3:=ai H b3 (.cells [.sl 12 none (p.map Fu.enc)])
 have he3:eX F er (H.set b3 (.cells [.sl 12 none (p.map Fu.enc)])):=fun c hc=>by rw[ae _ _ (al (he c hc) hb3)];exact he c hc
 generalize H.set b3 (.cells [.sl 12 none (p.map Fu.enc)])=H1 at*
 have hs:=Bf L hfi hpl fn m
 have hi:=z8 L T hC p hfi.1 fn m H1 he3
 simp only[Pg.enc]at hs hi
 rw[AA]at hs hi
 obtain⟨o1,o2,o3,o4⟩:=wsS_ok p fn m
 have hap:=wK p fn m
 generalize wsS p fn m=ws at*
 refine dY hs (rfl) (aj.sub_empty _) (by simp) trivial ?_
 rintro q H' ⟨rfl,rfl⟩ -
 rw[iP]
 simp only[go_sem,rE,rA,rL,g3]
 refine dY hi (rfl) (aj.sub_refl _) (by simp) trivial ?_
 rintro q H' ⟨rfl,rfl⟩ -
 rw[iz]
 have hsub:∀x∈ws.filter lz,x∈ws:=fun x hx=>(cA.1 hx).1
 have hll:=fL lz ws
 simp only[go_sem,rE,rA,rL,g3]
 refine ao (zm L (ws.filter lz) (by omega) (fun x hx=>o3 x (hsub x hx)) (fun x hx=>o4 x (hsub x hx))) (rfl) ?_
 have hLnd:((ws.filter lz).map (·.name)).Nodup:=(List.filter_sublist.map _).nodup o2
 have hL3:∀x∈ws.filter lz,x.loans.length<=2^30:=fun x hx=>o3 x (hsub x hx)
 have hL4:∀x∈ws.filter lz,∀q∈x.loans,q.path.length<=2^30:=fun x hx=>o4 x (hsub x hx)
 have hLl:(ws.filter lz).length<=2^30:=by omega
 clear hsub hll
 generalize ws.filter lz=LS at*
 simp only[go_sem,rE,rA,rL]
 refine aO LS.length (fun k E' H'=>E' 7=.sl 2 none (LS.map eZ)/\E' 8=I k/\eX F er H') ⟨rfl,rfl,he3⟩ ?_
 rintro i E1 H1 hil ⟨q7,q8,he4⟩
 simp only[go_sem,rE,rA,rL,q7,q8,am]
 refine aE (fun hlt=>?_) (fun hge=>?_)
 ·have hi1:i<LS.length:=by omega
  have w1:=aJ (n:=(i:Int)+1) (by omega) (by omega)
  have hgx:=lN hi1
  have hmx:=aw hi1
  have hx3:=hL3 _ hmx
  have hx4:=hL4 _ hmx
  simp only[go_sem,rE,rA,rL]
  refine aO i (fun k E' H'=>E' 7=.sl 2 none (LS.map eZ)/\E' 8=I i/\E' 9=I k/\eX F er H') ⟨q7,q8,rfl,he4⟩ ?_
  clear q7 q8 he4
  rintro k E2 H2 hkl ⟨q7,q8,q9,he4⟩
  simp only[go_sem,rE,rA,rL,q8,q9]
  refine aE (fun hlt2=>?_) (fun hge2=>?_)
  ·have hki:k<i:=by omega
   have hk1:k<LS.length:=by omega
   have w2:=aJ (n:=(k:Int)+1) (by omega) (by omega)
   have hgy:=lN hk1
   have hmy:=aw hk1
   have hy3:=hL3 _ hmy
   have hy4:=hL4 _ hmy
   have hne:LS[i].name≠LS[k].name:=by
    have:=List.pairwise_iff_getElem.1 hLnd k i (by simpa using hk1) (by simpa using hi1) hki
    simpa using this.symm
   have hm:=hap _ hmx _ hmy hne
   simp only[go_sem,rE,rA,rL]
   generalize LS[i]=x at*
   generalize LS[k]=y at*
   refine aO x.loans.length (fun a E' H'=>E' 7=.sl 2 none (LS.map eZ)/\E' 8=I i/\E' 9=I k/\E' 10=I a/\eX F er H') ⟨q7,q8,q9,rfl,he4⟩ ?_
   clear q7 q8 q9 he4
   rintro a E3 H3 hal ⟨q7,q8,q9,q10,he4⟩
   simp only[go_sem,rE,rA,rL,q7,q8,q10,hgx,am]
   refine aE (fun hlt3=>?_) (fun hge3=>?_)
   ·have ha1:a<x.loans.length:=by omega
    have w3:=aJ (n:=(a:Int)+1) (by omega) (by omega)
    have hgp:(x.loans.map Pl.enc)[a]?=some [S x.loans[a].name,au x.loans[a].path]:=by simp[ha1,Pl.enc]
    have hma:=aw ha1
    generalize x.loans[a]=q at*
    simp only[go_sem,rE,rA,rL]
    refine aO y.loans.length (fun c E' H'=>E' 7=.sl 2 none (LS.map eZ)/\E' 8=I i/\E' 9=I k/\E' 10=I a/\E' 11=I c/\eX F er H') ⟨q7,q8,q9,q10,rfl,he4⟩ ?_
    clear q7 q8 q9 q10 he4
    rintro c E4 H4 hcl ⟨q7,q8,q9,q10,q11,he4⟩
    simp only[go_sem,rE,rA,rL,q7,q9,q11,hgy,am]
    refine aE (fun hlt4=>?_) (fun hge4=>?_)
    ·have hc1:c<y.loans.length:=by omega
     have w4:=aJ (n:=(c:Int)+1) (by omega) (by omega)
     have hgr:(y.loans.map Pl.enc)[c]?=some [S y.loans[c].name,au y.loans[c].path]:=by simp[hc1,Pl.enc]
     have hmc:=aw hc1
     generalize y.loans[c]=r at*
     have hlm:=vF L q r (by have:=hx4 _ hma;omega) (by have:=hy4 _ hmc;omega)
     rw[hm q hma r hmc,aN,aN]at hlm
     simp only[Pl.enc]at hlm
     simp only[go_sem,rE,rA,rL,q7,q8,q9,q10,q11,hgx,hgy,hgp,hgr]
     refine ao hlm rfl ?_
     simp only[go_sem,rE,rA,rL,q7,q8,q9,q10,q11,w4]
     exact⟨hc1,H4,aj.sub_refl _,rfl,he4⟩
    ·simp only[go_sem,rE,rA,rL,q7,q8,q9,q10,w3]
     exact⟨ha1,H4,aj.sub_refl _,rfl,he4⟩
   ·simp only[go_sem,rE,rA,rL,q7,q8,q9,w2]
    exact⟨hki,H3,aj.sub_refl _,rfl,he4⟩
  ·simp only[go_sem,rE,rA,rL,q7,q8,w1]
   exact⟨hi1,H2,aj.sub_refl _,rfl,he4⟩
 ·simp only[go_sem,rE,rA,rL]
  exact fin _ _ (rfl) he4
end
end Go.Xl
