/- FnCheckLive: a part of the proof. -/
import Derived.Test.YtemecjmcicmnbaaGreatDoorX2
set_option linter.unusedVariables false
set_option linter.unusedSimpArgs false
namespace Go.Xl
open _root_.Bool renaming and_eq_false_iff -> cO, and_eq_true -> aw, and_false -> aO, and_self -> fP, and_true -> fO, eq_iff_iff -> aZ, false_and -> aK, false_eq_true -> ap, false_ne_true -> fL, or_eq_true -> dq, or_false -> dI, true_and -> bX
open _root_.Int renaming le_refl -> dz, natCast_zero -> cW, reduceBEq -> aH, reduceEq -> bp, reduceLE -> dO, toNat_natCast -> dH
open _root_.List renaming all_append -> eG, all_eq_false -> du, all_eq_true -> aW, any_append -> fy, append_assoc -> dY, append_nil -> cX, cons_append -> cB, drop_eq_getElem_cons -> bU, drop_length -> l8, drop_succ_cons -> gE, drop_zero -> ip, eq_nil_of_length_eq_zero -> bu, ext_getElem? -> gd, findIdx?_eq_none_iff -> iB, findIdx?_eq_some_iff_getElem -> bQ, flatten_cons -> aq, flatten_nil -> az, foldl_cons -> dC, getElem?_append_left -> aR, getElem?_append_right -> bi, getElem?_drop -> bC, getElem?_eq_getElem -> av, getElem?_eq_none -> fE, getElem?_eq_some_iff -> aQ, getElem?_map -> cA, getElem?_take -> eU, getElem_append_left -> dv, getElem_map -> gX, getElem_mem -> ay, length_append -> bq, length_cons -> aV, length_drop -> eX, length_filter_le -> ix, length_map -> am, length_nil -> bP, length_take -> bk, map_append -> bB, map_cons -> aS, map_nil -> bv, map_take -> gU, mem_append -> aF, mem_cons -> bf, mem_filter -> eF, mem_iff_getElem -> bj, mem_iff_getElem? -> jV, mem_map -> aY, mem_of_getElem? -> ba, mem_of_mem_take -> bJ, mem_singleton -> cn, not_mem_nil -> cq, range -> dU, replicate -> ax, take_append_drop -> iw, take_length -> aU, take_of_length_le -> cF, take_succ_eq_append_getElem -> aA
open _root_.Nat renaming reduceEqDiff -> rE, reduceAdd -> rA, reduceLeDiff -> rL, add_mul -> cI, le_refl -> aC, le_trans -> bZ, min_eq_left -> eE, reduceSub -> mn, zero_add -> cj
open _root_.Option renaming eq_none_or_eq_some -> cg, ne_none_iff_exists' -> aJ
def AppTk(H:aj)(sz:Nat)(es:List (List AC))(x:AC):Prop:=∃b n m,x=.sl sz (some (b,n,m)) es/\H.get b=some (.tail n m)
section
variable {P:Program}{dr:Bool}{K:Env->aj->Prop}{xs:List aN}{E:Env}{H:aj}{l:Lds}{f:Fps}
theorem dV{i sz bytes:Nat}{d:Option Nat}{s y:aI}{inc:List Nat}{b n m:Nat}{es ys:List (List AC)}(hs:s.ev E=.sl sz (some (b,n,m)) es)(hb:H.get b=some (.tail n m))(hy:i9 H sz (y.ev E)=some ys)
(hsz:∀e∈ys,e.length=sz)(hl:es.length+ys.length<=2^32)
(h:∀b' n' m' H' fp,H'.get b'=some (.tail n' m')->(∀c,H.get c≠none->c≠b->H'.get c=H.get c)->(b'=b\/H.get b'=none)->(∀c,fp c->H.get c=none)->
  bw P dr K xs (E.put d (.sl sz (some (b',n',m')) (es++ys))) H' l ((i,fp)::f)):
 bw P dr K (⟨i,d,none,.eff (.appendM sz bytes s y),inc⟩::xs) E H l f:=by
 simp only[bw,aN.act,dB,EOp.isA,EOp.run,hy,ap,if_false]
 refine⟨hsz,?_⟩
 simp only[hs,l7]
 refine⟨trivial,hl,hb,.inl fun b' m' hb' hm=>⟨mP _ _,h _ _ _ _ _ (ai _ _ _) (fun c hc hn=>ae _ _ ?_) hb' (fun c hc=>hc.resolve_left id)⟩⟩
 rintro rfl
 rcases hb' with rfl|hb'
 ·exact hn rfl
 ·exact hc hb'
end
@[go_sem] theorem chunk_zero(sz:Nat)(cs:List AC):bh sz 0 cs=[]:=rfl
def jU(n:Nat)(L:List Nat):Nat:=((dU n).filter fun i=>decide (i∉L)).length
theorem xu{n i:Nat}{L:List Nat}(hi:i<n)(hn:i∉L):jU n (L++[i])+1<=jU n L:=by
 unfold jU
 have key:∀(R:List Nat),i∈R->(R.filter fun j=>decide (j∉L++[i])).length+1<=(R.filter fun j=>decide (j∉L)).length:=by
  have mono:∀(R:List Nat),(R.filter fun j=>decide (j∉L++[i])).length<=(R.filter fun j=>decide (j∉L)).length:=by
   intro R
   induction R with
   |nil=>simp
   |cons a R ih=>
    simp only[List.filter_cons]
    by_cases h1:a∈L
    ·simp[h1];simpa using ih
    ·by_cases h2:a=i
     ·simp[h1,h2,hn];have:=ih;simp at this;omega
     ·simp[h1,h2];simpa using ih
  intro R hR
  induction R with
  |nil=>simp at hR
  |cons a R ih=>
   by_cases h2:a=i
   ·subst h2
    have:=mono R
    simp only[List.filter_cons]
    simp[hn];simpa using this
   ·have hR':i∈R:=by simpa[Ne.symm h2]using hR
    have:=ih hR'
    simp only[List.filter_cons]
    by_cases h1:a∈L
    ·simp[h1];simpa using this
    ·simp[h1,h2];simp at this;omega
 exact key _ (by simpa using hi)
inductive rW(vs:List Vr)(L:List Nat):Nat->Prop where
 |base {i:Nat}:i∈L->rW vs L i
 |step {i j:Nat} {q:Pl} (hi:i<vs.length) (hd:vs[i].dead=false) (hl:vs[i].lent=true) (hq:q∈vs[i].loans) (hj:rW vs L j) (hjl:j<vs.length) (hn:vs[j].name=q.name):rW vs L i
open Classical in
noncomputable def yr (vs:List Vr) (L:List Nat):List Nat:=(dU vs.length).reverse.filter fun i=>decide (rW vs L i)
def bK(L:List Nat):List (List AC):=L.map fun(i:Nat)=>[I i]
theorem qC{ps:List Pl}{k:Nat}(h:k<ps.length):(ps.map Pl.enc)[k]?=some [S ps[k].name,au ps[k].path]:=by simp[h,Pl.enc]
def mq(vs:List Vr)(L:List Nat)(i:Nat):Prop:=i∈L\/∀(h:i<vs.length),vs[i].dead=true\/vs[i].lent=false\/∀q∈vs[i].loans,∀j∈L,∀(hj:j<vs.length),vs[j].name≠q.name
theorem sd{vs:List Vr}{L0 L:List Nat}(h0:∀i∈L0,i∈L)(hc:∀i,i<vs.length->mq vs L i)(i:Nat)(h:rW vs L0 i):i∈L:=by
 induction h with
 |base hi=>exact h0 _ hi
 |step hi hd hl hq hj hjl hn ih=>
  rcases hc _ hi with h|h
  ·exact h
  ·rcases h hi with h|h|h
   ·rw[hd]at h;simp at h
   ·rw[hl]at h;simp at h
   ·exact absurd hn (h _ hq _ ih hjl)
section
variable {P:Program}{F:Ids}
theorem qf(L:Lib P F)(xs:List Nat)(n:Nat)(tok:Option (Nat×Nat×Nat))(hl:xs.length<=2^40):cM P F.s_l3Among [.sl 1 tok (bK xs),I n] (B (decide (n∈xs))):=by
 have h:=AK L (xs.map Int.ofNat) n (by simpa using hl)
 have e1:List.map (fun i=>[I i]) (List.map Int.ofNat xs)=bK xs:=by simp[bK]
 have e2:(xs.map Int.ofNat).contains (n:Int)=decide (n∈xs):=by
  rw[aZ]
  simp only[List.contains_iff_mem,aY,decide_eq_true_eq]
  constructor
  ·rintro⟨a,ha,he⟩
   have:a=n:=Int.ofNat.inj he
   exact this▸ha
  ·intro h;exact⟨n,h,rfl⟩
 rw[e1,e2]at h
 exact h.args ⟨.tok _ _ _,.refl _,trivial⟩
theorem jH{L:List Nat}{k:Nat}(h:k<L.length):(bK L)[k]?=some [I L[k]]:=by simp[bK,h]
theorem fX(L:List Nat):(bK L).length=L.length:=by simp[bK]
theorem vd{H:aj}{vs:List Vr}{b c:Nat}{cs:List AC}(hcs:cs.take ((vs.map Vr.enc).length*6)=(vs.map Vr.enc).flatten){k:Nat}(hk:k<vs.length):
 cs[k*6]?=some (S vs[k].name)/\cs[k*6+1]?=some (B vs[k].lent)/\cs[k*6+2]?=some (B vs[k].param)/\cs[k*6+3]?=some (.sl 1 none (Ty.encs vs[k].type.kids))/\
   cs[k*6+4]?=some (.sl 2 none (vs[k].loans.map Pl.enc))/\cs[k*6+5]?=some (B vs[k].dead):=by
 simp only[am]at hcs
 refine⟨jF hcs hk (j:=0) (by omega),jF hcs hk (j:=1) (by omega),jF hcs hk (j:=2) (by omega),jF hcs hk (j:=3) (by omega),jF hcs hk (j:=4) (by omega),jF hcs hk (j:=5) (by omega)⟩
structure OrdI(vs:List Vr)(L0:List Nat)(C:Nat)(L1:List Nat):Prop where
 sub:∀i∈L0,i∈L1
 end_:∀i∈L1,rW vs L0 i
 lt:∀i∈L1,i<vs.length
 cnt:L1.length+jU vs.length L1<=C
theorem AI(L:Lib P F)(vs:List Vr)(VS:AC)(L0:List Nat)(x0:AC)(H:aj)(hv:lw H vs VS)(hx:AppTk H 1 (bK L0) x0)(h0:∀i∈L0,i<vs.length)
(hl:vs.length<=2^20)(hl0:L0.length<=2^20)(hlo:∀v∈vs,v.loans.length<=2^20):
 bD P F.s_l3Order [VS,x0] H fun q H'=>q=.sl 1 none (bK (yr vs L0))/\H'=H.only (gT VS):=by
 refine L.s_l3Order (by simp[lA]) ?_
 have hcnt0:jU vs.length L0<=vs.length:=by unfold jU;exact bZ (ix _ _) (by simp)
 have hI0:OrdI vs L0 (L0.length+vs.length) L0:=⟨fun _ h=>h,fun _ h=>.base h,h0,by omega⟩
 rcases hv with⟨hv,rfl⟩|⟨vb,vc,cs,rfl,hg,hc,hvc,hcs⟩
 ·have hvs:vs=[]:=by simpa using hv
  subst hvs
  have hL0:L0=[]:=by
   cases L0 with
   |nil=>rfl
   |cons a _=>have:=h0 a (by simp);simp at this
  subst hL0
  have w1:=aL (n:=(0:Int) - 1) (by omega) (by omega)
  obtain⟨tb,n0,m0,rfl,ht0⟩:=hx
  have hblk:∀d,¬gT NIL d:=by rintro d ⟨_,_,h⟩;simp at h
  simp only[lA,go_sem,rE]
  refine wp_loop (fun n E H1=>∃ag:Bool,n=(if ag then 1 else 0)/\E 0=NIL/\E 5=B ag) 1 ⟨true,rfl,rfl,rfl⟩ ?_
  rintro n E H1 ⟨ag,rfl,e0,e5⟩
  simp only[go_sem,rE,e5]
  cases ag
  ·simp only[go_sem,rE]
   intro b9 hb9
   simp only[go_sem,rE,e0,w1]
   refine aT 0 (fun k E H2=>E 9=.sl 1 (some (b9,0,0)) []/\E 10=I (-1)) ⟨rfl,rfl⟩ ?_
   rintro k E H2 - ⟨e9,e10⟩
   simp only[go_sem,rE,e10,e9]
   refine aG (fun h=>absurd h (by decide)) (fun _=>?_)
   simp only[go_sem,rE,e9]
   refine ak (q':=.sl 1 none (bK (yr [] []))) ?_ (H':=H.only (gT NIL)) (fun d o hd=>?_) ⟨rfl,rfl⟩
   ·simp only[go_sem,rE];exact .tok _ _ _
   ·rw[cd (hblk d)]at hd;simp at hd
  ·simp only[go_sem,rE]
   refine aT 0 (fun k E H2=>E 0=NIL/\E 5=B false/\E 6=I 0) ⟨e0,rfl,rfl⟩ ?_
   rintro k E H2 - ⟨e0,e5,e6⟩
   simp only[go_sem,rE,e0,e6]
   refine aG (fun h=>absurd h (by decide)) (fun _=>?_)
   simp only[go_sem,rE]
   exact⟨0,by simp,H2,aj.sub_refl _,false,by simp,e0,e5⟩
 ·have hb:∀d,gT (AC.lit (.slice (some ⟨vb,0,none⟩) (vs.map Vr.enc).length vc)) d->d=vb:=by rintro d ⟨_,_,h⟩;simp at h;exact h.1.symm
  have hrow:=fun {k:Nat} (hk:k<vs.length)=>vd (H:=H) (b:=vb) (c:=vc) hcs hk
  have hlim:vs.length<=LIM:=by simp[LIM];omega
  have hdrop:∀k,k<vs.length->True:=fun _ _=>trivial
  simp only[am]at*
  obtain⟨tb,n0,m0,rfl,ht0⟩:=hx
  simp only[lA,go_sem,rE]
  refine wp_loop (fun n E H1=>∃(L1:List Nat) (ag:Bool) (b n1 m1:Nat),n=2*jU vs.length L1+(if ag then 1 else 0)/\OrdI vs L0 (L0.length+vs.length) L1/\(ag=false->∀i,i<vs.length->mq vs L1 i)/\
   E 0=.lit (.slice (some ⟨vb,0,none⟩) vs.length vc)/\E 1=.sl 1 (some (b,n1,m1)) (bK L1)/\H1.get b=some (.tail n1 m1)/\E 5=B ag/\H1.get vb=some (.cells cs))
   (2*jU vs.length L0+1) ⟨L0,true,tb,n0,m0,by simp,hI0,by simp,rfl,rfl,ht0,rfl,hg⟩ ?_
  rintro n E H1 ⟨L1,ag,b,n1,m1,rfl,hI1,hcl,e0,e1,hb1,e5,hg1⟩
  simp only[go_sem,rE,e5]
  cases ag
  ·simp only[go_sem,rE]
   intro b9 hb9
   have hvb9:vb≠b9:=by rintro rfl;rw[hg1]at hb9;simp at hb9
   have hmem:∀i,i<vs.length->(i∈L1↔rW vs L0 i):=fun i hi=>⟨hI1.end_ i,fun h=>sd hI1.sub (hcl rfl) i h⟩
   have w1:=aL (n:=(vs.length:Int) - 1) (by omega) (by omega)
   simp only[go_sem,rE,e0,hlim,w1]
   refine aT vs.length (fun k E H2=>k<=vs.length/\∃(bo no mo:Nat),E 0=.lit (.slice (some ⟨vb,0,none⟩) vs.length vc)/\E 1=.sl 1 (some (b,n1,m1)) (bK L1)/\H2.get vb=some (.cells cs)/\
    E 10=I (vs.length - 1 - k)/\E 9=.sl 1 (some (bo,no,mo)) (bK (((dU vs.length).reverse.take k).filter fun i=>decide (i∈L1)))/\H2.get bo=some (.tail no mo))
    ⟨by omega,b9,0,0,by simp[go_sem,e0],by simp[go_sem,e1],by rw[ae _ _ hvb9];exact hg1,by simp[go_sem],by simp[go_sem,bK],ai _ _ _⟩ ?_
   rintro k E H2 - ⟨hk,bo,no,mo,f0,f1,hg2,f10,f9,hbo⟩
   simp only[go_sem,rE,f10]
   refine aG (fun hge=>?_) (fun hlt=>?_)
   ·have hk1:k<vs.length:=by omega
    have hkk:((vs.length:Int) - 1 - k)=((vs.length - 1 - k:Nat):Int):=by omega
    have htk:(dU vs.length).reverse.take (k+1)=(dU vs.length).reverse.take k++[vs.length - 1 - k]:=by
     rw[aA (by simpa using hk1)];simp
    have w2:=aL (n:=((vs.length - 1 - k:Nat):Int) - 1) (by omega) (by omega)
    have hlen:(((dU vs.length).reverse.take k).filter fun i=>decide (i∈L1)).length<=vs.length:=bZ (ix _ _) (by simp;omega)
    simp only[go_sem,rE,f10,f1,hkk]
    refine ao (qf L L1 (vs.length - 1 - k) (some (b,n1,m1)) (by have:=hI1.cnt;omega)) (rfl) ?_
    simp only[go_sem,rE,f10,f1,f9,hkk]
    by_cases hm:vs.length - 1 - k∈L1
    ·simp only[go_sem,rE,f10,f1,f9,hkk,hm,ax,aq,az]
     refine dV (es:=bK (((dU vs.length).reverse.take k).filter fun i=>decide (i∈L1))) (ys:=bK [vs.length - 1 - k]) (rfl) hbo (by simp[go_sem,bh,bK]) (by simp[bK]) (by rw[fX,fX];exact bZ (Nat.add_le_add_right hlen 1) (by omega)) ?_
     intro b' n' m' H' fp hb' hkeep _ _
     have hvb:H'.get vb=some (.cells cs):=by
      rw[hkeep vb (by rw[hg2];simp) (by rintro rfl;rw[hbo]at hg2;simp at hg2)];exact hg2
     simp only[go_sem,rE,f10,f1,f0,hkk,w2]
     refine⟨hk1,H',aj.sub_refl _,by omega,b',n',m',hvb,by congr 2;omega,?_,hb'⟩
     rw[htk,List.filter_append,bK,bK,bK,bB]
     simp[hm]
    ·simp only[go_sem,rE,f10,f1,f9,hkk,hm,f0,w2]
     refine⟨hk1,H2,aj.sub_refl _,by omega,bo,no,mo,hg2,by congr 2;omega,?_,hbo⟩
     rw[htk,List.filter_append]
     simp[hm]
   ·have hkl:k=vs.length:=by omega
    subst hkl
    simp only[go_sem,rE,f9]
    refine ak (q':=.sl 1 none (bK (yr vs L0))) ?_ (H':=H.only (gT (AC.lit (.slice (some ⟨vb,0,none⟩) vs.length vc)))) ?_ ⟨rfl,rfl⟩
    ·simp only[go_sem,rE]
     rw[cF (by simp)]
     have:yr vs L0=List.filter (fun i=>decide (i∈L1)) (dU vs.length).reverse:=by
      unfold yr
      refine List.filter_congr fun i hi=>?_
      have:=hmem i (by simpa using hi)
      simp[this]
     rw[this]
     exact .tok _ _ _
    ·intro d o hd
     by_cases hbd:gT (AC.lit (.slice (some ⟨vb,0,none⟩) vs.length vc)) d
     ·have:=hb d hbd
      subst this
      rw[bm hbd,hg]at hd
      rw[hg2,hd]
     ·rw[cd hbd]at hd;simp at hd
  ·simp only[go_sem,rE]
   let St:=fun(L2:List Nat) (ag2:Bool)=>OrdI vs L0 (L0.length+vs.length) L2/\(ag2=false->L2=L1)/\(ag2=true->jU vs.length L2<jU vs.length L1)
   let At:=fun(L2:List Nat) (ag2:Bool) (b2 n2 m2:Nat) (i:Nat) (E:Env) (H2:aj)=>E 0=.lit (.slice (some ⟨vb,0,none⟩) vs.length vc)/\E 1=.sl 1 (some (b2,n2,m2)) (bK L2)/\
    E 5=B ag2/\E 6=I i/\H2.get b2=some (.tail n2 m2)/\H2.get vb=some (.cells cs)
   let J:Nat->Env->aj->Prop:=fun i E H2=>∃(L2:List Nat) (ag2:Bool) (b n1 m1:Nat),St L2 ag2/\(ag2=false->∀j,j<i->mq vs L1 j)/\At L2 ag2 b n1 m1 i E H2
   refine aT vs.length J
    ⟨L1,false,b,n1,m1,⟨hI1,fun _=>rfl,by simp⟩,by simp,e0,e1,rfl,rfl,hb1,hg1⟩ ?_
   rintro i E H2 hi ⟨L2,ag2,b2,n2,m2,hSt,hcl2,f0,f1,f5,f6,hb2,hg2⟩
   simp only[go_sem,rE,rA,f0,f1,f6,hlim]
   refine aG (fun hlt=>?_) (fun hge=>?_)
   ·have hi1:i<vs.length:=by omega
    obtain⟨r0,r1,r2,r3,r4,r5⟩:=hrow hi1
    have w1:=aL (n:=(i:Int)+1) (by omega) (by omega)
    have hlen2:L2.length<=L0.length+vs.length:=by have:=hSt.1.cnt;omega
    simp only[go_sem,rE,rA,f0,f1,f6,hlt,hg2,r5]
    have skip:∀(E':Env),E' 0=.lit (.slice (some ⟨vb,0,none⟩) vs.length vc)->E' 1=.sl 1 (some (b2,n2,m2)) (bK L2)->E' 5=B ag2->E' 6=I (i+1:Nat)->mq vs L2 i->
     i<vs.length/\∃H'',aj.sub H'' H2/\J (i+1) E' H'':=by
     intro E' g0 g1 g5 g6 hc'
     refine⟨hi1,H2,aj.sub_refl _,L2,ag2,b2,n2,m2,hSt,fun ha j hj=>?_,g0,g1,g5,g6,hb2,hg2⟩
     by_cases hji:j=i
     ·subst hji;rw[<-hSt.2.1 ha];exact hc'
     ·exact hcl2 ha j (by omega)
    by_cases hd:vs[i].dead=true
    ·simp only[go_sem,rE,rA,f0,f1,f6,hd,w1]
     exact skip _ (f0) (f1) (f5) (rfl) (.inr fun _=>.inl hd)
    simp only[Bool.not_eq_true]at hd
    by_cases hl:vs[i].lent=false
    ·simp only[go_sem,rE,rA,f0,f1,f6,hd,hl,w1,hlt,hg2,r1]
     exact skip _ (f0) (f1) (f5) (rfl) (.inr fun _=>.inr (.inl hl))
    simp only[Bool.not_eq_false]at hl
    simp only[go_sem,rE,rA,f0,f1,f6,hd,hl,w1,hlt,hg2,r1]
    refine ao (qf L L2 i (some (b2,n2,m2)) (by omega)) (rfl) ?_
    by_cases hm:i∈L2
    ·simp only[go_sem,rE,rA,f0,f1,f6,hm,w1]
     exact skip _ (f0) (f1) (f5) (rfl) (.inl hm)
    simp only[go_sem,rE,rA,f0,f1,f6,hm]
    have hll:vs[i].loans.length<=2^20:=hlo _ (ay hi1)
    let J2:Nat->Env->aj->Prop:=fun k E H2=>E 7=I k/\∃(L2:List Nat) (ag2:Bool) (b n1 m1:Nat),St L2 ag2/\(ag2=false->(∀j,j<i->mq vs L1 j)/\i∉L1/\
     ∀k',k'<k->∀(h:k'<vs[i].loans.length),∀j∈L1,∀(hj:j<vs.length),vs[j].name≠vs[i].loans[k'].name)/\At L2 ag2 b n1 m1 i E H2
    refine aT vs[i].loans.length J2 ⟨rfl,L2,ag2,b2,n2,m2,hSt,fun ha=>⟨hcl2 ha,by rw[<-hSt.2.1 ha];exact hm,by simp⟩,f0,f1,f5,f6,hb2,hg2⟩ ?_
    clear skip hm hSt hcl2 hb2 f0 f1 f5 f6 hg2 hlen2
    rintro k E H2 hk ⟨f7,L2,ag2,b2,n2,m2,hSt,hcl2,f0,f1,f5,f6,hb2,hg2⟩
    simp only[go_sem,rE,rA,f0,f1,f6,f7,hlt,hg2,r4,am]
    refine aG (fun hltk=>?_) (fun hgek=>?_)
    ·have hk1:k<vs[i].loans.length:=by omega
     simp only[go_sem,rE]
     let J3:Nat->Env->aj->Prop:=fun n E H2=>E 8=I n/\E 7=I k/\∃(L2:List Nat) (ag2:Bool) (b n1 m1:Nat),St L2 ag2/\n<=L2.length/\(ag2=false->(∀j,j<i->mq vs L1 j)/\i∉L1/\
      (∀k',k'<k->∀(h:k'<vs[i].loans.length),∀j∈L1,∀(hj:j<vs.length),vs[j].name≠vs[i].loans[k'].name)/\
      ∀n',n'<n->∀(h:n'<L1.length),∀(hj:L1[n']<vs.length),vs[L1[n']].name≠vs[i].loans[k].name)/\At L2 ag2 b n1 m1 i E H2
     refine aT (L0.length+vs.length) J3 ⟨rfl,f7,L2,ag2,b2,n2,m2,hSt,by omega,fun ha=>⟨(hcl2 ha).1,(hcl2 ha).2.1,(hcl2 ha).2.2,by simp⟩,f0,f1,f5,f6,hb2,hg2⟩ ?_
     clear hSt hcl2 hb2 f0 f1 f5 f6 f7 hg2
     rintro n E H2 hn ⟨f8,f7,L2,ag2,b2,n2,m2,hSt,hn2,hcl2,f0,f1,f5,f6,hb2,hg2⟩
     have hlen2:L2.length<=L0.length+vs.length:=by have:=hSt.1.cnt;omega
     simp only[go_sem,rE,rA,f0,f1,f6,f7,f8,fX]
     refine aG (fun hltn=>?_) (fun hgen=>?_)
     ·have hn1:n<L2.length:=by omega
      have hj1:=hSt.1.lt _ (ay hn1)
      have hj1':(L2[n]:Int)<vs.length:=by omega
      have w2:=aL (n:=(n:Int)+1) (by omega) (by omega)
      simp only[go_sem,rE,rA,f0,f1,f6,f7,f8,jH hn1,hj1',hlt,hg2,r4,(hrow hj1).1,qC hk1]
      by_cases he:vs[L2[n]].name=vs[i].loans[k].name
      ·simp only[go_sem,rE,rA,he]
       refine ao (qf L L2 i (some (b2,n2,m2)) (by omega)) (by simp only[go_sem,rE,f1,f6]) ?_
       by_cases hm:i∈L2
       ·simp only[go_sem,rE,rA,hm,f8,w2]
        have hag:ag2=true:=by
         cases ag2
         ·exact absurd (hSt.2.1 rfl▸hm) (hcl2 rfl).2.1
         ·rfl
        subst hag
        exact⟨by omega,H2,aj.sub_refl _,rfl,f7,L2,true,b2,n2,m2,hSt,hn1,by simp,f0,f1,f5,f6,hb2,hg2⟩
       ·simp only[go_sem,rE,rA,hm,f1,f6,ax,aq,az]
        refine dV (es:=bK L2) (ys:=bK [i]) (rfl) hb2 (by simp[go_sem,bh,bK]) (by simp[bK]) (by simp[bK];omega) ?_
        intro b' n' m' H' fp hb' hkeep _ _
        have hvb:H'.get vb=some (.cells cs):=by
         rw[hkeep vb (by rw[hg2];simp) (by rintro rfl;rw[hb2]at hg2;simp at hg2)];exact hg2
        have hsnoc:=xu hi1 hm
        simp only[go_sem,rE,rA,f8,w2]
        refine⟨by omega,H',aj.sub_refl _,rfl,f7,L2++[i],true,b',n',m',⟨⟨fun j hj=>by simp[hSt.1.sub j hj],fun j hj=>?_,fun j hj=>?_,by simp;have:=hSt.1.cnt;omega⟩,by simp,fun _=>?_⟩,by simp;omega,by simp,
         by simp[go_sem,f0],by simp[go_sem,bK],by simp[go_sem],by simp[go_sem,f6],hb',hvb⟩
        ·rcases aF.1 hj with hj|hj
         ·exact hSt.1.end_ j hj
         ·simp at hj;subst hj
          exact .step hi1 hd hl (ay hk1) (hSt.1.end_ _ (ay hn1)) hj1 he
        ·rcases aF.1 hj with hj|hj
         ·exact hSt.1.lt j hj
         ·simp at hj;subst hj;exact hi1
        ·cases ag2
         ·have:=hSt.2.1 rfl;subst this;omega
         ·have:=hSt.2.2 rfl;omega
      ·simp only[go_sem,rE,rA,he,f8,w2]
       refine⟨by omega,H2,aj.sub_refl _,rfl,f7,L2,ag2,b2,n2,m2,hSt,hn1,fun ha=>⟨(hcl2 ha).1,(hcl2 ha).2.1,(hcl2 ha).2.2.1,fun n' hn' hl' hj'=>?_⟩,f0,f1,f5,f6,hb2,hg2⟩
       by_cases hnn:n'=n
       ·subst hnn
        have:=hSt.2.1 ha;subst this;exact he
       ·exact(hcl2 ha).2.2.2 n' (by omega) hl' hj'
     ·have hnn:n=L2.length:=by omega
      have w2:=aL (n:=(k:Int)+1) (by omega) (by omega)
      simp only[go_sem,rE,f7,w2]
      refine⟨hk1,H2,aj.sub_refl _,rfl,L2,ag2,b2,n2,m2,hSt,fun ha=>⟨(hcl2 ha).1,(hcl2 ha).2.1,fun k' hk' hkl j hj hjl=>?_⟩,f0,f1,f5,f6,hb2,hg2⟩
      by_cases hkk:k'=k
      ·subst hkk
       obtain⟨n',hn',rfl⟩:=bj.1 hj
       have:=hSt.2.1 ha;subst this
       exact(hcl2 ha).2.2.2 n' (by omega) hn' hjl
      ·exact(hcl2 ha).2.2.1 k' (by omega) hkl j hj hjl
    ·have hkk:k=vs[i].loans.length:=by omega
     simp only[go_sem,rE,f6,w1]
     refine⟨hi1,H2,aj.sub_refl _,L2,ag2,b2,n2,m2,hSt,fun ha j hj=>?_,f0,f1,f5,rfl,hb2,hg2⟩
     by_cases hji:j=i
     ·subst hji
      refine .inr fun hj'=>.inr (.inr fun q hq j' hj'' hjl=>?_)
      obtain⟨k',hk',rfl⟩:=bj.1 hq
      exact(hcl2 ha).2.2 k' (by omega) hk' j' hj'' hjl
     ·exact(hcl2 ha).1 j (by omega)
   ·have:i=vs.length:=by omega
    subst this
    simp only[go_sem,rE,f0,f1,f5]
    cases ag2
    ·have h21:=hSt.2.1 rfl
     subst h21
     refine⟨2*jU vs.length L2,by simp,H2,aj.sub_refl _,L2,false,b2,n2,m2,by simp,hI1,fun _=>hcl2 rfl,?_⟩
     simp only[go_sem,rE,f5,hb2,hg2]
    ·have:=hSt.2.2 rfl
     refine⟨2*jU vs.length L2+1,by simp;omega,H2,aj.sub_refl _,L2,true,b2,n2,m2,by simp,hSt.1,by simp,?_⟩
     simp only[go_sem,rE,f5,hb2,hg2]
end
def pP(vs:List Vr)(n:Nat)(s:ByteArray):Bool:=match vs[n]? with
 |some v=>decide (v.name=s)
 |none=>false
def lm(vs:List Vr)(p:Pl)(out:List Nat)(q:Pl):Bool:=p.meet q||out.any fun n=>pP vs n q.name
def jJ(vs:List Vr)(p:Pl)(out:List Nat)(i:Nat):List Nat:=match vs[i]? with
 |some v=>if v.dead=false/\v.lent=true/\v.loans.any (lm vs p out)=true then out++[i]else out
 |none=>out
def bM(vs:List Vr)(p:Pl):Nat->List Nat
 |0=>[]
 |j+1=>jJ vs p (bM vs p j) (vs.length - 1 - j)
noncomputable def eW(vs:List Vr)(p:Pl):List Nat:=yr vs (bM vs p vs.length)
theorem li(vs:List Vr)(p:Pl):∀j,∀i∈bM vs p j,i<vs.length
 |0,i,h=>by simp[bM]at h
 |j+1,i,h=>by
  simp only[bM,jJ]at h
  split at h
  ·rename_i v hv
   obtain⟨hl,-⟩:=aQ.1 hv
   split at h
   ·rcases aF.1 h with h|h
    ·exact li vs p j i h
    ·simp at h;omega
   ·exact li vs p j i h
  ·exact li vs p j i h
theorem lH(vs:List Vr)(p:Pl):∀j,(bM vs p j).length<=j
 |0=>by simp[bM]
 |j+1=>by
  have ih:=lH vs p j
  simp only[bM,jJ]
  split
  ·split
   ·simp;omega
   ·omega
  ·omega
section
variable {P:Program}{F:Ids}
structure Vr.ok(v:Vr):Prop where
 loans:v.loans.length<=2^20
 paths:∀q∈v.loans,q.path.length<=2^20
theorem eN.blk{H:aj}{sz:Nat}{rows:List (List AC)}{x:AC}(h:eN H sz rows x){d:Nat}(hd:gT x d):∃cs,H.get d=some (.cells cs):=by
 obtain⟨n,c,rfl⟩:=hd
 rcases h with⟨-,h⟩|⟨b,c',cs,h,hg,-⟩
 ·simp at h
 ·simp at h;obtain⟨rfl,-⟩:=h;exact⟨_,hg⟩
theorem eN.sub{H H':aj}{sz:Nat}{rows:List (List AC)}{x:AC}(h:eN H sz rows x)(hs:H.sub H'):eN H' sz rows x:=
 h.mono fun d hd=>by obtain⟨cs,hc⟩:=h.blk hd;rw[hs _ _ hc,hc]
theorem aj.sub.new{H H':aj}(h:H.sub H'){b:Nat}(hb:H'.get b=none)(o:cK):H.sub (H'.set b o):=by
 intro c q hc
 have:=h c q hc
 rw[ae _ _ (by rintro rfl;rw[hb]at this;simp at this)];exact this
theorem c_ends(L:Lib P F)(e:Nat)(v:En)(VS NS:AC)(H:aj)(h:bF H e v VS NS)(hl:v.vars.length<=2^20)(ho:∀x∈v.vars,x.ok)(p:Pl)(hp:p.path.length<=2^20):
 bD P F.s_l3Env_ends [.ptr e 0,.agg p.enc] H fun q H'=>q=.sl 1 none (bK (eW v.vars p))/\H'=H:=by
 refine L.s_l3Env_ends (by simp[kO]) ?_
 obtain⟨pg,fn,vs,names,code⟩:=v
 obtain⟨hob,hv,hns⟩:=h
 simp only[cZ]at hob hv hns hl ho
 have fin:∀(E:Env) (H1:aj) (b n m:Nat),E 0=.ptr e 0->E 5=.sl 1 (some (b,n,m)) (bK (bM vs p vs.length))->H1.get b=some (.tail n m)->H.sub H1->H.get b=none->
  (aX.seq (rg [mv 0 99 0,nc 1 100 99,fa 2 101 2 100,ld 3 102 none 101,mv 4 103 5,ca 5 104 F.s_l3Order [102,103],mv 6 4 104]) .ret).wp P
   (aD.post [.slot 4] fun q H'=>q=.sl 1 none (bK (eW vs p))/\H'=H) E H1:=by
  intro E H1 b n m e0 e5 hb hs hbn
  simp only[go_sem,rE,e0,hs _ _ hob,e5]
  have hv1:=hv.sub hs
  let S:=fun d=>gT VS d\/d=b
  refine gH S (AI L vs VS (bM vs p vs.length) (.sl 1 (some (b,n,m)) (bK (bM vs p vs.length))) (H1.only S) (eN.mono hv1 fun d hd=>bm (.inl hd)) ⟨b,n,m,rfl,by rw[bm (.inr rfl)];exact hb⟩
   (li vs p _) hl (bZ (lH vs p _) hl) fun x hx=>(ho x hx).loans) (rfl) (.refl _) (by simp) trivial ?_
  rintro q H' H2 ⟨rfl,rfl⟩ hsub hafter - -
  simp only[go_sem,rE]
  refine ak (q':=.sl 1 none (bK (eW vs p))) (by simp only[go_sem,rE];exact .refl _) (H':=H) (fun d o hd=>?_) ⟨rfl,rfl⟩
  have hd1:=hs _ _ hd
  by_cases hSd:gT VS d
  ·refine hsub d o ?_
   rw[bm hSd,bm (.inl hSd)];exact hd1
  ·have hn:¬S d:=fun h=>h.elim hSd (fun h=>by subst h;rw[hbn]at hd;simp at hd)
   rw[hafter.out d hn (by rw[hd1];simp)];exact hd1
 simp only[kO,go_sem,rE,Pl.enc]
 intro pb hpb ob hob'
 have hs1:H.sub (H.set pb (.cells [S p.name,au p.path])):=o9 hpb
 have hs2:=hs1.new hob' (.tail 0 0)
 have hpo:pb≠ob:=by rintro rfl;simp at hob'
 have hobn:H.get ob=none:=by rw[ae _ _ (Ne.symm hpo)]at hob';exact hob'
 rcases hv with⟨hv,rfl⟩|⟨vb,vc,cs,rfl,hg,hc,hvc,hcs⟩
 ·have hvs:vs=[]:=by simpa using hv
  subst hvs
  have w1:=aL (n:=(0:Int) - 1) (by omega) (by omega)
  simp only[go_sem,rE,hs2 _ _ hob,w1]
  refine aT 0 (fun k E H1=>E 0=.ptr e 0/\E 5=.sl 1 (some (ob,0,0)) []/\H1.get ob=some (.tail 0 0)/\H.sub H1/\E 6=I (-1)) ⟨rfl,rfl,ai _ _ _,hs2,rfl⟩ ?_
  rintro k E H1 - ⟨e0,e5,hb,hs,e6⟩
  simp only[wp_seq,go_sem,rE,e6]
  refine aG (fun h=>absurd h (by decide)) (fun _=>?_)
  simp only[wp_exit,fl,dL,cC]
  exact fin _ _ ob 0 0 (e0) (by simp[go_sem,e5,bM,bK]) hb hs hobn
 ·have hrow:=fun {k:Nat} (hk:k<vs.length)=>vd (H:=H) (b:=vb) (c:=vc) hcs hk
  have hlim:vs.length<=LIM:=by simp[LIM];omega
  simp only[am]at*
  have w1:=aL (n:=(vs.length:Int) - 1) (by omega) (by omega)
  simp only[go_sem,rE,hs2 _ _ hob,w1,hlim]
  let At:=fun(k b n m:Nat) (out:List Nat) (E:Env) (H1:aj)=>E 0=.ptr e 0/\E 3=.ptr pb 0/\E 5=.sl 1 (some (b,n,m)) (bK out)/\E 6=I (vs.length - 1 - k)/\H1.get b=some (.tail n m)/\H.get b=none/\H.sub H1/\
   H1.get pb=some (.cells [S p.name,au p.path])
  let J:Nat->Env->aj->Prop:=fun k E H1=>k<=vs.length/\∃b n m,At k b n m (bM vs p k) E H1
  refine aT vs.length J ⟨by omega,ob,0,0,by simp[go_sem],by simp[go_sem],by simp[go_sem,bM,bK],by simp[go_sem],ai _ _ _,hobn,hs2,by rw[ae _ _ hpo,ai]⟩ ?_
  rintro k E H1 hk ⟨-,b,n,m,e0,e3,e5,e6,hb,hbn,hs,hp1⟩
  have hob1:=hs _ _ hob
  have hg1:=hs _ _ hg
  simp only[wp_seq,go_sem,rE,e6]
  refine aG (fun hge=>?_) (fun hlt=>?_)
  ·have hi:vs.length - 1 - k<vs.length:=by omega
   have hkk:((vs.length:Int) - 1 - k)=((vs.length - 1 - k:Nat):Int):=by omega
   obtain⟨r0,r1,r2,r3,r4,r5⟩:=hrow hi
   have hvi:vs[vs.length - 1 - k]?=some vs[vs.length - 1 - k]:=av hi
   have hraw:bM vs p (k+1)=jJ vs p (bM vs p k) (vs.length - 1 - k):=rfl
   simp only[jJ,hvi]at hraw
   have hvo:=ho _ (ay hi)
   generalize hix:vs.length - 1 - k=i at*
   generalize hxv:vs[i]=x at*
   have hlt:(i:Int)<vs.length:=by omega
   have w2:=aL (n:=(i:Int) - 1) (by omega) (by omega)
   have hnext:∀(E':Env) (H2:aj) (b n m:Nat) (out:List Nat),E' 0=.ptr e 0->E' 3=.ptr pb 0->E' 5=.sl 1 (some (b,n,m)) (bK out)->E' 6=I ((i:Int) - 1)->H2.get b=some (.tail n m)->H.get b=none->H.sub H2->
    H2.get pb=some (.cells [S p.name,au p.path])->bM vs p (k+1)=out->k<vs.length/\∃H'',aj.sub H'' H2/\J (k+1) E' H'':=by
    rintro E' H2 b n m out g0 g3 g5 g6 g7 g8 g9 g10 rfl
    exact⟨by omega,H2,aj.sub_refl _,by omega,b,n,m,g0,g3,g5,by rw[g6];exact congrArg (fun z:Int=>I z) (by omega),g7,g8,g9,g10⟩
   simp only[go_sem,rE,rA,e0,e6,hob1,hkk,hlt,hg1,r5]
   by_cases hd:x.dead=true
   ·simp only[go_sem,rE,rA,hd,e6,hkk,w2]
    exact hnext _ _ b n m (bM vs p k) (e0) (e3) (e5) (rfl) hb hbn hs hp1 (by rw[hraw];simp[hd])
   simp only[Bool.not_eq_true]at hd
   by_cases hle:x.lent=false
   ·simp only[go_sem,rE,rA,hd,e0,e6,hob1,hkk,hlt,hg1,r1,hle,w2]
    exact hnext _ _ b n m (bM vs p k) (e0) (e3) (e5) (rfl) hb hbn hs hp1 (by rw[hraw];simp[hle])
   simp only[Bool.not_eq_false]at hle
   simp only[go_sem,rE,rA,hd,e0,e6,hob1,hkk,hlt,hg1,r1,hle]
   simp only[hd,hle,true_and]at hraw
   let At2:=fun(c:Bool) (E:Env) (H1:aj)=>At k b n m (bM vs p k) E H1/\E 7=B c
   let J2:Nat->Env->aj->Prop:=fun j E H1=>At2 ((x.loans.take j).any (lm vs p (bM vs p k))) E H1/\E 8=I j
   refine aT x.loans.length J2 ⟨⟨⟨e0,e3,e5,e6,hb,hbn,hs,hp1⟩,rfl⟩,rfl⟩ ?_
   clear hb hs hp1 hob1 hg1 e0 e3 e5 e6
   rintro j E H1 hj ⟨⟨⟨e0,e3,e5,e6,hb,-,hs,hp1⟩,e7⟩,e8⟩
   have hob1:=hs _ _ hob
   have hg1:=hs _ _ hg
   have hloans:=hvo.loans
   simp only[go_sem,rE,rA,e0,e6,e8,hob1,hkk,hix,hlt,hg1,r4,am]
   refine aG (fun hltj=>?_) (fun hgej=>?_)
   ·have hj1:j<x.loans.length:=by omega
    have w3:=aL (n:=(j:Int)+1) (by omega) (by omega)
    have hpath:=hvo.paths _ (ay hj1)
    simp only[go_sem,rE,rA,e0,e6,e8,hob1,hkk,hix,hlt,hg1,r4,qC hj1]
    intro qb hqb
    have hpq:pb≠qb:=by rintro rfl;rw[hp1]at hqb;simp at hqb
    have hbq:b≠qb:=by rintro rfl;rw[hb]at hqb;simp at hqb
    have heq:e≠qb:=by rintro rfl;rw[hob1]at hqb;simp at hqb
    have hvq:vb≠qb:=by rintro rfl;rw[hg1]at hqb;simp at hqb
    have htk:x.loans.take (j+1)=x.loans.take j++[x.loans[j]]:=aA hj1
    have hsq:H.sub (H1.set qb (.cells [S x.loans[j].name,au x.loans[j].path])):=hs.new hqb _
    have hc:=x6 L p x.loans[j] (bZ hp (by decide))
    simp only[Pl.enc]at hc
    have inner:∀(E':Env) (c0:Bool) (H2:aj),c0=((x.loans.take j).any (lm vs p (bM vs p k))||p.meet x.loans[j])->At k b n m (bM vs p k) E' H2->E' 7=B c0->E' 8=I j->E' 9=.ptr qb 0->E' 10=I 0->
     H2.get qb=some (.cells [S x.loans[j].name,au x.loans[j].path])->
     ∀K:cL->Env->aj->Prop,(∀E2 H3,At2 ((x.loans.take (j+1)).any (lm vs p (bM vs p k))) E2 H3->E2 8=I j->K .normal E2 H3)->
     (aX.wp P (.block 4 (.loop (.seq (.seq (rg [mv 0 71 10,mv 1 72 5,pu 2 73 (.lenSl 72),pu 3 74 (.bin .lss 71 73)]) (.cond 74 .skip (.exit 4))) (.seq (.block 5 (.region true [mv 0 77 7,mv 1 78 77,gp 2 79 78 false (.move 0),gp 3 80 78 false (.nilCheck 79),gp 4 81 78 false (.fieldAddr 2 80),gl 5 82 78 false none 81,gp 6 83 78 false (.move 5),gp 7 84 78 false (.move 10),gp 8 85 78 false (.indexAddr 1 83 84),gl 9 86 78 false none 85,gp 10 87 78 false (.indexAddr 6 82 86),gp 11 88 78 false (.fieldAddr 0 87),gl 12 89 78 false none 88,gp 13 90 78 false (.fieldAddr 0 9),gl 14 91 78 false none 90,gp 15 92 78 false (.bin .eql 89 91),pu 16 93 (.pick 78 ct 92),mv 17 7 93])) (rg [mv 0 75 10,pu 1 76 (.bin .add 75 (ci 1)),mv 2 10 76]))))) K E' H2):=by
     rintro E' c0 H2 hc0 hAt e7 e8 e9 e10 hq K hK
     simp only[wp_block]
     let J3:Nat->Env->aj->Prop:=fun n' E H2=>n'<=(bM vs p k).length/\At k b n m (bM vs p k) E H2/\E 7=B (c0||((bM vs p k).take n').any fun n=>pP vs n x.loans[j].name)/\E 8=I j/\E 9=.ptr qb 0/\E 10=I n'/\H2.get qb=some (.cells [S x.loans[j].name,au x.loans[j].path])
     refine aT (bM vs p k).length J3 ⟨by omega,hAt,by simp[e7],e8,e9,by simpa using e10,hq⟩ ?_
     clear hAt e7 e8 e9 e10 hq
     rintro n' E H2 hn' ⟨-,⟨e0,e3,e5,e6,hb,hbn,hs,hp1⟩,e7,e8,e9,e10,hq⟩
     have hob1:=hs _ _ hob
     have hg1:=hs _ _ hg
     have hlr:=lH vs p k
     simp only[go_sem,rE,rA,e10,e5,fX]
     refine aG (fun hltn=>?_) (fun hgen=>?_)
     ·have hn1:n'<(bM vs p k).length:=by omega
      have hjl:=li vs p k _ (ay hn1)
      have hjl':(((bM vs p k)[n']:Nat):Int)<vs.length:=by omega
      have w4:=aL (n:=(n':Int)+1) (by omega) (by omega)
      have htn:((bM vs p k).take (n'+1)).any (fun n=>pP vs n x.loans[j].name)=(((bM vs p k).take n').any (fun n=>pP vs n x.loans[j].name)||decide (vs[(bM vs p k)[n']].name=x.loans[j].name)):=by
       rw[aA hn1,fy]
       simp[pP,hjl]
      cases hc1:(c0||((bM vs p k).take n').any fun n=>pP vs n x.loans[j].name)
      ·rw[hc1]at e7
       simp only[go_sem,rE,rA,e0,e5,e7,e9,e10,hob1,jH hn1,hjl',hg1,(hrow hjl).1,hq,w4]
       refine⟨hn1,H2,aj.sub_refl _,by omega,⟨e0,e3,e5,e6,hb,hbn,hs,hp1⟩,?_,e8,e9,rfl,hq⟩
       rw[htn,<-Bool.or_assoc,hc1];simp[go_sem]
      ·rw[hc1]at e7
       simp only[go_sem,rE,rA,e7,e10,w4]
       refine⟨hn1,H2,aj.sub_refl _,by omega,⟨e0,e3,e5,e6,hb,hbn,hs,hp1⟩,?_,e8,e9,rfl,hq⟩
       rw[htn,<-Bool.or_assoc,hc1];simp[go_sem]
     ·have hnn:n'=(bM vs p k).length:=by omega
      subst hnn
      rw[aU]at e7
      simp only[wp_exit,fl,dL]
      refine hK _ _ ⟨⟨e0,e3,e5,e6,hb,hbn,hs,hp1⟩,?_⟩ (e8)
      simp only[go_sem,rE,e7]
      rw[htk,fy,hc0,Bool.or_assoc]
      simp[lm]
    have back:∀E2 H3,At2 ((x.loans.take (j+1)).any (lm vs p (bM vs p k))) E2 H3->E2 8=I j->
     bw P false (fun E' H'=>j<x.loans.length/\∃H'',H''.sub H'/\J2 (j+1) E' H'') [mv 0 52 8,pu 1 53 (.bin .add 52 (ci 1)),mv 2 8 53] E2 H3 [] []:=by
     rintro E2 H3 ⟨⟨e0,e3,e5,e6,hb,-,hs,hp1⟩,e7⟩ e8
     simp only[go_sem,rE,e8,w3]
     exact⟨hj1,H3,aj.sub_refl _,⟨⟨e0,e3,e5,e6,hb,hbn,hs,hp1⟩,e7⟩,rfl⟩
    cases hc0:(x.loans.take j).any (lm vs p (bM vs p k))
    ·rw[hc0]at e7
     simp only[wp_seq,go_sem,rE,rA,e7,e3,hp1,hpq]
     refine ao hc (rfl) ?_
     simp only[go_sem,rE,rA]
     refine inner _ (p.meet x.loans[j]) _ (by simp[hc0]) ⟨by simp[go_sem,e0],by simp[go_sem,e3],by simp[go_sem,e5],by simp[go_sem,e6],by rw[ae _ _ hbq];exact hb,hbn,hsq,by rw[ae _ _ hpq];exact hp1⟩ (by simp[go_sem,e7]) (by simp[go_sem,e8]) (by simp[go_sem]) (by simp[go_sem]) (by simp) _ ?_
     intro E2 H3 hA2 h8
     simp only[lq,cC,wp_region]
     exact back E2 H3 hA2 h8
    ·rw[hc0]at e7
     simp only[wp_seq,go_sem,rE,rA,e7]
     refine inner _ true _ (by simp[hc0]) ⟨by simp[go_sem,e0],by simp[go_sem,e3],by simp[go_sem,e5],by simp[go_sem,e6],by rw[ae _ _ hbq];exact hb,hbn,hsq,by rw[ae _ _ hpq];exact hp1⟩ (by simp[go_sem,e7]) (by simp[go_sem,e8]) (by simp[go_sem]) (by simp[go_sem]) (by simp) _ ?_
     intro E2 H3 hA2 h8
     simp only[lq,cC,wp_region]
     exact back E2 H3 hA2 h8
   ·have hjj:j=x.loans.length:=by omega
    subst hjj
    rw[aU]at e7
    have hrl:=lH vs p k
    cases hc0:x.loans.any (lm vs p (bM vs p k))
    ·rw[hc0]at e7 hraw
     simp only[go_sem,rE,rA,e7,e6,hkk,hix,w2]
     exact hnext _ _ b n m (bM vs p k) (e0) (e3) (e5) (rfl) hb hbn hs hp1 (by rw[hraw];simp)
    ·rw[hc0]at e7 hraw
     simp only[go_sem,rE,rA,e7,e5,e6,hkk,hix,ax,aq,az]
     refine dV (es:=bK (bM vs p k)) (ys:=bK [i]) (rfl) hb (by simp[go_sem,bh,bK]) (by simp[bK]) (by simp[bK];omega) ?_
     intro b' n' m' H' fp hb' hkeep hbb _
     have hs':H.sub H':=by
      intro d o hd
      have hd1:=hs _ _ hd
      rw[hkeep d (by rw[hd1];simp) (by rintro rfl;rw[hbn]at hd;simp at hd)];exact hd1
     have hpb':H'.get pb=some (.cells [S p.name,au p.path]):=by
      rw[hkeep pb (by rw[hp1];simp) (by rintro rfl;rw[hb]at hp1;simp at hp1)];exact hp1
     have hbn':H.get b'=none:=by
      rcases hbb with rfl|h
      ·exact hbn
      ·rcases cg (H.get b')with e|⟨o,e⟩
       ·exact e
       ·rw[hs _ _ e]at h;simp at h
     simp only[go_sem,rE,rA,e6,hkk,hix,w2]
     exact hnext _ _ b' n' m' (bM vs p k++[i]) (by simp[go_sem,e0]) (by simp[go_sem,e3]) (by simp[go_sem,bK]) (by simp[go_sem]) hb' hbn' hs' hpb' (by rw[hraw];simp)
  ·have hkk:k=vs.length:=by omega
   subst hkk
   simp only[wp_exit,fl,dL,cC]
   exact fin _ _ b n m (e0) (e5) hb hs hbn
end
theorem bF.mem{H:aj}{e:Nat}{v:En}{VS NS:AC}(h:bF H e v VS NS){d:Nat}(hd:aP e VS NS d):H.get d≠none:=by
 rcases hd with rfl|hd|⟨sz,n,m,es,hd⟩
 ·rw[h.obj];simp
 ·obtain⟨cs,hc⟩:=h.vars.blk hd;rw[hc];simp
 ·subst hd
  rcases h.names with⟨-,h'⟩|⟨b,n',m',h',hb⟩
  ·simp at h'
  ·simp at h';obtain⟨-,⟨rfl,-⟩,-⟩:=h';rw[hb];simp
theorem bF.only{H:aj}{e:Nat}{v:En}{VS NS:AC}(h:bF H e v VS NS):bF (H.only (aP e VS NS)) e v VS NS:=
 h.mono fun d hd=>bm hd
theorem qH(e N:Nat)(v:En):∃H' VS NS,bF H' e v VS NS/\∀b,H'.get b≠none->b=e\/N<=b:=by
 let b1:=N+e+1
 let b2:=N+e+2
 let VS:AC:=.lit (.slice (some ⟨b1,0,none⟩) (v.vars.map Vr.enc).length (v.vars.map Vr.enc).length)
 let NS:AC:=.sl 1 (some (b2,0,0)) (a9 v.names)
 refine⟨((aj.empty.set b2 (.tail 0 0)).set b1 (.cells (v.vars.map Vr.enc).flatten)).set e (cZ v.p v.fn VS NS v.code),VS,NS,⟨ai _ _ _,?_,?_⟩,fun b hb=>?_⟩
 ·refine .inr ⟨b1,_,(v.vars.map Vr.enc).flatten,rfl,?_,?_,aC _,?_⟩
  ·rw[ae _ _ (by omega),ai]
  ·rw[dD (sz:=6) (by simp[Vr.enc])]
  ·rw[cF];rw[dD (sz:=6) (by simp[Vr.enc])];omega
 ·refine .inr ⟨b2,0,0,rfl,?_⟩
  rw[ae _ _ (by omega),ae _ _ (by omega),ai]
 ·by_cases h1:b=e
  ·exact .inl h1
  ·rw[ae _ _ h1]at hb
   by_cases h2:b=b1
   ·exact .inr (by omega)
   ·rw[ae _ _ h2]at hb
    by_cases h3:b=b2
    ·exact .inr (by omega)
    ·rw[ae _ _ h3]at hb;simp at hb
def jN(P:Program)(g:FuncId)(as:List AC)(e:Nat)(v:En)(R:AC->En->Prop):Prop:=
 ∀(H:aj) (VS NS:AC),bF H e v VS NS->bD P g as H fun q H'=>∃v' VS' NS',R q v'/\bF H' e v' VS' NS'
theorem bF.setO{H:aj}{e:Nat}{v:En}{VS NS:AC}(h:bF H e v VS NS)(c:Int):bF (H.set e (cZ v.p v.fn VS NS c)) e {v with code:=c} VS NS:=by
 refine⟨ai _ _ _,eN.mono h.vars fun d hd=>ae _ _ ?_,h.names.set h.obj _⟩
 rintro rfl;exact iL h.obj h.vars hd
section
variable {P:Program}{dr:Bool}{K:Env->aj->Prop}{xs:List aN}{E:Env}{H:aj}{l:Lds}{f:Fps}
theorem bL{i:Nat}{g:FuncId}{args:List aI}{d:Option Nat}{inc:List Nat}{as as':List AC}{e:Nat}{v:En}{VS NS:AC}{R:AC->En->Prop}(hc:jN P g as e v R)(hE:bF H e v VS NS)
(ha:args.map (aI.ev E)=as')(hl:LeA as' as)(hlive:dr=true->∃q v',R q v')(hchk:dS inc l (aP e VS NS))
(h:∀q v' VS' NS' H1 fp,R q v'->bF H1 e v' VS' NS'->(∀b o,H.get b=some o->¬aP e VS NS b->H1.get b=some o/\¬aP e VS' NS' b)->
  (∀c,fp c->aP e VS NS c\/H.get c=none)->bw P dr K xs (E.put d q) H1 l ((i,fp)::f)):
 bw P dr K (⟨i,d,none,.eff (.call g args),inc⟩::xs) E H l f:=by
 have hge:∀b,(H.only (aP e VS NS)).get b≠none↔aP e VS NS b:=by
  intro b
  by_cases hb:aP e VS NS b
  ·simp only[bm hb,hb,iff_true];exact hE.mem hb
  ·simp[cd hb,hb]
 refine gH (aP e VS NS) (hc (H.only (aP e VS NS)) VS NS hE.only) ha hl (fun hd N=>?_) ?_ ?_
 ·obtain⟨q,v',hq⟩:=hlive hd
  obtain⟨H',VS',NS',hE',hfar⟩:=qH e N v'
  refine⟨q,H',⟨v',VS',NS',hq,hE'⟩,fun b hb hn=>?_⟩
  rcases hfar b hb with rfl|h
  ·rw[bm (.inl rfl),hE.obj]at hn;simp at hn
  ·exact h
 ·have:(fun b=>(H.only (aP e VS NS)).get b≠none)=aP e VS NS:=by funext b;exact propext (hge b)
  rw[this];exact hchk
 ·rintro q H' H1 ⟨v',VS',NS',hq,hE'⟩ hsub hafter hnew -
  refine h q v' VS' NS' H1 _ hq (hE'.mono fun d hd=>?_) (fun b o hb hn=>⟨by rw[hafter.out b hn (by rw[hb];simp)];exact hb,fun h=>?_⟩) (fun c hc=>?_)
  ·obtain⟨o,ho⟩:=aJ.1 (hE'.mem hd)
   rw[ho];exact hsub _ _ ho
  ·rcases hnew b (hE'.mem h)with h|h
   ·exact hn h
   ·rw[hb]at h;simp at h
  ·rcases hc with hc|hc
   ·exact .inl ((hge c).1 hc)
   ·exact .inr hc
end
def fW(vs:List Vr)(n:ByteArray):Option Nat:=vs.findIdx? fun v=>decide (v.name=n)
theorem sE(vs:List Vr)(n:ByteArray):uo vs n=match fW vs n with|some i=>(i:Int)|none=>-1:=rfl
def jv(vs:List Vr)(i:Nat):List Vr:=vs.modify i fun v=>{v with dead:=true}
def l6(vs:List Vr)(L:List Nat):List Vr:=L.foldl jv vs
theorem mM(vs:List Vr)(i:Nat):(jv vs i).length=vs.length:=by simp[jv]
theorem nW:∀(L:List Nat) (vs:List Vr),(l6 vs L).length=vs.length
 |[],vs=>rfl
 |i::L,vs=>by simp only[l6,dC];exact(nW L _).trans (mM vs i)
noncomputable def En.use(v:En)(p:Pl):En×Ty:=match fW v.vars p.name with
 |none=>({v with code:=dx v.code 2},.mk [])
 |some i=>match v.vars[i]? with
  |none=>(v,.mk [])
  |some x=>
   let c1:=if x.dead then dx v.code 4 else v.code
   let c2:=if(x.type.atOk p.path).isSome then c1 else dx c1 3
   ({v with code:=c2,vars:=l6 v.vars (eW v.vars p)},(x.type.atOk p.path).getD (.mk []))
theorem sT{α:Type}{sz:Nat}:∀(rows:List (List α)) (i j:Nat) (x:α),(∀e∈rows,e.length=sz)->j<sz->
 (rows.modify i fun r=>r.set j x).flatten=rows.flatten.set (i*sz+j) x
 |[],i,j,x,_,_=>by simp
 |e::rows,0,j,x,h,hj=>by
  have he:e.length=sz:=h e (by simp)
  simp only[List.modify_zero_cons,aq,Nat.zero_mul,cj]
  rw[List.set_append_left _ _ (by omega)]
 |e::rows,i+1,j,x,h,hj=>by
  have he:e.length=sz:=h e (by simp)
  simp only[List.modify_succ_cons,aq]
  rw[sT rows i j x (fun e he=>h e (by simp[he])) hj,List.set_append_right _ _ (by rw[he,cI];omega)]
  congr 2
  rw[he,cI];omega
theorem sL{α:Type}{cs:List α}{off:Nat}(x:α)(h:off<cs.length):bH cs off [x]=cs.set off x:=by
 simp only[bH,aV,bP,cj]
 rw[List.set_eq_take_append_cons_drop,if_pos h];simp
theorem yF(vs:List Vr)(i:Nat):(jv vs i).map Vr.enc=(vs.map Vr.enc).modify i fun r=>r.set 5 (B true):=by
 unfold jv
 apply gd
 intro k
 simp only[cA,List.getElem?_modify]
 cases vs[k]? with
 |none=>rfl
 |some v=>by_cases h:i=k<;>simp[h,Vr.enc]
theorem zQ{vs:List Vr}{cs:List AC}(hcs:cs.take ((vs.map Vr.enc).length*6)=(vs.map Vr.enc).flatten){i:Nat}(hi:i<vs.length):
 (bH cs (i*6+5) [B true]).length=cs.length/\(bH cs (i*6+5) [B true]).take (((jv vs i).map Vr.enc).length*6)=((jv vs i).map Vr.enc).flatten:=by
 have hlen:=dD (ys:=vs.map Vr.enc) (sz:=6) (by simp[Vr.enc])
 have h1:i*6+5<(vs.map Vr.enc).length*6:=by simp;omega
 have h2:(vs.map Vr.enc).length*6<=cs.length:=by
  have:=congrArg List.length hcs
  rw[hlen,bk]at this;omega
 rw[sL _ (by omega)]
 refine⟨by simp,?_⟩
 have h3:((jv vs i).map Vr.enc).length=(vs.map Vr.enc).length:=by simp[mM]
 rw[h3,List.take_set,hcs,yF,sT (sz:=6) _ _ _ _ (by simp[Vr.enc]) (by omega)]
theorem bF.new{H:aj}{e:Nat}{v:En}{VS NS:AC}(h:bF H e v VS NS){b:Nat}(hb:H.get b=none)(o:cK):bF (H.set b o) e v VS NS:=
 h.mono fun d hd=>ae _ _ (by rintro rfl;exact h.mem hd hb)
theorem bF.notin{H:aj}{e:Nat}{v:En}{VS NS:AC}(h:bF H e v VS NS){b:Nat}(hb:H.get b=none):¬aP e VS NS b:=fun hd=>h.mem hd hb
theorem Bn{α:Type}{cs:List α}{k:Nat}{x:α}(h:cs[k]?=some x):(cs.drop k).take 1=[x]:=by
 obtain⟨hk,rfl⟩:=aQ.1 h
 rw[bU hk];rfl
structure xR(H:aj)(vs:List Vr)(i vb vc:Nat)(cs:List AC)(hi:i<vs.length):Prop where
 get:H.get vb=some (.cells cs)
 len:cs.length=vc*6
 cap:vs.length<=vc
 all:cs.take ((vs.map Vr.enc).length*6)=(vs.map Vr.enc).flatten
 name:cs[i*6]?=some (S vs[i].name)
 lent:cs[i*6+1]?=some (B vs[i].lent)
 param:cs[i*6+2]?=some (B vs[i].param)
 type:cs[i*6+3]?=some (.sl 1 none (Ty.encs vs[i].type.kids))
 loans:cs[i*6+4]?=some (.sl 2 none (vs[i].loans.map Pl.enc))
 dead:cs[i*6+5]?=some (B vs[i].dead)
 off:i*6+5<cs.length
 off3:i*6+3+1<=cs.length
 type1:(cs.drop (i*6+3)).take 1=[.sl 1 none (Ty.encs vs[i].type.kids)]
theorem lw.row{H:aj}{vs:List Vr}{VS:AC}(h:lw H vs VS){i:Nat}(hi:i<vs.length):∃vb vc cs,VS=.lit (.slice (some ⟨vb,0,none⟩) vs.length vc)/\xR H vs i vb vc cs hi:=by
 rcases h with⟨hv0,-⟩|⟨vb,vc,cs,rfl,hg,hc,hvc,hcs⟩
 ·have:vs=[]:=by simpa using hv0
  rw[this]at hi;simp at hi
 ·obtain⟨r0,r1,r2,r3,r4,r5⟩:=vd (H:=H) (b:=vb) (c:=vc) hcs hi
  simp only[am]at hvc
  exact⟨vb,vc,cs,by simp,hg,hc,hvc,hcs,r0,r1,r2,r3,r4,r5,by omega,by omega,Bn r3⟩
theorem bF.kill{H:aj}{e:Nat}{v:En}{NS:AC}{vb vc i:Nat}{cs:List AC}(h:bF H e v (.lit (.slice (some ⟨vb,0,none⟩) v.vars.length vc)) NS)(hi:i<v.vars.length)(hr:xR H v.vars i vb vc cs hi):
 bF (H.set vb (.cells (bH cs (i*6+5) [B true]))) e {v with vars:=jv v.vars i} (.lit (.slice (some ⟨vb,0,none⟩) v.vars.length vc)) NS:=by
 obtain⟨k1,k2⟩:=zQ hr.all hi
 have hne:e≠vb:=by
  rintro rfl;exact iL h.obj h.vars ⟨_,_,rfl⟩
 refine⟨by rw[ae _ _ hne];exact h.obj,.inr ⟨vb,vc,_,by simp[mM],ai _ _ _,by rw[k1];exact hr.len,by simp[mM];exact hr.cap,k2⟩,h.names.set hr.get _⟩
section
variable {P:Program}{F:Ids}
theorem yG(L:Lib P F)(e:Nat)(v:En)(hl:v.vars.length<=2^40)(n:ByteArray):jN P F.s_l3Env_find [.ptr e 0,S n] e v fun q v'=>q=I (uo v.vars n)/\v'=v:=
 fun H VS NS hE=>(c_find L e v VS NS H hE hl n).mono fun q H' ⟨h1,h2⟩=>⟨v,VS,NS,⟨h1,rfl⟩,h2▸hE⟩
theorem e_ends(L:Lib P F)(e:Nat)(v:En)(hl:v.vars.length<=2^20)(ho:∀x∈v.vars,x.ok)(p:Pl)(hp:p.path.length<=2^20):jN P F.s_l3Env_ends [.ptr e 0,.agg p.enc] e v fun q v'=>q=.sl 1 none (bK (eW v.vars p))/\v'=v:=
 fun H VS NS hE=>(c_ends L e v VS NS H hE hl ho p hp).mono fun q H' ⟨h1,h2⟩=>⟨v,VS,NS,⟨h1,rfl⟩,h2▸hE⟩
def Ty.wf(t:Ty):Prop:=∃D,D<=8/\t.le D
theorem BW(vs:List Vr)(p:Pl):∀i∈eW vs p,i<vs.length:=by
 intro i hi
 have:=(eF.1 hi).1
 simpa using this
theorem Ar(vs:List Vr)(p:Pl):(eW vs p).length<=vs.length:=by
 refine bZ (ix _ _) ?_
 simp
theorem e_use(L:Lib P F)(e:Nat)(v:En)(hl:v.vars.length<=2^20)(ho:∀x∈v.vars,x.ok/\x.type.wf)(p:Pl)(hp:p.path.length<=2^20):
 jN P F.s_l3Env_use [.ptr e 0,.agg p.enc] e v fun q v'=>q=.agg (v.use p).2.enc/\v'=(v.use p).1:=by
 intro H VS NS hE
 refine L.s_l3Env_use (by simp[lO]) ?_
 simp only[lO,go_sem,rE,Pl.enc]
 intro b3 hb3 b4 hb4
 have h34:b3≠b4:=by rintro rfl;simp at hb4
 have he3:=hE.new hb3 (.cells [S p.name,au p.path])
 have he4:=he3.new hb4 (.cells [.lit (.slice none 0 0)])
 have n4:=(he3.notin hb4)
 simp only[go_sem,rE,rA,h34]
 refine bL (yG L e v (by omega) p.name) he4 (rfl) (.refl _) (by simp) trivial ?_
 rintro q v VS1 NS1 H1 fp ⟨rfl,rfl⟩ hE1 hk1 -
 obtain⟨g3,n3⟩:=hk1 b3 (.cells [S p.name,au p.path]) (by simp[go_sem,h34]) (hE.notin hb3)
 obtain⟨g4,n4⟩:=hk1 b4 (.cells [.lit (.slice none 0 0)]) (by simp) n4
 have e3:e≠b3:=fun h=>n3 (.inl h.symm)
 have e4:e≠b4:=fun h=>n4 (.inl h.symm)
 have ho1:=hE1.obj
 simp only[cZ]at ho1
 simp only[go_sem,rE,rA,sE]
 cases hi:fW v.vars p.name with
 |none=>
  simp only[go_sem,rE,rA,Int.reduceLT]
  refine gJ (mS L e v.p v.fn VS1 NS1 v.code 2) (rfl) (by simpa only[cZ]using ho1) (by simp) trivial ?_
  rintro q o' ⟨rfl,rfl⟩
  have hE2:=hE1.setO (dx v.code 2)
  simp only[go_sem,rE,rA,g4,Ne.symm e4]
  exact bY (off:=0) (rfl) (ai _ _ _) rfl ff (aj.sub_refl _) ⟨_,VS1,NS1,⟨by simp[En.use,hi],rfl⟩,by
   simp only[En.use,hi]
   exact hE2.mono fun d hd=>ae _ _ (by rintro rfl;exact n4 hd)⟩
 |some i=>
  obtain⟨hil,-,-⟩:=bQ.1 hi
  have hge:¬(i:Int)<0:=by omega
  have hlt:(i:Int)<v.vars.length:=by omega
  have hvi:v.vars[i]?=some v.vars[i]:=av hil
  obtain⟨hvo,D,-,hD⟩:=ho _ (ay hil)
  obtain⟨vb,vc,cs,rfl,hr⟩:=hE1.vars.row hil
  have hta:=Cw L D v.vars[i].type hD p.path (by omega)
  rw[Ty.enc_eq]at hta
  simp only[go_sem,rE,rA,hge,ho1,hlt,hr.get,hr.dead]
  have step3:∀(E:Env) (H2:aj) (v2:En) (u:Ty) (t6:Nat) (VS2 NS2:AC),bF H2 e v2 VS2 NS2->¬aP e VS2 NS2 b4->E 4=.ptr b4 0->E 6=.ptr t6 0->H2.get b4=some (.cells [NIL])->
   H2.get t6=some (.cells [.sl 1 none (Ty.encs u.kids)])->
   (aX.wp P (.seq (rg [ld 0 66 (some 1) 6,en 1 (.store 1 4 66)]) .ret) (aD.post [j4.cell 4 (some 1)] fun q H'=>∃v' VS' NS',(q=AC.agg u.enc/\v'=v2)/\bF H' e v' VS' NS') E H2):=by
   intro E H2 v2 u t6 VS2 NS2 hE2 n4 e4 e6 g4 g6
   simp only[go_sem,rE,rA,e4,e6,g6,g4]
   refine bY (q':=.agg u.enc) (off:=0) (e4) (ai _ _ _) rfl (by rw[Ty.enc_eq];exact .refl _) (aj.sub_refl _) ⟨v2,VS2,NS2,⟨rfl,rfl⟩,?_⟩
   exact hE2.mono fun d hd=>ae _ _ (by rintro rfl;exact n4 hd)
  have step2:∀(E:Env) (H2:aj) (c2:Int) (u:Ty) (t6:Nat) (VS2 NS2:AC),bF H2 e {v with code:=c2} VS2 NS2->E 0=.ptr e 0->E 3=.ptr b3 0->E 4=.ptr b4 0->E 6=.ptr t6 0->
   H2.get b3=some (.cells [S p.name,au p.path])->H2.get b4=some (.cells [NIL])->H2.get t6=some (.cells [.sl 1 none (Ty.encs u.kids)])->¬aP e VS2 NS2 b4->¬aP e VS2 NS2 t6->
   (aX.wp P (kd1 F) (aD.post [j4.cell 4 (some 1)] fun q H'=>∃v' VS' NS',(q=AC.agg u.enc/\v'={v with code:=c2,vars:=l6 v.vars (eW v.vars p)})/\bF H' e v' VS' NS') E H2):=by
   intro E H2 c2 u t6 VS2 NS2 hE2 e0 e3 e4 e6 g3 g4 g6 n4 n6
   rw[kd1]
   simp only[go_sem,rE,rA,e0,e3,g3]
   refine bL (e_ends L e {v with code:=c2} hl (fun x hx=>(ho x hx).1) p hp) hE2 (by simp only[go_sem,rE,Pl.enc]) (.refl _) (by simp) trivial ?_
   rintro q v' VS3 NS3 H3 fp ⟨rfl,rfl⟩ hE3 hk3 -
   obtain⟨g4,n4⟩:=hk3 _ _ g4 n4
   obtain⟨g6,n6⟩:=hk3 _ _ g6 n6
   simp only[go_sem,rE,rA]
   have hll:=Ar v.vars p
   refine aT (eW v.vars p).length (fun k E H=>bF H e {v with code:=c2,vars:=l6 v.vars ((eW v.vars p).take k)} VS3 NS3/\E 0=.ptr e 0/\E 4=.ptr b4 0/\E 6=.ptr t6 0/\E 8=.sl 1 none (bK (eW v.vars p))/\E 9=I k/\
    H.get b4=some (.cells [NIL])/\H.get t6=some (.cells [.sl 1 none (Ty.encs u.kids)])) ⟨hE3,e0,e4,e6,rfl,rfl,g4,g6⟩ ?_
   rintro k E H hk ⟨hE3,e0,e4,e6,e8,e9,g4,g6⟩
   simp only[wp_seq,go_sem,rE,rA,e8,e9,fX]
   refine aG (fun hlt=>?_) (fun hge=>?_)
   ·have hk1:k<(eW v.vars p).length:=by omega
    have hil:=BW _ _ _ (ay hk1)
    have hil2:(eW v.vars p)[k]<(l6 v.vars ((eW v.vars p).take k)).length:=by rw[nW];exact hil
    have w1:=aL (n:=(k:Int)+1) (by omega) (by omega)
    obtain⟨vb3,vc3,cs3,rfl,hr3⟩:=hE3.vars.row hil2
    have hob:=hE3.obj
    have hE4:=hE3.kill hil2 hr3
    simp only[cZ,nW]at hob hE4
    have hlt3:(((eW v.vars p)[k]:Nat):Int)<v.vars.length:=by omega
    simp only[go_sem,rE,rA,e0,e8,e9,hob,jH hk1,hlt3,hr3.get,hr3.off,w1,nW]
    refine⟨?_,hk1,_,aj.sub_refl _,?_,?_⟩
    ·have:=hr3.off;omega
    ·rw[aA hk1,l6,List.foldl_append]
     exact hE4
    ·have d4:b4≠vb3:=by rintro rfl;exact n4 (.inr (.inl ⟨_,_,rfl⟩))
     have d6:t6≠vb3:=by rintro rfl;exact n6 (.inr (.inl ⟨_,_,rfl⟩))
     simp[go_sem,e0,e4,e6,e8,ae _ _ d4,ae _ _ d6,g4,g6]
   ·have hkk:k=(eW v.vars p).length:=by omega
    subst hkk
    rw[aU]at hE3
    simp only[wp_exit,fl,dL,cC]
    exact step3 _ _ _ u t6 _ _ hE3 n4 (e4) (e6) g4 g6
  have step1:∀(E:Env) (H2:aj) (c1:Int),bF H2 e {v with code:=c1} (AC.lit (Value.slice (some {block:=vb,off:=0}) v.vars.length vc)) NS1->E 0=.ptr e 0->E 3=.ptr b3 0->E 4=.ptr b4 0->E 5=I i->
   H2.get b3=some (.cells [S p.name,au p.path])->H2.get b4=some (.cells [NIL])->c1=(if v.vars[i].dead then dx v.code 4 else v.code)->
   (aX.wp P (.seq (.region true [mv 0 30 0,nc 1 31 30,fa 2 32 2 31,ld 3 33 none 32,mv 4 34 5,ia 5 35 6 33 34,fa 6 36 3 35,ld 7 37 (some 1) 36,fa 8 38 1 3,ld 9 39 none 38,ca 10 40 F.s_TypeAt [37,39],mv 11 29 40,pu 12 41 (.extract 29 0),pu 13 42 (.extract 29 1),ef 14 6 (.alloc [.slice none 0 0]),en 15 (.store 1 6 41),mv 16 7 42]) (.seq (.seq (rg [mv 0 43 7,pu 1 44 (.not 43)]) (.cond 44 (rg [mv 0 45 0,ca 1 46 F.s_l3Env_fail [45,ci 3]]) .skip)) (kd1 F))) (aD.post [j4.cell 4 (some 1)] fun q H'=>∃v' VS' NS',(q=AC.agg (v.use p).2.enc/\v'=(v.use p).1)/\bF H' e v' VS' NS') E H2):=by
   intro E H2 c1 hE2 f0 f3 f4 f5 g3 g4 hc1
   obtain⟨vb5,vc5,cs5,heq,hr5⟩:=hE2.vars.row hil
   simp only[AC.lit.injEq,Value.slice.injEq,Option.some.injEq,Addr.mk.injEq,true_and,and_true]at heq
   obtain⟨rfl,rfl⟩:=heq
   have ho2:=hE2.obj
   simp only[cZ]at ho2
   simp only[go_sem,rE,rA,f0,f3,f5,ho2,hlt,hr5.get,hr5.off3,hr5.type1,g3,rL]
   refine ao hta (rfl) ?_
   have nV:¬aP e (AC.lit (Value.slice (some {block:=vb,off:=0}) v.vars.length vc)) NS1 b4:=n4
   cases hat:v.vars[i].type.atOk p.path with
   |none=>
    simp only[jg,go_sem,rE,rA,Ty.enc]
    intro t6 ht6
    have n6:=hE2.notin ht6
    have hE3:=hE2.new ht6 (.cells [AC.sl 1 none (Ty.encs [])])
    have d6e:e≠t6:=by rintro rfl;exact n6 (.inl rfl)
    have d64:b4≠t6:=by rintro rfl;rw[g4]at ht6;simp at ht6
    have d63:b3≠t6:=by rintro rfl;rw[g3]at ht6;simp at ht6
    refine gJ (mS L e v.p v.fn _ NS1 c1 3) (by simp only[go_sem,rE,f0]) (by simp only[go_sem,d6e];simpa only[cZ]using ho2) (by simp) trivial ?_
    rintro q o' ⟨rfl,rfl⟩
    have hE4:=hE3.setO (dx c1 3)
    simp only[go_sem]
    have hu:v.use p=({v with code:=dx c1 3,vars:=l6 v.vars (eW v.vars p)},.mk []):=by
     simp only[En.use,hi,hvi,hat,<-hc1];rfl
    rw[hu]
    refine step2 _ _ (dx c1 3) (.mk []) t6 _ _ hE4 (f0) (f3) (f4) (rfl)
     (by simp only[go_sem,Ne.symm e3,d63,g3]) (by simp only[go_sem,Ne.symm e4,d64,g4]) (by simp only[go_sem,Ne.symm d6e];rfl) nV n6
   |some u=>
    simp only[jg,go_sem,rE,rA,Ty.enc_eq u]
    intro t6 ht6
    have n6:=hE2.notin ht6
    have hE3:=hE2.new ht6 (.cells [AC.sl 1 none (Ty.encs u.kids)])
    have d64:b4≠t6:=by rintro rfl;rw[g4]at ht6;simp at ht6
    have d63:b3≠t6:=by rintro rfl;rw[g3]at ht6;simp at ht6
    have hu:v.use p=({v with code:=c1,vars:=l6 v.vars (eW v.vars p)},u):=by
     simp only[En.use,hi,hvi,hat,<-hc1];rfl
    rw[hu]
    refine step2 _ _ c1 u t6 _ _ hE3 (f0) (f3) (f4) (rfl)
     (by simp only[go_sem,d63,g3]) (by simp only[go_sem,d64,g4]) (by simp only[go_sem]) nV n6
  by_cases hd:v.vars[i].dead=true
  ·simp only[hd,pI,wp_region,Bu,ev_sl,md,fR,ne_eq,rE,not_false_eq_true]
   refine gJ (mS L e v.p v.fn _ NS1 v.code 4) (rfl) (by simpa only[cZ]using ho1) (by simp) trivial ?_
   rintro q o' ⟨rfl,rfl⟩
   have hE2:=hE1.setO (dx v.code 4)
   simp only[lF,cC]
   exact step1 _ _ _ hE2 (rfl) (rfl) (rfl) (rfl) (by simp only[go_sem,Ne.symm e3,g3]) (by simp only[go_sem,Ne.symm e4,g4]) (by simp[hd])
  ·simp only[Bool.not_eq_true]at hd
   simp only[hd,nI,wp_skip,cC]
   exact step1 _ _ _ hE1 (rfl) (rfl) (rfl) (rfl) g3 g4 (by simp[hd])
end
inductive Ex.ok:Ex->Prop where
 |mk {k n:Int} {p:Pl} {ks:List Ex} (hp:p.path.length<=2^20) (hk:k≠1->k≠2->2<=ks.length) (hs:∀x∈ks,Ex.ok x):Ex.ok (.mk k n p ks)
def En.num(v:En)(t:Ty):En:={v with code:=if t.kids=[]then v.code else dx v.code 3}
noncomputable def En.same(v:En)(a t:Ty):En:={v with code:=if a=t then v.code else dx v.code 3}
def En.fail(v:En)(c:Int):En:={v with code:=dx v.code c}
noncomputable def En.expr(v:En):Ex->En×Ty
 |.mk k n p ks=>if k=1 then(v,.mk [])else if k=2 then v.use p else match ks with
  |a::b::_=>
   let r1:=v.expr a
   let r2:=r1.1.expr b
   if k=6 then(if(Ty.mk [r1.2,r2.2]).okB then(r2.1,.mk [r1.2,r2.2])else(r2.1.fail 3,.mk []))
   else((r2.1.num r1.2).num r2.2,.mk [])
  |_=>(v,.mk [])
termination_by x=>SizeOf.sizeOf x
theorem En.expr_eq(v:En)(k n:Int)(p:Pl)(ks:List Ex):v.expr (.mk k n p ks)=if k=1 then(v,.mk [])else if k=2 then v.use p else match ks with
 |a::b::_=>if k=6 then(if(Ty.mk [(v.expr a).2,((v.expr a).1.expr b).2]).okB then(((v.expr a).1.expr b).1,.mk [(v.expr a).2,((v.expr a).1.expr b).2])else(((v.expr a).1.expr b).1.fail 3,.mk []))
  else((((v.expr a).1.expr b).1.num (v.expr a).2).num ((v.expr a).1.expr b).2,.mk [])
 |_=>(v,.mk []):=by
 rw[En.expr.eq_def]
structure En.ok(v:En):Prop where
 len:v.vars.length<=2^20
 all:∀x∈v.vars,x.ok/\x.type.wf
structure En.like(v w:En):Prop where
 p:w.p=v.p
 fn:w.fn=v.fn
 names:w.names=v.names
 vars:w.vars.map (fun x=>{x with dead:=false})=v.vars.map (fun x=>{x with dead:=false})
theorem En.like.refl(v:En):v.like v:=⟨rfl,rfl,rfl,rfl⟩
theorem En.like.trans{u v w:En}(h:u.like v)(h':v.like w):u.like w:=⟨h'.p.trans h.p,h'.fn.trans h.fn,h'.names.trans h.names,h'.vars.trans h.vars⟩
theorem En.like.len{v w:En}(h:v.like w):w.vars.length=v.vars.length:=by
 have:=congrArg List.length h.vars;simpa using this
theorem En.like.ok{v w:En}(h:v.like w)(ho:v.ok):w.ok:=by
 refine⟨by rw[h.len];exact ho.len,fun x hx=>?_⟩
 have:{x with dead:=false}∈v.vars.map (fun x:Vr=>{x with dead:=false}):=by rw[<-h.vars];exact aY.2 ⟨x,hx,rfl⟩
 obtain⟨y,hy,he⟩:=aY.1 this
 obtain⟨⟨h1,h2⟩,h3⟩:=ho.all y hy
 simp only[Vr.mk.injEq]at he
 obtain⟨-,-,-,e1,e2,-⟩:=he
 exact⟨⟨e2▸h1,e2▸h2⟩,e1▸h3⟩
theorem wU(vs:List Vr)(i:Nat):(jv vs i).map (fun x=>{x with dead:=false})=vs.map (fun x=>{x with dead:=false}):=by
 apply gd
 intro k
 simp only[jv,cA,List.getElem?_modify]
 cases vs[k]? with
 |none=>rfl
 |some v=>by_cases h:i=k<;>simp[h]
theorem uA:∀(L:List Nat) (vs:List Vr),(l6 vs L).map (fun x=>{x with dead:=false})=vs.map (fun x=>{x with dead:=false})
 |[],vs=>rfl
 |i::L,vs=>by simp only[l6,dC];exact(uA L _).trans (wU vs i)
theorem En.use_like(v:En)(p:Pl):v.like (v.use p).1:=by
 unfold En.use
 split
 ·exact⟨rfl,rfl,rfl,rfl⟩
 ·split
  ·exact .refl _
  ·exact⟨rfl,rfl,rfl,uA _ _⟩
theorem xP:∀(p:List Int) (t:Ty),t.wf->∀u,t.at p=some u->u.wf
 |[],t,h,u,e=>by simp[Ty.at]at e;exact e▸h
 |i::p,.mk ks,⟨D,h8,hD⟩,u,e=>by
  simp only[Ty.at]at e
  split at e
  ·cases hk:ks[i.toNat]? with
   |none=>rw[hk]at e;simp at e
   |some x=>
    rw[hk]at e
    obtain⟨D',hDD,hx⟩:=(j5 hD).2 x (ba hk)
    exact xP p x ⟨D',by omega,hx⟩ u e
  ·simp at e
theorem dN:(Ty.mk []).wf:=⟨0,by omega,rfl⟩
theorem tM:∀(d d':Nat) (t:Ty),d<=d'->t.le d->t.le d'
 |0,0,t,_,h=>h
 |0,d'+1,.mk ks,_,h=>by simp only[Ty.le]at h;subst h;exact k9 _
 |d+1,d'+1,.mk ks,hd,h=>⟨h.1,fun k hk=>tM d d' k (by omega) (h.2 k hk)⟩
theorem Ty.deep_le:∀(n:Nat) (t:Ty),t.deepB n=true->t.le n
 |0,.mk ks,h=>by simp[Ty.deepB]at h
 |n+1,.mk ks,h=>by
  simp only[Ty.deepB,aw,dq,aW,decide_eq_true_eq]at h
  obtain⟨h1,h2⟩:=h
  exact⟨by omega,fun k hk=>Ty.deep_le n k (h2 k hk)⟩
theorem tL{t:Ty}(h:t.okB=true):t.wf:=⟨4,by omega,Ty.deep_le 4 t h⟩
theorem jb{v:En}(h:v.ok)(p:Pl):(v.use p).2.wf:=by
 unfold En.use
 split
 ·exact dN
 ·split
  ·exact dN
  ·rename_i x hx
   have hw:=(h.all x (ba hx)).2
   simp only[Ty.atOk]
   split
   ·cases e:x.type.at p.path with
    |none=>exact dN
    |some u=>exact xP _ _ hw _ e
   ·exact dN
theorem En.expr_good:∀(x:Ex) (v:En),v.ok->v.like (v.expr x).1/\(v.expr x).2.wf
 |.mk k n p ks,v,h=>by
  rw[En.expr_eq]
  split
  ·exact⟨.refl _,dN⟩
  ·split
   ·exact⟨v.use_like p,jb h p⟩
   ·split
    ·rename_i a b l
     obtain⟨h1,w1⟩:=En.expr_good a v h
     obtain⟨h2,w2⟩:=En.expr_good b _ (h1.ok h)
     have h3:=h1.trans h2
     split
     ·split
      ·rename_i hok;exact⟨h3,tL hok⟩
      ·exact⟨h3.trans ⟨rfl,rfl,rfl,rfl⟩,dN⟩
     ·exact⟨h3.trans ⟨rfl,rfl,rfl,rfl⟩,dN⟩
    ·exact⟨.refl _,dN⟩
termination_by x=>SizeOf.sizeOf x
theorem al{H:aj}{b c:Nat}{o:cK}(h:H.get b=some o)(h':H.get c=none):b≠c:=by rintro rfl;rw[h]at h';simp at h'
theorem bF.ne{H:aj}{e:Nat}{v:En}{VS NS:AC}(h:bF H e v VS NS){b:Nat}(hb:H.get b=none):e≠b:=al h.obj hb
section
variable {P:Program}{F:Ids}
theorem pY(L:Lib P F)(e:Nat)(v:En)(h:v.ok)(p:Pl)(hp:p.path.length<=2^20):
 jN P F.s_l3Env_use [.ptr e 0,.agg p.enc] e v fun q v'=>q=.agg (v.use p).2.enc/\v'=(v.use p).1:=e_use L e v h.len h.all p hp
theorem post_rc{E:Env}{H:aj}{n r off:Nat}{g:Option Nat}{cs:List AC}{q:AC}{R:AC->aj->Prop}(hE:E n=.ptr r off)(hg:H.get r=some (.cells cs))(hq:fM g cs off=some q)
(h:R q H):aD.post [.cell n g] R .ret E H:=Aj hE hg hq H.sub_refl h
theorem qc(L:Lib P F)(e:Nat):∀(n:Nat) (x:Ex),SizeOf.sizeOf x<=n->x.ok->∀(v:En),v.ok->jN P F.s_l3Env_expr [.ptr e 0,.agg x.enc] e v fun q v'=>q=.agg (v.expr x).2.enc/\v'=(v.expr x).1:=by
 intro n
 induction n with
 |zero=>rintro⟨k,m,p,ks⟩ h;simp at h
 |succ n ih=>
  rintro⟨k,m,p,ks⟩ hn hx v hv H VS NS hE
  obtain⟨hp,hk2,hks⟩:=hx
  refine L.s_l3Env_expr (by simp[kN]) ?_
  simp only[kN,go_sem,rE,Ex.enc]
  intro b3 hb3 b4 hb4
  have h34:b3≠b4:=by rintro rfl;simp at hb4
  have he3:=hE.new hb3 (.cells [I k,I m,S p.name,au p.path,.sl 5 none (Ex.encs ks)])
  have he4:=he3.new hb4 (.cells [.lit (.slice none 0 0)])
  have n3:=he4.notin (b:=b3)
  have d3e:e≠b3:=by rintro rfl;exact hE.notin hb3 (.inl rfl)
  have d4e:e≠b4:=by rintro rfl;exact he3.notin hb4 (.inl rfl)
  by_cases h1:k=1
  ·subst h1
   simp only[go_sem,rE,rA,h34,beq_self_eq_true]
   refine bY (q':=.agg (Ty.mk []).enc) (off:=0) (rfl) (ai _ _ _) rfl ff (aj.sub_refl _) ⟨v,VS,NS,⟨by simp[En.expr_eq],by simp[En.expr_eq]⟩,?_⟩
   exact he4
  ·by_cases h2:k=2
   ·subst h2
    simp only[go_sem,rE,rA,h34,beq_self_eq_true,aH,rL]
    refine bL (pY L e v hv p hp) he4 (by simp only[go_sem,rE,Pl.enc]) (.refl _) (by simp) trivial ?_
    rintro q v' VS1 NS1 H1 fp ⟨rfl,rfl⟩ hE1 hk1 -
    obtain⟨g4,n4⟩:=hk1 b4 (.cells [.lit (.slice none 0 0)]) (by simp) (he3.notin hb4)
    simp only[go_sem,rE,rA,g4,Ty.enc_eq (v.use p).2]
    refine post_rc (off:=0) (rfl) (ai _ _ _) rfl ⟨(v.use p).1,VS1,NS1,⟨by simp[En.expr_eq,Ty.enc_eq],by simp[En.expr_eq]⟩,?_⟩
    exact hE1.mono fun d hd=>ae _ _ (by rintro rfl;exact n4 hd)
   ·have h1':(k==1)=false:=by simpa using h1
    have h2':(k==2)=false:=by simpa using h2
    obtain⟨a,b,l,rfl⟩:∃a b l,ks=a::b::l:=by
     rcases ks with _|⟨a,_|⟨b,l⟩⟩
     ·simp at hk2;omega
     ·simp at hk2;omega
     ·exact⟨_,_,_,rfl⟩
    have ea:(Ex.encs (a::b::l))[0]?=some a.enc:=by simp[Ex.encs]
    have eb:(Ex.encs (a::b::l))[1]?=some b.enc:=by simp[Ex.encs]
    rw[Ex.enc_eq]at ea eb
    simp only[Ex.mk.sizeOf_spec,List.cons.sizeOf_spec]at hn
    simp only[go_sem,rE,rA,h34,h1',h2',Int.toNat_zero,ea,Int.toNat_one,dz,rL]
    refine bL (ih a (by omega) (hks a (by simp)) v hv) he4 (by simp only[go_sem,rE,Ex.enc_eq a]) (.refl _) (by simp) trivial ?_
    rintro q v1 VS1 NS1 H1 fp ⟨rfl,hv1⟩ hE1 hk1 -
    obtain⟨g3,n3⟩:=hk1 b3 (.cells [I k,I m,S p.name,au p.path,.sl 5 none (Ex.encs (a::b::l))]) (by simp[go_sem,h34]) (hE.notin hb3)
    obtain⟨g4,n4⟩:=hk1 b4 (.cells [.lit (.slice none 0 0)]) (by simp) (he3.notin hb4)
    obtain⟨lk1,wf1⟩:=En.expr_good a v hv
    rw[<-hv1]at lk1
    have hv1o:=lk1.ok hv
    clear hk1 he4 he3
    simp only[go_sem,rE,rA,Ty.enc_eq (v.expr a).2]
    intro b5 hb5
    have n5:=hE1.notin hb5
    have hE1':=hE1.new hb5 (.cells [.sl 1 none (Ty.encs (v.expr a).2.kids)])
    have d35:=al g3 hb5
    have d45:=al g4 hb5
    simp only[go_sem,rE,rA,d35,g3,eb,dO,Int.reduceToNat,rL]
    refine bL (ih b (by omega) (hks b (by simp)) v1 hv1o) hE1' (by simp only[go_sem,rE,Ex.enc_eq b]) (.refl _) (by simp) trivial ?_
    rintro q v2 VS2 NS2 H2 fp2 ⟨rfl,hv2⟩ hE2 hk2 -
    obtain⟨g3,n3⟩:=hk2 b3 (.cells [I k,I m,S p.name,au p.path,.sl 5 none (Ex.encs (a::b::l))]) (by simp[go_sem,d35,g3]) n3
    obtain⟨g4,n4⟩:=hk2 b4 (.cells [.lit (.slice none 0 0)]) (by simp[go_sem,d45,g4]) n4
    obtain⟨g5,n5⟩:=hk2 b5 (.cells [.sl 1 none (Ty.encs (v.expr a).2.kids)]) (by simp) n5
    obtain⟨lk2,wf2⟩:=En.expr_good b v1 hv1o
    rw[<-hv2]at lk2
    have hx:v.expr (.mk k m p (a::b::l))=if k=6 then(if(Ty.mk [(v.expr a).2,(v1.expr b).2]).okB then(v2,.mk [(v.expr a).2,(v1.expr b).2])else(v2.fail 3,.mk []))
     else((v2.num (v.expr a).2).num (v1.expr b).2,.mk []):=by
     rw[En.expr_eq];simp only[h1,h2,if_false,<-hv1,<-hv2]
    rw[hx]
    generalize(v.expr a).2=ta at*
    generalize(v1.expr b).2=tb at*
    clear hk2
    simp only[go_sem,rE,rA,Ty.enc_eq tb]
    intro b6 hb6
    have n6:=hE2.notin hb6
    have hE2':=hE2.new hb6 (.cells [.sl 1 none (Ty.encs tb.kids)])
    have d36:=al g3 hb6
    have d46:=al g4 hb6
    have d56:=al g5 hb6
    by_cases h6:k=6
    ·subst h6
     simp only[go_sem,rE,rA,d36,g3,d56,g5,beq_self_eq_true,rL,ax,aq,az,bh]
     intro bs hbs
     have hs6:=al (ai H2 b6 (.cells [.sl 1 none (Ty.encs tb.kids)])) hbs
     have hE3:=hE2'.new hbs (.tail 2 2)
     intro b7 hb7
     have hE4:=hE3.new hb7 (.cells [AC.sl 1 (some (bs,2,2)) [[AC.sl 1 none (Ty.encs ta.kids)],[AC.sl 1 none (Ty.encs tb.kids)]]])
     have hle:Le (.agg [AC.sl 1 (some (bs,2,2)) [[AC.sl 1 none (Ty.encs ta.kids)],[AC.sl 1 none (Ty.encs tb.kids)]]]) (.agg (Ty.mk [ta,tb]).enc):=by
      have:=le_ty (some (bs,2,2)) [ta,tb]
      simpa[Ty.encs,Ty.enc_eq ta,Ty.enc_eq tb]using this
     have d47:b4≠b7:=by
      have:((H2.set b6 (.cells [.sl 1 none (Ty.encs tb.kids)])).set bs (.tail 2 2)).get b4=some (.cells [.lit (.slice none 0 0)]):=by
       have d4s:b4≠bs:=al (H:=H2.set b6 (.cells [.sl 1 none (Ty.encs tb.kids)])) (by rw[ae _ _ d46];exact g4) hbs
       rw[ae _ _ d4s,ae _ _ d46];exact g4
      exact al this hb7
     have d4s:b4≠bs:=al (H:=H2.set b6 (.cells [.sl 1 none (Ty.encs tb.kids)])) (by rw[ae _ _ d46];exact g4) hbs
     refine gI (as':=[.agg [AC.sl 1 (some (bs,2,2)) [[AC.sl 1 none (Ty.encs ta.kids)],[AC.sl 1 none (Ty.encs tb.kids)]]]]) (qL L (.mk [ta,tb])) (rfl) ⟨hle,trivial⟩ ?_
     cases hok:(Ty.mk [ta,tb]).okB
     ·simp only[go_sem,rE,rA,rL]
      refine gJ (mS L e v2.p v2.fn VS2 NS2 v2.code 3) (rfl) hE4.obj (by simp) trivial ?_
      rintro q o' ⟨rfl,rfl⟩
      have hE5:=hE4.setO (dx v2.code 3)
      have d4e:b4≠e:=fun h=>n4 (.inl h)
      simp only[go_sem,rE,rA,d4e,d47,d4s,d46,g4,rL]
      refine bY (q':=.agg (Ty.mk []).enc) (off:=0) (rfl) (ai _ _ _) rfl ff (aj.sub_refl _) ⟨_,VS2,NS2,⟨rfl,rfl⟩,?_⟩
      refine bF.mono hE5 ?_
      intro d hd
      have hdn:d≠b4:=by rintro rfl;exact n4 hd
      exact ae _ _ hdn
     ·simp only[go_sem,rE,rA,d47,d4s,d46,g4,rL]
      refine bY (q':=.agg (Ty.mk [ta,tb]).enc) (off:=0) (rfl) (ai _ _ _) rfl hle (aj.sub_refl _) ⟨v2,VS2,NS2,⟨rfl,rfl⟩,?_⟩
      refine bF.mono hE4 ?_
      intro d hd
      have hdn:d≠b4:=by rintro rfl;exact n4 hd
      exact ae _ _ hdn
    ·have h6':(k==6)=false:=by simpa using h6
     have d6e:=hE2.ne hb6
     have ho2:=hE2.obj
     simp only[go_sem,rE,rA,d36,g3,d56,g5,h6',rL,h6]
     refine gJ (Ce L e v2.p v2.fn VS2 NS2 v2.code ta) (by simp only[go_sem,rE,Ty.enc_eq ta]) (by rw[ae _ _ d6e];exact ho2) (by simp) trivial ?_
     rintro q o' ⟨rfl,rfl⟩
     have hE3:=hE2'.setO (if ta.kids=[]then v2.code else dx v2.code 3)
     simp only[go_sem,rE,rA,Ne.symm d6e,rL]
     refine gJ (Ce L e v2.p v2.fn VS2 NS2 _ tb) (by simp only[go_sem,rE,Ty.enc_eq tb]) (ai _ _ _) (by simp) trivial ?_
     rintro q o' ⟨rfl,rfl⟩
     have hE4:=hE3.setO (if tb.kids=[]then(if ta.kids=[]then v2.code else dx v2.code 3)else dx (if ta.kids=[]then v2.code else dx v2.code 3) 3)
     rw[qS]at hE4
     have d4e:b4≠e:=fun h=>n4 (.inl h)
     simp only[go_sem,rE,rA,d46,d4e,g4,rL]
     refine bY (q':=.agg (Ty.mk []).enc) (off:=0) (rfl) (ai _ _ _) rfl ff (aj.sub_refl _) ⟨_,VS2,NS2,⟨rfl,rfl⟩,?_⟩
     refine bF.mono hE4 ?_
     intro d hd
     have hdn:d≠b4:=by rintro rfl;exact n4 hd
     exact ae _ _ hdn
end
theorem bD.frame{P:Program}{f:FuncId}{xs:List AC}{Hf H:aj}{R:AC->aj->Prop}(h:bD P f xs Hf R)(hs:Hf.sub H):
 bD P f xs H fun q H1=>∃H',R q H'/\H1=H.swap Hf H':=by
 intro M w vs s r
 refine(h M w vs (s.sub hs) r).mono ?_
 rintro e w' ⟨q,v,M',H',h1,h2,h3,h4,h5⟩
 obtain⟨s',t'⟩:=s.frame hs h3 h4
 exact⟨q,v,M',_,h1,h2,s',t',H',h5,rfl⟩
def PW(H H':aj):Prop:=∀b,H'.get b=H.get b\/∃o o',H.get b=some o/\H'.get b=some o'/\∀M w,im M w b o->im M w b o'
theorem PW.dom{H H':aj}(h:PW H H')(b:Nat):H.get b=none↔H'.get b=none:=by
 rcases h b with e|⟨o,o',e1,e2,-⟩
 ·rw[e]
 ·simp[e1,e2]
theorem PW.sim{H H':aj}(h:PW H H'){M:bO}{w:World}(s:Sim M H w):Sim M H' w:=by
 refine⟨s.mem,fun b o' ho'=>?_⟩
 rcases h b with e|⟨o,o2,e1,e2,hh⟩
 ·exact s.obj b o' (by rw[<-e];exact ho')
 ·rw[e2]at ho';cases ho';exact hh M w (s.obj b o e1)
theorem PW.wk{H H':aj}(h:PW H H'):HWk H H':=⟨fun _ _ s=>h.sim s,fun b hb hn=>hb ((h.dom b).1 hn)⟩
theorem PW.only{H H':aj}(h:PW H H')(S:Nat->Prop):PW (H.only S) (H'.only S):=by
 intro b
 by_cases hb:S b
 ·rw[bm hb,bm hb];exact h b
 ·exact .inl (by rw[cd hb,cd hb])
theorem bD.pw{P:Program}{f:FuncId}{xs:List AC}{H H':aj}{R:AC->aj->Prop}(h:bD P f xs H' R)(hp:PW H H'):bD P f xs H R:=by
 intro M w vs s r
 refine(h M w vs (hp.sim s) r).mono ?_
 rintro e w' ⟨q,v,M',H2,h1,h2,h3,h4,h5⟩
 exact⟨q,v,M',H2,h1,h2,h3,h4.dom fun b=>(hp.dom b).symm,h5⟩
theorem PW.set{H:aj}{b:Nat}{cs cs':List AC}(hg:H.get b=some (.cells cs))(hl:cs'.length=cs.length)
(hle:∀(j:Nat) (y:AC),cs'[j]?=some y->cs[j]?=some y\/∃x,cs[j]?=some x/\Le x y/\y.one=true):PW H (H.set b (.cells cs')):=by
 intro c
 by_cases hc:c=b
 ·subst hc
  refine .inr ⟨_,_,hg,ai _ _ _,fun M w ho=>?_⟩
  obtain⟨vs,el,h1,h2,h3,h4,h5⟩:=ho
  refine⟨vs,el,h1,fun y hy=>?_,by rw[hl];exact h3,fun j y v hy hv=>?_,h5⟩
  ·obtain⟨j,hj⟩:=jV.1 hy
   rcases hle j y hj with h|⟨x,-,-,h⟩
   ·exact h2 y (ba h)
   ·exact h
  ·rcases hle j y hy with h|⟨x,hx,hxy,-⟩
   ·exact h4 j y v h hv
   ·exact hxy M v (h4 j x v hx hv)
 ·exact .inl (ae _ _ hc)
def ly(H:aj)(e:Nat)(v:En)(VS NS:AC):Prop:=∃H',PW H H'/\(∀d,¬aP e VS NS d->H'.get d=H.get d)/\bF H' e v VS NS
section
variable {P:Program}{dr:Bool}{K:Env->aj->Prop}{xs:List aN}{E:Env}{H:aj}{l:Lds}{f:Fps}
theorem Bw{i:Nat}{g:FuncId}{args:List aI}{d:Option Nat}{inc:List Nat}{as as':List AC}{e:Nat}{v:En}{VS NS:AC}{R:AC->En->Prop}(hc:jN P g as e v R)(hE:ly H e v VS NS)
(ha:args.map (aI.ev E)=as')(hl:LeA as' as)(hlive:dr=true->∃q v',R q v')(hchk:dS inc l (aP e VS NS))
(h:∀q v' VS' NS' H1 fp,R q v'->bF H1 e v' VS' NS'->(∀b o,H.get b=some o->¬aP e VS NS b->H1.get b=some o/\¬aP e VS' NS' b)->
  (∀c,fp c->aP e VS NS c\/H.get c=none)->bw P dr K xs (E.put d q) H1 l ((i,fp)::f)):
 bw P dr K (⟨i,d,none,.eff (.call g args),inc⟩::xs) E H l f:=by
 obtain⟨H0,hpw,hout,hE0⟩:=hE
 have hge:∀b,(H.only (aP e VS NS)).get b≠none↔aP e VS NS b:=by
  intro b
  by_cases hb:aP e VS NS b
  ·simp only[bm hb,hb,iff_true]
   exact fun h=>hE0.mem hb ((hpw.dom b).1 h)
  ·simp[cd hb,hb]
 refine gH (aP e VS NS) ((hc (H0.only (aP e VS NS)) VS NS hE0.only).pw (hpw.only _)) ha hl (fun hd N=>?_) ?_ ?_
 ·obtain⟨q,v',hq⟩:=hlive hd
  obtain⟨H',VS',NS',hE',hfar⟩:=qH e N v'
  refine⟨q,H',⟨v',VS',NS',hq,hE'⟩,fun b hb hn=>?_⟩
  rcases hfar b hb with rfl|h
  ·rw[bm (.inl rfl)]at hn
   exact absurd ((hpw.dom _).1 hn) (hE0.mem (.inl rfl))
  ·exact h
 ·have:(fun b=>(H.only (aP e VS NS)).get b≠none)=aP e VS NS:=by funext b;exact propext (hge b)
  rw[this];exact hchk
 ·rintro q H' H1 ⟨v',VS',NS',hq,hE'⟩ hsub hafter hnew -
  refine h q v' VS' NS' H1 _ hq (hE'.mono fun d hd=>?_) (fun b o hb hn=>⟨by rw[hafter.out b hn (by rw[hb];simp)];exact hb,fun h=>?_⟩) (fun c hc=>?_)
  ·obtain⟨o,ho⟩:=aJ.1 (hE'.mem hd)
   rw[ho];exact hsub _ _ ho
  ·rcases hnew b (hE'.mem h)with h|h
   ·exact hn h
   ·rw[hb]at h;simp at h
  ·rcases hc with hc|hc
   ·exact .inl ((hge c).1 hc)
   ·exact .inr hc
end
section
variable {P:Program}{F:Ids}
theorem lM{g:FuncId}{as:List AC}{e:Nat}{v:En}{q0:AC}{c':Int}
(h:∀VS NS,bD P g as (one e (cZ v.p v.fn VS NS v.code)) fun q H'=>∃o',(q=q0/\o'=cZ v.p v.fn VS NS c')/\H'=one e o'):jN P g as e v fun q v'=>q=q0/\v'={v with code:=c'}:=by
 intro H VS NS hE
 refine((h VS NS).frame (eO hE.obj)).mono ?_
 rintro q H1 ⟨H',⟨o',⟨rfl,rfl⟩,rfl⟩,rfl⟩
 rw[wq]
 exact⟨_,VS,NS,⟨rfl,rfl⟩,hE.setO c'⟩
theorem ru(L:Lib P F)(e:Nat)(v:En)(c:Int):jN P F.s_l3Env_fail [.ptr e 0,I c] e v fun q v'=>q=.tup []/\v'=v.fail c:=lM fun VS NS=>mS L e v.p v.fn VS NS v.code c
def En.fail0(v:En)(c:Int):En:={v with code:=if 0<c then dx v.code c else v.code}
theorem e_fail0(L:Lib P F)(e:Nat)(v:En)(c:Int):jN P F.s_l3Env_fail0 [.ptr e 0,I c] e v fun q v'=>q=.tup []/\v'=v.fail0 c:=lM fun VS NS=>c_fail0 L e v.p v.fn VS NS v.code c
theorem e_num(L:Lib P F)(e:Nat)(v:En)(t:Ty):jN P F.s_l3Env_num [.ptr e 0,.agg t.enc] e v fun q v'=>q=.tup []/\v'=v.num t:=lM fun VS NS=>Ce L e v.p v.fn VS NS v.code t
theorem pZ(L:Lib P F)(e:Nat)(v:En)(a t:Ty)(ha:a.wf):jN P F.s_l3Env_same [.ptr e 0,.agg a.enc,.agg t.enc] e v fun q v'=>q=.tup []/\v'=v.same a t:=by
 obtain⟨D,-,hD⟩:=ha
 exact lM fun VS NS=>c_same L e v.p v.fn VS NS v.code a t D hD
theorem xq(L:Lib P F)(e:Nat)(v:En)(hl:v.vars.length<=2^30)(hn:v.names.length<=2^30)(x:Vr):jN P F.s_l3Env_add [.ptr e 0,.agg x.enc] e v fun q v'=>q=.tup []/\v'=v.add x:=
 fun H VS NS hE=>(c_add L e v VS NS H hE hl hn x).mono fun q H' ⟨h1,VS',NS',h2⟩=>⟨_,VS',NS',⟨h1,rfl⟩,h2⟩
def En.push(v:En)(x:Vr):En:={v with vars:=v.vars++[x]}
def En.pop(v:En)(n:Nat):En:={v with vars:=v.vars.take n}
def C5(xs ys:List AC):Prop:=xs.length=ys.length/\∀(j:Nat) (y:AC),ys[j]?=some y->xs[j]?=some y\/∃x,xs[j]?=some x/\Le x y/\y.one=true
theorem ly.push{H:aj}{e:Nat}{v:En}{VS' NS:AC}{row:List AC}{x:Vr}(ho:H.get e=some (cZ v.p v.fn VS' NS v.code))(hr:eN H 6 (v.vars.map Vr.enc++[row]) VS')(hn:bR H 1 (a9 v.names) NS)(hrow:C5 row x.enc):
 ly H e (v.push x) VS' NS:=by
 rcases hr with⟨h,-⟩|⟨b,c,cs,rfl,hg,hc,hlen,hcs⟩
 ·simp at h
 ·have h6:row.length=6:=hrow.1
  have hl1:=dD (ys:=v.vars.map Vr.enc) (sz:=6) (by simp[Vr.enc])
  simp only[am]at hl1
  have hlv:(v.vars.map Vr.enc++[row]).length=v.vars.length+1:=by simp
  rw[hlv]at hlen hcs
  simp only[List.flatten_append,aq,az,cX]at hcs
  let cs':=(v.vars.map Vr.enc).flatten++x.enc++cs.drop ((v.vars.length+1)*6)
  have hsplit:cs=(v.vars.map Vr.enc).flatten++row++cs.drop ((v.vars.length+1)*6):=by rw[<-hcs,iw]
  have hcl:cs'.length=cs.length:=by
   conv=>rhs;rw[hsplit]
   simp only[cs',bq,h6,Vr.enc_len]
  have hne:e≠b:=by
   rintro rfl
   rw[ho]at hg;simp only[cZ,Option.some.injEq,cK.cells.injEq]at hg
   rw[<-hg]at hc;simp at hc;omega
  refine⟨H.set b (.cells cs'),.set hg hcl fun j y hy=>?_,fun d hd=>ae _ _ (by rintro rfl;exact hd (.inr (.inl ⟨_,_,rfl⟩))),⟨?_,.inr ⟨b,c,cs',?_,ai _ _ _,hcl.trans hc,?_,?_⟩,hn.set hg _⟩⟩
  ·rw[hsplit]
   simp only[cs']at hy
   rw[dY]at hy⊢
   by_cases h1:j<((v.vars.map Vr.enc).flatten).length
   ·rw[aR h1]at hy⊢;exact .inl hy
   ·rw[bi (by omega)]at hy⊢
    generalize j - ((v.vars.map Vr.enc).flatten).length=k at*
    by_cases h2:k<6
    ·rw[aR (by rw[Vr.enc_len];exact h2)]at hy
     rw[aR (by rw[h6];exact h2)]
     exact hrow.2 k y hy
    ·rw[bi (by rw[Vr.enc_len];omega)]at hy
     rw[bi (by rw[h6];omega)]
     rw[Vr.enc_len]at hy;rw[h6]
     exact .inl hy
  ·rw[ae _ _ hne];exact ho
  ·simp[En.push]
  ·simp[En.push];omega
  ·simp only[En.push,bB,aS,bv,bq,am,aV,bP,List.flatten_append,aq,az,cX,cs']
   rw[List.take_left']
   simp only[bq,hl1,Vr.enc_len];omega
theorem bF.pop{H:aj}{e:Nat}{v:En}{NS:AC}{b c n:Nat}(h:bF H e v (.lit (.slice (some ⟨b,0,none⟩) v.vars.length c)) NS)(hn:n<=v.vars.length):
 bF (H.set e (cZ v.p v.fn (.lit (.slice (some ⟨b,0,none⟩) n c)) NS v.code)) e (v.pop n) (.lit (.slice (some ⟨b,0,none⟩) n c)) NS:=by
 have hne:e≠b:=by rintro rfl;exact iL h.obj h.vars ⟨_,_,rfl⟩
 rcases h.vars with⟨-,hh⟩|⟨b',c',cs,hh,hg,hc,hl,ht⟩
 ·simp at hh
 ·simp only[AC.lit.injEq,Value.slice.injEq,Option.some.injEq,Addr.mk.injEq,true_and,and_true,am]at hh hl ht
  obtain⟨rfl,rfl⟩:=hh
  refine⟨ai _ _ _,.inr ⟨b,c,cs,by simp[En.pop];omega,by rw[ae _ _ (Ne.symm hne)];exact hg,hc,by simp[En.pop];omega,?_⟩,h.names.set h.obj _⟩
  have:(v.pop n).vars=v.vars.take n:=rfl
  rw[this]
  simp only[am,bk,eE hn,gU]
  have h1:=congrArg (List.take (n*6)) ht
  rw[List.take_take,eE (by omega)]at h1
  rw[h1]
  have h2:v.vars.map Vr.enc=(v.vars.map Vr.enc).take n++(v.vars.map Vr.enc).drop n:=(iw _ _).symm
  conv=>lhs;rw[h2,List.flatten_append]
  rw[List.take_left']
  rw[dD (sz:=6) (by simp[Vr.enc,List.mem_take_iff_getElem];intros;subst_vars;rfl)]
  simp;omega
end
def dj(vs:List Vr)(n:Nat):Bool:=match vs[n]? with
 |some x=>x.dead
 |none=>false
def cP(p:Pl):Vr:=⟨bl [],true,false,.mk [],[p],false⟩
noncomputable def En.pick(v:En)(s:St):En:=
 let r:=v.expr s.expr
 let u:=(r.1.num r.2).use s.place
 let n:=u.1.vars.length
 let w:=(u.1.push (cP s.place)).use s.other
 let v5:=w.1.same w.2 u.2
 let v6:=if dj v5.vars n then v5.fail 4 else v5
 (v6.pop n).add ⟨s.name,true,false,u.2,[s.place,s.other],false⟩
theorem En.num_like(v:En)(t:Ty):v.like (v.num t):=⟨rfl,rfl,rfl,rfl⟩
theorem fh(v:En)(a t:Ty):v.like (v.same a t):=⟨rfl,rfl,rfl,rfl⟩
theorem jp(v:En)(c:Int):v.like (v.fail c):=⟨rfl,rfl,rfl,rfl⟩
theorem oN{p:Pl}(hp:p.path.length<=2^20):(cP p).ok:=⟨by simp[cP],by simp[cP];exact hp⟩
theorem En.ok.push{v:En}(h:v.ok)(hl:v.vars.length+1<=2^20){x:Vr}(hx:x.ok/\x.type.wf):(v.push x).ok:=by
 refine⟨by simp[En.push];omega,fun y hy=>?_⟩
 simp only[En.push,aF,cn]at hy
 rcases hy with hy|rfl
 ·exact h.all y hy
 ·exact hx
theorem u7(tok:Option (Nat×Nat×Nat))(p:Pl):C5 [S (bl []),B true,B false,NIL,.sl 2 tok [[S p.name,au p.path]],B false] (cP p).enc:=by
 refine⟨rfl,fun j y hy=>?_⟩
 simp only[cP,Vr.enc,Ty.kids,Ty.encs,aS,bv,Pl.enc]at hy
 match j,hy with
 |0,hy=>simp at hy;subst hy;exact .inl rfl
 |1,hy=>simp at hy;subst hy;exact .inl rfl
 |2,hy=>simp at hy;subst hy;exact .inl rfl
 |3,hy=>simp at hy;subst hy;exact .inr ⟨NIL,rfl,.nil 1,rfl⟩
 |4,hy=>simp at hy;subst hy;exact .inr ⟨_,rfl,.tok _ _ _,rfl⟩
 |5,hy=>simp at hy;subst hy;exact .inl rfl
 |n+6,hy=>simp at hy
structure StC(s:St)(cs:List AC):Prop where
 len:cs.length=15
 kind:cs[0]?=some (I s.kind)
 name:cs[1]?=some (S s.name)
 place:(cs.drop 2).take 2=[S s.place.name,au s.place.path]
 other:(cs.drop 4).take 2=[S s.other.name,au s.other.path]
 expr:(cs.drop 6).take 5=s.expr.enc
 fn:cs[11]?=some (S s.fn)
 args:cs[12]?=some (.sl 8 none (s.args.map Ag.enc))
 thn:cs[13]?=some (.sl 15 none (St.encs s.thn))
 els:cs[14]?=some (.sl 15 none (St.encs s.els))
 all:cs.take 15=cs
theorem stC(s:St):∃cs,s.enc=cs/\StC s cs:=
 ⟨_,St.enc_eq s,rfl,rfl,rfl,rfl,rfl,by rw[Ex.enc_eq];rfl,rfl,rfl,rfl,rfl,rfl⟩
section
variable {P:Program}{F:Ids}
theorem e_pick(L:Lib P F)(e:Nat)(v:En)(s:St)(hv:v.ok)(hl:v.vars.length+1<=2^20)(hn:v.names.length+1<=2^20)(hne:0<v.vars.length)(hx:s.expr.ok)(hp:s.place.path.length<=2^20)(ho:s.other.path.length<=2^20):
 jN P F.s_l3Env_pick [.ptr e 0,.agg s.enc] e v fun q v'=>q=.tup []/\v'=v.pick s:=by
 intro H VS NS hE
 refine L.s_l3Env_pick (by simp[kJ]) ?_
 obtain⟨cs3,hcs3,C⟩:=stC s
 rw[hcs3]
 simp only[kJ,go_sem,rE,rA,C.len,rL,C.expr]
 intro b3 hb3
 have he3:=hE.new hb3 (.cells cs3)
 have hg3:(H.set b3 (.cells cs3)).get b3=some (.cells cs3):=ai _ _ _
 refine bL (qc L e _ s.expr (aC _) hx v hv) he3 (rfl) (.refl _) (by simp) trivial ?_
 rintro q v1 VS1 NS1 H1 fp ⟨rfl,hv1⟩ hE1 hk1 -
 obtain⟨g3,n3⟩:=hk1 b3 (.cells cs3) hg3 (hE.notin hb3)
 obtain⟨lk1,wf1⟩:=En.expr_good s.expr v hv
 rw[<-hv1]at lk1
 refine bL (e_num L e v1 (v.expr s.expr).2) hE1 (rfl) (.refl _) (by simp) trivial ?_
 rintro q v2 VS2 NS2 H2 fp2 ⟨rfl,hv2⟩ hE2 hk2 -
 obtain⟨g3,n3⟩:=hk2 _ _ g3 n3
 have lk2:v.like v2:=lk1.trans (hv2▸v1.num_like _)
 simp only[go_sem,rE,rA,g3,C.len,rL,C.place]
 refine bL (pY L e v2 (lk2.ok hv) s.place hp) hE2 (by simp only[go_sem,rE,Pl.enc]) (.refl _) (by simp) trivial ?_
 rintro q v3 VS3 NS3 H3 fp3 ⟨rfl,hv3⟩ hE3 hk3 -
 obtain⟨g3,n3⟩:=hk3 _ _ g3 n3
 have lk3:v.like v3:=lk2.trans (hv3▸v2.use_like _)
 have wf3:=jb (lk2.ok hv) s.place
 have hu:v2.use s.place=(v3,(v2.use s.place).2):=by rw[hv3]
 generalize(v2.use s.place).2=t at*
 simp only[go_sem,rE,rA,Ty.enc_eq t]
 intro b4 hb4
 have hE4:=hE3.new hb4 (.cells [.sl 1 none (Ty.encs t.kids)])
 have n4:=hE3.notin hb4
 have d34:=al g3 hb4
 have d4e:=hE3.ne hb4
 have hob:=hE3.obj
 have hlen3:v3.vars.length=v.vars.length:=lk3.len
 obtain⟨vb,vc,cs,rfl,hr⟩:=hE3.vars.row (i:=0) (by omega)
 have hlim:v3.vars.length<=LIM:=by simp only[LIM];omega
 simp only[cZ]at hob
 simp only[go_sem,rE,rA,d4e,hob,hlim,d34,g3,C.len,rL,C.place,ax,aq,az,bh]
 intro b5 hb5
 have hE5:=hE4.new hb5 (.tail 2 2)
 have d45:=al (ai H3 b4 (.cells [.sl 1 none (Ty.encs t.kids)])) hb5
 have d35:b3≠b5:=al (H:=H3.set b4 (.cells [.sl 1 none (Ty.encs t.kids)])) (by rw[ae _ _ d34];exact g3) hb5
 have d5e:=hE4.ne hb5
 have hrv:=hE5.vars
 have hnv:=hE5.names
 have g4':((H3.set b4 (.cells [.sl 1 none (Ty.encs t.kids)])).set b5 (.tail 2 2)).get b4=some (.cells [.sl 1 none (Ty.encs t.kids)]):=by rw[ae _ _ d45,ai]
 have g3':((H3.set b4 (.cells [.sl 1 none (Ty.encs t.kids)])).set b5 (.tail 2 2)).get b3=some (.cells cs3):=by rw[ae _ _ d35,ae _ _ d34];exact g3
 have ge':=hE5.obj
 simp only[cZ]at ge'
 generalize((H3.set b4 (.cells [.sl 1 none (Ty.encs t.kids)])).set b5 (.tail 2 2))=H5 at*
 refine sR (rows:=v3.vars.map Vr.enc) (ys:=[[S (bl []),B true,B false,NIL,.sl 2 (some (b5,2,2)) [[S s.place.name,au s.place.path]],B false]]) (by simp only[go_sem,rE];exact hrv) (rfl) (by simp) (by simp;omega) rfl ?_
 intro VS6 H6 fp6 hVS6 hkeep6 hblk6
 simp only[go_sem,rE]at hkeep6 hblk6
 have nb3:¬gT (AC.lit (Value.slice (some {block:=vb,off:=0}) v3.vars.length vc)) b3:=fun h=>n3 (.inr (.inl h))
 have nb4:¬gT (AC.lit (Value.slice (some {block:=vb,off:=0}) v3.vars.length vc)) b4:=fun h=>n4 (.inr (.inl h))
 have g6e:H6.get e=some (.cells [.sl 12 none (v3.p.map Fu.enc),I v3.fn,AC.lit (Value.slice (some {block:=vb,off:=0}) v3.vars.length vc),NS3,I v3.code]):=by
  rw[hkeep6 e (by rw[ge'];simp) (iL hE3.obj hE3.vars)];exact ge'
 have g63:H6.get b3=some (.cells cs3):=by rw[hkeep6 b3 (by rw[g3'];simp) nb3];exact g3'
 have g64:H6.get b4=some (.cells [.sl 1 none (Ty.encs t.kids)]):=by rw[hkeep6 b4 (by rw[g4'];simp) nb4];exact g4'
 have hn6:bR H6 1 (a9 v3.names) NS3:=hnv.rows hrv hkeep6
 have d3e:b3≠e:=fun h=>n3 (.inl h)
 have d4e':b4≠e:=Ne.symm d4e
 simp only[go_sem,rE,rA,g6e,hVS6.one,rL]
 have hWo:(H6.set e (cZ v3.p v3.fn VS6 NS3 v3.code)).get e=some (cZ v3.p v3.fn VS6 NS3 v3.code):=ai _ _ _
 have hnb6:∀d,gT VS6 d->d≠e:=by
  rintro d hd rfl
  rcases hblk6 d hd with h|h
  ·exact iL hE3.obj hE3.vars h
  ·rw[ge']at h;simp at h
 have hW:=ly.push hWo (eN.mono hVS6 fun d hd=>ae _ _ (hnb6 d hd)) (hn6.set g6e _) (u7 (some (b5,2,2)) s.place)
 have g73:(H6.set e (cZ v3.p v3.fn VS6 NS3 v3.code)).get b3=some (.cells cs3):=by rw[ae _ _ d3e];exact g63
 have g74:(H6.set e (cZ v3.p v3.fn VS6 NS3 v3.code)).get b4=some (.cells [.sl 1 none (Ty.encs t.kids)]):=by rw[ae _ _ d4e'];exact g64
 simp only[cZ]at hW g73 g74
 generalize H6.set e (.cells [.sl 12 none (v3.p.map Fu.enc),I v3.fn,VS6,NS3,I v3.code])=H7 at*
 have n63:¬aP e VS6 NS3 b3:=by
  rintro(h|h|h)
  ·exact d3e h
  ·rcases hblk6 b3 h with h|h
   ·exact nb3 h
   ·rw[g3']at h;simp at h
  ·exact n3 (.inr (.inr h))
 have n64:¬aP e VS6 NS3 b4:=by
  rintro(h|h|h)
  ·exact d4e' h
  ·rcases hblk6 b4 h with h|h
   ·exact nb4 h
   ·rw[g4']at h;simp at h
  ·exact n4 (.inr (.inr h))
 have ok3:(v3.push (cP s.place)).ok:=(lk3.ok hv).push (by omega) ⟨oN hp,dN⟩
 simp only[go_sem,rE,rA,g73,C.len,rL,C.other]
 refine Bw (pY L e (v3.push (cP s.place)) ok3 s.other ho) hW (by simp only[go_sem,rE,Pl.enc]) (.refl _) (fun _=>⟨_,_,rfl,rfl⟩) (by simp[dS]) ?_
 rintro q v8 VS8 NS8 H8 fp8 ⟨rfl,hv8⟩ hE8 hk8 hfp8
 obtain⟨g83,n83⟩:=hk8 _ _ g73 n63
 obtain⟨g84,n84⟩:=hk8 _ _ g74 n64
 have nf4:¬fp8 b4:=fun h=>(hfp8 b4 h).elim n64 (fun h=>by rw[g74]at h;simp at h)
 have lk8:(v3.push (cP s.place)).like v8:=hv8▸En.use_like _ _
 have wf8:=jb ok3 s.other
 have hw:(v3.push (cP s.place)).use s.other=(v8,((v3.push (cP s.place)).use s.other).2):=by rw[hv8]
 generalize((v3.push (cP s.place)).use s.other).2=u at*
 simp only[go_sem,rE,rA,g84,jy,bf,cq,or_false,forall_eq,nf4,rL]
 refine bL (pZ L e v8 u t wf8) hE8 (by simp only[go_sem,rE,Ty.enc_eq t]) (.refl _) (fun _=>⟨_,_,rfl,rfl⟩) trivial ?_
 rintro q v9 VS9 NS9 H9 fp9 ⟨rfl,hv9⟩ hE9 hk9 -
 obtain⟨g93,n93⟩:=hk9 _ _ g83 n83
 obtain⟨g94,n94⟩:=hk9 _ _ g84 n84
 have lk9:(v3.push (cP s.place)).like v9:=lk8.trans (hv9▸fh _ _ _)
 have hl9:v9.vars.length=v3.vars.length+1:=by rw[lk9.len];simp[En.push]
 have hpick:v.pick s=((if dj v9.vars v3.vars.length then v9.fail 4 else v9).pop v3.vars.length).add ⟨s.name,true,false,t,[s.place,s.other],false⟩:=by
  simp only[En.pick,<-hv1,<-hv2,hu,hw,<-hv9]
 have hnm:v9.names.length=v.names.length:=by rw[lk9.names];simp only[En.push];rw[lk3.names]
 rw[hpick]
 have step:∀(E:Env) (H:aj) (v6:En) (VS NS:AC),bF H e v6 VS NS->v6.vars.length=v3.vars.length+1->v6.names.length=v.names.length->E 0=.ptr e 0->E 3=.ptr b3 0->E 4=.ptr b4 0->E 5=I v3.vars.length->
  H.get b3=some (.cells cs3)->H.get b4=some (.cells [.sl 1 none (Ty.encs t.kids)])->¬aP e VS NS b3->¬aP e VS NS b4->
  aX.wp P (kd2 F) (aD.post [] fun q H'=>∃v' VS' NS',(q=.tup []/\v'=(v6.pop v3.vars.length).add ⟨s.name,true,false,t,[s.place,s.other],false⟩)/\bF H' e v' VS' NS') E H:=by
  intro E H v6 VS NS hE hl6 hn6 e0 e3 e4 e5 g3 g4 n3 n4
  rw[kd2]
  obtain⟨vb,vc,cs,rfl,hr⟩:=hE.vars.row (i:=0) (by omega)
  have hob:=hE.obj
  simp only[cZ]at hob
  have hcap:v3.vars.length<=vc/\0<vc:=by have:=hr.cap;omega
  have hpop:=hE.pop (n:=v3.vars.length) (by omega)
  simp only[cZ]at hpop
  have d3e:b3≠e:=fun h=>n3 (.inl h)
  have d4e:b4≠e:=fun h=>n4 (.inl h)
  simp only[go_sem,rE,rA,e0,e3,e4,e5,hob,Int.natCast_nonneg,dH,hcap,rL,d3e,d4e,g3,g4,C.name,C.len,C.place,C.other,ax,aq,az,bh]
  intro b10 hb10
  have hE10:=hpop.new hb10 (.tail 4 4)
  refine bL (as':=[.ptr e 0,.agg [S s.name,B true,B false,.sl 1 none (Ty.encs t.kids),.sl 2 (some (b10,2*2,2*2)) [[S s.place.name,au s.place.path],[S s.other.name,au s.other.path]],B false]]) (xq L e (v6.pop v3.vars.length) (by simp[En.pop];omega) (by simp only[En.pop];omega) ⟨s.name,true,false,t,[s.place,s.other],false⟩) hE10 (rfl)
   ⟨.refl _,.agg ⟨⟨.refl _,rfl⟩,⟨.refl _,rfl⟩,⟨.refl _,rfl⟩,⟨.refl _,rfl⟩,⟨.tok _ _ _,rfl⟩,⟨.refl _,rfl⟩,trivial⟩,trivial⟩ (by simp) trivial ?_
  rintro q v11 VS11 NS11 H11 fp11 ⟨rfl,hv11⟩ hE11 - -
  simp only[lF]
  exact di (aj.sub_refl _) ⟨v11,VS11,NS11,⟨rfl,hv11⟩,hE11⟩
 obtain⟨vb9,vc9,cs9,rfl,hr9⟩:=hE9.vars.row (i:=v3.vars.length) (by omega)
 have hob9:=hE9.obj
 simp only[cZ]at hob9
 have hlt9:((v3.vars.length:Nat):Int)<v9.vars.length:=by omega
 simp only[go_sem,rE,rA,hob9,hlt9,hr9.get,hr9.dead]
 have hdd:dj v9.vars v3.vars.length=v9.vars[v3.vars.length].dead:=by
  simp only[dj,av (show v3.vars.length<v9.vars.length by omega)]
 rw[hdd]
 cases hd:v9.vars[v3.vars.length].dead
 ·simp only[nI,wp_skip,cC]
  exact step _ _ v9 _ _ hE9 hl9 hnm (rfl) (rfl) (rfl) (rfl) g93 g94 n93 n94
 ·simp only[pI,go_sem,rE]
  refine bL (ru L e v9 4) hE9 (rfl) (.refl _) (by simp) trivial ?_
  rintro q v10 VS10 NS10 H10 fp10 ⟨rfl,hv10⟩ hE10 hk10 -
  obtain⟨g103,n103⟩:=hk10 _ _ g93 n93
  obtain⟨g104,n104⟩:=hk10 _ _ g94 n94
  subst hv10
  simp only[lF,cC,if_true]
  exact step _ _ (v9.fail 4) _ _ hE10 hl9 hnm (rfl) (rfl) (rfl) (rfl) g103 g104 n103 n104
end
noncomputable def En.args:En->List (Pa×Ag)->List Pl->En×Option (List Pl)
 |v,[],pl=>(v,some pl)
 |v,(p,a)::l,pl=>if a.lent≠p.lent then(v.fail 3,none)else
  if a.lent then((((v.use a.place).1.same (v.use a.place).2 p.type)).push (cP a.place)).args l (pl++[a.place])
  else((v.expr a.expr).1.same (v.expr a.expr).2 p.type).args l pl
def En.gone(v:En)(n:Nat):En:=if(v.vars.drop n).any (fun x=>x.dead)then v.fail 4 else v
def jY(fs:List Fu)(name:ByteArray)(most:Nat):Option Nat:=(fs.take most).findIdx? fun f=>decide (f.name=name)
noncomputable def En.call(v:En)(s:St):En:=match jY v.p s.fn v.fn with
 |none=>v.fail 2
 |some k=>match v.p[k]? with
  |none=>v
  |some f=>if f.params.length≠s.args.length then v.fail 3 else
   match v.args (f.params.zip s.args) []with
   |(w,none)=>w
   |(w,some pl)=>((w.gone v.vars.length).pop v.vars.length).add ⟨s.name,f.lent,false,f.type,if f.lent then pl else [],false⟩
structure Ag.ok(a:Ag):Prop where
 expr:a.lent=false->a.expr.ok
 path:a.place.path.length<=2^20
structure Pa.ok(p:Pa):Prop where
 type:p.type.wf
structure Fu.okS(f:Fu):Prop where
 params:∀p∈f.params,p.ok
 type:f.type.wf
structure FuC(f:Fu)(cs:List AC):Prop where
 len:cs.length=12
 name:cs[0]?=some (S f.name)
 params:cs[1]?=some (.sl 3 none (f.params.map Pa.enc))
 lent:cs[2]?=some (B f.lent)
 type:(cs.drop 3).take 1=f.type.enc
 body:cs[4]?=some (.sl 15 none (St.encs f.body))
 says:(cs.drop 5).take 5=f.says.enc
 gives:(cs.drop 10).take 2=[S f.gives.name,au f.gives.path]
 all:cs.take 12=cs
theorem fuC(f:Fu):∃cs,f.enc=cs/\FuC f cs:=⟨_,Fu.enc_eq f,rfl,rfl,rfl,rfl,by rw[Ty.enc_eq];rfl,rfl,by rw[Ex.enc_eq];rfl,rfl,rfl⟩
structure AgC(a:Ag)(cs:List AC):Prop where
 len:cs.length=8
 lent:cs[0]?=some (B a.lent)
 place:(cs.drop 1).take 2=[S a.place.name,au a.place.path]
 expr:(cs.drop 3).take 5=a.expr.enc
theorem agC(a:Ag):∃cs,a.enc=cs/\AgC a cs:=⟨a.enc,rfl,by rw[Ag.enc,Ex.enc_eq];rfl,rfl,rfl,by rw[Ag.enc,Ex.enc_eq];rfl⟩
structure PaC(p:Pa)(cs:List AC):Prop where
 len:cs.length=3
 name:cs[0]?=some (S p.name)
 lent:cs[1]?=some (B p.lent)
 lent1:(cs.drop 1)[0]?=some (B p.lent)
 type:(cs.drop 2).take 1=p.type.enc
 all:cs.take 3=cs
theorem paC(p:Pa):∃cs,p.enc=cs/\PaC p cs:=⟨p.enc,rfl,by rw[Pa.enc,Ty.enc_eq];rfl,rfl,rfl,rfl,by rw[Pa.enc,Ty.enc_eq];rfl,by rw[Pa.enc,Ty.enc_eq];rfl⟩
theorem Ai{H:aj}{e:Nat}{v:En}{VS NS VS':AC}{H':aj}{row:List AC}{x:Vr}(hE:bF H e v VS NS)(hr:eN H' 6 (v.vars.map Vr.enc++[row]) VS')
(hkeep:∀c,H.get c≠none->¬gT VS c->H'.get c=H.get c)(hblk:∀c,gT VS' c->gT VS c\/H.get c=none)(hrow:C5 row x.enc):
 H'.get e=some (cZ v.p v.fn VS NS v.code)/\ly (H'.set e (cZ v.p v.fn VS' NS v.code)) e (v.push x) VS' NS/\
  ∀b o,H.get b=some o->¬aP e VS NS b->(H'.set e (cZ v.p v.fn VS' NS v.code)).get b=some o/\H'.get b=some o/\¬aP e VS' NS b:=by
 have he:H'.get e=some (cZ v.p v.fn VS NS v.code):=by
  rw[hkeep e (by rw[hE.obj];simp) (iL hE.obj hE.vars)];exact hE.obj
 have hnb:∀d,gT VS' d->d≠e:=by
  rintro d hd rfl
  rcases hblk d hd with h|h
  ·exact iL hE.obj hE.vars h
  ·rw[hE.obj]at h;simp at h
 have hn:bR H' 1 (a9 v.names) NS:=hE.names.rows hE.vars hkeep
 refine⟨he,ly.push (ai _ _ _) (eN.mono hr fun d hd=>ae _ _ (hnb d hd)) (hn.set he _) hrow,fun b o hb hnb'=>?_⟩
 have h1:b≠e:=fun h=>hnb' (.inl h)
 have h2:H'.get b=some o:=by
  rw[hkeep b (by rw[hb];simp) (fun h=>hnb' (.inr (.inl h)))];exact hb
 refine⟨by rw[ae _ _ h1];exact h2,h2,?_⟩
 rintro(h|h|h)
 ·exact h1 h
 ·rcases hblk b h with h|h
  ·exact hnb' (.inr (.inl h))
  ·rw[hb]at h;simp at h
 ·exact hnb' (.inr (.inr h))
open Classical in
theorem ly.mono {H H':aj} {e:Nat} {v:En} {VS NS:AC} (h:ly H e v VS NS) (hk:∀d,aP e VS NS d->H'.get d=H.get d):ly H' e v VS NS:=by
 obtain⟨H0,h1,h2,h3⟩:=h
 let G:aj:=⟨fun b=>if aP e VS NS b then H0.get b else H'.get b,by
  obtain⟨N,hN⟩:=H0.fin
  obtain⟨N',hN'⟩:=H'.fin
  exact⟨N+N',fun b hb=>by simp only[hN b (by omega),hN' b (by omega),ite_self]⟩⟩
 have gin:∀d,aP e VS NS d->G.get d=H0.get d:=fun d hd=>by simp only[G,hd,if_true]
 have gout:∀d,¬aP e VS NS d->G.get d=H'.get d:=fun d hd=>by simp only[G,hd,if_false]
 refine⟨G,fun b=>?_,gout,h3.mono gin⟩
 by_cases hb:aP e VS NS b
 ·rw[gin b hb,hk b hb];exact h1 b
 ·rw[gout b hb];exact .inl rfl
theorem ly.wk{H:aj}{e:Nat}{v:En}{VS NS:AC}(h:ly H e v VS NS):∃H',HWk H H'/\bF H' e v VS NS/\∀b,¬aP e VS NS b->H'.get b=H.get b:=by
 obtain⟨H',h1,h2,h3⟩:=h
 exact⟨H',h1.wk,h3,h2⟩
section
variable {P:Program}{F:Ids}
theorem fnAt_eq(fs:List Fu)(name:ByteArray)(most:Nat):yD fs name most=match jY fs name most with|some i=>(i:Int)|none=>-1:=rfl
theorem e_call(L:Lib P F)(e:Nat)(v:En)(s:St)(hv:v.ok)(hl:v.vars.length+s.args.length+1<=2^20)(hn:v.names.length+1<=2^20)(hne:0<v.vars.length)(ha:∀a∈s.args,a.ok)
(hp:∀f∈v.p,f.okS)(hpl:v.p.length<=2^20)(hfn:v.fn<=2^20):jN P F.s_l3Env_call [.ptr e 0,.agg s.enc] e v fun q v'=>q=.tup []/\v'=v.call s:=by
 intro H VS NS hE
 refine L.s_l3Env_call (by simp[kQ]) ?_
 obtain⟨cs3,hcs3,C⟩:=stC s
 rw[hcs3]
 have hob:=hE.obj
 simp only[cZ]at hob
 simp only[kQ,go_sem,rE,rA,C.len,rL]
 intro b3 hb3
 have d3e:=hE.ne hb3
 have he3:=hE.new hb3 (.cells cs3)
 have n3:=hE.notin hb3
 simp only[go_sem,rE,rA,d3e,hob,C.fn,rL]
 refine ao (Ci L v.p s.fn v.fn (by omega) (by omega)) (by simp only[go_sem,rE,Pg.enc]) ?_
 have hg3:(H.set b3 (.cells cs3)).get b3=some (.cells cs3):=ai _ _ _
 simp only[go_sem,rE,rA,fnAt_eq]
 cases hk:jY v.p s.fn v.fn with
 |none=>
  simp only[go_sem,rE,rA,Int.reduceLT]
  refine bL (ru L e v 2) he3 (rfl) (.refl _) (by simp) trivial ?_
  rintro q v1 VS1 NS1 H1 fp1 ⟨rfl,hv1⟩ hE1 - -
  simp only[go_sem]
  exact lX (aj.sub_refl _) ⟨v1,VS1,NS1,⟨rfl,by rw[hv1];simp only[En.call,hk]⟩,hE1⟩
 |some k=>
  have hkl:k<v.p.length:=by
   obtain⟨h,-⟩:=bQ.1 hk
   simp at h;omega
  have hvk:v.p[k]?=some v.p[k]:=av hkl
  have hfk:=hp _ (ay hkl)
  have hge:¬(k:Int)<0:=by omega
  obtain⟨cs5,hcs5,CF⟩:=fuC v.p[k]
  have hgk:(v.p.map Fu.enc)[k]?=some cs5:=by rw[<-hcs5];simp[hkl]
  have hcall:v.call s=if v.p[k].params.length≠s.args.length then v.fail 3 else
   match v.args (v.p[k].params.zip s.args) []with
   |(w,none)=>w
   |(w,some pl)=>((w.gone v.vars.length).pop v.vars.length).add ⟨s.name,v.p[k].lent,false,v.p[k].type,if v.p[k].lent then pl else [],false⟩:=by
   simp only[En.call,hk,hvk]
  rw[hcall]
  generalize v.p[k]=f at*
  clear hcall
  have stepEnd:∀(E:Env) (H:aj) (w:En) (pl:List Pl) (VS NS:AC) (tok:Option (Nat×Nat×Nat)),bF H e w VS NS->v.vars.length<=w.vars.length->w.names.length=v.names.length->E 0=.ptr e 0->∀b5,E 3=.ptr b3 0->E 5=.ptr b5 0->E 6=I v.vars.length->
   E 7=.sl 2 tok (pl.map Pl.enc)->H.get b3=some (.cells cs3)->H.get b5=some (.cells cs5)->¬aP e VS NS b3->¬aP e VS NS b5->
   aX.wp P (kd3 F) (aD.post [] fun q H'=>∃v' VS' NS',(q=.tup []/\v'=(w.pop v.vars.length).add ⟨s.name,f.lent,false,f.type,if f.lent then pl else [],false⟩)/\bF H' e v' VS' NS') E H:=by
   intro E H w pl VS NS tok hE hlw hnw e0 b5 e3 e5 e6 e7 g3 g5 n3 n5
   rw[kd3]
   obtain⟨vb,vc,cs,rfl,hr⟩:=hE.vars.row (i:=0) (by omega)
   have hob:=hE.obj
   simp only[cZ]at hob
   have hcap:v.vars.length<=vc/\0<vc:=by have:=hr.cap;omega
   have hpop:=hE.pop (n:=v.vars.length) (by omega)
   simp only[cZ]at hpop
   have d3e:b3≠e:=fun h=>n3 (.inl h)
   have d5e:b5≠e:=fun h=>n5 (.inl h)
   simp only[go_sem,rE,rA,e0,e3,e5,e6,e7,hob,Int.natCast_nonneg,dH,hcap,rL,d3e,d5e,g3,g5,C.name,CF.lent,CF.len,CF.type]
   refine gI (as':=[B f.lent,.sl 2 tok (pl.map Pl.enc)]) (AJ L f.lent (pl.map Pl.enc) 2) (by simp only[go_sem,rE,e7]) ⟨.refl _,.tok _ _ _,trivial⟩ ?_
   rw[Ty.enc_eq f.type]
   simp only[go_sem,rE,rA,e0]
   have hle:(if f.lent=true then List.map Pl.enc pl else [])=List.map Pl.enc (if f.lent then pl else []):=by cases f.lent<;>rfl
   rw[hle]
   refine bL (xq L e (w.pop v.vars.length) (by simp[En.pop];omega) (by simp only[En.pop];omega) ⟨s.name,f.lent,false,f.type,if f.lent then pl else [],false⟩) hpop (by simp only[go_sem,rE,Vr.enc]) (.refl _) (fun _=>⟨_,_,rfl,rfl⟩) trivial ?_
   rintro q v11 VS11 NS11 H11 fp11 ⟨rfl,hv11⟩ hE11 - -
   simp only[lF]
   exact di (aj.sub_refl _) ⟨v11,VS11,NS11,⟨rfl,hv11⟩,hE11⟩
  have stepGone:∀(E:Env) (H:aj) (w:En) (pl:List Pl) (VS NS:AC) (tok:Option (Nat×Nat×Nat)),bF H e w VS NS->v.vars.length<=w.vars.length->w.vars.length<=2^20->w.names.length=v.names.length->E 0=.ptr e 0->∀b5,E 3=.ptr b3 0->E 5=.ptr b5 0->E 6=I v.vars.length->
   E 7=.sl 2 tok (pl.map Pl.enc)->H.get b3=some (.cells cs3)->H.get b5=some (.cells cs5)->¬aP e VS NS b3->¬aP e VS NS b5->
   aX.wp P (kd4 F) (aD.post [] fun q H'=>∃v' VS' NS',(q=.tup []/\v'=((w.gone v.vars.length).pop v.vars.length).add ⟨s.name,f.lent,false,f.type,if f.lent then pl else [],false⟩)/\bF H' e v' VS' NS') E H:=by
   intro E H w pl VS NS tok hE hlw hlw2 hnw e0 b5 e3 e5 e6 e7 g3 g5 n3 n5
   rw[kd4]
   simp only[go_sem,rE,rA,e6]
   refine aT (w.vars.length - v.vars.length) (fun i E H=>∃VS NS,bF H e (if((w.vars.drop v.vars.length).take i).any (fun x=>x.dead)then w.fail 4 else w) VS NS/\E 0=.ptr e 0/\E 3=.ptr b3 0/\E 5=.ptr b5 0/\E 6=I v.vars.length/\
    E 7=.sl 2 tok (pl.map Pl.enc)/\E 9=I ((v.vars.length+i:Nat):Int)/\H.get b3=some (.cells cs3)/\H.get b5=some (.cells cs5)/\¬aP e VS NS b3/\¬aP e VS NS b5) ⟨VS,NS,by simpa using hE,e0,e3,e5,e6,e7,rfl,g3,g5,n3,n5⟩ ?_
   clear hE e0 e3 e5 e6 e7 g3 g5 n3 n5
   rintro i E H hi ⟨VS,NS,hE,e0,e3,e5,e6,e7,e9,g3,g5,n3,n5⟩
   have hvars:(if((w.vars.drop v.vars.length).take i).any (fun x=>x.dead)then w.fail 4 else w).vars=w.vars:=by split<;>rfl
   obtain⟨vb,vc,cs,rfl,hr0⟩:=hE.vars.row (i:=0) (by rw[hvars];omega)
   have hob:=hE.obj
   have hlim:w.vars.length<=LIM:=by simp only[LIM];omega
   simp only[cZ,hvars]at hob
   simp only[go_sem,rE,rA,e0,e9,hob,hlim]
   refine aG (fun hlt=>?_) (fun hge=>?_)
   ·have hlt1:v.vars.length+i<w.vars.length:=by omega
    obtain⟨vb',vc',cs',heq,hr⟩:=hE.vars.row (i:=v.vars.length+i) (by rw[hvars];omega)
    simp only[AC.lit.injEq,Value.slice.injEq,Option.some.injEq,Addr.mk.injEq,true_and,and_true]at heq
    obtain⟨rfl,rfl⟩:=heq
    have w1:=aL (n:=((v.vars.length+i:Nat):Int)+1) (by omega) (by omega)
    have hdd:=hr.dead
    simp only[hvars]at hdd
    have htk:((w.vars.drop v.vars.length).take (i+1)).any (fun x=>x.dead)=(((w.vars.drop v.vars.length).take i).any (fun x=>x.dead)||w.vars[v.vars.length+i].dead):=by
     rw[aA (by simp;omega),fy];simp
    simp only[go_sem,rE,rA,e0,e9,hob,hlt,hr.get,hdd]
    cases hd:w.vars[v.vars.length+i].dead
    ·simp only[go_sem,rE,rA,e9,w1]
     refine⟨by omega,H,aj.sub_refl _,_,NS,by rw[htk,hd,dI];exact hE,e0,e3,e5,e6,e7,by simp[go_sem];omega,g3,g5,n3,n5⟩
    ·simp only[go_sem,rE,rA,e0]
     refine bL (ru L e _ 4) hE (by simp only[go_sem,rE,e0]) (.refl _) (by simp) trivial ?_
     rintro q v10 VS10 NS10 H10 fp10 ⟨rfl,hv10⟩ hE10 hk10 -
     obtain⟨g3,n3⟩:=hk10 _ _ g3 n3
     obtain⟨g5,n5⟩:=hk10 _ _ g5 n5
     simp only[go_sem,rE,rA,e9,w1]
     refine⟨by omega,H10,aj.sub_refl _,VS10,NS10,?_,e0,e3,e5,e6,e7,by simp[go_sem];omega,g3,g5,n3,n5⟩
     rw[htk,hd,Bool.or_true,if_pos rfl]
     have:v10=w.fail 4:=by
      rw[hv10]
      split
      ·simp only[En.fail,rR _ 4 (by decide)]
      ·rfl
     rw[<-this];exact hE10
   ·simp only[wp_exit,fl,dL,cC]
    have hi':i=w.vars.length - v.vars.length:=by omega
    rw[cF (by simp;omega)]at hE n3 n5
    exact stepEnd _ _ (w.gone v.vars.length) pl _ _ tok hE (by unfold En.gone;split<;>exact hlw) (by unfold En.gone;split<;>exact hnw) (e0) b5 (e3) (e5) (e6) (e7) g3 g5 n3 n5
  simp only[go_sem,rE,rA,hge,d3e,hob,hgk,CF.len,CF.all,CF.params]
  intro b5 hb5
  have d35:b3≠b5:=al hg3 hb5
  have he5:=he3.new hb5 (.cells cs5)
  have n5:=he3.notin hb5
  have d5e:=he3.ne hb5
  simp only[go_sem,rE,rA,d35,C.args,am]
  by_cases hlen:f.params.length=s.args.length
  ·have hbne:((f.params.length:Int) !=s.args.length)=false:=by rw[hlen];simp
   have hlim:v.vars.length<=LIM:=by simp only[LIM];omega
   have hvr:=he5.vars
   obtain⟨vb,vc,cs,rfl,hr0⟩:=hvr.row (i:=0) hne
   have hlc:¬f.params.length≠s.args.length:=by simpa using hlen
   rw[if_neg hlc]
   simp only[hbne,go_sem,rE,rA,d3e,d5e,hob,hlim]
   intro b7 hb7
   have d37:b3≠b7:=al (H:=(H.set b3 (.cells cs3)).set b5 (.cells cs5)) (by rw[ae _ _ d35];exact hg3) hb7
   have d57:b5≠b7:=al (ai _ _ _) hb7
   let J:Nat->Env->aj->Prop:=fun k E H=>∃(w:En) (pl:List Pl) (VS NS:AC) (bt nt mt:Nat),bF H e w VS NS/\w.ok/\w.names=v.names/\v.vars.length<=w.vars.length/\w.vars.length<=v.vars.length+k/\pl.length<=k/\
    v.args (f.params.zip s.args) []=w.args ((f.params.zip s.args).drop k) pl/\E 0=.ptr e 0/\E 3=.ptr b3 0/\E 5=.ptr b5 0/\E 6=I v.vars.length/\E 7=.sl 2 (some (bt,nt,mt)) (pl.map Pl.enc)/\E 8=I k/\
    H.get b3=some (.cells cs3)/\H.get b5=some (.cells cs5)/\H.get bt=some (.tail nt mt)/\¬aP e VS NS b3/\¬aP e VS NS b5/\¬aP e VS NS bt
   have he7:=he5.new hb7 (.tail 0 0)
   refine um s.args.length J ⟨v,[],_,NS,b7,0,0,he7,hv,rfl,by omega,by omega,by simp,by simp,rfl,rfl,rfl,rfl,rfl,rfl,by rw[ae _ _ d37,ae _ _ d35];exact hg3,
    by rw[ae _ _ d57,ai],ai _ _ _,n3,n5,he5.notin hb7⟩ ?_
   clear he7 hob hlim he5 hvr
   rintro k E H hk ⟨w,pl,VS,NS,bt,nt,mt,hE,hw,hnm,hlw,hlw2,hpk,hargs,e0,e3,e5,e6,e7,e8,g3,g5,gt,n3,n5,n7⟩
   simp only[wp_seq,go_sem,rE,rA,e3,e8,g3,C.args,am]
   refine aG (fun hlt=>?_) (fun hge=>?_)
   ·have hk1:k<s.args.length:=by omega
    have hk1':=hk1
    have hk2:k<f.params.length:=by omega
    obtain⟨ca,hca,CA⟩:=agC s.args[k]
    obtain⟨cp,hcp,CP⟩:=paC f.params[k]
    have hga:(s.args.map Ag.enc)[k]?=some ca:=by rw[<-hca];simp[hk1]
    have hgp:(f.params.map Pa.enc)[k]?=some cp:=by rw[<-hcp];simp[hk2]
    have hoka:=ha _ (ay hk1)
    have hokp:=hfk.params _ (ay hk2)
    have hz:(f.params.zip s.args).drop k=(f.params[k],s.args[k])::(f.params.zip s.args).drop (k+1):=by
     rw[bU (by simp;omega)];simp
    rw[hz]at hargs
    simp only[En.args]at hargs
    have w1:=aL (n:=(k:Int)+1) (by omega) (by omega)
    simp only[go_sem,rE,rA,e3,e5,e8,g3,C.args,g5,CF.params,hga,hgp,CA.lent,CP.lent1]
    by_cases hll:s.args[k].lent=f.params[k].lent
    ·rw[if_neg (by simpa using hll)]at hargs
     have hlf:f.params[k].lent=s.args[k].lent:=hll.symm
     have cl:=CA.lent
     cases hlent:s.args[k].lent
     ·rw[hlent]at hargs cl
      rw[if_neg (by simp)]at hargs
      simp only[hlf,hlent,cl,go_sem,rE,rA,e0,e3,e5,e8,g3,C.args,g5,CF.params,hga,hgp,CA.expr,CA.len,eX,mn,rL]
      refine bL (qc L e _ s.args[k].expr (aC _) (hoka.expr hlent) w hw) hE (by simp only[go_sem,rE,e0]) (.refl _) (fun _=>⟨_,_,rfl,rfl⟩) (by simp[dS]) ?_
      rintro q v1 VS1 NS1 H1 fp1 ⟨rfl,hv1⟩ hE1 hk1 hfp1
      have nf5:¬fp1 b5:=fun h=>(hfp1 b5 h).elim n5 (fun h=>by rw[g5]at h;simp at h)
      obtain⟨g3,n3⟩:=hk1 _ _ g3 n3
      obtain⟨g5,n5⟩:=hk1 _ _ g5 n5
      obtain⟨gt,n7⟩:=hk1 _ _ gt n7
      obtain⟨lk1,wf1⟩:=En.expr_good s.args[k].expr w hw
      rw[<-hv1]at lk1 hargs
      generalize(w.expr s.args[k].expr).2=t1 at*
      simp only[go_sem,rE,rA,e0,e3,e5,e8,g5,CF.params,hgp,jy,bf,cq,or_false,forall_eq,nf5,CP.len,CP.type,eX,mn,rL]
      refine bL (pZ L e v1 t1 f.params[k].type wf1) hE1 (rfl) (.refl _) (fun _=>⟨_,_,rfl,rfl⟩) trivial ?_
      rintro q v2 VS2 NS2 H2 fp2 ⟨rfl,hv2⟩ hE2 hk2 -
      obtain⟨g3,n3⟩:=hk2 _ _ g3 n3
      obtain⟨g5,n5⟩:=hk2 _ _ g5 n5
      obtain⟨gt,n7⟩:=hk2 _ _ gt n7
      rw[<-hv2]at hargs
      have lk2:w.like v2:=lk1.trans (hv2▸fh _ _ _)
      simp only[go_sem,rE,rA,e8,w1]
      refine⟨hk1',H2,⟨fun _ _ h=>h,fun _ h=>h⟩,v2,pl,VS2,NS2,bt,nt,mt,hE2,lk2.ok hw,by rw[lk2.names,hnm],by rw[lk2.len];exact hlw,by rw[lk2.len];omega,by omega,hargs,e0,e3,e5,e6,e7,rfl,g3,g5,gt,n3,n5,n7⟩
     ·rw[hlent]at hargs cl
      rw[if_pos rfl]at hargs
      simp only[hlf,hlent,cl,go_sem,rE,rA,e0,e3,e5,e8,g3,C.args,g5,CF.params,hga,hgp,CA.place,CA.len,eX,mn,rL]
      refine bL (pY L e w hw s.args[k].place hoka.path) hE (by simp only[go_sem,rE,e0,Pl.enc]) (.refl _) (fun _=>⟨_,_,rfl,rfl⟩) (by simp[dS]) ?_
      rintro q v1 VS1 NS1 H1 fp1 ⟨rfl,hv1⟩ hE1 hk1 hfp1
      have nf5:¬fp1 b5:=fun h=>(hfp1 b5 h).elim n5 (fun h=>by rw[g5]at h;simp at h)
      obtain⟨g3,n3⟩:=hk1 _ _ g3 n3
      obtain⟨g5,n5⟩:=hk1 _ _ g5 n5
      obtain⟨gt,n7⟩:=hk1 _ _ gt n7
      have lk1:w.like v1:=hv1▸w.use_like _
      have wf1:=jb hw s.args[k].place
      rw[<-hv1]at hargs
      generalize(w.use s.args[k].place).2=t1 at*
      simp only[go_sem,rE,rA,e0,e3,e5,e8,g5,CF.params,hgp,jy,bf,cq,or_false,forall_eq,nf5,CP.len,CP.type,eX,mn,rL]
      refine bL (pZ L e v1 t1 f.params[k].type wf1) hE1 (rfl) (.refl _) (fun _=>⟨_,_,rfl,rfl⟩) trivial ?_
      rintro q v2 VS2 NS2 H2 fp2 ⟨rfl,hv2⟩ hE2 hk2 -
      obtain⟨g3,n3⟩:=hk2 _ _ g3 n3
      obtain⟨g5,n5⟩:=hk2 _ _ g5 n5
      obtain⟨gt,n7⟩:=hk2 _ _ gt n7
      rw[<-hv2]at hargs
      have lk2:w.like v2:=lk1.trans (hv2▸fh _ _ _)
      have hl2:=lk2.len
      have ho2:=hE2.obj
      simp only[cZ]at ho2
      simp only[go_sem,rE,rA,e0,e3,e8,ho2,g3,C.args,hga,CA.place,CA.len,eX,mn,rL,ax,aq,az,bh]
      intro b9 hb9
      have hE3:=hE2.new hb9 (.tail 2 2)
      have d39:=al g3 hb9
      have d59:=al g5 hb9
      have dt9:=al gt hb9
      refine sR (rows:=v2.vars.map Vr.enc) (ys:=[[S (bl []),B true,B false,NIL,.sl 2 (some (b9,2,2)) [[S s.args[k].place.name,au s.args[k].place.path]],B false]]) (by simp only[go_sem,rE];exact hE3.vars) (rfl) (by simp) (by simp;omega) rfl ?_
      intro VS6 H6 fp6 hVS6 hkeep6 hblk6
      simp only[go_sem,rE]at hkeep6 hblk6
      obtain⟨g6e,hW,hk6⟩:=Ai (x:=cP s.args[k].place) hE3 hVS6 hkeep6 hblk6 (u7 _ _)
      obtain⟨g63,-,n63⟩:=hk6 b3 _ (by rw[ae _ _ d39];exact g3) n3
      obtain⟨g65,-,n65⟩:=hk6 b5 _ (by rw[ae _ _ d59];exact g5) n5
      obtain⟨g6t,-,n67⟩:=hk6 bt _ (by rw[ae _ _ dt9];exact gt) n7
      simp only[cZ]at g6e hW g63 g65 g6t
      simp only[go_sem,rE,rA,g6e,hVS6.one,rL]
      generalize H6.set e (.cells [AC.sl 12 none (v2.p.map Fu.enc),I v2.fn,VS6,NS2,I v2.code])=H7 at*
      simp only[go_sem,rE,rA,e3,e7,e8,g63,C.args,hga,CA.place,CA.len,eX,mn,rL,ax,aq,az,bh]
      refine dV (es:=pl.map Pl.enc) (ys:=[[S s.args[k].place.name,au s.args[k].place.path]]) (rfl) g6t (rfl) (by simp) (by simp;omega) ?_
      intro bt' nt' mt' H8 fp8 gt8 hkeep8 hbt8 _
      have keep8:∀d,aP e VS6 NS2 d->H8.get d=H7.get d:=by
       intro d hd
       have hne:H7.get d≠none:=by
        obtain⟨H0,hpw,-,hE0⟩:=hW
        exact fun hn=>hE0.mem hd ((hpw.dom d).1 hn)
       exact hkeep8 d hne (by rintro rfl;exact n67 hd)
      have hW8:=hW.mono keep8
      obtain⟨H9,hwk,hE9,hout9⟩:=hW8.wk
      have hin:∀b o,H7.get b=some o->b≠bt->¬aP e VS6 NS2 b->H9.get b=some o:=by
       intro b o hb hne hnb
       rw[hout9 b hnb,hkeep8 b (by rw[hb];simp) hne];exact hb
      have nt9:¬aP e VS6 NS2 bt':=by
       rcases hbt8 with rfl|h
       ·exact n67
       ·intro hd
        obtain⟨H0,hpw,-,hE0⟩:=hW
        exact hE0.mem hd ((hpw.dom _).1 h)
      have d3t:b3≠bt:=by rintro rfl;rw[g63]at g6t;simp at g6t
      have d5t:b5≠bt:=by rintro rfl;rw[g65]at g6t;simp at g6t
      simp only[go_sem,rE,rA,e8,w1]
      have hpush:(v2.push (cP s.args[k].place)).vars.length=v2.vars.length+1:=by simp[En.push]
      refine⟨hk1',H9,hwk,v2.push (cP s.args[k].place),pl++[s.args[k].place],VS6,NS2,bt',nt',mt',hE9,(lk2.ok hw).push (by omega) ⟨oN hoka.path,dN⟩,?_,by rw[hpush];omega,by rw[hpush];omega,by simp;omega,hargs,
       e0,e3,e5,e6,by simp[go_sem,Pl.enc],rfl,hin b3 _ g63 d3t n63,hin b5 _ g65 d5t n65,by rw[hout9 bt' nt9];exact gt8,n63,n65,nt9⟩
      show(v2.push (cP s.args[k].place)).names=v.names
      exact lk2.names.trans hnm
    ·have hb1:(!(s.args[k].lent==f.params[k].lent))=true:=by simp[hll]
     rw[if_pos (by simpa using hll)]at hargs
     simp only[hb1,go_sem,rE,rA,e0]
     refine bL (ru L e w 3) hE (by simp only[go_sem,rE,e0]) (.refl _) (by simp) trivial ?_
     rintro q v1 VS1 NS1 H1 fp1 ⟨rfl,hv1⟩ hE1 - -
     simp only[go_sem]
     rw[hargs]
     exact lX (aj.sub_refl _) ⟨v1,VS1,NS1,⟨rfl,hv1⟩,hE1⟩
   ·have hkk:k=s.args.length:=by omega
    subst hkk
    simp only[wp_exit,fl,dL,cC]
    rw[List.drop_of_length_le (by simp;omega),En.args]at hargs
    rw[hargs]
    exact stepGone _ _ w pl VS NS (some (bt,nt,mt)) hE hlw hw.len (by rw[hnm]) (e0) b5 (e3) (e5) (e6) (e7) g3 g5 n3 n5
  ·have hbne:((f.params.length:Int) !=s.args.length)=true:=bne_iff_ne.2 (by omega)
   have hlc:f.params.length≠s.args.length:=hlen
   rw[if_pos hlc]
   simp only[hbne,go_sem,rE,rA]
   refine bL (ru L e v 3) he5 (rfl) (.refl _) (by simp) trivial ?_
   rintro q v1 VS1 NS1 H1 fp1 ⟨rfl,hv1⟩ hE1 - -
   simp only[go_sem]
   exact lX (aj.sub_refl _) ⟨v1,VS1,NS1,⟨rfl,hv1⟩,hE1⟩
end
def fS(vs as bs:List Vr):List Vr:=vs.mapIdx fun i x=>{x with dead:=dj as i||dj bs i}
def En.join(v a b:En):En:=(({v with vars:=fS v.vars a.vars b.vars,names:=b.names}:En).fail0 a.code).fail0 b.code
mutual
noncomputable def En.stmt (v:En):St->En
 |.mk k n p o e f as t l=>
  if k=1 then(v.expr e).1.add ⟨n,false,false,(v.expr e).2,[],false⟩
  else if k=2 then(v.use p).1.add ⟨n,true,false,(v.use p).2,[p],false⟩
  else if k=3 then((v.expr e).1.use p).1.same ((v.expr e).1.use p).2 (v.expr e).2
  else if k=4 then v.call (.mk k n p o e f as t l)
  else if k=6 then v.pick (.mk k n p o e f as t l)
  else
   let w:=(v.expr e).1.num (v.expr e).2
   let a:=w.body t
   w.join a (({w with names:=a.names}:En).body l)
termination_by x=>SizeOf.sizeOf x
noncomputable def En.body (v:En):List St->En
 |[]=>v
 |s::l=>if v.code=0 then(v.stmt s).body l else v
termination_by x=>SizeOf.sizeOf x
end
noncomputable def En.fork(v:En)(s:St):En:=v.join (v.body s.thn) (({v with names:=(v.body s.thn).names}:En).body s.els)
theorem En.stmt_eq(v:En)(s:St):v.stmt s=if s.kind=1 then(v.expr s.expr).1.add ⟨s.name,false,false,(v.expr s.expr).2,[],false⟩
 else if s.kind=2 then(v.use s.place).1.add ⟨s.name,true,false,(v.use s.place).2,[s.place],false⟩
 else if s.kind=3 then((v.expr s.expr).1.use s.place).1.same ((v.expr s.expr).1.use s.place).2 (v.expr s.expr).2
 else if s.kind=4 then v.call s else if s.kind=6 then v.pick s else((v.expr s.expr).1.num (v.expr s.expr).2).fork s:=by
 obtain⟨k,n,p,o,e,f,as,t,l⟩:=s
 rw[En.stmt.eq_def];rfl
theorem iu(v:En):v.body []=v:=by rw[En.body.eq_def]
theorem iz(v:En)(s:St)(l:List St):v.body (s::l)=if v.code=0 then(v.stmt s).body l else v:=by rw[En.body.eq_def]
mutual
def St.cnt:St->Nat
 |.mk _ _ _ _ _ _ as t l=>1+as.length+bx t+bx l
def bx:List St->Nat
 |[]=>0
 |s::l=>s.cnt+bx l
end
theorem dy(s:St):s.cnt=1+s.args.length+bx s.thn+bx s.els:=by cases s;rw[St.cnt];rfl
theorem eS:bx []=0:=by rw[bx]
theorem cY(s:St)(l:List St):bx (s::l)=s.cnt+bx l:=by rw[bx]
theorem iZ:∀l:List St,l.length<=bx l
 |[]=>by simp
 |s::l=>by rw[cY,dy,aV];have:=iZ l;omega
inductive St.ok:St->Prop where
 |mk {k:Int} {n:ByteArray} {p o:Pl} {e:Ex} {f:ByteArray} {as:List Ag} {t l:List St} (hp:p.path.length<=2^20) (ho:o.path.length<=2^20) (he:k≠2->k≠4->e.ok) (ha:∀a∈as,a.ok)
  (ht:∀x∈t,St.ok x) (hl:∀x∈l,St.ok x):St.ok (.mk k n p o e f as t l)
theorem St.ok.get{s:St}(h:s.ok):s.place.path.length<=2^20/\s.other.path.length<=2^20/\(s.kind≠2->s.kind≠4->s.expr.ok)/\(∀a∈s.args,a.ok)/\(∀x∈s.thn,x.ok)/\∀x∈s.els,x.ok:=by
 cases h with
 |mk h1 h2 h3 h4 h5 h6=>exact⟨h1,h2,h3,h4,h5,h6⟩
structure En.step(v w:En)(n:Nat):Prop where
 p:w.p=v.p
 fn:w.fn=v.fn
 lo:v.vars.length<=w.vars.length
 hi:w.vars.length<=v.vars.length+n
 names:w.names.length<=v.names.length+n
 ok:w.ok
theorem En.step.refl{v:En}(h:v.ok):v.step v 0:=⟨rfl,rfl,aC _,aC _,aC _,h⟩
theorem En.step.trans{u v w:En}{n m:Nat}(h:u.step v n)(h':v.step w m):u.step w (n+m):=
 ⟨h'.p.trans h.p,h'.fn.trans h.fn,bZ h.lo h'.lo,by have:=h.hi;have:=h'.hi;omega,by have:=h.names;have:=h'.names;omega,h'.ok⟩
theorem En.step.mono{v w:En}{n m:Nat}(h:v.step w n)(hm:n<=m):v.step w m:=⟨h.p,h.fn,h.lo,by have:=h.hi;omega,by have:=h.names;omega,h.ok⟩
theorem En.like.step{v w:En}(h:v.like w)(ho:v.ok):v.step w 0:=⟨h.p,h.fn,by rw[h.len];exact aC _,by rw[h.len];exact aC _,by rw[h.names];exact aC _,h.ok ho⟩
theorem En.step.add{v w:En}{n:Nat}(h:v.step w n)(hl:v.vars.length+n+1<=2^20){x:Vr}(hx:x.ok/\x.type.wf):v.step (w.add x) (n+1):=by
 have hh:=h.hi
 have hlo:=h.lo
 have hn:=h.names
 refine⟨h.p,h.fn,by simp[En.add];omega,by simp[En.add];omega,by simp[En.add];omega,⟨by simp[En.add];omega,fun y hy=>?_⟩⟩
 simp only[En.add,aF,cn]at hy
 rcases hy with hy|rfl
 ·exact h.ok.all y hy
 ·exact hx
theorem mX:∀(l:List (Pa×Ag)) (v:En) (pl:List Pl),v.ok->v.vars.length+l.length<=2^20->(∀x∈l,x.2.ok)->
 v.step (v.args l pl).1 l.length/\(v.args l pl).1.names=v.names/\∀q,(v.args l pl).2=some q->q.length<=pl.length+l.length/\∀r∈q,r∈pl\/r.path.length<=2^20
 |[],v,pl,h,hl,ha=>⟨.refl h,rfl,fun q hq=>by simp[En.args]at hq;subst hq;exact⟨by simp,fun r hr=>.inl hr⟩⟩
 |(p,a)::l,v,pl,h,hl,ha=>by
  simp only[aV]at hl
  have hoka:=ha (p,a) (by simp)
  rw[En.args]
  by_cases h1:a.lent≠p.lent
  ·rw[if_pos h1]
   exact⟨(jp v 3).step h|>.mono (by simp),rfl,fun q hq=>by simp at hq⟩
  ·rw[if_neg h1]
   by_cases h2:a.lent=true
   ·rw[if_pos h2]
    have hs:=((v.use_like a.place).trans (fh _ (v.use a.place).2 p.type))
    have ho:=hs.ok h
    have hpush:=ho.push (x:=cP a.place) (by rw[hs.len];omega) ⟨oN hoka.path,dN⟩
    obtain⟨i1,i2,i3⟩:=mX l _ (pl++[a.place]) hpush (by simp only[En.push,bq,aV,bP,hs.len];omega) (fun x hx=>ha x (by simp[hx]))
    refine⟨?_,i2.trans hs.names,fun q hq=>?_⟩
    ·have s1:v.step (((v.use a.place).1.same (v.use a.place).2 p.type).push (cP a.place)) 1:=
      ⟨hs.p,hs.fn,by simp only[En.push,bq,hs.len];omega,by simp only[En.push,bq,aV,bP,hs.len];omega,by simp only[En.push,hs.names];omega,hpush⟩
     exact(s1.trans i1).mono (by simp;omega)
    ·obtain⟨j1,j2⟩:=i3 q hq
     refine⟨by simp at j1⊢;omega,fun r hr=>?_⟩
     rcases j2 r hr with h|h
     ·rcases aF.1 h with h|h
      ·exact .inl h
      ·simp at h;subst h;exact .inr hoka.path
     ·exact .inr h
   ·rw[if_neg h2]
    obtain⟨g1,g2⟩:=En.expr_good a.expr v h
    have hs:=g1.trans (fh _ (v.expr a.expr).2 p.type)
    obtain⟨i1,i2,i3⟩:=mX l _ pl (hs.ok h) (by rw[hs.len];omega) (fun x hx=>ha x (by simp[hx]))
    exact⟨((hs.step h).trans i1).mono (by simp),i2.trans hs.names,fun q hq=>by obtain⟨j1,j2⟩:=i3 q hq;exact⟨by simp;omega,j2⟩⟩
theorem En.ok.pop{v:En}(h:v.ok)(n:Nat):(v.pop n).ok:=⟨by simp[En.pop];have:=h.len;omega,fun x hx=>h.all x (bJ hx)⟩
theorem wh{v:En}{s:St}(h:v.ok)(hl:v.vars.length+s.args.length+1<=2^20)(ha:∀a∈s.args,a.ok)(hp:∀f∈v.p,f.okS):v.step (v.call s) (s.args.length+1):=by
 unfold En.call
 split
 ·exact((jp v 2).step h).mono (by omega)
 ·split
  ·exact(En.step.refl h).mono (by omega)
  ·rename_i f hf
   have hfo:=hp f (ba hf)
   split
   ·exact((jp v 3).step h).mono (by omega)
   ·rename_i hlen
    have hlen:f.params.length=s.args.length:=by simpa using hlen
    have hz:(f.params.zip s.args).length=s.args.length:=by simp;omega
    obtain⟨i1,i2,i3⟩:=mX (f.params.zip s.args) v [] h (by rw[hz];omega) (fun x hx=>ha _ (List.of_mem_zip hx).2)
    rw[hz]at i1 i3
    split
    ·rename_i w hw
     rw[hw]at i1
     exact i1.mono (by omega)
    ·rename_i w pl hw
     rw[hw]at i1 i2 i3
     simp only at i1 i2 i3
     obtain⟨j1,j2⟩:=i3 pl rfl
     have hg:(w.gone v.vars.length).vars=w.vars:=by unfold En.gone;split<;>rfl
     have hg2:(w.gone v.vars.length).names=w.names:=by unfold En.gone;split<;>rfl
     have hg3:(w.gone v.vars.length).p=w.p:=by unfold En.gone;split<;>rfl
     have hg4:(w.gone v.vars.length).fn=w.fn:=by unfold En.gone;split<;>rfl
     have hgo:(w.gone v.vars.length).ok:=by unfold En.gone;split;exact(jp _ _).ok i1.ok;exact i1.ok
     have hlo:=i1.lo
     have s1:v.step ((w.gone v.vars.length).pop v.vars.length) 0:=by
      refine⟨hg3.trans i1.p,hg4.trans i1.fn,?_,?_,?_,hgo.pop _⟩
      ·simp only[En.pop,hg,bk];omega
      ·simp only[En.pop,hg,bk];omega
      ·simp only[En.pop,hg2,i2];omega
     refine(s1.add (by omega) ⟨⟨?_,?_⟩,hfo.type⟩).mono (by omega)
     ·simp only;split
      ·simp at j1;omega
      ·simp
     ·intro q hq
      simp only at hq
      split at hq
      ·exact(j2 q hq).resolve_left (by simp)
      ·simp at hq
theorem vZ{v:En}{s:St}(h:v.ok)(hl:v.vars.length+1<=2^20)(hp:s.place.path.length<=2^20)(ho:s.other.path.length<=2^20):v.step (v.pick s) 1:=by
 obtain⟨g1,g2⟩:=En.expr_good s.expr v h
 have l1:=(g1.trans (En.num_like _ (v.expr s.expr).2)).trans (En.use_like _ s.place)
 have l2:((((v.expr s.expr).1.num (v.expr s.expr).2).use s.place).1.push (cP s.place)).like _:=(En.use_like _ s.other).trans (fh _ (((((v.expr s.expr).1.num (v.expr s.expr).2).use s.place).1.push (cP s.place)).use s.other).2 (((v.expr s.expr).1.num (v.expr s.expr).2).use s.place).2)
 have wf:(((v.expr s.expr).1.num (v.expr s.expr).2).use s.place).2.wf:=jb ((g1.trans (En.num_like _ (v.expr s.expr).2)).ok h) s.place
 simp only[En.pick]
 generalize(((v.expr s.expr).1.num (v.expr s.expr).2).use s.place).2=t at*
 generalize(((v.expr s.expr).1.num (v.expr s.expr).2).use s.place).1=u at*
 generalize((u.push (cP s.place)).use s.other).1.same ((u.push (cP s.place)).use s.other).2 t=w at*
 have l3:(u.push (cP s.place)).like (if dj w.vars u.vars.length then w.fail 4 else w):=by
  split
  ·exact l2.trans (jp _ _)
  ·exact l2
 generalize(if dj w.vars u.vars.length then w.fail 4 else w)=w' at*
 have okp:=(l1.ok h).push (x:=cP s.place) (by rw[l1.len];exact hl) ⟨oN hp,dN⟩
 have hlw:w'.vars.length=u.vars.length+1:=by rw[l3.len];simp[En.push]
 have hlu:=l1.len
 have s1:v.step (w'.pop u.vars.length) 0:=by
  refine⟨l3.p.trans l1.p,l3.fn.trans l1.fn,?_,?_,?_,(l3.ok okp).pop _⟩
  ·simp only[En.pop,bk];omega
  ·simp only[En.pop,bk];omega
  ·simp only[En.pop,l3.names,En.push,l1.names];omega
 exact s1.add (by omega) ⟨⟨by simp,by simp;exact⟨hp,ho⟩⟩,wf⟩
theorem pQ(vs as bs:List Vr):(fS vs as bs).length=vs.length:=by simp[fS]
theorem Am{vs as bs:List Vr}(h:∀x∈vs,x.ok/\x.type.wf):∀x∈fS vs as bs,x.ok/\x.type.wf:=by
 intro x hx
 obtain⟨i,hi,rfl⟩:=bj.1 hx
 simp only[fS,List.length_mapIdx]at hi
 simp only[fS,List.getElem_mapIdx]
 obtain⟨⟨h1,h2⟩,h3⟩:=h _ (ay hi)
 exact⟨⟨h1,h2⟩,h3⟩
theorem wa{v a b:En}(h:v.ok){n:Nat}(hn:b.names.length<=v.names.length+n):v.step (v.join a b) n:=by
 have hl:=h.len
 refine⟨rfl,rfl,by simp[En.join,En.fail0,pQ],by simp[En.join,En.fail0,pQ],hn,⟨by simp[En.join,En.fail0,pQ];exact hl,?_⟩⟩
 exact Am h.all
theorem En.stmt_step:∀(n:Nat),(∀(s:St),s.cnt<=n->s.ok->∀v:En,v.ok->v.vars.length+s.cnt<=2^20->(∀f∈v.p,f.okS)->v.step (v.stmt s) s.cnt)/\
 (∀(l:List St),bx l<=n->(∀s∈l,s.ok)->∀v:En,v.ok->v.vars.length+bx l<=2^20->(∀f∈v.p,f.okS)->v.step (v.body l) (bx l)):=by
 intro n
 induction n with
 |zero=>
  refine⟨fun s hs=>by rw[dy]at hs;omega,fun l hl hok v hv hle hp=>?_⟩
  have:l=[]:=by
   cases l with
   |nil=>rfl
   |cons s l=>rw[cY,dy]at hl;omega
  subst this
  rw[iu,eS];exact .refl hv
 |succ n ih=>
  have stm:∀(s:St),s.cnt<=n+1->s.ok->∀v:En,v.ok->v.vars.length+s.cnt<=2^20->(∀f∈v.p,f.okS)->v.step (v.stmt s) s.cnt:=by
   intro s hs hok v hv hle hp
   rw[dy]at hs hle⊢
   obtain⟨h1,h2,h3,h4,h5,h6⟩:=hok.get
   rw[En.stmt_eq]
   obtain⟨g1,g2⟩:=En.expr_good s.expr v hv
   by_cases k1:s.kind=1
   ·rw[if_pos k1];exact((g1.step hv).add (by omega) ⟨⟨by simp,by simp⟩,g2⟩).mono (by omega)
   rw[if_neg k1]
   by_cases k2:s.kind=2
   ·rw[if_pos k2];exact(((v.use_like s.place).step hv).add (by omega) ⟨⟨by simp,by simp;exact h1⟩,jb hv s.place⟩).mono (by omega)
   rw[if_neg k2]
   by_cases k3:s.kind=3
   ·rw[if_pos k3];exact(((g1.trans (En.use_like _ s.place)).trans (fh _ _ _)).step hv).mono (by omega)
   rw[if_neg k3]
   by_cases k4:s.kind=4
   ·rw[if_pos k4];exact(wh hv (by omega) h4 hp).mono (by omega)
   rw[if_neg k4]
   by_cases k6:s.kind=6
   ·rw[if_pos k6];exact(vZ hv (by omega) h1 h2).mono (by omega)
   rw[if_neg k6]
   have hw:=g1.trans (En.num_like _ (v.expr s.expr).2)
   generalize(v.expr s.expr).1.num (v.expr s.expr).2=w at*
   have hwl:=hw.len
   have ha:=ih.2 s.thn (by omega) h5 w (hw.ok hv) (by omega) (by rw[hw.p];exact hp)
   have hb:=ih.2 s.els (by omega) h6 {w with names:=(w.body s.thn).names} (by obtain⟨q1,q2⟩:=hw.ok hv;exact⟨q1,q2⟩) (by simp only;omega) (by simp only;rw[hw.p];exact hp)
   have n1:=ha.names
   have n2:=hb.names
   have:=wa (a:=w.body s.thn) (b:=({w with names:=(w.body s.thn).names}:En).body s.els) (hw.ok hv) (n:=bx s.thn+bx s.els) (by simp only at n2;omega)
   exact(((hw.step hv).trans this)).mono (by omega)
  refine⟨stm,fun l=>?_⟩
  induction l with
  |nil=>intro hl hok v hv hle hp;rw[iu,eS];exact .refl hv
  |cons s l ihl=>
   intro hl hok v hv hle hp
   rw[cY]at hl hle⊢
   rw[iz]
   split
   ·have h1:=stm s (by omega) (hok s (by simp)) v hv (by omega) hp
    have h2:=h1.hi
    exact h1.trans (ihl (by omega) (fun x hx=>hok x (by simp[hx])) _ h1.ok (by omega) (by rw[h1.p];exact hp))
   ·exact(En.step.refl hv).mono (by omega)
theorem bF.sub{H H1:aj}{e:Nat}{v:En}{VS NS:AC}(h:bF H e v VS NS)(hs:H.sub H1):bF H1 e v VS NS:=by
 refine h.mono fun d hd=>?_
 obtain⟨o,ho⟩:=aJ.1 (h.mem hd)
 rw[ho];exact hs _ _ ho
theorem bF.keep{H H1:aj}{e:Nat}{v:En}{VS NS:AC}{T T1:Nat->Prop}(h:bF H e v VS NS)(hk:∀b o,H.get b=some o->¬T b->H1.get b=some o/\¬T1 b)(hd:∀d,aP e VS NS d->¬T d):
 bF H1 e v VS NS/\∀d,aP e VS NS d->¬T1 d:=by
 have key:∀d,aP e VS NS d->∃o,H.get d=some o/\H1.get d=some o/\¬T1 d:=by
  intro d hd'
  obtain⟨o,ho⟩:=aJ.1 (h.mem hd')
  obtain⟨h1,h2⟩:=hk d o ho (hd d hd')
  exact⟨o,ho,h1,h2⟩
 exact⟨h.mono fun d hd'=>by obtain⟨o,h1,h2,-⟩:=key d hd';rw[h1,h2],fun d hd'=>by obtain⟨o,-,-,h3⟩:=key d hd';exact h3⟩
def oS(vs:List Vr)(i:Nat)(c:Bool):List Vr:=vs.modify i fun v=>{v with dead:=c}
theorem rf(vs:List Vr)(i:Nat)(c:Bool):(oS vs i c).length=vs.length:=by simp[oS]
theorem Av(vs:List Vr)(i:Nat)(c:Bool):(oS vs i c).map Vr.enc=(vs.map Vr.enc).modify i fun r=>r.set 5 (B c):=by
 unfold oS
 apply gd
 intro k
 simp only[cA,List.getElem?_modify]
 cases vs[k]? with
 |none=>rfl
 |some v=>by_cases h:i=k<;>simp[h,Vr.enc]
theorem Bg{vs:List Vr}{cs:List AC}(c:Bool)(hcs:cs.take ((vs.map Vr.enc).length*6)=(vs.map Vr.enc).flatten){i:Nat}(hi:i<vs.length):
 (bH cs (i*6+5) [B c]).length=cs.length/\(bH cs (i*6+5) [B c]).take (((oS vs i c).map Vr.enc).length*6)=((oS vs i c).map Vr.enc).flatten:=by
 have hlen:=dD (ys:=vs.map Vr.enc) (sz:=6) (by simp[Vr.enc])
 have h1:i*6+5<(vs.map Vr.enc).length*6:=by simp;omega
 have h2:(vs.map Vr.enc).length*6<=cs.length:=by
  have:=congrArg List.length hcs
  rw[hlen,bk]at this;omega
 rw[sL _ (by omega)]
 refine⟨by simp,?_⟩
 have h3:((oS vs i c).map Vr.enc).length=(vs.map Vr.enc).length:=by simp[rf]
 rw[h3,List.take_set,hcs,Av,sT (sz:=6) _ _ _ _ (by simp[Vr.enc]) (by omega)]
theorem zg{H:aj}{e:Nat}{v:En}{NS:AC}{vb vc i:Nat}{cs:List AC}(c:Bool)(h:bF H e v (.lit (.slice (some ⟨vb,0,none⟩) v.vars.length vc)) NS)(hi:i<v.vars.length)(hr:xR H v.vars i vb vc cs hi):
 bF (H.set vb (.cells (bH cs (i*6+5) [B c]))) e {v with vars:=oS v.vars i c} (.lit (.slice (some ⟨vb,0,none⟩) v.vars.length vc)) NS:=by
 obtain⟨k1,k2⟩:=Bg c hr.all hi
 have hne:e≠vb:=by rintro rfl;exact iL h.obj h.vars ⟨_,_,rfl⟩
 refine⟨by rw[ae _ _ hne];exact h.obj,.inr ⟨vb,vc,_,by simp[rf],ai _ _ _,by rw[k1];exact hr.len,by simp[rf];exact hr.cap,k2⟩,h.names.set hr.get _⟩
def fQ(vs as bs:List Vr)(n:Nat):List Vr:=vs.mapIdx fun i x=>if i<n then {x with dead:=dj as i||dj bs i}else x
theorem rJ(vs as bs:List Vr)(n:Nat):(fQ vs as bs n).length=vs.length:=by simp[fQ]
theorem vw(vs as bs:List Vr):fQ vs as bs 0=vs:=by
 apply gd
 intro k
 simp[fQ]
theorem wO(vs as bs:List Vr):fQ vs as bs vs.length=fS vs as bs:=by
 apply List.ext_getElem (by simp[fQ,fS])
 intro k h1 h2
 have:k<vs.length:=by simpa[fQ]using h1
 simp[fQ,fS,this]
theorem vz(vs as bs:List Vr)(n:Nat):fQ vs as bs (n+1)=oS (fQ vs as bs n) n (dj as n||dj bs n):=by
 apply gd
 intro k
 simp only[oS,fQ,List.getElem?_modify,List.getElem?_mapIdx]
 cases vs[k]? with
 |none=>rfl
 |some v=>
  by_cases h:n=k
  ·subst h;simp
  ·have:(k<n+1)=(k<n):=by apply propext;omega
   simp[h,this]
section
variable {P:Program}{F:Ids}
theorem nP(L:Lib P F){K:Env->aj->Prop}{xs:List aN}{E:Env}{H:aj}{l:Lds}{f:Fps}{i:Nat}{args:List aI}{d:Option Nat}{e:Nat}{v:En}{VS NS:AC}(hE:bF H e v VS NS)
(hl:v.vars.length<=2^30)(hn:v.names.length<=2^30)(ha:args.map (aI.ev E)=[.ptr e 0])
(h:∀a VS' NS' H1 fp,bF H1 a v VS' NS'->H.sub H1->(∀d,aP a VS' NS' d->H.get d=none)->bw P false K xs (E.put d (.ptr a 0)) H1 l ((i,fp)::f)):
 bw P false K (⟨i,d,none,.eff (.call F.s_l3Env_copy args),[]⟩::xs) E H l f:=by
 refine gH (aP e VS NS) (Cv L e v VS NS (H.only (aP e VS NS)) hE.only hl hn) ha (.refl _) (by simp) trivial ?_
 rintro q H' H1 ⟨a,VS',NS',rfl,hE',hsame,hnew⟩ hsub hafter hn2 -
 refine h a VS' NS' H1 _ (hE'.sub hsub) (fun b o hb=>?_) (fun d hd=>?_)
 ·by_cases hS:aP e VS NS b
  ·refine hsub b o ?_
   rw[hsame b (by rw[bm hS,hb];simp),bm hS];exact hb
  ·rw[hafter.out b hS (by rw[hb];simp)];exact hb
 ·rcases hn2 d (hE'.mem hd)with h|h
  ·have:=hnew d hd
   rw[bm h]at this;exact this
  ·exact h
theorem e_fork(L:Lib P F)(e:Nat)(v:En)(s:St)(hv:v.ok)(hl:v.vars.length+bx s.thn+bx s.els<=2^20)(hn:v.names.length+bx s.thn+bx s.els<=2^20)(hne:0<v.vars.length)(hs:s.ok)
(hp:∀f∈v.p,f.okS)
(hbody:∀(a:Nat) (l:List St),(l=s.thn\/l=s.els)->∀w:En,w.ok->w.p=v.p->w.fn=v.fn->w.vars.length=v.vars.length->w.names.length+bx l<=2^20->jN P F.s_l3Env_body [.ptr a 0,.sl 15 none (St.encs l)] a w fun q v'=>q=.tup []/\v'=w.body l):
 jN P F.s_l3Env_fork [.ptr e 0,.agg s.enc] e v fun q v'=>q=.tup []/\v'=v.fork s:=by
 intro H VS NS hE
 refine L.s_l3Env_fork (by simp[kK]) ?_
 obtain⟨cs3,hcs3,C⟩:=stC s
 obtain⟨h1,h2,h3,h4,h5,h6⟩:=hs.get
 have hvl:=hv.len
 rw[hcs3]
 simp only[kK,go_sem,rE,rA]
 intro b3 hb3
 have hE3:=hE.new hb3 (.cells cs3)
 have n3:=hE.notin hb3
 have g3:(H.set b3 (.cells cs3)).get b3=some (.cells cs3):=ai _ _ _
 refine nP L hE3 (by omega) (by omega) (rfl) ?_
 intro a VSa NSa H1 fp hEa hs1 hnew
 have hE1:=hE3.sub hs1
 have dis1:∀d,aP e VS NS d->¬aP a VSa NSa d:=fun d hd hd'=>hE3.mem hd (hnew d hd')
 have na3:¬aP a VSa NSa b3:=fun h=>by have:=hnew b3 h;rw[g3]at this;simp at this
 have g3:=hs1 _ _ g3
 clear hnew hs1 hE3 hE
 simp only[go_sem,rE,rA,g3,C.thn]
 refine bL (hbody a s.thn (.inl rfl) v hv rfl rfl rfl (by omega)) hEa (rfl) (.refl _) (by simp) trivial ?_
 rintro q va VSa NSa H2 fp2 ⟨rfl,hva⟩ hEa hk2 -
 obtain⟨hE2,dis2⟩:=hE1.keep hk2 dis1
 obtain⟨g3,na3⟩:=hk2 _ _ g3 na3
 have sa:=(En.stmt_step (bx s.thn)).2 s.thn (aC _) h5 v hv (by omega) hp
 rw[<-hva]at sa
 clear hk2 dis1 hE1
 simp only[go_sem,rE,rA]
 refine nP L hE2 (by omega) (by omega) (rfl) ?_
 intro b VSb NSb H3 fp hEb hs3 hnew
 have hE3:=hE2.sub hs3
 have hEa3:=hEa.sub hs3
 have disb:∀d,aP e VS NS d->¬aP b VSb NSb d:=fun d hd hd'=>hE2.mem hd (hnew d hd')
 have disab:∀d,aP a VSa NSa d->¬aP b VSb NSb d:=fun d hd hd'=>hEa.mem hd (hnew d hd')
 have nb3:¬aP b VSb NSb b3:=fun h=>by have:=hnew b3 h;rw[g3]at this;simp at this
 have g3:=hs3 _ _ g3
 clear hnew hs3 hE2 hEa
 have hoa:=hEa3.obj
 have hob:=hEb.obj
 simp only[cZ]at hoa hob
 simp only[go_sem,rE,rA]
 intro b16 hb16
 have hne16a:=hEa3.ne hb16
 have hne16b:=hEb.ne hb16
 simp only[go_sem,rE,rA,hne16a,hoa]
 refine dV (es:=[]) (ys:=a9 va.names) (rfl) (ai _ _ _) (by simp only[go_sem,rE];exact hEa3.names.elems) (by simp[a9]) (by have:=sa.names;simp[a9];omega) ?_
 intro bt nt mt H4 fp4 hbt hkeep4 hbt16 _
 have hbtn:H3.get bt=none:=by
  rcases hbt16 with rfl|h
  ·exact hb16
  ·by_cases hbb:bt=b16
   ·subst hbb;exact hb16
   ·rw[ae _ _ hbb]at h;exact h
 have hs4:H3.sub H4:=by
  intro d o hd
  have hd16:d≠b16:=by rintro rfl;rw[hb16]at hd;simp at hd
  rw[hkeep4 d (by rw[ae _ _ hd16,hd];simp) hd16,ae _ _ hd16];exact hd
 have hEb4:=hEb.sub hs4
 have ob4:=hs4 _ _ hob
 simp only[go_sem,rE,rA,ob4,rL]
 have hbtb:bt≠b:=by rintro rfl;rw[hob]at hbtn;simp at hbtn
 have hEb5:bF (H4.set b (cZ v.p v.fn VSb (.sl 1 (some (bt,nt,mt)) (a9 va.names)) v.code)) b {v with names:=va.names} VSb (.sl 1 (some (bt,nt,mt)) (a9 va.names)):=by
  refine⟨ai _ _ _,eN.mono hEb4.vars fun d hd=>ae _ _ (by rintro rfl;exact iL hEb4.obj hEb4.vars hd),.inr ⟨bt,nt,mt,rfl,?_⟩⟩
  rw[ae _ _ hbtb];exact hbt
 have inb:∀d,aP b VSb (.sl 1 (some (bt,nt,mt)) (a9 va.names)) d->aP b VSb NSb d\/H3.get d=none:=by
  rintro d (h|h|⟨_,_,_,_,h⟩)
  ·exact .inl (.inl h)
  ·exact .inl (.inr (.inl h))
  ·simp at h;exact .inr (h.2.1.1▸hbtn)
 have keep5:∀{d o},H3.get d=some o->¬aP b VSb NSb d->(H4.set b (cZ v.p v.fn VSb (.sl 1 (some (bt,nt,mt)) (a9 va.names)) v.code)).get d=some o/\¬aP b VSb (.sl 1 (some (bt,nt,mt)) (a9 va.names)) d:=by
  intro d o hd hn
  refine⟨by rw[ae _ _ (fun h=>hn (.inl h))];exact hs4 _ _ hd,fun h=>?_⟩
  rcases inb d h with h|h
  ·exact hn h
  ·rw[hd]at h;simp at h
 obtain⟨hE5,dis5⟩:=hE3.keep (fun b o h1 h2=>keep5 h1 h2) disb
 obtain⟨hEa5,disa5⟩:=hEa3.keep (fun b o h1 h2=>keep5 h1 h2) disab
 obtain⟨g3,nb3⟩:=keep5 g3 nb3
 simp only[cZ]at hEb5 hE5 hEa5 g3
 clear keep5 inb hEb4 hs4 hkeep4 hE3 hEa3 hEb
 generalize H4.set b (.cells [AC.sl 12 none (v.p.map Fu.enc),I v.fn,VSb,.sl 1 (some (bt,nt,mt)) (a9 va.names),I v.code])=H5 at*
 simp only[go_sem,rE,rA,g3,C.els]
 have san:=sa.names
 refine bL (hbody b s.els (.inr rfl) {v with names:=va.names} (by obtain⟨q1,q2⟩:=hv;exact⟨q1,q2⟩) rfl rfl rfl (by simp only;omega)) hEb5 (rfl) (.refl _) (by simp) trivial ?_
 rintro q vb VSb NSb H6 fp6 ⟨rfl,hvb⟩ hEb6 hk6 -
 obtain⟨hE6,dis6⟩:=hE5.keep hk6 dis5
 obtain⟨hEa6,disa6⟩:=hEa5.keep hk6 disa5
 have disae:∀d,aP e VS NS d->¬aP a VSa NSa d:=dis2
 have sb:=(En.stmt_step (bx s.els)).2 s.els (aC _) h6 {v with names:=va.names} (by obtain⟨q1,q2⟩:=hv;exact⟨q1,q2⟩) (by simp only;omega) hp
 rw[<-hvb]at sb
 have hfork:v.fork s=v.join va vb:=by simp only[En.fork,<-hva,<-hvb]
 rw[hfork]
 clear hk6 hEb5 hEa5 hE5 dis5 disa5
 have sal:=sa.lo
 have sbl:=sb.lo
 simp only at sbl
 have dnb:b≠e:=by rintro rfl;exact dis6 _ (.inl rfl) (.inl rfl)
 have dna:a≠e:=by rintro rfl;exact disae _ (.inl rfl) (.inl rfl)
 simp only[go_sem,rE,rA]
 obtain⟨eb,ec,ecs,rfl,er⟩:=hE6.vars.row (i:=0) hne
 have hlim:v.vars.length<=LIM:=by simp only[LIM];omega
 let At:=fun(H:aj)=>bF H a va VSa NSa/\bF H b vb VSb NSb
 refine aT v.vars.length (fun i E H=>bF H e {v with vars:=fQ v.vars va.vars vb.vars i} (AC.lit (Value.slice (some {block:=eb,off:=0}) v.vars.length ec)) NS/\bF H a va VSa NSa/\bF H b vb VSb NSb/\E 0=.ptr e 0/\E 4=.ptr a 0/\E 5=.ptr b 0/\E 6=I i)
  ⟨by rw[vw];exact hE6,hEa6,hEb6,rfl,rfl,rfl,rfl⟩ ?_
 clear hE6 hEa6 hEb6 g3
 rintro i E H hi ⟨hE6,hEa6,hEb6,e0,e4,e5,e6⟩
 have hob:=hE6.obj
 have hoa:=hEa6.obj
 have hobb:=hEb6.obj
 simp only[cZ]at hob hoa hobb
 simp only[wp_seq,go_sem,rE,rA,e0,e6,hob,hlim]
 refine aG (fun hlt=>?_) (fun hge=>?_)
 ·have hi1:i<v.vars.length:=by omega
  have him:i<(fQ v.vars va.vars vb.vars i).length:=by rw[rJ];exact hi1
  obtain⟨eb',ec',ecs',heq,er⟩:=hE6.vars.row him
  simp only[AC.lit.injEq,Value.slice.injEq,Option.some.injEq,Addr.mk.injEq,true_and,and_true]at heq
  obtain⟨rfl,-,rfl⟩:=heq
  obtain⟨ab,ac,acs,rfl,ar⟩:=hEa6.vars.row (i:=i) (by omega)
  obtain⟨bb,bc,bcs,rfl,br⟩:=hEb6.vars.row (i:=i) (by omega)
  have hda:dj va.vars i=va.vars[i].dead:=by simp only[dj,av (show i<va.vars.length by omega)]
  have hdb:dj vb.vars i=vb.vars[i].dead:=by simp only[dj,av (show i<vb.vars.length by omega)]
  have w1:=aL (n:=(i:Int)+1) (by omega) (by omega)
  have l1:(i:Int)<va.vars.length:=by omega
  have l2:(i:Int)<vb.vars.length:=by omega
  have next:∀(c:Bool),c=(dj va.vars i||dj vb.vars i)->(bF (H.set eb (.cells (bH ecs' (i*6+5) [B c]))) e {v with vars:=fQ v.vars va.vars vb.vars (i+1)} (AC.lit (Value.slice (some {block:=eb,off:=0}) v.vars.length ec)) NS/\
   bF (H.set eb (.cells (bH ecs' (i*6+5) [B c]))) a va (AC.lit (Value.slice (some {block:=ab,off:=0}) va.vars.length ac)) NSa/\bF (H.set eb (.cells (bH ecs' (i*6+5) [B c]))) b vb (AC.lit (Value.slice (some {block:=bb,off:=0}) vb.vars.length bc)) NSb):=by
   intro c hc
   have hlen:(fQ v.vars va.vars vb.vars i).length=v.vars.length:=rJ _ _ _ _
   have h1:=zg (v:={v with vars:=fQ v.vars va.vars vb.vars i}) c (by simp only[hlen];exact hE6) him er
   simp only[hlen]at h1
   refine⟨by rw[vz,<-hc];exact h1,hEa6.mono fun d hd=>ae _ _ (by rintro rfl;exact disae _ (.inr (.inl ⟨_,_,rfl⟩)) hd),hEb6.mono fun d hd=>ae _ _ (by rintro rfl;exact dis6 _ (.inr (.inl ⟨_,_,rfl⟩)) hd)⟩
  cases hc:va.vars[i].dead
  ·have ad:=ar.dead
   rw[hc]at ad
   simp only[go_sem,rE,rA,e0,e4,e5,e6,hob,hoa,hobb,l1,l2,hlt,ar.get,ad,br.get,br.dead,er.get,w1]
   obtain⟨q1,q2,q3⟩:=next vb.vars[i].dead (by rw[hda,hdb,hc];rfl)
   exact⟨by have:=er.off;omega,hi1,_,aj.sub_refl _,q1,q2,q3,rfl⟩
  ·have ad:=ar.dead
   rw[hc]at ad
   simp only[go_sem,rE,rA,e0,e4,e5,e6,hob,hoa,hobb,l1,l2,hlt,ar.get,ad,br.get,br.dead,er.get,w1]
   obtain⟨q1,q2,q3⟩:=next true (by rw[hda,hdb,hc];rfl)
   exact⟨by have:=er.off;omega,hi1,_,aj.sub_refl _,q1,q2,q3,rfl⟩
 ·have hii:i=v.vars.length:=by omega
  subst hii
  simp only[wp_exit,fl,dL,cC]
  rw[wO]at hE6
  have hns:=hEb6.names.one
  simp only[go_sem,rE,rA,e0,e4,e5,hob,hobb,hoa,hns,rL,dna,dnb]
  have hE7:bF (H.set e (cZ v.p v.fn (AC.lit (Value.slice (some {block:=eb,off:=0}) v.vars.length ec)) NSb v.code)) e {v with vars:=fS v.vars va.vars vb.vars,names:=vb.names} (AC.lit (Value.slice (some {block:=eb,off:=0}) v.vars.length ec)) NSb:=by
   refine⟨ai _ _ _,eN.mono hE6.vars fun d hd=>ae _ _ (by rintro rfl;exact iL hE6.obj hE6.vars hd),hEb6.names.set hob _⟩
  have gb7:(H.set e (cZ v.p v.fn (AC.lit (Value.slice (some {block:=eb,off:=0}) v.vars.length ec)) NSb v.code)).get b=some (.cells [AC.sl 12 none (vb.p.map Fu.enc),I vb.fn,VSb,NSb,I vb.code]):=by rw[ae _ _ dnb];exact hobb
  have nb7:¬aP e (AC.lit (Value.slice (some {block:=eb,off:=0}) v.vars.length ec)) NSb b:=by
   rintro(h|h|⟨_,_,_,_,h⟩)
   ·exact dnb h
   ·exact dis6 _ (.inr (.inl h)) (.inl rfl)
   ·have:=hEb6.names
    rcases this with⟨-,h'⟩|⟨b',n',m',h',hb'⟩
    ·rw[h]at h';simp at h'
    ·rw[h]at h';simp at h';rw[<-h'.2.1.1,hobb]at hb';simp at hb'
  simp only[cZ]at hE7 gb7
  have ga7:(H.set e (cZ v.p v.fn (AC.lit (Value.slice (some {block:=eb,off:=0}) v.vars.length ec)) NSb v.code)).get a=some (.cells [AC.sl 12 none (va.p.map Fu.enc),I va.fn,VSa,NSa,I va.code]):=by rw[ae _ _ dna];exact hoa
  simp only[cZ]at ga7
  generalize H.set e (.cells [AC.sl 12 none (v.p.map Fu.enc),I v.fn,AC.lit (Value.slice (some {block:=eb,off:=0}) v.vars.length ec),NSb,I v.code])=H7 at*
  generalize hu:({v with vars:=fS v.vars va.vars vb.vars,names:=vb.names}:En)=u at*
  have hjoin:v.join va vb=(u.fail0 va.code).fail0 vb.code:=by rw[<-hu];rfl
  rw[hjoin]
  have fin:∀(E:Env) (H:aj) (VS NS:AC),bF H e (u.fail0 va.code) VS NS->E 0=.ptr e 0->E 5=.ptr b 0->H.get b=some (.cells [AC.sl 12 none (vb.p.map Fu.enc),I vb.fn,VSb,NSb,I vb.code])->
   aX.wp P (rg [mv 0 80 0,mv 1 81 5,nc 2 82 81,fa 3 83 4 82,ld 4 84 none 83,ca 5 85 F.s_l3Env_fail0 [80,84]]) (aD.post [] fun q H'=>∃v' VS' NS',(q=.tup []/\v'=(u.fail0 va.code).fail0 vb.code)/\bF H' e v' VS' NS') E H:=by
   intro E H VS NS hE e0 e5 gb
   simp only[go_sem,rE,rA,e0,e5,gb]
   refine bL (e_fail0 L e (u.fail0 va.code) vb.code) hE (rfl) (.refl _) (by simp) trivial ?_
   rintro q v9 VS9 NS9 H9 fp9 ⟨rfl,hv9⟩ hE9 - -
   simp only[lF]
   exact di (aj.sub_refl _) ⟨v9,VS9,NS9,⟨rfl,hv9⟩,hE9⟩
  refine aG (fun hgt=>?_) (fun hle=>?_)
  ·simp only[go_sem,rE,rA,e0,e4,ga7]
   refine bL (ru L e u va.code) hE7 (rfl) (.refl _) (by simp) trivial ?_
   rintro q v8 VS8 NS8 H8 fp8 ⟨rfl,hv8⟩ hE8 hk8 -
   obtain⟨gb8,-⟩:=hk8 _ _ gb7 nb7
   have:v8=u.fail0 va.code:=by rw[hv8];simp only[En.fail,En.fail0];rw[if_pos (by omega)]
   subst this
   simp only[lF,cC]
   exact fin _ _ _ _ hE8 (e0) (e5) gb8
  ·have:u.fail0 va.code=u:=by simp only[En.fail0];rw[if_neg (by omega)]
   rw[this]at fin⊢
   simp only[wp_skip,cC]
   exact fin _ _ _ _ hE7 (e0) (e5) gb7
end
section
variable {P:Program}{F:Ids}
def C3(P:Program)(F:Ids)(n:Nat):Prop:=∀(e:Nat) (s:St),s.cnt<=n->s.ok->∀v:En,v.ok->v.vars.length+s.cnt<=2^20->v.names.length+s.cnt<=2^20->0<v.vars.length->(∀f∈v.p,f.okS)->v.p.length<=2^20->v.fn<=2^20->
 jN P F.s_l3Env_stmt [.ptr e 0,.agg s.enc] e v fun q v'=>q=.tup []/\v'=v.stmt s
def CB(P:Program)(F:Ids)(n:Nat):Prop:=∀(e:Nat) (l:List St),bx l<=n->(∀s∈l,s.ok)->∀v:En,v.ok->v.vars.length+bx l<=2^20->v.names.length+bx l<=2^20->0<v.vars.length->(∀f∈v.p,f.okS)->v.p.length<=2^20->v.fn<=2^20->
 jN P F.s_l3Env_body [.ptr e 0,.sl 15 none (St.encs l)] e v fun q v'=>q=.tup []/\v'=v.body l
theorem kx:∀(l:List St) (k:Nat),bx (l.take k)+bx (l.drop k)=bx l
 |[],k=>by simp[eS]
 |s::l,0=>by simp[eS]
 |s::l,k+1=>by simp only[List.take_succ_cons,gE,cY];have:=kx l k;omega
theorem BX(L:Lib P F)(n:Nat)(h:C3 P F n):CB P F n:=by
 intro e l hl hok v hv hvl hnl hne hp hpl hfn H VS NS hE
 refine L.s_l3Env_body (by simp[kR]) ?_
 have hll:=iZ l
 simp only[kR,go_sem,rE]
 refine aT l.length (fun k E H=>∃(w:En) (VS NS:AC),bF H e w VS NS/\v.body l=w.body (l.drop k)/\v.step w (bx (l.take k))/\E 0=.ptr e 0/\E 1=.sl 15 none (St.encs l)/\E 4=I k)
  ⟨v,VS,NS,hE,by simp,by simp[eS];exact .refl hv,rfl,rfl,rfl⟩ ?_
 rintro k E H hk ⟨w,VS,NS,hE,hb,hs,e0,e1,e4⟩
 have hob:=hE.obj
 simp only[cZ]at hob
 simp only[go_sem,rE,rA,e0,e1,e4,St.encs_map,am]
 have stop:∀(E:Env),(l.drop k=[]\/w.code≠0)->aD.post [] (fun q H'=>∃v' VS' NS',(q=AC.tup []/\v'=v.body l)/\bF H' e v' VS' NS') .normal E H:=by
  intro E hor
  refine di (aj.sub_refl _) ⟨w,VS,NS,⟨rfl,?_⟩,hE⟩
  rw[hb]
  rcases hor with h|h
  ·rw[h,iu]
  ·cases l.drop k with
   |nil=>rw[iu]
   |cons s l'=>rw[iz,if_neg h]
 by_cases hlt:k<l.length
 ·have hlt':(k:Int)<l.length:=by omega
  have hg:(l.map St.enc)[k]?=some l[k].enc:=by simp[hlt]
  obtain⟨cs,hcs,C⟩:=stC l[k]
  rw[hcs]at hg
  simp only[go_sem,rE,rA,hlt',e0,hob]
  by_cases hc:w.code=0
  ·have hc':(w.code==0)=true:=by simpa using hc
   have hd:l.drop k=l[k]::l.drop (k+1):=bU hlt
   have hsplit:=kx l k
   rw[hd,cY]at hsplit
   have w1:=aL (n:=(k:Int)+1) (by omega) (by omega)
   have hlo:=hs.lo
   have hhi:=hs.hi
   have hnn:=hs.names
   simp only[go_sem,rE,rA,hc',e0,e1,e4,hg,C.len,C.all,St.encs_map]
   refine bL (h e l[k] (by omega) (hok _ (ay hlt)) w hs.ok (by omega) (by omega) (by omega) (by rw[hs.p];exact hp) (by rw[hs.p];exact hpl) (by rw[hs.fn];exact hfn)) hE (by simp only[go_sem,rE,hcs]) (.refl _) (by simp) trivial ?_
   rintro q w2 VS2 NS2 H2 fp2 ⟨rfl,hw2⟩ hE2 - -
   simp only[go_sem,rE,rA,e4,w1]
   refine⟨hlt,H2,aj.sub_refl _,w2,VS2,NS2,hE2,?_,?_,e0,by simp[go_sem,e1,St.encs_map],by simp⟩
   ·rw[hb,hd,iz,if_pos hc,hw2]
   ·have st:=(En.stmt_step (l[k].cnt)).1 l[k] (aC _) (hok _ (ay hlt)) w hs.ok (by omega) (by rw[hs.p];exact hp)
    rw[<-hw2]at st
    have htk:bx (l.take (k+1))=bx (l.take k)+l[k].cnt:=by
     have:=kx l (k+1)
     have:=kx l k
     rw[hd,cY]at this
     omega
    rw[htk]
    exact hs.trans st
  ·have hc':(w.code==0)=false:=by simpa using hc
   simp only[go_sem,rE,rA,hc']
   exact stop _ (.inr hc)
 ·have hlt':¬(k:Int)<l.length:=by omega
  simp only[go_sem,rE,rA,hlt']
  exact stop _ (.inl (List.drop_of_length_le (by omega)))
theorem e_stmt1(L:Lib P F)(n:Nat)(hbody:CB P F n):C3 P F (n+1):=by
 intro e s hs hok v hv hvl hnl hne hp hpl hfn H VS NS hE
 obtain⟨h1,h2,h3,h4,h5,h6⟩:=hok.get
 rw[dy]at hs hvl hnl
 refine L.s_l3Env_stmt (by simp[kG]) ?_
 obtain⟨cs3,hcs3,C⟩:=stC s
 rw[hcs3]
 simp only[kG,go_sem,rE,rA,C.kind]
 intro b3 hb3
 have hE3:=hE.new hb3 (.cells cs3)
 have n3:=hE.notin hb3
 have g3:(H.set b3 (.cells cs3)).get b3=some (.cells cs3):=ai _ _ _
 generalize H.set b3 (.cells cs3)=H1 at*
 clear hE hb3
 rw[En.stmt_eq]
 by_cases k1:s.kind=1
 ·have c1:(s.kind==1)=true:=by simpa using k1
  rw[if_pos k1]
  simp only[c1,go_sem,rE,rA,g3,C.len,rL,C.expr]
  refine bL (qc L e _ s.expr (aC _) (h3 (by omega) (by omega)) v hv) hE3 (rfl) (.refl _) (by simp) trivial ?_
  rintro q v1 VS1 NS1 H2 fp ⟨rfl,hv1⟩ hE1 hk1 -
  obtain⟨g3,n3⟩:=hk1 _ _ g3 n3
  obtain⟨lk1,wf1⟩:=En.expr_good s.expr v hv
  rw[<-hv1]at lk1⊢
  generalize(v.expr s.expr).2=t at*
  simp only[go_sem,rE,rA,Ty.enc_eq t]
  intro b4 hb4
  have d34:=al g3 hb4
  have hl1:=lk1.len
  have hn1:=lk1.names
  simp only[go_sem,rE,rA,d34,g3,C.name,rL]
  refine bL (as':=[.ptr e 0,.agg [S s.name,B false,B false,.sl 1 none (Ty.encs t.kids),NIL,B false]]) (xq L e v1 (by omega) (by rw[hn1];omega) ⟨s.name,false,false,t,[],false⟩) (hE1.new hb4 _) (rfl)
   ⟨.refl _,.agg ⟨⟨.refl _,rfl⟩,⟨.refl _,rfl⟩,⟨.refl _,rfl⟩,⟨.refl _,rfl⟩,⟨.nil 2,rfl⟩,⟨.refl _,rfl⟩,trivial⟩,trivial⟩ (by simp) trivial ?_
  rintro q v2 VS2 NS2 H3 fp2 ⟨rfl,hv2⟩ hE2 - -
  simp only[go_sem]
  exact di (aj.sub_refl _) ⟨v2,VS2,NS2,⟨rfl,hv2⟩,hE2⟩
 have c1:(s.kind==1)=false:=by simpa using k1
 rw[if_neg k1]
 by_cases k2:s.kind=2
 ·have c2:(s.kind==2)=true:=by simpa using k2
  rw[if_pos k2]
  simp only[c1,c2,go_sem,rE,rA,g3,C.len,rL,C.place]
  refine bL (pY L e v hv s.place h1) hE3 (by simp only[go_sem,rE,Pl.enc]) (.refl _) (by simp) trivial ?_
  rintro q v1 VS1 NS1 H2 fp ⟨rfl,hv1⟩ hE1 hk1 -
  obtain⟨g3,n3⟩:=hk1 _ _ g3 n3
  have lk1:v.like v1:=hv1▸v.use_like _
  rw[<-hv1]
  generalize(v.use s.place).2=t at*
  simp only[go_sem,rE,rA,Ty.enc_eq t]
  intro b4 hb4
  have d34:=al g3 hb4
  have hl1:=lk1.len
  have hn1:=lk1.names
  have hE4:=hE1.new hb4 (.cells [.sl 1 none (Ty.encs t.kids)])
  simp only[go_sem,rE,rA,d34,g3,C.name,C.len,C.place,rL,ax,aq,az,bh]
  intro b5 hb5
  refine bL (as':=[.ptr e 0,.agg [S s.name,B true,B false,.sl 1 none (Ty.encs t.kids),.sl 2 (some (b5,2,2)) [[S s.place.name,au s.place.path]],B false]]) (xq L e v1 (by omega) (by rw[hn1];omega) ⟨s.name,true,false,t,[s.place],false⟩) (hE4.new hb5 _) (rfl)
   ⟨.refl _,.agg ⟨⟨.refl _,rfl⟩,⟨.refl _,rfl⟩,⟨.refl _,rfl⟩,⟨.refl _,rfl⟩,⟨.tok _ _ _,rfl⟩,⟨.refl _,rfl⟩,trivial⟩,trivial⟩ (by simp) trivial ?_
  rintro q v2 VS2 NS2 H3 fp2 ⟨rfl,hv2⟩ hE2 - -
  simp only[go_sem]
  exact di (aj.sub_refl _) ⟨v2,VS2,NS2,⟨rfl,hv2⟩,hE2⟩
 have c2:(s.kind==2)=false:=by simpa using k2
 rw[if_neg k2]
 by_cases k3:s.kind=3
 ·have c3:(s.kind==3)=true:=by simpa using k3
  rw[if_pos k3]
  simp only[c1,c2,c3,go_sem,rE,rA,g3,C.len,rL,C.expr]
  refine bL (qc L e _ s.expr (aC _) (h3 (by omega) (by omega)) v hv) hE3 (rfl) (.refl _) (by simp) trivial ?_
  rintro q v1 VS1 NS1 H2 fp ⟨rfl,hv1⟩ hE1 hk1 -
  obtain⟨g3,n3⟩:=hk1 _ _ g3 n3
  obtain⟨lk1,wf1⟩:=En.expr_good s.expr v hv
  rw[<-hv1]at lk1⊢
  generalize(v.expr s.expr).2=t at*
  simp only[go_sem,rE,rA,Ty.enc_eq t]
  intro b4 hb4
  have n4:=hE1.notin hb4
  have d34:=al g3 hb4
  have hE4:=hE1.new hb4 (.cells [.sl 1 none (Ty.encs t.kids)])
  have g4:(H2.set b4 (.cells [.sl 1 none (Ty.encs t.kids)])).get b4=some (.cells [.sl 1 none (Ty.encs t.kids)]):=ai _ _ _
  simp only[go_sem,rE,rA,d34,g3,C.place,C.len,rL]
  refine bL (pY L e v1 (lk1.ok hv) s.place h1) hE4 (by simp only[go_sem,rE,Pl.enc]) (.refl _) (fun _=>⟨_,_,rfl,rfl⟩) (by simp[dS]) ?_
  rintro q v2 VS2 NS2 H3 fp2 ⟨rfl,hv2⟩ hE2 hk2 hfp2
  have nf4:¬fp2 b4:=fun h=>(hfp2 b4 h).elim n4 (fun h=>by rw[g4]at h;simp at h)
  obtain⟨g4,n4⟩:=hk2 _ _ g4 n4
  have wf2:=jb (lk1.ok hv) s.place
  rw[<-hv2]
  generalize(v1.use s.place).2=u at*
  simp only[go_sem,rE,rA,g4,jy,bf,cq,or_false,forall_eq,nf4,rL]
  refine bL (pZ L e v2 u t wf2) hE2 (by simp only[go_sem,rE,Ty.enc_eq t]) (.refl _) (fun _=>⟨_,_,rfl,rfl⟩) trivial ?_
  rintro q v3 VS3 NS3 H4 fp3 ⟨rfl,hv3⟩ hE3 - -
  simp only[go_sem]
  exact di (aj.sub_refl _) ⟨v3,VS3,NS3,⟨rfl,hv3⟩,hE3⟩
 have c3:(s.kind==3)=false:=by simpa using k3
 rw[if_neg k3]
 by_cases k4:s.kind=4
 ·have c4:(s.kind==4)=true:=by simpa using k4
  rw[if_pos k4]
  simp only[c1,c2,c3,c4,go_sem,rE,rA,g3,C.len,rL,C.all]
  refine bL (e_call L e v s hv (by omega) (by omega) hne h4 hp hpl hfn) hE3 (by simp only[go_sem,rE,hcs3]) (.refl _) (by simp) trivial ?_
  rintro q v3 VS3 NS3 H4 fp3 ⟨rfl,hv3⟩ hE3 - -
  simp only[go_sem]
  exact di (aj.sub_refl _) ⟨v3,VS3,NS3,⟨rfl,hv3⟩,hE3⟩
 have c4:(s.kind==4)=false:=by simpa using k4
 rw[if_neg k4]
 by_cases k6:s.kind=6
 ·have c6:(s.kind==6)=true:=by simpa using k6
  rw[if_pos k6]
  simp only[c1,c2,c3,c4,c6,go_sem,rE,rA,g3,C.len,rL,C.all]
  refine bL (e_pick L e v s hv (by omega) (by omega) hne (h3 (by omega) (by omega)) h1 h2) hE3 (by simp only[go_sem,rE,hcs3]) (.refl _) (by simp) trivial ?_
  rintro q v3 VS3 NS3 H4 fp3 ⟨rfl,hv3⟩ hE3 - -
  simp only[go_sem]
  exact di (aj.sub_refl _) ⟨v3,VS3,NS3,⟨rfl,hv3⟩,hE3⟩
 have c6:(s.kind==6)=false:=by simpa using k6
 rw[if_neg k6]
 simp only[c1,c2,c3,c4,c6,go_sem,rE,rA,g3,C.len,rL,C.expr]
 refine bL (qc L e _ s.expr (aC _) (h3 (by omega) (by omega)) v hv) hE3 (rfl) (.refl _) (by simp) trivial ?_
 rintro q v1 VS1 NS1 H2 fp ⟨rfl,hv1⟩ hE1 hk1 -
 obtain⟨g3,n3⟩:=hk1 _ _ g3 n3
 obtain⟨lk1,wf1⟩:=En.expr_good s.expr v hv
 rw[<-hv1]at lk1⊢
 generalize(v.expr s.expr).2=t at*
 refine bL (e_num L e v1 t) hE1 (rfl) (.refl _) (by simp) trivial ?_
 rintro q v2 VS2 NS2 H3 fp2 ⟨rfl,hv2⟩ hE2 hk2 -
 obtain⟨g3,n3⟩:=hk2 _ _ g3 n3
 have lk2:v.like v2:=lk1.trans (hv2▸En.num_like _ _)
 rw[<-hv2]
 have hl2:=lk2.len
 have hn2:=lk2.names
 simp only[go_sem,rE,rA,g3,C.len,rL,C.all]
 refine bL (e_fork L e v2 s (lk2.ok hv) (by omega) (by rw[hn2];omega) (by omega) hok (by rw[lk2.p];exact hp) ?_) hE2 (by simp only[go_sem,rE,hcs3]) (.refl _) (by simp) trivial ?_
 ·intro a l hll w hw hwp hwf hwl hwn
  have hc:bx l<=n/\(∀x∈l,x.ok)/\w.vars.length+bx l<=2^20:=by
   rcases hll with rfl|rfl
   ·exact⟨by omega,h5,by omega⟩
   ·exact⟨by omega,h6,by omega⟩
  exact hbody a l hc.1 hc.2.1 w hw hc.2.2 hwn (by omega) (by rw[hwp,lk2.p];exact hp) (by rw[hwp,lk2.p];exact hpl) (by rw[hwf,lk2.fn];exact hfn)
 ·rintro q v3 VS3 NS3 H4 fp3 ⟨rfl,hv3⟩ hE3 - -
  simp only[go_sem]
  exact di (aj.sub_refl _) ⟨v3,VS3,NS3,⟨rfl,hv3⟩,hE3⟩
theorem vF(L:Lib P F):∀n,C3 P F n
 |0=>by intro e s hs;rw[dy]at hs;omega
 |n+1=>e_stmt1 L n (BX L n (vF L n))
theorem zF(L:Lib P F)(n:Nat):CB P F n:=BX L n (vF L n)
end
def Pa.vr(x:Pa):Vr:=⟨x.name,x.lent,true,x.type,[],false⟩
def En.givens(v:En):List Pa->En
 |[]=>v
 |x::l=>(v.add x.vr).givens l
def co(p:Pg)(fn:Nat):En:=match p[fn]? with
 |some f=>(⟨p,fn,[],[],0⟩:En).givens f.params
 |none=>⟨p,fn,[],[],0⟩
theorem lz:∀(l:List Pa) (v:En),(v.givens l).p=v.p/\(v.givens l).fn=v.fn/\(v.givens l).vars=v.vars++l.map Pa.vr/\(v.givens l).names=v.names++l.map (fun x=>x.name)
 |[],v=>by simp[En.givens]
 |x::l,v=>by
  obtain⟨h1,h2,h3,h4⟩:=lz l (v.add x.vr)
  refine⟨h1,h2,?_,?_⟩
  ·rw[En.givens,h3];simp[En.add]
  ·rw[En.givens,h4];simp[En.add,Pa.vr]
section
variable {P:Program}{F:Ids}
theorem c_start(L:Lib P F)(p:Pg)(fn:Nat)(hfn:fn<p.length)(hpl:p.length<=2^20)(hpa:(p[fn]).params.length<=2^20):
 bD P F.s_l3Start [.agg (Pg.enc p),I fn] .empty fun q H'=>∃a VS NS,q=.ptr a 0/\bF H' a (co p fn) VS NS:=by
 refine L.s_l3Start (by simp[nz]) ?_
 simp only[nz,go_sem,rE,rA,Pg.enc,rL]
 intro b2 hb2 a ha
 have d2a:b2≠a:=al (ai _ _ _) ha
 obtain⟨cf,hcf,CF⟩:=fuC p[fn]
 have hgf:(p.map Fu.enc)[fn]?=some cf:=by rw[<-hcf];simp[hfn]
 have hst:co p fn=(⟨p,fn,[],[],0⟩:En).givens p[fn].params:=by simp only[co,av hfn]
 rw[hst]
 generalize p[fn]=f at*
 have hE0:bF ((aj.empty.set b2 (.cells [.sl 12 none (p.map Fu.enc)])).set a (cZ p fn NIL NIL 0)) a ⟨p,fn,[],[],0⟩ NIL NIL:=⟨ai _ _ _,.inl ⟨rfl,rfl⟩,.inl ⟨rfl,rfl⟩⟩
 refine aT f.params.length (fun k E H=>∃w VS NS,bF H a w VS NS/\(⟨p,fn,[],[],0⟩:En).givens f.params=w.givens (f.params.drop k)/\w.vars.length=k/\w.names.length=k/\E 1=I fn/\E 2=.ptr b2 0/\E 5=.ptr a 0/\E 6=I k/\
  H.get b2=some (.cells [.sl 12 none (p.map Fu.enc)])/\¬aP a VS NS b2)
  ⟨_,NIL,NIL,hE0,by simp,rfl,rfl,rfl,rfl,rfl,rfl,by rw[ae _ _ d2a,ai],by
   rintro(h|⟨_,_,h⟩|⟨_,_,_,_,h⟩)
   ·exact d2a h
   ·simp at h
   ·simp at h⟩ ?_
 clear hE0
 rintro k E H hk ⟨w,VS,NS,hE,hg,hwl,hwn,e1,e2,e5,e6,g2,n2⟩
 simp only[wp_seq,go_sem,rE,rA,e1,e2,e5,e6,g2,hgf,CF.len,CF.params,am]
 have cfp:(cf.drop 1)[0]?=some (.sl 3 none (f.params.map Pa.enc)):=by rw[bC];exact CF.params
 simp only[wp_seq,go_sem,rE,rA,e1,e2,e5,e6,g2,hgf,CF.len,cfp,am]
 refine aG (fun hlt=>?_) (fun hge=>?_)
 ·have hk1:k<f.params.length:=by omega
  obtain⟨cp,hcp,CP⟩:=paC f.params[k]
  have hgp:(f.params.map Pa.enc)[k]?=some cp:=by rw[<-hcp];simp[hk1]
  have w1:=aL (n:=(k:Int)+1) (by omega) (by omega)
  simp only[go_sem,rE,rA,e1,e2,e5,e6,g2,hgf,cfp,hgp,CP.len,CP.all,CP.name,CP.lent,CP.type,rL]
  intro b7 hb7
  simp only[go_sem,rE,rA,e5,e6,CP.len,CP.all,CP.name,CP.lent,CP.type,cX,rL,Ty.enc_eq f.params[k].type]
  refine bL (as':=[.ptr a 0,.agg [S f.params[k].name,B f.params[k].lent,B true,.sl 1 none (Ty.encs f.params[k].type.kids),NIL,B false]]) (xq L a w (by omega) (by omega) f.params[k].vr) (hE.new hb7 _) (by simp only[go_sem,rE,e5])
   ⟨.refl _,.agg ⟨⟨.refl _,rfl⟩,⟨.refl _,rfl⟩,⟨.refl _,rfl⟩,⟨.refl _,rfl⟩,⟨.nil 2,rfl⟩,⟨.refl _,rfl⟩,trivial⟩,trivial⟩ (by simp) trivial ?_
  rintro q w2 VS2 NS2 H2 fp2 ⟨rfl,hw2⟩ hE2 hk2 -
  obtain⟨g2,n2⟩:=hk2 b2 (.cells [.sl 12 none (p.map Fu.enc)]) (by rw[ae _ _ (al g2 hb7)];exact g2) n2
  simp only[go_sem,rE,rA,e6,w1]
  refine⟨hk1,H2,aj.sub_refl _,w2,VS2,NS2,hE2,?_,by rw[hw2];simp[En.add,hwl],by rw[hw2];simp[En.add,hwn],e1,e2,e5,by simp,g2,n2⟩
  rw[hg,bU hk1,En.givens,hw2]
 ·have hkk:k=f.params.length:=by omega
  subst hkk
  simp only[go_sem,rE,rA,e5]
  rw[l8,En.givens]at hg
  rw[hg]
  exact gK ⟨a,VS,NS,rfl,hE⟩
end
def oP(vs:List Vr):Nat->Pl->Bool
 |0,p=>false
 |n+1,p=>match fW vs p.name with
  |none=>false
  |some i=>match vs[i]? with
   |none=>false
   |some x=>x.lent&&(x.param||x.loans.all (oP vs n))
def En.outside(v:En)(p:Pl):Bool:=oP v.vars v.vars.length p
def Up(vs:List Vr):Prop:=∀i (h:i<vs.length),∀q∈vs[i].loans,∃j,fW vs q.name=some j/\j<i
theorem ve{vs:List Vr}{n:ByteArray}{i:Nat}(h:fW vs n=some i):i<vs.length:=by
 obtain⟨h,-⟩:=bQ.1 h;exact h
section
variable {P:Program}{F:Ids}
theorem e_outN(L:Lib P F)(e:Nat)(v:En)(hl:v.vars.length<=2^20)(ho:∀x∈v.vars,x.ok)(hup:Up v.vars):∀(n:Nat) (p:Pl),(∀i,fW v.vars p.name=some i->i<n)->
 jN P F.s_l3Env_outside [.ptr e 0,.agg p.enc] e v fun q v'=>q=B (oP v.vars n p)/\v'=v:=by
 intro n
 induction n with
 |zero=>
  intro p hp H VS NS hE
  have hi:fW v.vars p.name=none:=by
   cases h:fW v.vars p.name with
   |none=>rfl
   |some i=>have:=hp i h;omega
  refine L.s_l3Env_outside (by simp[fA]) ?_
  simp only[fA,go_sem,rE,Pl.enc]
  intro b3 hb3
  refine bL (yG L e v (by omega) p.name) (hE.new hb3 _) (rfl) (.refl _) (by simp) trivial ?_
  rintro q w VS1 NS1 H1 fp ⟨rfl,hw⟩ hE1 hk1 -
  subst hw
  simp only[go_sem,rE,rA,sE,hi,Int.reduceLT]
  exact ak (q':=B (oP w.vars 0 p)) (by simp only[go_sem,rE,oP];exact .refl _) (aj.sub_refl _) ⟨w,VS1,NS1,⟨rfl,rfl⟩,hE1⟩
 |succ n ih=>
  intro p hp H VS NS hE
  refine L.s_l3Env_outside (by simp[fA]) ?_
  simp only[fA,go_sem,rE,Pl.enc]
  intro b3 hb3
  refine bL (yG L e v (by omega) p.name) (hE.new hb3 _) (rfl) (.refl _) (by simp) trivial ?_
  rintro q w VS1 NS1 H1 fp ⟨rfl,hw⟩ hE1 hk1 -
  subst hw
  clear hE hk1
  simp only[go_sem,rE,rA,sE]
  cases hi:fW w.vars p.name with
  |none=>
   simp only[go_sem,rE,rA,Int.reduceLT]
   exact ak (q':=B (oP w.vars (n+1) p)) (by simp only[go_sem,rE,oP,hi];exact .refl _) (aj.sub_refl _) ⟨w,VS1,NS1,⟨rfl,rfl⟩,hE1⟩
  |some i=>
   have hil:=ve hi
   have hin:=hp i hi
   have hge:¬(i:Int)<0:=by omega
   have hlt:(i:Int)<w.vars.length:=by omega
   have hvi:w.vars[i]?=some w.vars[i]:=av hil
   have hout:oP w.vars (n+1) p=(w.vars[i].lent&&(w.vars[i].param||w.vars[i].loans.all (oP w.vars n))):=by simp only[oP,hi,hvi]
   rw[hout]
   obtain⟨vb,vc,cs,rfl,hr⟩:=hE1.vars.row hil
   have hob:=hE1.obj
   simp only[cZ]at hob
   have ll:=(ho _ (ay hil)).loans
   have r1:=hr.lent
   have r2:=hr.param
   cases h1:w.vars[i].lent
   ·rw[h1]at r1
    simp only[go_sem,rE,rA,hge,hob,hlt,hr.get,r1]
    exact ak (q':=B false) (by simp only[go_sem,rE];exact .refl _) (aj.sub_refl _) ⟨w,_,NS1,⟨by simp,rfl⟩,hE1⟩
   ·rw[h1]at r1
    cases h2:w.vars[i].param
    ·rw[h2]at r2
     simp only[go_sem,rE,rA,hge,hob,hlt,hr.get,r1,r2]
     clear hr hob r1 r2
     refine aT w.vars[i].loans.length (fun k E H=>∃VS NS,bF H e w VS NS/\(w.vars[i].loans.take k).all (oP w.vars n)=true/\E 0=.ptr e 0/\E 5=I i/\E 6=I k) ⟨_,NS1,hE1,by simp,rfl,rfl,rfl⟩ ?_
     clear hE1
     rintro k E H hk ⟨VS,NS,hE1,hall,e0,e5,e6⟩
     obtain⟨vb,vc,cs,rfl,hr⟩:=hE1.vars.row hil
     have hob:=hE1.obj
     simp only[cZ]at hob
     simp only[wp_seq,go_sem,rE,rA,e0,e5,e6,hob,hlt,hr.get,hr.loans,am]
     refine aG (fun hltk=>?_) (fun hgek=>?_)
     ·have hk1:k<w.vars[i].loans.length:=by omega
      have w1:=aL (n:=(k:Int)+1) (by omega) (by omega)
      obtain⟨j0,hj0,hji⟩:=hup i hil _ (ay hk1)
      simp only[go_sem,rE,rA,e0,e5,e6,hob,hlt,hr.get,hr.loans,qC hk1,rL]
      refine bL (ih w.vars[i].loans[k] (fun j hj=>by rw[hj0]at hj;cases hj;omega)) hE1 (by simp only[go_sem,rE,Pl.enc]) (.refl _) (by simp) trivial ?_
      rintro q w' VS2 NS2 H2 fp2 ⟨rfl,hw'⟩ hE2 - -
      subst hw'
      cases ho:oP w'.vars n w'.vars[i].loans[k]
      ·simp only[go_sem,rE,rA]
       refine ak (q':=B false) (by simp only[go_sem,rE];exact .refl _) (aj.sub_refl _) ⟨w',VS2,NS2,⟨?_,rfl⟩,hE2⟩
       have:w'.vars[i].loans.all (oP w'.vars n)=false:=by
        rw[du]
        exact⟨_,ay hk1,by simp[ho]⟩
       simp[this]
      ·simp only[go_sem,rE,rA,e6,w1]
       refine⟨hk1,H2,aj.sub_refl _,VS2,NS2,hE2,?_,e0,e5,by simp⟩
       rw[aA hk1,eG,hall]
       simp[ho]
     ·have hkk:k=w.vars[i].loans.length:=by omega
      subst hkk
      rw[aU]at hall
      simp only[go_sem,rE,rA]
      exact ak (q':=B true) (by simp only[go_sem,rE];exact .refl _) (aj.sub_refl _) ⟨w,_,NS,⟨by simp[hall],rfl⟩,hE1⟩
    ·rw[h2]at r2
     simp only[go_sem,rE,rA,hge,hob,hlt,hr.get,r1,r2]
     exact ak (q':=B true) (by simp only[go_sem,rE];exact .refl _) (aj.sub_refl _) ⟨w,_,NS1,⟨by simp,rfl⟩,hE1⟩
theorem uD(L:Lib P F)(e:Nat)(v:En)(hl:v.vars.length<=2^20)(ho:∀x∈v.vars,x.ok)(hup:Up v.vars)(p:Pl):
 jN P F.s_l3Env_outside [.ptr e 0,.agg p.enc] e v fun q v'=>q=B (v.outside p)/\v'=v:=e_outN L e v hl ho hup _ p fun i hi=>ve hi
end
theorem hZ{c d:Int}(hd:d≠0)(h:dx c d=0):c=0/\False:=by unfold dx at h;split at h<;>simp_all
theorem gx{v:En}{c:Int}(hc:c≠0):(v.fail c).code≠0:=fun h=>(hZ hc h).2
theorem En.num_code{v:En}{t:Ty}(h:(v.num t).code=0):v.code=0:=by
 simp only[En.num]at h;split at h
 ·exact h
 ·exact(hZ (by decide) h).1
theorem En.same_code{v:En}{a t:Ty}(h:(v.same a t).code=0):v.code=0:=by
 simp only[En.same]at h;split at h
 ·exact h
 ·exact(hZ (by decide) h).1
theorem gh{v:En}{p:Pl}(h:(v.use p).1.code=0):v.code=0/\∃i,fW v.vars p.name=some i:=by
 unfold En.use at h
 split at h
 ·exact((hZ (by decide) h).2).elim
 ·rename_i i hi
  refine⟨?_,i,hi⟩
  split at h
  ·exact h
  ·simp only at h
   split at h
   ·split at h
    ·exact(hZ (by decide) h).1
    ·exact h
   ·exact((hZ (by decide) h).2).elim
theorem lN{v:En}{x:Vr}(h:(v.add x).code=0):v.code=0:=by
 simp only[En.add,AW]at h;split at h
 ·exact(hZ (by decide) h).1
 ·exact h
theorem gA:∀(x:Ex) (v:En),(v.expr x).1.code=0->v.code=0
 |.mk k n p ks,v,h=>by
  rw[En.expr_eq]at h
  split at h
  ·exact h
  ·split at h
   ·exact(gh h).1
   ·split at h
    ·rename_i a b l
     have fin:((v.expr a).1.expr b).1.code=0->v.code=0:=fun h=>gA a v (gA b _ h)
     split at h
     ·split at h
      ·exact fin h
      ·exact(gx (by decide) h).elim
     ·exact fin (En.num_code (En.num_code h))
    ·exact h
termination_by x=>SizeOf.sizeOf x
theorem oW{v:En}{c:Int}(h:(v.fail0 c).code=0):v.code=0:=by
 simp only[En.fail0]at h
 split at h
 ·exact(hZ (by omega) h).1
 ·exact h
theorem kq{vs ws:List Vr}(h:ws.map (fun x=>{x with dead:=false})=vs.map (fun x=>{x with dead:=false}))(n:ByteArray):fW ws n=fW vs n:=by
 have key:∀us:List Vr,fW us n=fW (us.map (fun x=>{x with dead:=false})) n:=by
  intro us;simp only[fW,List.findIdx?_map];rfl
 rw[key ws,key vs,h]
theorem Up.core{vs ws:List Vr}(h:ws.map (fun x=>{x with dead:=false})=vs.map (fun x=>{x with dead:=false}))(hu:Up vs):Up ws:=by
 intro i hi q hq
 have hl:ws.length=vs.length:=by have:=congrArg List.length h;simpa using this
 have hi':i<vs.length:=by omega
 have he:({ws[i]with dead:=false}:Vr)={vs[i]with dead:=false}:=by
  have h1:=gX (fun x:Vr=>({x with dead:=false}:Vr)) (l:=ws) (i:=i) (h:=by simpa using hi)
  have h2:=gX (fun x:Vr=>({x with dead:=false}:Vr)) (l:=vs) (i:=i) (h:=by simpa using hi')
  rw[<-h1,<-h2];congr 1
 have hlo:ws[i].loans=vs[i].loans:=by
  have h3:∀x y:Vr,({x with dead:=false}:Vr)={y with dead:=false}->x.loans=y.loans:=by intro x y h;simpa using(congrArg Vr.loans h)
  exact h3 _ _ he
 rw[hlo]at hq
 obtain⟨j,hj,hji⟩:=hu i hi' q hq
 exact⟨j,by rw[kq h];exact hj,hji⟩
theorem r8{vs ws:List Vr}{n:ByteArray}{i:Nat}(h:fW vs n=some i):fW (vs++ws) n=some i:=by
 simp only[fW,List.findIdx?_append]at h⊢;rw[h];rfl
theorem sF{vs ws:List Vr}{n:ByteArray}(hw:∀x∈ws,x.name≠n):fW (vs++ws) n=fW vs n:=by
 simp only[fW,List.findIdx?_append]
 have:ws.findIdx? (fun v=>decide (v.name=n))=none:=by
  rw[iB];intro x hx;simpa using hw x hx
 rw[this];cases vs.findIdx? (fun v=>decide (v.name=n))<;>rfl
theorem Up.add{vs:List Vr}(h:Up vs){x:Vr}(hx:∀q∈x.loans,∃j,fW vs q.name=some j):Up (vs++[x]):=by
 intro i hi q hq
 by_cases h1:i<vs.length
 ·rw[dv h1]at hq
  obtain⟨j,hj,hji⟩:=h i h1 q hq
  exact⟨j,r8 hj,hji⟩
 ·have hii:i=vs.length:=by simp at hi;omega
  subst hii
  simp at hq
  obtain⟨j,hj⟩:=hx q hq
  exact⟨j,r8 hj,ve hj⟩
theorem Ay{vs ws:List Vr}(h:ws.map (fun x=>{x with dead:=false})=vs.map (fun x:Vr=>{x with dead:=false}))(n:Nat):(ws.take n).map (fun x=>{x with dead:=false})=(vs.take n).map (fun x=>{x with dead:=false}):=by
 rw[gU,gU,h]
inductive St.nm:St->Prop where
 |mk {k:Int} {n:ByteArray} {p o:Pl} {e:Ex} {f:ByteArray} {as:List Ag} {t l:List St} (ho:k=6->o.name≠bl []) (ha:k=4->∀a∈as,a.lent=true->a.place.name≠bl [])
  (ht:∀x∈t,St.nm x) (hl:∀x∈l,St.nm x):St.nm (.mk k n p o e f as t l)
theorem St.nm.get{s:St}(h:s.nm):(s.kind=6->s.other.name≠bl [])/\(s.kind=4->∀a∈s.args,a.lent=true->a.place.name≠bl [])/\(∀x∈s.thn,x.nm)/\∀x∈s.els,x.nm:=by
 cases h with
 |mk h1 h2 h3 h4=>exact⟨h1,h2,h3,h4⟩
def jM(vs ws:List Vr):Prop:=(ws.take vs.length).map (fun x=>{x with dead:=false})=vs.map (fun x:Vr=>{x with dead:=false})/\∀x∈ws.drop vs.length,x.name=bl []
theorem jM.refl(vs:List Vr):jM vs vs:=⟨by rw[aU],by simp⟩
theorem jM.core{vs ws us:List Vr}(h:jM vs ws)(hc:us.map (fun x=>{x with dead:=false})=ws.map (fun x:Vr=>{x with dead:=false})):jM vs us:=by
 refine⟨(Ay hc _).trans h.1,fun x hx=>?_⟩
 have:({x with dead:=false}:Vr)∈(us.drop vs.length).map (fun x=>{x with dead:=false}):=aY.2 ⟨x,hx,rfl⟩
 rw[List.map_drop,hc,<-List.map_drop]at this
 obtain⟨y,hy,he⟩:=aY.1 this
 have:=h.2 y hy
 rw[<-this];exact(congrArg Vr.name he).symm
theorem jM.len{vs ws:List Vr}(h:jM vs ws):vs.length<=ws.length:=by
 have:=congrArg List.length h.1
 simp at this;omega
theorem jM.push{vs ws:List Vr}(h:jM vs ws)(p:Pl):jM vs (ws++[cP p]):=by
 have hl:=h.len
 refine⟨by rw[List.take_append_of_le_length hl];exact h.1,fun x hx=>?_⟩
 rw[List.drop_append_of_le_length hl]at hx
 rcases aF.1 hx with hx|hx
 ·exact h.2 x hx
 ·simp at hx;subst hx;rfl
theorem jM.vIdx{vs ws:List Vr}(h:jM vs ws){n:ByteArray}(hn:n≠bl []):fW ws n=fW vs n:=by
 have:ws=ws.take vs.length++ws.drop vs.length:=(iw _ _).symm
 rw[this,sF (fun x hx=>by rw[h.2 x hx];exact Ne.symm hn),kq h.1]
theorem j6:∀(l:List (Pa×Ag)) (v0:List Vr) (v:En) (pl:List Pl),jM v0 v.vars->(∀x∈l,x.2.lent=true->x.2.place.name≠bl [])->(∀q∈pl,∃j,fW v0 q.name=some j)->
 ((v.args l pl).1.code=0->v.code=0)/\∀q,(v.args l pl).2=some q->(v.args l pl).1.code=0->jM v0 (v.args l pl).1.vars/\∀r∈q,∃j,fW v0 r.name=some j
 |[],v0,v,pl,hg,ha,hp=>⟨fun h=>h,fun q hq _=>by simp[En.args]at hq;subst hq;exact⟨hg,hp⟩⟩
 |(p,a)::l,v0,v,pl,hg,ha,hp=>by
  rw[En.args]
  by_cases h1:a.lent≠p.lent
  ·rw[if_pos h1]
   exact⟨fun h=>(gx (by decide) h).elim,fun q hq=>by simp at hq⟩
  ·rw[if_neg h1]
   by_cases h2:a.lent=true
   ·rw[if_pos h2]
    have hlike:=(v.use_like a.place).trans (fh _ (v.use a.place).2 p.type)
    have code:((((v.use a.place).1.same (v.use a.place).2 p.type).push (cP a.place)).args l (pl++[a.place])).1.code=0->(v.use a.place).1.code=0:=by
     intro h
     by_cases hc:∃j,fW v0 a.place.name=some j
     ·have h0:=(j6 l v0 (((v.use a.place).1.same (v.use a.place).2 p.type).push (cP a.place)) (pl++[a.place]) ((hg.core hlike.vars).push a.place) (fun x hx=>ha x (by simp[hx])) (by
       intro q hq
       rcases aF.1 hq with hq|hq
       ·exact hp q hq
       ·simp at hq;subst hq;exact hc)).1 h
      exact En.same_code (v:=(v.use a.place).1) (a:=(v.use a.place).2) (t:=p.type) h0
     ·have:=(j6 l (((v.use a.place).1.same (v.use a.place).2 p.type).push (cP a.place)).vars (((v.use a.place).1.same (v.use a.place).2 p.type).push (cP a.place)) [] (.refl _) (fun x hx=>ha x (by simp[hx])) (by simp)).1
      have eq:∀(l:List (Pa×Ag)) (w:En) (q r:List Pl),(w.args l q).1=(w.args l r).1:=by
       intro l
       induction l with
       |nil=>intros;rfl
       |cons x l ih=>
        intro w q r
        obtain⟨p,a⟩:=x
        rw[En.args,En.args]
        split
        ·rfl
        ·split
         ·exact ih _ _ _
         ·exact ih _ _ _
      rw[eq l _ _ []]at h
      exact En.same_code (v:=(v.use a.place).1) (a:=(v.use a.place).2) (t:=p.type) (this h)
    refine⟨fun h=>(gh (code h)).1,fun q hq h=>?_⟩
    obtain⟨-,j,hj⟩:=gh (code h)
    rw[hg.vIdx (ha (p,a) (by simp) h2)]at hj
    exact(j6 l v0 (((v.use a.place).1.same (v.use a.place).2 p.type).push (cP a.place)) (pl++[a.place]) ((hg.core hlike.vars).push a.place) (fun x hx=>ha x (by simp[hx])) (by
         intro q hq
         rcases aF.1 hq with hq|hq
         ·exact hp q hq
         ·simp at hq;subst hq;exact⟨j,hj⟩)).2 q hq h
   ·rw[if_neg h2]
    by_cases hv:True
    ·have ih:=j6 l v0 ((v.expr a.expr).1.same (v.expr a.expr).2 p.type) pl
     have hx:((v.expr a.expr).1.same (v.expr a.expr).2 p.type).vars.map (fun x=>{x with dead:=false})=v.vars.map (fun x:Vr=>{x with dead:=false}):=by
      have:∀(x:Ex) (v:En),(v.expr x).1.vars.map (fun x=>{x with dead:=false})=v.vars.map (fun x:Vr=>{x with dead:=false}):=expr_core
      exact this _ _
     obtain⟨i1,i2⟩:=ih (hg.core hx) (fun x hx=>ha x (by simp[hx])) hp
     exact⟨fun h=>gA _ _ (En.same_code (i1 h)),i2⟩
    ·exact(hv trivial).elim
where
 expr_core:∀(x:Ex) (v:En),(v.expr x).1.vars.map (fun x=>{x with dead:=false})=v.vars.map (fun x:Vr=>{x with dead:=false})
 |.mk k n p ks,v=>by
  rw[En.expr_eq]
  split
  ·rfl
  ·split
   ·exact(v.use_like p).vars
   ·split
    ·rename_i a b l
     have h:=(expr_core b (v.expr a).1).trans (expr_core a v)
     split
     ·split
      ·exact h
      ·exact h
     ·exact h
    ·rfl
 termination_by x=>SizeOf.sizeOf x
theorem km(x:Ex)(v:En):(v.expr x).1.vars.map (fun x=>{x with dead:=false})=v.vars.map (fun x:Vr=>{x with dead:=false}):=j6.expr_core x v
theorem we{v:En}{n:Nat}(h:(v.gone n).code=0):v.code=0:=by
 unfold En.gone at h;split at h
 ·exact(gx (by decide) h).elim
 ·exact h
theorem zj{v:En}{s:St}(hn:∀a∈s.args,a.lent=true->a.place.name≠bl [])(h:(v.call s).code=0):v.code=0/\(Up v.vars->Up (v.call s).vars):=by
 unfold En.call at h⊢
 split at h
 ·exact(gx (by decide) h).elim
 ·split at h
  ·exact⟨h,id⟩
  ·rename_i f hf
   split at h
   ·exact(gx (by decide) h).elim
   ·rename_i hlen
    obtain⟨i1,i2⟩:=j6 (f.params.zip s.args) v.vars v [] (.refl _) (fun x hx=>hn _ (List.of_mem_zip hx).2) (by simp)
    rw[if_neg hlen]
    split at h
    ·rename_i w hw
     rw[hw]at i1
     simp only at i1
     refine⟨i1 h,?_⟩
     exfalso
     have none_code:∀(l:List (Pa×Ag)) (v w:En) (pl:List Pl),v.args l pl=(w,none)->w.code≠0:=by
      intro l
      induction l with
      |nil=>intro v w pl h;simp[En.args]at h
      |cons x l ih=>
       intro v w pl h
       obtain⟨p,a⟩:=x
       rw[En.args]at h
       split at h
       ·simp at h;obtain⟨rfl,-⟩:=h;exact gx (by decide)
       ·split at h
        ·exact ih _ _ _ h
        ·exact ih _ _ _ h
     exact none_code _ _ _ _ hw h
    ·rename_i w pl hw
     rw[hw]at i1 i2
     simp only at i1 i2
     have hc:=we (lN h)
     obtain⟨j1,j2⟩:=i2 pl rfl hc
     refine⟨i1 hc,fun hu=>?_⟩
     have hg:((w.gone v.vars.length).pop v.vars.length).vars=w.vars.take v.vars.length:=by
      simp only[En.pop];unfold En.gone;split<;>rfl
     have hu2:Up (w.vars.take v.vars.length):=Up.core j1.1 hu
     simp only[En.add,hg]
     refine hu2.add fun q hq=>?_
     simp only at hq
     split at hq
     ·rw[kq j1.1];exact j2 q hq
     ·simp at hq
theorem zi{v:En}{s:St}(hn:s.other.name≠bl [])(h:(v.pick s).code=0):v.code=0/\(Up v.vars->Up (v.pick s).vars):=by
 have hc1:(v.expr s.expr).1.vars.map (fun x=>{x with dead:=false})=v.vars.map (fun x:Vr=>{x with dead:=false}):=km _ _
 simp only[En.pick]at h⊢
 have l1:=En.use_like ((v.expr s.expr).1.num (v.expr s.expr).2) s.place
 have k1:=fun h=>gh (v:=(v.expr s.expr).1.num (v.expr s.expr).2) (p:=s.place) h
 have kk:((v.expr s.expr).1.num (v.expr s.expr).2).code=0->v.code=0:=fun h=>gA _ _ (En.num_code h)
 have hv1:((v.expr s.expr).1.num (v.expr s.expr).2).vars=(v.expr s.expr).1.vars:=rfl
 generalize(v.expr s.expr).1.num (v.expr s.expr).2=v1 at*
 rw[<-hv1]at hc1
 generalize hu:(v1.use s.place).1=u at*
 generalize(v1.use s.place).2=t at*
 have l2:=En.use_like (u.push (cP s.place)) s.other
 have k2:=fun h=>gh (v:=u.push (cP s.place)) (p:=s.other) h
 have hsv:(((u.push (cP s.place)).use s.other).1.same ((u.push (cP s.place)).use s.other).2 t).vars=((u.push (cP s.place)).use s.other).1.vars:=rfl
 have hsc:(((u.push (cP s.place)).use s.other).1.same ((u.push (cP s.place)).use s.other).2 t).code=0->((u.push (cP s.place)).use s.other).1.code=0:=En.same_code
 generalize(((u.push (cP s.place)).use s.other).1.same ((u.push (cP s.place)).use s.other).2 t)=w at*
 have hc:=lN h
 have hwc:w.code=0:=by
  simp only[En.pop]at hc
  split at hc
  ·exact(gx (by decide) hc).elim
  ·exact hc
 obtain⟨c2,j2,hj2⟩:=k2 (hsc hwc)
 obtain⟨c1,j1,hj1⟩:=k1 c2
 refine⟨kk c1,fun hup=>?_⟩
 have hgv:((if dj w.vars u.vars.length then w.fail 4 else w).pop u.vars.length).vars=w.vars.take u.vars.length:=by
  simp only[En.pop];split<;>rfl
 have hgr:jM u.vars w.vars:=by rw[hsv];exact((jM.refl u.vars).push s.place).core l2.vars
 have huv:u.vars.map (fun x=>{x with dead:=false})=v.vars.map (fun x:Vr=>{x with dead:=false}):=l1.vars.trans hc1
 have hu0:Up u.vars:=hup.core huv
 have hu2:Up (w.vars.take u.vars.length):=hu0.core hgr.1
 simp only[En.add,hgv]
 refine hu2.add fun q hq=>?_
 simp at hq
 rw[kq hgr.1]
 rcases hq with rfl|rfl
 ·exact⟨j1,by rw[kq l1.vars];exact hj1⟩
 ·refine⟨j2,?_⟩
  rw[<-hj2]
  exact(((jM.refl u.vars).push s.place).vIdx hn).symm
theorem wN(vs as bs:List Vr):(fS vs as bs).map (fun x=>{x with dead:=false})=vs.map (fun x=>{x with dead:=false}):=by
 apply List.ext_getElem (by simp[fS])
 intro k h1 h2
 simp[fS]
theorem wb{v a b:En}(h:(v.join a b).code=0):v.code=0:=oW (v:=({v with vars:=fS v.vars a.vars b.vars,names:=b.names}:En)) (oW h)
theorem tS{s:St}(hs:s.nm){v:En}(h:(v.stmt s).code=0):v.code=0/\(Up v.vars->Up (v.stmt s).vars):=by
 obtain⟨n1,n2,n3,n4⟩:=hs.get
 rw[En.stmt_eq]at h⊢
 by_cases k1:s.kind=1
 ·rw[if_pos k1]at h⊢
  have:=lN h
  refine⟨gA _ _ this,fun hu=>?_⟩
  exact(hu.core (km s.expr v)).add (by simp)
 rw[if_neg k1]at h⊢
 by_cases k2:s.kind=2
 ·rw[if_pos k2]at h⊢
  obtain⟨c1,j,hj⟩:=gh (lN h)
  refine⟨c1,fun hu=>?_⟩
  have hl:=v.use_like s.place
  refine(hu.core hl.vars).add fun q hq=>?_
  simp at hq;subst hq
  exact⟨j,by rw[kq hl.vars];exact hj⟩
 rw[if_neg k2]at h⊢
 by_cases k3:s.kind=3
 ·rw[if_pos k3]at h⊢
  refine⟨gA _ _ (gh (En.same_code h)).1,fun hu=>?_⟩
  exact(hu.core (km s.expr v)).core (En.use_like (v.expr s.expr).1 s.place).vars
 rw[if_neg k3]at h⊢
 by_cases k4:s.kind=4
 ·rw[if_pos k4]at h⊢;exact zj (n2 k4) h
 rw[if_neg k4]at h⊢
 by_cases k6:s.kind=6
 ·rw[if_pos k6]at h⊢;exact zi (n1 k6) h
 rw[if_neg k6]at h⊢
 have hj:=wb h
 refine⟨gA _ _ (En.num_code hj),fun hu=>?_⟩
 exact(hu.core (km s.expr v)).core (wN _ _ _)
theorem tT:∀(l:List St),(∀s∈l,s.nm)->∀(v:En),(v.body l).code=0->v.code=0/\(Up v.vars->Up (v.body l).vars)
 |[],_,v,h=>by rw[iu]at h⊢;exact⟨h,id⟩
 |s::l,hn,v,h=>by
  rw[iz]at h⊢
  split at h
  ·rename_i hc
   rw[if_pos hc]
   obtain⟨h1,h2⟩:=tT l (fun x hx=>hn x (by simp[hx])) _ h
   obtain⟨h3,h4⟩:=tS (hn s (by simp)) h1
   exact⟨h3,fun hu=>h2 (h4 hu)⟩
  ·rename_i hc;rw[if_neg hc];exact⟨h,id⟩
theorem Up.nil:Up []:=fun i h=>by simp at h
theorem wg(l:List Pa)(v:En)(hu:Up v.vars):Up (v.givens l).vars:=by
 induction l generalizing v with
 |nil=>exact hu
 |cons x l ih=>exact ih _ (hu.add (by simp[Pa.vr]))
theorem rX(p:Pg)(fn:Nat):Up (co p fn).vars:=by
 unfold co
 split
 ·exact wg _ _ .nil
 ·exact .nil
def ju(b:UInt8):Bool:=decide (97<=b.toNat)&&decide (b.toNat<=122)
def bn(s:ByteArray):Bool:=decide (1<=s.size)&&(decide (s.size<=6)&&s.data.toList.all ju)
def gj(p:List Int):Bool:=decide (p.length<=4)&&p.all fun i=>decide (0<=i/\i<=1)
def Pl.okB(p:Pl):Bool:=bn p.name&&gj p.path
def Pl.noneB(p:Pl):Bool:=decide (p.name=bl [])&&decide (p.path.length=0)
def Ex.noneB(e:Ex):Bool:=decide (e.kind=0)&&(decide (e.num=0)&&(e.place.noneB&&decide (e.kids.length=0)))
theorem xF{s:ByteArray}{k:Nat}(h:k<s.size):s[k]?=some s.data.toList[k]:=by
 show s[k]?=_
 simp[h];rfl
section
variable {P:Program}{F:Ids}
theorem oq(L:Lib P F)(s:ByteArray):cM P F.s_l2Name [S s] (B (bn s)):=by
 refine L.s_l2Name (by simp[kT]) ?_
 have hsz:s.data.toList.length=s.size:=rfl
 by_cases h1:s.size<1
 ·have h1':(s.size:Int)<1:=by omega
  simp only[kT,go_sem,rE,h1']
  exact ak (.refl _) (aj.sub_empty _) ⟨by simp only[go_sem,bn];simp;omega,rfl⟩
 ·have h1':¬(s.size:Int)<1:=by omega
  by_cases h6:s.size>6
  ·have h6':(s.size:Int)>6:=by omega
   simp only[kT,go_sem,rE,h1',h6']
   refine ak (.refl _) (aj.sub_empty _) ⟨?_,rfl⟩
   have:bn s=false:=by
    simp only[bn,cO,decide_eq_false_iff_not];exact .inr (.inl (by omega))
   simp only[go_sem,this]
  ·have h6':¬(s.size:Int)>6:=by omega
   simp only[kT,go_sem,rE,h1',h6']
   refine aT s.size (fun k E H=>E 0=S s/\E 3=I k/\(s.data.toList.take k).all ju=true) ⟨rfl,rfl,by simp⟩ ?_
   rintro k E H hk ⟨e0,e3,hall⟩
   simp only[go_sem,rE,e0,e3]
   refine aG (fun hlt=>?_) (fun hge=>?_)
   ·have hk1:k<s.size:=by omega
    have w1:=aL (n:=(k:Int)+1) (by omega) (by omega)
    have hb:=xF hk1
    have htk:s.data.toList.take (k+1)=s.data.toList.take k++[s.data.toList[k]]:=aA hk1
    have no:ju s.data.toList[k]=false->bn s=false:=by
     intro h
     have:s.data.toList.all ju=false:=by rw[du];exact⟨_,ay hk1,by rw[h];exact fL⟩
     simp only[bn,this,aO]
    generalize s.data.toList[k]=c at*
    simp only[go_sem,rE,e0,e3,hb]
    by_cases ha:(c.toNat:Int)<97
    ·simp only[go_sem,rE,ha]
     exact ak (.refl _) (aj.sub_empty _) ⟨by simp only[go_sem];rw[no (by simp[ju];omega)],rfl⟩
    ·simp only[go_sem,rE,ha,e0,e3,hb]
     by_cases hz:(c.toNat:Int)>122
     ·simp only[go_sem,rE,hz]
      exact ak (.refl _) (aj.sub_empty _) ⟨by simp only[go_sem];rw[no (by simp[ju];omega)],rfl⟩
     ·simp only[go_sem,rE,hz,e3,w1]
      refine⟨hk1,H,aj.sub_refl _,e0,by simp,?_⟩
      rw[htk,eG,hall]
      simp[ju];omega
   ·have hkk:k=s.size:=by omega
    subst hkk
    simp only[go_sem,rE]
    rw[<-hsz,aU]at hall
    refine ak (.refl _) (aj.sub_empty _) ⟨?_,rfl⟩
    have:bn s=true:=by simp only[bn,hall,fO,aw,decide_eq_true_eq];omega
    simp only[go_sem,this]
theorem jL(L:Lib P F)(p:Pl):cM P F.s_l2None [.agg p.enc] (B p.noneB):=by
 refine L.s_l2None (by simp[pf]) ?_
 simp only[pf,go_sem,rE,Pl.enc,au]
 intro b hb
 by_cases h:p.name=bl []
 ·simp only[go_sem,rE,h,am]
  refine ak (.refl _) (aj.sub_empty _) ⟨?_,rfl⟩
  simp only[go_sem,rE,Pl.noneB,h]
  congr 2
  rw[aZ];simp
 ·simp only[go_sem,rE,h]
  exact ak (.refl _) (aj.sub_empty _) ⟨by simp only[go_sem,Pl.noneB,h,aK],rfl⟩
theorem kz(L:Lib P F)(p:Pl):cM P F.s_l2Place [.agg p.enc] (B p.okB):=by
 refine L.s_l2Place (by simp[nB]) ?_
 simp only[nB,go_sem,rE,Pl.enc,au]
 intro b hb
 refine ao (oq L p.name) (rfl) ?_
 cases hn:bn p.name
 ·simp only[go_sem,rE]
  exact ak (.refl _) (aj.sub_empty _) ⟨by simp only[go_sem,Pl.okB,hn,aK],rfl⟩
 ·have g1:((aj.empty.set b (.cells [S p.name,.sl 1 none (p.path.map fun i=>[I i])]))).get b=some (.cells [S p.name,.sl 1 none (p.path.map fun i=>[I i])]):=ai _ _ _
  by_cases h4:(p.path.length:Int)>4
  ·simp only[go_sem,rE,h4,am]
   refine ak (.refl _) (aj.sub_empty _) ⟨?_,rfl⟩
   have:gj p.path=false:=by simp only[gj,cO,decide_eq_false_iff_not];exact .inl (by omega)
   simp only[go_sem,Pl.okB,this,aO]
  ·simp only[go_sem,rE,h4,am]
   refine aT p.path.length (fun k E H=>E 1=.ptr b 0/\E 3=I k/\H.get b=some (.cells [S p.name,.sl 1 none (p.path.map fun i=>[I i])])/\((p.path.take k).all fun i=>decide (0<=i/\i<=1))=true) ⟨rfl,rfl,g1,by simp⟩ ?_
   rintro k E H hk ⟨e1,e3,g1,hall⟩
   simp only[go_sem,rE,rA,e1,e3,g1,am]
   refine aG (fun hlt=>?_) (fun hge=>?_)
   ·have hk1:k<p.path.length:=by omega
    have w1:=aL (n:=(k:Int)+1) (by omega) (by omega)
    simp only[go_sem,rE,rA,e1,e3,g1,ji hk1]
    refine ao (qe L p.path[k] 0 1) (rfl) ?_
    by_cases hi:0<=p.path[k]/\p.path[k]<=1
    ·simp only[go_sem,rE,hi,e3,w1]
     refine⟨hk1,H,aj.sub_refl _,e1,by simp,g1,?_⟩
     rw[aA hk1,eG,hall]
     simp[hi]
    ·simp only[go_sem,rE,hi]
     refine ak (.refl _) (aj.sub_empty _) ⟨?_,rfl⟩
     have:(p.path.all fun i=>decide (0<=i/\i<=1))=false:=by rw[du];exact⟨_,ay hk1,by simpa using hi⟩
     simp only[go_sem,Pl.okB,gj,this,aO]
   ·have hkk:k=p.path.length:=by omega
    subst hkk
    rw[aU]at hall
    simp only[go_sem,rE]
    refine ak (.refl _) (aj.sub_empty _) ⟨?_,rfl⟩
    have:gj p.path=true:=by simp only[gj,hall,fO,decide_eq_true_eq];omega
    simp only[go_sem,Pl.okB,hn,this,fO]
theorem jz(L:Lib P F)(e:Ex):cM P F.s_l2NoExpr [.agg e.enc] (B e.noneB):=by
 refine L.s_l2NoExpr (by simp[my]) ?_
 rw[Ex.enc_eq]
 simp only[my,go_sem,rE]
 intro b hb
 by_cases h1:e.kind=0
 ·by_cases h2:e.num=0
  ·simp only[go_sem,rE,h1,h2,beq_self_eq_true,rL,rA]
   refine ao (jL L e.place) (by simp only[go_sem,rE,Pl.enc]) ?_
   cases h3:e.place.noneB
   ·simp only[go_sem,rE]
    exact ak (.refl _) (aj.sub_empty _) ⟨by simp only[go_sem,Ex.noneB,h3,aK,aO],rfl⟩
   ·simp only[go_sem,rE,Ex.encs_map,am]
    refine ak (.refl _) (aj.sub_empty _) ⟨?_,rfl⟩
    simp only[go_sem,rE,Ex.noneB,h1,h2,h3,bX]
    congr 2
    rw[aZ];simp
  ·have h2':(e.num==0)=false:=by simpa using h2
   simp only[go_sem,rE,h1,h2',beq_self_eq_true]
   exact ak (.refl _) (aj.sub_empty _) ⟨by simp only[go_sem,Ex.noneB,h2,aK,aO],rfl⟩
 ·have h1':(e.kind==0)=false:=by simpa using h1
  simp only[go_sem,rE,h1']
  exact ak (.refl _) (aj.sub_empty _) ⟨by simp only[go_sem,Ex.noneB,h1,aK],rfl⟩
end
def jw(k n:Int)(p:Pl)(m:Nat):Bool:=
 if k=1 then decide (0<=n/\n<=9999)&&decide (m=0)else if k=2 then p.okB&&decide (m=0)else decide (3<=k/\k<=6)&&decide (m=2)
def fu(k n:Int)(p:Pl)(m:Nat):Bool:=(decide (k=1)||decide (n=0))&&((decide (k=2)||p.noneB)&&decide (m<=2))
def Ex.okD:Nat->Ex->Bool
 |0,_=>false
 |d+1,e=>fu e.kind e.num e.place e.kids.length&&(e.kids.all (Ex.okD d)&&jw e.kind e.num e.place e.kids.length)
theorem ex_get{ks:List Ex}{k:Nat}(h:k<ks.length):(ks.map Ex.enc)[k]?=some ks[k].enc:=by simp[h]
theorem ex_take(e:Ex):e.enc.take 5=e.enc:=by rw[Ex.enc_eq];rfl
theorem ex_len(e:Ex):e.enc.length=5:=by rw[Ex.enc_eq];rfl
section
variable {P:Program}{F:Ids}
theorem mj(L:Lib P F):∀(d:Nat),d<=100->∀(e:Ex),cM P F.s_l2Expr [.agg e.enc,I d] (B (e.okD d)):=by
 intro d
 induction d with
 |zero=>
  intro _ e
  refine L.s_l2Expr (by simp[kU]) ?_
  rw[Ex.enc_eq]
  simp only[kU,go_sem,rE,cW,Int.reduceLT]
  intro b hb
  exact ak (.refl _) (aj.sub_empty _) ⟨by simp only[go_sem,Ex.okD],rfl⟩
 |succ d ih=>
  intro hd e
  have ih:=ih (by omega)
  refine L.s_l2Expr (by simp[kU]) ?_
  have h1:¬((d+1:Nat):Int)<1:=by omega
  have w0:=aL (n:=((d+1:Nat):Int) - 1) (by omega) (by omega)
  have hd1:((d+1:Nat):Int) - 1=(d:Nat):=by omega
  rw[hd1]at w0
  rw[Ex.enc_eq]
  simp only[kU,go_sem,rE,h1]
  intro b hb
  have g1:(aj.empty.set b (.cells [I e.kind,I e.num,S e.place.name,au e.place.path,.sl 5 none (Ex.encs e.kids)])).get b=some (.cells [I e.kind,I e.num,S e.place.name,au e.place.path,.sl 5 none (Ex.encs e.kids)]):=ai _ _ _
  have tail:∀(E:Env) (H:aj),fu e.kind e.num e.place e.kids.length=true->E 1=I (d+1:Nat)->E 2=.ptr b 0->H.get b=some (.cells [I e.kind,I e.num,S e.place.name,au e.place.path,.sl 5 none (Ex.encs e.kids)])->
   aX.wp P (kd5 F) (aD.post [.slot 4] fun q H'=>q=B (e.okD (d+1))/\H'=aj.empty) E H:=by
   intro E H hg e1 e2 g1
   rw[kd5]
   have hm:e.kids.length<=2:=by
    simp only[fu,aw,decide_eq_true_eq]at hg;exact hg.2.2
   simp only[go_sem,rE]
   refine aT e.kids.length (fun k E H=>E 1=I (d+1:Nat)/\E 2=.ptr b 0/\E 5=I k/\H.get b=some (.cells [I e.kind,I e.num,S e.place.name,au e.place.path,.sl 5 none (Ex.encs e.kids)])/\(e.kids.take k).all (Ex.okD d)=true)
    ⟨e1,e2,rfl,g1,by simp⟩ ?_
   clear e1 e2 g1
   rintro k E H hk ⟨e1,e2,e5,g1,hall⟩
   simp only[go_sem,rE,rA,e2,e5,g1,Ex.encs_map,am]
   refine aG (fun hlt=>?_) (fun hge=>?_)
   ·have hk1:k<e.kids.length:=by omega
    have w1:=aL (n:=(k:Int)+1) (by omega) (by omega)
    simp only[go_sem,rE,rA,e1,e2,e5,g1,Ex.encs_map,am,ex_get hk1,ex_len,ex_take,w0,hd1]
    refine ao (ih e.kids[k]) (rfl) ?_
    cases ho:e.kids[k].okD d
    ·simp only[go_sem,rE]
     refine ak (.refl _) (aj.sub_empty _) ⟨?_,rfl⟩
     have:e.kids.all (Ex.okD d)=false:=by rw[du];exact⟨_,ay hk1,by rw[ho];exact fL⟩
     simp only[go_sem,Ex.okD,this,aK,aO]
    ·simp only[go_sem,rE,e5,w1]
     refine⟨hk1,H,aj.sub_refl _,e1,e2,by simp,by rw[<-Ex.encs_map];exact g1,?_⟩
     rw[aA hk1,eG,hall]
     simp[ho]
   ·have hkk:k=e.kids.length:=by omega
    subst hkk
    rw[aU]at hall
    have hres:e.okD (d+1)=jw e.kind e.num e.place e.kids.length:=by simp only[Ex.okD,hg,hall,bX]
    rw[hres]
    have hz:((e.kids.length:Int)==0)=decide (e.kids.length=0):=by rw[aZ];simp
    have hz2:((e.kids.length:Int)==2)=decide (e.kids.length=2):=by
     rw[aZ];simp;omega
    simp only[go_sem,rE,rA,e2,g1,Ex.encs_map,am]
    by_cases k1:e.kind=1
    ·simp only[k1,beq_self_eq_true,go_sem,rE,rA,e2,g1,Ex.encs_map,am]
     refine ao (qe L e.num 0 9999) (rfl) ?_
     by_cases hi:0<=e.num/\e.num<=9999
     ·simp only[go_sem,rE,rA,hi,e2,g1,Ex.encs_map,am]
      exact ak (.refl _) (aj.sub_empty _) ⟨by simp only[go_sem,rE,jw,hi,hz,bX],rfl⟩
     ·simp only[go_sem,rE,rA,hi]
      exact ak (.refl _) (aj.sub_empty _) ⟨by simp only[go_sem,rE,jw,hi,aK],rfl⟩
    ·have k1':(e.kind==1)=false:=by simpa using k1
     by_cases k2:e.kind=2
     ·simp only[k2,beq_self_eq_true,go_sem,rE,rA,e2,g1,Ex.encs_map,am,aH,rL]
      refine ao (kz L e.place) (by simp only[go_sem,rE,Pl.enc]) ?_
      cases hp:e.place.okB
      ·simp only[go_sem,rE,rA]
       exact ak (.refl _) (aj.sub_empty _) ⟨by simp only[go_sem,rE,jw,bp,hp,aK],rfl⟩
      ·simp only[go_sem,rE,rA,e2,g1,Ex.encs_map,am]
       exact ak (.refl _) (aj.sub_empty _) ⟨by simp only[go_sem,rE,jw,bp,hp,hz,bX],rfl⟩
     ·have k2':(e.kind==2)=false:=by simpa using k2
      simp only[k1',k2',go_sem,rE,rA,e2,g1]
      refine ao (qe L e.kind 3 6) (rfl) ?_
      by_cases hi:3<=e.kind/\e.kind<=6
      ·simp only[go_sem,rE,rA,hi,e2,g1,Ex.encs_map,am]
       exact ak (.refl _) (aj.sub_empty _) ⟨by simp only[go_sem,rE,jw,k1,k2,hi,hz2,bX],rfl⟩
      ·simp only[go_sem,rE,rA,hi]
       exact ak (.refl _) (aj.sub_empty _) ⟨by simp only[go_sem,rE,jw,k1,k2,hi,aK],rfl⟩
  have no:fu e.kind e.num e.place e.kids.length=false->e.okD (d+1)=false:=fun h=>by simp only[Ex.okD,h,aK]
  have fin:∀(E:Env),E 1=I (d+1:Nat)->E 2=.ptr b 0->∀c,(c=true->fu e.kind e.num e.place e.kids.length=false)->(c=false->fu e.kind e.num e.place e.kids.length=true)->
   r7 P E ((aj.empty.set b (.cells [I e.kind,I e.num,S e.place.name,au e.place.path,.sl 5 none (Ex.encs e.kids)]))) (cL.then (aX.wp P (kd5 F) (aD.post [.slot 4] fun q H'=>q=B (e.okD (d+1))/\H'=aj.empty)) (aD.post [.slot 4] fun q H'=>q=B (e.okD (d+1))/\H'=aj.empty)) (B c)
    (.seq (rg [mv 0 4 cf]) .ret) .skip:=by
   intro E e1 e2 c hc1 hc2
   refine mF (fun hc=>?_) (fun hc=>?_)
   ·simp only[go_sem,rE]
    exact ak (.refl _) (aj.sub_empty _) ⟨by simp only[go_sem,no (hc1 hc)],rfl⟩
   ·simp only[go_sem]
    exact tail E _ (hc2 hc) e1 e2 g1
  have hm2:∀c:Bool,c=decide ((e.kids.length:Int)>2)->(c=true->fu e.kind e.num e.place e.kids.length=false)/\((decide (e.kind=1)||decide (e.num=0))=true->(decide (e.kind=2)||e.place.noneB)=true->c=false->fu e.kind e.num e.place e.kids.length=true):=by
   rintro c rfl
   refine⟨fun h=>?_,fun h1 h2 h=>?_⟩
   ·have:¬e.kids.length<=2:=by have:=of_decide_eq_true h;omega
    simp only[fu,this,decide_false,aO]
   ·have:e.kids.length<=2:=by have:=of_decide_eq_false h;omega
    simp only[fu,h1,h2,this,decide_true,fO]
  obtain⟨m1,m2⟩:=hm2 _ rfl
  by_cases k1:e.kind=1
  ·have k1a:(e.kind !=1)=false:=by simp[k1]
   have k2a:(e.kind !=2)=true:=by simp[k1]
   simp only[k1a,k2a,go_sem,rE,rA,rL]
   refine ao (jL L e.place) (by simp only[go_sem,rE,Pl.enc]) ?_
   cases hp:e.place.noneB
   ·simp only[go_sem,rE,rA]
    exact ak (.refl _) (aj.sub_empty _) ⟨by simp only[go_sem];rw[no (by simp[fu,k1,hp])],rfl⟩
   ·simp only[go_sem,rE,rA,Ex.encs_map,am]
    simp only[<-Ex.encs_map]
    exact fin _ (rfl) (rfl) _ m1 (m2 (by simp[k1]) (by simp[hp]))
  ·have k1a:(e.kind !=1)=true:=by simpa using k1
   by_cases n0:e.num=0
   ·have n0a:(e.num !=0)=false:=by simp[n0]
    by_cases k2:e.kind=2
    ·have k2a:(e.kind !=2)=false:=by simp[k2]
     simp only[k1a,n0a,k2a,go_sem,rE,rA,Ex.encs_map,am]
     simp only[<-Ex.encs_map]
     exact fin _ (rfl) (rfl) _ m1 (m2 (by simp[n0]) (by simp[k2]))
    ·have k2a:(e.kind !=2)=true:=by simpa using k2
     simp only[k1a,n0a,k2a,go_sem,rE,rA,rL]
     refine ao (jL L e.place) (by simp only[go_sem,rE,Pl.enc]) ?_
     cases hp:e.place.noneB
     ·simp only[go_sem,rE,rA]
      exact ak (.refl _) (aj.sub_empty _) ⟨by simp only[go_sem];rw[no (by simp[fu,k2,hp])],rfl⟩
     ·simp only[go_sem,rE,rA,Ex.encs_map,am]
      simp only[<-Ex.encs_map]
      exact fin _ (rfl) (rfl) _ m1 (m2 (by simp[n0]) (by simp[hp]))
   ·have n0a:(e.num !=0)=true:=by simpa using n0
    simp only[k1a,n0a,go_sem,rE,rA]
    exact ak (.refl _) (aj.sub_empty _) ⟨by simp only[go_sem];rw[no (by simp[fu,k1,n0])],rfl⟩
end
def Ag.okB(a:Ag):Bool:=if a.lent then a.place.okB&&a.expr.noneB else a.place.noneB&&a.expr.okD 4
def eL(l:List Ag):Bool:=decide (l.length<=4)&&l.all Ag.okB
structure AgC2(a:Ag)(cs:List AC):Prop extends AgC a cs where
 all:cs.take 8=cs
theorem agC2(a:Ag):∃cs,a.enc=cs/\AgC2 a cs:=⟨a.enc,rfl,⟨by rw[Ag.enc,Ex.enc_eq];rfl,rfl,rfl,by rw[Ag.enc,Ex.enc_eq];rfl⟩,by rw[Ag.enc,Ex.enc_eq];rfl⟩
section
variable {P:Program}{F:Ids}
theorem x7(L:Lib P F)(l:List Ag):cM P F.s_l2Args [.sl 8 none (l.map Ag.enc)] (B (eL l)):=by
 refine L.s_l2Args (by simp[pj]) ?_
 simp only[pj,go_sem,rE,am]
 refine aG (fun hgt=>?_) (fun hle=>?_)
 ·simp only[go_sem,rE]
  refine ak (.refl _) (aj.sub_empty _) ⟨?_,rfl⟩
  have:eL l=false:=by simp only[eL,cO,decide_eq_false_iff_not];exact .inl (by omega)
  simp only[go_sem,this]
 ·simp only[go_sem,rE]
  refine aT l.length (fun k E H=>E 0=.sl 8 none (l.map Ag.enc)/\E 3=I k/\(l.take k).all Ag.okB=true) ⟨rfl,rfl,by simp⟩ ?_
  rintro k E H hk ⟨e0,e3,hall⟩
  simp only[go_sem,rE,e0,e3,am]
  refine aG (fun hlt=>?_) (fun hge=>?_)
  ·have hk1:k<l.length:=by omega
   have w1:=aL (n:=(k:Int)+1) (by omega) (by omega)
   obtain⟨ca,hca,CA⟩:=agC2 l[k]
   have hga:(l.map Ag.enc)[k]?=some ca:=by rw[<-hca];simp[hk1]
   have no:l[k].okB=false->eL l=false:=by
    intro h
    have:l.all Ag.okB=false:=by rw[du];exact⟨_,ay hk1,by rw[h];exact fL⟩
    simp only[eL,this,aO]
   have yes:l[k].okB=true->(l.take (k+1)).all Ag.okB=true:=by
    intro h
    rw[aA hk1,eG,hall]
    simp[h]
   have goE:l[k].okB=if l[k].lent then l[k].place.okB&&l[k].expr.noneB else l[k].place.noneB&&l[k].expr.okD 4:=rfl
   generalize l[k]=a at*
   have cl:=CA.lent
   simp only[go_sem,rE,rA,e0,e3,hga,CA.len,CA.all]
   intro b4 hb4
   cases hl:a.lent
   ·rw[hl]at cl goE
    simp only[go_sem,rE,rA,cl,CA.len,CA.place,CA.expr,rL]
    refine ao (jL L a.place) (by simp only[go_sem,rE,Pl.enc]) ?_
    cases hp:a.place.noneB
    ·simp only[go_sem,rE]
     exact ak (.refl _) (aj.sub_empty _) ⟨by simp only[go_sem];rw[no (by rw[goE,hp];rfl)],rfl⟩
    ·simp only[go_sem,rE,rA,CA.len,CA.place,CA.expr,rL]
     refine ao (mj L 4 (by omega) a.expr) (rfl) ?_
     cases hx:a.expr.okD 4
     ·simp only[go_sem,rE]
      exact ak (.refl _) (aj.sub_empty _) ⟨by simp only[go_sem];rw[no (by rw[goE,hp,hx];rfl)],rfl⟩
     ·simp only[go_sem,rE,e0,e3,w1]
      exact⟨hk1,H,o9 hb4,by simp,yes (by rw[goE,hp,hx];rfl)⟩
   ·rw[hl]at cl goE
    simp only[go_sem,rE,rA,cl,CA.len,CA.place,CA.expr,rL]
    refine ao (kz L a.place) (by simp only[go_sem,rE,Pl.enc]) ?_
    cases hp:a.place.okB
    ·simp only[go_sem,rE]
     exact ak (.refl _) (aj.sub_empty _) ⟨by simp only[go_sem];rw[no (by rw[goE,hp];rfl)],rfl⟩
    ·simp only[go_sem,rE,rA,CA.len,CA.place,CA.expr,rL]
     refine ao (jz L a.expr) (rfl) ?_
     cases hx:a.expr.noneB
     ·simp only[go_sem,rE]
      exact ak (.refl _) (aj.sub_empty _) ⟨by simp only[go_sem];rw[no (by rw[goE,hp,hx];rfl)],rfl⟩
     ·simp only[go_sem,rE,rA,cl,e0,e3,w1]
      exact⟨hk1,H,o9 hb4,by simp,yes (by rw[goE,hp,hx];rfl)⟩
  ·have hkk:k=l.length:=by omega
   subst hkk
   rw[aU]at hall
   simp only[go_sem,rE]
   refine ak (.refl _) (aj.sub_empty _) ⟨?_,rfl⟩
   have:eL l=true:=by simp only[eL,hall,fO,decide_eq_true_eq];omega
   simp only[go_sem,this]
end
def isN(k:Int):Bool:=decide (k=1)||(decide (k=2)||(decide (k=4)||decide (k=6)))
def isP(k:Int):Bool:=decide (k=2)||(decide (k=3)||decide (k=6))
def isE(k:Int):Bool:=decide (k=1)||(decide (k=3)||(decide (k=5)||decide (k=6)))
def stD(Bd:List St->Bool)(s:St):Bool:=if s.kind=5 then Bd s.thn&&Bd s.els else decide (1<=s.kind/\s.kind<=6)&&decide (s.thn.length+s.els.length=0)
def kZ(s:St):Bool:=(if s.kind=4 then bn s.fn else decide (s.fn=bl [])&&decide (s.args.length=0))&&eL s.args
def stB(s:St):Bool:=(if isN s.kind then bn s.name else !bn s.name&&decide (s.name=bl []))&&((if isP s.kind then s.place.okB else s.place.noneB)&&(if isE s.kind then s.expr.okD 4 else s.expr.noneB))
def stA(s:St):Bool:=if s.kind=6 then s.other.okB else s.other.noneB
def de(Bd:List St->Bool)(s:St):Bool:=stA s&&(stB s&&(kZ s&&stD Bd s))
def cb:Nat->List St->Bool
 |0,_=>false
 |d+1,l=>decide (l.length<=40)&&l.all (de (cb d))
def St.okB(d:Nat)(s:St):Bool:=de (cb (d - 1)) s
section
variable {P:Program}{F:Ids}
theorem uM(L:Lib P F)(d:Nat)(hd:1<=d)(hd2:d<=100)(Bd:List St->Bool)(s:St)(hc:s.thn.length+s.els.length<=2^40)
(hB:∀l,(l=s.thn\/l=s.els)->cM P F.s_l2Body [.sl 15 none (St.encs l),I ((d - 1:Nat):Int)] (B (Bd l))):cM P F.s_l2Stmt [.agg s.enc,I d] (B (de Bd s)):=by
 refine L.s_l2Stmt (by simp[pe]) ?_
 obtain⟨cs,hcs,C⟩:=stC s
 have w0:=aL (n:=(d:Int) - 1) (by omega) (by omega)
 have hd1:(d:Int) - 1=((d - 1:Nat):Int):=by omega
 rw[hd1]at w0
 have wl:=aL (n:=(s.thn.length:Int)+s.els.length) (by omega) (by omega)
 rw[hcs]
 simp only[pe,go_sem,rE]
 intro b hb
 have g1:(aj.empty.set b (.cells cs)).get b=some (.cells cs):=ai _ _ _
 generalize aj.empty.set b (.cells cs)=H1 at*
 have back:∀(E:Env) (H:aj) (c:Bool),E 4=B c->c=de Bd s->aD.post [.slot 4] (fun q H'=>q=B (de Bd s)/\H'=aj.empty) .ret E H:=by
  rintro E H c e4 rfl
  exact ak (.refl _) (aj.sub_empty _) ⟨e4,rfl⟩
 have bad:∀(E:Env) (H:aj),de Bd s=false->aX.wp P (.seq (rg [mv 0 4 cf]) .ret) (aD.post [.slot 4] fun q H'=>q=B (de Bd s)/\H'=aj.empty) E H:=by
  intro E H h
  simp only[go_sem,rE]
  exact back _ _ false (rfl) h.symm
 have stepD:∀(E:Env) (H:aj),stA s=true->stB s=true->kZ s=true->E 1=I d->E 2=.ptr b 0->H.get b=some (.cells cs)->
  aX.wp P (kd6 F) (aD.post [.slot 4] fun q H'=>q=B (de Bd s)/\H'=aj.empty) E H:=by
  intro E H hA hB' hC e1 e2 g
  rw[kd6]
  have hres:de Bd s=stD Bd s:=by simp only[de,hA,hB',hC,bX]
  by_cases k5:s.kind=5
  ·have k5':(s.kind !=5)=false:=by simp[k5]
   simp only[go_sem,rE,rA,e1,e2,g,C.kind,k5',C.thn,w0,hd1]
   refine ao (hB s.thn (.inl rfl)) (rfl) ?_
   cases ht:Bd s.thn
   ·simp only[go_sem,rE,rA]
    exact back _ _ false (rfl) (by rw[hres];simp[stD,k5,ht])
   ·simp only[go_sem,rE,rA,e1,e2,g,C.els,w0,hd1]
    refine ao (hB s.els (.inr rfl)) (rfl) ?_
    simp only[go_sem,rE,rA]
    exact back _ _ (Bd s.els) (rfl) (by rw[hres];simp[stD,k5,ht])
  ·have k5':(s.kind !=5)=true:=by simpa using k5
   simp only[go_sem,rE,rA,e1,e2,g,C.kind,k5']
   refine ao (qe L s.kind 1 6) (rfl) ?_
   by_cases hi:1<=s.kind/\s.kind<=6
   ·simp only[go_sem,rE,rA,hi,e2,g,C.thn,C.els,St.encs_map,am,wl]
    refine back _ _ (((s.thn.length:Int)+s.els.length)==0) (rfl) ?_
    rw[hres];simp only[stD,k5,if_false,hi,and_self,decide_true,bX]
    rw[aZ,beq_iff_eq,decide_eq_true_eq];omega
   ·simp only[go_sem,rE,rA,hi]
    exact back _ _ false (rfl) (by rw[hres];simp only[stD,k5,if_false,hi,decide_false,aK])
 have stepC:∀(E:Env) (H:aj),stA s=true->stB s=true->E 1=I d->E 2=.ptr b 0->H.get b=some (.cells cs)->
  aX.wp P (kd7 F) (aD.post [.slot 4] fun q H'=>q=B (de Bd s)/\H'=aj.empty) E H:=by
  intro E H hA hB' e1 e2 g
  rw[kd7]
  have no:kZ s=false->de Bd s=false:=fun h=>by simp only[de,h,aK,aO]
  by_cases k4:s.kind=4
  ·have k4':(s.kind==4)=true:=by simp[k4]
   have k4a:(s.kind !=4)=false:=by simp[k4]
   simp only[go_sem,rE,rA,e1,e2,g,C.kind,k4',C.fn]
   refine ao (oq L s.fn) (rfl) ?_
   cases hn:bn s.fn
   ·simp only[go_sem,rE,rA]
    exact back _ _ false (rfl) (by rw[no (by simp[kZ,k4,hn])])
   ·simp only[go_sem,rE,rA,e2,g,C.kind,k4a,C.args]
    refine ao (x7 L s.args) (rfl) ?_
    cases ha:eL s.args
    ·simp only[go_sem,rE,rA]
     exact back _ _ false (rfl) (by rw[no (by simp[kZ,ha])])
    ·simp only[go_sem,rE,rA]
     exact stepD _ _ hA hB' (by simp[kZ,k4,hn,ha]) (e1) (e2) g
  ·have k4':(s.kind==4)=false:=by simpa using k4
   have k4a:(s.kind !=4)=true:=by simpa using k4
   simp only[go_sem,rE,rA,e1,e2,g,C.kind,k4',k4a,C.fn]
   by_cases hf:s.fn=bl []
   ·simp only[go_sem,rE,rA,hf,e2,g,C.args,am]
    by_cases hz:(s.args.length:Int)>0
    ·simp only[go_sem,rE,rA,hz]
     exact back _ _ false (rfl) (by rw[no (by simp only[kZ,k4,if_false,hf,decide_true,bX,cO,decide_eq_false_iff_not];exact .inl (by omega))])
    ·simp only[go_sem,rE,rA,hz,e2,g,C.args]
     refine ao (x7 L s.args) (rfl) ?_
     cases ha:eL s.args
     ·simp only[go_sem,rE,rA]
      exact back _ _ false (rfl) (by rw[no (by simp[kZ,ha])])
     ·simp only[go_sem,rE,rA]
      exact stepD _ _ hA hB' (by simp only[kZ,k4,if_false,hf,decide_true,bX,ha,fO,decide_eq_true_eq];omega) (e1) (e2) g
   ·simp only[go_sem,rE,rA,hf]
    exact back _ _ false (rfl) (by rw[no (by simp[kZ,k4,hf])])
 have stepB:∀(E:Env) (H:aj),stA s=true->E 1=I d->E 2=.ptr b 0->E 6=B (isN s.kind)->E 7=B (isP s.kind)->E 8=B (isE s.kind)->H.get b=some (.cells cs)->
  aX.wp P (kd8 F) (aD.post [.slot 4] fun q H'=>q=B (de Bd s)/\H'=aj.empty) E H:=by
  intro E H hA e1 e2 e6 e7 e8 g
  rw[kd8]
  have no:stB s=false->de Bd s=false:=fun h=>by simp only[de,h,aK,aO]
  have last:∀(K:cL->Env->aj->Prop),True:=fun _=>trivial
  simp only[go_sem,rE,rA,e2,e6,g,C.name]
  refine ao (oq L s.name) (rfl) ?_
  cases hN:isN s.kind<;>cases hn:bn s.name
  ·
   rw[hN]at e6
   by_cases hs:s.name=bl []
   ·have hpre:(if isN s.kind then bn s.name else !bn s.name&&decide (s.name=bl []))=true:=by rw[hN,hn,hs];simp
    cases hP:isP s.kind<;>rw[hP]at e7
    ·simp only[go_sem,rE,rA,e2,e6,e7,e8,g,C.name,hs,C.len,rL,C.place,C.expr]
     refine ao (jL L s.place) (by simp only[go_sem,rE,Pl.enc]) ?_
     cases hp:s.place.noneB
     ·simp only[go_sem,rE,rA]
      exact back _ _ false (rfl) (by rw[no (by simp only[stB,hpre,hP,hp,if_true,if_false,ap,aK,aO])])
     ·cases hE:isE s.kind<;>rw[hE]at e8
      ·simp only[go_sem,rE,rA,e2,e6,e7,e8,g,C.name,hs,C.len,rL,C.place,C.expr]
       refine ao (jz L s.expr) (rfl) ?_
       cases hx:s.expr.noneB
       ·simp only[go_sem,rE,rA]
        exact back _ _ false (rfl) (by rw[no (by simp only[stB,hpre,hP,hp,hE,hx,if_true,if_false,ap,aK,aO])])
       ·simp only[go_sem,rE,rA,e8]
        exact stepC _ _ hA (by simp only[stB,hpre,hP,hp,hE,hx,if_true,if_false,ap,fP]) (e1) (e2) g
      ·simp only[go_sem,rE,rA,e2,e6,e7,e8,g,C.name,hs,C.len,rL,C.place,C.expr]
       refine ao (mj L 4 (by omega) s.expr) (rfl) ?_
       cases hx:s.expr.okD 4
       ·simp only[go_sem,rE,rA]
        exact back _ _ false (rfl) (by rw[no (by simp only[stB,hpre,hP,hp,hE,hx,if_true,if_false,ap,aK,aO])])
       ·simp only[go_sem,rE,rA,e8]
        exact stepC _ _ hA (by simp only[stB,hpre,hP,hp,hE,hx,if_true,if_false,ap,fP]) (e1) (e2) g
    ·simp only[go_sem,rE,rA,e2,e6,e7,e8,g,C.name,hs,C.len,rL,C.place,C.expr]
     refine ao (kz L s.place) (by simp only[go_sem,rE,Pl.enc]) ?_
     cases hp:s.place.okB
     ·simp only[go_sem,rE,rA]
      exact back _ _ false (rfl) (by rw[no (by simp only[stB,hpre,hP,hp,if_true,if_false,ap,aK,aO])])
     ·cases hE:isE s.kind<;>rw[hE]at e8
      ·simp only[go_sem,rE,rA,e2,e6,e7,e8,g,C.name,hs,C.len,rL,C.place,C.expr]
       refine ao (jz L s.expr) (rfl) ?_
       cases hx:s.expr.noneB
       ·simp only[go_sem,rE,rA]
        exact back _ _ false (rfl) (by rw[no (by simp only[stB,hpre,hP,hp,hE,hx,if_true,if_false,ap,aK,aO])])
       ·simp only[go_sem,rE,rA,e8]
        exact stepC _ _ hA (by simp only[stB,hpre,hP,hp,hE,hx,if_true,if_false,ap,fP]) (e1) (e2) g
      ·simp only[go_sem,rE,rA,e2,e6,e7,e8,g,C.name,hs,C.len,rL,C.place,C.expr]
       refine ao (mj L 4 (by omega) s.expr) (rfl) ?_
       cases hx:s.expr.okD 4
       ·simp only[go_sem,rE,rA]
        exact back _ _ false (rfl) (by rw[no (by simp only[stB,hpre,hP,hp,hE,hx,if_true,if_false,ap,aK,aO])])
       ·simp only[go_sem,rE,rA,e8]
        exact stepC _ _ hA (by simp only[stB,hpre,hP,hp,hE,hx,if_true,if_false,ap,fP]) (e1) (e2) g
   ·simp only[go_sem,rE,rA,e2,e6,g,C.name,hs]
    exact back _ _ false (rfl) (by rw[no (by simp[stB,hN,hs])])
  ·simp only[go_sem,rE,rA]
   exact back _ _ false (rfl) (by rw[no (by simp[stB,hN,hn])])
  ·simp only[go_sem,rE,rA]
   exact back _ _ false (rfl) (by rw[no (by simp[stB,hN,hn])])
  ·rw[hN]at e6
   have hpre:(if isN s.kind then bn s.name else !bn s.name&&decide (s.name=bl []))=true:=by rw[hN,hn];rfl
   cases hP:isP s.kind<;>rw[hP]at e7
   ·simp only[go_sem,rE,rA,e2,e6,e7,e8,g,C.name,C.len,rL,C.place,C.expr]
    refine ao (jL L s.place) (by simp only[go_sem,rE,Pl.enc]) ?_
    cases hp:s.place.noneB
    ·simp only[go_sem,rE,rA]
     exact back _ _ false (rfl) (by rw[no (by simp only[stB,hpre,hP,hp,if_true,if_false,ap,aK,aO])])
    ·cases hE:isE s.kind<;>rw[hE]at e8
     ·simp only[go_sem,rE,rA,e2,e6,e7,e8,g,C.name,C.len,rL,C.place,C.expr]
      refine ao (jz L s.expr) (rfl) ?_
      cases hx:s.expr.noneB
      ·simp only[go_sem,rE,rA]
       exact back _ _ false (rfl) (by rw[no (by simp only[stB,hpre,hP,hp,hE,hx,if_true,if_false,ap,aK,aO])])
      ·simp only[go_sem,rE,rA,e8]
       exact stepC _ _ hA (by simp only[stB,hpre,hP,hp,hE,hx,if_true,if_false,ap,fP]) (e1) (e2) g
     ·simp only[go_sem,rE,rA,e2,e6,e7,e8,g,C.name,C.len,rL,C.place,C.expr]
      refine ao (mj L 4 (by omega) s.expr) (rfl) ?_
      cases hx:s.expr.okD 4
      ·simp only[go_sem,rE,rA]
       exact back _ _ false (rfl) (by rw[no (by simp only[stB,hpre,hP,hp,hE,hx,if_true,if_false,ap,aK,aO])])
      ·simp only[go_sem,rE,rA,e8]
       exact stepC _ _ hA (by simp only[stB,hpre,hP,hp,hE,hx,if_true,if_false,ap,fP]) (e1) (e2) g
   ·simp only[go_sem,rE,rA,e2,e6,e7,e8,g,C.name,C.len,rL,C.place,C.expr]
    refine ao (kz L s.place) (by simp only[go_sem,rE,Pl.enc]) ?_
    cases hp:s.place.okB
    ·simp only[go_sem,rE,rA]
     exact back _ _ false (rfl) (by rw[no (by simp only[stB,hpre,hP,hp,if_true,if_false,ap,aK,aO])])
    ·cases hE:isE s.kind<;>rw[hE]at e8
     ·simp only[go_sem,rE,rA,e2,e6,e7,e8,g,C.name,C.len,rL,C.place,C.expr]
      refine ao (jz L s.expr) (rfl) ?_
      cases hx:s.expr.noneB
      ·simp only[go_sem,rE,rA]
       exact back _ _ false (rfl) (by rw[no (by simp only[stB,hpre,hP,hp,hE,hx,if_true,if_false,ap,aK,aO])])
      ·simp only[go_sem,rE,rA,e8]
       exact stepC _ _ hA (by simp only[stB,hpre,hP,hp,hE,hx,if_true,if_false,ap,fP]) (e1) (e2) g
     ·simp only[go_sem,rE,rA,e2,e6,e7,e8,g,C.name,C.len,rL,C.place,C.expr]
      refine ao (mj L 4 (by omega) s.expr) (rfl) ?_
      cases hx:s.expr.okD 4
      ·simp only[go_sem,rE,rA]
       exact back _ _ false (rfl) (by rw[no (by simp only[stB,hpre,hP,hp,hE,hx,if_true,if_false,ap,aK,aO])])
      ·simp only[go_sem,rE,rA,e8]
       exact stepC _ _ hA (by simp only[stB,hpre,hP,hp,hE,hx,if_true,if_false,ap,fP]) (e1) (e2) g
 have stepA:∀(E:Env) (H:aj),E 1=I d->E 2=.ptr b 0->E 5=B (decide (s.kind=6))->E 6=B (isN s.kind)->E 7=B (isP s.kind)->E 8=B (isE s.kind)->H.get b=some (.cells cs)->
  aX.wp P (kd9 F) (aD.post [.slot 4] fun q H'=>q=B (de Bd s)/\H'=aj.empty) E H:=by
  intro E H e1 e2 e5 e6 e7 e8 g
  rw[kd9]
  have no:stA s=false->de Bd s=false:=fun h=>by simp only[de,h,aK]
  by_cases k6:s.kind=6
  ·simp only[k6,decide_true]at e5
   simp only[go_sem,rE,rA,e2,e5,g,C.len,rL,C.other]
   refine ao (kz L s.other) (by simp only[go_sem,rE,Pl.enc]) ?_
   cases hp:s.other.okB
   ·simp only[go_sem,rE,rA,e5]
    exact back _ _ false (rfl) (by rw[no (by simp only[stA,k6,hp,if_true])])
   ·simp only[go_sem,rE,rA,e5]
    exact stepB _ _ (by simp only[stA,k6,hp,if_true]) (e1) (e2) (e6) (e7) (e8) g
  ·simp only[k6,decide_false]at e5
   simp only[go_sem,rE,rA,e2,e5,g,C.len,rL,C.other]
   refine ao (jL L s.other) (by simp only[go_sem,rE,Pl.enc]) ?_
   cases hp:s.other.noneB
   ·simp only[go_sem,rE,rA,e5]
    exact back _ _ false (rfl) (by rw[no (by simp only[stA,k6,hp,if_false])])
   ·simp only[go_sem,rE,rA,e5]
    exact stepB _ _ (by simp only[stA,k6,hp,if_false]) (e1) (e2) (e6) (e7) (e8) g
 have k1:(s.kind==1)=decide (s.kind=1):=by rw[aZ,beq_iff_eq,decide_eq_true_eq]
 have k2:(s.kind==2)=decide (s.kind=2):=by rw[aZ,beq_iff_eq,decide_eq_true_eq]
 have k3:(s.kind==3)=decide (s.kind=3):=by rw[aZ,beq_iff_eq,decide_eq_true_eq]
 have k4:(s.kind==4)=decide (s.kind=4):=by rw[aZ,beq_iff_eq,decide_eq_true_eq]
 have k5:(s.kind==5)=decide (s.kind=5):=by rw[aZ,beq_iff_eq,decide_eq_true_eq]
 have k6:(s.kind==6)=decide (s.kind=6):=by rw[aZ,beq_iff_eq,decide_eq_true_eq]
 have all:∀k:Int,(k=1\/k=2\/k=3\/k=4\/k=5\/k=6\/(¬k=1/\¬k=2/\¬k=3/\¬k=4/\¬k=5/\¬k=6)):=by intro k;omega
 have ck:=C.kind
 rcases all s.kind with h|h|h|h|h|h|⟨h1,h2,h3,h4,h5,h6⟩
 ·rw[h]at k1 k2 k3 k4 k5 k6 stepA ck
  simp only[aH,bp,decide_true,decide_false]at k1 k2 k3 k4 k5 k6
  simp only[go_sem,rE,rA,g1,ck,aH]
  exact stepA _ _ (by simp[go_sem]) (by simp[go_sem]) (by simp[go_sem]) (by simp[go_sem,isN]) (by simp[go_sem,isP]) (by simp[go_sem,isE]) g1
 ·rw[h]at k1 k2 k3 k4 k5 k6 stepA ck
  simp only[aH,bp,decide_true,decide_false]at k1 k2 k3 k4 k5 k6
  simp only[go_sem,rE,rA,g1,ck,aH]
  exact stepA _ _ (by simp[go_sem]) (by simp[go_sem]) (by simp[go_sem]) (by simp[go_sem,isN]) (by simp[go_sem,isP]) (by simp[go_sem,isE]) g1
 ·rw[h]at k1 k2 k3 k4 k5 k6 stepA ck
  simp only[aH,bp,decide_true,decide_false]at k1 k2 k3 k4 k5 k6
  simp only[go_sem,rE,rA,g1,ck,aH]
  exact stepA _ _ (by simp[go_sem]) (by simp[go_sem]) (by simp[go_sem]) (by simp[go_sem,isN]) (by simp[go_sem,isP]) (by simp[go_sem,isE]) g1
 ·rw[h]at k1 k2 k3 k4 k5 k6 stepA ck
  simp only[aH,bp,decide_true,decide_false]at k1 k2 k3 k4 k5 k6
  simp only[go_sem,rE,rA,g1,ck,aH]
  exact stepA _ _ (by simp[go_sem]) (by simp[go_sem]) (by simp[go_sem]) (by simp[go_sem,isN]) (by simp[go_sem,isP]) (by simp[go_sem,isE]) g1
 ·rw[h]at k1 k2 k3 k4 k5 k6 stepA ck
  simp only[aH,bp,decide_true,decide_false]at k1 k2 k3 k4 k5 k6
  simp only[go_sem,rE,rA,g1,ck,aH]
  exact stepA _ _ (by simp[go_sem]) (by simp[go_sem]) (by simp[go_sem]) (by simp[go_sem,isN]) (by simp[go_sem,isP]) (by simp[go_sem,isE]) g1
 ·rw[h]at k1 k2 k3 k4 k5 k6 stepA ck
  simp only[aH,bp,decide_true,decide_false]at k1 k2 k3 k4 k5 k6
  simp only[go_sem,rE,rA,g1,ck,aH]
  exact stepA _ _ (by simp[go_sem]) (by simp[go_sem]) (by simp[go_sem]) (by simp[go_sem,isN]) (by simp[go_sem,isP]) (by simp[go_sem,isE]) g1
 ·simp only[h1,h2,h3,h4,h5,h6,decide_false]at k1 k2 k3 k4 k5 k6
  simp only[go_sem,rE,rA,g1,ck,k1,k2,k3,k4,k5,k6]
  exact stepA _ _ (by simp[go_sem]) (by simp[go_sem]) (by simp[go_sem,h6]) (by simp[go_sem,isN,h1,h2,h4,h6]) (by simp[go_sem,isP,h2,h3,h6]) (by simp[go_sem,isE,h1,h3,h5,h6]) g1
end
mutual
def St.num:St->Nat
 |.mk _ _ _ _ _ _ _ t l=>1+bN t+bN l
def bN:List St->Nat
 |[]=>0
 |s::l=>s.num+bN l
end
theorem ml(s:St):s.num=1+bN s.thn+bN s.els:=by cases s;rw[St.num];rfl
theorem fY:bN []=0:=by rw[bN]
theorem gq(s:St)(l:List St):bN (s::l)=s.num+bN l:=by rw[bN]
theorem ov(a b:List St):bN (a++b)=bN a+bN b:=by
 induction a with
 |nil=>simp[fY]
 |cons s a ih=>rw[cB,gq,gq,ih];omega
theorem uT:∀(n:Nat),(∀s:St,s.cnt<=n->s.num<=s.cnt)/\∀l:List St,bx l<=n->bN l<=bx l:=by
 intro n
 induction n with
 |zero=>
  refine⟨fun s h=>by rw[dy]at h;omega,fun l h=>?_⟩
  cases l with
  |nil=>rw[fY];omega
  |cons s l=>rw[cY,dy]at h;omega
 |succ n ih=>
  have stm:∀s:St,s.cnt<=n+1->s.num<=s.cnt:=by
   intro s h
   rw[dy]at h⊢
   rw[ml]
   have:=ih.2 s.thn (by omega)
   have:=ih.2 s.els (by omega)
   omega
  refine⟨stm,fun l=>?_⟩
  induction l with
  |nil=>intro h;rw[fY];omega
  |cons s l ihl=>
   intro h
   rw[cY]at h⊢
   rw[gq]
   have:=stm s (by omega)
   have:=ihl (by omega)
   omega
theorem tO(l:List St):l.length<=bN l:=by
 induction l with
 |nil=>simp
 |cons s l ih=>rw[gq,ml,aV];omega
def Pa.okB(p:Pa):Bool:=bn p.name&&p.type.okB
def Fu.okB(f:Fu):Bool:=bn f.name&&(decide (f.params.length<=4)&&(f.type.okB&&(cb 4 f.body&&(decide (bN f.body<=40)&&(f.params.all Pa.okB&&
 (if f.lent then f.gives.okB&&f.says.noneB else f.gives.noneB&&f.says.okD 4))))))
def eR(p:Pg):Bool:=decide (p.length<=5)&&p.all Fu.okB
theorem vG{l:List St}{s:St}(h:s∈l):s.cnt<=bx l:=by
 induction l with
 |nil=>simp at h
 |cons x l ih=>
  rw[cY]
  rcases bf.1 h with rfl|h
  ·omega
  ·have:=ih h;omega
theorem yf{l:List St}{k:Nat}(h:k<l.length):(l.map St.enc)[k]?=some l[k].enc:=by simp[h]
theorem Bs(s:St):s.enc.length=15:=by rw[St.enc_eq];rfl
theorem st_take(s:St):s.enc.take 15=s.enc:=by rw[St.enc_eq];rfl
section
variable {P:Program}{F:Ids}
theorem tE(L:Lib P F):∀(d:Nat),d<=100->∀(l:List St),bx l<=2^30->cM P F.s_l2Body [.sl 15 none (St.encs l),I d] (B (cb d l)):=by
 intro d
 induction d with
 |zero=>
  intro _ l hl
  refine L.s_l2Body (by simp[kV]) ?_
  simp only[kV,go_sem,rE,cW,Int.reduceLT]
  exact ak (.refl _) (aj.sub_empty _) ⟨by simp only[go_sem,cb],rfl⟩
 |succ d ih=>
  intro hd l hl
  have ih:=ih (by omega)
  refine L.s_l2Body (by simp[kV]) ?_
  have h1:¬((d+1:Nat):Int)<1:=by omega
  simp only[kV,go_sem,rE,h1,St.encs_map,am]
  refine aG (fun hgt=>?_) (fun hle=>?_)
  ·simp only[go_sem,rE]
   refine ak (.refl _) (aj.sub_empty _) ⟨?_,rfl⟩
   have:cb (d+1) l=false:=by simp only[cb,cO,decide_eq_false_iff_not];exact .inl (by omega)
   simp only[go_sem,this]
  ·simp only[go_sem,rE]
   refine aT l.length (fun k E H=>E 0=.sl 15 none (l.map St.enc)/\E 1=I (d+1:Nat)/\E 5=I k/\(l.take k).all (de (cb d))=true) ⟨rfl,rfl,rfl,by simp⟩ ?_
   rintro k E H hk ⟨e0,e1,e5,hall⟩
   simp only[go_sem,rE,e0,e5,am]
   refine aG (fun hlt=>?_) (fun hge=>?_)
   ·have hk1:k<l.length:=by omega
    have w1:=aL (n:=(k:Int)+1) (by omega) (by omega)
    have hm:=vG (ay hk1)
    rw[dy]at hm
    have ht:=iZ l[k].thn
    have hel:=iZ l[k].els
    simp only[go_sem,rE,e0,e1,e5,yf hk1,Bs,st_take]
    refine ao (uM L (d+1) (by omega) hd (cb d) l[k] (by omega) ?_) (rfl) ?_
    ·intro x hx
     rw[Nat.add_sub_cancel]
     rcases hx with rfl|rfl
     ·exact ih _ (by omega)
     ·exact ih _ (by omega)
    ·cases ho:de (cb d) l[k]
     ·simp only[go_sem,rE]
      refine ak (.refl _) (aj.sub_empty _) ⟨?_,rfl⟩
      have:l.all (de (cb d))=false:=by rw[du];exact⟨_,ay hk1,by rw[ho];exact fL⟩
      simp only[go_sem,cb,this,aO]
     ·simp only[go_sem,rE,e5,w1]
      refine⟨hk1,H,aj.sub_refl _,e0,e1,by simp,?_⟩
      rw[aA hk1,eG,hall]
      simp[ho]
   ·have hkk:k=l.length:=by omega
    subst hkk
    rw[aU]at hall
    simp only[go_sem,rE]
    refine ak (.refl _) (aj.sub_empty _) ⟨?_,rfl⟩
    have:cb (d+1) l=true:=by simp only[cb,hall,fO,decide_eq_true_eq];omega
    simp only[go_sem,this]
theorem Ck(L:Lib P F)(d:Nat)(hd:1<=d)(hd2:d<=100)(s:St)(hc:s.cnt<=2^30):cM P F.s_l2Stmt [.agg s.enc,I d] (B (s.okB d)):=by
 rw[dy]at hc
 have ht:=iZ s.thn
 have hel:=iZ s.els
 refine uM L d hd hd2 (cb (d - 1)) s (by omega) ?_
 rintro l (rfl|rfl)
 ·exact tE L _ (by omega) _ (by omega)
 ·exact tE L _ (by omega) _ (by omega)
theorem AL(L:Lib P F):∀(n:Nat),n<=2^30->∀(l:List St),bx l<=n->cM P F.s_l2Count [.sl 15 none (St.encs l)] (I (bN l)):=by
 intro n
 induction n with
 |zero=>
  intro _ l hl
  have:l=[]:=by
   cases l with
   |nil=>rfl
   |cons s l=>rw[cY,dy]at hl;omega
  subst this
  refine L.s_l2Count (by simp[jD]) ?_
  simp only[jD,go_sem,rE,St.encs_map,am]
  refine aT 0 (fun k E H=>E 0=.sl 15 none []/\E 3=I 0/\E 4=I 0) ⟨rfl,rfl,rfl⟩ ?_
  rintro k E H - ⟨e0,e3,e4⟩
  simp only[go_sem,rE,e0,e4]
  refine aG (fun h=>absurd h (by decide)) (fun _=>?_)
  simp only[go_sem,rE,e3]
  exact ak (.refl _) (aj.sub_empty _) ⟨by simp only[go_sem,fY];rfl,rfl⟩
 |succ n ih=>
  intro hn l hl
  have ih:=ih (by omega)
  have hlen:=iZ l
  refine L.s_l2Count (by simp[jD]) ?_
  simp only[jD,go_sem,rE,St.encs_map,am]
  have hnl:=(uT (n+1)).2 l hl
  refine aT l.length (fun k E H=>E 0=.sl 15 none (l.map St.enc)/\E 3=I ((l.length - k+bN (l.take k):Nat):Int)/\E 4=I k) ⟨rfl,by simp[go_sem,fY],rfl⟩ ?_
  rintro k E H hk ⟨e0,e3,e4⟩
  simp only[go_sem,rE,e0,e4,am]
  refine aG (fun hlt=>?_) (fun hge=>?_)
  ·have hk1:k<l.length:=by omega
   have w1:=aL (n:=(k:Int)+1) (by omega) (by omega)
   have hm:=vG (ay hk1)
   rw[dy]at hm
   obtain⟨cs,hcs,C⟩:=stC l[k]
   have hg:(l.map St.enc)[k]?=some cs:=by rw[<-hcs];exact yf hk1
   have hsplit:bN l=bN (l.take k)+(l[k].num+bN (l.drop (k+1))):=by
    conv=>lhs;rw[<-iw k l]
    rw[ov,bU hk1,gq]
   have htk:bN (l.take (k+1))=bN (l.take k)+l[k].num:=by
    rw[aA hk1,ov,gq,fY];omega
   have hld:=tO (l.drop (k+1))
   rw[eX]at hld
   rw[ml]at hsplit htk
   have w2:=aL (n:=((l.length - k+bN (l.take k):Nat):Int)+(bN l[k].thn:Nat)) (by omega) (by omega)
   have w3:=aL (n:=((l.length - k+bN (l.take k):Nat):Int)+(bN l[k].thn:Nat)+(bN l[k].els:Nat)) (by omega) (by omega)
   have c13:(cs.drop 13)[0]?=some (.sl 15 none (St.encs l[k].thn)):=by rw[bC];exact C.thn
   have c14:(cs.drop 14)[0]?=some (.sl 15 none (St.encs l[k].els)):=by rw[bC];exact C.els
   simp only[go_sem,rE,e0,e3,e4,hg,c13]
   refine ao (ih l[k].thn (by omega)) (rfl) ?_
   simp only[go_sem,rE,e0,e3,e4,hg,c14,w2]
   refine ao (ih l[k].els (by omega)) (rfl) ?_
   simp only[go_sem,rE,e0,e3,e4,w2,w3,w1]
   exact⟨hk1,H,aj.sub_refl _,congrArg (fun z:Int=>I z) (by rw[htk];omega),rfl⟩
  ·have hkk:k=l.length:=by omega
   subst hkk
   rw[aU]at e3
   simp only[go_sem,rE,e3]
   exact ak (.refl _) (aj.sub_empty _) ⟨by simp only[go_sem];exact congrArg (fun z:Int=>I z) (by omega),rfl⟩
end
section
variable {P:Program}{F:Ids}
theorem c_l2Fn(L:Lib P F)(f:Fu)(hc:bx f.body<=2^30):cM P F.s_l2Fn [.agg f.enc] (B f.okB):=by
 refine L.s_l2Fn (by simp[sq]) ?_
 obtain⟨cs,hcs,C⟩:=fuC f
 rw[hcs]
 simp only[sq,go_sem,rE,C.name]
 intro b hb
 have g1:(aj.empty.set b (.cells cs)).get b=some (.cells cs):=ai _ _ _
 generalize aj.empty.set b (.cells cs)=H1 at*
 have back:∀(E:Env) (H:aj) (c:Bool),E 2=B c->c=f.okB->aD.post [.slot 2] (fun q H'=>q=B f.okB/\H'=aj.empty) .ret E H:=by
  rintro E H c e4 rfl
  exact ak (.refl _) (aj.sub_empty _) ⟨e4,rfl⟩
 have cp1:cs[1]?=some (.sl 3 none (f.params.map Pa.enc)):=C.params
 have hnum:=(uT _).2 f.body (aC _)
 refine ao (oq L f.name) (rfl) ?_
 cases hn:bn f.name
 ·simp only[go_sem,rE,rA]
  exact back _ _ false (rfl) (by simp only[Fu.okB,hn,aK])
 ·by_cases h4:(f.params.length:Int)>4
  ·simp only[go_sem,rE,rA,g1,cp1,am,h4]
   refine back _ _ false (rfl) ?_
   have:decide (f.params.length<=4)=false:=by simp;omega
   simp only[Fu.okB,this,aK,aO]
  ·have h4':decide (f.params.length<=4)=true:=by simp;omega
   simp only[go_sem,rE,rA,g1,cp1,am,h4,C.len,C.type,rL]
   refine ao (qL L f.type) (rfl) ?_
   cases ht:f.type.okB
   ·simp only[go_sem,rE,rA]
    exact back _ _ false (rfl) (by simp only[Fu.okB,ht,aK,aO])
   ·simp only[go_sem,rE,rA,g1,C.body]
    refine ao (tE L 4 (by omega) f.body hc) (rfl) ?_
    cases hbd:cb 4 f.body
    ·simp only[go_sem,rE,rA]
     exact back _ _ false (rfl) (by simp only[Fu.okB,hbd,aK,aO])
    ·simp only[go_sem,rE,rA,g1,C.body]
     refine ao (AL L _ hc f.body (aC _)) (rfl) ?_
     by_cases h40:(bN f.body:Int)>40
     ·simp only[go_sem,rE,rA,h40]
      refine back _ _ false (rfl) ?_
      have:decide (bN f.body<=40)=false:=by simp;omega
      simp only[Fu.okB,this,aK,aO]
     ·have h40':decide (bN f.body<=40)=true:=by simp;omega
      have hpre:f.okB=(f.params.all Pa.okB&&(if f.lent then f.gives.okB&&f.says.noneB else f.gives.noneB&&f.says.okD 4)):=by simp only[Fu.okB,hn,h4',ht,hbd,h40',bX]
      simp only[go_sem,rE,rA,h40]
      refine aT f.params.length (fun k E H=>E 1=.ptr b 0/\E 3=I k/\H.get b=some (.cells cs)/\(f.params.take k).all Pa.okB=true) ⟨rfl,rfl,g1,by simp⟩ ?_
      rintro k E H hk ⟨e1,e3,g1,hall⟩
      simp only[wp_seq,go_sem,rE,rA,e1,e3,g1,cp1,am]
      refine aG (fun hlt=>?_) (fun hge=>?_)
      ·have hk1:k<f.params.length:=by omega
       have w1:=aL (n:=(k:Int)+1) (by omega) (by omega)
       obtain⟨cp,hcp,CP⟩:=paC f.params[k]
       have hgp:(f.params.map Pa.enc)[k]?=some cp:=by rw[<-hcp];simp[hk1]
       have no:f.params[k].okB=false->f.okB=false:=by
        intro h
        have:f.params.all Pa.okB=false:=by rw[du];exact⟨_,ay hk1,by rw[h];exact fL⟩
        rw[hpre,this,aK]
       have yes:f.params[k].okB=true->(f.params.take (k+1)).all Pa.okB=true:=by
        intro h
        rw[aA hk1,eG,hall];simp[h]
       have goE:f.params[k].okB=(bn f.params[k].name&&f.params[k].type.okB):=rfl
       generalize f.params[k]=p at*
       simp only[go_sem,rE,rA,e1,e3,g1,cp1,hgp,CP.name]
       refine ao (oq L p.name) (rfl) ?_
       cases hpn:bn p.name
       ·simp only[go_sem,rE,rA]
        exact back _ _ false (rfl) (by rw[no (by rw[goE,hpn];rfl)])
       ·simp only[go_sem,rE,rA,e1,e3,g1,cp1,hgp,CP.len,CP.type,eX,mn,rL]
        refine ao (qL L p.type) (rfl) ?_
        cases hpt:p.type.okB
        ·simp only[go_sem,rE,rA]
         exact back _ _ false (rfl) (by rw[no (by rw[goE,hpn,hpt];rfl)])
        ·simp only[go_sem,rE,rA,e3,w1]
         exact⟨hk1,H,aj.sub_refl _,e1,by simp,g1,yes (by rw[goE,hpn,hpt];rfl)⟩
      ·have hkk:k=f.params.length:=by omega
       subst hkk
       rw[aU]at hall
       rw[hall,bX]at hpre
       have cl:=C.lent
       cases hl:f.lent
       ·rw[hl]at cl hpre
        simp only[go_sem,rE,rA,e1,g1,cl,C.len,C.gives,rL]
        refine ao (jL L f.gives) (by simp only[go_sem,rE,Pl.enc]) ?_
        cases hg:f.gives.noneB
        ·simp only[go_sem,rE,rA]
         exact back _ _ false (rfl) (by rw[hpre,hg];rfl)
        ·simp only[go_sem,rE,rA,e1,g1,C.len,C.says,rL]
         refine ao (mj L 4 (by omega) f.says) (rfl) ?_
         simp only[go_sem,rE,rA]
         exact back _ _ (f.says.okD 4) (rfl) (by rw[hpre,hg];rfl)
       ·rw[hl]at cl hpre
        simp only[go_sem,rE,rA,e1,g1,cl,C.len,C.gives,rL]
        refine ao (kz L f.gives) (by simp only[go_sem,rE,Pl.enc]) ?_
        cases hg:f.gives.okB
        ·simp only[go_sem,rE,rA]
         exact back _ _ false (rfl) (by rw[hpre,hg];rfl)
        ·simp only[go_sem,rE,rA,e1,g1,C.len,C.says,rL]
         refine ao (jz L f.says) (rfl) ?_
         simp only[go_sem,rE,rA]
         exact back _ _ f.says.noneB (rfl) (by rw[hpre,hg];rfl)
theorem pU(f:Fu):f.enc.length=12:=by rw[Fu.enc_eq];rfl
theorem fu_take(f:Fu):f.enc.take 12=f.enc:=by rw[Fu.enc_eq];rfl
theorem Cl(L:Lib P F)(p:Pg)(hc:∀f∈p,bx f.body<=2^30):cM P F.s_l2Form [.agg (Pg.enc p)] (B (eR p)):=by
 refine L.s_l2Form (by simp[ph]) ?_
 simp only[ph,go_sem,rE,Pg.enc,am]
 intro b hb
 have g1:(aj.empty.set b (.cells [.sl 12 none (p.map Fu.enc)])).get b=some (.cells [.sl 12 none (p.map Fu.enc)]):=ai _ _ _
 refine aG (fun hgt=>?_) (fun hle=>?_)
 ·simp only[go_sem,rE]
  refine ak (.refl _) (aj.sub_empty _) ⟨?_,rfl⟩
  have:eR p=false:=by simp only[eR,cO,decide_eq_false_iff_not];exact .inl (by omega)
  simp only[go_sem,this]
 ·simp only[go_sem,rE]
  refine aT p.length (fun k E H=>E 1=.ptr b 0/\E 3=I k/\H.get b=some (.cells [.sl 12 none (p.map Fu.enc)])/\(p.take k).all Fu.okB=true) ⟨rfl,rfl,g1,by simp⟩ ?_
  rintro k E H hk ⟨e1,e3,g1,hall⟩
  simp only[go_sem,rE,rA,e1,e3,g1,am]
  refine aG (fun hlt=>?_) (fun hge=>?_)
  ·have hk1:k<p.length:=by omega
   have w1:=aL (n:=(k:Int)+1) (by omega) (by omega)
   simp only[go_sem,rE,rA,e1,e3,g1,vC hk1,pU,fu_take]
   refine ao (c_l2Fn L p[k] (hc _ (ay hk1))) (rfl) ?_
   cases ho:p[k].okB
   ·simp only[go_sem,rE]
    refine ak (.refl _) (aj.sub_empty _) ⟨?_,rfl⟩
    have:p.all Fu.okB=false:=by rw[du];exact⟨_,ay hk1,by rw[ho];exact fL⟩
    simp only[go_sem,eR,this,aO]
   ·simp only[go_sem,rE,e3,w1]
    refine⟨hk1,H,aj.sub_refl _,e1,by simp,g1,?_⟩
    rw[aA hk1,eG,hall]
    simp[ho]
  ·have hkk:k=p.length:=by omega
   subst hkk
   rw[aU]at hall
   simp only[go_sem,rE]
   refine ak (.refl _) (aj.sub_empty _) ⟨?_,rfl⟩
   have:eR p=true:=by simp only[eR,hall,fO,decide_eq_true_eq];omega
   simp only[go_sem,this]
end
section
variable {P:Program}{F:Ids}
theorem ij(L:Lib P F)(s:ByteArray):cM P F.i_nameForm [S s] (B (bn s)):=by
 refine L.i_nameForm (by simp[je]) ?_
 have hsz:s.data.toList.length=s.size:=rfl
 by_cases h1:s.size<1
 ·have h1':(s.size:Int)<1:=by omega
  simp only[je,go_sem,rE,h1',decide_true]
  exact ak (.refl _) (aj.sub_empty _) ⟨by simp only[go_sem,bn];simp;omega,rfl⟩
 ·have h1':¬(s.size:Int)<1:=by omega
  by_cases h6:s.size>6
  ·have h6':(s.size:Int)>6:=by omega
   simp only[je,go_sem,rE,h1',h6',decide_true,decide_false]
   refine ak (.refl _) (aj.sub_empty _) ⟨?_,rfl⟩
   have:bn s=false:=by
    simp only[bn,cO,decide_eq_false_iff_not];exact .inr (.inl (by omega))
   simp only[go_sem,this]
  ·have h6':¬(s.size:Int)>6:=by omega
   simp only[je,go_sem,rE,h1',h6',decide_false]
   refine aT s.size (fun k E H=>E 0=S s/\E 13=I s.size/\E 14=I k/\(s.data.toList.take k).all ju=true) ⟨rfl,rfl,rfl,by simp⟩ ?_
   rintro k E H hk ⟨e0,e13,e14,hall⟩
   simp only[wp_seq,go_sem,rE,e0,e13,e14]
   refine aG (fun hlt=>?_) (fun hge=>?_)
   ·have hk1:k<s.size:=by omega
    have w1:=aL (n:=(k:Int)+1) (by omega) (by omega)
    have hb:=xF hk1
    have htk:s.data.toList.take (k+1)=s.data.toList.take k++[s.data.toList[k]]:=aA hk1
    have no:ju s.data.toList[k]=false->bn s=false:=by
     intro h
     have:s.data.toList.all ju=false:=by rw[du];exact⟨_,ay hk1,by rw[h];exact fL⟩
     simp only[bn,this,aO]
    generalize s.data.toList[k]=c at*
    simp only[go_sem,rE,e0,e14,hb]
    by_cases ha:(c.toNat:Int)<97
    ·simp only[go_sem,rE,ha,decide_true]
     exact ak (.refl _) (aj.sub_empty _) ⟨by simp only[go_sem];rw[no (by simp[ju];omega)],rfl⟩
    ·simp only[go_sem,rE,ha,e0,e14,hb,decide_false]
     by_cases hz:(c.toNat:Int)>122
     ·simp only[go_sem,rE,hz,decide_true]
      exact ak (.refl _) (aj.sub_empty _) ⟨by simp only[go_sem];rw[no (by simp[ju];omega)],rfl⟩
     ·simp only[go_sem,rE,hz,e14,w1,decide_false]
      refine⟨hk1,H,aj.sub_refl _,e0,e13,by simp,?_⟩
      rw[htk,eG,hall]
      simp[ju];omega
   ·have hkk:k=s.size:=by omega
    subst hkk
    simp only[go_sem,rE]
    rw[<-hsz,aU]at hall
    refine ak (.refl _) (aj.sub_empty _) ⟨?_,rfl⟩
    have:bn s=true:=by simp only[bn,hall,fO,aw,decide_eq_true_eq];omega
    simp only[go_sem,this]
theorem yR(L:Lib P F)(p:List Int):cM P F.i_pathForm [au p] (B (gj p)):=by
 refine L.i_pathForm (by simp[mD]) ?_
 simp only[mD,go_sem,rE,au,am]
 by_cases h4:(p.length:Int)>4
 ·simp only[go_sem,rE,h4,decide_true]
  refine ak (.refl _) (aj.sub_empty _) ⟨?_,rfl⟩
  have:gj p=false:=by simp only[gj,cO,decide_eq_false_iff_not];exact .inl (by omega)
  simp only[go_sem,this]
 ·simp only[go_sem,rE,h4,decide_false]
  refine aT p.length (fun k E H=>E 8=.sl 1 none (p.map fun i=>[I i])/\E 9=I p.length/\E 10=I k/\((p.take k).all fun i=>decide (0<=i/\i<=1))=true) ⟨by simp[go_sem],by simp[go_sem],by simp[go_sem],by simp⟩ ?_
  rintro k E H hk ⟨e8,e9,e10,hall⟩
  simp only[wp_seq,go_sem,rE,e9,e10]
  refine aG (fun hlt=>?_) (fun hge=>?_)
  ·have hk1:k<p.length:=by omega
   have w1:=aL (n:=(k:Int)+1) (by omega) (by omega)
   have no:¬(0<=p[k]/\p[k]<=1)->gj p=false:=by
    intro hi
    have:(p.all fun i=>decide (0<=i/\i<=1))=false:=by rw[du];exact⟨_,ay hk1,by simpa using hi⟩
    simp only[gj,this,aO]
   have htk:p.take (k+1)=p.take k++[p[k]]:=aA hk1
   simp only[go_sem,rE,e8,e10,ji hk1]
   by_cases ha:p[k]<0
   ·simp only[go_sem,rE,ha,decide_true]
    exact ak (.refl _) (aj.sub_empty _) ⟨by simp only[go_sem];rw[no (by omega)],rfl⟩
   ·simp only[go_sem,rE,ha,decide_false]
    by_cases hz:p[k]>1
    ·simp only[go_sem,rE,hz,decide_true]
     exact ak (.refl _) (aj.sub_empty _) ⟨by simp only[go_sem];rw[no (by omega)],rfl⟩
    ·simp only[go_sem,rE,hz,e10,w1,decide_false]
     refine⟨hk1,H,aj.sub_refl _,e8,e9,by simp,?_⟩
     rw[htk,eG,hall]
     simp;omega
  ·have hkk:k=p.length:=by omega
   subst hkk
   rw[aU]at hall
   simp only[go_sem,rE]
   refine ak (.refl _) (aj.sub_empty _) ⟨?_,rfl⟩
   have:gj p=true:=by simp only[gj,hall,fO,decide_eq_true_eq];omega
   simp only[go_sem,this]
theorem ii(L:Lib P F)(p:Pl):cM P F.i_placeForm [.agg p.enc] (B p.okB):=by
 refine L.i_placeForm (by simp[lU]) ?_
 simp only[lU,go_sem,rE,Pl.enc]
 intro b hb
 refine ao (ij L p.name) (rfl) ?_
 cases hn:bn p.name
 ·simp only[go_sem,rE]
  exact ak (.refl _) (aj.sub_empty _) ⟨by simp only[go_sem,Pl.okB,hn,aK],rfl⟩
 ·simp only[go_sem,rE]
  refine ao (yR L p.path) (rfl) ?_
  simp only[go_sem,rE]
  exact ak (.refl _) (aj.sub_empty _) ⟨by simp only[go_sem,Pl.okB,hn,bX],rfl⟩
theorem ig(L:Lib P F)(p:Pl):cM P F.i_placeNothing [.agg p.enc] (B p.noneB):=by
 refine L.i_placeNothing (by simp[js]) ?_
 simp only[js,go_sem,rE,Pl.enc,au]
 intro b hb
 by_cases h:p.name=bl []
 ·simp only[go_sem,rE,h,am]
  refine ak (.refl _) (aj.sub_empty _) ⟨?_,rfl⟩
  simp only[go_sem,rE,Pl.noneB,h]
  congr 2
  rw[aZ];simp
 ·simp only[go_sem,rE,h]
  exact ak (.refl _) (aj.sub_empty _) ⟨by simp only[go_sem,Pl.noneB,h,aK],rfl⟩
theorem gM(L:Lib P F)(e:Ex):cM P F.i_exprNothing [.agg e.enc] (B e.noneB):=by
 refine L.i_exprNothing (by simp[jR]) ?_
 rw[Ex.enc_eq]
 simp only[jR,go_sem,rE]
 intro b hb
 by_cases h1:e.kind=0
 ·by_cases h2:e.num=0
  ·simp only[go_sem,rE,h1,h2,beq_self_eq_true,rL,rA]
   refine ao (ig L e.place) (by simp only[go_sem,rE,Pl.enc]) ?_
   cases h3:e.place.noneB
   ·simp only[go_sem,rE]
    exact ak (.refl _) (aj.sub_empty _) ⟨by simp only[go_sem,Ex.noneB,h3,aK,aO],rfl⟩
   ·simp only[go_sem,rE,Ex.encs_map,am]
    refine ak (.refl _) (aj.sub_empty _) ⟨?_,rfl⟩
    simp only[go_sem,rE,Ex.noneB,h1,h2,h3,bX]
    congr 2
    rw[aZ];simp
  ·have h2':(e.num==0)=false:=by simpa using h2
   simp only[go_sem,rE,h1,h2',beq_self_eq_true]
   exact ak (.refl _) (aj.sub_empty _) ⟨by simp only[go_sem,Ex.noneB,h2,aK,aO],rfl⟩
 ·have h1':(e.kind==0)=false:=by simpa using h1
  simp only[go_sem,rE,h1']
  exact ak (.refl _) (aj.sub_empty _) ⟨by simp only[go_sem,Ex.noneB,h1,aK],rfl⟩
theorem ol(L:Lib P F)(t:Ty):cM P F.i_typeIsNum [.agg t.enc] (B (decide (t.kids.length=0))):=by
 refine L.i_typeIsNum (by simp[lS]) ?_
 rw[Ty.enc_eq]
 simp only[lS,go_sem,rE,Ty.encs_map,am]
 intro b hb
 refine ak (.refl _) (aj.sub_empty _) ⟨?_,rfl⟩
 simp only[go_sem,rE]
 congr 2
 rw[aZ];simp
theorem qP{n:Nat}{a b:Ty}:(Ty.mk [a,b]).deepB (n+1)=(a.deepB n&&b.deepB n):=by
 simp[Ty.deepB]
theorem yO(L:Lib P F):∀(n:Nat) (t:Ty),n<=100->cM P F.i_typeFits [.agg t.enc,I n] (B (t.deepB n)):=by
 intro n
 induction n with
 |zero=>
  rintro⟨ks⟩ -
  refine L.i_typeFits (by simp[jd]) ?_
  simp only[jd,go_sem,rE,Ty.enc]
  intro b1 hb1
  simp only[go_sem,rE,cW,show(0:Int)<1 from by decide]
  exact ak (.refl _) (aj.sub_empty _) ⟨by simp only[go_sem,Ty.deepB],rfl⟩
 |succ n ih=>
  rintro⟨ks⟩ hn
  refine L.i_typeFits (by simp[jd]) ?_
  simp only[jd,go_sem,rE,Ty.enc]
  intro b1 hb1
  have h1:¬((n+1:Nat):Int)<1:=by omega
  have w1:=aL (n:=((n+1:Nat):Int) - 1) (by omega) (by omega)
  have hd:((n+1:Nat):Int) - 1=n:=by omega
  rw[hd]at w1
  simp only[go_sem,rE,h1,Ty.encs_map,am]
  by_cases hl0:ks.length=0
  ·have hks:ks=[]:=bu hl0
   subst hks
   simp only[go_sem,rE,cW,beq_self_eq_true]
   exact ak (.refl _) (aj.sub_empty _) ⟨by simp[fR,Ty.deepB],rfl⟩
  ·have hb0:((ks.length:Int)==0)=false:=by simpa using hl0
   by_cases hl2:ks.length=2
   ·obtain⟨a,c,rfl⟩:∃a c,ks=[a,c]:=by
     match ks,hl2 with
     |[a,c],_=>exact⟨a,c,rfl⟩
    have hb2:(((2:Nat):Int)==2)=true:=by decide
    have hb0':(((2:Nat):Int)==0)=false:=by decide
    simp only[go_sem,rE,rA,hb0',hb2,hd,w1,aS,bv,Ty.enc_eq a,Ty.enc_eq c,rL,dO,Int.reduceToNat,dz]
    have hb1g:(aj.empty.set b1 (.cells [.sl 1 none [[.sl 1 none (Ty.encs a.kids)],[.sl 1 none (Ty.encs c.kids)]]])).get b1=some (.cells [.sl 1 none [[.sl 1 none (Ty.encs a.kids)],[.sl 1 none (Ty.encs c.kids)]]]):=ai _ _ _
    refine ao (ih a (by omega)) (by simp only[go_sem,rE,Ty.enc_eq a]) ?_
    cases ha:a.deepB n
    ·simp only[go_sem,rE]
     exact ak (.refl _) (aj.sub_empty _) ⟨by simp only[go_sem,qP,ha,aK],rfl⟩
    ·simp only[go_sem,rE,rA,hb1g,hd,w1,rL,dO,Int.reduceToNat,dz]
     refine ao (ih c (by omega)) (by simp only[go_sem,rE,Ty.enc_eq c]) ?_
     simp only[go_sem,rE]
     exact ak (.refl _) (aj.sub_empty _) ⟨by simp only[go_sem,qP,ha,bX],rfl⟩
   ·have hb2:((ks.length:Int)==2)=false:=by rw[beq_eq_false_iff_ne];omega
    simp only[go_sem,rE,hb0,hb2,am]
    refine ak (.refl _) (aj.sub_empty _) ⟨?_,rfl⟩
    simp[go_sem,Ty.deepB,hl0,hl2]
theorem oJ(L:Lib P F)(t:Ty):cM P F.i_TypeOk [.agg t.enc] (B t.okB):=by
 refine L.i_TypeOk (by simp[pF]) ?_
 have h:=yO L 4 t (by omega)
 rw[Ty.enc_eq]at h⊢
 simp only[pF,go_sem,rE]
 intro b hb
 refine ao h (rfl) ?_
 simp only[go_sem,rE]
 exact ak (.refl _) (aj.sub_empty _) ⟨rfl,rfl⟩
end
structure Tys(F:Ids):Prop where
 e1:¬F.T_i_exprRead=F.T_i_exprNum
 e2:¬F.T_i_exprTwo=F.T_i_exprNum
 e3:¬F.T_i_exprTwo=F.T_i_exprRead
 s12:¬F.T_i_stmtLend=F.T_i_stmtLet
 s13:¬F.T_i_stmtSet=F.T_i_stmtLet
 s14:¬F.T_i_stmtCall=F.T_i_stmtLet
 s15:¬F.T_i_stmtIf=F.T_i_stmtLet
 s16:¬F.T_i_stmtPick=F.T_i_stmtLet
 s23:¬F.T_i_stmtSet=F.T_i_stmtLend
 s24:¬F.T_i_stmtCall=F.T_i_stmtLend
 s25:¬F.T_i_stmtIf=F.T_i_stmtLend
 s26:¬F.T_i_stmtPick=F.T_i_stmtLend
 s34:¬F.T_i_stmtCall=F.T_i_stmtSet
 s35:¬F.T_i_stmtIf=F.T_i_stmtSet
 s36:¬F.T_i_stmtPick=F.T_i_stmtSet
 s45:¬F.T_i_stmtIf=F.T_i_stmtCall
 s46:¬F.T_i_stmtPick=F.T_i_stmtCall
 s56:¬F.T_i_stmtPick=F.T_i_stmtIf
abbrev gW:AC:=.lit .nilIface
def shE(F:Ids)(e:Ex):AC:=
 if e.kind=1 then(if e.place.noneB&&decide (e.kids.length=0)then .iface F.T_i_exprNum (.agg [I e.num])else gW)
 else if e.kind=2 then(if decide (e.num=0)&&decide (e.kids.length=0)then .iface F.T_i_exprRead (.agg e.place.enc)else gW)
 else if 3<=e.kind/\e.kind<=6 then(match e.kids with
  |[a,b]=>if decide (e.num=0)&&e.place.noneB then .iface F.T_i_exprTwo (.agg (I e.kind::(a.enc++b.enc)))else gW
  |_=>gW)
 else gW
section
variable {P:Program}{F:Ids}
theorem xD(L:Lib P F)(e:Ex):cM P F.i_exprOf [.agg e.enc] (shE F e):=by
 refine L.i_exprOf (by simp[pE]) ?_
 rw[Ex.enc_eq]
 simp only[pE,go_sem,rE]
 intro b1 hb1
 simp only[go_sem,rE,rA,rL]
 intro b3 hb3
 have d13:b1≠b3:=al (ai _ _ _) hb3
 simp only[go_sem,rE,rA,d13,Ne.symm d13,rL]
 have fin:∀(E':Env) (H':aj) (q:AC),E' 2=q->q=shE F e->aD.post [.slot 2] (fun q H'=>q=shE F e/\H'=.empty) .ret E' H':=fun E' H' q h1 h2=>ak (by rw[h1,h2];exact .refl _) (aj.sub_empty _) ⟨rfl,rfl⟩
 by_cases k1:e.kind=1
 ·have k1':(e.kind==1)=true:=by simpa using k1
  simp only[k1',go_sem,rE,rA,d13,Ne.symm d13,rL]
  refine ao (gM L (.mk 0 0 e.place e.kids)) (by simp only[go_sem,rE,Ex.enc,au]) ?_
  have hn:(Ex.mk 0 0 e.place e.kids).noneB=(e.place.noneB&&decide (e.kids.length=0)):=by simp[Ex.noneB,Ex.kind,Ex.num,Ex.place,Ex.kids]
  rw[hn]
  cases hc:e.place.noneB&&decide (e.kids.length=0)
  ·simp only[go_sem,rE]
   exact fin _ _ gW (rfl) (by rw[shE,if_pos k1,hc];rfl)
  ·simp only[go_sem,rE]
   exact fin _ _ (.iface F.T_i_exprNum (.agg [I e.num])) (rfl) (by rw[shE,if_pos k1,hc];rfl)
 have k1':(e.kind==1)=false:=by simpa using k1
 by_cases k2:e.kind=2
 ·have k2':(e.kind==2)=true:=by simpa using k2
  simp only[k1',k2',go_sem,rE,rA,d13,Ne.symm d13,rL]
  refine gI (as':=[.agg [I 0,I e.num,S (bl []),NIL,.sl 5 none (Ex.encs e.kids)]]) (gM L (.mk 0 e.num ⟨bl [],[]⟩ e.kids)) (rfl) ⟨.agg ?_,trivial⟩ ?_
  ·rw[Ex.enc];exact⟨⟨.refl _,rfl⟩,⟨.refl _,rfl⟩,⟨.refl _,rfl⟩,⟨.nil 1,rfl⟩,⟨.refl _,rfl⟩,trivial⟩
  have hn:(Ex.mk 0 e.num ⟨bl [],[]⟩ e.kids).noneB=(decide (e.num=0)&&decide (e.kids.length=0)):=by
   show(decide ((0:Int)=0)&&(decide (e.num=0)&&((decide (bl []=bl [])&&decide (([]:List Int).length=0))&&decide (e.kids.length=0))))=_
   simp
  rw[hn]
  cases hc:decide (e.num=0)&&decide (e.kids.length=0)
  ·simp only[go_sem,rE]
   exact fin _ _ gW (rfl) (by rw[shE,if_neg k1,if_pos k2,hc];rfl)
  ·simp only[go_sem,rE]
   exact fin _ _ (.iface F.T_i_exprRead (.agg e.place.enc)) (by simp only[go_sem,rE,Pl.enc]) (by rw[shE,if_neg k1,if_pos k2,hc];rfl)
 have k2':(e.kind==2)=false:=by simpa using k2
 by_cases k36:3<=e.kind/\e.kind<=6
 ·
  have two:∀(E:Env) (A:Env->aj->Prop) (H:aj),E 1=.ptr b1 0->E 3=.ptr b3 0->H.get b1=some (.cells [I e.kind,I e.num,S e.place.name,au e.place.path,.sl 5 none (Ex.encs e.kids)])->H.get b3=some (.cells [I 0,I e.num,S e.place.name,au e.place.path,.sl 5 none (Ex.encs e.kids)])->
   (∀E' H',E' 3=.ptr b3 0->H'.get b3=some (.cells [I 0,I e.num,S e.place.name,au e.place.path,NIL])->(∃a b,e.kids=[a,b]/\E' 4=.iface F.T_i_exprTwo (.agg (I e.kind::(a.enc++b.enc))))->A E' H')->
   aX.wp P (.seq (.seq (rg [fa 0 29 4 1,ld 1 30 none 29,pu 2 31 (.lenSl 30),pu 3 32 (.bin .neq 31 (ci 2))]) (.cond 32 (.seq (rg [mv 0 2 (.const .nilIface)]) .ret) .skip)) (.seq (.region true [fa 0 33 0 1,ld 1 34 none 33,fa 2 35 4 1,ld 3 36 none 35,pu 4 37 (.indexAddr 5 36 (ci 0)),ld 5 38 (some 5) 37,fa 6 39 4 1,ld 7 40 none 39,pu 8 41 (.indexAddr 5 40 (ci 1)),ld 9 42 (some 5) 41,pu 10 43 (.build [.int .i64 0,.int .i64 0,.int .i64 0,.string (bl []),.slice none 0 0,.slice none 0 0,.int .i64 0,.int .i64 0,.string (bl []),.slice none 0 0,.slice none 0 0] [(0,(1,34)),(1,(5,38)),(6,(5,42))]),pu 11 44 (.mkIface F.T_i_exprTwo 43),mv 12 4 44]) (rg [fa 0 45 4 3,en 1 (.store 1 45 (.const (.slice none 0 0)))]))) (cL.inBlock 0 (cL.then A (aD.post [.slot 2] (fun q H'=>q=shE F e/\H'=.empty)))) E H:=by
   intro E A H e1 e3 g1 g3 hA
   simp only[go_sem,rE,rA,d13,Ne.symm d13,rL,e1,g1,Ex.encs_map,am]
   by_cases hl:e.kids.length=2
   ·obtain⟨a,c,hks⟩:∃a c,e.kids=[a,c]:=by
     match e.kids,hl with
     |[a,c],_=>exact⟨a,c,rfl⟩
    have hb2:(((2:Nat):Int) !=2)=false:=by decide
    simp only[go_sem,rE,rA,d13,Ne.symm d13,rL,hks,hb2,e1,e3,g1,g3,Ex.encs_map,aS,bv,Ex.enc_eq a,Ex.enc_eq c,dO,Int.reduceToNat,dz]
    exact hA _ _ (e3) (ai _ _ _) ⟨a,c,hks,by simp only[go_sem,rE,Ex.enc_eq a,Ex.enc_eq c,Ex.encs_map]⟩
   ·have hb2:((e.kids.length:Int) !=2)=true:=by rw[bne_iff_ne];omega
    simp only[go_sem,rE,rA,d13,Ne.symm d13,rL,hb2]
    refine fin _ _ gW (rfl) ?_
    rw[shE,if_neg k1,if_neg k2,if_pos k36]
    split
    ·rename_i h;rw[h]at hl;simp at hl
    ·rfl
  generalize((.seq (.seq (rg [fa 0 29 4 1,ld 1 30 none 29,pu 2 31 (.lenSl 30),pu 3 32 (.bin .neq 31 (ci 2))]) (.cond 32 (.seq (rg [mv 0 2 (.const .nilIface)]) .ret) .skip)) (.seq (.region true [fa 0 33 0 1,ld 1 34 none 33,fa 2 35 4 1,ld 3 36 none 35,pu 4 37 (.indexAddr 5 36 (ci 0)),ld 5 38 (some 5) 37,fa 6 39 4 1,ld 7 40 none 39,pu 8 41 (.indexAddr 5 40 (ci 1)),ld 9 42 (some 5) 41,pu 10 43 (.build [.int .i64 0,.int .i64 0,.int .i64 0,.string (bl []),.slice none 0 0,.slice none 0 0,.int .i64 0,.int .i64 0,.string (bl []),.slice none 0 0,.slice none 0 0] [(0,(1,34)),(1,(5,38)),(6,(5,42))]),pu 11 44 (.mkIface F.T_i_exprTwo 43),mv 12 4 44]) (rg [fa 0 45 4 3,en 1 (.store 1 45 (.const (.slice none 0 0)))]))):aX)=RT at two⊢
  have b6:e.kind=3\/e.kind=4\/e.kind=5\/e.kind=6:=by omega
  have rest:∀(E:Env) (H:aj) (a b:Ex),e.kids=[a,b]->E 3=.ptr b3 0->H.get b3=some (.cells [I 0,I e.num,S e.place.name,au e.place.path,NIL])->E 4=.iface F.T_i_exprTwo (.agg (I e.kind::(a.enc++b.enc)))->
   aX.wp P (.seq (.seq (rg [mv 0 46 4,pu 1 47 (.isNil false 46),mv 2 48 47,gl 3 49 48 false (some 5) 3,⟨4,some 50,some (48,false),.eff (.call F.i_exprNothing [49]),[]⟩,gp 5 51 48 false (.not 50),pu 6 52 (.pick 48 ct 51)]) (.cond 52 (.seq (rg [mv 0 2 (.const .nilIface)]) .ret) .skip)) (.seq (rg [mv 0 53 4,mv 1 2 53]) .ret)) (aD.post [.slot 2] (fun q H'=>q=shE F e/\H'=.empty)) E H:=by
   intro E H a b hks e3 g3 e4
   simp only[go_sem,rE,rA,d13,Ne.symm d13,rL,e3,e4,g3]
   refine gI (as':=[.agg [I 0,I e.num,S e.place.name,au e.place.path,NIL]]) (gM L (.mk 0 e.num e.place [])) (rfl) ⟨.agg ?_,trivial⟩ ?_
   ·rw[Ex.enc];exact⟨⟨.refl _,rfl⟩,⟨.refl _,rfl⟩,⟨.refl _,rfl⟩,⟨.refl _,rfl⟩,⟨.nil 5,rfl⟩,trivial⟩
   have hn:(Ex.mk 0 e.num e.place []).noneB=(decide (e.num=0)&&e.place.noneB):=by
    show(decide ((0:Int)=0)&&(decide (e.num=0)&&(e.place.noneB&&decide (([]:List Ex).length=0))))=_
    simp
   rw[hn]
   cases hc:decide (e.num=0)&&e.place.noneB
   ·simp only[go_sem,rE]
    exact fin _ _ gW (rfl) (by rw[shE,if_neg k1,if_neg k2,if_pos k36,hks];simp only[hc];rfl)
   ·simp only[go_sem,rE,e4]
    exact fin _ _ (.iface F.T_i_exprTwo (.agg (I e.kind::(a.enc++b.enc)))) (by simp only[go_sem,rE,e4]) (by rw[shE,if_neg k1,if_neg k2,if_pos k36,hks];simp only[hc];rfl)
  generalize((.seq (.seq (rg [mv 0 46 4,pu 1 47 (.isNil false 46),mv 2 48 47,gl 3 49 48 false (some 5) 3,⟨4,some 50,some (48,false),.eff (.call F.i_exprNothing [49]),[]⟩,gp 5 51 48 false (.not 50),pu 6 52 (.pick 48 ct 51)]) (.cond 52 (.seq (rg [mv 0 2 (.const .nilIface)]) .ret) .skip)) (.seq (rg [mv 0 53 4,mv 1 2 53]) .ret)):aX)=RR at rest⊢
  have g1E:((aj.empty.set b1 (.cells [I e.kind,I e.num,S e.place.name,au e.place.path,.sl 5 none (Ex.encs e.kids)])).set b3 (.cells [I 0,I e.num,S e.place.name,au e.place.path,.sl 5 none (Ex.encs e.kids)])).get b1=some (.cells [I e.kind,I e.num,S e.place.name,au e.place.path,.sl 5 none (Ex.encs e.kids)]):=by rw[ae _ _ d13,ai]
  rcases b6 with h|h|h|h
  ·have q3:(e.kind==3)=true:=by rw[h];rfl
   simp only[k1',k2',q3,go_sem,rE,rA,d13,Ne.symm d13,rL]
   exact two _ _ _ (rfl) (rfl) g1E (ai _ _ _) fun E' H' h3 hg ⟨a,b,hk,h4⟩=>rest E' H' a b hk h3 hg h4
  ·have q3:(e.kind==3)=false:=by rw[h];rfl
   have q4:(e.kind==4)=true:=by rw[h];rfl
   simp only[k1',k2',q3,q4,go_sem,rE,rA,d13,Ne.symm d13,rL]
   exact two _ _ _ (rfl) (rfl) g1E (ai _ _ _) fun E' H' h3 hg ⟨a,b,hk,h4⟩=>rest E' H' a b hk h3 hg h4
  ·have q3:(e.kind==3)=false:=by rw[h];rfl
   have q4:(e.kind==4)=false:=by rw[h];rfl
   have q5:(e.kind==5)=true:=by rw[h];rfl
   simp only[k1',k2',q3,q4,q5,go_sem,rE,rA,d13,Ne.symm d13,rL]
   exact two _ _ _ (rfl) (rfl) g1E (ai _ _ _) fun E' H' h3 hg ⟨a,b,hk,h4⟩=>rest E' H' a b hk h3 hg h4
  ·have q3:(e.kind==3)=false:=by rw[h];rfl
   have q4:(e.kind==4)=false:=by rw[h];rfl
   have q5:(e.kind==5)=false:=by rw[h];rfl
   have q6:(e.kind==6)=true:=by rw[h];rfl
   simp only[k1',k2',q3,q4,q5,q6,go_sem,rE,rA,d13,Ne.symm d13,rL]
   exact two _ _ _ (rfl) (rfl) g1E (ai _ _ _) fun E' H' h3 hg ⟨a,b,hk,h4⟩=>rest E' H' a b hk h3 hg h4
 ·have q3:(e.kind==3)=false:=beq_eq_false_iff_ne.2 (by omega)
  have q4:(e.kind==4)=false:=beq_eq_false_iff_ne.2 (by omega)
  have q5:(e.kind==5)=false:=beq_eq_false_iff_ne.2 (by omega)
  have q6:(e.kind==6)=false:=beq_eq_false_iff_ne.2 (by omega)
  simp only[k1',k2',q3,q4,q5,q6,go_sem,rE,rA,d13,Ne.symm d13,rL]
  exact fin _ _ gW (rfl) (by rw[shE,if_neg k1,if_neg k2,if_neg k36])
theorem zA{e:Ex}(d:Nat)(h:e.kind=1):e.okD (d+1)=((e.place.noneB&&decide (e.kids.length=0))&&decide (0<=e.num/\e.num<=9999)):=by
 simp only[Ex.okD,fu,jw,h,if_pos]
 rw[aZ]
 simp only[aw,dq,decide_eq_true_eq,aW]
 constructor
 ·rintro⟨⟨-,h2,h3⟩,h4,h5,h6⟩
  exact⟨⟨by simpa using h2,h6⟩,h5⟩
 ·rintro⟨⟨h1,h2⟩,h3⟩
  exact⟨⟨by simp,by simp[h1],by omega⟩,fun x hx=>by rw[bu h2]at hx;simp at hx,h3,h2⟩
theorem tc{e:Ex}(d:Nat)(h:e.kind=2):e.okD (d+1)=((decide (e.num=0)&&decide (e.kids.length=0))&&e.place.okB):=by
 have h1:¬(2:Int)=1:=by decide
 simp only[Ex.okD,fu,jw,h,if_pos,if_neg h1]
 rw[aZ]
 simp only[aw,dq,decide_eq_true_eq,aW]
 constructor
 ·rintro⟨⟨h1,-,-⟩,h4,h5,h6⟩
  exact⟨⟨by omega,h6⟩,h5⟩
 ·rintro⟨⟨h1,h2⟩,h3⟩
  exact⟨⟨.inr h1,.inl trivial,by omega⟩,fun x hx=>by rw[bu h2]at hx;simp at hx,h3,h2⟩
theorem vp{e:Ex}(d:Nat)(h:3<=e.kind/\e.kind<=6){a b:Ex}(hk:e.kids=[a,b]):e.okD (d+1)=((decide (e.num=0)&&e.place.noneB)&&(a.okD d&&b.okD d)):=by
 have h1:¬e.kind=1:=by omega
 have h2:¬e.kind=2:=by omega
 simp only[Ex.okD,fu,jw,if_neg h1,if_neg h2,hk]
 rw[aZ]
 simp[h1,h2,h.1,h.2]
theorem me{e:Ex}(d:Nat)(h1:¬e.kind=1)(h2:¬e.kind=2)(h:¬(3<=e.kind/\e.kind<=6)\/e.kids.length≠2):e.okD (d+1)=false:=by
 simp only[Ex.okD,fu,jw,if_neg h1,if_neg h2]
 rw[Bool.eq_false_iff]
 simp only[ne_eq,aw,decide_eq_true_eq]
 rintro⟨-,-,h3,h4⟩
 rcases h with h|h
 ·exact h h3
 ·exact h h4
theorem j3(L:Lib P F)(T:Tys F):∀(d:Nat),d<=100->∀(e:Ex),cM P F.i_exprForm [.agg e.enc,I d] (B (e.okD d)):=by
 intro d
 induction d with
 |zero=>
  intro _ e
  refine L.i_exprForm (by simp[jf]) ?_
  rw[Ex.enc_eq]
  simp only[jf,go_sem,rE]
  intro b1 hb1
  simp only[go_sem,rE,cW,show(0:Int)<1 from by decide]
  exact ak (.refl _) (aj.sub_empty _) ⟨by simp only[go_sem,Ex.okD],rfl⟩
 |succ d ih=>
  intro hd e
  refine L.i_exprForm (by simp[jf]) ?_
  have h1:¬((d+1:Nat):Int)<1:=by omega
  have w1:=aL (n:=((d+1:Nat):Int) - 1) (by omega) (by omega)
  have hdd:((d+1:Nat):Int) - 1=d:=by omega
  rw[hdd]at w1
  rw[Ex.enc_eq]
  simp only[jf,go_sem,rE]
  intro b2 hb2
  have fin:∀(E':Env) (H':aj) (q:Bool),E' 4=B q->q=e.okD (d+1)->aD.post [.slot 4] (fun q H'=>q=B (e.okD (d+1))/\H'=.empty) .ret E' H':=fun E' H' q h1 h2=>ak (by rw[h1,h2];exact .refl _) (aj.sub_empty _) ⟨rfl,rfl⟩
  simp only[h1,decide_false,go_sem,rE,rA,rL]
  refine ao (xD L e) (by simp only[go_sem,rE,Ex.enc_eq e]) ?_
  simp only[go_sem,rE]
  by_cases k1:e.kind=1
  ·have ho:=zA d k1
   rw[shE,if_pos k1]
   cases hc:e.place.noneB&&decide (e.kids.length=0)
   ·rw[hc]at ho
    simp only[go_sem,rE,rA,rL,ap,if_false]
    exact fin _ _ false (rfl) (by rw[ho];rfl)
   ·rw[hc]at ho
    simp only[go_sem,rE,rA,rL,if_true]
    intro b5 hb5
    by_cases h0:e.num>=0
    ·simp only[go_sem,rE,rA,rL,h0,decide_true]
     exact fin _ _ (decide (e.num<=9999)) (rfl) (by rw[ho];simp;omega)
    ·simp only[go_sem,rE,rA,rL,h0,decide_false]
     exact fin _ _ false (rfl) (by rw[ho];simp;omega)
  by_cases k2:e.kind=2
  ·have ho:=tc d k2
   rw[shE,if_neg k1,if_pos k2]
   cases hc:decide (e.num=0)&&decide (e.kids.length=0)
   ·rw[hc]at ho
    simp only[go_sem,rE,rA,rL,ap,if_false]
    exact fin _ _ false (rfl) (by rw[ho];rfl)
   ·rw[hc]at ho
    simp only[go_sem,rE,rA,rL,if_true,T.e1,if_false,Pl.enc]
    intro b6 hb6
    refine ao (ii L e.place) (by simp only[go_sem,rE,Pl.enc]) ?_
    simp only[go_sem,rE]
    exact fin _ _ e.place.okB (rfl) (by rw[ho];rfl)
  by_cases k36:3<=e.kind/\e.kind<=6
  ·by_cases hl:e.kids.length=2
   ·obtain⟨a,b,hks⟩:∃a c,e.kids=[a,c]:=by
     match e.kids,hl with
     |[a,c],_=>exact⟨a,c,rfl⟩
    have ho:=vp d k36 hks
    have hq:shE F e=if decide (e.num=0)&&e.place.noneB then .iface F.T_i_exprTwo (.agg (I e.kind::(a.enc++b.enc)))else gW:=by rw[shE,if_neg k1,if_neg k2,if_pos k36,hks]
    rw[hq]
    cases hc:decide (e.num=0)&&e.place.noneB
    ·rw[hc]at ho
     simp only[go_sem,rE,rA,rL,ap,if_false]
     exact fin _ _ false (rfl) (by rw[ho];rfl)
    ·rw[hc]at ho
     simp only[go_sem,rE,rA,rL,if_true,T.e2,T.e3,if_false,Ex.enc_eq a,Ex.enc_eq b,cB]
     intro b7 hb7
     simp only[go_sem,rE,rA,rL,hdd,w1]
     refine ao (ih (by omega) a) (by simp only[go_sem,rE,Ex.enc_eq a]) ?_
     cases ha:a.okD d
     ·simp only[go_sem,rE,rA,rL]
      exact fin _ _ false (rfl) (by rw[ho,ha];rfl)
     ·simp only[go_sem,rE,rA,rL,hdd,w1]
      refine ao (ih (by omega) b) (by simp only[go_sem,rE,Ex.enc_eq b]) ?_
      simp only[go_sem,rE]
      exact fin _ _ (b.okD d) (rfl) (by rw[ho,ha];rfl)
   ·have hq:shE F e=gW:=by
     rw[shE,if_neg k1,if_neg k2,if_pos k36]
     split
     ·rename_i h;rw[h]at hl;simp at hl
     ·rfl
    rw[hq]
    simp only[go_sem,rE,rA,rL]
    exact fin _ _ false (rfl) (me d k1 k2 (.inr hl)).symm
  ·rw[shE,if_neg k1,if_neg k2,if_neg k36]
   simp only[go_sem,rE,rA,rL]
   exact fin _ _ false (rfl) (me d k1 k2 (.inl k36)).symm
end
section
variable {P:Program}{F:Ids}
end
inductive StF(Bd:List St->Bool)(s:St):Prop where
 |let_ (k:s.kind=1) (n:bn s.name=true) (e:s.expr.okD 4=true)
 |lend (k:s.kind=2) (n:bn s.name=true) (p:s.place.okB=true)
 |set (k:s.kind=3) (p:s.place.okB=true) (e:s.expr.okD 4=true)
 |call (k:s.kind=4) (n:bn s.name=true) (f:bn s.fn=true) (a:eL s.args=true)
 |if_ (k:s.kind=5) (e:s.expr.okD 4=true) (t:Bd s.thn=true) (l:Bd s.els=true)
 |pick (k:s.kind=6) (n:bn s.name=true) (p:s.place.okB=true) (o:s.other.okB=true) (e:s.expr.okD 4=true)
section
variable {P:Program}{F:Ids}
end
structure FuF(f:Fu):Prop where
 name:bn f.name=true
 np:f.params.length<=4
 type:f.type.deepB 4=true
 body:cb 4 f.body=true
 num:bN f.body<=40
 params:∀p∈f.params,bn p.name=true/\p.type.deepB 4=true
 lent:f.lent=true->f.gives.okB=true/\f.says.noneB=true
 says:f.lent=false->f.gives.noneB=true/\f.says.okD 4=true
section
variable {P:Program}{F:Ids}
end
structure cT(H:aj)(m r:Nat)(bs:List UInt8)(e:Nat)(v:En)(VS NS:AC)(p last:Int):Prop where
 obj:H.get m=some (.cells [.ptr r 0,.ptr e 0,I last])
 rd:H.get r=some (RdO bs p)
 env:bF H e v VS NS
 mr:m≠r
 nm:¬aP e VS NS m
 nr:¬aP e VS NS r
def cD(m r e:Nat)(VS NS:AC)(d:Nat):Prop:=d=m\/d=r\/aP e VS NS d
theorem cT.mem{H:aj}{m r:Nat}{bs:List UInt8}{e:Nat}{v:En}{VS NS:AC}{p last:Int}(h:cT H m r bs e v VS NS p last){d:Nat}(hd:cD m r e VS NS d):H.get d≠none:=by
 rcases hd with rfl|rfl|hd
 ·rw[h.obj];simp
 ·rw[h.rd];simp
 ·exact h.env.mem hd
theorem cT.mono{H H':aj}{m r:Nat}{bs:List UInt8}{e:Nat}{v:En}{VS NS:AC}{p last:Int}(h:cT H m r bs e v VS NS p last)(hk:∀d,cD m r e VS NS d->H'.get d=H.get d):cT H' m r bs e v VS NS p last:=
 ⟨by rw[hk m (.inl rfl)];exact h.obj,by rw[hk r (.inr (.inl rfl))];exact h.rd,h.env.mono fun d hd=>hk d (.inr (.inr hd)),h.mr,h.nm,h.nr⟩
theorem cT.notin{H:aj}{m r:Nat}{bs:List UInt8}{e:Nat}{v:En}{VS NS:AC}{p last:Int}(h:cT H m r bs e v VS NS p last){b:Nat}(hb:H.get b=none):¬cD m r e VS NS b:=fun hd=>h.mem hd hb
theorem cT.new{H:aj}{m r:Nat}{bs:List UInt8}{e:Nat}{v:En}{VS NS:AC}{p last:Int}(h:cT H m r bs e v VS NS p last){b:Nat}(hb:H.get b=none)(o:cK):cT (H.set b o) m r bs e v VS NS p last:=
 h.mono fun d hd=>ae _ _ (by rintro rfl;exact h.mem hd hb)
theorem cT.put{H:aj}{m r:Nat}{bs:List UInt8}{e:Nat}{v:En}{VS NS:AC}{p last:Int}(h:cT H m r bs e v VS NS p last){b:Nat}(hb:¬cD m r e VS NS b)(o:cK):cT (H.set b o) m r bs e v VS NS p last:=
 h.mono fun d hd=>ae _ _ (by rintro rfl;exact hb hd)
theorem cT.setR{H:aj}{m r:Nat}{bs:List UInt8}{e:Nat}{v:En}{VS NS:AC}{p last:Int}(h:cT H m r bs e v VS NS p last)(p':Int):cT (H.set r (RdO bs p')) m r bs e v VS NS p' last:=
 ⟨by rw[ae _ _ h.mr];exact h.obj,ai _ _ _,h.env.mono fun d hd=>ae _ _ (by rintro rfl;exact h.nr hd),h.mr,h.nm,h.nr⟩
theorem cT.setL{H:aj}{m r:Nat}{bs:List UInt8}{e:Nat}{v:En}{VS NS:AC}{p last:Int}(h:cT H m r bs e v VS NS p last)(last':Int):cT (H.set m (.cells [.ptr r 0,.ptr e 0,I last'])) m r bs e v VS NS p last':=
 ⟨ai _ _ _,by rw[ae _ _ (Ne.symm h.mr)];exact h.rd,h.env.mono fun d hd=>ae _ _ (by rintro rfl;exact h.nm hd),h.mr,h.nm,h.nr⟩
theorem cT.only{H:aj}{m r:Nat}{bs:List UInt8}{e:Nat}{v:En}{VS NS:AC}{p last:Int}(h:cT H m r bs e v VS NS p last):cT (H.only (cD m r e VS NS)) m r bs e v VS NS p last:=
 h.mono fun d hd=>bm hd
def MkC(P:Program)(g:FuncId)(as:List AC)(m r:Nat)(bs:List UInt8)(v:En)(p last:Int)(R:AC->En->Int->Int->Prop):Prop:=
 ∀(H:aj) (e:Nat) (VS NS:AC),cT H m r bs e v VS NS p last->bD P g as H fun q H'=>∃e' v' VS' NS' p' last',R q v' p' last'/\cT H' m r bs e' v' VS' NS' p' last'
theorem mk_live{m r:Nat}(hmr:m≠r)(N:Nat)(bs:List UInt8)(v:En)(p last:Int):∃H' e VS NS,cT H' m r bs e v VS NS p last/\∀b,H'.get b≠none->b=m\/b=r\/N<=b:=by
 let e:=N+m+r+1
 obtain⟨H0,VS,NS,hE,hfar⟩:=qH e (N+m+r+1) v
 have hnm:H0.get m=none:=by
  rcases cg (H0.get m)with h|⟨o,h⟩
  ·exact h
  ·rcases hfar m (by rw[h];simp)with h|h<;>omega
 have hnr:H0.get r=none:=by
  rcases cg (H0.get r)with h|⟨o,h⟩
  ·exact h
  ·rcases hfar r (by rw[h];simp)with h|h<;>omega
 refine⟨(H0.set m (.cells [.ptr r 0,.ptr e 0,I last])).set r (RdO bs p),e,VS,NS,⟨by rw[ae _ _ hmr,ai],ai _ _ _,?_,hmr,hE.notin hnm,hE.notin hnr⟩,fun b hb=>?_⟩
 ·refine hE.mono fun d hd=>?_
  rw[ae _ _ (by rintro rfl;exact hE.mem hd hnr),ae _ _ (by rintro rfl;exact hE.mem hd hnm)]
 ·by_cases h1:b=r
  ·exact .inr (.inl h1)
  ·rw[ae _ _ h1]at hb
   by_cases h2:b=m
   ·exact .inl h2
   ·rw[ae _ _ h2]at hb
    rcases hfar b hb with h|h
    ·exact .inr (.inr (by omega))
    ·exact .inr (.inr (by omega))
section
variable {P:Program}{dr:Bool}{K:Env->aj->Prop}{xs:List aN}{E:Env}{H:aj}{l:Lds}{f:Fps}
theorem dQ{i:Nat}{g:FuncId}{args:List aI}{d:Option Nat}{inc:List Nat}{as as':List AC}{m r:Nat}{bs:List UInt8}{e:Nat}{v:En}{VS NS:AC}{p last:Int}{R:AC->En->Int->Int->Prop}
(hc:MkC P g as m r bs v p last R)(hM:cT H m r bs e v VS NS p last)
(ha:args.map (aI.ev E)=as')(hl:LeA as' as)(hlive:dr=true->∃q v' p' last',R q v' p' last')(hchk:dS inc l (cD m r e VS NS))
(h:∀q e' v' VS' NS' p' last' H1 fp,R q v' p' last'->cT H1 m r bs e' v' VS' NS' p' last'->(∀b o,H.get b=some o->¬cD m r e VS NS b->H1.get b=some o/\¬cD m r e' VS' NS' b)->
  (∀c,fp c->cD m r e VS NS c\/H.get c=none)->bw P dr K xs (E.put d q) H1 l ((i,fp)::f)):
 bw P dr K (⟨i,d,none,.eff (.call g args),inc⟩::xs) E H l f:=by
 have hge:∀b,(H.only (cD m r e VS NS)).get b≠none↔cD m r e VS NS b:=by
  intro b
  by_cases hb:cD m r e VS NS b
  ·simp only[bm hb,hb,iff_true];exact hM.mem hb
  ·simp[cd hb,hb]
 refine gH (cD m r e VS NS) (hc (H.only (cD m r e VS NS)) e VS NS hM.only) ha hl (fun hd N=>?_) ?_ ?_
 ·obtain⟨q,v',p',last',hq⟩:=hlive hd
  obtain⟨H',e',VS',NS',hM',hfar⟩:=mk_live hM.mr N bs v' p' last'
  refine⟨q,H',⟨e',v',VS',NS',p',last',hq,hM'⟩,fun b hb hn=>?_⟩
  rcases hfar b hb with rfl|rfl|h
  ·rw[bm (.inl rfl),hM.obj]at hn;simp at hn
  ·rw[bm (.inr (.inl rfl)),hM.rd]at hn;simp at hn
  ·exact h
 ·have:(fun b=>(H.only (cD m r e VS NS)).get b≠none)=cD m r e VS NS:=by funext b;exact propext (hge b)
  rw[this];exact hchk
 ·rintro q H' H1 ⟨e',v',VS',NS',p',last',hq,hM'⟩ hsub hafter hnew -
  refine h q e' v' VS' NS' p' last' H1 _ hq (hM'.mono fun d hd=>?_) (fun b o hb hn=>⟨by rw[hafter.out b hn (by rw[hb];simp)];exact hb,fun h=>?_⟩) (fun c hc=>?_)
  ·obtain⟨o,ho⟩:=aJ.1 (hM'.mem hd)
   rw[ho];exact hsub _ _ ho
  ·rcases hnew b (hM'.mem h)with h|h
   ·exact hn h
   ·rw[hb]at h;simp at h
  ·rcases hc with hc|hc
   ·exact .inl ((hge c).1 hc)
   ·exact .inr hc
end
structure En.dr(v:En)(N:Nat):Prop where
 ok:v.ok
 up:Up v.vars
 ne:0<v.vars.length
 vl:v.vars.length<=N
 nl:v.names.length<=N
 p:∀f∈v.p,f.okS/\f.params.length<=4
 pl:v.p.length<=5
 fn:v.fn<v.p.length
inductive Ex.sm:Ex->Prop where
 |mk {k n:Int} {p:Pl} {ks:List Ex} (hn:n<100) (hs:∀x∈ks,Ex.sm x):Ex.sm (.mk k n p ks)
inductive St.sm:Nat->St->Prop where
 |mk {i:Nat} {k:Int} {n:ByteArray} {p o:Pl} {e:Ex} {f:ByteArray} {as:List Ag} {t l:List St} (he:e.sm) (ha:∀a∈as,a.expr.sm) (ht:∀x∈t,St.sm i x) (hl:∀x∈l,St.sm i x):St.sm (i+1) (.mk k n p o e f as t l)
theorem St.sm.next{s:St}:∀{i:Nat},s.sm i->s.sm (i+1):=by
 intro i h
 induction h with
 |mk he ha _ _ iht ihl=>exact .mk he ha iht ihl
theorem St.sm.up{s:St}{i:Nat}(h:s.sm i){j:Nat}(hj:i<=j):s.sm j:=by
 obtain⟨k,rfl⟩:∃k,j=i+k:=⟨j - i,by omega⟩
 clear hj
 induction k with
 |zero=>exact h
 |succ k ih=>exact ih.next
section
variable {P:Program}{F:Ids}
theorem oo(L:Lib P F)(m r:Nat)(bs:List UInt8)(v:En)(p last:Int)(hl:0<=last)(hl2:last<=2^40):
 MkC P F.s_l71Mk_name [.ptr m 0] m r bs v p last fun q v' p' last'=>(∃s,q=S s)/\v'=v/\p'=p/\last'=last+1:=by
 intro H e VS NS hM
 refine L.s_l71Mk_name (by simp[kC]) ?_
 have w1:=aL (n:=last+1) (by omega) (by omega)
 have hq:(last+1).tdiv 26=(last+1) / 26:=Int.tdiv_eq_ediv_of_nonneg (by omega)
 have hr:(last+1).tmod 26=(last+1) % 26:=Int.tmod_eq_emod_of_nonneg (by omega)
 have w2:=aL (n:=(last+1) / 26) (by omega) (by omega)
 have w3:=aL (n:=(last+1) % 26) (by omega) (by omega)
 have w4:=aL (n:=97+(last+1) / 26) (by omega) (by omega)
 have w5:=aL (n:=97+(last+1) % 26) (by omega) (by omega)
 have h26:¬(26:Int)=0:=by decide
 simp only[kC,go_sem,rE,rA,hM.obj,w1,hq,hr,w2,w3,w4,w5,h26,ax,aq,az,rL,bh,jA]
 exact gK ⟨e,v,VS,NS,p,last+1,⟨⟨_,rfl⟩,rfl,rfl,rfl⟩,hM.setL _⟩
end
theorem post_sc{E:Env}{H:aj}{n m r off:Nat}{g:Option Nat}{cs:List AC}{q q1 x:AC}{R:AC->aj->Prop}(hx:Le (E n) x)(hE:E m=.ptr r off)(hg:H.get r=some (.cells cs))(hq:fM g cs off=some q)
(hl:Le q q1){H':aj}(hs:H'.sub H)(h:R (.tup [x,q1]) H'):aD.post [.slot n,.cell m g] R .ret E H:=
 ⟨.tup [E n,q],mK rfl (by simp only[j4.val,hE,hg,hq]),_,H',.of (Le.tup (show LeA [E n,q] [x,q1]from⟨hx,hl,trivial⟩)) hs,h⟩
theorem post_cc{E:Env}{H:aj}{n m r off r' off':Nat}{g g':Option Nat}{cs cs':List AC}{q q1 q' q1':AC}{R:AC->aj->Prop}(hE':E n=.ptr r' off')(hg':H.get r'=some (.cells cs'))(hq':fM g' cs' off'=some q')(hl':Le q' q1')
(hE:E m=.ptr r off)(hg:H.get r=some (.cells cs))(hq:fM g cs off=some q)(hl:Le q q1){H':aj}(hs:H'.sub H)(h:R (.tup [q1',q1]) H'):aD.post [.cell n g',.cell m g] R .ret E H:=
 ⟨.tup [q',q],mK (by simp only[j4.val,hE',hg',hq']) (by simp only[j4.val,hE,hg,hq]),_,H',.of (Le.tup (show LeA [q',q] [q1',q1]from⟨hl',hl,trivial⟩)) hs,h⟩
def kj(l:List Int):List (List AC):=l.map fun i=>[I i]
theorem tA(l:List Int):au l=.sl 1 none (kj l):=rfl
theorem vA(l:List Int)(i:Int):kj l++[[I i]]=kj (l++[i]):=by simp[kj]
section
variable {P:Program}{F:Ids}
theorem AH(L:Lib P F)(r:Nat)(bs:List UInt8)(hb:bs.length<=2000)(D:Nat)(hD:D<=100)(t:Ty)(ht:t.le D)(p:Int)(hp:0<=p)(hp':p+2*D+2<=2^50):
 bD P F.s_l71Path [.ptr r 0,.agg t.enc] (one r (RdO bs p)) (RdR r bs p (2*D+2) fun q=>∃(path:List Int) (u:Ty),q=.tup [au path,.agg u.enc]/\path.length<=D/\u.le D):=by
 refine L.s_l71Path (by simp[nv]) ?_
 rw[Ty.enc_eq t]
 simp only[nv,go_sem,rE]
 intro b3 hb3 b5 hb5 b8 hb8
 have dr3:r≠b3:=al (bE r (RdO bs p)) hb3
 have d35:=al (ai (one r (RdO bs p)) b3 _) hb5
 have dr5:r≠b5:=al (H:=(one r (RdO bs p)).set b3 _) (by rw[ae _ _ dr3];exact bE _ _) hb5
 have d58:=al (ai _ b5 _) hb8
 have d38:b3≠b8:=al (H:=((one r (RdO bs p)).set b3 _).set b5 _) (by rw[ae _ _ d35,ai]) hb8
 have dr8:r≠b8:=al (H:=((one r (RdO bs p)).set b3 _).set b5 _) (by rw[ae _ _ dr5,ae _ _ dr3];exact bE _ _) hb8
 refine wp_loop (fun n E H=>∃(u:Ty) (path:List Int) (p1:Int) (bt nt mt:Nat),u.le n/\path.length+n<=D/\p<=p1/\p1<=p+2*((D:Int) - n)/\E 0=.ptr r 0/\E 3=.ptr b3 0/\E 5=.ptr b5 0/\E 6=.sl 1 (some (bt,nt,mt)) (kj path)/\
  H.get r=some (RdO bs p1)/\H.get b3=some (.cells [.sl 1 none (Ty.encs u.kids)])/\H.get b5=some (.cells [NIL])/\H.get bt=some (.tail nt mt)) D
  ⟨t,[],p,b8,0,0,ht,by simp,dz _,by omega,by simp[go_sem],by simp[go_sem],by simp[go_sem],by simp[go_sem,kj],by rw[ae _ _ dr8,ae _ _ dr5,ae _ _ dr3];exact bE _ _,
   by rw[ae _ _ d38,ae _ _ d35,ai],by rw[ae _ _ d58,ai],ai _ _ _⟩ ?_
 clear hb3 hb5 hb8 d58 d38 dr8
 rintro n E H ⟨u,path,p1,bt,nt,mt,hu,hpl,hp1,hp2,e0,e3,e5,e6,gr,g3,g5,gt⟩
 have stop:∀(E':Env) (H':aj) (p2:Int),p<=p2->p2<=p+2*D+2->E' 3=.ptr b3 0->E' 5=.ptr b5 0->E' 6=.sl 1 (some (bt,nt,mt)) (kj path)->H'.get r=some (RdO bs p2)->H'.get b3=some (.cells [.sl 1 none (Ty.encs u.kids)])->H'.get b5=some (.cells [NIL])->
  aX.wp P (kd10 F) (aD.post [.slot 4,.cell 5 (some 1)] (RdR r bs p (2*D+2) fun q=>∃(path:List Int) (u:Ty),q=.tup [au path,.agg u.enc]/\path.length<=D/\u.le D)) E' H':=by
  intro E' H' p2 h1 h2 e3 e5 e6 gr g3 g5
  rw[kd10]
  simp only[go_sem,rE,rA,e3,e5,e6,g3,g5,rL]
  refine post_sc (x:=au path) (q1:=.agg u.enc) (off:=0) (by simp only[go_sem,rE,tA];exact .tok _ _ _) (by simp only[go_sem,rE];exact e5) (ai _ _ _) rfl (by rw[Ty.enc_eq];exact .refl _) (eO (o:=RdO bs p2) (by rw[ae _ _ dr5];exact gr))
   ⟨p2,h1,by omega,rfl,path,u,rfl,by omega,tM n D u (by omega) hu⟩
 obtain⟨ks⟩:=u
 obtain⟨hk3,hks⟩:=j5 hu
 simp only[Ty.kids]at g3 stop
 simp only[go_sem,rE,rA,e0,e3,g3,Ty.encs_map,am]
 by_cases hk0:(ks.length:Int)>0
 ·simp only[go_sem,rE,rA,hk0,e0]
  refine bg (cH L r bs p1 3 hb (by omega) (by omega)) (rfl) gr (by simp) trivial ?_
  rintro q p2 hp12 hp12' ⟨k,rfl,hk0',hk3'⟩
  have g3':(H.set r (RdO bs p2)).get b3=some (.cells [.sl 1 none (Ty.encs ks)]):=by rw[ae _ _ (Ne.symm dr3)];exact g3
  have g5':(H.set r (RdO bs p2)).get b5=some (.cells [NIL]):=by rw[ae _ _ (Ne.symm dr5)];exact g5
  simp only[go_sem,rE,rA]
  refine aG (fun hgt=>?_) (fun hle=>?_)
  ·simp only[go_sem,rE,rA,e0,e3,g3',Ty.encs_map,am]
   refine bg (cH L r bs p2 ks.length hb (by omega) (by omega)) (rfl) (ai _ _ _) (by simp) trivial ?_
   rintro q p3 hp23 hp23' ⟨j,rfl,hj0,hj3⟩
   have hj:j.toNat<ks.length:=by omega
   obtain⟨d',hd',hle'⟩:=hks _ (ay hj)
   have hgj:(Ty.encs ks)[j.toNat]?=some ks[j.toNat].enc:=mi hj
   rw[Ty.enc_eq]at hgj
   have dbr:bt≠r:=by rintro rfl;rw[gr]at gt;simp[RdO]at gt
   have gt3:(H.set r (RdO bs p3)).get bt=some (.tail nt mt):=by rw[ae _ _ dbr];exact gt
   simp only[go_sem,rE,rA,e6,ax,aq,az,rL,bh]
   refine dV (es:=kj path) (ys:=[[I j]]) (rfl) gt3 (rfl) (by simp) (by simp[kj];omega) ?_
   intro bt' nt' mt' H4 fp4 gt4 hk4 _ _
   have dt3:b3≠bt:=by rintro rfl;rw[g3]at gt;simp at gt
   have dt5:b5≠bt:=by rintro rfl;rw[g5]at gt;simp at gt
   have g43:H4.get b3=some (.cells [.sl 1 none (Ty.encs ks)]):=by rw[hk4 b3 (by rw[ae _ _ (Ne.symm dr3),g3];simp) dt3,ae _ _ (Ne.symm dr3)];exact g3
   have g45:H4.get b5=some (.cells [NIL]):=by rw[hk4 b5 (by rw[ae _ _ (Ne.symm dr5),g5];simp) dt5,ae _ _ (Ne.symm dr5)];exact g5
   have g4r:H4.get r=some (RdO bs p3):=by rw[hk4 r (by simp) (Ne.symm dbr)];exact ai _ _ _
   have dt4:bt'≠b3:=by rintro rfl;rw[g43]at gt4;simp at gt4
   simp only[go_sem,rE,rA,e3,g43,hgj,hj0,rL]
   refine⟨d',by omega,_,aj.sub_refl _,ks[j.toNat],path++[j],p3,bt',nt',mt',hle',by simp;omega,by omega,by omega,?_⟩
   simp only[go_sem,rE,Ty.encs_map,e0,e5,vA,ae _ _ dr3,ae _ _ (Ne.symm d35),ae _ _ dt4,g4r,g45,gt4,ai]
  ·simp only[wp_exit,fl,dL,cC]
   exact stop _ _ p2 (by omega) (by omega) (e3) (e5) (e6) (ai _ _ _) g3' g5'
 ·simp only[go_sem,rE,rA,hk0]
  exact stop _ _ p1 (by omega) (by omega) (e3) (e5) (e6) gr g3 g5
end
theorem xR.row6{H:aj}{vs:List Vr}{i vb vc:Nat}{cs:List AC}{hi:i<vs.length}(h:xR H vs i vb vc cs hi):(cs.drop (i*6)).take 6=vs[i].enc/\i*6+6<=cs.length:=by
 have hlen:=dD (ys:=vs.map Vr.enc) (sz:=6) (by simp[Vr.enc])
 have h2:i*6+6<=cs.length:=by have:=h.off;omega
 refine⟨?_,h2⟩
 apply gd
 intro j
 rw[eU]
 split
 ·rename_i hj
  rw[bC]
  have:=h.all
  simp only[am]at this
  exact jF this hi hj
 ·rename_i hj
  rw[fE (by rw[Vr.enc_len];omega)]
section
variable {P:Program}{F:Ids}
def vW(v:En)(p last:Int)(c:Int)(q:AC)(v':En)(p' last':Int):Prop:=
 (∃(pl:Pl) (t:Ty),q=.tup [.agg pl.enc,.agg t.enc]/\pl.path.length<=8/\t.wf)/\v'=v/\p<=p'/\p'<=p+c/\last'=last
theorem iy(L:Lib P F)(m r:Nat)(bs:List UInt8)(hbs:bs.length<=2000)(v:En)(hv:v.ok)(p last:Int)(hp:0<=p)(hp2:p+20<=2^50):
 MkC P F.s_l71Mk_place [.ptr m 0] m r bs v p last (vW v p last 20):=by
 intro H e VS NS hM
 have hvl:=hv.len
 refine L.s_l71Mk_place (by simp[jP]) ?_
 simp only[jP,go_sem,rE]
 intro b2 hb2 b3 hb3 b9 hb9
 have hM2:=hM.new hb2 (.cells [.lit (.string (bl [])),.lit (.slice none 0 0)])
 have n2:=hM.notin hb2
 have hM3:=hM2.new hb3 (.cells [.lit (.slice none 0 0)])
 have n3:=hM2.notin hb3
 have hM9:=hM3.new hb9 (.tail 0 0)
 have n9:=hM3.notin hb9
 have d23:=al (ai H b2 _) hb3
 have d39:=al (ai (H.set b2 _) b3 _) hb9
 have d29:b2≠b9:=al (H:=(H.set b2 (.cells [.lit (.string (bl [])),.lit (.slice none 0 0)])).set b3 (.cells [.lit (.slice none 0 0)])) (by rw[ae _ _ d23,ai]) hb9
 have stop:∀(E':Env) (H':aj) (p':Int) (pl:Pl) (t:Ty) (x1 x2 y1:AC),cT H' m r bs e v VS NS p' last->p<=p'->p'<=p+20->E' 2=.ptr b2 0->E' 3=.ptr b3 0->H'.get b2=some (.cells [x1,x2])->H'.get b3=some (.cells [y1])->LeC [x1,x2] pl.enc->LeC [y1] t.enc->pl.path.length<=8->t.wf->
  aD.post [.cell 2 (some 2),.cell 3 (some 1)] (fun q H'=>∃e' v' VS' NS' p' last',vW v p last 20 q v' p' last'/\cT H' m r bs e' v' VS' NS' p' last') .ret E' H':=by
  intro E' H' p' pl t x1 x2 y1 hM h1 h2 e2 e3 g2 g3 l1 l2 hpl ht
  exact post_cc (q':=.agg [x1,x2]) (q:=.agg [y1]) (q1':=.agg pl.enc) (q1:=.agg t.enc) (off':=0) (off:=0) e2 g2 rfl (.agg l1) e3 g3 rfl (.agg l2) (aj.sub_refl _) ⟨e,v,VS,NS,p',last,⟨⟨pl,t,rfl,hpl,ht⟩,rfl,h1,h2,rfl⟩,hM⟩
 refine aT v.vars.length (fun k E H=>∃(Lv:List Nat) (bt nt mt:Nat),cT H m r bs e v VS NS p last/\(∀i∈Lv,i<v.vars.length)/\Lv.length<=k/\E 0=.ptr m 0/\E 2=.ptr b2 0/\E 3=.ptr b3 0/\E 4=.sl 1 (some (bt,nt,mt)) (bK Lv)/\E 5=I k/\
  H.get b2=some (.cells [S (bl []),NIL])/\H.get b3=some (.cells [NIL])/\H.get bt=some (.tail nt mt)/\¬cD m r e VS NS bt)
  ⟨[],b9,0,0,hM9,by simp,by simp,by simp[go_sem],by simp[go_sem],by simp[go_sem],by simp[go_sem,bK],by simp[go_sem],by rw[ae _ _ d29,ae _ _ d23,ai],by rw[ae _ _ d39,ai],ai _ _ _,n9⟩ ?_
 clear hb2 hb3 hb9 hM hM2 hM3 hM9 d29 d39 n9
 rintro k E H hk ⟨Lv,bt,nt,mt,hM,hLv,hLk,e0,e2,e3,e4,e5,g2,g3,gt,nt9⟩
 have hom:=hM.obj
 have hoe:=hM.env.obj
 simp only[cZ]at hoe
 have hlim:v.vars.length<=LIM:=by simp only[LIM];omega
 have hVS:VS=NIL/\v.vars=[]\/∃vb vc,VS=.lit (.slice (some ⟨vb,0,none⟩) v.vars.length vc):=by
  rcases hM.env.vars with⟨h0,h1⟩|⟨vb,vc,cs,h1,-⟩
  ·exact .inl ⟨h1,by simpa using h0⟩
  ·exact .inr ⟨vb,vc,by simpa using h1⟩
 by_cases hlt:k<v.vars.length
 ·obtain⟨vb,vc,cs,rfl,hr⟩:=hM.env.vars.row hlt
  have hlt':(k:Int)<v.vars.length:=by omega
  have w1:=aL (n:=(k:Int)+1) (by omega) (by omega)
  have hrd:=hr.dead
  simp only[go_sem,rE,rA,e0,e5,hom,hoe,hlim,hlt',hr.get,hrd]
  cases hd:v.vars[k].dead
  ·simp only[go_sem,rE,rA,e4,e5,ax,aq,az,rL,bh]
   refine dV (es:=bK Lv) (ys:=bK [k]) (rfl) gt (rfl) (by simp[bK]) (by simp[bK];omega) ?_
   intro bt' nt' mt' H4 fp4 gt4 hk4 hbt4 _
   have hM4:cT H4 m r bs e v (.lit (.slice (some ⟨vb,0,none⟩) v.vars.length vc)) NS p last:=hM.mono fun d hd=>hk4 d (hM.mem hd) (by rintro rfl;exact nt9 hd)
   have d2t:b2≠bt:=by rintro rfl;rw[g2]at gt;simp at gt
   have d3t:b3≠bt:=by rintro rfl;rw[g3]at gt;simp at gt
   have nt4:¬cD m r e (.lit (.slice (some ⟨vb,0,none⟩) v.vars.length vc)) NS bt':=by
    rcases hbt4 with rfl|h
    ·exact nt9
    ·exact hM.notin h
   simp only[go_sem,rE,rA,e5,w1]
   refine⟨hlt,H4,aj.sub_refl _,Lv++[k],bt',nt',mt',hM4,fun i hi=>?_,by simp;omega,?_⟩
   ·rcases aF.1 hi with h|h
    ·exact hLv i h
    ·simp at h;omega
   ·simp only[go_sem,rE,e0,e2,e3]
    exact⟨by simp[bK],rfl,by rw[hk4 b2 (by rw[g2];simp) d2t];exact g2,by rw[hk4 b3 (by rw[g3];simp) d3t];exact g3,gt4,nt4⟩
  ·simp only[go_sem,rE,rA,e5,w1]
   exact⟨hlt,H,aj.sub_refl _,Lv,bt,nt,mt,hM,hLv,by omega,e0,e2,e3,e4,by simp,g2,g3,gt,nt9⟩
 ·have hlt':¬(k:Int)<v.vars.length:=by omega
  have rest:∀(E:Env),E 0=.ptr m 0->E 2=.ptr b2 0->E 3=.ptr b3 0->E 4=.sl 1 (some (bt,nt,mt)) (bK Lv)->
   aX.wp P (kd12 F) (aD.post [.cell 2 (some 2),.cell 3 (some 1)] (fun q H'=>∃e' v' VS' NS' p' last',vW v p last 20 q v' p' last'/\cT H' m r bs e' v' VS' NS' p' last')) E H:=by
   intro E e0 e2 e3 e4
   rw[kd12]
   simp only[go_sem,rE,rA,e4,fX]
   rcases Lv with _|⟨i0,Lr⟩
   ·simp only[cW,beq_self_eq_true,go_sem,rE,rA,e2,e3,g2,g3,Ne.symm d23,rL]
    refine stop _ _ p ⟨bl [110,111,110,101],[]⟩ (.mk []) _ _ _ ((hM.put n2 _).put n3 _) (dz _) (by omega) (by simp only[go_sem,rE];exact e2) (by simp only[go_sem,rE];exact e3) (by rw[ae _ _ d23,ai]) (ai _ _ _) ?_ ?_ (by simp) dN
    ·exact⟨⟨.refl _,rfl⟩,⟨.nil 1,rfl⟩,trivial⟩
    ·exact⟨⟨.nil 1,rfl⟩,trivial⟩
   ·have hne:(((i0::Lr).length:Int)==0)=false:=beq_eq_false_iff_ne.2 (by simp;omega)
    have hpos:1<=(i0::Lr).length:=by simp
    generalize hLL:i0::Lr=Lw at*
    have h00:0<v.vars.length:=by have:=hLv i0 (by rw[<-hLL];simp);omega
    obtain⟨vb0,vc0,cs0,rfl,hr0⟩:=hM.env.vars.row h00
    have dme:m≠e:=fun h=>hM.nm (.inl h)
    have dre:r≠e:=fun h=>hM.nr (.inl h)
    simp only[hne,go_sem,rE,rA,e0,e4,hom,hoe,fX]
    refine bg (cH L r bs p Lw.length hbs hp (by omega)) (rfl) hM.rd (fun _=>⟨by omega,I 0,0,rfl,by omega,.inr rfl⟩) (by simp[dS];exact⟨Ne.symm dre,hM.mr⟩) ?_
    rintro q p1 hp1 hp1' ⟨k1,rfl,hk10,hk11⟩
    have hM1:=hM.setR p1
    have hk1l:k1.toNat<Lw.length:=by omega
    have hil:=hLv _ (ay hk1l)
    obtain⟨vb1,vc1,cs1,heq,hr⟩:=hM1.env.vars.row hil
    simp only[AC.lit.injEq,Value.slice.injEq,Option.some.injEq,Addr.mk.injEq,true_and,and_true]at heq
    obtain⟨hq1,hq2⟩:=heq
    subst hq1 hq2
    obtain⟨r61,r62⟩:=hr.row6
    have hlt1:((Lw[k1.toNat]:Nat):Int)<v.vars.length:=by omega
    simp only[go_sem,rE,rA,hk10,jH hk1l,hlt1,hr.get,r61,r62,Vr.enc_len,rL]
    intro b6 hb6
    have n6:=hM1.notin hb6
    have hr2:(H.set r (RdO bs p1)).get r=some (RdO bs p1):=ai _ _ _
    have d26:b2≠b6:=al (H:=H.set r (RdO bs p1)) (by rw[ae _ _ (fun h=>n2 (.inr (.inl h)))];exact g2) hb6
    have d36:b3≠b6:=al (H:=H.set r (RdO bs p1)) (by rw[ae _ _ (fun h=>n3 (.inr (.inl h)))];exact g3) hb6
    have g21:(H.set r (RdO bs p1)).get b2=some (.cells [S (bl []),NIL]):=by rw[ae _ _ (fun h=>n2 (.inr (.inl h)))];exact g2
    have g31:(H.set r (RdO bs p1)).get b3=some (.cells [NIL]):=by rw[ae _ _ (fun h=>n3 (.inr (.inl h)))];exact g3
    have hM2:=hM1.new hb6 (.cells v.vars[Lw[k1.toNat]].enc)
    have hx:v.vars[Lw[k1.toNat]]∈v.vars:=ay _
    generalize v.vars[Lw[k1.toNat]]=x at*
    have stepP:∀(E:Env) (H:aj) (p1:Int) (x:Vr),x∈v.vars->cT H m r bs e v (.lit (.slice (some ⟨vb0,0,none⟩) v.vars.length vc0)) NS p1 last->p<=p1->p1<=p+2->E 0=.ptr m 0->E 2=.ptr b2 0->E 3=.ptr b3 0->E 6=.ptr b6 0->H.get b6=some (.cells x.enc)->
     H.get b2=some (.cells [S (bl []),NIL])->H.get b3=some (.cells [NIL])->
     aX.wp P (kd11 F) (aD.post [.cell 2 (some 2),.cell 3 (some 1)] (fun q H'=>∃e' v' VS' NS' p' last',vW v p last 20 q v' p' last'/\cT H' m r bs e' v' VS' NS' p' last')) E H:=by
     intro E H p1 x hx hM h1 h2 e0 e2 e3 e6 g6 g2 g3
     rw[kd11]
     obtain⟨-,D,hD8,hD⟩:=hv.all x hx
     have hom:=hM.obj
     have d26:b2≠b6:=by rintro rfl;rw[g6]at g2;simp[Vr.enc]at g2
     have d6r:b6≠r:=by rintro rfl;have:=hM.rd;rw[g6]at this;simp[Vr.enc,RdO]at this
     simp only[Vr.enc]at g6
     simp only[go_sem,rE,rA,e0,e6,hom,g6,rL]
     refine bg (AH L r bs hbs D (by omega) x.type hD p1 (by omega) (by omega)) (by simp only[go_sem,rE,Ty.enc_eq x.type]) hM.rd (fun _=>⟨by omega,_,[],.mk [],rfl,by simp,k9 _⟩) trivial ?_
     rintro q p2 hp2 hp2' ⟨path,u,rfl,hpath,hu⟩
     have hM2:=hM.setR p2
     simp only[go_sem,rE,rA,Ty.enc_eq u]
     intro b8 hb8
     have n8:=hM2.notin hb8
     have hM3:=hM2.new hb8 (.cells [.sl 1 none (Ty.encs u.kids)])
     have nr2:b2≠r:=fun h=>n2 (.inr (.inl h))
     have nr3:b3≠r:=fun h=>n3 (.inr (.inl h))
     have g62:(H.set r (RdO bs p2)).get b6=some (.cells [S x.name,B x.lent,B x.param,.sl 1 none (Ty.encs x.type.kids),.sl 2 none (x.loans.map Pl.enc),B x.dead]):=by rw[ae _ _ d6r];exact g6
     have g22:(H.set r (RdO bs p2)).get b2=some (.cells [S (bl []),NIL]):=by rw[ae _ _ nr2];exact g2
     have g32:(H.set r (RdO bs p2)).get b3=some (.cells [NIL]):=by rw[ae _ _ nr3];exact g3
     have d68:=al g62 hb8
     have d28:=al g22 hb8
     have d38:=al g32 hb8
     simp only[go_sem,rE,rA,e2,e3,e6,d68,g62,d28,g22,Ne.symm d28,Ne.symm d23,Ne.symm d38,d38,g32,tA,dS,jy,rL,bf,cq,or_false,forall_eq,forall_eq_or_imp]
     refine stop _ _ p2 ⟨x.name,path⟩ u _ _ _ ((hM3.put n2 _).put n3 _) (by omega) (by omega) (by simp only[go_sem,rE];exact e2) (by simp only[go_sem,rE];exact e3) (by rw[ae _ _ d23,ai]) (ai _ _ _) ?_ ?_ (by simp only;omega) ⟨D,hD8,hu⟩
     ·exact⟨⟨.refl _,rfl⟩,⟨.refl _,rfl⟩,trivial⟩
     ·rw[Ty.enc_eq];exact⟨⟨.refl _,rfl⟩,trivial⟩
    have g62:((H.set r (RdO bs p1)).set b6 (.cells x.enc)).get b6=some (.cells x.enc):=ai _ _ _
    have g22:((H.set r (RdO bs p1)).set b6 (.cells x.enc)).get b2=some (.cells [S (bl []),NIL]):=by rw[ae _ _ d26];exact g21
    have g32:((H.set r (RdO bs p1)).set b6 (.cells x.enc)).get b3=some (.cells [NIL]):=by rw[ae _ _ d36];exact g31
    generalize((H.set r (RdO bs p1)).set b6 (.cells x.enc))=H2 at*
    have hom2:=hM2.obj
    simp only[go_sem,rE,rA,e0,hom2]
    refine bg (cH L r bs p1 3 hbs (by omega) (by omega)) (rfl) hM2.rd (fun hd=>by simp at hd) trivial ?_
    rintro q p2 hp2 hp2' ⟨k2,rfl,hk20,hk21⟩
    have hM3:=hM2.setR p2
    have nr2:b2≠r:=fun h=>n2 (.inr (.inl h))
    have nr3:b3≠r:=fun h=>n3 (.inr (.inl h))
    have nr6:b6≠r:=fun h=>n6 (.inr (.inl h))
    have g63:(H2.set r (RdO bs p2)).get b6=some (.cells x.enc):=by rw[ae _ _ nr6];exact g62
    have g23:(H2.set r (RdO bs p2)).get b2=some (.cells [S (bl []),NIL]):=by rw[ae _ _ nr2];exact g22
    have g33:(H2.set r (RdO bs p2)).get b3=some (.cells [NIL]):=by rw[ae _ _ nr3];exact g32
    have hom3:=hM3.obj
    have hoe3:=hM3.env.obj
    simp only[cZ]at hoe3
    generalize(H2.set r (RdO bs p2))=H3 at*
    simp only[go_sem,rE,rA]
    by_cases hk2:k2=0
    ·have hk2':(k2==0)=true:=by simpa using hk2
     have wl:=aL (n:=(Lw.length:Int) - 1) (by omega) (by omega)
     have hll:((Lw.length:Int) - 1).toNat<Lw.length:=by omega
     have hl0:0<=(Lw.length:Int) - 1:=by omega
     have hil2:=hLv _ (ay hll)
     obtain⟨vb1,vc1,cs1,heq,hr⟩:=hM3.env.vars.row hil2
     simp only[AC.lit.injEq,Value.slice.injEq,Option.some.injEq,Addr.mk.injEq,true_and,and_true]at heq
     obtain⟨hq1,hq2⟩:=heq
     subst hq1 hq2
     obtain⟨r61,r62⟩:=hr.row6
     have hlt1:((Lw[((Lw.length:Int) - 1).toNat]:Nat):Int)<v.vars.length:=by omega
     simp only[hk2',go_sem,rE,rA,e0,e4,hom3,hoe3,fX,wl,hl0,jH hll,hlt1,hr.get,r61,r62,g63,Vr.enc_len,rL]
     have d26':b2≠b6:=d26
     refine stepP _ _ p2 v.vars[Lw[((Lw.length:Int) - 1).toNat]] (ay _) (hM3.put n6 _) (by omega) (by omega) (e0) (e2) (e3) (rfl) ?_ (by rw[ae _ _ d26];exact g23) (by rw[ae _ _ d36];exact g33)
     simp[Vr.enc]
    ·have hk2':(k2==0)=false:=by simpa using hk2
     simp only[hk2',go_sem,rE,rA]
     exact stepP _ _ p2 x hx hM3 (by omega) (by omega) (e0) (e2) (e3) (rfl) g63 g23 g33
  rcases hVS with⟨rfl,hv0⟩|⟨vb,vc,rfl⟩
  ·have:k=0:=by rw[hv0]at hk;simpa using hk
   subst this
   simp only[go_sem,rE,rA,e0,e5,hom,hoe,cW,Int.lt_irrefl]
   exact rest _ (e0) (e2) (e3) (e4)
  ·simp only[go_sem,rE,rA,e0,e5,hom,hoe,hlim,hlt']
   exact rest _ (e0) (e2) (e3) (e4)
end
def ew:Nat->Int
 |0=>200
 |d+1=>200+2*ew d
theorem oG:∀d,200<=ew d
 |0=>by simp[ew]
 |d+1=>by have:=oG d;simp only[ew];omega
def jo(v:En)(p last:Int)(c:Int)(q:AC)(v':En)(p' last':Int):Prop:=
 (∃x:Ex,q=.agg x.enc/\x.ok/\x.sm)/\v'=v/\p<=p'/\p'<=p+c/\last'=last
theorem gv(v:En)(p last c:Int)(hc:0<=c):∃q v' p' last',jo v p last c q v' p' last':=
 ⟨_,v,p,last,⟨.mk 1 0 ⟨bl [],[]⟩ [],rfl,.mk (by simp) (by simp) (by simp),.mk (by decide) (by simp)⟩,rfl,dz _,by omega,rfl⟩
theorem leNum(n:Int):LeC [I 1,I n,S (bl []),NIL,NIL] (Ex.mk 1 n ⟨bl [],[]⟩ []).enc:=by
 rw[Ex.enc];exact⟨⟨.refl _,rfl⟩,⟨.refl _,rfl⟩,⟨.refl _,rfl⟩,⟨.nil 1,rfl⟩,⟨.nil 5,rfl⟩,trivial⟩
theorem BI(pl:Pl):LeC [I 2,I 0,S pl.name,au pl.path,NIL] (Ex.mk 2 0 pl []).enc:=by
 rw[Ex.enc];exact⟨⟨.refl _,rfl⟩,⟨.refl _,rfl⟩,⟨.refl _,rfl⟩,⟨.refl _,rfl⟩,⟨.nil 5,rfl⟩,trivial⟩
theorem leNone:LeC [I 2,I 0,S (bl [110,111,110,101]),NIL,NIL] (Ex.mk 2 0 ⟨bl [110,111,110,101],[]⟩ []).enc:=by
 rw[Ex.enc];exact⟨⟨.refl _,rfl⟩,⟨.refl _,rfl⟩,⟨.refl _,rfl⟩,⟨.nil 1,rfl⟩,⟨.nil 5,rfl⟩,trivial⟩
theorem leTwo(k:Int)(tok:Option (Nat×Nat×Nat))(a b:Ex):LeC [I k,I 0,S (bl []),NIL,.sl 5 tok [a.enc,b.enc]] (Ex.mk k 0 ⟨bl [],[]⟩ [a,b]).enc:=by
 rw[Ex.enc];exact⟨⟨.refl _,rfl⟩,⟨.refl _,rfl⟩,⟨.refl _,rfl⟩,⟨.nil 1,rfl⟩,⟨by simp only[Ex.encs];exact .tok _ _ _,rfl⟩,trivial⟩
theorem okNum(n:Int)(h:n<100):(Ex.mk 1 n ⟨bl [],[]⟩ []).ok/\(Ex.mk 1 n ⟨bl [],[]⟩ []).sm:=⟨.mk (by simp) (by simp) (by simp),.mk h (by simp)⟩
theorem yv(pl:Pl)(h:pl.path.length<=8):(Ex.mk 2 0 pl []).ok/\(Ex.mk 2 0 pl []).sm:=⟨.mk (by omega) (by simp) (by simp),.mk (by decide) (by simp)⟩
theorem okTwo(k:Int){a b:Ex}(ha:a.ok/\a.sm)(hb:b.ok/\b.sm):(Ex.mk k 0 ⟨bl [],[]⟩ [a,b]).ok/\(Ex.mk k 0 ⟨bl [],[]⟩ [a,b]).sm:=
 ⟨.mk (by simp) (by simp) (by simp;exact⟨ha.1,hb.1⟩),.mk (by decide) (by simp;exact⟨ha.2,hb.2⟩)⟩
theorem mU{H:aj}{a b:Nat}{z z' c c':cK}(h:a≠b):(((H.set a z).set b z').set a c).set b c'=(H.set a c).set b c':=by
 apply aj.ext;intro d
 simp only[aM]
 by_cases h1:d=b
 ·simp[h1]
 ·by_cases h2:d=a<;>simp[h1,h2]
theorem vu{H:aj}{a b:Nat}{z:cK}(h:(H.set a z).get b=none)(c:cK):(H.set a c).get b=none:=by
 simp only[aM]at h⊢
 by_cases h1:b=a
 ·simp[h1]at h
 ·simpa[h1]using h
theorem pO{H:aj}{a b:Nat}{z:cK}(h:(H.set a z).get b=none):a≠b:=by rintro rfl;simp at h
section
variable {P:Program}{F:Ids}
theorem jK(L:Lib P F)(m r:Nat)(bs:List UInt8)(hbs:bs.length<=2000)(v:En)(hv:v.ok)(last:Int):∀(d:Nat),d<=10->∀(t:Ty) (dp:Int),t.wf->dp<=d->-10<=dp->∀p:Int,0<=p->p+ew d<=2^50->
 MkC P F.s_l71Mk_expr [.ptr m 0,.agg t.enc,I dp] m r bs v p last (jo v p last (ew d)):=by
 intro d
 induction d using Nat.strongRecOn with
 |_ d ih=>
  intro hd t dp ht hdp hdp2 p hp hp2
  intro H e VS NS hM
  have hec:=oG d
  refine L.s_l71Mk_expr (by simp[kD]) ?_
  rw[Ty.enc_eq t]
  simp only[kD,go_sem,rE]
  intro b4 hb4 b6 hb6
  have hM4:=hM.new hb4 (.cells [.sl 1 none (Ty.encs t.kids)])
  have n4:=hM.notin hb4
  have hM6:=hM4.new hb6 (.cells [.lit (.int .i64 0),.lit (.int .i64 0),.lit (.string (bl [])),.lit (.slice none 0 0),.lit (.slice none 0 0)])
  have n6:=hM4.notin hb6
  have d46:=al (ai H b4 _) hb6
  have g4:((H.set b4 (.cells [.sl 1 none (Ty.encs t.kids)])).set b6 (.cells [.lit (.int .i64 0),.lit (.int .i64 0),.lit (.string (bl [])),.lit (.slice none 0 0),.lit (.slice none 0 0)])).get b4=some (.cells [.sl 1 none (Ty.encs t.kids)]):=by rw[ae _ _ d46,ai]
  have g6:((H.set b4 (.cells [.sl 1 none (Ty.encs t.kids)])).set b6 (.cells [.lit (.int .i64 0),.lit (.int .i64 0),.lit (.string (bl [])),.lit (.slice none 0 0),.lit (.slice none 0 0)])).get b6=some (.cells [I 0,I 0,S (bl []),NIL,NIL]):=ai _ _ _
  generalize((H.set b4 (.cells [.sl 1 none (Ty.encs t.kids)])).set b6 (.cells [.lit (.int .i64 0),.lit (.int .i64 0),.lit (.string (bl [])),.lit (.slice none 0 0),.lit (.slice none 0 0)]))=H1 at*
  clear hb4 hb6 hM hM4
  have stop:∀(E':Env) (H':aj) (e':Nat) (VS' NS':AC) (p':Int) (x:Ex) (cs:List AC),cT H' m r bs e' v VS' NS' p' last->p<=p'->p'<=p+ew d->E' 6=.ptr b6 0->H'.get b6=some (.cells cs)->cs.length=5->LeC cs x.enc->x.ok/\x.sm->
   aD.post [.cell 6 (some 5)] (fun q H'=>∃e' v' VS' NS' p' last',jo v p last (ew d) q v' p' last'/\cT H' m r bs e' v' VS' NS' p' last') .ret E' H':=by
   intro E' H' e' VS' NS' p' x cs hM h1 h2 e6 g6 hl5 hle hx
   exact bY (q':=.agg x.enc) (q:=.agg cs) (off:=0) e6 g6 (by simp only[fM,hl5,aC,cj,if_true,ip];rw[cF (by omega)]) (.agg hle) (aj.sub_refl _) ⟨e',v,VS',NS',p',last,⟨⟨x,rfl,hx.1,hx.2⟩,rfl,h1,h2,rfl⟩,hM⟩
  have hom:=hM6.obj
  obtain⟨D,hD8,hD⟩:=ht
  have other:∀(E:Env) (H:aj),cT H m r bs e v VS NS p last->E 0=.ptr m 0->E 2=I dp->E 4=.ptr b4 0->E 6=.ptr b6 0->H.get b4=some (.cells [.sl 1 none (Ty.encs t.kids)])->H.get b6=some (.cells [I 0,I 0,S (bl []),NIL,NIL])->
   aX.wp P (kd17 F) (aD.post [.cell 6 (some 5)] (fun q H'=>∃e' v' VS' NS' p' last',jo v p last (ew d) q v' p' last'/\cT H' m r bs e' v' VS' NS' p' last')) E H:=by
   intro E H hM e0 e2 e4 e6 g4 g6
   rw[kd17]
   have hom:=hM.obj
   simp only[go_sem,rE,rA,e0,hom]
   refine bg (cH L r bs p 6 hbs hp (by omega)) (rfl) hM.rd (by simp) trivial ?_
   rintro q p1 hp1 hp1' ⟨k,rfl,hk0,hk6⟩
   have hM1:=hM.setR p1
   have g41:(H.set r (RdO bs p1)).get b4=some (.cells [.sl 1 none (Ty.encs t.kids)]):=by rw[ae _ _ (fun h=>n4 (.inr (.inl h)))];exact g4
   have g61:(H.set r (RdO bs p1)).get b6=some (.cells [I 0,I 0,S (bl []),NIL,NIL]):=by rw[ae _ _ (fun h=>n6 (.inr (.inl h)))];exact g6
   have hom1:=hM1.obj
   generalize H.set r (RdO bs p1)=H1 at*
   clear g4 g6 hom hM
   have numC:∀(E:Env),E 0=.ptr m 0->E 6=.ptr b6 0->∀A:Env->aj->Prop,aX.wp P (kd13 F) (cL.then A (aD.post [.cell 6 (some 5)] (fun q H'=>∃e' v' VS' NS' p' last',jo v p last (ew d) q v' p' last'/\cT H' m r bs e' v' VS' NS' p' last'))) E H1:=by
    intro E e0 e6 A
    rw[kd13]
    simp only[go_sem,rE,rA,e0,hom1,ax,aq,az,rL,bh]
    refine bg (cH L r bs p1 6 hbs (by omega) (by omega)) (rfl) hM1.rd (by simp) trivial ?_
    rintro q p2 hp2 hp2' ⟨j,rfl,hj0,hj6⟩
    have hM2:=hM1.setR p2
    have g62:(H1.set r (RdO bs p2)).get b6=some (.cells [I 0,I 0,S (bl []),NIL,NIL]):=by rw[ae _ _ (fun h=>n6 (.inr (.inl h)))];exact g61
    have hjj:∃n:Int,n<100/\([[I 0],[I 1],[I 1],[I 2],[I 5],[I 90]]:List (List AC))[j.toNat]?=some [I n]:=by
     have:j=0\/j=1\/j=2\/j=3\/j=4\/j=5:=by omega
     rcases this with rfl|rfl|rfl|rfl|rfl|rfl
     ·exact⟨0,by decide,rfl⟩
     ·exact⟨1,by decide,rfl⟩
     ·exact⟨1,by decide,rfl⟩
     ·exact⟨2,by decide,rfl⟩
     ·exact⟨5,by decide,rfl⟩
     ·exact⟨90,by decide,rfl⟩
    obtain⟨n,hn,hgn⟩:=hjj
    simp only[go_sem,rE,rA,e6,hj0,hgn,g62,rL]
    exact stop _ _ _ _ _ p2 (.mk 1 n ⟨bl [],[]⟩ []) _ (hM2.put n6 _) (by omega) (by omega) (by simp only[go_sem,rE];exact e6) (ai _ _ _) rfl (leNum n) (okNum n hn)
   have twoC:∀(E:Env),2<=dp->E 0=.ptr m 0->E 2=I dp->E 4=.ptr b4 0->E 6=.ptr b6 0->aX.wp P (kd14 F) (aD.post [.cell 6 (some 5)] (fun q H'=>∃e' v' VS' NS' p' last',jo v p last (ew d) q v' p' last'/\cT H' m r bs e' v' VS' NS' p' last')) E H1:=by
    intro E hdp3 e0 e2 e4 e6
    rw[kd14]
    obtain⟨d',rfl⟩:∃d',d=d'+1:=⟨d - 1,by omega⟩
    have hec':=oG d'
    have hecd:ew (d'+1)=200+2*ew d':=rfl
    have wd:=aL (n:=dp - 1) (by omega) (by omega)
    have ih:=ih d' (by omega) (by omega)
    simp only[go_sem,rE,rA,e0,hom1,ax,aq,az,rL,bh]
    refine bg (cH L r bs p1 5 hbs (by omega) (by omega)) (rfl) hM1.rd (by simp) trivial ?_
    rintro q p2 hp2 hp2' ⟨j,rfl,hj0,hj6⟩
    have hM2:=hM1.setR p2
    have g42:(H1.set r (RdO bs p2)).get b4=some (.cells [.sl 1 none (Ty.encs t.kids)]):=by rw[ae _ _ (fun h=>n4 (.inr (.inl h)))];exact g41
    have g62:(H1.set r (RdO bs p2)).get b6=some (.cells [I 0,I 0,S (bl []),NIL,NIL]):=by rw[ae _ _ (fun h=>n6 (.inr (.inl h)))];exact g61
    have hjj:∃n:Int,([[I 3],[I 3],[I 3],[I 5],[I 4]]:List (List AC))[j.toNat]?=some [I n]:=by
     have:j=0\/j=1\/j=2\/j=3\/j=4:=by omega
     rcases this with rfl|rfl|rfl|rfl|rfl
     ·exact⟨3,rfl⟩
     ·exact⟨3,rfl⟩
     ·exact⟨3,rfl⟩
     ·exact⟨5,rfl⟩
     ·exact⟨4,rfl⟩
    obtain⟨kd,hgk⟩:=hjj
    generalize H1.set r (RdO bs p2)=H2 at*
    simp only[go_sem,rE,rA,e0,e2,e4,hj0,hgk,g42,wd,rL]
    refine dQ (ih t (dp - 1) ⟨D,hD8,hD⟩ (by omega) (by omega) p2 (by omega) (by omega)) hM2 (by simp only[go_sem,rE,Ty.enc_eq t]) (.refl _) (fun _=>gv _ _ _ _ (by omega)) (by simp[dS]) ?_
    rintro q e3 v3 VS3 NS3 p3 last3 H3 fp3 ⟨⟨xa,rfl,hxa,hxa2⟩,rfl,hp3,hp3',rfl⟩ hM3 hk3 hfp3
    have nf4:¬fp3 b4:=fun h=>(hfp3 b4 h).elim n4 (fun h=>by rw[g42]at h;simp at h)
    obtain⟨g43,n43⟩:=hk3 _ _ g42 n4
    obtain⟨g63,n63⟩:=hk3 _ _ g62 n6
    simp only[go_sem,rE,rA,e0,e2,e4,g43,wd,jy,bf,cq,or_false,forall_eq,nf4,rL]
    refine dQ (ih t (dp - 1) ⟨D,hD8,hD⟩ (by omega) (by omega) p3 (by omega) (by omega)) hM3 (by simp only[go_sem,rE,Ty.enc_eq t]) (.refl _) (fun _=>gv _ _ _ _ (by omega)) trivial ?_
    rintro q e5 v5 VS5 NS5 p5 last5 H5 fp5 ⟨⟨xb,rfl,hxb,hxb2⟩,rfl,hp5,hp5',rfl⟩ hM5 hk5 hfp5
    obtain⟨g65,n65⟩:=hk5 _ _ g63 n63
    simp only[go_sem,rE,rA,e6,g65,Ex.enc_eq xa,Ex.enc_eq xb,ax,aq,az,rL,bh,aC]
    intro b7 hb7
    have d67:=al g65 hb7
    simp only[go_sem,rE,rA,e6,d67,g65,rL]
    refine stop _ _ _ _ _ p5 (.mk kd 0 ⟨bl [],[]⟩ [xa,xb]) _ ((hM5.new hb7 _).put n65 _) (by omega) (by omega) (by simp only[go_sem,rE];exact e6) (ai _ _ _) rfl ?_ (okTwo kd ⟨hxa,hxa2⟩ ⟨hxb,hxb2⟩)
    have:=leTwo kd (some (b7,2*5,2*5)) xa xb
    simpa only[Ex.enc_eq xa,Ex.enc_eq xb]using this
   have readC:∀(E:Env),E 0=.ptr m 0->E 6=.ptr b6 0->∀A:Env->aj->Prop,aX.wp P (kd15 F) (cL.then A (aD.post [.cell 6 (some 5)] (fun q H'=>∃e' v' VS' NS' p' last',jo v p last (ew d) q v' p' last'/\cT H' m r bs e' v' VS' NS' p' last'))) E H1:=by
    intro E e0 e6 A
    rw[kd15]
    simp only[go_sem,rE,rA]
    let J:Nat->Env->aj->Prop:=fun k E H=>∃e' VS' NS' p',cT H m r bs e' v VS' NS' p' last/\p<=p'/\p'<=p+1+20*(k:Int)/\E 0=.ptr m 0/\E 6=.ptr b6 0/\E 11=I k/\H.get b6=some (.cells [I 0,I 0,S (bl []),NIL,NIL])/\¬cD m r e' VS' NS' b6
    refine aT 4 J
     ⟨e,VS,NS,p1,hM1,by omega,by omega,e0,e6,rfl,g61,n6⟩ ?_
    rintro k E H hk ⟨e',VS',NS',p',hM,hp1,hp2,e0,e6,e11,g6,n6⟩
    simp only[wp_seq,go_sem,rE,rA,e11]
    refine aG (fun hlt=>?_) (fun hge=>?_)
    ·have w1:=aL (n:=(k:Int)+1) (by omega) (by omega)
     simp only[go_sem,rE,rA,e0]
     refine dQ (iy L m r bs hbs v hv p' last (by omega) (by omega)) hM (rfl) (.refl _) (by simp) trivial ?_
     rintro q e2 v2 VS2 NS2 p2 last2 H2 fp2 ⟨⟨pl,u,rfl,hpl,hu⟩,rfl,hp3,hp4,rfl⟩ hM2 hk2 -
     obtain⟨g6,n6⟩:=hk2 _ _ g6 n6
     simp only[go_sem,rE,rA,Ty.enc_eq u,Pl.enc]
     intro b12 hb12 b13 hb13
     have hM3:=(hM2.new hb12 (.cells [S pl.name,au pl.path])).new (vu hb13 _) (.cells [.sl 1 none (Ty.encs u.kids)])
     have d12:=pO hb13
     have d6a:=al g6 hb12
     have d6b:b6≠b13:=al (H:=H2.set b12 _) (by rw[ae _ _ d6a];exact g6) hb13
     have hz:(((u.kids.length:Nat):Int)==0)=decide (u.kids.length=0):=by rw[aZ];simp
     simp only[go_sem,rE,rA,d12,Ne.symm d12,Ty.encs_map,am,hz,mU d12]
     have next:∀(E':Env),E' 0=.ptr m 0->E' 6=.ptr b6 0->E' 11=I (k+1:Nat)->k<4/\∃H'',aj.sub H'' ((H2.set b12 (.cells [S pl.name,au pl.path])).set b13 (.cells [.sl 1 none (u.kids.map Ty.enc)]))/\J (k+1) E' H'':=by
      intro E' h0 h6 h11
      rw[<-Ty.encs_map]
      exact⟨by omega,_,aj.sub_refl _,e2,VS2,NS2,p2,hM3,by omega,by omega,h0,h6,h11,by rw[ae _ _ d6b,ae _ _ d6a];exact g6,n6⟩
     by_cases hu0:u.kids.length=0
     ·by_cases hn:pl.name=bl [110,111,110,101]
      ·simp only[go_sem,rE,rA,hu0,hn,d12,e11,w1]
       rw[<-hn]
       refine next _ (e0) (e6) (rfl)
      ·simp only[go_sem,rE,rA,hu0,hn,d12,e6,d6a,d6b,g6,rL]
       rw[<-Ty.encs_map]
       exact stop _ _ _ _ _ p2 (.mk 2 0 pl []) _ (hM3.put n6 _) (by omega) (by omega) (by simp only[go_sem,rE];exact e6) (ai _ _ _) rfl (BI pl) (yv pl hpl)
     ·simp only[go_sem,rE,rA,hu0,e11,w1]
      exact next _ (e0) (e6) (rfl)
    ·simp only[go_sem,rE,rA,e6,g6,rL]
     exact stop _ _ _ _ _ p' (.mk 1 1 ⟨bl [],[]⟩ []) _ (hM.put n6 _) (by omega) (by omega) (by simp only[go_sem,rE];exact e6) (ai _ _ _) rfl (leNum 1) (okNum 1 (by decide))
   have fin4:∀(E:Env),E 0=.ptr m 0->E 2=I dp->E 4=.ptr b4 0->E 6=.ptr b6 0->E 10=I k->¬(k<2\/(dp<2/\3<k))->
    aX.wp P (kd16 F) (aD.post [.cell 6 (some 5)] (fun q H'=>∃e' v' VS' NS' p' last',jo v p last (ew d) q v' p' last'/\cT H' m r bs e' v' VS' NS' p' last')) E H1:=by
    intro E e0 e2 e4 e6 e10 hnot
    rw[kd16]
    by_cases hk4:k<4
    ·simp only[go_sem,rE,rA,e10,hk4]
     exact readC _ (by simp only[go_sem,rE,e0]) (by simp only[go_sem,rE,e6]) _
    ·simp only[go_sem,rE,rA,e10,hk4]
     exact twoC _ (by omega) (e0) (e2) (e4) (e6)
   by_cases hk2:k<2
   ·simp only[go_sem,rE,rA,hk2]
    exact numC _ (by simp only[go_sem,rE,e0]) (by simp only[go_sem,rE,e6]) _
   ·by_cases hdp3:dp<2
    ·by_cases hk3:k>3
     ·simp only[go_sem,rE,rA,hk2,e2,hdp3,hk3]
      exact numC _ (by simp only[go_sem,rE,e0]) (by simp only[go_sem,rE,e6]) _
     ·simp only[go_sem,rE,rA,hk2,e2,hdp3,hk3]
      exact fin4 _ (e0) (e2) (e4) (e6) (rfl) (by omega)
    ·simp only[go_sem,rE,rA,hk2,e2,hdp3]
     exact fin4 _ (e0) (e2) (e4) (e6) (rfl) (by omega)
  obtain⟨ks⟩:=t
  obtain⟨hk3,hks⟩:=j5 hD
  simp only[Ty.kids]at g4 other⊢
  have hz2:(((ks.length:Nat):Int)==2)=decide (ks.length=2):=by rw[aZ,beq_iff_eq,decide_eq_true_eq];omega
  by_cases hk2:ks.length=2
  ·obtain⟨ta,tb,rfl⟩:∃ta tb,ks=[ta,tb]:=by
    match ks,hk2 with
    |[ta,tb],_=>exact⟨_,_,rfl⟩
   obtain⟨Da,hDa,hta⟩:=hks ta (by simp)
   obtain⟨Db,hDb,htb⟩:=hks tb (by simp)
   have wfa:ta.wf:=⟨Da,by omega,hta⟩
   have wfb:tb.wf:=⟨Db,by omega,htb⟩
   have ea:(Ty.encs [ta,tb])[0]?=some ta.enc:=by simp[Ty.encs]
   have eb:(Ty.encs [ta,tb])[1]?=some tb.enc:=by simp[Ty.encs]
   rw[Ty.enc_eq]at ea eb
   have hl2:(Ty.encs [ta,tb]).length=2:=rfl
   simp only[go_sem,rE,rA,g4,hl2,Int.cast_ofNat_Int,beq_self_eq_true]
   have deepC:∀(E:Env) (H:aj) (e':Nat) (VS' NS':AC) (p':Int),cT H m r bs e' v VS' NS' p' last->p<=p'->p'<=p+100->E 0=.ptr m 0->E 2=I dp->E 4=.ptr b4 0->E 6=.ptr b6 0->H.get b4=some (.cells [.sl 1 none (Ty.encs [ta,tb])])->H.get b6=some (.cells [I 0,I 0,S (bl []),NIL,NIL])->¬cD m r e' VS' NS' b4->¬cD m r e' VS' NS' b6->
    ∀A:Env->aj->Prop,aX.wp P (kd18 F) (cL.then A (aD.post [.cell 6 (some 5)] (fun q H'=>∃e' v' VS' NS' p' last',jo v p last (ew d) q v' p' last'/\cT H' m r bs e' v' VS' NS' p' last'))) E H:=by
    intro E H e' VS' NS' p' hM1 h1 h2 e0 e2 e4 e6 g41 g61 n4 n6 A
    rw[kd18]
    simp only[go_sem,rE,rA,e2]
    refine aG (fun hlt=>?_) (fun hge=>?_)
    ·simp only[go_sem,rE,rA,e6,g61,rL]
     exact stop _ _ _ _ _ p' (.mk 2 0 ⟨bl [110,111,110,101],[]⟩ []) _ (hM1.put n6 _) (by omega) (by omega) (by simp only[go_sem,rE];exact e6) (ai _ _ _) rfl leNone (yv _ (by simp))
    ·obtain⟨d',rfl⟩:∃d',d=d'+1:=⟨d - 1,by omega⟩
     have hec':=oG d'
     have hecd:ew (d'+1)=200+2*ew d':=rfl
     have wd:=aL (n:=dp - 1) (by omega) (by omega)
     have ih:=ih d' (by omega) (by omega)
     simp only[go_sem,rE,rA,e0,e2,e4,g41,wd,dz,Int.toNat_zero,ea,rL]
     refine dQ (ih ta (dp - 1) wfa (by omega) (by omega) p' (by omega) (by omega)) hM1 (by simp only[go_sem,rE,Ty.enc_eq ta]) (.refl _) (fun _=>gv _ _ _ _ (by omega)) (by simp[dS]) ?_
     rintro q e3 v3 VS3 NS3 p3 last3 H3 fp3 ⟨⟨xa,rfl,hxa,hxa2⟩,rfl,hp3,hp3',rfl⟩ hM3 hk3 hfp3
     have nf4:¬fp3 b4:=fun h=>(hfp3 b4 h).elim n4 (fun h=>by rw[g41]at h;simp at h)
     obtain⟨g43,n43⟩:=hk3 _ _ g41 n4
     obtain⟨g63,n63⟩:=hk3 _ _ g61 n6
     simp only[go_sem,rE,rA,e0,e2,e4,g43,wd,dO,Int.reduceToNat,eb,jy,bf,cq,or_false,forall_eq,nf4,rL]
     refine dQ (ih tb (dp - 1) wfb (by omega) (by omega) p3 (by omega) (by omega)) hM3 (by simp only[go_sem,rE,Ty.enc_eq tb]) (.refl _) (fun _=>gv _ _ _ _ (by omega)) trivial ?_
     rintro q e5 v5 VS5 NS5 p5 last5 H5 fp5 ⟨⟨xb,rfl,hxb,hxb2⟩,rfl,hp5,hp5',rfl⟩ hM5 hk5 hfp5
     obtain⟨g65,n65⟩:=hk5 _ _ g63 n63
     simp only[go_sem,rE,rA,e6,g65,Ex.enc_eq xa,Ex.enc_eq xb,ax,aq,az,rL,bh,aC]
     intro b7 hb7
     have d67:=al g65 hb7
     simp only[go_sem,rE,rA,e6,d67,g65,rL]
     refine stop _ _ _ _ _ p5 (.mk 6 0 ⟨bl [],[]⟩ [xa,xb]) _ ((hM5.new hb7 _).put n65 _) (by omega) (by omega) (by simp only[go_sem,rE];exact e6) (ai _ _ _) rfl ?_ (okTwo 6 ⟨hxa,hxa2⟩ ⟨hxb,hxb2⟩)
     have:=leTwo 6 (some (b7,2*5,2*5)) xa xb
     simpa only[Ex.enc_eq xa,Ex.enc_eq xb]using this
   let J:Nat->Env->aj->Prop:=fun k E H=>∃e' VS' NS' p',cT H m r bs e' v VS' NS' p' last/\p<=p'/\p'<=p+20*(k:Int)/\E 0=.ptr m 0/\E 2=I dp/\E 4=.ptr b4 0/\E 6=.ptr b6 0/\E 7=I k/\H.get b4=some (.cells [.sl 1 none (Ty.encs [ta,tb])])/\H.get b6=some (.cells [I 0,I 0,S (bl []),NIL,NIL])/\¬cD m r e' VS' NS' b4/\¬cD m r e' VS' NS' b6
   refine aT 3 J ⟨e,VS,NS,p,hM6,by omega,by omega,rfl,rfl,rfl,rfl,rfl,g4,g6,n4,n6⟩ ?_
   clear g4 g6 n4 n6 hom hM6
   rintro k E H hk ⟨e',VS',NS',p',hM,hp1,hp2,e0,e2,e4,e6,e7,g4,g6,n4,n6⟩
   simp only[wp_seq,go_sem,rE,rA,e7]
   refine aG (fun hlt=>?_) (fun hge=>?_)
   ·have w1:=aL (n:=(k:Int)+1) (by omega) (by omega)
    simp only[go_sem,rE,rA,e0]
    refine dQ (iy L m r bs hbs v hv p' last (by omega) (by omega)) hM (rfl) (.refl _) (by simp) trivial ?_
    rintro q e2' v2 VS2 NS2 p2 last2 H2 fp2 ⟨⟨pl,u,rfl,hpl,hu⟩,rfl,hp3,hp4,rfl⟩ hM2 hk2 -
    obtain⟨g4,n4⟩:=hk2 _ _ g4 n4
    obtain⟨g6,n6⟩:=hk2 _ _ g6 n6
    obtain⟨Du,hDu,hu⟩:=hu
    simp only[go_sem,rE,rA,Ty.enc_eq u,Pl.enc]
    intro b12 hb12 b13 hb13
    have hM3:=(hM2.new hb12 (.cells [S pl.name,au pl.path])).new (vu hb13 _) (.cells [.sl 1 none (Ty.encs u.kids)])
    have d12:=pO hb13
    have d6a:=al g6 hb12
    have d4a:=al g4 hb12
    have d6b:b6≠b13:=al (H:=H2.set b12 _) (by rw[ae _ _ d6a];exact g6) hb13
    have d4b:b4≠b13:=al (H:=H2.set b12 _) (by rw[ae _ _ d4a];exact g4) hb13
    simp only[go_sem,rE,rA,d12,Ne.symm d12,mU d12,e4,d4a,d4b,g4,rL]
    refine ao (qJ L Du u (.mk [ta,tb]) hu) (by simp only[go_sem,rE,Ty.enc_eq u,Ty.enc_eq (.mk [ta,tb]),Ty.kids]) ?_
    by_cases hs:u=.mk [ta,tb]
    ·simp only[go_sem,rE,rA,hs,d12,e6,d6a,d6b,g6,rL]
     rw[hs]at hM3
     exact stop _ _ _ _ _ p2 (.mk 2 0 pl []) _ (hM3.put n6 _) (by omega) (by omega) (by simp only[go_sem,rE];exact e6) (ai _ _ _) rfl (BI pl) (yv pl hpl)
    ·simp only[go_sem,rE,rA,hs,e7,w1]
     exact⟨by omega,_,aj.sub_refl _,e2',VS2,NS2,p2,hM3,by omega,by omega,e0,e2,e4,e6,rfl,by rw[ae _ _ d4b,ae _ _ d4a];exact g4,by rw[ae _ _ d6b,ae _ _ d6a];exact g6,n4,n6⟩
   ·simp only[wp_exit,fl,dL,cC]
    exact deepC _ _ e' VS' NS' p' hM hp1 (by omega) (by simp only[go_sem,rE,e0]) (by simp only[go_sem,rE,e2]) (by simp only[go_sem,rE,e4]) (by simp only[go_sem,rE,e6]) g4 g6 n4 n6 _
  ·simp only[go_sem,rE,rA,g4,Ty.encs_map,am,hz2,hk2]
   rw[Ty.encs_map]at other
   rw[Ty.encs_map]at g4
   exact other _ _ hM6 (rfl) (rfl) (rfl) (rfl) g4 g6
end
end Go.Xl
