/- FnCheckLive: a part of the proof. -/
import Derived.Test.YtemecjmcicmnbaaGreatDoorX1
set_option linter.unusedVariables false
set_option linter.unusedSimpArgs false
namespace Go.Xl
open _root_.Array renaming toList_inj -> eY
open _root_.Bool renaming and_eq_false_iff -> cO, and_eq_true -> aw, eq_iff_iff -> aZ, false_eq_true -> ap, not_eq_true' -> dJ, or_false -> dI, true_and -> bX
open _root_.Iff renaming rfl -> dA
open _root_.Int renaming eq_ofNat_of_zero_le -> dF, le_refl -> dz, natCast_zero -> cW, toNat_natCast -> dH
open _root_.List renaming all_eq_false -> du, all_eq_true -> aW, any_append -> fy, append_nil -> cX, cons_append -> cB, drop_eq_getElem_cons -> bU, drop_length -> l8, drop_succ_cons -> gE, drop_zero -> ip, eq_nil_of_length_eq_zero -> bu, findIdx?_eq_none_iff -> iB, findIdx?_eq_some_iff_getElem -> bQ, flatten_cons -> aq, flatten_nil -> az, getElem?_cons_succ -> aB, getElem?_cons_zero -> a7, getElem?_eq_getElem -> av, getElem?_eq_none -> fE, getElem?_take_of_lt -> dw, getElem_mem -> ay, length_append -> bq, length_cons -> aV, length_map -> am, length_nil -> bP, length_take -> bk, map_append -> bB, map_cons -> aS, map_nil -> bv, mem_cons -> bf, mem_iff_getElem -> bj, mem_iff_getElem? -> jV, mem_map -> aY, mem_of_getElem? -> ba, nil_append -> dm, not_mem_nil -> cq, replicate -> ax, take_length -> aU, take_succ_eq_append_getElem -> aA
open _root_.Nat renaming reduceEqDiff -> rE, reduceAdd -> rA, reduceLeDiff -> rL, add_mul -> cI, le_refl -> aC, min_eq_left -> eE, mul_le_mul_right -> bA, zero_add -> cj, zero_le -> fx
open _root_.Option renaming eq_none_or_eq_some -> cg, map_some -> ce
def zB(o:Option AC)(k:AC->Prop):Prop:=match o with
 |some r=>k r
 |none=>False
def pN(o:Option (List AC))(k:List AC->Prop):Prop:=match o with
 |some r=>k r
 |none=>False
def vq(o:Option (AC×Option Nat))(k:AC->Option Nat->Prop):Prop:=match o with
 |some r=>k r.1 r.2
 |none=>False
theorem td(r:AC)(k:AC->Prop):zB (some r) k=k r:=propext dA
theorem wF(r:List AC)(k:List AC->Prop):pN (some r) k=k r:=propext dA
theorem wG(r:AC)(ob:Option Nat)(k:AC->Option Nat->Prop):vq (some (r,ob)) k=k r ob:=propext dA
section
variable (P:Program)(dr:Bool)(K:Env->aj->Prop)(xs:List aN)(E:Env)(d:Option Nat)(H:aj)(l:Lds)(f:Fps)
def runK(r:AC):Prop:=bw P dr K xs (E.put d r) H l f
def z7(i:Nat)(inc:List Nat)(r:AC)(ob:Option Nat):Prop:=jy inc f ob/\bw P dr K xs (E.put d r) H (rx i ob l) f
def zy(sz len:Nat)(cs:List AC):Prop:=bw P dr K xs (E.put d (.sl sz none (bh sz len cs))) H l f
def zz(cs:List AC):Prop:=∀b,H.get b=none->bw P dr K xs (E.put d (.ptr b 0)) (H.set b (.cells cs)) l f
def By(sz len:Nat)(cs:List AC):Prop:=
 ∀b,H.get b=none->bw P dr K xs (E.put d (.sl sz (some (b,len*sz,len*sz)) (bh sz len cs))) (H.set b (.tail (len*sz) (len*sz))) l f
def runG(o:Option Bool)(x:aN):Prop:=match o with
 |some true=>bw P dr K (x::xs) E H l f
 |some false=>bw P dr K xs (E.put x.dst (.tup [])) H l f
 |none=>False
def r7(K:cL->Env->aj->Prop)(x:AC)(a b:aX):Prop:=∃t,x=.lit (.bool t)/\(t=true->a.wp P K E H)/\(t=false->b.wp P K E H)
end
section
variable {P:Program}{dr:Bool}{K:Env->aj->Prop}{xs:List aN}{E:Env}{d:Option Nat}{H:aj}{l:Lds}{f:Fps}
theorem z6{r:AC}:runK P dr K xs E d H l f r=bw P dr K xs (E.put d r) H l f:=propext dA
theorem Bz{i:Nat}{inc:List Nat}{r:AC}{ob:Option Nat}:z7 P dr K xs E d H l f i inc r ob=(jy inc f ob/\bw P dr K xs (E.put d r) H (rx i ob l) f):=propext dA
theorem yg{sz len:Nat}{cs:List AC}:zy P dr K xs E d H l f sz len cs=bw P dr K xs (E.put d (.sl sz none (bh sz len cs))) H l f:=propext dA
theorem yh{cs:List AC}:zz P dr K xs E d H l f cs=∀b,H.get b=none->bw P dr K xs (E.put d (.ptr b 0)) (H.set b (.cells cs)) l f:=propext dA
theorem Aa{sz len:Nat}{cs:List AC}:By P dr K xs E d H l f sz len cs=
 ∀b,H.get b=none->bw P dr K xs (E.put d (.sl sz (some (b,len*sz,len*sz)) (bh sz len cs))) (H.set b (.tail (len*sz) (len*sz))) l f:=propext dA
theorem Ab{x:aN}:runG P dr K xs E H l f (some true) x=bw P dr K (x::xs) E H l f:=propext dA
theorem yi{x:aN}:runG P dr K xs E H l f (some false) x=bw P dr K xs (E.put x.dst (.tup [])) H l f:=propext dA
end
section
variable {P:Program}{E:Env}{H:aj}{K:cL->Env->aj->Prop}{a b:aX}
theorem pI:r7 P E H K (.lit (.bool true)) a b=a.wp P K E H:=by simp[r7]
theorem nI:r7 P E H K (.lit (.bool false)) a b=b.wp P K E H:=by simp[r7]
theorem mF{t:Bool}(ha:t=true->a.wp P K E H)(hb:t=false->b.wp P K E H):r7 P E H K (.lit (.bool t)) a b:=⟨t,rfl,ha,hb⟩
theorem aG{p:Prop}[Decidable p](ha:p->a.wp P K E H)(hb:¬p->b.wp P K E H):r7 P E H K (.lit (.bool (decide p))) a b:=
 ⟨decide p,rfl,fun h=>ha (of_decide_eq_true h),fun h=>hb (of_decide_eq_false h)⟩
end
theorem fR(E:Env)(n:Nat)(x:AC):Env.put E (some n) x n=x:=by simp[Env.put]
theorem md(E:Env){n m:Nat}(x:AC)(h:m≠n):Env.put E (some n) x m=E m:=by simp[Env.put,h]
theorem B6(E:Env)(x:AC):Env.put E none x=E:=rfl
section
variable {P:Program}{dr:Bool}{K:Env->aj->Prop}{xs:List aN}{E:Env}{H:aj}{l:Lds}{f:Fps}
theorem lF:bw P dr K [] E H l f=K E H:=propext dA
theorem zY{i:Nat}{d:Option Nat}{g:Nat×Bool}{op:XOp}{inc:List Nat}:
 bw P dr K (⟨i,d,some g,op,inc⟩::xs) E H l f=runG P dr K xs E H l f (dB E (some g)) ⟨i,d,none,op,inc⟩:=by
 simp only[bw,aN.act]
 cases h:dB E (some g)with
 |none=>rfl
 |some b=>cases b<;>simp[runG,bw,aN.act,dB]
theorem sM{i:Nat}{d:Option Nat}{p:POp}{inc:List Nat}:
 bw P dr K (⟨i,d,none,.pure p,inc⟩::xs) E H l f=zB (p.val (aI.ev E)) (runK P dr K xs E d H l f):=by
 simp only[bw,aN.act,dB,zB]
 rfl
theorem run_load{i:Nat}{d:Option Nat}{o:LOp}{inc:List Nat}:
 bw P dr K (⟨i,d,none,.load o,inc⟩::xs) E H l f=vq (o.val H (aI.ev E)) (z7 P dr K xs E d H l f i inc):=by
 simp only[bw,aN.act,dB,vq,z7]
 split<;>simp_all
theorem Bv{i sz len:Nat}{d:Option Nat}{z:List Value}{ps:List (Nat×Nat×aI)}{inc:List Nat}:
 bw P dr K (⟨i,d,none,.lits sz len z ps,inc⟩::xs) E H l f=
  pN (ik ((ax len (z.map AC.lit)).flatten) (ps.map fun p=>(p.1,p.2.1,aI.ev E p.2.2))) (zy P dr K xs E d H l f sz len):=by
 simp only[bw,aN.act,dB,pN]
 rfl
theorem run_box{i:Nat}{d:Option Nat}{x:aI}{inc:List Nat}:
 bw P dr K (⟨i,d,none,.eff (.box x),inc⟩::xs) E H l f=pN (x.ev E).cells? (zz P dr K xs E d H l f):=by
 simp only[bw,aN.act,dB,EOp.isA,EOp.run,pN,if_true]
 rfl
theorem zZ{i:Nat}{d:Option Nat}{z:List Value}{inc:List Nat}:
 bw P dr K (⟨i,d,none,.eff (.alloc z),inc⟩::xs) E H l f=∀b,H.get b=none->bw P dr K xs (E.put d (.ptr b 0)) (H.set b (iA z)) l f:=by
 simp only[bw,aN.act,dB,EOp.isA,EOp.run,if_true]
theorem yY{k:IntKind}{n:Int}{z:List Value}:iA (.int k n::z)=.cells ((Value.int k n::z).map .lit):=rfl
theorem xN{n:Bool}{z:List Value}:iA (.bool n::z)=.cells ((Value.bool n::z).map .lit):=rfl
theorem ug{n:ByteArray}{z:List Value}:iA (.string n::z)=.cells ((Value.string n::z).map .lit):=rfl
theorem vU{a:Option Addr}{n c:Nat}{z:List Value}:iA (.slice a n c::z)=.cells ((Value.slice a n c::z).map .lit):=rfl
theorem tJ{a:Option Addr}{z:List Value}:iA (.pointer a::z)=.cells ((Value.pointer a::z).map .lit):=rfl
theorem vV{z:List Value}:iA (.nilIface::z)=.cells ((Value.nilIface::z).map .lit):=rfl
theorem yX{a:Option Nat}{z:List Value}:iA (.map a::z)=.cells ((Value.map a::z).map .lit):=rfl
theorem vT{ts:Array Value}{z:List Value}:iA (.tuple ts::z)=.typed ts.size (z.map .lit):=rfl
theorem sQ{i sz len:Nat}{d:Option Nat}{z:List Value}{ps:List (Nat×Nat×aI)}{inc:List Nat}:
 bw P dr K (⟨i,d,none,.eff (.buildSlice sz len z ps),inc⟩::xs) E H l f=
  pN (ik ((ax len (z.map AC.lit)).flatten) (ps.map fun p=>(p.1,p.2.1,aI.ev E p.2.2))) (By P dr K xs E d H l f sz len):=by
 simp only[bw,aN.act,dB,EOp.isA,EOp.run,pN,if_true]
 rfl
def mv(i d:Nat)(a:aI):aN:=⟨i,some d,none,.pure (.move a),[]⟩
def pu(i d:Nat)(p:POp):aN:=⟨i,some d,none,.pure p,[]⟩
def ld(i d:Nat)(g:Option Nat)(a:aI):aN:=⟨i,some d,none,.load (.load g a),[]⟩
def sl(n:Nat):aI:=.slot n
instance (n:Nat):OfNat aI n:=⟨.slot n⟩
def ci(n:Int):aI:=.const (.int .i64 n)
def ct:aI:=.const (.bool true)
def cf:aI:=.const (.bool false)
def rg(xs:List aN):aX:=.region false xs
def ca(i d:Nat)(f:FuncId)(as:List aI):aN:=⟨i,some d,none,.eff (.call f as),[]⟩
def gp(i d g:Nat)(b:Bool)(p:POp):aN:=⟨i,some d,some (g,b),.pure p,[]⟩
def gl(i d g:Nat)(b:Bool)(o:Option Nat)(a:aI):aN:=⟨i,some d,some (g,b),.load (.load o a),[]⟩
def fa(i d k:Nat)(x:aI):aN:=pu i d (.fieldAddr k x)
def ef(i d:Nat)(e:EOp):aN:=⟨i,some d,none,.eff e,[]⟩
def en(i:Nat)(e:EOp):aN:=⟨i,none,none,.eff e,[]⟩
theorem run_ef{i d:Nat}{e:EOp}:bw P dr K (ef i d e::xs) E H l f=bw P dr K (⟨i,some d,none,.eff e,[]⟩::xs) E H l f:=propext dA
theorem run_en{i:Nat}{e:EOp}:bw P dr K (en i e::xs) E H l f=bw P dr K (⟨i,none,none,.eff e,[]⟩::xs) E H l f:=propext dA
def nc(i d:Nat)(x:aI):aN:=pu i d (.nilCheck x)
def ia(i d z:Nat)(x y:aI):aN:=pu i d (.indexAddr z x y)
theorem run_fa{i d k:Nat}{x:aI}:bw P dr K (fa i d k x::xs) E H l f=bw P dr K (pu i d (.fieldAddr k x)::xs) E H l f:=propext dA
theorem run_nc{i d:Nat}{x:aI}:bw P dr K (nc i d x::xs) E H l f=bw P dr K (pu i d (.nilCheck x)::xs) E H l f:=propext dA
theorem run_ia{i d z:Nat}{x y:aI}:bw P dr K (ia i d z x y::xs) E H l f=bw P dr K (pu i d (.indexAddr z x y)::xs) E H l f:=propext dA
theorem ev_num{n:Nat}:aI.ev E (no_index (OfNat.ofNat n:aI))=E (OfNat.ofNat n:Nat):=rfl
theorem ev_ci{n:Int}:aI.ev E (ci n)=I n:=rfl
theorem ev_ct:aI.ev E ct=B true:=rfl
theorem ev_cf:aI.ev E cf=B false:=rfl
theorem run_gp{i d g:Nat}{b:Bool}{p:POp}:bw P dr K (gp i d g b p::xs) E H l f=bw P dr K (⟨i,some d,some (g,b),.pure p,[]⟩::xs) E H l f:=propext dA
theorem run_gl{i d g:Nat}{b:Bool}{o:Option Nat}{a:aI}:bw P dr K (gl i d g b o a::xs) E H l f=bw P dr K (⟨i,some d,some (g,b),.load (.load o a),[]⟩::xs) E H l f:=propext dA
theorem wp_rg{xs:List aN}{K:cL->Env->aj->Prop}:(rg xs).wp P K E H=bw P false (K .normal) xs E H [] []:=propext dA
theorem ev_slot{n:Nat}:aI.ev E (.slot n)=E n:=rfl
theorem BV{v:Value}:aI.ev E (.const v)=.lit v:=rfl
theorem ev_aggc{vs:List Value}:aI.ev E (.aggc vs)=.agg (vs.map .lit):=rfl
theorem ev_func{g:FuncId}:aI.ev E (.func g)=.fn (.func g) [] []:=rfl
theorem ev_sl{n:Nat}:aI.ev E (sl n)=E n:=rfl
theorem Bu{i d:Nat}{a:aI}:bw P dr K (mv i d a::xs) E H l f=bw P dr K xs (E.put (some d) (a.ev E)) H l f:=by
 simp only[mv,sM,POp.val,td,z6]
theorem run_pu{i d:Nat}{p:POp}:bw P dr K (pu i d p::xs) E H l f=zB (p.val (aI.ev E)) (runK P dr K xs E (some d) H l f):=by
 simp only[pu,sM]
theorem run_ld{i d:Nat}{g:Option Nat}{a:aI}:bw P dr K (ld i d g a::xs) E H l f=vq ((LOp.load g a).val H (aI.ev E)) (z7 P dr K xs E (some d) H l f i []):=by
 simp only[ld,run_load]
def zx(P:Program)(dr:Bool)(K:Env->aj->Prop)(xs:List aN)(E:Env)(d:Option Nat)(H:aj)(l:Lds)(f:Fps)(i:Nat)(inc:List Nat)(n r off:Nat)(us:List AC)(o:Option cK):Prop:=match o with
 |some (.cells cs)=>us.length=n/\off+n<=cs.length/\dS inc l (·=r)/\bw P dr K xs (E.put d (.tup [])) (H.set r (.cells (bH cs off us))) l ((i,fun b=>b=r\/H.get b=none)::f)
 |_=>False
def runS(P:Program)(dr:Bool)(K:Env->aj->Prop)(xs:List aN)(E:Env)(d:Option Nat)(H:aj)(l:Lds)(f:Fps)(i:Nat)(inc:List Nat)(n:Nat)(a:AC)(us:Option (List AC)):Prop:=match a,us with
 |.ptr r off,some us=>zx P dr K xs E d H l f i inc n r off us (H.get r)
 |_,_=>False
theorem Bx{i n r off:Nat}{d:Option Nat}{inc:List Nat}{us:List AC}:runS P dr K xs E d H l f i inc n (.ptr r off) (some us)=zx P dr K xs E d H l f i inc n r off us (H.get r):=propext dA
theorem wy{i n r off:Nat}{d:Option Nat}{inc:List Nat}{us cs:List AC}:zx P dr K xs E d H l f i inc n r off us (some (.cells cs))=
 (us.length=n/\off+n<=cs.length/\dS inc l (·=r)/\bw P dr K xs (E.put d (.tup [])) (H.set r (.cells (bH cs off us))) l ((i,fun b=>b=r\/H.get b=none)::f)):=propext dA
theorem run_st{i n:Nat}{d:Option Nat}{a x:aI}{inc:List Nat}:
 bw P dr K (⟨i,d,none,.eff (.store n a x),inc⟩::xs) E H l f=runS P dr K xs E d H l f i inc n (a.ev E) (x.ev E).cells?:=by
 simp only[bw,aN.act,dB,EOp.isA,EOp.run,ap,if_false,runS]
 split
 ·rename_i ha hx
  simp only[ha,hx,zx]
  split<;>simp_all
 ·rename_i h
  split
  ·rename_i ha hx
   exact absurd ‹(x.ev E).cells?=some _› (h _ _ _ ‹a.ev E=.ptr _ _›)
  ·rfl
theorem run_append_nil{i sz bytes:Nat}{d:Option Nat}{s y:aI}{inc:List Nat}{ys:List (List AC)}(hs:s.ev E=NIL)(hy:jl sz (y.ev E)=some ys)(hl:ys.length<=2^32)(hne:ys≠[])
(h:∀b m,H.get b=none->ys.length*sz<=m->bw P dr K xs (E.put d (.sl sz (some (b,ys.length*sz,m)) ys)) (H.set b (.tail (ys.length*sz) m)) l f):
 bw P dr K (⟨i,d,none,.eff (.append sz bytes s y),inc⟩::xs) E H l f:=by
 simp only[bw,aN.act,dB,EOp.isA,EOp.run,hs,hy,if_true]
 exact⟨hl,fun e=>absurd e hne,fun _ b m hb hm=>h b m hb hm⟩
def cM(P:Program)(g:FuncId)(as:List AC)(r:AC):Prop:=bD P g as .empty fun q H'=>q=r/\H'=.empty
theorem u6(r:AC):AY (fun q H'=>q=r/\H'=aj.empty) .empty:=fun N=>⟨r,.empty,⟨rfl,rfl⟩,fun b hb=>by simp at hb⟩
theorem ao{i:Nat}{g:FuncId}{args:List aI}{d:Option Nat}{inc:List Nat}{as:List AC}{r:AC}(hc:cM P g as r)(ha:args.map (aI.ev E)=as)
(h:bw P dr K xs (E.put d r) H l ((i,fun b=>False\/H.get b=none)::f)):bw P dr K (⟨i,d,none,.eff (.call g args),inc⟩::xs) E H l f:=by
 simp only[bw,aN.act,dB,EOp.isA,EOp.run,ha,ap,if_false]
 refine⟨.empty,_,H.sub_empty,hc,fun _=>u6 r,?_⟩
 rintro q H' ⟨rfl,rfl⟩ hd
 refine⟨?_,?_⟩
 ·cases inc with
  |nil=>trivial
  |cons=>intro z hz hi;simp
 ·rw[gF]
  simpa using h
theorem dR{i:Nat}{g:FuncId}{args:List aI}{d:Option Nat}{inc:List Nat}{as:List AC}{Hf:aj}{R:AC->aj->Prop}(hc:bD P g as Hf R)(ha:args.map (aI.ev E)=as)(hs:Hf.sub H)
(hlive:dr=true->AY R Hf)(hchk:dS inc l fun b=>Hf.get b≠none)
(h:∀r H',R r H'->(∀b,H'.get b≠none->Hf.get b=none->H.get b=none)->bw P dr K xs (E.put d r) (H.swap Hf H') l ((i,fun b=>Hf.get b≠none\/H.get b=none)::f)):
 bw P dr K (⟨i,d,none,.eff (.call g args),inc⟩::xs) E H l f:=by
 simp only[bw,aN.act,dB,EOp.isA,EOp.run,ha,ap,if_false]
 exact⟨Hf,R,hs,hc,hlive,fun r H' hr hd=>⟨hchk,h r H' hr hd⟩⟩
end
section
variable {P:Program}{K:cL->Env->aj->Prop}{E:Env}{H:aj}
theorem wp_skip:aX.skip.wp P K E H=K .normal E H:=propext dA
theorem wp_region{d:Bool}{xs:List aN}:(aX.region d xs).wp P K E H=bw P d (K .normal) xs E H [] []:=propext dA
theorem xY{a b:Nat}{xs ys:List aN}:(aX.region2 a b xs ys).wp P K E H=(bw P true (K .normal) xs E H [] []/\bw P true (K .normal) ys E H [] []):=propext dA
theorem wp_seq{a b:aX}:(aX.seq a b).wp P K E H=a.wp P (cL.then (b.wp P K) K) E H:=propext dA
theorem wp_cond{c:aI}{a b:aX}:(aX.cond c a b).wp P K E H=r7 P E H K (c.ev E) a b:=propext dA
theorem wp_block{id:Nat}{c:aX}:(aX.block id c).wp P K E H=c.wp P (cL.inBlock id K) E H:=propext dA
theorem wp_exit{id:Nat}:(aX.exit id).wp P K E H=K (.exit id) E H:=propext dA
theorem wp_ret:aX.ret.wp P K E H=K .ret E H:=propext dA
theorem aX.wp_mono{c:aX}:∀{K K':cL->Env->aj->Prop} {E:Env} {H:aj},(∀e E H,K e E H->K' e E H)->c.wp P K E H->c.wp P K' E H:=by
 induction c with
 |skip=>intro K K' E H h;exact h _ _ _
 |region d xs=>intro K K' E H h;exact rk (h .normal) xs
 |region2 a b xs ys=>intro K K' E H h hh;exact⟨rk (h .normal) xs hh.1,rk (h .normal) ys hh.2⟩
 |seq a b iha ihb=>
  intro K K' E H h
  refine iha (fun e E H q=>?_)
  cases e with
  |normal=>exact ihb h q
  |exit i=>exact h _ _ _ q
  |ret=>exact h _ _ _ q
 |cond c a b iha ihb=>intro K K' E H h;rintro⟨t,h0,h1,h2⟩;exact⟨t,h0,fun q=>iha h (h1 q),fun q=>ihb h (h2 q)⟩
 |block i c ih=>
  intro K K' E H h
  refine ih (fun e E H q=>?_)
  cases e with
  |normal=>exact h _ _ _ q
  |exit j=>
   simp only[cL.inBlock]at q⊢
   split<;>rename_i hj<;>simp only[hj,if_true,if_false]at q<;>exact h _ _ _ q
  |ret=>exact h _ _ _ q
 |loop c ih=>
  intro K K' E H h
  rintro⟨J,h0,h1⟩
  refine⟨J,h0,fun n E H q=>ih (fun e E H q=>?_) (h1 n E H q)⟩
  cases e with
  |normal=>exact q
  |exit i=>exact h _ _ _ q
  |ret=>exact h _ _ _ q
 |exit i=>intro K K' E H h;exact h _ _ _
 |ret=>intro K K' E H h;exact h _ _ _
theorem wj{c:aX}(I:Nat->Env->aj->Prop)(n:Nat)(h0:I n E H)
(h:∀n E H,I n E H->c.wp P (cL.then (fun E' H'=>∃m,m<n/\∃H'',HWk H' H''/\I m E' H'') K) E H):(aX.loop c).wp P K E H:=⟨I,⟨n,h0⟩,h⟩
theorem wp_loop{c:aX}(I:Nat->Env->aj->Prop)(n:Nat)(h0:I n E H)
(h:∀n E H,I n E H->c.wp P (cL.then (fun E' H'=>∃m,m<n/\∃H'',H''.sub H'/\I m E' H'') K) E H):(aX.loop c).wp P K E H:=by
 refine wj I n h0 fun n E H hI=>aX.wp_mono (fun e E' H' he=>?_) (h n E H hI)
 cases e with
 |normal=>obtain⟨m,hm,H'',hs,hi⟩:=he;exact⟨m,hm,H'',.of_sub hs,hi⟩
 |exit i=>exact he
 |ret=>exact he
theorem um{c:aX}(len:Nat)(J:Nat->Env->aj->Prop)(h0:J 0 E H)
(h:∀k E H,k<=len->J k E H->c.wp P (cL.then (fun E' H'=>k<len/\∃H'',HWk H' H''/\J (k+1) E' H'') K) E H):(aX.loop c).wp P K E H:=by
 refine wj (fun n E H=>∃k,n=len - k/\k<=len/\J k E H) len ⟨0,rfl,fx _,h0⟩ ?_
 rintro n E H ⟨k,rfl,hk,hJ⟩
 refine aX.wp_mono (fun e E' H' he=>?_) (h k E H hk hJ)
 cases e with
 |normal=>
  obtain⟨hlt,H'',hs,hj⟩:=he
  exact⟨len - (k+1),by omega,H'',hs,k+1,rfl,hlt,hj⟩
 |exit i=>exact he
 |ret=>exact he
theorem aT{c:aX}(len:Nat)(J:Nat->Env->aj->Prop)(h0:J 0 E H)
(h:∀k E H,k<=len->J k E H->c.wp P (cL.then (fun E' H'=>k<len/\∃H'',H''.sub H'/\J (k+1) E' H'') K) E H):(aX.loop c).wp P K E H:=by
 refine um len J h0 fun k E H hk hJ=>aX.wp_mono (fun e E' H' he=>?_) (h k E H hk hJ)
 cases e with
 |normal=>obtain⟨hm,H'',hs,hi⟩:=he;exact⟨hm,H'',.of_sub hs,hi⟩
 |exit i=>exact he
 |ret=>exact he
theorem cC{A:Env->aj->Prop}:cL.then A K .normal E H=A E H:=propext dA
theorem fl{A:Env->aj->Prop}{i:Nat}:cL.then A K (.exit i) E H=K (.exit i) E H:=propext dA
theorem Bm{A:Env->aj->Prop}:cL.then A K .ret E H=K .ret E H:=propext dA
theorem lq{i:Nat}:cL.inBlock i K .normal E H=K .normal E H:=propext dA
theorem wY{i:Nat}:cL.inBlock i K .ret E H=K .ret E H:=propext dA
theorem dL{i:Nat}:cL.inBlock i K (.exit i) E H=K .normal E H:=by simp[cL.inBlock]
theorem ub{i j:Nat}(h:j≠i):cL.inBlock i K (.exit j) E H=K (.exit j) E H:=by simp[cL.inBlock,h]
end
theorem gK{E:Env}{H:aj}{n:Nat}{R:AC->aj->Prop}(h:R (E n) H):aD.post [.slot n] R .ret E H:=
 ⟨E n,rfl,E n,H,.refl _ _,h⟩
theorem Aj{E:Env}{H:aj}{n r off:Nat}{g:Option Nat}{cs:List AC}{q:AC}{R:AC->aj->Prop}(hE:E n=.ptr r off)(hg:H.get r=some (.cells cs))(hq:fM g cs off=some q)
{H':aj}(hs:H'.sub H)(h:R q H'):aD.post [.cell n g] R .ret E H:=
 ⟨q,by simp only[lW,iK,j4.val,hE,hg,hq],q,H',.of (.refl _) hs,h⟩
theorem yM(cs:List AC):AC.cells? (.agg cs)=some cs:=rfl
theorem A8(sz:Nat)(t:Option (Nat×Nat×Nat))(es:List (List AC)):AC.cells? (.sl sz t es)=some [.sl sz t es]:=rfl
theorem yJ(r o:Nat):AC.cells? (.ptr r o)=some [.ptr r o]:=rfl
theorem yL(cs:List AC):AC.cells? (.elt cs)=some [.elt cs]:=rfl
theorem vI(t:TypeId)(x:AC):AC.cells? (.iface t x)=some [.iface t x]:=rfl
theorem A9(f:Fn)(a b:List AC):AC.cells? (.fn f a b)=some [.fn f a b]:=rfl
theorem yK(k:IntKind)(n:Int):AC.cells? (.lit (.int k n))=some [.lit (.int k n)]:=rfl
theorem uc(s:ByteArray):AC.cells? (.lit (.string s))=some [.lit (.string s)]:=rfl
theorem xv(b:Bool):AC.cells? (.lit (.bool b))=some [.lit (.bool b)]:=rfl
theorem vH(a:Option Addr)(n c:Nat):AC.cells? (.lit (.slice a n c))=some [.lit (.slice a n c)]:=rfl
theorem tD(a:Option Addr):AC.cells? (.lit (.pointer a))=some [.lit (.pointer a)]:=rfl
theorem sf:AC.cells? (.lit .nilIface)=some [.lit .nilIface]:=rfl
theorem beq_tt:(true==true)=true:=rfl
theorem beq_tf:(true==false)=false:=rfl
theorem beq_ft:(false==true)=false:=rfl
theorem beq_ff:(false==false)=true:=rfl
theorem ite_t{α:Type}(a b:α):(if true=true then a else b)=a:=rfl
theorem ite_f{α:Type}(a b:α):(if false=true then a else b)=b:=rfl
theorem qS(H:aj)(b:Nat)(o o':cK):(H.set b o).set b o'=H.set b o':=by
 apply aj.ext;intro c;simp only[aM];split<;>rfl
theorem aL{n:Int}(h:-9223372036854775808<=n)(h':n<=9223372036854775807):IntKind.i64.wrap n=n:=
 zl .i64 n (by simpa[IntKind.min,IntKind.bits,IntKind.signed]using h) (by simpa[IntKind.max,IntKind.bits,IntKind.signed]using h')
def bT(P:Program)(f:FuncId)(x:aD):Prop:=
 ∀{xs:List AC} {H:aj} {R:AC->aj->Prop},xs.length<=x.ntmps->x.body.wp P (aD.post x.results R) (mN xs) H->bD P f xs H R
theorem aE{P:Program}{f:FuncId}{fn:Func}{xf:aD}(hf:P.funcs[f]?=some fn)(hx:vi P fn=some xf)(hok:yw P fn xf=true):bT P f xf:=
 fun hlen h=>AX hf hx hok hlen h
attribute [go_sem] run_fa run_ef run_en run_nc run_ia ev_num ev_ci ev_ct ev_cf run_gp run_gl wp_rg ip gE cX dm yY xN ug vU tJ vV yX vT cq false_implies implies_true Nat.add_zero cj Nat.zero_mul Nat.one_mul Nat.mul_one aC ik ai ae beq_tt beq_tf beq_ft beq_ff ite_t ite_f decide_true decide_false Bool.not_true Bool.not_false run_st Bx wy bH List.take_succ_cons List.take_zero aV bP List.take_nil List.drop_nil qS ev_sl Bu run_pu run_ld td wF wG Ab yi z6 Bz yg yh Aa pI nI fR md B6 lF zY sM run_load Bv run_box zZ sQ wp_skip wp_region xY wp_seq wp_cond wp_block wp_exit wp_ret cC fl Bm lq wY dL ub POp.val ev_slot BV ev_aggc ev_func vB LOp.val fM jy rx jl na nf yM A8 yJ yL vI A9 yK uc xv vH tD sf mN dB dS Option.bind a7 aB ce Option.getD_some if_true if_false ne_eq not_false_eq_true not_true_eq_false aS bv true_and and_true and_self Int.natCast_nonneg dH cB dm gE ip
def LeA:List AC->List AC->Prop
 |[],[]=>True
 |x::xs,y::ys=>Le x y/\LeA xs ys
 |_,_=>False
def LeC:List AC->List AC->Prop
 |[],[]=>True
 |x::xs,y::ys=>(Le x y/\y.one=true)/\LeC xs ys
 |_,_=>False
def LeR:List (List AC)->List (List AC)->Prop
 |[],[]=>True
 |x::xs,y::ys=>LeC x y/\LeR xs ys
 |_,_=>False
theorem LeA.refl:∀xs,LeA xs xs
 |[]=>trivial
 |x::xs=>⟨.refl x,LeA.refl xs⟩
theorem LeC.refl:∀{xs:List AC},(∀x∈xs,x.one=true)->LeC xs xs
 |[],_=>trivial
 |x::xs,h=>⟨⟨.refl x,h x (by simp)⟩,LeC.refl fun y hy=>h y (by simp[hy])⟩
theorem LeA.length:∀{xs ys:List AC},LeA xs ys->xs.length=ys.length
 |[],[],_=>rfl
 |x::xs,y::ys,h=>by simp[LeA.length h.2]
theorem LeC.length:∀{xs ys:List AC},LeC xs ys->xs.length=ys.length
 |[],[],_=>rfl
 |x::xs,y::ys,h=>by simp[LeC.length h.2]
theorem LeR.length:∀{xs ys:List (List AC)},LeR xs ys->xs.length=ys.length
 |[],[],_=>rfl
 |x::xs,y::ys,h=>by simp[LeR.length h.2]
theorem LeA.get:∀{xs ys:List AC},LeA xs ys->∀{j:Nat} {y},ys[j]?=some y->∃x,xs[j]?=some x/\Le x y
 |[],[],_,j,y,h=>by simp at h
 |x::xs,y::ys,h,0,z,hz=>by simp at hz;subst hz;exact⟨x,rfl,h.1⟩
 |x::xs,y::ys,h,j+1,z,hz=>by simpa using LeA.get h.2 (by simpa using hz)
theorem LeC.get:∀{xs ys:List AC},LeC xs ys->∀{j:Nat} {y},ys[j]?=some y->∃x,xs[j]?=some x/\Le x y/\y.one=true
 |[],[],_,j,y,h=>by simp at h
 |x::xs,y::ys,h,0,z,hz=>by simp at hz;subst hz;exact⟨x,rfl,h.1⟩
 |x::xs,y::ys,h,j+1,z,hz=>by simpa using LeC.get h.2 (by simpa using hz)
theorem LeR.get:∀{xs ys:List (List AC)},LeR xs ys->∀{j:Nat} {y},ys[j]?=some y->∃x,xs[j]?=some x/\LeC x y
 |[],[],_,j,y,h=>by simp at h
 |x::xs,y::ys,h,0,z,hz=>by simp at hz;subst hz;exact⟨x,rfl,h.1⟩
 |x::xs,y::ys,h,j+1,z,hz=>by simpa using LeR.get h.2 (by simpa using hz)
theorem LeC.one{xs ys:List AC}(h:LeC xs ys):∀y∈ys,y.one=true:=by
 intro y hy
 obtain⟨j,hj⟩:=jV.1 hy
 obtain⟨x,-,-,h1⟩:=h.get hj
 exact h1
theorem Le.nil(sz:Nat):Le NIL (.sl sz none []):=by
 intro M v r
 obtain⟨rfl,-⟩:=r.lit_inv
 exact .sl0
theorem Le.slR{sz:Nat}{tok:Option (Nat×Nat×Nat)}{es es':List (List AC)}(h:LeR es es'):Le (.sl sz tok es) (.sl sz none es'):=by
 intro M v r
 cases r with
 |sl0=>
  cases es' with
  |nil=>exact .sl0
  |cons=>simp[LeR]at h
 |sl vs hl hc hs hm hr ht=>
  have hlen:=h.length
  rw[hlen]
  refine .sl vs (by omega) (by omega) (fun e he=>?_) (fun i j e x he hx=>?_) (fun i j e x he hx=>?_) (by simp)
  ·obtain⟨i,hi⟩:=jV.1 he
   obtain⟨e0,h0,hle⟩:=h.get hi
   exact⟨by rw[<-hle.length];exact(hs e0 (ba h0)).1,hle.one⟩
  ·obtain⟨e0,h0,hle⟩:=h.get he
   obtain⟨x0,hx0,-⟩:=hle.get hx
   exact hm i j e0 x0 h0 hx0
  ·obtain⟨e0,h0,hle⟩:=h.get he
   obtain⟨x0,hx0,hxx,-⟩:=hle.get hx
   exact hxx M _ (hr i j e0 x0 h0 hx0)
theorem Le.tok(sz:Nat)(tok:Option (Nat×Nat×Nat))(es:List (List AC)):Le (.sl sz tok es) (.sl sz none es):=by
 intro M v r
 cases r with
 |sl0=>exact .sl0
 |sl vs hl hc hs hm hr ht=>exact .sl vs hl hc hs hm hr (by simp)
theorem Le.agg{xs ys:List AC}(h:LeC xs ys):Le (.agg xs) (.agg ys):=by
 intro M v r
 cases r with
 |agg h1 hl hr=>
  refine .agg h.one (by rw[<-h.length];exact hl) fun j y v hy hv=>?_
  obtain⟨x,hx,hle,-⟩:=h.get hy
  exact hle M v (hr j x v hx hv)
theorem Le.tup{xs ys:List AC}(h:LeA xs ys):Le (.tup xs) (.tup ys):=by
 intro M v r
 cases r with
 |tup hl hr=>
  refine .tup (by rw[<-h.length];exact hl) fun j y v hy hv=>?_
  obtain⟨x,hx,hle⟩:=h.get hy
  exact hle M v (hr j x v hx hv)
def OLe:cK->cK->Prop
 |.cells cs,.cells cs'=>LeC cs cs'
 |o,o'=>o=o'
def HLe(H H':aj):Prop:=∀b,match H.get b,H'.get b with
 |some o,some o'=>OLe o o'
 |none,none=>True
 |_,_=>False
theorem HLe.none{H H':aj}(h:HLe H H')(b:Nat):H.get b=none↔H'.get b=none:=by
 have:=h b
 split at this<;>simp_all
theorem HLe.sim{H H':aj}(h:HLe H H'){M:bO}{w:World}(s:Sim M H w):Sim M H' w:=by
 refine⟨s.mem,fun b o' ho'=>?_⟩
 have:=h b
 rw[ho']at this
 split at this
 ·rename_i o o2 ho heq
  simp at heq;subst heq
  have so:=s.obj b o ho
  unfold OLe at this
  split at this
  ·obtain⟨vs,el,h1,h2,h3,h4,h5⟩:=so
   refine⟨vs,el,h1,this.one,by rw[<-this.length];exact h3,fun j y v hy hv=>?_,h5⟩
   obtain⟨x,hx,hle,-⟩:=this.get hy
   exact hle M v (h4 j x v hx hv)
  ·subst this;exact so
 ·rename_i heq;simp at heq
 ·exact this.elim
theorem bI.dom{M M':bO}{H H₀ H':aj}{w w':World}(h:∀b,H.get b=none↔H₀.get b=none)(t:bI M H w M' H' w'):bI M H₀ w M' H' w':=
 ⟨t.le,t.size,fun b hb hn=>t.same b hb ((h b).2 hn),fun b hb=>(t.fresh b hb).imp (fun q e=>q ((h b).2 e)) id,t.io⟩
theorem bD.weaken{P:Program}{f:FuncId}{xs xs':List AC}{H H':aj}{R:AC->aj->Prop}(h:bD P f xs H R)(hx:LeA xs' xs)(hh:HLe H' H):bD P f xs' H' R:=by
 intro M w vs s r
 have r':il M xs vs:=by
  refine⟨by rw[<-hx.length];exact r.1,fun j y v hy hv=>?_⟩
  obtain⟨x,hx',hle⟩:=hx.get hy
  exact hle M v (r.2 j x v hx' hv)
 refine(h M w vs (hh.sim s) r').mono ?_
 rintro e w' ⟨q,v,M',H2,h1,h2,h3,h4,h5⟩
 exact⟨q,v,M',H2,h1,h2,h3,h4.dom fun b=>(hh.none b).symm,h5⟩
theorem oQ.trans_le{x y z:AC}{H H':aj}(h:oQ x H y H')(h':Le y z):oQ x H z H':=h.trans (.of h' H'.sub_refl)
theorem bY{E:Env}{H:aj}{n r off:Nat}{g:Option Nat}{cs:List AC}{q q':AC}{R:AC->aj->Prop}(hE:E n=.ptr r off)(hg:H.get r=some (.cells cs))(hq:fM g cs off=some q)
(hl:Le q q'){H':aj}(hs:H'.sub H)(h:R q' H'):aD.post [.cell n g] R .ret E H:=
 ⟨q,by simp only[lW,iK,j4.val,hE,hg,hq],q',H',.of hl hs,h⟩
theorem ak{E:Env}{H:aj}{n:Nat}{q':AC}{R:AC->aj->Prop}(hl:Le (E n) q'){H':aj}(hs:H'.sub H)(h:R q' H'):aD.post [.slot n] R .ret E H:=
 ⟨E n,rfl,q',H',.of hl hs,h⟩
def bR(H:aj)(sz:Nat)(es:List (List AC))(x:AC):Prop:=(es=[]/\x=NIL)\/∃b n m,x=.sl sz (some (b,n,m)) es/\H.get b=some (.tail n m)
theorem bR.nil(H:aj)(sz:Nat):bR H sz [] NIL:=.inl ⟨rfl,rfl⟩
theorem bR.le{H:aj}{sz:Nat}{es:List (List AC)}{x:AC}(h:bR H sz es x):Le x (.sl sz none es):=by
 rcases h with⟨rfl,rfl⟩|⟨b,n,m,rfl,-⟩
 ·exact .nil sz
 ·exact .tok _ _ _
theorem bR.set{H:aj}{sz:Nat}{es:List (List AC)}{x:AC}(h:bR H sz es x){b:Nat}{cs:List AC}(hb:H.get b=some (.cells cs))(o:cK):bR (H.set b o) sz es x:=by
 rcases h with⟨rfl,rfl⟩|⟨c,n,m,rfl,hc⟩
 ·exact .nil _ _
 ·refine .inr ⟨c,n,m,rfl,?_⟩
  rw[ae _ _ (by rintro rfl;rw[hb]at hc;simp at hc)];exact hc
theorem bR.new{H:aj}{sz:Nat}{es:List (List AC)}{x:AC}(h:bR H sz es x){b:Nat}(hb:H.get b=none)(o:cK):bR (H.set b o) sz es x:=by
 rcases h with⟨rfl,rfl⟩|⟨c,n,m,rfl,hc⟩
 ·exact .nil _ _
 ·refine .inr ⟨c,n,m,rfl,?_⟩
  rw[ae _ _ (by rintro rfl;rw[hb]at hc;simp at hc)];exact hc
theorem bR.one{H:aj}{sz:Nat}{es:List (List AC)}{x:AC}(h:bR H sz es x):x.cells?=some [x]:=by
 rcases h with⟨rfl,rfl⟩|⟨c,n,m,rfl,hc⟩<;>rfl
@[go_sem] theorem Aw(H:aj)(sz sz':Nat)(t:Option (Nat×Nat×Nat))(es:List (List AC)):i9 H sz (.sl sz' t es)=if sz=sz' then some es else none:=rfl
@[go_sem] theorem elemsH_nil(H:aj)(sz:Nat):i9 H sz NIL=some []:=rfl
def C7(H H':aj):Prop:=(∀b cs,H.get b=some (.cells cs)->H'.get b=some (.cells cs))/\∀b cs,H'.get b=some (.cells cs)->H.get b=some (.cells cs)
section
variable {P:Program}{dr:Bool}{K:Env->aj->Prop}{xs:List aN}{E:Env}{H:aj}{l:Lds}{f:Fps}
theorem wx{i sz bytes:Nat}{d:Option Nat}{s y:aI}{inc:List Nat}{es ys:List (List AC)}(hs:bR H sz es (s.ev E))(hy:i9 H sz (y.ev E)=some ys)(hsz:∀e∈ys,e.length=sz)(hl:es.length+ys.length<=2^32)
(hinc:inc=[])(h:∀x' H' fp,bR H' sz (es++ys) x'->C7 H H'->bw P dr K xs (E.put d x') H' l ((i,fp)::f)):
 bw P dr K (⟨i,d,none,.eff (.appendM sz bytes s y),inc⟩::xs) E H l f:=by
 subst hinc
 have keep:∀b o,(H.get b=none\/∃n m,H.get b=some (.tail n m))->(∃n m,o=.tail n m)->C7 H (H.set b o):=by
  rintro b o hb ⟨n,m,rfl⟩
  refine⟨fun c cs hc=>?_,fun c cs hc=>?_⟩
  ·rw[ae _ _ (by rintro rfl;rcases hb with hb|⟨n,m,hb⟩<;>rw[hb]at hc<;>simp at hc)];exact hc
  ·rw[aM]at hc
   split at hc
   ·simp at hc
   ·exact hc
 simp only[bw,aN.act,dB,EOp.isA,EOp.run,hy,ap,if_false]
 refine⟨hsz,?_⟩
 rcases hs with⟨rfl,e⟩|⟨b,n,m,e,hb⟩
 ·simp only[e,l7]
  refine⟨by simpa using hl,fun e=>?_,fun e=>.inl fun b m hb hm=>?_⟩
  ·subst e;exact⟨trivial,h NIL H _ (.nil _ _) ⟨fun _ _ h=>h,fun _ _ h=>h⟩⟩
  ·exact⟨trivial,h _ _ _ (.inr ⟨b,_,_,rfl,ai _ _ _⟩) (keep b _ (.inl hb) ⟨_,_,rfl⟩)⟩
 ·simp only[e,l7]
  refine⟨trivial,hl,hb,.inl fun b' m' hb' hm=>⟨trivial,h _ _ _ (.inr ⟨b',_,_,rfl,ai _ _ _⟩) (keep b' _ ?_ ⟨_,_,rfl⟩)⟩⟩
  rcases hb' with rfl|hb'
  ·exact .inr ⟨n,m,hb⟩
  ·exact .inl hb'
def cG(x:AC)(d:Nat):Prop:=∃sz n m es,x=.sl sz (some (d,n,m)) es
theorem mP(inc:List Nat)(l:Lds):dS inc l (fun _=>False):=by
 cases inc with
 |nil=>trivial
 |cons=>intro z hz hi hf;exact hf
theorem eM{i sz bytes:Nat}{d:Option Nat}{s y:aI}{inc:List Nat}{es ys:List (List AC)}(hs:bR H sz es (s.ev E))(hy:i9 H sz (y.ev E)=some ys)(hsz:∀e∈ys,e.length=sz)(hl:es.length+ys.length<=2^32)
(h:∀x' H' fp,bR H' sz (es++ys) x'->(∀c,fp c->H.get c=none)->(∀c,H.get c≠none->¬cG (s.ev E) c->H'.get c=H.get c)->(∀c,cG x' c->cG (s.ev E) c\/H.get c=none)->
  bw P dr K xs (E.put d x') H' l ((i,fp)::f)):
 bw P dr K (⟨i,d,none,.eff (.appendM sz bytes s y),inc⟩::xs) E H l f:=by
 simp only[bw,aN.act,dB,EOp.isA,EOp.run,hy,ap,if_false]
 refine⟨hsz,?_⟩
 rcases hs with⟨rfl,e⟩|⟨b,n,m,e,hb⟩
 ·simp only[e,l7]
  refine⟨by simpa using hl,fun e'=>?_,fun e'=>.inl fun b m hb hm=>?_⟩
  ·subst e';exact⟨mP _ _,h NIL H _ (.nil _ _) (fun c hc=>hc.resolve_left id) (fun _ _ _=>rfl) (fun c ⟨_,_,_,_,e'⟩=>by simp at e')⟩
  ·refine⟨mP _ _,h _ _ _ (.inr ⟨b,_,_,rfl,ai _ _ _⟩) (fun c hc=>hc.resolve_left id) (fun c hc _=>ae _ _ (by rintro rfl;exact hc hb)) (fun c ⟨_,_,_,_,e'⟩=>?_)⟩
   simp at e';obtain⟨-,⟨rfl,-⟩,-⟩:=e';exact .inr hb
 ·simp only[e,l7]
  refine⟨trivial,hl,hb,.inl fun b' m' hb' hm=>⟨mP _ _,h _ _ _ (.inr ⟨b',_,_,rfl,ai _ _ _⟩) (fun c hc=>hc.resolve_left id) (fun c hc hn=>ae _ _ ?_) (fun c ⟨_,_,_,_,e'⟩=>?_)⟩⟩
  ·rintro rfl
   rcases hb' with rfl|hb'
   ·exact hn ⟨_,_,_,_,e⟩
   ·exact hc hb'
  ·simp at e';obtain⟨-,⟨rfl,-⟩,-⟩:=e'
   rcases hb' with rfl|hb'
   ·exact .inl ⟨_,_,_,_,e⟩
   ·exact .inr hb'
theorem bR.elems{H H':aj}{sz:Nat}{es:List (List AC)}{x:AC}(h:bR H sz es x):i9 H' sz x=some es:=by
 rcases h with⟨rfl,rfl⟩|⟨c,n,m,rfl,hc⟩
 ·rfl
 ·rw[Aw,if_pos rfl]
end
open Classical in
noncomputable def aj.only (H:aj) (S:Nat->Prop):aj:=
 ⟨fun b=>if S b then H.get b else none,by
  obtain⟨N,h⟩:=H.fin
  exact⟨N,fun b hb=>by split<;>simp[h b hb]⟩⟩
theorem bm{H:aj}{S:Nat->Prop}{b:Nat}(h:S b):(H.only S).get b=H.get b:=by simp[aj.only,h]
theorem cd{H:aj}{S:Nat->Prop}{b:Nat}(h:¬S b):(H.only S).get b=none:=by simp[aj.only,h]
theorem aj.only_sub(H:aj)(S:Nat->Prop):(H.only S).sub H:=by
 intro b o hb
 by_cases h:S b
 ·rwa[bm h]at hb
 ·rw[cd h]at hb;simp at hb
structure After(S:Nat->Prop)(H H1:aj):Prop where
 out:∀b,¬S b->H.get b≠none->H1.get b=H.get b
theorem Bo{H Hf H':aj}:H'.sub (H.swap Hf H'):=by
 intro b o hb
 rw[bG,hb];rfl
section
variable {P:Program}{dr:Bool}{K:Env->aj->Prop}{xs:List aN}{E:Env}{H:aj}{l:Lds}{f:Fps}
theorem bD.args{P:Program}{f:FuncId}{xs xs':List AC}{H:aj}{R:AC->aj->Prop}(h:bD P f xs H R)(hx:LeA xs' xs):bD P f xs' H R:=by
 intro M w vs s r
 refine h M w vs s ⟨by rw[<-hx.length];exact r.1,fun j y v hy hv=>?_⟩
 obtain⟨x,hx',hle⟩:=hx.get hy
 exact hle M v (r.2 j x v hx' hv)
theorem gH{i:Nat}{g:FuncId}{args:List aI}{d:Option Nat}{inc:List Nat}{as as':List AC}(S:Nat->Prop){R:AC->aj->Prop}(hc:bD P g as (H.only S) R)
(ha:args.map (aI.ev E)=as')(hl:LeA as' as)(hlive:dr=true->AY R (H.only S))(hchk:dS inc l fun b=>(H.only S).get b≠none)
(h:∀q H' H1,R q H'->H'.sub H1->After S H H1->(∀b,H'.get b≠none->S b\/H.get b=none)->(∀b,H1.get b≠none->H'.get b≠none\/(¬S b/\H.get b≠none))->
  bw P dr K xs (E.put d q) H1 l ((i,fun b=>(H.only S).get b≠none\/H.get b=none)::f)):
 bw P dr K (⟨i,d,none,.eff (.call g args),inc⟩::xs) E H l f:=by
 refine dR (hc.args hl) ha (H.only_sub S) hlive hchk ?_
 ·intro q H' hr hfresh
  refine h q H' _ hr Bo ⟨fun b hb hn=>?_⟩ (fun b hb=>?_) (fun b hb=>?_)
  ·rw[bG,cd hb]
   have:H'.get b=none:=by
    rcases cg (H'.get b)with e|⟨o,e⟩
    ·exact e
    ·exact absurd (hfresh b (by simp[e]) (cd hb)) hn
   simp[this]
  ·by_cases hs:S b
   ·exact .inl hs
   ·exact .inr (hfresh b hb (cd hs))
  ·rw[bG]at hb
   split at hb
   ·exact .inl hb
   ·split at hb
    ·simp at hb
    ·rename_i h1 h2
     by_cases hs:S b
     ·rw[bm hs]at h2
      simp at h2;exact absurd h2 hb
     ·exact .inr ⟨hs,hb⟩
end
theorem kv(H:aj)(r:Nat):(H.only (·=r)).get r=H.get r:=bm (S:=(·=r)) rfl
theorem nU(H:aj){r b:Nat}(h:b≠r):(H.only (·=r)).get b=none:=cd (S:=(·=r)) h
theorem oR(H:aj)(S:Nat->Prop):H.swap (H.only S) (H.only S)=H:=by
 ext b:1
 rw[bG]
 by_cases h:S b
 ·rw[bm h]
  cases H.get b<;>rfl
 ·rw[cd h];rfl
theorem qj(H:aj){r:Nat}{o o':cK}(hr:H.get r=some o):H.swap (H.only (·=r)) ((H.only (·=r)).set r o')=H.set r o':=by
 ext b:1
 rw[bG,aM,aM]
 by_cases h:b=r
 ·subst h;simp
 ·rw[if_neg h,if_neg h,nU H h];rfl
theorem ui(H:aj){b:Nat}{o:cK}:H.swap .empty (aj.empty.set b o)=H.set b o:=by
 ext c:1
 rw[bG,aM,aM]
 by_cases h:c=b
 ·subst h;simp
 ·rw[if_neg h,if_neg h];rfl
section
variable {P:Program}{dr:Bool}{K:Env->aj->Prop}{xs:List aN}{E:Env}{H:aj}{l:Lds}{f:Fps}
@[go_sem] theorem ev_glob{g:Nat}:aI.ev E (.glob g)=.ptr g 0:=rfl
theorem mc{i:Nat}{c:xO}{args:List aI}{d:Option Nat}{inc:List Nat}{as:List AC}{Hf:aj}{R:AC->aj->Prop}(hc:ou P c as Hf R)(ha:args.map (aI.ev E)=as)(hs:Hf.sub H)
(hlive:dr=true->AY R Hf)(hchk:dS inc l fun b=>Hf.get b≠none)
(h:∀r H',R r H'->(∀b,H'.get b≠none->Hf.get b=none->H.get b=none)->bw P dr K xs (E.put d r) (H.swap Hf H') l ((i,fun b=>Hf.get b≠none\/H.get b=none)::f)):
 bw P dr K (⟨i,d,none,.eff (.callX c args),inc⟩::xs) E H l f:=by
 simp only[bw,aN.act,dB,EOp.isA,EOp.run,ha,ap,if_false]
 exact⟨Hf,R,hs,hc,hlive,fun r H' hr hd=>⟨hchk,h r H' hr hd⟩⟩
theorem tC{inc:List Nat}{l:Lds}{r:Nat}(hchk:dS inc l (·=r)):dS inc l fun b=>(H.only (·=r)).get b≠none:=by
 have hb:∀b,(H.only (·=r)).get b≠none->b=r:=fun b h=>by
  by_cases hb:b=r
  ·exact hb
  ·rw[nU H hb]at h;simp at h
 cases inc with
 |nil=>trivial
 |cons a t=>exact fun z hz hi hh=>hchk z hz hi (hb _ hh)
theorem fG{i:Nat}{z:AC}{ok:Bool}{args:List aI}{d:Option Nat}{inc:List Nat}{r:Nat}{k:ByteArray}{g:ByteArray->Option AC}(ha:args.map (aI.ev E)=[.mp r,S k])
(hg:H.get r=some (.map g))(hchk:dS inc l (·=r))
(h:bw P dr K xs (E.put d (iE z ok (g k))) H l ((i,fun b=>(H.only (·=r)).get b≠none\/H.get b=none)::f)):
 bw P dr K (⟨i,d,none,.eff (.callX (.lookup z ok) args),inc⟩::xs) E H l f:=by
 have hg':(H.only (·=r)).get r=some (.map g):=by rw[kv,hg]
 refine mc (Hf:=H.only (·=r)) (R:=fun q H'=>q=iE z ok (g k)/\H'=H.only (·=r)) (as:=[.mp r,S k]) ⟨g,hg',rfl,rfl⟩ ha (H.only_sub _) (fun _ N=>⟨_,_,⟨rfl,rfl⟩,fun b h1 h2=>absurd h2 h1⟩) (tC hchk) ?_
 rintro q H' ⟨rfl,rfl⟩ -
 rw[oR];exact h
theorem lg{i:Nat}{args:List aI}{d:Option Nat}{inc:List Nat}{r:Nat}{k:ByteArray}{v v':AC}{g:ByteArray->Option AC}(ha:args.map (aI.ev E)=[.mp r,S k,v])(hle:Le v v')
(hg:H.get r=some (.map g))(hchk:dS inc l (·=r))
(h:bw P dr K xs (E.put d (.tup [])) (H.set r (.map (nK g k v'))) l ((i,fun b=>(H.only (·=r)).get b≠none\/H.get b=none)::f)):
 bw P dr K (⟨i,d,none,.eff (.callX .mapSet args),inc⟩::xs) E H l f:=by
 have hg':(H.only (·=r)).get r=some (.map g):=by rw[kv,hg]
 refine mc (Hf:=H.only (·=r)) (R:=fun q H'=>q=.tup []/\H'=(H.only (·=r)).set r (.map (nK g k v'))) (as:=[.mp r,S k,v]) ⟨g,v',hle,hg',rfl,rfl⟩ ha (H.only_sub _) (fun _ N=>⟨_,_,⟨rfl,rfl⟩,fun b h1 h2=>?_⟩) (tC hchk) ?_
 ·by_cases hb:b=r
  ·subst hb;rw[hg']at h2;simp at h2
  ·rw[ae _ _ hb]at h1;exact absurd h2 h1
 ·rintro q H' ⟨rfl,rfl⟩ -
  rw[qj H hg];exact h
theorem ri{i:Nat}{d:Option Nat}{inc:List Nat}(h:∀b,H.get b=none->bw P dr K xs (E.put d (.mp b)) (H.set b (.map fun _=>none)) l ((i,fun b=>aj.empty.get b≠none\/H.get b=none)::f)):
 bw P dr K (⟨i,d,none,.eff (.callX .mkMap []),inc⟩::xs) E H l f:=by
 refine mc (Hf:=.empty) (R:=fun q H'=>∃b,q=.mp b/\H'=aj.empty.set b (.map fun _=>none)) (as:=[]) (fun b _=>⟨b,rfl,rfl⟩) rfl H.sub_empty (fun _ N=>⟨_,_,⟨N,rfl,rfl⟩,fun b h1 _=>?_⟩) ?_ ?_
 ·by_cases hb:b=N
  ·omega
  ·rw[ae _ _ hb]at h1;simp at h1
 ·cases inc with
  |nil=>trivial
  |cons a t=>exact fun z hz hi hh=>hh rfl
 ·rintro q H' ⟨b,rfl,rfl⟩ hf
  rw[ui];exact h b (hf b (by simp) rfl)
theorem vh{i:Nat}{args:List aI}{d:Option Nat}{inc:List Nat}{t:TypeId}{r:Nat}{g:ByteArray->Option AC}(ha:args.map (aI.ev E)=[.iface t (.mp r)])
(hg:H.get r=some (.map g))(hchk:dS inc l (·=r))
(h:∀b,H.get b=none->bw P dr K xs (E.put d (.iface t (.mp b))) (H.set b (.map g)) l ((i,fun b=>(H.only (·=r)).get b≠none\/H.get b=none)::f)):
 bw P dr K (⟨i,d,none,.eff (.callX .mapClone args),inc⟩::xs) E H l f:=by
 have hg':(H.only (·=r)).get r=some (.map g):=by rw[kv,hg]
 refine mc (Hf:=H.only (·=r)) (R:=fun q H'=>∃b,(H.only (·=r)).get b=none/\q=.iface t (.mp b)/\H'=(H.only (·=r)).set b (.map g)) (as:=[.iface t (.mp r)]) ⟨g,hg',fun b hb=>⟨b,hb,rfl,rfl⟩⟩ ha (H.only_sub _)
  (fun _ N=>⟨_,_,⟨N+r+1,nU H (by omega),rfl,rfl⟩,fun b h1 h2=>?_⟩) (tC hchk) ?_
 ·by_cases hb:b=N+r+1
  ·omega
  ·rw[ae _ _ hb]at h1;exact absurd h2 h1
 ·rintro q H' ⟨b,hb,rfl,rfl⟩ hf
  have hb':H.get b=none:=hf b (by simp) hb
  have:H.swap (H.only (·=r)) ((H.only (·=r)).set b (.map g))=H.set b (.map g):=by
   ext c:1
   rw[bG,aM,aM]
   by_cases hc:c=b
   ·subst hc;simp
   ·rw[if_neg hc,if_neg hc]
    by_cases h:c=r
    ·subst h;rw[kv];cases H.get c<;>rfl
    ·rw[nU H h];rfl
  rw[this];exact h b hb'
theorem rY{i:Nat}{name:String}{g:FuncId}{args:List aI}{d:Option Nat}{inc:List Nat}{t:TypeId}{y r:AC}{ys:List AC}(hm:wM P t name=some g)(hgood:iQ P g=true)(hc:cM P g (y::ys) r)
(ha:args.map (aI.ev E)=.iface t y::ys)
(h:bw P dr K xs (E.put d r) H l ((i,fun b=>aj.empty.get b≠none\/H.get b=none)::f)):bw P dr K (⟨i,d,none,.eff (.callX (.invoke name) args),inc⟩::xs) E H l f:=by
 refine mc (Hf:=.empty) (R:=fun q H'=>q=r/\H'=.empty) (as:=.iface t y::ys) ⟨g,hm,hgood,hc⟩ ha H.sub_empty (fun _=>u6 r) ?_ ?_
 ·cases inc with
  |nil=>trivial
  |cons=>exact fun z hz hi hh=>hh rfl
 ·rintro q H' ⟨rfl,rfl⟩ hd
  rw[gF];exact h
end
structure Ids where
 T_i_exprNum:Nat
 T_i_exprRead:Nat
 T_i_exprTwo:Nat
 T_i_stmtCall:Nat
 T_i_stmtIf:Nat
 T_i_stmtLend:Nat
 T_i_stmtLet:Nat
 T_i_stmtPick:Nat
 T_i_stmtSet:Nat
 T_strings_Builder:Nat
 T_uint8:Nat
 i_ProgWrite:Nat
 i_TypeOk:Nat
 i_argForm:Nat
 i_argsForm:Nat
 i_exprForm:Nat
 i_exprNothing:Nat
 i_exprOf:Nat
 i_exprText:Nat
 i_fnForm:Nat
 i_fnWrite:Nat
 i_nameForm:Nat
 i_pathForm:Nat
 i_pathText:Nat
 i_placeForm:Nat
 i_placeNothing:Nat
 i_placeText:Nat
 i_progForm:Nat
 i_progLine:Nat
 i_stmtNothing:Nat
 i_stmtOf:Nat
 i_stmtsForm:Nat
 i_stmtsWrite:Nat
 i_twoText:Nat
 i_typeFits:Nat
 i_typeIsNum:Nat
 i_typeWords:Nat
 l_lhBody:Nat
 l_lhExpr:Nat
 l_lhInts:Nat
 l_lhPlace:Nat
 l_lhProg:Nat
 l_lhType:Nat
 s_DrawProgWrite:Nat
 s_ProgWrite:Nat
 s_TypeAt:Nat
 s_TypeOk:Nat
 s_l1Copy:Nat
 s_l1Deep:Nat
 s_l1Same:Nat
 s_l1Say:Nat
 s_l2Args:Nat
 s_l2At:Nat
 s_l2Body:Nat
 s_l2Count:Nat
 s_l2Expr:Nat
 s_l2Fn:Nat
 s_l2Form:Nat
 s_l2Lines:Nat
 s_l2Name:Nat
 s_l2NoExpr:Nat
 s_l2None:Nat
 s_l2Place:Nat
 s_l2Say:Nat
 s_l2Signs:Nat
 s_l2Stmt:Nat
 s_l3Among:Nat
 s_l3Env_add:Nat
 s_l3Env_body:Nat
 s_l3Env_call:Nat
 s_l3Env_copy:Nat
 s_l3Env_ends:Nat
 s_l3Env_expr:Nat
 s_l3Env_fail:Nat
 s_l3Env_fail0:Nat
 s_l3Env_find:Nat
 s_l3Env_fork:Nat
 s_l3Env_num:Nat
 s_l3Env_outside:Nat
 s_l3Env_pick:Nat
 s_l3Env_same:Nat
 s_l3Env_stmt:Nat
 s_l3Env_use:Nat
 s_l3Fn:Nat
 s_l3Loans:Nat
 s_l3Meet:Nat
 s_l3Order:Nat
 s_l3Start:Nat
 s_l6Dec:Nat
 s_l6In:Nat
 s_l6Open:Nat
 s_l6Rd_of:Nat
 s_l6Rd_pick:Nat
 s_l71Bend:Nat
 s_l71Deep:Nat
 s_l71Fn:Nat
 s_l71Mk_body:Nat
 s_l71Mk_call:Nat
 s_l71Mk_expr:Nat
 s_l71Mk_name:Nat
 s_l71Mk_pick:Nat
 s_l71Mk_place:Nat
 s_l71Mk_stmt:Nat
 s_l71Path:Nat
 s_l71Prog:Nat
 s_l71Some:Nat
 s_l71Type:Nat
 strconv_Itoa:Nat
 strings_Builder_Len:Nat
 strings_Builder_String:Nat
 strings_Builder_WriteByte:Nat
 strings_Builder_WriteString:Nat
 strings_Join:Nat
def kd19(F:Ids):aX:=.seq (rg [ld 0 101 (some 15) 3,en 1 (.store 15 2 101)]) .ret
def kd10(F:Ids):aX:=.seq (.region true [mv 0 32 6,ld 1 33 (some 1) 3,mv 2 4 32,en 3 (.store 1 5 33)]) .ret
def kd23(F:Ids):aX:=.seq (rg [mv 0 70 0,ca 1 71 F.s_l71Mk_call [70],en 2 (.store 15 4 71)]) .ret
def kd13(F:Ids):aX:=.seq (rg [⟨0,some 70,none,.lits 1 6 [.int .i64 0] [(0,(1,ci 0)),(1,(1,ci 1)),(2,(1,ci 1)),(3,(1,ci 2)),(4,(1,ci 5)),(5,(1,ci 90))],[]⟩,mv 1 71 0,nc 2 72 71,fa 3 73 0 72,ld 4 74 none 73,ca 5 75 F.s_l6Rd_pick [74,ci 6],ia 6 76 1 70 75,ld 7 77 none 76,pu 8 78 (.build [.int .i64 0,.int .i64 0,.string (bl []),.slice none 0 0,.slice none 0 0] [(0,(1,ci 1)),(1,(1,77))]),en 9 (.store 5 6 78)]) .ret
def kd11(F:Ids):aX:=.seq (.region true [mv 0 84 0,nc 1 85 84,fa 2 86 0 85,ld 3 87 none 86,fa 4 88 3 6,ld 5 89 (some 1) 88,ca 6 90 F.s_l71Path [87,89],mv 7 83 90,pu 8 91 (.extract 83 0),pu 9 92 (.extract 83 1),ef 10 8 (.alloc [.slice none 0 0]),mv 11 7 91,en 12 (.store 1 8 92)]) (.seq (.region true [fa 0 93 0 6,ld 1 94 none 93,mv 2 95 7,pu 3 96 (.build [.string (bl []),.slice none 0 0] [(0,(1,94)),(1,(1,95))]),⟨4,some 97,none,.load (.load (some 1) 8),[5]⟩,⟨5,none,none,.eff (.store 2 2 96),[4]⟩,en 6 (.store 1 3 97)]) .ret)
def kd29(F:Ids):aX:=.seq (rg [ef 0 185 (.buildSlice 12 0 [.string (bl []),.slice none 0 0,.bool false,.slice none 0 0,.slice none 0 0,.int .i64 0,.int .i64 0,.string (bl []),.slice none 0 0,.slice none 0 0,.string (bl []),.slice none 0 0] []),fa 1 186 0 3,ld 2 187 none 186,ef 3 188 (.appendM 12 216 185 187),fa 4 189 0 3,en 5 (.store 1 189 188)]) (.seq (rg [fa 0 190 0 3,ld 1 191 none 190,mv 2 192 5,ld 3 193 (some 12) 6,ia 4 194 12 191 192,en 5 (.store 12 194 193)]) (.seq (rg [ld 0 195 (some 1) 3,en 1 (.store 1 4 195)]) .ret))
def kd2(F:Ids):aX:=.seq (rg [mv 0 51 0,mv 1 52 0,nc 2 53 52,fa 3 54 2 53,ld 4 55 none 54,mv 5 56 5,pu 6 57 (.slice 6 55 none (some 56)),nc 7 58 51,fa 8 59 2 58,en 9 (.store 1 59 57)]) (rg [mv 0 60 0,fa 1 61 1 3,ld 2 62 none 61,ld 3 63 (some 1) 4,fa 4 64 2 3,ld 5 65 (some 2) 64,fa 6 66 4 3,ld 7 67 (some 2) 66,ef 8 68 (.buildSlice 2 2 [.string (bl []),.slice none 0 0] [(0,(2,65)),(2,(2,67))]),pu 9 69 (.build [.string (bl []),.bool false,.bool false,.slice none 0 0,.slice none 0 0,.bool false] [(0,(1,62)),(1,(1,ct)),(3,(1,63)),(4,(1,68))]),ca 10 70 F.s_l3Env_add [60,69]])
def kd21(F:Ids):aX:=.seq (rg [mv 0 44 0,ca 1 45 F.s_l71Mk_place [44],mv 2 43 45,pu 3 46 (.extract 43 0),pu 4 47 (.extract 43 1),ef 5 5 (.alloc [.string (bl []),.slice none 0 0]),ef 6 6 (.alloc [.slice none 0 0]),en 7 (.store 2 5 46),en 8 (.store 1 6 47)]) (.seq (.region true [mv 0 48 0,⟨1,some 49,none,.eff (.call F.s_l71Mk_name [48]),[2]⟩,⟨2,some 50,none,.load (.load (some 2) 5),[1]⟩,pu 3 51 (.build [.int .i64 0,.string (bl []),.string (bl []),.slice none 0 0,.string (bl []),.slice none 0 0,.int .i64 0,.int .i64 0,.string (bl []),.slice none 0 0,.slice none 0 0,.string (bl []),.slice none 0 0,.slice none 0 0,.slice none 0 0] [(0,(1,ci 2)),(1,(1,49)),(2,(2,50))]),en 4 (.store 15 4 51)]) .ret)
def kd1(F:Ids):aX:=.seq (rg [mv 0 47 0,ld 1 48 (some 2) 3,ca 2 49 F.s_l3Env_ends [47,48],mv 3 8 49]) (.seq (.seq (rg [mv 0 9 (ci 0)]) (.block 0 (.loop (.seq (.seq (rg [mv 0 50 9,mv 1 51 8,pu 2 52 (.lenSl 51),pu 3 53 (.bin .lss 50 52)]) (.cond 53 .skip (.exit 0))) (.seq (.block 1 (.region true [mv 0 56 0,nc 1 57 56,fa 2 58 2 57,ld 3 59 none 58,mv 4 60 8,mv 5 61 9,ia 6 62 1 60 61,ld 7 63 none 62,ia 8 64 6 59 63,fa 9 65 5 64,en 10 (.store 1 65 ct)])) (rg [mv 0 54 9,pu 1 55 (.bin .add 54 (ci 1)),mv 2 9 55])))))) (.seq (rg [ld 0 66 (some 1) 6,en 1 (.store 1 4 66)]) .ret))
def kd22(F:Ids):aX:=.seq (rg [mv 0 57 0,ca 1 58 F.s_l71Mk_place [57],mv 2 56 58,pu 3 59 (.extract 56 0),pu 4 60 (.extract 56 1),ef 5 7 (.alloc [.string (bl []),.slice none 0 0]),ef 6 8 (.alloc [.slice none 0 0]),en 7 (.store 2 7 59),en 8 (.store 1 8 60)]) (.seq (.region true [⟨0,some 61,none,.load (.load (some 2) 7),[3]⟩,mv 1 62 0,ld 2 63 (some 1) 8,⟨3,some 64,none,.eff (.call F.s_l71Mk_expr [62,63,ci 3]),[0]⟩,pu 4 65 (.build [.int .i64 0,.string (bl []),.string (bl []),.slice none 0 0,.string (bl []),.slice none 0 0,.int .i64 0,.int .i64 0,.string (bl []),.slice none 0 0,.slice none 0 0,.string (bl []),.slice none 0 0,.slice none 0 0,.slice none 0 0] [(0,(1,ci 3)),(2,(2,61)),(6,(5,64))]),en 5 (.store 15 4 65)]) .ret)
def kd24(F:Ids):aX:=.seq (rg [mv 0 75 0,ca 1 76 F.s_l71Mk_place [75],mv 2 74 76,pu 3 77 (.extract 74 0),pu 4 78 (.extract 74 1),ef 5 9 (.alloc [.string (bl []),.slice none 0 0]),ef 6 10 (.alloc [.slice none 0 0]),en 7 (.store 2 9 77),en 8 (.store 1 10 78)]) (.seq (.region true [⟨0,some 79,none,.load (.load (some 2) 9),[3]⟩,mv 1 80 0,ld 2 81 (some 1) 10,⟨3,some 82,none,.eff (.call F.s_l71Mk_expr [80,81,ci 2]),[0]⟩,pu 4 83 (.build [.int .i64 0,.string (bl []),.string (bl []),.slice none 0 0,.string (bl []),.slice none 0 0,.int .i64 0,.int .i64 0,.string (bl []),.slice none 0 0,.slice none 0 0,.string (bl []),.slice none 0 0,.slice none 0 0,.slice none 0 0] [(0,(1,ci 3)),(2,(2,79)),(6,(5,82))]),en 5 (.store 15 4 83)]) .ret)
def kd3(F:Ids):aX:=.seq (rg [mv 0 155 0,mv 1 156 0,nc 2 157 156,fa 3 158 2 157,ld 4 159 none 158,mv 5 160 6,pu 6 161 (.slice 6 159 none (some 160)),nc 7 162 155,fa 8 163 2 162,en 9 (.store 1 163 161)]) (.region true [mv 0 164 0,fa 1 165 1 3,⟨2,some 166,none,.load (.load none 165),[10]⟩,fa 3 167 2 5,⟨4,some 168,none,.load (.load none 167),[10]⟩,fa 5 169 3 5,⟨6,some 170,none,.load (.load (some 1) 169),[10]⟩,fa 7 171 2 5,ld 8 172 none 171,mv 9 173 7,⟨10,some 174,none,.eff (.call F.s_l3Loans [172,173]),[2,4,6]⟩,pu 11 175 (.build [.string (bl []),.bool false,.bool false,.slice none 0 0,.slice none 0 0,.bool false] [(0,(1,166)),(1,(1,168)),(3,(1,170)),(4,(1,174))]),ca 12 176 F.s_l3Env_add [164,175]])
def kd14(F:Ids):aX:=.seq (rg [⟨0,some 102,none,.lits 1 5 [.int .i64 0] [(0,(1,ci 3)),(1,(1,ci 3)),(2,(1,ci 3)),(3,(1,ci 5)),(4,(1,ci 4))],[]⟩,mv 1 103 0,nc 2 104 103,fa 3 105 0 104,ld 4 106 none 105,ca 5 107 F.s_l6Rd_pick [106,ci 5],ia 6 108 1 102 107,ld 7 109 none 108,mv 8 14 109]) (.seq (.region true [mv 0 110 14,mv 1 111 0,ld 2 112 (some 1) 4,mv 3 113 2,pu 4 114 (.bin .sub 113 (ci 1)),⟨5,some 115,none,.eff (.call F.s_l71Mk_expr [111,112,114]),[7]⟩,mv 6 116 0,⟨7,some 117,none,.load (.load (some 1) 4),[5]⟩,mv 8 118 2,pu 9 119 (.bin .sub 118 (ci 1)),ca 10 120 F.s_l71Mk_expr [116,117,119],ef 11 121 (.buildSlice 5 2 [.int .i64 0,.int .i64 0,.string (bl []),.slice none 0 0,.slice none 0 0] [(0,(5,115)),(5,(5,120))]),pu 12 122 (.build [.int .i64 0,.int .i64 0,.string (bl []),.slice none 0 0,.slice none 0 0] [(0,(1,110)),(4,(1,121))]),en 13 (.store 5 6 122)]) .ret)
def kd18(F:Ids):aX:=.seq (.seq (rg [mv 0 33 2,pu 1 34 (.bin .lss 33 (ci 2))]) (.cond 34 (.seq (rg [pu 0 35 (.build [.string (bl []),.slice none 0 0] [(0,(1,.const (.string (bl [110,111,110,101]))))]),pu 1 36 (.build [.int .i64 0,.int .i64 0,.string (bl []),.slice none 0 0,.slice none 0 0] [(0,(1,ci 2)),(2,(2,35))]),en 2 (.store 5 6 36)]) .ret) .skip)) (.seq (.region true [mv 0 37 0,fa 1 38 0 4,ld 2 39 none 38,pu 3 40 (.indexAddr 1 39 (ci 0)),ld 4 41 (some 1) 40,mv 5 42 2,pu 6 43 (.bin .sub 42 (ci 1)),⟨7,some 44,none,.eff (.call F.s_l71Mk_expr [37,41,43]),[10,12]⟩,mv 8 45 0,fa 9 46 0 4,⟨10,some 47,none,.load (.load none 46),[7]⟩,pu 11 48 (.indexAddr 1 47 (ci 1)),⟨12,some 49,none,.load (.load (some 1) 48),[7]⟩,mv 13 50 2,pu 14 51 (.bin .sub 50 (ci 1)),ca 15 52 F.s_l71Mk_expr [45,49,51],ef 16 53 (.buildSlice 5 2 [.int .i64 0,.int .i64 0,.string (bl []),.slice none 0 0,.slice none 0 0] [(0,(5,44)),(5,(5,52))]),pu 17 54 (.build [.int .i64 0,.int .i64 0,.string (bl []),.slice none 0 0,.slice none 0 0] [(0,(1,ci 6)),(4,(1,53))]),en 18 (.store 5 6 54)]) .ret)
def kd20(F:Ids):aX:=.seq (.region2 1 6 [mv 0 29 0,ca 1 30 F.s_l71Mk_name [29],mv 2 31 0,mv 3 32 0,nc 4 33 32,fa 5 34 0 33,⟨6,some 35,none,.load (.load none 34),[]⟩,ca 7 36 F.s_l71Type [35,ci 3],ca 8 37 F.s_l71Mk_expr [31,36,ci 3],pu 9 38 (.build [.int .i64 0,.string (bl []),.string (bl []),.slice none 0 0,.string (bl []),.slice none 0 0,.int .i64 0,.int .i64 0,.string (bl []),.slice none 0 0,.slice none 0 0,.string (bl []),.slice none 0 0,.slice none 0 0,.slice none 0 0] [(0,(1,ci 1)),(1,(1,30)),(6,(5,37))]),en 10 (.store 15 4 38)] [mv 0 29 0,mv 2 31 0,mv 3 32 0,nc 4 33 32,fa 5 34 0 33,⟨6,some 35,none,.load (.load none 34),[]⟩,ca 1 30 F.s_l71Mk_name [29],ca 7 36 F.s_l71Type [35,ci 3],ca 8 37 F.s_l71Mk_expr [31,36,ci 3],pu 9 38 (.build [.int .i64 0,.string (bl []),.string (bl []),.slice none 0 0,.string (bl []),.slice none 0 0,.int .i64 0,.int .i64 0,.string (bl []),.slice none 0 0,.slice none 0 0,.string (bl []),.slice none 0 0,.slice none 0 0,.slice none 0 0] [(0,(1,ci 1)),(1,(1,30)),(6,(5,37))]),en 10 (.store 15 4 38)]) .ret
def kd6(F:Ids):aX:=.seq (.seq (rg [fa 0 155 0 2,ld 1 156 none 155,pu 2 157 (.bin .neq 156 (ci 5))]) (.cond 157 (.seq (rg [fa 0 158 0 2,ld 1 159 none 158,ca 2 160 F.s_l6In [159,ci 1,ci 6],mv 3 161 160,gp 4 162 161 true (.fieldAddr 13 2),gl 5 163 161 true none 162,gp 6 164 161 true (.lenSl 163),gp 7 165 161 true (.fieldAddr 14 2),gl 8 166 161 true none 165,gp 9 167 161 true (.lenSl 166),gp 10 168 161 true (.bin .add 164 167),gp 11 169 161 true (.bin .eql 168 (ci 0)),pu 12 170 (.pick 161 169 cf),mv 13 4 170]) .ret) .skip)) (.seq (rg [fa 0 171 13 2,ld 1 172 none 171,mv 2 173 1,pu 3 174 (.bin .sub 173 (ci 1)),ca 4 175 F.s_l2Body [172,174],mv 5 176 175,gp 6 177 176 true (.fieldAddr 14 2),gl 7 178 176 true none 177,gp 8 179 176 true (.move 1),gp 9 180 176 true (.bin .sub 179 (ci 1)),⟨10,some 181,some (176,true),.eff (.call F.s_l2Body [178,180]),[]⟩,pu 11 182 (.pick 176 181 cf),mv 12 4 182]) .ret)
def kd15(F:Ids):aX:=.seq (.seq (rg [mv 0 11 (ci 0)]) (.block 2 (.loop (.seq (.seq (rg [mv 0 81 11,pu 1 82 (.bin .lss 81 (ci 4))]) (.cond 82 .skip (.exit 2))) (.seq (.block 3 (.seq (rg [mv 0 86 0,ca 1 87 F.s_l71Mk_place [86],mv 2 85 87,pu 3 88 (.extract 85 0),pu 4 89 (.extract 85 1),ef 5 12 (.alloc [.string (bl []),.slice none 0 0]),ef 6 13 (.alloc [.slice none 0 0]),en 7 (.store 2 12 88),en 8 (.store 1 13 89)]) (.seq (rg [fa 0 90 0 13,ld 1 91 none 90,pu 2 92 (.lenSl 91),pu 3 93 (.bin .eql 92 (ci 0)),mv 4 94 93,gp 5 95 94 true (.fieldAddr 0 12),gl 6 96 94 true none 95,gp 7 97 94 true (.bin .neq 96 (.const (.string (bl [110,111,110,101])))),pu 8 98 (.pick 94 97 cf)]) (.cond 98 (.seq (rg [ld 0 99 (some 2) 12,pu 1 100 (.build [.int .i64 0,.int .i64 0,.string (bl []),.slice none 0 0,.slice none 0 0] [(0,(1,ci 2)),(2,(2,99))]),en 2 (.store 5 6 100)]) .ret) .skip)))) (rg [mv 0 83 11,pu 1 84 (.bin .add 83 (ci 1)),mv 2 11 84])))))) (.seq (rg [pu 0 101 (.build [.int .i64 0,.int .i64 0,.string (bl []),.slice none 0 0,.slice none 0 0] [(0,(1,ci 1)),(1,(1,ci 1))]),en 1 (.store 5 6 101)]) .ret)
def kd4(F:Ids):aX:=.seq (.seq (rg [mv 0 135 6,mv 1 9 135]) (.block 2 (.loop (.seq (.seq (rg [mv 0 136 9,mv 1 137 0,nc 2 138 137,fa 3 139 2 138,ld 4 140 none 139,pu 5 141 (.lenSl 140),pu 6 142 (.bin .lss 136 141)]) (.cond 142 .skip (.exit 2))) (.seq (.block 3 (.seq (rg [mv 0 145 0,nc 1 146 145,fa 2 147 2 146,ld 3 148 none 147,mv 4 149 9,ia 5 150 6 148 149,fa 6 151 5 150,ld 7 152 none 151]) (.cond 152 (rg [mv 0 153 0,ca 1 154 F.s_l3Env_fail [153,ci 4]]) .skip))) (rg [mv 0 143 9,pu 1 144 (.bin .add 143 (ci 1)),mv 2 9 144])))))) (kd3 F)
def kd30(F:Ids):aX:=.seq (rg [fa 0 134 4 6,ld 1 135 none 134,pu 2 136 (.lenSl 135),pu 3 137 (.bin .gtr 136 (ci 1))]) (.cond 137 (.seq (rg [mv 0 138 0,fa 1 139 4 6,ld 2 140 none 139,pu 3 141 (.lenSl 140),pu 4 142 (.bin .sub 141 (ci 1)),ca 5 143 F.s_l6Rd_pick [138,142],mv 6 8 143]) (.seq (rg [ef 0 144 (.buildSlice 15 0 [.int .i64 0,.string (bl []),.string (bl []),.slice none 0 0,.string (bl []),.slice none 0 0,.int .i64 0,.int .i64 0,.string (bl []),.slice none 0 0,.slice none 0 0,.string (bl []),.slice none 0 0,.slice none 0 0,.slice none 0 0] []),fa 1 145 4 6,ld 2 146 none 145,ef 3 147 (.appendM 15 272 144 146),fa 4 148 4 6,en 5 (.store 1 148 147)]) (.seq (rg [fa 0 149 4 6,ld 1 150 none 149,mv 2 151 8,ia 3 152 15 150 151,ld 4 153 (some 15) 152,ef 5 9 (.alloc [.int .i64 0,.string (bl []),.string (bl []),.slice none 0 0,.string (bl []),.slice none 0 0,.int .i64 0,.int .i64 0,.string (bl []),.slice none 0 0,.slice none 0 0,.string (bl []),.slice none 0 0,.slice none 0 0,.slice none 0 0]),en 6 (.store 15 9 153)]) (.seq (.region true [fa 0 154 4 6,ld 1 155 none 154,mv 2 156 8,fa 3 157 4 6,ld 4 158 none 157,mv 5 159 8,pu 6 160 (.bin .add 159 (ci 1)),ia 7 161 15 158 160,ld 8 162 (some 15) 161,ia 9 163 15 155 156,en 10 (.store 15 163 162)]) (rg [fa 0 164 4 6,ld 1 165 none 164,mv 2 166 8,pu 3 167 (.bin .add 166 (ci 1)),ld 4 168 (some 15) 9,ia 5 169 15 165 167,en 6 (.store 15 169 168)]))))) .skip)
def kd27(F:Ids):aX:=.seq (.seq (rg [mv 0 15 (ci 0)]) (.block 4 (.loop (.seq (.seq (rg [mv 0 104 15,pu 1 105 (.bin .lss 104 (ci 6))]) (.cond 105 .skip (.exit 4))) (.seq (.block 5 (.seq (rg [mv 0 108 0,ca 1 109 F.s_l71Type [108,ci 3],fa 2 110 3 6,en 3 (.store 1 110 109)]) (.seq (rg [mv 0 111 10,fa 1 112 3 6,ld 2 113 (some 1) 112,ca 3 114 F.s_l71Mk_expr [111,113,ci 3],fa 4 115 5 6,en 5 (.store 5 115 114)]) (.seq (rg [mv 0 116 10,nc 1 117 116,fa 2 118 1 117,ld 3 119 none 118,ca 4 120 F.s_l3Env_copy [119],mv 5 16 120]) (.seq (.region true [mv 0 121 16,mv 1 122 16,fa 2 123 5 6,ld 3 124 (some 5) 123,⟨4,some 125,none,.eff (.call F.s_l3Env_expr [122,124]),[6]⟩,fa 5 126 3 6,⟨6,some 127,none,.load (.load (some 1) 126),[4]⟩,ca 7 128 F.s_l3Env_same [121,125,127]]) (.seq (rg [mv 0 129 16,nc 1 130 129,fa 2 131 4 130,ld 3 132 none 131,pu 4 133 (.bin .eql 132 (ci 0))]) (.cond 133 (.seq (rg [ld 0 134 (some 12) 6,en 1 (.store 12 4 134)]) .ret) .skip))))))) (rg [mv 0 106 15,pu 1 107 (.bin .add 106 (ci 1)),mv 2 15 107])))))) (.seq (rg [pu 0 135 (.build [.slice none 0 0] []),fa 1 136 3 6,en 2 (.store 1 136 135)]) (.seq (rg [pu 0 137 (.build [.int .i64 0,.int .i64 0,.string (bl []),.slice none 0 0,.slice none 0 0] [(0,(1,ci 1)),(1,(1,ci 7))]),fa 1 138 5 6,en 2 (.store 5 138 137)]) (.seq (rg [ld 0 139 (some 12) 6,en 1 (.store 12 4 139)]) .ret)))
def kd5(F:Ids):aX:=.seq (.seq (rg [mv 0 5 (ci 0)]) (.block 0 (.loop (.seq (.seq (rg [mv 0 35 5,fa 1 36 4 2,ld 2 37 none 36,pu 3 38 (.lenSl 37),pu 4 39 (.bin .lss 35 38)]) (.cond 39 .skip (.exit 0))) (.seq (.block 1 (.seq (rg [fa 0 42 4 2,ld 1 43 none 42,mv 2 44 5,ia 3 45 5 43 44,ld 4 46 (some 5) 45,mv 5 47 1,pu 6 48 (.bin .sub 47 (ci 1)),ca 7 49 F.s_l2Expr [46,48],pu 8 50 (.not 49)]) (.cond 50 (.seq (rg [mv 0 4 cf]) .ret) .skip))) (rg [mv 0 40 5,pu 1 41 (.bin .add 40 (ci 1)),mv 2 5 41])))))) (.seq (.seq (rg [fa 0 51 0 2,ld 1 52 none 51]) (.block 2 (.seq (rg [pu 0 54 (.bin .eql 52 (ci 1)),mv 1 53 54]) (.cond 53 (.seq (rg [fa 0 55 1 2,ld 1 56 none 55,ca 2 57 F.s_l6In [56,ci 0,ci 9999],mv 3 58 57,gp 4 59 58 true (.fieldAddr 4 2),gl 5 60 58 true none 59,gp 6 61 58 true (.lenSl 60),gp 7 62 58 true (.bin .eql 61 (ci 0)),pu 8 63 (.pick 58 62 cf),mv 9 4 63]) .ret) (.seq (rg [pu 0 65 (.bin .eql 52 (ci 2)),mv 1 64 65]) (.cond 64 (.seq (rg [fa 0 66 2 2,ld 1 67 (some 2) 66,ca 2 68 F.s_l2Place [67],mv 3 69 68,gp 4 70 69 true (.fieldAddr 4 2),gl 5 71 69 true none 70,gp 6 72 69 true (.lenSl 71),gp 7 73 69 true (.bin .eql 72 (ci 0)),pu 8 74 (.pick 69 73 cf),mv 9 4 74]) .ret) .skip)))))) (.seq (rg [fa 0 75 0 2,ld 1 76 none 75,ca 2 77 F.s_l6In [76,ci 3,ci 6],mv 3 78 77,gp 4 79 78 true (.fieldAddr 4 2),gl 5 80 78 true none 79,gp 6 81 78 true (.lenSl 80),gp 7 82 78 true (.bin .eql 81 (ci 2)),pu 8 83 (.pick 78 82 cf),mv 9 4 83]) .ret))
def kd12(F:Ids):aX:=.seq (.seq (rg [mv 0 38 4,pu 1 39 (.lenSl 38),pu 2 40 (.bin .eql 39 (ci 0))]) (.cond 40 (.seq (rg [pu 0 41 (.build [.string (bl []),.slice none 0 0] [(0,(1,.const (.string (bl [110,111,110,101]))))]),pu 1 42 (.build [.slice none 0 0] []),en 2 (.store 2 2 41),en 3 (.store 1 3 42)]) .ret) .skip)) (.seq (.region true [mv 0 43 0,nc 1 44 43,fa 2 45 1 44,⟨3,some 46,none,.load (.load none 45),[14]⟩,nc 4 47 46,fa 5 48 2 47,⟨6,some 49,none,.load (.load none 48),[14]⟩,mv 7 50 4,mv 8 51 0,nc 9 52 51,fa 10 53 0 52,ld 11 54 none 53,mv 12 55 4,pu 13 56 (.lenSl 55),⟨14,some 57,none,.eff (.call F.s_l6Rd_pick [54,56]),[3,6]⟩,ia 15 58 1 50 57,ld 16 59 none 58,ia 17 60 6 49 59,ld 18 61 (some 6) 60,ef 19 6 (.alloc [.string (bl []),.bool false,.bool false,.slice none 0 0,.slice none 0 0,.bool false]),en 20 (.store 6 6 61)]) (.seq (.seq (rg [mv 0 62 0,nc 1 63 62,fa 2 64 0 63,ld 3 65 none 64,ca 4 66 F.s_l6Rd_pick [65,ci 3],pu 5 67 (.bin .eql 66 (ci 0))]) (.cond 67 (.region true [mv 0 68 0,nc 1 69 68,fa 2 70 1 69,ld 3 71 none 70,nc 4 72 71,fa 5 73 2 72,ld 6 74 none 73,mv 7 75 4,mv 8 76 4,pu 9 77 (.lenSl 76),pu 10 78 (.bin .sub 77 (ci 1)),ia 11 79 1 75 78,ld 12 80 none 79,ia 13 81 6 74 80,ld 14 82 (some 6) 81,en 15 (.store 6 6 82)]) .skip)) (kd11 F)))
def kd16(F:Ids):aX:=.seq (.seq (rg [mv 0 79 10,pu 1 80 (.bin .lss 79 (ci 4))]) (.cond 80 (kd15 F) .skip)) (kd14 F)
def kd25(F:Ids):aX:=.seq (rg [mv 0 84 0,pu 1 85 (.build [.slice none 0 0] []),ca 2 86 F.s_l71Mk_expr [84,85,ci 3],pu 3 87 (.build [.int .i64 0,.string (bl []),.string (bl []),.slice none 0 0,.string (bl []),.slice none 0 0,.int .i64 0,.int .i64 0,.string (bl []),.slice none 0 0,.slice none 0 0,.string (bl []),.slice none 0 0,.slice none 0 0,.slice none 0 0] [(0,(1,ci 5)),(6,(5,86))]),ef 4 11 (.alloc [.int .i64 0,.string (bl []),.string (bl []),.slice none 0 0,.string (bl []),.slice none 0 0,.int .i64 0,.int .i64 0,.string (bl []),.slice none 0 0,.slice none 0 0,.string (bl []),.slice none 0 0,.slice none 0 0,.slice none 0 0]),en 5 (.store 15 11 87)]) (.seq (.region true [mv 0 88 0,nc 1 89 88,fa 2 90 0 89,⟨3,some 91,none,.load (.load none 90),[8]⟩,mv 4 92 0,nc 5 93 92,fa 6 94 1 93,ld 7 95 none 94,⟨8,some 96,none,.eff (.call F.s_l3Env_copy [95]),[3,12]⟩,mv 9 97 0,nc 10 98 97,fa 11 99 2 98,⟨12,some 100,none,.load (.load none 99),[8]⟩,pu 13 101 (.build [.pointer none,.pointer none,.int .i64 0] [(0,(1,91)),(1,(1,96)),(2,(1,100))]),ef 14 102 (.box 101),mv 15 12 102]) (.seq (rg [mv 0 103 12,mv 1 104 0,nc 2 105 104,fa 3 106 0 105,ld 4 107 none 106,ca 5 108 F.s_l6Rd_pick [107,ci 3],pu 6 109 (.bin .add (ci 1) 108),mv 7 110 1,pu 8 111 (.bin .sub 110 (ci 1)),ca 9 112 F.s_l71Mk_body [103,109,111],fa 10 113 13 11,en 11 (.store 1 113 112)]) (.seq (.region true [mv 0 114 0,nc 1 115 114,fa 2 116 0 115,⟨3,some 117,none,.load (.load none 116),[8]⟩,mv 4 118 0,nc 5 119 118,fa 6 120 1 119,ld 7 121 none 120,⟨8,some 122,none,.eff (.call F.s_l3Env_copy [121]),[3,12]⟩,mv 9 123 12,nc 10 124 123,fa 11 125 2 124,⟨12,some 126,none,.load (.load none 125),[8]⟩,pu 13 127 (.build [.pointer none,.pointer none,.int .i64 0] [(0,(1,117)),(1,(1,122)),(2,(1,126))]),ef 14 128 (.box 127),mv 15 13 128]) (.seq (rg [mv 0 129 13,mv 1 130 0,nc 2 131 130,fa 3 132 0 131,ld 4 133 none 132,ca 5 134 F.s_l6Rd_pick [133,ci 3],mv 6 135 1,pu 7 136 (.bin .sub 135 (ci 1)),ca 8 137 F.s_l71Mk_body [129,134,136],fa 9 138 14 11,en 10 (.store 1 138 137)]) (.seq (rg [mv 0 139 0,mv 1 140 13,nc 2 141 140,fa 3 142 2 141,ld 4 143 none 142,nc 5 144 139,fa 6 145 2 144,en 7 (.store 1 145 143)]) (.seq (rg [ld 0 146 (some 15) 11,en 1 (.store 15 4 146)]) .ret))))))
def kd7(F:Ids):aX:=.seq (.seq (rg [fa 0 124 0 2,ld 1 125 none 124,pu 2 126 (.bin .eql 125 (ci 4)),mv 3 127 126,gp 4 128 127 true (.fieldAddr 11 2),gl 5 129 127 true none 128,⟨6,some 130,some (127,true),.eff (.call F.s_l2Name [129]),[]⟩,gp 7 131 127 true (.not 130),pu 8 132 (.pick 127 131 cf),mv 9 133 132,gp 10 134 133 false (.fieldAddr 0 2),gl 11 135 133 false none 134,gp 12 136 133 false (.bin .neq 135 (ci 4)),gp 13 137 133 false (.move 136),gp 14 138 137 true (.fieldAddr 11 2),gl 15 139 137 true none 138,gp 16 140 137 true (.bin .neq 139 (.const (.string (bl [])))),gp 17 141 137 true (.move 140),gp 18 142 141 false (.fieldAddr 12 2),gl 19 143 141 false none 142,gp 20 144 141 false (.lenSl 143),gp 21 145 141 false (.bin .gtr 144 (ci 0)),gp 22 146 137 true (.pick 141 ct 145),gp 23 147 133 false (.pick 137 146 cf),pu 24 148 (.pick 133 ct 147),mv 25 149 148,gp 26 150 149 false (.fieldAddr 12 2),gl 27 151 149 false none 150,⟨28,some 152,some (149,false),.eff (.call F.s_l2Args [151]),[]⟩,gp 29 153 149 false (.not 152),pu 30 154 (.pick 149 ct 153)]) (.cond 154 (.seq (rg [mv 0 4 cf]) .ret) .skip)) (kd6 F)
def kd28(F:Ids):aX:=.seq (.seq (rg [mv 0 68 0,ca 1 69 F.s_l6Rd_pick [68,ci 2],pu 2 70 (.bin .eql 69 (ci 0))]) (.cond 70 (.seq (rg [mv 0 11 (ci 0)]) (.block 2 (.loop (.seq (.seq (rg [mv 0 71 11,pu 1 72 (.bin .lss 71 (ci 8))]) (.cond 72 .skip (.exit 2))) (.seq (.block 3 (.seq (rg [mv 0 76 10,ca 1 77 F.s_l71Mk_place [76],mv 2 75 77,pu 3 78 (.extract 75 0),pu 4 79 (.extract 75 1),ef 5 12 (.alloc [.string (bl []),.slice none 0 0]),ef 6 13 (.alloc [.slice none 0 0]),en 7 (.store 2 12 78),en 8 (.store 1 13 79)]) (.seq (rg [mv 0 80 10,nc 1 81 80,fa 2 82 1 81,ld 3 83 none 82,ca 4 84 F.s_l3Env_copy [83],mv 5 14 84]) (.seq (rg [mv 0 85 14,ld 1 86 (some 2) 12,ca 2 87 F.s_l3Env_use [85,86]]) (.seq (rg [mv 0 88 14,nc 1 89 88,fa 2 90 4 89,ld 3 91 none 90,pu 4 92 (.bin .eql 91 (ci 0)),mv 5 93 92,gp 6 94 93 true (.move 14),gl 7 95 93 true (some 2) 12,⟨8,some 96,some (93,true),.eff (.call F.s_l3Env_outside [94,95]),[]⟩,pu 9 97 (.pick 93 96 cf)]) (.cond 97 (.seq (rg [fa 0 98 2 6,en 1 (.store 1 98 ct)]) (.seq (rg [ld 0 99 (some 2) 12,fa 1 100 10 6,en 2 (.store 2 100 99)]) (.seq (rg [ld 0 101 (some 1) 13,fa 1 102 3 6,en 2 (.store 1 102 101)]) (.seq (rg [ld 0 103 (some 12) 6,en 1 (.store 12 4 103)]) .ret)))) .skip)))))) (rg [mv 0 73 11,pu 1 74 (.bin .add 73 (ci 1)),mv 2 11 74])))))) .skip)) (kd27 F)
def kd26(F:Ids):aX:=.seq (.seq (rg [mv 0 72 1,pu 1 73 (.bin .lss 72 (ci 2))]) (.cond 73 (kd24 F) .skip)) (kd25 F)
def kd17(F:Ids):aX:=.seq (rg [mv 0 55 0,nc 1 56 55,fa 2 57 0 56,ld 3 58 none 57,ca 4 59 F.s_l6Rd_pick [58,ci 6],mv 5 10 59]) (.seq (.seq (rg [mv 0 60 10,pu 1 61 (.bin .lss 60 (ci 2)),mv 2 62 61,gp 3 63 62 false (.move 2),gp 4 64 62 false (.bin .lss 63 (ci 2)),gp 5 65 62 false (.move 64),gp 6 66 65 true (.move 10),gp 7 67 65 true (.bin .gtr 66 (ci 3)),gp 8 68 62 false (.pick 65 67 cf),pu 9 69 (.pick 62 ct 68)]) (.cond 69 (kd13 F) .skip)) (kd16 F))
def kd8(F:Ids):aX:=.seq (.seq (rg [mv 0 72 6,fa 1 73 1 2,ld 2 74 none 73,ca 3 75 F.s_l2Name [74],pu 4 76 (.eqBool true 72 75),mv 5 77 76,gp 6 78 77 false (.move 6),gp 7 79 77 false (.not 78),gp 8 80 77 false (.move 79),gp 9 81 80 true (.fieldAddr 1 2),gl 10 82 80 true none 81,gp 11 83 80 true (.bin .neq 82 (.const (.string (bl [])))),gp 12 84 77 false (.pick 80 83 cf),pu 13 85 (.pick 77 ct 84),mv 14 86 85,gp 15 87 86 false (.move 7),gp 16 88 86 false (.move 87),gp 17 89 88 true (.fieldAddr 2 2),gl 18 90 88 true (some 2) 89,⟨19,some 91,some (88,true),.eff (.call F.s_l2Place [90]),[]⟩,gp 20 92 88 true (.not 91),gp 21 93 86 false (.pick 88 92 cf),pu 22 94 (.pick 86 ct 93),mv 23 95 94,gp 24 96 95 false (.move 7),gp 25 97 95 false (.not 96),gp 26 98 95 false (.move 97),gp 27 99 98 true (.fieldAddr 2 2),gl 28 100 98 true (some 2) 99,⟨29,some 101,some (98,true),.eff (.call F.s_l2None [100]),[]⟩,gp 30 102 98 true (.not 101),gp 31 103 95 false (.pick 98 102 cf),pu 32 104 (.pick 95 ct 103),mv 33 105 104,gp 34 106 105 false (.move 8),gp 35 107 105 false (.move 106),gp 36 108 107 true (.fieldAddr 6 2),gl 37 109 107 true (some 5) 108,⟨38,some 110,some (107,true),.eff (.call F.s_l2Expr [109,ci 4]),[]⟩,gp 39 111 107 true (.not 110),gp 40 112 105 false (.pick 107 111 cf),pu 41 113 (.pick 105 ct 112),mv 42 114 113,gp 43 115 114 false (.move 8),gp 44 116 114 false (.not 115),gp 45 117 114 false (.move 116),gp 46 118 117 true (.fieldAddr 6 2),gl 47 119 117 true (some 5) 118,⟨48,some 120,some (117,true),.eff (.call F.s_l2NoExpr [119]),[]⟩,gp 49 121 117 true (.not 120),gp 50 122 114 false (.pick 117 121 cf),pu 51 123 (.pick 114 ct 122)]) (.cond 123 (.seq (rg [mv 0 4 cf]) .ret) .skip)) (kd7 F)
def kd9(F:Ids):aX:=.seq (.seq (rg [mv 0 55 5,mv 1 56 55,gp 2 57 56 true (.fieldAddr 4 2),gl 3 58 56 true (some 2) 57,⟨4,some 59,some (56,true),.eff (.call F.s_l2Place [58]),[]⟩,gp 5 60 56 true (.not 59),pu 6 61 (.pick 56 60 cf),mv 7 62 61,gp 8 63 62 false (.move 5),gp 9 64 62 false (.not 63),gp 10 65 62 false (.move 64),gp 11 66 65 true (.fieldAddr 4 2),gl 12 67 65 true (some 2) 66,⟨13,some 68,some (65,true),.eff (.call F.s_l2None [67]),[]⟩,gp 14 69 65 true (.not 68),gp 15 70 62 false (.pick 65 69 cf),pu 16 71 (.pick 62 ct 70)]) (.cond 71 (.seq (rg [mv 0 4 cf]) .ret) .skip)) (kd8 F)
def nq(F:Ids):aD:=⟨13,[.cell 2 (some 1)],.seq (rg [ef 0 2 (.alloc [.slice none 0 0])]) (.seq (rg [mv 0 4 0,ca 1 5 F.s_l71Prog [4],ef 2 3 (.alloc [.slice none 0 0]),en 3 (.store 1 3 5)]) (.seq (.seq (rg [mv 0 6 0,ca 1 7 F.s_l6Rd_pick [6,ci 5],pu 2 8 (.bin .eql 7 (ci 0))]) (.cond 8 (.seq (rg [mv 0 9 0,ld 1 10 (some 1) 3,ca 2 11 F.s_l71Bend [9,10],en 3 (.store 1 2 11)]) .ret) .skip)) (.seq (rg [ld 0 12 (some 1) 3,en 1 (.store 1 2 12)]) .ret)))⟩
def mw(F:Ids):aD:=⟨11,[.slot 2],.seq (rg [mv 0 2 (.const (.pointer none))]) (.seq (.seq (rg [mv 0 3 0,pu 1 4 (.lenSl 3),pu 2 5 (.bin .gtr 4 (ci 2000))]) (.cond 5 (rg [mv 0 6 0,pu 1 7 (.slice 1 6 none (some (ci 2000))),mv 2 0 7]) .skip)) (.seq (rg [mv 0 8 0,pu 1 9 (.build [.slice none 0 0,.int .i64 0] [(0,(1,8))]),ef 2 10 (.box 9),mv 3 2 10]) .ret))⟩
def mB(F:Ids):aD:=⟨20,[.slot 2],.seq (rg [ef 0 1 (.box 0),mv 1 2 cf]) (.seq (.seq (rg [fa 0 5 0 1,ld 1 6 none 5,pu 2 7 (.lenSl 6),pu 3 8 (.bin .gtr 7 (ci 5))]) (.cond 8 (.seq (rg [mv 0 2 cf]) .ret) .skip)) (.seq (.seq (rg [fa 0 9 0 1,ld 1 10 none 9,pu 2 11 (.lenSl 10),mv 3 12 (ci 0)]) (.block 0 (.loop (.seq (rg [pu 0 13 (.bin .lss 12 11)]) (.seq (.cond 13 .skip (.exit 0)) (.seq (.block 1 (.seq (rg [ia 0 14 12 10 12,ld 1 15 (some 12) 14,ef 2 4 (.alloc [.string (bl []),.slice none 0 0,.bool false,.slice none 0 0,.slice none 0 0,.int .i64 0,.int .i64 0,.string (bl []),.slice none 0 0,.slice none 0 0,.string (bl []),.slice none 0 0]),en 3 (.store 12 4 15)]) (.seq (rg [ld 0 16 (some 12) 4,ca 1 17 F.i_fnForm [16],pu 2 18 (.not 17)]) (.cond 18 (.seq (rg [mv 0 2 cf]) .ret) .skip)))) (rg [pu 0 19 (.bin .add 12 (ci 1)),mv 1 12 19]))))))) (.seq (rg [mv 0 2 ct]) .ret)))⟩
def ph(F:Ids):aD:=⟨22,[.slot 2],.seq (rg [ef 0 1 (.box 0),mv 1 2 cf]) (.seq (.seq (rg [fa 0 4 0 1,ld 1 5 none 4,pu 2 6 (.lenSl 5),pu 3 7 (.bin .gtr 6 (ci 5))]) (.cond 7 (.seq (rg [mv 0 2 cf]) .ret) .skip)) (.seq (.seq (rg [mv 0 3 (ci 0)]) (.block 0 (.loop (.seq (.seq (rg [mv 0 8 3,fa 1 9 0 1,ld 2 10 none 9,pu 3 11 (.lenSl 10),pu 4 12 (.bin .lss 8 11)]) (.cond 12 .skip (.exit 0))) (.seq (.block 1 (.seq (rg [fa 0 15 0 1,ld 1 16 none 15,mv 2 17 3,ia 3 18 12 16 17,ld 4 19 (some 12) 18,ca 5 20 F.s_l2Fn [19],pu 6 21 (.not 20)]) (.cond 21 (.seq (rg [mv 0 2 cf]) .ret) .skip))) (rg [mv 0 13 3,pu 1 14 (.bin .add 13 (ci 1)),mv 2 3 14])))))) (.seq (rg [mv 0 2 ct]) .ret)))⟩
def nu(F:Ids):aD:=⟨22,[.cell 2 (some 1)],.seq (rg [ef 0 2 (.alloc [.slice none 0 0])]) (.seq (rg [pu 0 5 (.build [.slice none 0 0] []),ef 1 3 (.alloc [.slice none 0 0]),en 2 (.store 1 3 5)]) (.seq (.seq (rg [mv 0 6 0,ca 1 7 F.s_l6Rd_pick [6,ci 4],pu 2 8 (.bin .add (ci 1) 7),mv 3 4 8]) (.block 0 (.loop (.seq (.seq (rg [mv 0 9 4,pu 1 10 (.bin .gtr 9 (ci 0))]) (.cond 10 .skip (.exit 0))) (.seq (.block 1 (.region true [fa 0 13 0 3,⟨1,some 14,none,.load (.load none 13),[4]⟩,mv 2 15 0,ld 3 16 (some 1) 3,⟨4,some 17,none,.eff (.call F.s_l71Fn [15,16]),[1]⟩,⟨5,some 18,none,.lits 12 1 [.string (bl []),.slice none 0 0,.bool false,.slice none 0 0,.slice none 0 0,.int .i64 0,.int .i64 0,.string (bl []),.slice none 0 0,.slice none 0 0,.string (bl []),.slice none 0 0] [(0,(12,17))],[]⟩,ef 6 19 (.appendM 12 216 14 18),fa 7 20 0 3,en 8 (.store 1 20 19)])) (rg [mv 0 11 4,pu 1 12 (.bin .sub 11 (ci 1)),mv 2 4 12])))))) (.seq (rg [ld 0 21 (some 1) 3,en 1 (.store 1 2 21)]) .ret)))⟩
def gG(F:Ids):aD:=⟨99,[.slot 4],.seq (rg [mv 0 4 (ci 0)]) (.seq (rg [mv 0 7 0,mv 1 8 0,nc 2 9 8,fa 3 10 1 9,ld 4 11 none 10,pu 5 12 (.bin .add 11 (ci 1)),nc 6 13 7,fa 7 14 1 13,en 8 (.store 1 14 12)]) (.seq (.seq (rg [mv 0 15 1,pu 1 16 (.bin .lss 15 (ci 1)),mv 2 17 16,gp 3 18 17 false (.move 0),gp 4 19 17 false (.nilCheck 18),gp 5 20 17 false (.fieldAddr 0 19),gl 6 21 17 false none 20,gp 7 22 17 false (.lenSl 21),gp 8 23 17 false (.bin .eql 22 (ci 0)),pu 9 24 (.pick 17 ct 23)]) (.cond 24 (.seq (rg [mv 0 4 (ci 0)]) .ret) .skip)) (.seq (rg [mv 0 25 0,nc 1 26 25,fa 2 27 1 26,ld 3 28 none 27,pu 4 29 (.bin .sub 28 (ci 1)),mv 5 5 29]) (.seq (.seq (rg [mv 0 30 5,mv 1 31 0,nc 2 32 31,fa 3 33 0 32,ld 4 34 none 33,pu 5 35 (.lenSl 34),pu 6 36 (.bin .lss 30 35)]) (.cond 36 (.seq (rg [mv 0 37 0,nc 1 38 37,fa 2 39 0 38,ld 3 40 none 39,mv 4 41 5,ia 5 42 1 40 41,ld 6 43 none 42,pu 7 44 (.conv .i64 43),mv 8 45 1,pu 9 46 (.bin .rem 44 45),mv 10 4 46]) .ret) .skip)) (.seq (.region true [mv 0 47 0,nc 1 48 47,fa 2 49 0 48,ld 3 50 none 49,mv 4 51 5,mv 5 52 0,nc 6 53 52,fa 7 54 0 53,ld 8 55 none 54,pu 9 56 (.lenSl 55),pu 10 57 (.bin .rem 51 56),ia 11 58 1 50 57,ld 12 59 none 58,pu 13 60 (.conv .i64 59),pu 14 61 (.bin .mul 60 (ci 131)),mv 15 62 0,nc 16 63 62,fa 17 64 0 63,ld 18 65 none 64,mv 19 66 5,pu 20 67 (.bin .mul 66 (ci 7)),pu 21 68 (.bin .add 67 (ci 3)),mv 22 69 0,nc 23 70 69,fa 24 71 0 70,ld 25 72 none 71,pu 26 73 (.lenSl 72),pu 27 74 (.bin .rem 68 73),ia 28 75 1 65 74,ld 29 76 none 75,pu 30 77 (.conv .i64 76),pu 31 78 (.bin .mul 77 (ci 1117)),pu 32 79 (.bin .add 61 78),mv 33 80 5,pu 34 81 (.bin .mul 80 (ci 29)),pu 35 82 (.bin .add 79 81),mv 36 83 5,mv 37 84 0,nc 38 85 84,fa 39 86 0 85,ld 40 87 none 86,pu 41 88 (.lenSl 87),pu 42 89 (.bin .quo 83 88),pu 43 90 (.bin .mul 89 (ci 53)),pu 44 91 (.bin .add 82 90),mv 45 6 91]) (.seq (rg [mv 0 92 6,mv 1 93 6,pu 2 94 (.bin .quo 93 (ci 64)),pu 3 95 (.bin .xor 92 94),mv 4 6 95]) (.seq (rg [mv 0 96 6,mv 1 97 1,pu 2 98 (.bin .rem 96 97),mv 3 4 98]) .ret)))))))⟩
def nx(F:Ids):aD:=⟨196,[.cell 4 (some 1)],.seq (rg [ef 0 3 (.box 1),ef 1 4 (.alloc [.slice none 0 0])]) (.seq (rg [mv 0 10 0,fa 1 11 0 3,ld 2 12 none 11,pu 3 13 (.lenSl 12),ca 4 14 F.s_l6Rd_pick [10,13],mv 5 5 14]) (.seq (rg [fa 0 15 0 3,ld 1 16 none 15,mv 2 17 5,ia 3 18 12 16 17,ld 4 19 (some 12) 18,ef 5 6 (.alloc [.string (bl []),.slice none 0 0,.bool false,.slice none 0 0,.slice none 0 0,.int .i64 0,.int .i64 0,.string (bl []),.slice none 0 0,.slice none 0 0,.string (bl []),.slice none 0 0]),en 6 (.store 12 6 19)]) (.seq (.seq (rg [mv 0 20 0,ca 1 21 F.s_l6Rd_pick [20,ci 12]]) (.block 0 (.seq (rg [pu 0 31 (.bin .eql 21 (ci 0)),mv 1 30 31]) (.cond 30 (rg [mv 0 32 0,ef 1 33 (.buildSlice 1 5 [.string (bl [])] [(0,(1,.const (.string (bl [])))),(1,(1,.const (.string (bl [102,97])))),(2,(1,.const (.string (bl [70])))),(3,(1,.const (.string (bl [116,111,111,108,111,110,103])))),(4,(1,.const (.string (bl [122,122]))))]),ca 2 34 F.s_l6Rd_of [32,33],fa 3 35 0 6,en 4 (.store 1 35 34)]) (.seq (rg [pu 0 37 (.bin .eql 21 (ci 1)),mv 1 36 37]) (.cond 36 (rg [mv 0 38 0,ca 1 39 F.s_l71Deep [38],fa 2 40 3 6,en 3 (.store 1 40 39)]) (.seq (rg [pu 0 42 (.bin .eql 21 (ci 2)),mv 1 41 42]) (.cond 41 (rg [fa 0 43 2 6,ld 1 44 none 43,pu 2 45 (.not 44),fa 3 46 2 6,en 4 (.store 1 46 45)]) (.seq (rg [pu 0 48 (.bin .eql 21 (ci 3)),mv 1 47 48]) (.cond 47 (.seq (rg [fa 0 49 4 6,ld 1 50 none 49,pu 2 51 (.lenSl 50),pu 3 52 (.bin .gtr 51 (ci 0))]) (.cond 52 (.seq (rg [mv 0 53 0,fa 1 54 4 6,ld 2 55 none 54,pu 3 56 (.lenSl 55),ca 4 57 F.s_l6Rd_pick [53,56],mv 5 7 57]) (.region true [ef 0 58 (.buildSlice 15 0 [.int .i64 0,.string (bl []),.string (bl []),.slice none 0 0,.string (bl []),.slice none 0 0,.int .i64 0,.int .i64 0,.string (bl []),.slice none 0 0,.slice none 0 0,.string (bl []),.slice none 0 0,.slice none 0 0,.slice none 0 0] []),fa 1 59 4 6,ld 2 60 none 59,mv 3 61 7,pu 4 62 (.slice 15 60 none (some 61)),⟨5,some 63,none,.eff (.appendM 15 272 58 62),[7]⟩,fa 6 64 4 6,⟨7,some 65,none,.load (.load none 64),[5]⟩,mv 8 66 7,pu 9 67 (.bin .add 66 (ci 1)),pu 10 68 (.slice 15 65 (some 67) none),ef 11 69 (.appendM 15 272 63 68),fa 12 70 4 6,en 13 (.store 1 70 69)])) .skip)) (.seq (rg [pu 0 72 (.bin .eql 21 (ci 4)),mv 1 71 72]) (.cond 71 (.seq (rg [fa 0 73 4 6,ld 1 74 none 73,pu 2 75 (.lenSl 74),pu 3 76 (.bin .gtr 75 (ci 0))]) (.cond 76 (.region true [ef 0 77 (.buildSlice 15 0 [.int .i64 0,.string (bl []),.string (bl []),.slice none 0 0,.string (bl []),.slice none 0 0,.int .i64 0,.int .i64 0,.string (bl []),.slice none 0 0,.slice none 0 0,.string (bl []),.slice none 0 0,.slice none 0 0,.slice none 0 0] []),fa 1 78 4 6,ld 2 79 none 78,⟨3,some 80,none,.eff (.appendM 15 272 77 79),[5,8]⟩,fa 4 81 4 6,⟨5,some 82,none,.load (.load none 81),[3,10]⟩,mv 6 83 0,fa 7 84 4 6,⟨8,some 85,none,.load (.load none 84),[3]⟩,pu 9 86 (.lenSl 85),⟨10,some 87,none,.eff (.call F.s_l6Rd_pick [83,86]),[5]⟩,ia 11 88 15 82 87,ld 12 89 (some 15) 88,⟨13,some 90,none,.lits 15 1 [.int .i64 0,.string (bl []),.string (bl []),.slice none 0 0,.string (bl []),.slice none 0 0,.int .i64 0,.int .i64 0,.string (bl []),.slice none 0 0,.slice none 0 0,.string (bl []),.slice none 0 0,.slice none 0 0,.slice none 0 0] [(0,(15,89))],[]⟩,ef 14 91 (.appendM 15 272 80 90),fa 15 92 4 6,en 16 (.store 1 92 91)]) .skip)) (.seq (rg [pu 0 94 (.bin .eql 21 (ci 5)),mv 1 93 94]) (.cond 93 (rg [ef 0 95 (.buildSlice 3 0 [.string (bl []),.bool false,.slice none 0 0] []),fa 1 96 1 6,ld 2 97 none 96,ef 3 98 (.appendM 3 48 95 97),mv 4 99 0,ef 5 100 (.buildSlice 1 3 [.string (bl [])] [(0,(1,.const (.string (bl [112])))),(1,(1,.const (.string (bl [122])))),(2,(1,.const (.string (bl [90]))))]),ca 6 101 F.s_l6Rd_of [99,100],mv 7 102 0,ca 8 103 F.s_l71Deep [102],pu 9 104 (.build [.string (bl []),.bool false,.slice none 0 0] [(0,(1,101)),(2,(1,103))]),⟨10,some 105,none,.lits 3 1 [.string (bl []),.bool false,.slice none 0 0] [(0,(3,104))],[]⟩,ef 11 106 (.appendM 3 48 98 105),fa 12 107 1 6,en 13 (.store 1 107 106)]) (.seq (rg [pu 0 109 (.bin .eql 21 (ci 6)),mv 1 108 109]) (.cond 108 (rg [mv 0 110 0,ef 1 111 (.buildSlice 1 3 [.string (bl [])] [(0,(1,.const (.string (bl [112])))),(1,(1,.const (.string (bl [113])))),(2,(1,.const (.string (bl [122,122]))))]),ca 2 112 F.s_l6Rd_of [110,111],mv 3 113 0,ca 4 114 F.s_l6Rd_pick [113,ci 3],pu 5 115 (.bin .sub 114 (ci 1)),ef 6 116 (.buildSlice 1 1 [.int .i64 0] [(0,(1,115))]),mv 7 117 0,ca 8 118 F.s_l6Rd_pick [117,ci 2],pu 9 119 (.slice 1 116 none (some 118)),pu 10 120 (.build [.string (bl []),.slice none 0 0] [(0,(1,112)),(1,(1,119))]),fa 11 121 10 6,en 12 (.store 2 121 120)]) (.seq (rg [pu 0 123 (.bin .eql 21 (ci 7)),mv 1 122 123]) (.cond 122 (rg [mv 0 124 0,ca 1 125 F.s_l6Rd_pick [124,ci 8],mv 2 126 0,ca 3 127 F.s_l6Rd_pick [126,ci 3],pu 4 128 (.build [.string (bl []),.slice none 0 0] [(0,(1,.const (.string (bl [112]))))]),pu 5 129 (.build [.int .i64 0,.int .i64 0,.string (bl []),.slice none 0 0,.slice none 0 0] [(0,(1,125)),(1,(1,127)),(2,(2,128))]),fa 6 130 5 6,en 7 (.store 5 130 129)]) (.seq (.seq (rg [pu 0 132 (.bin .eql 21 (ci 8)),mv 1 131 132]) (.cond 131 .skip (rg [pu 0 133 (.bin .eql 21 (ci 9)),mv 1 131 133]))) (.cond 131 (kd30 F) (.seq (rg [pu 0 171 (.bin .eql 21 (ci 10)),mv 1 170 171]) (.cond 170 (rg [ef 0 172 (.buildSlice 15 0 [.int .i64 0,.string (bl []),.string (bl []),.slice none 0 0,.string (bl []),.slice none 0 0,.int .i64 0,.int .i64 0,.string (bl []),.slice none 0 0,.slice none 0 0,.string (bl []),.slice none 0 0,.slice none 0 0,.slice none 0 0] []),fa 1 173 4 6,ld 2 174 none 173,ef 3 175 (.appendM 15 272 172 174),mv 4 176 0,ef 5 177 (.buildSlice 1 6 [.string (bl [])] [(0,(1,.const (.string (bl [112])))),(1,(1,.const (.string (bl [113])))),(2,(1,.const (.string (bl [97,98])))),(3,(1,.const (.string (bl [97,99])))),(4,(1,.const (.string (bl [97,100])))),(5,(1,.const (.string (bl [97,101]))))]),ca 6 178 F.s_l6Rd_of [176,177],pu 7 179 (.build [.string (bl []),.slice none 0 0] [(0,(1,178))]),pu 8 180 (.build [.int .i64 0,.int .i64 0,.string (bl []),.slice none 0 0,.slice none 0 0] [(0,(1,ci 2)),(2,(2,179))]),pu 9 181 (.build [.int .i64 0,.string (bl []),.string (bl []),.slice none 0 0,.string (bl []),.slice none 0 0,.int .i64 0,.int .i64 0,.string (bl []),.slice none 0 0,.slice none 0 0,.string (bl []),.slice none 0 0,.slice none 0 0,.slice none 0 0] [(0,(1,ci 1)),(1,(1,.const (.string (bl [122,122])))),(6,(5,180))]),⟨10,some 182,none,.lits 15 1 [.int .i64 0,.string (bl []),.string (bl []),.slice none 0 0,.string (bl []),.slice none 0 0,.int .i64 0,.int .i64 0,.string (bl []),.slice none 0 0,.slice none 0 0,.string (bl []),.slice none 0 0,.slice none 0 0,.slice none 0 0] [(0,(15,181))],[]⟩,ef 11 183 (.appendM 15 272 175 182),fa 12 184 4 6,en 13 (.store 1 184 183)]) (.region true [ef 0 22 (.buildSlice 12 0 [.string (bl []),.slice none 0 0,.bool false,.slice none 0 0,.slice none 0 0,.int .i64 0,.int .i64 0,.string (bl []),.slice none 0 0,.slice none 0 0,.string (bl []),.slice none 0 0] []),fa 1 23 0 3,ld 2 24 none 23,⟨3,some 25,none,.eff (.appendM 12 216 22 24),[4]⟩,⟨4,some 26,none,.load (.load (some 12) 6),[3]⟩,⟨5,some 27,none,.lits 12 1 [.string (bl []),.slice none 0 0,.bool false,.slice none 0 0,.slice none 0 0,.int .i64 0,.int .i64 0,.string (bl []),.slice none 0 0,.slice none 0 0,.string (bl []),.slice none 0 0] [(0,(12,26))],[]⟩,ef 6 28 (.appendM 12 216 25 27),fa 7 29 0 3,en 8 (.store 1 29 28)]))))))))))))))))))))))) (kd29 F))))⟩
def pD(F:Ids):aD:=⟨62,[.slot 2],.seq (rg [ef 0 1 (.box 0),mv 1 2 cf]) (.seq (.seq (rg [fa 0 6 0 1,ld 1 7 none 6,ca 2 8 F.i_nameForm [7],pu 3 9 (.not 8),mv 4 10 9,gp 5 11 10 false (.fieldAddr 1 1),gl 6 12 10 false none 11,gp 7 13 10 false (.lenSl 12),gp 8 14 10 false (.bin .gtr 13 (ci 4)),pu 9 15 (.pick 10 ct 14),mv 10 16 15,gp 11 17 16 false (.fieldAddr 3 1),gl 12 18 16 false (some 1) 17,⟨13,some 19,some (16,false),.eff (.call F.i_TypeOk [18]),[]⟩,gp 14 20 16 false (.not 19),pu 15 21 (.pick 16 ct 20)]) (.cond 21 (.seq (rg [mv 0 2 cf]) .ret) .skip)) (.seq (.seq (rg [fa 0 22 1 1,ld 1 23 none 22,pu 2 24 (.lenSl 23),mv 3 25 (ci 0)]) (.block 0 (.loop (.seq (rg [pu 0 26 (.bin .lss 25 24)]) (.seq (.cond 26 .skip (.exit 0)) (.seq (.block 1 (.seq (rg [ia 0 27 3 23 25,ld 1 28 (some 3) 27,ef 2 4 (.alloc [.string (bl []),.bool false,.slice none 0 0]),en 3 (.store 3 4 28)]) (.seq (rg [fa 0 29 0 4,ld 1 30 none 29,ca 2 31 F.i_nameForm [30],pu 3 32 (.not 31),mv 4 33 32,gp 5 34 33 false (.fieldAddr 2 4),gl 6 35 33 false (some 1) 34,⟨7,some 36,some (33,false),.eff (.call F.i_TypeOk [35]),[]⟩,gp 8 37 33 false (.not 36),pu 9 38 (.pick 33 ct 37)]) (.cond 38 (.seq (rg [mv 0 2 cf]) .ret) .skip)))) (rg [pu 0 39 (.bin .add 25 (ci 1)),mv 1 25 39]))))))) (.seq (rg [ef 0 5 (.alloc [.int .i64 0]),en 1 (.store 1 5 (ci 40))]) (.seq (.seq (rg [fa 0 40 4 1,ld 1 41 none 40,ca 2 42 F.i_stmtsForm [41,ci 4,5],pu 3 43 (.not 42)]) (.cond 43 (.seq (rg [mv 0 2 cf]) .ret) .skip)) (.seq (.seq (rg [fa 0 44 2 1,ld 1 45 none 44]) (.cond 45 (.seq (rg [fa 0 46 10 1,ld 1 47 (some 2) 46,ca 2 48 F.i_placeForm [47],mv 3 49 48,gp 4 50 49 true (.fieldAddr 5 1),gl 5 51 49 true (some 5) 50,⟨6,some 52,some (49,true),.eff (.call F.i_exprNothing [51]),[]⟩,pu 7 53 (.pick 49 52 cf),mv 8 2 53]) .ret) .skip)) (.seq (rg [fa 0 54 5 1,ld 1 55 (some 5) 54,ca 2 56 F.i_exprForm [55,ci 4],mv 3 57 56,gp 4 58 57 true (.fieldAddr 10 1),gl 5 59 57 true (some 2) 58,⟨6,some 60,some (57,true),.eff (.call F.i_placeNothing [59]),[]⟩,pu 7 61 (.pick 57 60 cf),mv 8 2 61]) .ret))))))⟩
def sq(F:Ids):aD:=⟨75,[.slot 2],.seq (rg [ef 0 1 (.box 0),mv 1 2 cf]) (.seq (.seq (rg [fa 0 4 0 1,ld 1 5 none 4,ca 2 6 F.s_l2Name [5],pu 3 7 (.not 6),mv 4 8 7,gp 5 9 8 false (.fieldAddr 1 1),gl 6 10 8 false none 9,gp 7 11 8 false (.lenSl 10),gp 8 12 8 false (.bin .gtr 11 (ci 4)),pu 9 13 (.pick 8 ct 12),mv 10 14 13,gp 11 15 14 false (.fieldAddr 3 1),gl 12 16 14 false (some 1) 15,⟨13,some 17,some (14,false),.eff (.call F.s_TypeOk [16]),[]⟩,gp 14 18 14 false (.not 17),pu 15 19 (.pick 14 ct 18),mv 16 20 19,gp 17 21 20 false (.fieldAddr 4 1),gl 18 22 20 false none 21,⟨19,some 23,some (20,false),.eff (.call F.s_l2Body [22,ci 4]),[]⟩,gp 20 24 20 false (.not 23),pu 21 25 (.pick 20 ct 24),mv 22 26 25,gp 23 27 26 false (.fieldAddr 4 1),gl 24 28 26 false none 27,⟨25,some 29,some (26,false),.eff (.call F.s_l2Count [28]),[]⟩,gp 26 30 26 false (.bin .gtr 29 (ci 40)),pu 27 31 (.pick 26 ct 30)]) (.cond 31 (.seq (rg [mv 0 2 cf]) .ret) .skip)) (.seq (.seq (rg [mv 0 3 (ci 0)]) (.block 0 (.loop (.seq (.seq (rg [mv 0 32 3,fa 1 33 1 1,ld 2 34 none 33,pu 3 35 (.lenSl 34),pu 4 36 (.bin .lss 32 35)]) (.cond 36 .skip (.exit 0))) (.seq (.block 1 (.seq (rg [fa 0 39 1 1,ld 1 40 none 39,mv 2 41 3,ia 3 42 3 40 41,fa 4 43 0 42,ld 5 44 none 43,ca 6 45 F.s_l2Name [44],pu 7 46 (.not 45),mv 8 47 46,gp 9 48 47 false (.fieldAddr 1 1),gl 10 49 47 false none 48,gp 11 50 47 false (.move 3),gp 12 51 47 false (.indexAddr 3 49 50),gp 13 52 47 false (.fieldAddr 2 51),gl 14 53 47 false (some 1) 52,⟨15,some 54,some (47,false),.eff (.call F.s_TypeOk [53]),[]⟩,gp 16 55 47 false (.not 54),pu 17 56 (.pick 47 ct 55)]) (.cond 56 (.seq (rg [mv 0 2 cf]) .ret) .skip))) (rg [mv 0 37 3,pu 1 38 (.bin .add 37 (ci 1)),mv 2 3 38])))))) (.seq (.seq (rg [fa 0 57 2 1,ld 1 58 none 57]) (.cond 58 (.seq (rg [fa 0 59 10 1,ld 1 60 (some 2) 59,ca 2 61 F.s_l2Place [60],mv 3 62 61,gp 4 63 62 true (.fieldAddr 5 1),gl 5 64 62 true (some 5) 63,⟨6,some 65,some (62,true),.eff (.call F.s_l2NoExpr [64]),[]⟩,pu 7 66 (.pick 62 65 cf),mv 8 2 66]) .ret) .skip)) (.seq (rg [fa 0 67 10 1,ld 1 68 (some 2) 67,ca 2 69 F.s_l2None [68],mv 3 70 69,gp 4 71 70 true (.fieldAddr 5 1),gl 5 72 70 true (some 5) 71,⟨6,some 73,some (70,true),.eff (.call F.s_l2Expr [72,ci 4]),[]⟩,pu 7 74 (.pick 70 73 cf),mv 8 2 74]) .ret))))⟩
def qW(F:Ids):aD:=⟨140,[.cell 4 (some 12)],.seq (rg [ef 0 3 (.box 1),ef 1 4 (.alloc [.string (bl []),.slice none 0 0,.bool false,.slice none 0 0,.slice none 0 0,.int .i64 0,.int .i64 0,.string (bl []),.slice none 0 0,.slice none 0 0,.string (bl []),.slice none 0 0])]) (.seq (rg [fa 0 17 0 3,ld 1 18 none 17,pu 2 19 (.lenSl 18),mv 3 5 19]) (.seq (rg [⟨0,some 20,none,.lits 1 5 [.string (bl [])] [(0,(1,.const (.string (bl [102,97])))),(1,(1,.const (.string (bl [102,98])))),(2,(1,.const (.string (bl [102,99])))),(3,(1,.const (.string (bl [102,100])))),(4,(1,.const (.string (bl [102,101]))))],[]⟩,mv 1 21 5,ia 2 22 1 20 21,ld 3 23 none 22,pu 4 24 (.build [.string (bl []),.slice none 0 0,.bool false,.slice none 0 0,.slice none 0 0,.int .i64 0,.int .i64 0,.string (bl []),.slice none 0 0,.slice none 0 0,.string (bl []),.slice none 0 0] [(0,(1,23))]),ef 5 6 (.alloc [.string (bl []),.slice none 0 0,.bool false,.slice none 0 0,.slice none 0 0,.int .i64 0,.int .i64 0,.string (bl []),.slice none 0 0,.slice none 0 0,.string (bl []),.slice none 0 0]),en 6 (.store 12 6 24)]) (.seq (rg [mv 0 25 0,ca 1 26 F.s_l6Rd_pick [25,ci 3],pu 2 27 (.bin .add (ci 1) 26),mv 3 7 27]) (.seq (.seq (rg [mv 0 8 (ci 0)]) (.block 0 (.loop (.seq (.seq (rg [mv 0 28 8,mv 1 29 7,pu 2 30 (.bin .lss 28 29)]) (.cond 30 .skip (.exit 0))) (.seq (.block 1 (.region true [fa 0 33 1 6,⟨1,some 34,none,.load (.load none 33),[7,10]⟩,⟨2,some 35,none,.lits 1 4 [.string (bl [])] [(0,(1,.const (.string (bl [112])))),(1,(1,.const (.string (bl [113])))),(2,(1,.const (.string (bl [114])))),(3,(1,.const (.string (bl [115]))))],[]⟩,mv 3 36 8,ia 4 37 1 35 36,⟨5,some 38,none,.load (.load none 37),[7,10]⟩,mv 6 39 0,⟨7,some 40,none,.eff (.call F.s_l6Rd_pick [39,ci 3]),[1,5]⟩,pu 8 41 (.bin .gtr 40 (ci 0)),mv 9 42 0,⟨10,some 43,none,.eff (.call F.s_l71Type [42,ci 3]),[1,5]⟩,pu 11 44 (.build [.string (bl []),.bool false,.slice none 0 0] [(0,(1,38)),(1,(1,41)),(2,(1,43))]),⟨12,some 45,none,.lits 3 1 [.string (bl []),.bool false,.slice none 0 0] [(0,(3,44))],[]⟩,ef 13 46 (.appendM 3 48 34 45),fa 14 47 1 6,en 15 (.store 1 47 46)])) (rg [mv 0 31 8,pu 1 32 (.bin .add 31 (ci 1)),mv 2 8 32])))))) (.seq (.region true [ef 0 48 (.buildSlice 12 0 [.string (bl []),.slice none 0 0,.bool false,.slice none 0 0,.slice none 0 0,.int .i64 0,.int .i64 0,.string (bl []),.slice none 0 0,.slice none 0 0,.string (bl []),.slice none 0 0] []),fa 1 49 0 3,ld 2 50 none 49,⟨3,some 51,none,.eff (.appendM 12 216 48 50),[4]⟩,⟨4,some 52,none,.load (.load (some 12) 6),[3]⟩,⟨5,some 53,none,.lits 12 1 [.string (bl []),.slice none 0 0,.bool false,.slice none 0 0,.slice none 0 0,.int .i64 0,.int .i64 0,.string (bl []),.slice none 0 0,.slice none 0 0,.string (bl []),.slice none 0 0] [(0,(12,52))],[]⟩,ef 6 54 (.appendM 12 216 51 53),pu 7 55 (.build [.slice none 0 0] [(0,(1,54))]),ef 8 9 (.alloc [.slice none 0 0]),en 9 (.store 1 9 55)]) (.seq (rg [mv 0 56 0,ld 1 57 (some 1) 9,mv 2 58 5,ca 3 59 F.s_l3Start [57,58],pu 4 60 (.build [.pointer none,.pointer none,.int .i64 0] [(0,(1,56)),(1,(1,59))]),ef 5 61 (.box 60),mv 6 10 61]) (.seq (rg [mv 0 62 10,mv 1 63 0,ca 2 64 F.s_l6Rd_pick [63,ci 6],pu 3 65 (.bin .add (ci 1) 64),ca 4 66 F.s_l71Mk_body [62,65,ci 3],fa 5 67 4 6,en 6 (.store 1 67 66)]) (kd28 F))))))))⟩
def ny(F:Ids):aD:=⟨12,[.slot 4],.seq (rg [mv 0 4 (.const (.string (bl [])))]) (.seq (rg [mv 0 5 1,mv 1 6 0,mv 2 7 1,pu 3 8 (.lenSl 7),ca 4 9 F.s_l6Rd_pick [6,8],ia 5 10 1 5 9,ld 6 11 none 10,mv 7 4 11]) .ret)⟩
def nw(F:Ids):aD:=⟨31,[.cell 2 (some 1)],.seq (rg [ef 0 2 (.alloc [.slice none 0 0])]) (.seq (rg [mv 0 5 0,mv 1 6 0,ca 2 7 F.s_l6Rd_pick [6,ci 4],pu 3 8 (.bin .add (ci 1) 7),ca 4 9 F.s_l71Type [5,8],ef 5 3 (.alloc [.slice none 0 0]),en 6 (.store 1 3 9)]) (.seq (.seq (rg [mv 0 10 0,ca 1 11 F.s_l6Rd_pick [10,ci 12]]) (.block 0 (.seq (rg [pu 0 13 (.bin .eql 11 (ci 0)),mv 1 12 13]) (.cond 12 (.seq (rg [mv 0 4 (ci 0)]) (.block 1 (.loop (.seq (.seq (rg [mv 0 14 4,pu 1 15 (.bin .lss 14 (ci 5))]) (.cond 15 .skip (.exit 1))) (.seq (.block 2 (rg [ld 0 18 (some 1) 3,pu 1 19 (.build [.slice none 0 0] []),ef 2 20 (.buildSlice 1 2 [.slice none 0 0] [(0,(1,18)),(1,(1,19))]),pu 3 21 (.build [.slice none 0 0] [(0,(1,20))]),en 4 (.store 1 3 21)])) (rg [mv 0 16 4,pu 1 17 (.bin .add 16 (ci 1)),mv 2 4 17])))))) (.seq (rg [pu 0 23 (.bin .eql 11 (ci 1)),mv 1 22 23]) (.cond 22 (rg [fa 0 24 0 3,ld 1 25 none 24,pu 2 26 (.build [.slice none 0 0] []),⟨3,some 27,none,.lits 1 1 [.slice none 0 0] [(0,(1,26))],[]⟩,ef 4 28 (.appendM 1 24 25 27),fa 5 29 0 3,en 6 (.store 1 29 28)]) .skip)))))) (.seq (rg [ld 0 30 (some 1) 3,en 1 (.store 1 2 30)]) .ret)))⟩
def je(F:Ids):aD:=⟨28,[.slot 2],.seq (rg [mv 0 2 cf]) (.seq (.seq (rg [mv 0 4 0,pu 1 5 (.lenStr 4),pu 2 6 (.bin .lss 5 (ci 1)),mv 3 7 6,gp 4 8 7 false (.move 0),gp 5 9 7 false (.lenStr 8),gp 6 10 7 false (.bin .gtr 9 (ci 6)),pu 7 11 (.pick 7 ct 10)]) (.cond 11 (.seq (rg [mv 0 2 cf]) .ret) .skip)) (.seq (.seq (rg [mv 0 12 0,pu 1 13 (.lenStr 12),mv 2 14 (ci 0)]) (.block 0 (.loop (.seq (rg [pu 0 15 (.bin .lss 14 13)]) (.seq (.cond 15 .skip (.exit 0)) (.seq (.block 1 (.seq (rg [mv 0 16 14,mv 1 3 16]) (.seq (rg [mv 0 17 0,mv 1 18 3,pu 2 19 (.strIndex 17 18),pu 3 20 (.bin .lss 19 (.const (.int .u8 97))),mv 4 21 20,gp 5 22 21 false (.move 0),gp 6 23 21 false (.move 3),gp 7 24 21 false (.strIndex 22 23),gp 8 25 21 false (.bin .gtr 24 (.const (.int .u8 122))),pu 9 26 (.pick 21 ct 25)]) (.cond 26 (.seq (rg [mv 0 2 cf]) .ret) .skip)))) (rg [pu 0 27 (.bin .add 14 (ci 1)),mv 1 14 27]))))))) (.seq (rg [mv 0 2 ct]) .ret)))⟩
def pF(F:Ids):aD:=⟨5,[.slot 2],.seq (rg [ef 0 1 (.box 0),mv 1 2 cf]) (.seq (rg [ld 0 3 (some 1) 1,ca 1 4 F.i_typeFits [3,ci 4],mv 2 2 4]) .ret)⟩
def lT(F:Ids):aD:=⟨132,[.slot 6],.seq (rg [mv 0 6 cf]) (.seq (.seq (rg [mv 0 16 0,pu 1 17 (.lenSl 16),mv 2 18 (ci 0)]) (.block 0 (.loop (.seq (rg [pu 0 19 (.bin .lss 18 17)]) (.seq (.cond 19 .skip (.exit 0)) (.seq (.block 1 (.seq (rg [ia 0 20 15 16 18,ld 1 21 (some 15) 20,ef 2 8 (.alloc [.int .i64 0,.string (bl []),.string (bl []),.slice none 0 0,.string (bl []),.slice none 0 0,.int .i64 0,.int .i64 0,.string (bl []),.slice none 0 0,.slice none 0 0,.string (bl []),.slice none 0 0,.slice none 0 0,.slice none 0 0]),en 3 (.store 15 8 21)]) (.seq (rg [mv 0 22 2,nc 1 23 22,ld 2 24 none 23,pu 3 25 (.bin .sub 24 (ci 1)),nc 4 26 22,en 5 (.store 1 26 25)]) (.seq (.seq (rg [mv 0 27 1,pu 1 28 (.bin .lss 27 (ci 1)),mv 2 29 28,gp 3 30 29 false (.move 2),gp 4 31 29 false (.nilCheck 30),gl 5 32 29 false none 31,gp 6 33 29 false (.bin .lss 32 (ci 0)),pu 7 34 (.pick 29 ct 33)]) (.cond 34 (.seq (rg [mv 0 6 cf]) .ret) .skip)) (.seq (rg [mv 0 9 cf]) (.seq (.seq (rg [ld 0 35 (some 15) 8,ca 1 36 F.i_stmtOf [35]]) (.block 2 (.seq (rg [pu 0 37 (.assertT F.T_i_stmtLet (.aggc [.string (bl []),.int .i64 0,.int .i64 0,.string (bl []),.slice none 0 0,.slice none 0 0]) 36),pu 1 38 (.extract 37 1),pu 2 39 (.extract 37 0)]) (.cond 38 (.seq (rg [ef 0 10 (.alloc [.string (bl []),.int .i64 0,.int .i64 0,.string (bl []),.slice none 0 0,.slice none 0 0]),en 1 (.store 6 10 39)]) (rg [fa 0 40 0 10,ld 1 41 none 40,ca 2 42 F.i_nameForm [41],mv 3 43 42,gp 4 44 43 true (.fieldAddr 1 10),gl 5 45 43 true (some 5) 44,⟨6,some 46,some (43,true),.eff (.call F.i_exprForm [45,ci 4]),[]⟩,pu 7 47 (.pick 43 46 cf),mv 8 9 47])) (.seq (rg [pu 0 48 (.assertT F.T_i_stmtLend (.aggc [.string (bl []),.string (bl []),.slice none 0 0]) 36),pu 1 49 (.extract 48 1),pu 2 50 (.extract 48 0)]) (.cond 49 (.seq (rg [ef 0 11 (.alloc [.string (bl []),.string (bl []),.slice none 0 0]),en 1 (.store 3 11 50)]) (rg [fa 0 51 0 11,ld 1 52 none 51,ca 2 53 F.i_nameForm [52],mv 3 54 53,gp 4 55 54 true (.fieldAddr 1 11),gl 5 56 54 true (some 2) 55,⟨6,some 57,some (54,true),.eff (.call F.i_placeForm [56]),[]⟩,pu 7 58 (.pick 54 57 cf),mv 8 9 58])) (.seq (rg [pu 0 59 (.assertT F.T_i_stmtSet (.aggc [.string (bl []),.slice none 0 0,.int .i64 0,.int .i64 0,.string (bl []),.slice none 0 0,.slice none 0 0]) 36),pu 1 60 (.extract 59 1),pu 2 61 (.extract 59 0)]) (.cond 60 (.seq (rg [ef 0 12 (.alloc [.string (bl []),.slice none 0 0,.int .i64 0,.int .i64 0,.string (bl []),.slice none 0 0,.slice none 0 0]),en 1 (.store 7 12 61)]) (rg [fa 0 62 0 12,ld 1 63 (some 2) 62,ca 2 64 F.i_placeForm [63],mv 3 65 64,gp 4 66 65 true (.fieldAddr 2 12),gl 5 67 65 true (some 5) 66,⟨6,some 68,some (65,true),.eff (.call F.i_exprForm [67,ci 4]),[]⟩,pu 7 69 (.pick 65 68 cf),mv 8 9 69])) (.seq (rg [pu 0 70 (.assertT F.T_i_stmtCall (.aggc [.string (bl []),.string (bl []),.slice none 0 0]) 36),pu 1 71 (.extract 70 1),pu 2 72 (.extract 70 0)]) (.cond 71 (.seq (rg [ef 0 13 (.alloc [.string (bl []),.string (bl []),.slice none 0 0]),en 1 (.store 3 13 72)]) (rg [fa 0 73 0 13,ld 1 74 none 73,ca 2 75 F.i_nameForm [74],mv 3 76 75,gp 4 77 76 true (.fieldAddr 1 13),gl 5 78 76 true none 77,⟨6,some 79,some (76,true),.eff (.call F.i_nameForm [78]),[]⟩,pu 7 80 (.pick 76 79 cf),mv 8 81 80,gp 9 82 81 true (.fieldAddr 2 13),gl 10 83 81 true none 82,⟨11,some 84,some (81,true),.eff (.call F.i_argsForm [83]),[]⟩,pu 12 85 (.pick 81 84 cf),mv 13 9 85])) (.seq (rg [pu 0 86 (.assertT F.T_i_stmtIf (.aggc [.int .i64 0,.int .i64 0,.string (bl []),.slice none 0 0,.slice none 0 0,.slice none 0 0,.slice none 0 0]) 36),pu 1 87 (.extract 86 1),pu 2 88 (.extract 86 0)]) (.cond 87 (.seq (rg [ef 0 14 (.alloc [.int .i64 0,.int .i64 0,.string (bl []),.slice none 0 0,.slice none 0 0,.slice none 0 0,.slice none 0 0]),en 1 (.store 7 14 88)]) (rg [fa 0 89 0 14,ld 1 90 (some 5) 89,ca 2 91 F.i_exprForm [90,ci 4],mv 3 92 91,gp 4 93 92 true (.fieldAddr 5 14),gl 5 94 92 true none 93,gp 6 95 92 true (.move 1),gp 7 96 92 true (.bin .sub 95 (ci 1)),gp 8 97 92 true (.move 2),⟨9,some 98,some (92,true),.eff (.call F.i_stmtsForm [94,96,97]),[]⟩,pu 10 99 (.pick 92 98 cf),mv 11 100 99,gp 12 101 100 true (.fieldAddr 6 14),gl 13 102 100 true none 101,gp 14 103 100 true (.move 1),gp 15 104 100 true (.bin .sub 103 (ci 1)),gp 16 105 100 true (.move 2),⟨17,some 106,some (100,true),.eff (.call F.i_stmtsForm [102,104,105]),[]⟩,pu 18 107 (.pick 100 106 cf),mv 19 9 107])) (.seq (rg [pu 0 108 (.assertT F.T_i_stmtPick (.aggc [.string (bl []),.string (bl []),.slice none 0 0,.string (bl []),.slice none 0 0,.int .i64 0,.int .i64 0,.string (bl []),.slice none 0 0,.slice none 0 0]) 36),pu 1 109 (.extract 108 1),pu 2 110 (.extract 108 0)]) (.cond 109 (.seq (rg [ef 0 15 (.alloc [.string (bl []),.string (bl []),.slice none 0 0,.string (bl []),.slice none 0 0,.int .i64 0,.int .i64 0,.string (bl []),.slice none 0 0,.slice none 0 0]),en 1 (.store 10 15 110)]) (rg [fa 0 111 0 15,ld 1 112 none 111,ca 2 113 F.i_nameForm [112],mv 3 114 113,gp 4 115 114 true (.fieldAddr 1 15),gl 5 116 114 true (some 2) 115,⟨6,some 117,some (114,true),.eff (.call F.i_placeForm [116]),[]⟩,pu 7 118 (.pick 114 117 cf),mv 8 119 118,gp 9 120 119 true (.fieldAddr 3 15),gl 10 121 119 true (some 2) 120,⟨11,some 122,some (119,true),.eff (.call F.i_placeForm [121]),[]⟩,pu 12 123 (.pick 119 122 cf),mv 13 124 123,gp 14 125 124 true (.fieldAddr 5 15),gl 15 126 124 true (some 5) 125,⟨16,some 127,some (124,true),.eff (.call F.i_exprForm [126,ci 4]),[]⟩,pu 17 128 (.pick 124 127 cf),mv 18 9 128])) .skip)))))))))))))) (.seq (rg [mv 0 129 9,pu 1 130 (.not 129)]) (.cond 130 (.seq (rg [mv 0 6 cf]) .ret) .skip)))))))) (rg [pu 0 131 (.bin .add 18 (ci 1)),mv 1 18 131]))))))) (.seq (rg [mv 0 6 ct]) .ret))⟩
def lU(F:Ids):aD:=⟨11,[.slot 2],.seq (rg [ef 0 1 (.box 0),mv 1 2 cf]) (.seq (rg [fa 0 3 0 1,ld 1 4 none 3,ca 2 5 F.i_nameForm [4],mv 3 6 5,gp 4 7 6 true (.fieldAddr 1 1),gl 5 8 6 true none 7,⟨6,some 9,some (6,true),.eff (.call F.i_pathForm [8]),[]⟩,pu 7 10 (.pick 6 9 cf),mv 8 2 10]) .ret)⟩
def jR(F:Ids):aD:=⟨22,[.slot 2],.seq (rg [ef 0 1 (.box 0),mv 1 2 cf]) (.seq (rg [fa 0 3 0 1,ld 1 4 none 3,pu 2 5 (.bin .eql 4 (ci 0)),mv 3 6 5,gp 4 7 6 true (.fieldAddr 1 1),gl 5 8 6 true none 7,gp 6 9 6 true (.bin .eql 8 (ci 0)),pu 7 10 (.pick 6 9 cf),mv 8 11 10,gp 9 12 11 true (.fieldAddr 2 1),gl 10 13 11 true (some 2) 12,⟨11,some 14,some (11,true),.eff (.call F.i_placeNothing [13]),[]⟩,pu 12 15 (.pick 11 14 cf),mv 13 16 15,gp 14 17 16 true (.fieldAddr 4 1),gl 15 18 16 true none 17,gp 16 19 16 true (.lenSl 18),gp 17 20 16 true (.bin .eql 19 (ci 0)),pu 18 21 (.pick 16 20 cf),mv 19 2 21]) .ret)⟩
def jf(F:Ids):aD:=⟨44,[.slot 4],.seq (rg [ef 0 2 (.box 0),mv 1 4 cf]) (.seq (.seq (rg [mv 0 8 1,pu 1 9 (.bin .lss 8 (ci 1))]) (.cond 9 (.seq (rg [mv 0 4 cf]) .ret) .skip)) (.seq (.seq (rg [ld 0 10 (some 5) 2,ca 1 11 F.i_exprOf [10]]) (.block 0 (.seq (rg [pu 0 12 (.assertT F.T_i_exprNum (.aggc [.int .i64 0]) 11),pu 1 13 (.extract 12 1),pu 2 14 (.extract 12 0)]) (.cond 13 (.seq (rg [ef 0 5 (.alloc [.int .i64 0]),en 1 (.store 1 5 14)]) (.seq (rg [fa 0 15 0 5,ld 1 16 none 15,pu 2 17 (.bin .geq 16 (ci 0)),mv 3 18 17,gp 4 19 18 true (.fieldAddr 0 5),gl 5 20 18 true none 19,gp 6 21 18 true (.bin .leq 20 (ci 9999)),pu 7 22 (.pick 18 21 cf),mv 8 4 22]) .ret)) (.seq (rg [pu 0 23 (.assertT F.T_i_exprRead (.aggc [.string (bl []),.slice none 0 0]) 11),pu 1 24 (.extract 23 1),pu 2 25 (.extract 23 0)]) (.cond 24 (.seq (rg [ef 0 6 (.alloc [.string (bl []),.slice none 0 0]),en 1 (.store 2 6 25)]) (.seq (rg [fa 0 26 0 6,ld 1 27 (some 2) 26,ca 2 28 F.i_placeForm [27],mv 3 4 28]) .ret)) (.seq (rg [pu 0 29 (.assertT F.T_i_exprTwo (.aggc [.int .i64 0,.int .i64 0,.int .i64 0,.string (bl []),.slice none 0 0,.slice none 0 0,.int .i64 0,.int .i64 0,.string (bl []),.slice none 0 0,.slice none 0 0]) 11),pu 1 30 (.extract 29 1),pu 2 31 (.extract 29 0)]) (.cond 30 (.seq (rg [ef 0 7 (.alloc [.int .i64 0,.int .i64 0,.int .i64 0,.string (bl []),.slice none 0 0,.slice none 0 0,.int .i64 0,.int .i64 0,.string (bl []),.slice none 0 0,.slice none 0 0]),en 1 (.store 11 7 31)]) (.seq (rg [fa 0 32 1 7,ld 1 33 (some 5) 32,mv 2 34 1,pu 3 35 (.bin .sub 34 (ci 1)),ca 4 36 F.i_exprForm [33,35],mv 5 37 36,gp 6 38 37 true (.fieldAddr 6 7),gl 7 39 37 true (some 5) 38,gp 8 40 37 true (.move 1),gp 9 41 37 true (.bin .sub 40 (ci 1)),⟨10,some 42,some (37,true),.eff (.call F.i_exprForm [39,41]),[]⟩,pu 11 43 (.pick 37 42 cf),mv 12 4 43]) .ret)) .skip)))))))) (.seq (rg [mv 0 4 cf]) .ret)))⟩
def js(F:Ids):aD:=⟨12,[.slot 2],.seq (rg [ef 0 1 (.box 0),mv 1 2 cf]) (.seq (rg [fa 0 3 0 1,ld 1 4 none 3,pu 2 5 (.bin .eql 4 (.const (.string (bl [])))),mv 3 6 5,gp 4 7 6 true (.fieldAddr 1 1),gl 5 8 6 true none 7,gp 6 9 6 true (.lenSl 8),gp 7 10 6 true (.bin .eql 9 (ci 0)),pu 8 11 (.pick 6 10 cf),mv 9 2 11]) .ret)⟩
def lS(F:Ids):aD:=⟨7,[.slot 2],.seq (rg [ef 0 1 (.box 0),mv 1 2 cf]) (.seq (rg [fa 0 3 0 1,ld 1 4 none 3,pu 2 5 (.lenSl 4),pu 3 6 (.bin .eql 5 (ci 0)),mv 4 2 6]) .ret)⟩
def pC(F:Ids):aD:=⟨97,[.slot 2],.seq (rg [ef 0 1 (.box 0),mv 1 2 (.const .nilIface)]) (.seq (rg [ld 0 5 (some 15) 1,ef 1 3 (.alloc [.int .i64 0,.string (bl []),.string (bl []),.slice none 0 0,.string (bl []),.slice none 0 0,.int .i64 0,.int .i64 0,.string (bl []),.slice none 0 0,.slice none 0 0,.string (bl []),.slice none 0 0,.slice none 0 0,.slice none 0 0]),en 2 (.store 15 3 5)]) (.seq (rg [fa 0 6 0 3,en 1 (.store 1 6 (ci 0))]) (.seq (rg [mv 0 4 (.const .nilIface)]) (.seq (.seq (rg [fa 0 7 0 1,ld 1 8 none 7]) (.block 0 (.seq (rg [pu 0 10 (.bin .eql 8 (ci 1)),mv 1 9 10]) (.cond 9 (.seq (rg [fa 0 11 1 1,ld 1 12 none 11,fa 2 13 6 1,ld 3 14 (some 5) 13,pu 4 15 (.build [.string (bl []),.int .i64 0,.int .i64 0,.string (bl []),.slice none 0 0,.slice none 0 0] [(0,(1,12)),(1,(5,14))]),pu 5 16 (.mkIface F.T_i_stmtLet 15),mv 6 4 16]) (rg [pu 0 17 (.build [.int .i64 0,.int .i64 0,.string (bl []),.slice none 0 0,.slice none 0 0] []),fa 1 18 1 3,en 2 (.store 1 18 (.const (.string (bl [])))),fa 3 19 6 3,en 4 (.store 5 19 17)])) (.seq (rg [pu 0 21 (.bin .eql 8 (ci 2)),mv 1 20 21]) (.cond 20 (.seq (rg [fa 0 22 1 1,ld 1 23 none 22,fa 2 24 2 1,ld 3 25 (some 2) 24,pu 4 26 (.build [.string (bl []),.string (bl []),.slice none 0 0] [(0,(1,23)),(1,(2,25))]),pu 5 27 (.mkIface F.T_i_stmtLend 26),mv 6 4 27]) (rg [pu 0 28 (.build [.string (bl []),.slice none 0 0] []),fa 1 29 1 3,en 2 (.store 1 29 (.const (.string (bl [])))),fa 3 30 2 3,en 4 (.store 2 30 28)])) (.seq (rg [pu 0 32 (.bin .eql 8 (ci 3)),mv 1 31 32]) (.cond 31 (.seq (rg [fa 0 33 2 1,ld 1 34 (some 2) 33,fa 2 35 6 1,ld 3 36 (some 5) 35,pu 4 37 (.build [.string (bl []),.slice none 0 0,.int .i64 0,.int .i64 0,.string (bl []),.slice none 0 0,.slice none 0 0] [(0,(2,34)),(2,(5,36))]),pu 5 38 (.mkIface F.T_i_stmtSet 37),mv 6 4 38]) (rg [pu 0 39 (.build [.string (bl []),.slice none 0 0] []),pu 1 40 (.build [.int .i64 0,.int .i64 0,.string (bl []),.slice none 0 0,.slice none 0 0] []),fa 2 41 2 3,en 3 (.store 2 41 39),fa 4 42 6 3,en 5 (.store 5 42 40)])) (.seq (rg [pu 0 44 (.bin .eql 8 (ci 4)),mv 1 43 44]) (.cond 43 (.seq (rg [fa 0 45 1 1,ld 1 46 none 45,fa 2 47 11 1,ld 3 48 none 47,fa 4 49 12 1,ld 5 50 none 49,pu 6 51 (.build [.string (bl []),.string (bl []),.slice none 0 0] [(0,(1,46)),(1,(1,48)),(2,(1,50))]),pu 7 52 (.mkIface F.T_i_stmtCall 51),mv 8 4 52]) (rg [fa 0 53 1 3,en 1 (.store 1 53 (.const (.string (bl [])))),fa 2 54 11 3,en 3 (.store 1 54 (.const (.string (bl [])))),fa 4 55 12 3,en 5 (.store 1 55 (.const (.slice none 0 0)))])) (.seq (rg [pu 0 57 (.bin .eql 8 (ci 5)),mv 1 56 57]) (.cond 56 (.seq (rg [fa 0 58 6 1,ld 1 59 (some 5) 58,fa 2 60 13 1,ld 3 61 none 60,fa 4 62 14 1,ld 5 63 none 62,pu 6 64 (.build [.int .i64 0,.int .i64 0,.string (bl []),.slice none 0 0,.slice none 0 0,.slice none 0 0,.slice none 0 0] [(0,(5,59)),(5,(1,61)),(6,(1,63))]),pu 7 65 (.mkIface F.T_i_stmtIf 64),mv 8 4 65]) (rg [pu 0 66 (.build [.int .i64 0,.int .i64 0,.string (bl []),.slice none 0 0,.slice none 0 0] []),fa 1 67 6 3,en 2 (.store 5 67 66),fa 3 68 13 3,en 4 (.store 1 68 (.const (.slice none 0 0))),fa 5 69 14 3,en 6 (.store 1 69 (.const (.slice none 0 0)))])) (.seq (rg [pu 0 71 (.bin .eql 8 (ci 6)),mv 1 70 71]) (.cond 70 (.seq (rg [fa 0 72 1 1,ld 1 73 none 72,fa 2 74 2 1,ld 3 75 (some 2) 74,fa 4 76 4 1,ld 5 77 (some 2) 76,fa 6 78 6 1,ld 7 79 (some 5) 78,pu 8 80 (.build [.string (bl []),.string (bl []),.slice none 0 0,.string (bl []),.slice none 0 0,.int .i64 0,.int .i64 0,.string (bl []),.slice none 0 0,.slice none 0 0] [(0,(1,73)),(1,(2,75)),(3,(2,77)),(5,(5,79))]),pu 9 81 (.mkIface F.T_i_stmtPick 80),mv 10 4 81]) (rg [pu 0 82 (.build [.string (bl []),.slice none 0 0] []),pu 1 83 (.build [.string (bl []),.slice none 0 0] []),pu 2 84 (.build [.int .i64 0,.int .i64 0,.string (bl []),.slice none 0 0,.slice none 0 0] []),fa 3 85 1 3,en 4 (.store 1 85 (.const (.string (bl [])))),fa 5 86 2 3,en 6 (.store 2 86 82),fa 7 87 4 3,en 8 (.store 2 87 83),fa 9 88 6 3,en 10 (.store 5 88 84)])) .skip)))))))))))))) (.seq (.seq (rg [mv 0 89 4,pu 1 90 (.isNil false 89),mv 2 91 90,gl 3 92 91 false (some 15) 3,⟨4,some 93,some (91,false),.eff (.call F.i_stmtNothing [92]),[]⟩,gp 5 94 91 false (.not 93),pu 6 95 (.pick 91 ct 94)]) (.cond 95 (.seq (rg [mv 0 2 (.const .nilIface)]) .ret) .skip)) (.seq (rg [mv 0 96 4,mv 1 2 96]) .ret))))))⟩
def pE(F:Ids):aD:=⟨54,[.slot 2],.seq (rg [ef 0 1 (.box 0),mv 1 2 (.const .nilIface)]) (.seq (rg [ld 0 5 (some 5) 1,ef 1 3 (.alloc [.int .i64 0,.int .i64 0,.string (bl []),.slice none 0 0,.slice none 0 0]),en 2 (.store 5 3 5)]) (.seq (rg [fa 0 6 0 3,en 1 (.store 1 6 (ci 0))]) (.seq (rg [mv 0 4 (.const .nilIface)]) (.seq (.seq (rg [fa 0 7 0 1,ld 1 8 none 7]) (.block 0 (.seq (rg [pu 0 10 (.bin .eql 8 (ci 1)),mv 1 9 10]) (.cond 9 (.seq (rg [fa 0 11 1 1,ld 1 12 none 11,pu 2 13 (.build [.int .i64 0] [(0,(1,12))]),pu 3 14 (.mkIface F.T_i_exprNum 13),mv 4 4 14]) (rg [fa 0 15 1 3,en 1 (.store 1 15 (ci 0))])) (.seq (rg [pu 0 17 (.bin .eql 8 (ci 2)),mv 1 16 17]) (.cond 16 (.seq (rg [fa 0 18 2 1,ld 1 19 (some 2) 18,pu 2 20 (.build [.string (bl []),.slice none 0 0] [(0,(2,19))]),pu 3 21 (.mkIface F.T_i_exprRead 20),mv 4 4 21]) (rg [pu 0 22 (.build [.string (bl []),.slice none 0 0] []),fa 1 23 2 3,en 2 (.store 2 23 22)])) (.seq (.seq (rg [pu 0 25 (.bin .eql 8 (ci 3)),mv 1 24 25]) (.cond 24 .skip (.seq (rg [pu 0 26 (.bin .eql 8 (ci 4)),mv 1 24 26]) (.cond 24 .skip (.seq (rg [pu 0 27 (.bin .eql 8 (ci 5)),mv 1 24 27]) (.cond 24 .skip (rg [pu 0 28 (.bin .eql 8 (ci 6)),mv 1 24 28]))))))) (.cond 24 (.seq (.seq (rg [fa 0 29 4 1,ld 1 30 none 29,pu 2 31 (.lenSl 30),pu 3 32 (.bin .neq 31 (ci 2))]) (.cond 32 (.seq (rg [mv 0 2 (.const .nilIface)]) .ret) .skip)) (.seq (.region true [fa 0 33 0 1,ld 1 34 none 33,fa 2 35 4 1,ld 3 36 none 35,pu 4 37 (.indexAddr 5 36 (ci 0)),ld 5 38 (some 5) 37,fa 6 39 4 1,ld 7 40 none 39,pu 8 41 (.indexAddr 5 40 (ci 1)),ld 9 42 (some 5) 41,pu 10 43 (.build [.int .i64 0,.int .i64 0,.int .i64 0,.string (bl []),.slice none 0 0,.slice none 0 0,.int .i64 0,.int .i64 0,.string (bl []),.slice none 0 0,.slice none 0 0] [(0,(1,34)),(1,(5,38)),(6,(5,42))]),pu 11 44 (.mkIface F.T_i_exprTwo 43),mv 12 4 44]) (rg [fa 0 45 4 3,en 1 (.store 1 45 (.const (.slice none 0 0)))]))) .skip)))))))) (.seq (.seq (rg [mv 0 46 4,pu 1 47 (.isNil false 46),mv 2 48 47,gl 3 49 48 false (some 5) 3,⟨4,some 50,some (48,false),.eff (.call F.i_exprNothing [49]),[]⟩,gp 5 51 48 false (.not 50),pu 6 52 (.pick 48 ct 51)]) (.cond 52 (.seq (rg [mv 0 2 (.const .nilIface)]) .ret) .skip)) (.seq (rg [mv 0 53 4,mv 1 2 53]) .ret))))))⟩
def kT(F:Ids):aD:=⟨28,[.slot 2],.seq (rg [mv 0 2 cf]) (.seq (.seq (rg [mv 0 4 0,pu 1 5 (.lenStr 4),pu 2 6 (.bin .lss 5 (ci 1)),mv 3 7 6,gp 4 8 7 false (.move 0),gp 5 9 7 false (.lenStr 8),gp 6 10 7 false (.bin .gtr 9 (ci 6)),pu 7 11 (.pick 7 ct 10)]) (.cond 11 (.seq (rg [mv 0 2 cf]) .ret) .skip)) (.seq (.seq (rg [mv 0 3 (ci 0)]) (.block 0 (.loop (.seq (.seq (rg [mv 0 12 3,mv 1 13 0,pu 2 14 (.lenStr 13),pu 3 15 (.bin .lss 12 14)]) (.cond 15 .skip (.exit 0))) (.seq (.block 1 (.seq (rg [mv 0 18 0,mv 1 19 3,pu 2 20 (.strIndex 18 19),pu 3 21 (.bin .lss 20 (.const (.int .u8 97))),mv 4 22 21,gp 5 23 22 false (.move 0),gp 6 24 22 false (.move 3),gp 7 25 22 false (.strIndex 23 24),gp 8 26 22 false (.bin .gtr 25 (.const (.int .u8 122))),pu 9 27 (.pick 22 ct 26)]) (.cond 27 (.seq (rg [mv 0 2 cf]) .ret) .skip))) (rg [mv 0 16 3,pu 1 17 (.bin .add 16 (ci 1)),mv 2 3 17])))))) (.seq (rg [mv 0 2 ct]) .ret)))⟩
def po(F:Ids):aD:=⟨5,[.slot 2],.seq (rg [ef 0 1 (.box 0),mv 1 2 cf]) (.seq (rg [ld 0 3 (some 1) 1,ca 1 4 F.s_l1Deep [3,ci 4],mv 2 2 4]) .ret)⟩
def kV(F:Ids):aD:=⟨26,[.slot 4],.seq (rg [mv 0 4 cf]) (.seq (.seq (rg [mv 0 6 1,pu 1 7 (.bin .lss 6 (ci 1)),mv 2 8 7,gp 3 9 8 false (.move 0),gp 4 10 8 false (.lenSl 9),gp 5 11 8 false (.bin .gtr 10 (ci 40)),pu 6 12 (.pick 8 ct 11)]) (.cond 12 (.seq (rg [mv 0 4 cf]) .ret) .skip)) (.seq (.seq (rg [mv 0 5 (ci 0)]) (.block 0 (.loop (.seq (.seq (rg [mv 0 13 5,mv 1 14 0,pu 2 15 (.lenSl 14),pu 3 16 (.bin .lss 13 15)]) (.cond 16 .skip (.exit 0))) (.seq (.block 1 (.seq (rg [mv 0 19 0,mv 1 20 5,ia 2 21 15 19 20,ld 3 22 (some 15) 21,mv 4 23 1,ca 5 24 F.s_l2Stmt [22,23],pu 6 25 (.not 24)]) (.cond 25 (.seq (rg [mv 0 4 cf]) .ret) .skip))) (rg [mv 0 17 5,pu 1 18 (.bin .add 17 (ci 1)),mv 2 5 18])))))) (.seq (rg [mv 0 4 ct]) .ret)))⟩
def jD(F:Ids):aD:=⟨29,[.slot 2],.seq (rg [mv 0 2 (ci 0)]) (.seq (rg [mv 0 5 0,pu 1 6 (.lenSl 5),mv 2 3 6]) (.seq (.seq (rg [mv 0 4 (ci 0)]) (.block 0 (.loop (.seq (.seq (rg [mv 0 7 4,mv 1 8 0,pu 2 9 (.lenSl 8),pu 3 10 (.bin .lss 7 9)]) (.cond 10 .skip (.exit 0))) (.seq (.block 1 (.region true [mv 0 13 3,mv 1 14 0,mv 2 15 4,ia 3 16 15 14 15,fa 4 17 13 16,ld 5 18 none 17,⟨6,some 19,none,.eff (.call F.s_l2Count [18]),[12]⟩,pu 7 20 (.bin .add 13 19),mv 8 21 0,mv 9 22 4,ia 10 23 15 21 22,fa 11 24 14 23,⟨12,some 25,none,.load (.load none 24),[6]⟩,ca 13 26 F.s_l2Count [25],pu 14 27 (.bin .add 20 26),mv 15 3 27])) (rg [mv 0 11 4,pu 1 12 (.bin .add 11 (ci 1)),mv 2 4 12])))))) (.seq (rg [mv 0 28 3,mv 1 2 28]) .ret)))⟩
def nB(F:Ids):aD:=⟨28,[.slot 2],.seq (rg [ef 0 1 (.box 0),mv 1 2 cf]) (.seq (.seq (rg [fa 0 4 0 1,ld 1 5 none 4,ca 2 6 F.s_l2Name [5],pu 3 7 (.not 6),mv 4 8 7,gp 5 9 8 false (.fieldAddr 1 1),gl 6 10 8 false none 9,gp 7 11 8 false (.lenSl 10),gp 8 12 8 false (.bin .gtr 11 (ci 4)),pu 9 13 (.pick 8 ct 12)]) (.cond 13 (.seq (rg [mv 0 2 cf]) .ret) .skip)) (.seq (.seq (rg [mv 0 3 (ci 0)]) (.block 0 (.loop (.seq (.seq (rg [mv 0 14 3,fa 1 15 1 1,ld 2 16 none 15,pu 3 17 (.lenSl 16),pu 4 18 (.bin .lss 14 17)]) (.cond 18 .skip (.exit 0))) (.seq (.block 1 (.seq (rg [fa 0 21 1 1,ld 1 22 none 21,mv 2 23 3,ia 3 24 1 22 23,ld 4 25 none 24,ca 5 26 F.s_l6In [25,ci 0,ci 1],pu 6 27 (.not 26)]) (.cond 27 (.seq (rg [mv 0 2 cf]) .ret) .skip))) (rg [mv 0 19 3,pu 1 20 (.bin .add 19 (ci 1)),mv 2 3 20])))))) (.seq (rg [mv 0 2 ct]) .ret)))⟩
def my(F:Ids):aD:=⟨22,[.slot 2],.seq (rg [ef 0 1 (.box 0),mv 1 2 cf]) (.seq (rg [fa 0 3 0 1,ld 1 4 none 3,pu 2 5 (.bin .eql 4 (ci 0)),mv 3 6 5,gp 4 7 6 true (.fieldAddr 1 1),gl 5 8 6 true none 7,gp 6 9 6 true (.bin .eql 8 (ci 0)),pu 7 10 (.pick 6 9 cf),mv 8 11 10,gp 9 12 11 true (.fieldAddr 2 1),gl 10 13 11 true (some 2) 12,⟨11,some 14,some (11,true),.eff (.call F.s_l2None [13]),[]⟩,pu 12 15 (.pick 11 14 cf),mv 13 16 15,gp 14 17 16 true (.fieldAddr 4 1),gl 15 18 16 true none 17,gp 16 19 16 true (.lenSl 18),gp 17 20 16 true (.bin .eql 19 (ci 0)),pu 18 21 (.pick 16 20 cf),mv 19 2 21]) .ret)⟩
def pf(F:Ids):aD:=⟨12,[.slot 2],.seq (rg [ef 0 1 (.box 0),mv 1 2 cf]) (.seq (rg [fa 0 3 0 1,ld 1 4 none 3,pu 2 5 (.bin .eql 4 (.const (.string (bl [])))),mv 3 6 5,gp 4 7 6 true (.fieldAddr 1 1),gl 5 8 6 true none 7,gp 6 9 6 true (.lenSl 8),gp 7 10 6 true (.bin .eql 9 (ci 0)),pu 8 11 (.pick 6 10 cf),mv 9 2 11]) .ret)⟩
def kU(F:Ids):aD:=⟨84,[.slot 4],.seq (rg [ef 0 2 (.box 0),mv 1 4 cf]) (.seq (.seq (rg [mv 0 6 1,pu 1 7 (.bin .lss 6 (ci 1)),mv 2 8 7,gp 3 9 8 false (.fieldAddr 0 2),gl 4 10 8 false none 9,gp 5 11 8 false (.bin .neq 10 (ci 1)),gp 6 12 8 false (.move 11),gp 7 13 12 true (.fieldAddr 1 2),gl 8 14 12 true none 13,gp 9 15 12 true (.bin .neq 14 (ci 0)),gp 10 16 8 false (.pick 12 15 cf),pu 11 17 (.pick 8 ct 16),mv 12 18 17,gp 13 19 18 false (.fieldAddr 0 2),gl 14 20 18 false none 19,gp 15 21 18 false (.bin .neq 20 (ci 2)),gp 16 22 18 false (.move 21),gp 17 23 22 true (.fieldAddr 2 2),gl 18 24 22 true (some 2) 23,⟨19,some 25,some (22,true),.eff (.call F.s_l2None [24]),[]⟩,gp 20 26 22 true (.not 25),gp 21 27 18 false (.pick 22 26 cf),pu 22 28 (.pick 18 ct 27),mv 23 29 28,gp 24 30 29 false (.fieldAddr 4 2),gl 25 31 29 false none 30,gp 26 32 29 false (.lenSl 31),gp 27 33 29 false (.bin .gtr 32 (ci 2)),pu 28 34 (.pick 29 ct 33)]) (.cond 34 (.seq (rg [mv 0 4 cf]) .ret) .skip)) (kd5 F))⟩
def gZ(F:Ids):aD:=⟨23,[.cell 4 (some 1)],.seq (rg [ef 0 4 (.alloc [.slice none 0 0])]) (.seq (.seq (rg [mv 0 5 1,pu 1 6 (.bin .lss 5 (ci 2)),mv 2 7 6,gp 3 8 7 false (.move 0),⟨4,some 9,some (7,false),.eff (.call F.s_l6Rd_pick [8,ci 3]),[]⟩,gp 5 10 7 false (.bin .gtr 9 (ci 0)),pu 6 11 (.pick 7 ct 10)]) (.cond 11 (.seq (rg [pu 0 12 (.build [.slice none 0 0] []),en 1 (.store 1 4 12)]) .ret) .skip)) (.seq (rg [mv 0 13 0,mv 1 14 1,pu 2 15 (.bin .sub 14 (ci 1)),ca 3 16 F.s_l71Type [13,15],mv 4 17 0,mv 5 18 1,pu 6 19 (.bin .sub 18 (ci 1)),ca 7 20 F.s_l71Type [17,19],ef 8 21 (.buildSlice 1 2 [.slice none 0 0] [(0,(1,16)),(1,(1,20))]),pu 9 22 (.build [.slice none 0 0] [(0,(1,21))]),en 10 (.store 1 4 22)]) .ret))⟩
def nz(F:Ids):aD:=⟨42,[.slot 4],.seq (rg [ef 0 2 (.box 0),mv 1 4 (.const (.pointer none))]) (.seq (rg [ld 0 8 (some 1) 2,mv 1 9 1,pu 2 10 (.build [.slice none 0 0,.int .i64 0,.slice none 0 0,.slice none 0 0,.int .i64 0] [(0,(1,8)),(1,(1,9))]),ef 3 11 (.box 10),mv 4 5 11]) (.seq (.seq (rg [mv 0 6 (ci 0)]) (.block 0 (.loop (.seq (.seq (rg [mv 0 12 6,fa 1 13 0 2,ld 2 14 none 13,mv 3 15 1,ia 4 16 12 14 15,fa 5 17 1 16,ld 6 18 none 17,pu 7 19 (.lenSl 18),pu 8 20 (.bin .lss 12 19)]) (.cond 20 .skip (.exit 0))) (.seq (.block 1 (.seq (rg [fa 0 23 0 2,ld 1 24 none 23,mv 2 25 1,ia 3 26 12 24 25,fa 4 27 1 26,ld 5 28 none 27,mv 6 29 6,ia 7 30 3 28 29,ld 8 31 (some 3) 30,ef 9 7 (.alloc [.string (bl []),.bool false,.slice none 0 0]),en 10 (.store 3 7 31)]) (rg [mv 0 32 5,fa 1 33 0 7,ld 2 34 none 33,fa 3 35 1 7,ld 4 36 none 35,fa 5 37 2 7,ld 6 38 (some 1) 37,pu 7 39 (.build [.string (bl []),.bool false,.bool false,.slice none 0 0,.slice none 0 0,.bool false] [(0,(1,34)),(1,(1,36)),(2,(1,ct)),(3,(1,38))]),ca 8 40 F.s_l3Env_add [32,39]]))) (rg [mv 0 21 6,pu 1 22 (.bin .add 21 (ci 1)),mv 2 6 22])))))) (.seq (rg [mv 0 41 5,mv 1 4 41]) .ret)))⟩
def kF(F:Ids):aD:=⟨53,[.slot 6],.seq (rg [mv 0 6 (.const (.slice none 0 0))]) (.seq (rg [ef 0 11 (.buildSlice 15 0 [.int .i64 0,.string (bl []),.string (bl []),.slice none 0 0,.string (bl []),.slice none 0 0,.int .i64 0,.int .i64 0,.string (bl []),.slice none 0 0,.slice none 0 0,.string (bl []),.slice none 0 0,.slice none 0 0,.slice none 0 0] []),mv 1 7 11]) (.seq (.seq (rg [mv 0 8 (ci 0)]) (.block 0 (.loop (.seq (.seq (rg [mv 0 12 8,mv 1 13 1,pu 2 14 (.bin .mul (ci 3) 13),pu 3 15 (.bin .lss 12 14),mv 4 16 15,gp 5 17 16 true (.move 7),gp 6 18 16 true (.lenSl 17),gp 7 19 16 true (.move 1),gp 8 20 16 true (.bin .lss 18 19),pu 9 21 (.pick 16 20 cf)]) (.cond 21 .skip (.exit 0))) (.seq (.block 1 (.seq (rg [mv 0 24 0,mv 1 25 2,ca 2 26 F.s_l71Mk_stmt [24,25],ef 3 9 (.alloc [.int .i64 0,.string (bl []),.string (bl []),.slice none 0 0,.string (bl []),.slice none 0 0,.int .i64 0,.int .i64 0,.string (bl []),.slice none 0 0,.slice none 0 0,.string (bl []),.slice none 0 0,.slice none 0 0,.slice none 0 0]),en 4 (.store 15 9 26)]) (.seq (.seq (rg [ld 0 27 (some 15) 9,mv 1 28 2,ca 2 29 F.s_l2Stmt [27,28],pu 3 30 (.not 29)]) (.cond 30 (.exit 1) .skip)) (.seq (rg [mv 0 31 0,nc 1 32 31,fa 2 33 1 32,ld 3 34 none 33,ca 4 35 F.s_l3Env_copy [34],mv 5 10 35]) (.seq (rg [mv 0 36 10,ld 1 37 (some 15) 9,ca 2 38 F.s_l3Env_stmt [36,37]]) (.seq (rg [mv 0 39 10,nc 1 40 39,fa 2 41 4 40,ld 3 42 none 41,pu 4 43 (.bin .eql 42 (ci 0))]) (.cond 43 (.seq (rg [mv 0 44 0,mv 1 45 10,nc 2 46 44,fa 3 47 1 46,en 4 (.store 1 47 45)]) (rg [mv 0 48 7,ld 1 49 (some 15) 9,⟨2,some 50,none,.lits 15 1 [.int .i64 0,.string (bl []),.string (bl []),.slice none 0 0,.string (bl []),.slice none 0 0,.int .i64 0,.int .i64 0,.string (bl []),.slice none 0 0,.slice none 0 0,.string (bl []),.slice none 0 0,.slice none 0 0,.slice none 0 0] [(0,(15,49))],[]⟩,ef 3 51 (.appendM 15 272 48 50),mv 4 7 51])) .skip))))))) (rg [mv 0 22 8,pu 1 23 (.bin .add 22 (ci 1)),mv 2 8 23])))))) (.seq (rg [mv 0 52 7,mv 1 6 52]) .ret)))⟩
def jP(F:Ids):aD:=⟨98,[.cell 2 (some 2),.cell 3 (some 1)],.seq (rg [ef 0 2 (.alloc [.string (bl []),.slice none 0 0]),ef 1 3 (.alloc [.slice none 0 0])]) (.seq (rg [ef 0 9 (.buildSlice 1 0 [.int .i64 0] []),mv 1 4 9]) (.seq (.seq (rg [mv 0 5 (ci 0)]) (.block 0 (.loop (.seq (.seq (rg [mv 0 10 5,mv 1 11 0,nc 2 12 11,fa 3 13 1 12,ld 4 14 none 13,nc 5 15 14,fa 6 16 2 15,ld 7 17 none 16,pu 8 18 (.lenSl 17),pu 9 19 (.bin .lss 10 18)]) (.cond 19 .skip (.exit 0))) (.seq (.block 1 (.seq (rg [mv 0 22 0,nc 1 23 22,fa 2 24 1 23,ld 3 25 none 24,nc 4 26 25,fa 5 27 2 26,ld 6 28 none 27,mv 7 29 5,ia 8 30 6 28 29,fa 9 31 5 30,ld 10 32 none 31,pu 11 33 (.not 32)]) (.cond 33 (rg [mv 0 34 4,mv 1 35 5,⟨2,some 36,none,.lits 1 1 [.int .i64 0] [(0,(1,35))],[]⟩,ef 3 37 (.appendM 1 8 34 36),mv 4 4 37]) .skip))) (rg [mv 0 20 5,pu 1 21 (.bin .add 20 (ci 1)),mv 2 5 21])))))) (kd12 F)))⟩
def kP(F:Ids):aD:=⟨29,[.slot 2],.seq (rg [mv 0 2 (.const (.pointer none))]) (.seq (.region true [mv 0 3 0,nc 1 4 3,fa 2 5 0 4,⟨3,some 6,none,.load (.load (some 1) 5),[13,19]⟩,mv 4 7 0,nc 5 8 7,fa 6 9 1 8,⟨7,some 10,none,.load (.load none 9),[13,19]⟩,ef 8 11 (.buildSlice 6 0 [.string (bl []),.bool false,.bool false,.slice none 0 0,.slice none 0 0,.bool false] []),mv 9 12 0,nc 10 13 12,fa 11 14 2 13,ld 12 15 none 14,⟨13,some 16,none,.eff (.appendM 6 80 11 15),[3,7,18,23]⟩,ef 14 17 (.buildSlice 1 0 [.string (bl [])] []),mv 15 18 0,nc 16 19 18,fa 17 20 3 19,⟨18,some 21,none,.load (.load none 20),[13]⟩,⟨19,some 22,none,.eff (.appendM 1 16 17 21),[3,7,23]⟩,mv 20 23 0,nc 21 24 23,fa 22 25 4 24,⟨23,some 26,none,.load (.load none 25),[13,19]⟩,pu 24 27 (.build [.slice none 0 0,.int .i64 0,.slice none 0 0,.slice none 0 0,.int .i64 0] [(0,(1,6)),(1,(1,10)),(2,(1,16)),(3,(1,22)),(4,(1,26))]),ef 25 28 (.box 27),mv 26 2 28]) .ret)⟩
def lO(F:Ids):aD:=⟨67,[.cell 4 (some 1)],.seq (rg [ef 0 3 (.box 1),ef 1 4 (.alloc [.slice none 0 0])]) (.seq (rg [mv 0 10 0,fa 1 11 0 3,ld 2 12 none 11,ca 3 13 F.s_l3Env_find [10,12],mv 4 5 13]) (.seq (.seq (rg [mv 0 14 5,pu 1 15 (.bin .lss 14 (ci 0))]) (.cond 15 (.seq (rg [mv 0 16 0,ca 1 17 F.s_l3Env_fail [16,ci 2]]) (.seq (rg [pu 0 18 (.build [.slice none 0 0] []),en 1 (.store 1 4 18)]) .ret)) .skip)) (.seq (.seq (rg [mv 0 19 0,nc 1 20 19,fa 2 21 2 20,ld 3 22 none 21,mv 4 23 5,ia 5 24 6 22 23,fa 6 25 5 24,ld 7 26 none 25]) (.cond 26 (rg [mv 0 27 0,ca 1 28 F.s_l3Env_fail [27,ci 4]]) .skip)) (.seq (.region true [mv 0 30 0,nc 1 31 30,fa 2 32 2 31,ld 3 33 none 32,mv 4 34 5,ia 5 35 6 33 34,fa 6 36 3 35,ld 7 37 (some 1) 36,fa 8 38 1 3,ld 9 39 none 38,ca 10 40 F.s_TypeAt [37,39],mv 11 29 40,pu 12 41 (.extract 29 0),pu 13 42 (.extract 29 1),ef 14 6 (.alloc [.slice none 0 0]),en 15 (.store 1 6 41),mv 16 7 42]) (.seq (.seq (rg [mv 0 43 7,pu 1 44 (.not 43)]) (.cond 44 (rg [mv 0 45 0,ca 1 46 F.s_l3Env_fail [45,ci 3]]) .skip)) (kd1 F))))))⟩
def fA(F:Ids):aD:=⟨59,[.slot 4],.seq (rg [ef 0 3 (.box 1),mv 1 4 cf]) (.seq (rg [mv 0 7 0,fa 1 8 0 3,ld 2 9 none 8,ca 3 10 F.s_l3Env_find [7,9],mv 4 5 10]) (.seq (.seq (rg [mv 0 11 5,pu 1 12 (.bin .lss 11 (ci 0)),mv 2 13 12,gp 3 14 13 false (.move 0),gp 4 15 13 false (.nilCheck 14),gp 5 16 13 false (.fieldAddr 2 15),gl 6 17 13 false none 16,gp 7 18 13 false (.move 5),gp 8 19 13 false (.indexAddr 6 17 18),gp 9 20 13 false (.fieldAddr 1 19),gl 10 21 13 false none 20,gp 11 22 13 false (.not 21),pu 12 23 (.pick 13 ct 22)]) (.cond 23 (.seq (rg [mv 0 4 cf]) .ret) .skip)) (.seq (.seq (rg [mv 0 24 0,nc 1 25 24,fa 2 26 2 25,ld 3 27 none 26,mv 4 28 5,ia 5 29 6 27 28,fa 6 30 2 29,ld 7 31 none 30]) (.cond 31 (.seq (rg [mv 0 4 ct]) .ret) .skip)) (.seq (.seq (rg [mv 0 6 (ci 0)]) (.block 0 (.loop (.seq (.seq (rg [mv 0 32 6,mv 1 33 0,nc 2 34 33,fa 3 35 2 34,ld 4 36 none 35,mv 5 37 5,ia 6 38 6 36 37,fa 7 39 4 38,ld 8 40 none 39,pu 9 41 (.lenSl 40),pu 10 42 (.bin .lss 32 41)]) (.cond 42 .skip (.exit 0))) (.seq (.block 1 (.seq (rg [mv 0 45 0,mv 1 46 0,nc 2 47 46,fa 3 48 2 47,ld 4 49 none 48,mv 5 50 5,ia 6 51 6 49 50,fa 7 52 4 51,ld 8 53 none 52,mv 9 54 6,ia 10 55 2 53 54,ld 11 56 (some 2) 55,ca 12 57 F.s_l3Env_outside [45,56],pu 13 58 (.not 57)]) (.cond 58 (.seq (rg [mv 0 4 cf]) .ret) .skip))) (rg [mv 0 43 6,pu 1 44 (.bin .add 43 (ci 1)),mv 2 6 44])))))) (.seq (rg [mv 0 4 ct]) .ret)))))⟩
def kD(F:Ids):aD:=⟨123,[.cell 6 (some 5)],.seq (rg [ef 0 4 (.box 1),ef 1 6 (.alloc [.int .i64 0,.int .i64 0,.string (bl []),.slice none 0 0,.slice none 0 0])]) (.seq (.seq (rg [fa 0 15 0 4,ld 1 16 none 15,pu 2 17 (.lenSl 16),pu 3 18 (.bin .eql 17 (ci 2))]) (.cond 18 (.seq (.seq (rg [mv 0 7 (ci 0)]) (.block 0 (.loop (.seq (.seq (rg [mv 0 19 7,pu 1 20 (.bin .lss 19 (ci 3))]) (.cond 20 .skip (.exit 0))) (.seq (.block 1 (.seq (rg [mv 0 24 0,ca 1 25 F.s_l71Mk_place [24],mv 2 23 25,pu 3 26 (.extract 23 0),pu 4 27 (.extract 23 1),ef 5 8 (.alloc [.string (bl []),.slice none 0 0]),ef 6 9 (.alloc [.slice none 0 0]),en 7 (.store 2 8 26),en 8 (.store 1 9 27)]) (.seq (rg [ld 0 28 (some 1) 9,ld 1 29 (some 1) 4,ca 2 30 F.s_l1Same [28,29]]) (.cond 30 (.seq (rg [ld 0 31 (some 2) 8,pu 1 32 (.build [.int .i64 0,.int .i64 0,.string (bl []),.slice none 0 0,.slice none 0 0] [(0,(1,ci 2)),(2,(2,31))]),en 2 (.store 5 6 32)]) .ret) .skip)))) (rg [mv 0 21 7,pu 1 22 (.bin .add 21 (ci 1)),mv 2 7 22])))))) (kd18 F)) .skip)) (kd17 F))⟩
def kI(F:Ids):aD:=⟨12,[],.seq (rg [ef 0 4 (.box 1),ef 1 5 (.box 2)]) (.seq (rg [ld 0 6 (some 1) 4,ld 1 7 (some 1) 5,ca 2 8 F.s_l1Same [6,7],pu 3 9 (.not 8)]) (.cond 9 (rg [mv 0 10 0,ca 1 11 F.s_l3Env_fail [10,ci 3]]) .skip))⟩
def kN(F:Ids):aD:=⟨52,[.cell 4 (some 1)],.seq (rg [ef 0 3 (.box 1),ef 1 4 (.alloc [.slice none 0 0])]) (.seq (.seq (rg [fa 0 8 0 3,ld 1 9 none 8]) (.block 0 (.seq (rg [pu 0 11 (.bin .eql 9 (ci 1)),mv 1 10 11]) (.cond 10 (.seq (rg [pu 0 12 (.build [.slice none 0 0] []),en 1 (.store 1 4 12)]) .ret) (.seq (rg [pu 0 14 (.bin .eql 9 (ci 2)),mv 1 13 14]) (.cond 13 (.seq (rg [mv 0 15 0,fa 1 16 2 3,ld 2 17 (some 2) 16,ca 3 18 F.s_l3Env_use [15,17],en 4 (.store 1 4 18)]) .ret) .skip)))))) (.seq (rg [mv 0 19 0,fa 1 20 4 3,ld 2 21 none 20,pu 3 22 (.indexAddr 5 21 (ci 0)),ld 4 23 (some 5) 22,ca 5 24 F.s_l3Env_expr [19,23],ef 6 5 (.alloc [.slice none 0 0]),en 7 (.store 1 5 24)]) (.seq (rg [mv 0 25 0,fa 1 26 4 3,ld 2 27 none 26,pu 3 28 (.indexAddr 5 27 (ci 1)),ld 4 29 (some 5) 28,ca 5 30 F.s_l3Env_expr [25,29],ef 6 6 (.alloc [.slice none 0 0]),en 7 (.store 1 6 30)]) (.seq (.seq (rg [fa 0 31 0 3,ld 1 32 none 31,pu 2 33 (.bin .eql 32 (ci 6))]) (.cond 33 (.seq (rg [ld 0 34 (some 1) 5,ld 1 35 (some 1) 6,ef 2 36 (.buildSlice 1 2 [.slice none 0 0] [(0,(1,34)),(1,(1,35))]),pu 3 37 (.build [.slice none 0 0] [(0,(1,36))]),ef 4 7 (.alloc [.slice none 0 0]),en 5 (.store 1 7 37)]) (.seq (.seq (rg [ld 0 38 (some 1) 7,ca 1 39 F.s_TypeOk [38],pu 2 40 (.not 39)]) (.cond 40 (.seq (rg [mv 0 41 0,ca 1 42 F.s_l3Env_fail [41,ci 3]]) (.seq (rg [pu 0 43 (.build [.slice none 0 0] []),en 1 (.store 1 4 43)]) .ret)) .skip)) (.seq (rg [ld 0 44 (some 1) 7,en 1 (.store 1 4 44)]) .ret))) .skip)) (.seq (rg [mv 0 45 0,ld 1 46 (some 1) 5,ca 2 47 F.s_l3Env_num [45,46]]) (.seq (rg [mv 0 48 0,ld 1 49 (some 1) 6,ca 2 50 F.s_l3Env_num [48,49]]) (.seq (rg [pu 0 51 (.build [.slice none 0 0] []),en 1 (.store 1 4 51)]) .ret)))))))⟩
def jd(F:Ids):aD:=⟨33,[.slot 4],.seq (rg [ef 0 2 (.box 0),mv 1 4 cf]) (.seq (.seq (rg [mv 0 5 1,pu 1 6 (.bin .lss 5 (ci 1))]) (.cond 6 (.seq (rg [mv 0 4 cf]) .ret) .skip)) (.seq (.seq (rg [fa 0 7 0 2,ld 1 8 none 7,pu 2 9 (.lenSl 8),pu 3 10 (.bin .eql 9 (ci 0))]) (.cond 10 (.seq (rg [mv 0 4 ct]) .ret) .skip)) (.seq (rg [fa 0 11 0 2,ld 1 12 none 11,pu 2 13 (.lenSl 12),pu 3 14 (.bin .eql 13 (ci 2)),mv 4 15 14,gp 5 16 15 true (.fieldAddr 0 2),gl 6 17 15 true none 16,gp 7 18 15 true (.indexAddr 1 17 (ci 0)),gl 8 19 15 true (some 1) 18,gp 9 20 15 true (.move 1),gp 10 21 15 true (.bin .sub 20 (ci 1)),⟨11,some 22,some (15,true),.eff (.call F.i_typeFits [19,21]),[]⟩,pu 12 23 (.pick 15 22 cf),mv 13 24 23,gp 14 25 24 true (.fieldAddr 0 2),gl 15 26 24 true none 25,gp 16 27 24 true (.indexAddr 1 26 (ci 1)),gl 17 28 24 true (some 1) 27,gp 18 29 24 true (.move 1),gp 19 30 24 true (.bin .sub 29 (ci 1)),⟨20,some 31,some (24,true),.eff (.call F.i_typeFits [28,30]),[]⟩,pu 21 32 (.pick 24 31 cf),mv 22 4 32]) .ret)))⟩
def mE(F:Ids):aD:=⟨18,[.slot 2],.seq (rg [mv 0 2 cf]) (.seq (.seq (rg [mv 0 5 0,pu 1 6 (.lenSl 5),pu 2 7 (.bin .gtr 6 (ci 4))]) (.cond 7 (.seq (rg [mv 0 2 cf]) .ret) .skip)) (.seq (.seq (rg [mv 0 8 0,pu 1 9 (.lenSl 8),mv 2 10 (ci 0)]) (.block 0 (.loop (.seq (rg [pu 0 11 (.bin .lss 10 9)]) (.seq (.cond 11 .skip (.exit 0)) (.seq (.block 1 (.seq (rg [ia 0 12 8 8 10,ld 1 13 (some 8) 12,ef 2 4 (.alloc [.bool false,.string (bl []),.slice none 0 0,.int .i64 0,.int .i64 0,.string (bl []),.slice none 0 0,.slice none 0 0]),en 3 (.store 8 4 13)]) (.seq (rg [ld 0 14 (some 8) 4,ca 1 15 F.i_argForm [14],pu 2 16 (.not 15)]) (.cond 16 (.seq (rg [mv 0 2 cf]) .ret) .skip)))) (rg [pu 0 17 (.bin .add 10 (ci 1)),mv 1 10 17]))))))) (.seq (rg [mv 0 2 ct]) .ret)))⟩
def mD(F:Ids):aD:=⟨21,[.slot 2],.seq (rg [mv 0 2 cf]) (.seq (.seq (rg [mv 0 5 0,pu 1 6 (.lenSl 5),pu 2 7 (.bin .gtr 6 (ci 4))]) (.cond 7 (.seq (rg [mv 0 2 cf]) .ret) .skip)) (.seq (.seq (rg [mv 0 8 0,pu 1 9 (.lenSl 8),mv 2 10 (ci 0)]) (.block 0 (.loop (.seq (rg [pu 0 11 (.bin .lss 10 9)]) (.seq (.cond 11 .skip (.exit 0)) (.seq (.block 1 (.seq (rg [ia 0 12 1 8 10,ld 1 13 none 12,mv 2 4 13]) (.seq (rg [mv 0 14 4,pu 1 15 (.bin .lss 14 (ci 0)),mv 2 16 15,gp 3 17 16 false (.move 4),gp 4 18 16 false (.bin .gtr 17 (ci 1)),pu 5 19 (.pick 16 ct 18)]) (.cond 19 (.seq (rg [mv 0 2 cf]) .ret) .skip)))) (rg [pu 0 20 (.bin .add 10 (ci 1)),mv 1 10 20]))))))) (.seq (rg [mv 0 2 ct]) .ret)))⟩
def jQ(F:Ids):aD:=⟨49,[.slot 2],.seq (rg [ef 0 1 (.box 0),mv 1 2 cf]) (.seq (rg [fa 0 3 0 1,ld 1 4 none 3,pu 2 5 (.bin .eql 4 (ci 0)),mv 3 6 5,gp 4 7 6 true (.fieldAddr 1 1),gl 5 8 6 true none 7,gp 6 9 6 true (.bin .eql 8 (.const (.string (bl [])))),pu 7 10 (.pick 6 9 cf),mv 8 11 10,gp 9 12 11 true (.fieldAddr 2 1),gl 10 13 11 true (some 2) 12,⟨11,some 14,some (11,true),.eff (.call F.i_placeNothing [13]),[]⟩,pu 12 15 (.pick 11 14 cf),mv 13 16 15,gp 14 17 16 true (.fieldAddr 4 1),gl 15 18 16 true (some 2) 17,⟨16,some 19,some (16,true),.eff (.call F.i_placeNothing [18]),[]⟩,pu 17 20 (.pick 16 19 cf),mv 18 21 20,gp 19 22 21 true (.fieldAddr 6 1),gl 20 23 21 true (some 5) 22,⟨21,some 24,some (21,true),.eff (.call F.i_exprNothing [23]),[]⟩,pu 22 25 (.pick 21 24 cf),mv 23 26 25,gp 24 27 26 true (.fieldAddr 11 1),gl 25 28 26 true none 27,gp 26 29 26 true (.bin .eql 28 (.const (.string (bl [])))),pu 27 30 (.pick 26 29 cf),mv 28 31 30,gp 29 32 31 true (.fieldAddr 12 1),gl 30 33 31 true none 32,gp 31 34 31 true (.lenSl 33),gp 32 35 31 true (.bin .eql 34 (ci 0)),pu 33 36 (.pick 31 35 cf),mv 34 37 36,gp 35 38 37 true (.fieldAddr 13 1),gl 36 39 37 true none 38,gp 37 40 37 true (.lenSl 39),gp 38 41 37 true (.bin .eql 40 (ci 0)),pu 39 42 (.pick 37 41 cf),mv 40 43 42,gp 41 44 43 true (.fieldAddr 14 1),gl 42 45 43 true none 44,gp 43 46 43 true (.lenSl 45),gp 44 47 43 true (.bin .eql 46 (ci 0)),pu 45 48 (.pick 43 47 cf),mv 46 2 48]) .ret)⟩
def kW(F:Ids):aD:=⟨36,[.slot 4],.seq (rg [ef 0 2 (.box 0),mv 1 4 cf]) (.seq (.seq (rg [mv 0 6 1,pu 1 7 (.bin .lss 6 (ci 1)),mv 2 8 7,gp 3 9 8 false (.fieldAddr 0 2),gl 4 10 8 false none 9,gp 5 11 8 false (.lenSl 10),gp 6 12 8 false (.bin .neq 11 (ci 0)),gp 7 13 8 false (.move 12),gp 8 14 13 true (.fieldAddr 0 2),gl 9 15 13 true none 14,gp 10 16 13 true (.lenSl 15),gp 11 17 13 true (.bin .neq 16 (ci 2)),gp 12 18 8 false (.pick 13 17 cf),pu 13 19 (.pick 8 ct 18)]) (.cond 19 (.seq (rg [mv 0 4 cf]) .ret) .skip)) (.seq (.seq (rg [mv 0 5 (ci 0)]) (.block 0 (.loop (.seq (.seq (rg [mv 0 20 5,fa 1 21 0 2,ld 2 22 none 21,pu 3 23 (.lenSl 22),pu 4 24 (.bin .lss 20 23)]) (.cond 24 .skip (.exit 0))) (.seq (.block 1 (.seq (rg [fa 0 27 0 2,ld 1 28 none 27,mv 2 29 5,ia 3 30 1 28 29,ld 4 31 (some 1) 30,mv 5 32 1,pu 6 33 (.bin .sub 32 (ci 1)),ca 7 34 F.s_l1Deep [31,33],pu 8 35 (.not 34)]) (.cond 35 (.seq (rg [mv 0 4 cf]) .ret) .skip))) (rg [mv 0 25 5,pu 1 26 (.bin .add 25 (ci 1)),mv 2 5 26])))))) (.seq (rg [mv 0 4 ct]) .ret)))⟩
def pe(F:Ids):aD:=⟨183,[.slot 4],.seq (rg [ef 0 2 (.box 0),mv 1 4 cf]) (.seq (rg [fa 0 9 0 2,ld 1 10 none 9,pu 2 11 (.bin .eql 10 (ci 6)),mv 3 5 11]) (.seq (rg [fa 0 12 0 2,ld 1 13 none 12,pu 2 14 (.bin .eql 13 (ci 1)),mv 3 15 14,gp 4 16 15 false (.fieldAddr 0 2),gl 5 17 15 false none 16,gp 6 18 15 false (.bin .eql 17 (ci 2)),pu 7 19 (.pick 15 ct 18),mv 8 20 19,gp 9 21 20 false (.fieldAddr 0 2),gl 10 22 20 false none 21,gp 11 23 20 false (.bin .eql 22 (ci 4)),pu 12 24 (.pick 20 ct 23),mv 13 25 24,gp 14 26 25 false (.move 5),pu 15 27 (.pick 25 ct 26),mv 16 6 27]) (.seq (rg [fa 0 28 0 2,ld 1 29 none 28,pu 2 30 (.bin .eql 29 (ci 2)),mv 3 31 30,gp 4 32 31 false (.fieldAddr 0 2),gl 5 33 31 false none 32,gp 6 34 31 false (.bin .eql 33 (ci 3)),pu 7 35 (.pick 31 ct 34),mv 8 36 35,gp 9 37 36 false (.move 5),pu 10 38 (.pick 36 ct 37),mv 11 7 38]) (.seq (rg [fa 0 39 0 2,ld 1 40 none 39,pu 2 41 (.bin .eql 40 (ci 1)),mv 3 42 41,gp 4 43 42 false (.fieldAddr 0 2),gl 5 44 42 false none 43,gp 6 45 42 false (.bin .eql 44 (ci 3)),pu 7 46 (.pick 42 ct 45),mv 8 47 46,gp 9 48 47 false (.fieldAddr 0 2),gl 10 49 47 false none 48,gp 11 50 47 false (.bin .eql 49 (ci 5)),pu 12 51 (.pick 47 ct 50),mv 13 52 51,gp 14 53 52 false (.move 5),pu 15 54 (.pick 52 ct 53),mv 16 8 54]) (kd9 F)))))⟩
def qp(F:Ids):aD:=⟨15,[.slot 6],.seq (rg [mv 0 6 cf]) (.seq (rg [mv 0 7 0,mv 1 8 1,pu 2 9 (.bin .geq 7 8),mv 3 10 9,gp 4 11 10 true (.move 0),gp 5 12 10 true (.move 2),gp 6 13 10 true (.bin .leq 11 12),pu 7 14 (.pick 10 13 cf),mv 8 6 14]) .ret)⟩
def j7(F:Ids):aD:=⟨47,[],.seq (rg [ef 0 3 (.box 1)]) (.seq (.seq (rg [mv 0 4 (ci 0)]) (.block 0 (.loop (.seq (.seq (rg [mv 0 5 4,mv 1 6 0,nc 2 7 6,fa 3 8 3 7,ld 4 9 none 8,pu 5 10 (.lenSl 9),pu 6 11 (.bin .lss 5 10)]) (.cond 11 .skip (.exit 0))) (.seq (.block 1 (.seq (.region true [mv 0 14 0,nc 1 15 14,fa 2 16 3 15,ld 3 17 none 16,mv 4 18 4,ia 5 19 1 17 18,ld 6 20 none 19,fa 7 21 0 3,ld 8 22 none 21,pu 9 23 (.bin .eql 20 22)]) (.cond 23 (rg [mv 0 24 0,ca 1 25 F.s_l3Env_fail [24,ci 2]]) .skip))) (rg [mv 0 12 4,pu 1 13 (.bin .add 12 (ci 1)),mv 2 4 13])))))) (.seq (.region true [mv 0 26 0,mv 1 27 0,nc 2 28 27,fa 3 29 3 28,ld 4 30 none 29,fa 5 31 0 3,ld 6 32 none 31,⟨7,some 33,none,.lits 1 1 [.string (bl [])] [(0,(1,32))],[]⟩,ef 8 34 (.appendM 1 16 30 33),nc 9 35 26,fa 10 36 3 35,en 11 (.store 1 36 34)]) (.region true [mv 0 37 0,mv 1 38 0,nc 2 39 38,fa 3 40 2 39,ld 4 41 none 40,ld 5 42 (some 6) 3,⟨6,some 43,none,.lits 6 1 [.string (bl []),.bool false,.bool false,.slice none 0 0,.slice none 0 0,.bool false] [(0,(6,42))],[]⟩,ef 7 44 (.appendM 6 80 41 43),nc 8 45 37,fa 9 46 2 45,en 10 (.store 1 46 44)])))⟩
def kA(F:Ids):aD:=⟨147,[.cell 4 (some 15)],.seq (rg [ef 0 4 (.alloc [.int .i64 0,.string (bl []),.string (bl []),.slice none 0 0,.string (bl []),.slice none 0 0,.int .i64 0,.int .i64 0,.string (bl []),.slice none 0 0,.slice none 0 0,.string (bl []),.slice none 0 0,.slice none 0 0,.slice none 0 0])]) (.seq (.seq (rg [mv 0 14 0,nc 1 15 14,fa 2 16 0 15,ld 3 17 none 16,ca 4 18 F.s_l6Rd_pick [17,ci 5],pu 5 19 (.bin .eql 18 (ci 0))]) (.cond 19 (.seq (rg [mv 0 20 0,ca 1 21 F.s_l71Mk_pick [20],en 2 (.store 15 4 21)]) .ret) .skip)) (.seq (.seq (rg [mv 0 22 0,nc 1 23 22,fa 2 24 0 23,ld 3 25 none 24,ca 4 26 F.s_l6Rd_pick [25,ci 12]]) (.block 0 (.seq (rg [pu 0 28 (.bin .eql 26 (ci 0)),mv 1 27 28]) (.cond 27 (kd20 F) (.seq (.seq (rg [pu 0 40 (.bin .eql 26 (ci 1)),mv 1 39 40]) (.cond 39 .skip (.seq (rg [pu 0 41 (.bin .eql 26 (ci 2)),mv 1 39 41]) (.cond 39 .skip (rg [pu 0 42 (.bin .eql 26 (ci 3)),mv 1 39 42]))))) (.cond 39 (kd21 F) (.seq (.seq (rg [pu 0 53 (.bin .eql 26 (ci 4)),mv 1 52 53]) (.cond 52 .skip (.seq (rg [pu 0 54 (.bin .eql 26 (ci 5)),mv 1 52 54]) (.cond 52 .skip (rg [pu 0 55 (.bin .eql 26 (ci 6)),mv 1 52 55]))))) (.cond 52 (kd22 F) (.seq (.seq (rg [pu 0 67 (.bin .eql 26 (ci 7)),mv 1 66 67]) (.cond 66 .skip (.seq (rg [pu 0 68 (.bin .eql 26 (ci 8)),mv 1 66 68]) (.cond 66 .skip (rg [pu 0 69 (.bin .eql 26 (ci 9)),mv 1 66 69]))))) (.cond 66 (kd23 F) .skip)))))))))) (kd26 F)))⟩
def kG(F:Ids):aD:=⟨68,[],.seq (rg [ef 0 3 (.box 1)]) (.seq (rg [fa 0 7 0 3,ld 1 8 none 7]) (.block 0 (.seq (rg [pu 0 19 (.bin .eql 8 (ci 1)),mv 1 18 19]) (.cond 18 (.seq (rg [mv 0 20 0,fa 1 21 6 3,ld 2 22 (some 5) 21,ca 3 23 F.s_l3Env_expr [20,22],ef 4 4 (.alloc [.slice none 0 0]),en 5 (.store 1 4 23)]) (rg [mv 0 24 0,fa 1 25 1 3,ld 2 26 none 25,ld 3 27 (some 1) 4,pu 4 28 (.build [.string (bl []),.bool false,.bool false,.slice none 0 0,.slice none 0 0,.bool false] [(0,(1,26)),(3,(1,27))]),ca 5 29 F.s_l3Env_add [24,28]])) (.seq (rg [pu 0 31 (.bin .eql 8 (ci 2)),mv 1 30 31]) (.cond 30 (.seq (rg [mv 0 32 0,fa 1 33 2 3,ld 2 34 (some 2) 33,ca 3 35 F.s_l3Env_use [32,34],ef 4 5 (.alloc [.slice none 0 0]),en 5 (.store 1 5 35)]) (rg [mv 0 36 0,fa 1 37 1 3,ld 2 38 none 37,ld 3 39 (some 1) 5,fa 4 40 2 3,ld 5 41 (some 2) 40,ef 6 42 (.buildSlice 2 1 [.string (bl []),.slice none 0 0] [(0,(2,41))]),pu 7 43 (.build [.string (bl []),.bool false,.bool false,.slice none 0 0,.slice none 0 0,.bool false] [(0,(1,38)),(1,(1,ct)),(3,(1,39)),(4,(1,42))]),ca 8 44 F.s_l3Env_add [36,43]])) (.seq (rg [pu 0 46 (.bin .eql 8 (ci 3)),mv 1 45 46]) (.cond 45 (.seq (rg [mv 0 47 0,fa 1 48 6 3,ld 2 49 (some 5) 48,ca 3 50 F.s_l3Env_expr [47,49],ef 4 6 (.alloc [.slice none 0 0]),en 5 (.store 1 6 50)]) (.region true [mv 0 51 0,mv 1 52 0,fa 2 53 2 3,ld 3 54 (some 2) 53,⟨4,some 55,none,.eff (.call F.s_l3Env_use [52,54]),[5]⟩,⟨5,some 56,none,.load (.load (some 1) 6),[4]⟩,ca 6 57 F.s_l3Env_same [51,55,56]])) (.seq (rg [pu 0 59 (.bin .eql 8 (ci 4)),mv 1 58 59]) (.cond 58 (rg [mv 0 60 0,ld 1 61 (some 15) 3,ca 2 62 F.s_l3Env_call [60,61]]) (.seq (rg [pu 0 64 (.bin .eql 8 (ci 6)),mv 1 63 64]) (.cond 63 (rg [mv 0 65 0,ld 1 66 (some 15) 3,ca 2 67 F.s_l3Env_pick [65,66]]) (.seq (rg [mv 0 9 0,mv 1 10 0,fa 2 11 6 3,ld 3 12 (some 5) 11,ca 4 13 F.s_l3Env_expr [10,12],ca 5 14 F.s_l3Env_num [9,13]]) (rg [mv 0 15 0,ld 1 16 (some 15) 3,ca 2 17 F.s_l3Env_fork [15,16]]))))))))))))))⟩
def nv(F:Ids):aD:=⟨34,[.slot 4,.cell 5 (some 1)],.seq (rg [ef 0 3 (.box 1),mv 1 4 (.const (.slice none 0 0)),ef 2 5 (.alloc [.slice none 0 0])]) (.seq (rg [ef 0 8 (.buildSlice 1 0 [.int .i64 0] []),mv 1 6 8]) (.seq (.block 0 (.loop (.seq (.seq (rg [fa 0 9 0 3,ld 1 10 none 9,pu 2 11 (.lenSl 10),pu 3 12 (.bin .gtr 11 (ci 0)),mv 4 13 12,gp 5 14 13 true (.move 0),⟨6,some 15,some (13,true),.eff (.call F.s_l6Rd_pick [14,ci 3]),[]⟩,gp 7 16 13 true (.bin .gtr 15 (ci 0)),pu 8 17 (.pick 13 16 cf)]) (.cond 17 .skip (.exit 0))) (.block 1 (.seq (rg [mv 0 18 0,fa 1 19 0 3,ld 2 20 none 19,pu 3 21 (.lenSl 20),ca 4 22 F.s_l6Rd_pick [18,21],mv 5 7 22]) (.seq (rg [mv 0 23 6,mv 1 24 7,⟨2,some 25,none,.lits 1 1 [.int .i64 0] [(0,(1,24))],[]⟩,ef 3 26 (.appendM 1 8 23 25),mv 4 6 26]) (rg [fa 0 27 0 3,ld 1 28 none 27,mv 2 29 7,ia 3 30 1 28 29,ld 4 31 (some 1) 30,en 5 (.store 1 3 31)]))))))) (kd10 F)))⟩
def kL(F:Ids):aD:=⟨26,[.slot 4],.seq (rg [mv 0 4 (ci 0)]) (.seq (.seq (rg [mv 0 5 (ci 0)]) (.block 0 (.loop (.seq (.seq (rg [mv 0 6 5,mv 1 7 0,nc 2 8 7,fa 3 9 2 8,ld 4 10 none 9,pu 5 11 (.lenSl 10),pu 6 12 (.bin .lss 6 11)]) (.cond 12 .skip (.exit 0))) (.seq (.block 1 (.seq (rg [mv 0 15 0,nc 1 16 15,fa 2 17 2 16,ld 3 18 none 17,mv 4 19 5,ia 5 20 6 18 19,fa 6 21 0 20,ld 7 22 none 21,mv 8 23 1,pu 9 24 (.bin .eql 22 23)]) (.cond 24 (.seq (rg [mv 0 25 5,mv 1 4 25]) .ret) .skip))) (rg [mv 0 13 5,pu 1 14 (.bin .add 13 (ci 1)),mv 2 5 14])))))) (.seq (rg [mv 0 4 (.const (.int .i64 (-1)))]) .ret))⟩
def kM(F:Ids):aD:=⟨13,[],.seq (rg [mv 0 4 0,nc 1 5 4,fa 2 6 4 5,ld 3 7 none 6,pu 4 8 (.bin .eql 7 (ci 0))]) (.cond 8 (rg [mv 0 9 0,mv 1 10 1,nc 2 11 9,fa 3 12 4 11,en 4 (.store 1 12 10)]) .skip)⟩
def pq(F:Ids):aD:=⟨38,[.cell 4 (some 1),.slot 5],.seq (rg [ef 0 2 (.box 0),ef 1 4 (.alloc [.slice none 0 0]),mv 2 5 cf]) (.seq (.seq (rg [ld 0 7 (some 1) 2,ca 1 8 F.s_TypeOk [7],pu 2 9 (.not 8)]) (.cond 9 (.seq (rg [pu 0 10 (.build [.slice none 0 0] []),en 1 (.store 1 4 10),mv 2 5 cf]) .ret) .skip)) (.seq (.seq (rg [mv 0 6 (ci 0)]) (.block 0 (.loop (.seq (.seq (rg [mv 0 11 6,mv 1 12 1,pu 2 13 (.lenSl 12),pu 3 14 (.bin .lss 11 13)]) (.cond 14 .skip (.exit 0))) (.seq (.block 1 (.seq (.seq (.region true [mv 0 17 1,mv 1 18 6,ia 2 19 1 17 18,ld 3 20 none 19,fa 4 21 0 2,ld 5 22 none 21,pu 6 23 (.lenSl 22),pu 7 24 (.bin .sub 23 (ci 1)),ca 8 25 F.s_l6In [20,ci 0,24],pu 9 26 (.not 25)]) (.cond 26 (.seq (rg [pu 0 27 (.build [.slice none 0 0] []),en 1 (.store 1 4 27),mv 2 5 cf]) .ret) .skip)) (.region true [fa 0 28 0 2,ld 1 29 none 28,mv 2 30 1,mv 3 31 6,ia 4 32 1 30 31,ld 5 33 none 32,ia 6 34 1 29 33,ld 7 35 (some 1) 34,en 8 (.store 1 2 35)]))) (rg [mv 0 15 6,pu 1 16 (.bin .add 15 (ci 1)),mv 2 6 16])))))) (.seq (rg [ld 0 36 (some 1) 2,ca 1 37 F.s_l1Copy [36],en 2 (.store 1 4 37),mv 3 5 ct]) .ret)))⟩
def kO(F:Ids):aD:=⟨105,[.slot 4],.seq (rg [ef 0 3 (.box 1),mv 1 4 (.const (.slice none 0 0))]) (.seq (rg [ef 0 11 (.buildSlice 1 0 [.int .i64 0] []),mv 1 5 11]) (.seq (.seq (rg [mv 0 12 0,nc 1 13 12,fa 2 14 2 13,ld 3 15 none 14,pu 4 16 (.lenSl 15),pu 5 17 (.bin .sub 16 (ci 1)),mv 6 6 17]) (.block 0 (.loop (.seq (.seq (rg [mv 0 18 6,pu 1 19 (.bin .geq 18 (ci 0))]) (.cond 19 .skip (.exit 0))) (.seq (.block 1 (.seq (.seq (rg [mv 0 22 0,nc 1 23 22,fa 2 24 2 23,ld 3 25 none 24,mv 4 26 6,ia 5 27 6 25 26,fa 6 28 5 27,ld 7 29 none 28,mv 8 30 29,gp 9 31 30 false (.move 0),gp 10 32 30 false (.nilCheck 31),gp 11 33 30 false (.fieldAddr 2 32),gl 12 34 30 false none 33,gp 13 35 30 false (.move 6),gp 14 36 30 false (.indexAddr 6 34 35),gp 15 37 30 false (.fieldAddr 1 36),gl 16 38 30 false none 37,gp 17 39 30 false (.not 38),pu 18 40 (.pick 30 ct 39)]) (.cond 40 (.exit 1) .skip)) (.seq (rg [mv 0 7 cf]) (.seq (.seq (rg [mv 0 8 (ci 0)]) (.block 2 (.loop (.seq (.seq (rg [mv 0 41 8,mv 1 42 0,nc 2 43 42,fa 3 44 2 43,ld 4 45 none 44,mv 5 46 6,ia 6 47 6 45 46,fa 7 48 4 47,ld 8 49 none 48,pu 9 50 (.lenSl 49),pu 10 51 (.bin .lss 41 50)]) (.cond 51 .skip (.exit 2))) (.seq (.block 3 (.seq (rg [mv 0 54 0,nc 1 55 54,fa 2 56 2 55,ld 3 57 none 56,mv 4 58 6,ia 5 59 6 57 58,fa 6 60 4 59,ld 7 61 none 60,mv 8 62 8,ia 9 63 2 61 62,ld 10 64 (some 2) 63,ef 11 9 (.alloc [.string (bl []),.slice none 0 0]),en 12 (.store 2 9 64)]) (.seq (rg [mv 0 65 7,mv 1 66 65,gl 2 67 66 false (some 2) 3,gl 3 68 66 false (some 2) 9,⟨4,some 69,some (66,false),.eff (.call F.s_l3Meet [67,68]),[]⟩,pu 5 70 (.pick 66 ct 69),mv 6 7 70]) (.seq (rg [mv 0 10 (ci 0)]) (.block 4 (.loop (.seq (.seq (rg [mv 0 71 10,mv 1 72 5,pu 2 73 (.lenSl 72),pu 3 74 (.bin .lss 71 73)]) (.cond 74 .skip (.exit 4))) (.seq (.block 5 (.region true [mv 0 77 7,mv 1 78 77,gp 2 79 78 false (.move 0),gp 3 80 78 false (.nilCheck 79),gp 4 81 78 false (.fieldAddr 2 80),gl 5 82 78 false none 81,gp 6 83 78 false (.move 5),gp 7 84 78 false (.move 10),gp 8 85 78 false (.indexAddr 1 83 84),gl 9 86 78 false none 85,gp 10 87 78 false (.indexAddr 6 82 86),gp 11 88 78 false (.fieldAddr 0 87),gl 12 89 78 false none 88,gp 13 90 78 false (.fieldAddr 0 9),gl 14 91 78 false none 90,gp 15 92 78 false (.bin .eql 89 91),pu 16 93 (.pick 78 ct 92),mv 17 7 93])) (rg [mv 0 75 10,pu 1 76 (.bin .add 75 (ci 1)),mv 2 10 76]))))))))) (rg [mv 0 52 8,pu 1 53 (.bin .add 52 (ci 1)),mv 2 8 53])))))) (.seq (rg [mv 0 94 7]) (.cond 94 (rg [mv 0 95 5,mv 1 96 6,⟨2,some 97,none,.lits 1 1 [.int .i64 0] [(0,(1,96))],[]⟩,ef 3 98 (.appendM 1 8 95 97),mv 4 5 98]) .skip)))))) (rg [mv 0 20 6,pu 1 21 (.bin .sub 20 (ci 1)),mv 2 6 21])))))) (.seq (rg [mv 0 99 0,nc 1 100 99,fa 2 101 2 100,ld 3 102 none 101,mv 4 103 5,ca 5 104 F.s_l3Order [102,103],mv 6 4 104]) .ret)))⟩
def pk(F:Ids):aD:=⟨32,[.slot 4],.seq (rg [ef 0 2 (.box 0),ef 1 3 (.box 1),mv 2 4 cf]) (.seq (.seq (rg [fa 0 6 0 2,ld 1 7 none 6,pu 2 8 (.lenSl 7),fa 3 9 0 3,ld 4 10 none 9,pu 5 11 (.lenSl 10),pu 6 12 (.bin .neq 8 11)]) (.cond 12 (.seq (rg [mv 0 4 cf]) .ret) .skip)) (.seq (.seq (rg [mv 0 5 (ci 0)]) (.block 0 (.loop (.seq (.seq (rg [mv 0 13 5,fa 1 14 0 2,ld 2 15 none 14,pu 3 16 (.lenSl 15),pu 4 17 (.bin .lss 13 16)]) (.cond 17 .skip (.exit 0))) (.seq (.block 1 (.seq (.region true [fa 0 20 0 2,ld 1 21 none 20,mv 2 22 5,ia 3 23 1 21 22,ld 4 24 (some 1) 23,fa 5 25 0 3,ld 6 26 none 25,mv 7 27 5,ia 8 28 1 26 27,ld 9 29 (some 1) 28,ca 10 30 F.s_l1Same [24,29],pu 11 31 (.not 30)]) (.cond 31 (.seq (rg [mv 0 4 cf]) .ret) .skip))) (rg [mv 0 18 5,pu 1 19 (.bin .add 18 (ci 1)),mv 2 5 19])))))) (.seq (rg [mv 0 4 ct]) .ret)))⟩
def lP(F:Ids):aD:=⟨10,[],.seq (rg [ef 0 3 (.box 1)]) (.seq (rg [fa 0 4 0 3,ld 1 5 none 4,pu 2 6 (.lenSl 5),pu 3 7 (.bin .gtr 6 (ci 0))]) (.cond 7 (rg [mv 0 8 0,ca 1 9 F.s_l3Env_fail [8,ci 3]]) .skip))⟩
def nG(F:Ids):aD:=⟨21,[.slot 2],.seq (rg [ef 0 1 (.box 0),mv 1 2 cf]) (.seq (.seq (rg [fa 0 3 0 1,ld 1 4 none 3]) (.cond 4 (.seq (rg [fa 0 5 1 1,ld 1 6 (some 2) 5,ca 2 7 F.i_placeForm [6],mv 3 8 7,gp 4 9 8 true (.fieldAddr 3 1),gl 5 10 8 true (some 5) 9,⟨6,some 11,some (8,true),.eff (.call F.i_exprNothing [10]),[]⟩,pu 7 12 (.pick 8 11 cf),mv 8 2 12]) .ret) .skip)) (.seq (rg [fa 0 13 1 1,ld 1 14 (some 2) 13,ca 2 15 F.i_placeNothing [14],mv 3 16 15,gp 4 17 16 true (.fieldAddr 3 1),gl 5 18 16 true (some 5) 17,⟨6,some 19,some (16,true),.eff (.call F.i_exprForm [18,ci 4]),[]⟩,pu 7 20 (.pick 16 19 cf),mv 8 2 20]) .ret))⟩
def pj(F:Ids):aD:=⟨49,[.slot 2],.seq (rg [mv 0 2 cf]) (.seq (.seq (rg [mv 0 5 0,pu 1 6 (.lenSl 5),pu 2 7 (.bin .gtr 6 (ci 4))]) (.cond 7 (.seq (rg [mv 0 2 cf]) .ret) .skip)) (.seq (.seq (rg [mv 0 3 (ci 0)]) (.block 0 (.loop (.seq (.seq (rg [mv 0 8 3,mv 1 9 0,pu 2 10 (.lenSl 9),pu 3 11 (.bin .lss 8 10)]) (.cond 11 .skip (.exit 0))) (.seq (.block 1 (.seq (rg [mv 0 14 0,mv 1 15 3,ia 2 16 8 14 15,ld 3 17 (some 8) 16,ef 4 4 (.alloc [.bool false,.string (bl []),.slice none 0 0,.int .i64 0,.int .i64 0,.string (bl []),.slice none 0 0,.slice none 0 0]),en 5 (.store 8 4 17)]) (.seq (rg [fa 0 18 0 4,ld 1 19 none 18,mv 2 20 19,gp 3 21 20 true (.fieldAddr 1 4),gl 4 22 20 true (some 2) 21,⟨5,some 23,some (20,true),.eff (.call F.s_l2Place [22]),[]⟩,gp 6 24 20 true (.not 23),gp 7 25 20 true (.move 24),gp 8 26 25 false (.fieldAddr 3 4),gl 9 27 25 false (some 5) 26,⟨10,some 28,some (25,false),.eff (.call F.s_l2NoExpr [27]),[]⟩,gp 11 29 25 false (.not 28),gp 12 30 20 true (.pick 25 ct 29),pu 13 31 (.pick 20 30 cf),mv 14 32 31,gp 15 33 32 false (.fieldAddr 0 4),gl 16 34 32 false none 33,gp 17 35 32 false (.not 34),gp 18 36 32 false (.move 35),gp 19 37 36 true (.fieldAddr 1 4),gl 20 38 36 true (some 2) 37,⟨21,some 39,some (36,true),.eff (.call F.s_l2None [38]),[]⟩,gp 22 40 36 true (.not 39),gp 23 41 36 true (.move 40),gp 24 42 41 false (.fieldAddr 3 4),gl 25 43 41 false (some 5) 42,⟨26,some 44,some (41,false),.eff (.call F.s_l2Expr [43,ci 4]),[]⟩,gp 27 45 41 false (.not 44),gp 28 46 36 true (.pick 41 ct 45),gp 29 47 32 false (.pick 36 46 cf),pu 30 48 (.pick 32 ct 47)]) (.cond 48 (.seq (rg [mv 0 2 cf]) .ret) .skip)))) (rg [mv 0 12 3,pu 1 13 (.bin .add 12 (ci 1)),mv 2 3 13])))))) (.seq (rg [mv 0 2 ct]) .ret)))⟩
def kB(F:Ids):aD:=⟨45,[.cell 2 (some 15)],.seq (rg [ef 0 2 (.alloc [.int .i64 0,.string (bl []),.string (bl []),.slice none 0 0,.string (bl []),.slice none 0 0,.int .i64 0,.int .i64 0,.string (bl []),.slice none 0 0,.slice none 0 0,.string (bl []),.slice none 0 0,.slice none 0 0,.slice none 0 0])]) (.seq (rg [mv 0 9 0,ca 1 10 F.s_l71Mk_name [9],mv 2 11 0,pu 3 12 (.build [.slice none 0 0] []),ca 4 13 F.s_l71Mk_expr [11,12,ci 2],pu 5 14 (.build [.int .i64 0,.string (bl []),.string (bl []),.slice none 0 0,.string (bl []),.slice none 0 0,.int .i64 0,.int .i64 0,.string (bl []),.slice none 0 0,.slice none 0 0,.string (bl []),.slice none 0 0,.slice none 0 0,.slice none 0 0] [(0,(1,ci 6)),(1,(1,10)),(6,(5,13))]),ef 6 3 (.alloc [.int .i64 0,.string (bl []),.string (bl []),.slice none 0 0,.string (bl []),.slice none 0 0,.int .i64 0,.int .i64 0,.string (bl []),.slice none 0 0,.slice none 0 0,.string (bl []),.slice none 0 0,.slice none 0 0,.slice none 0 0]),en 7 (.store 15 3 14)]) (.seq (rg [mv 0 16 0,ca 1 17 F.s_l71Mk_place [16],mv 2 15 17,pu 3 18 (.extract 15 0),pu 4 19 (.extract 15 1),ef 5 4 (.alloc [.string (bl []),.slice none 0 0]),ef 6 5 (.alloc [.slice none 0 0]),en 7 (.store 2 4 18),en 8 (.store 1 5 19)]) (.seq (rg [ld 0 20 (some 2) 4,fa 1 21 2 3,en 2 (.store 2 21 20)]) (.seq (rg [ld 0 22 (some 2) 4,fa 1 23 4 3,en 2 (.store 2 23 22)]) (.seq (.seq (rg [mv 0 6 (ci 0)]) (.block 0 (.loop (.seq (.seq (rg [mv 0 24 6,pu 1 25 (.bin .lss 24 (ci 8))]) (.cond 25 .skip (.exit 0))) (.seq (.block 1 (.seq (rg [mv 0 29 0,ca 1 30 F.s_l71Mk_place [29],mv 2 28 30,pu 3 31 (.extract 28 0),pu 4 32 (.extract 28 1),ef 5 7 (.alloc [.string (bl []),.slice none 0 0]),ef 6 8 (.alloc [.slice none 0 0]),en 7 (.store 2 7 31),en 8 (.store 1 8 32)]) (.seq (rg [ld 0 33 (some 1) 5,ld 1 34 (some 1) 8,ca 2 35 F.s_l1Same [33,34],mv 3 36 35,gl 4 37 36 true (some 2) 4,gl 5 38 36 true (some 2) 7,⟨6,some 39,some (36,true),.eff (.call F.s_l3Meet [37,38]),[]⟩,gp 7 40 36 true (.not 39),pu 8 41 (.pick 36 40 cf)]) (.cond 41 (rg [ld 0 42 (some 2) 7,fa 1 43 4 3,en 2 (.store 2 43 42)]) .skip)))) (rg [mv 0 26 6,pu 1 27 (.bin .add 26 (ci 1)),mv 2 6 27])))))) (.seq (rg [ld 0 44 (some 15) 3,en 1 (.store 15 2 44)]) .ret))))))⟩
def kC(F:Ids):aD:=⟨26,[.slot 2],.seq (rg [mv 0 2 (.const (.string (bl [])))]) (.seq (rg [mv 0 4 0,mv 1 5 0,nc 2 6 5,fa 3 7 2 6,ld 4 8 none 7,pu 5 9 (.bin .add 8 (ci 1)),nc 6 10 4,fa 7 11 2 10,en 8 (.store 1 11 9)]) (.seq (rg [mv 0 12 0,nc 1 13 12,fa 2 14 2 13,ld 3 15 none 14,mv 4 3 15]) (.seq (rg [mv 0 16 3,pu 1 17 (.bin .quo 16 (ci 26)),pu 2 18 (.bin .add (ci 97) 17),pu 3 19 (.conv .u8 18),mv 4 20 3,pu 5 21 (.bin .rem 20 (ci 26)),pu 6 22 (.bin .add (ci 97) 21),pu 7 23 (.conv .u8 22),⟨8,some 24,none,.lits 1 2 [.int .u8 0] [(0,(1,19)),(1,(1,23))],[]⟩,⟨9,some 25,none,.load (.bytesToStr 24),[]⟩,mv 10 2 25]) .ret)))⟩
def kE(F:Ids):aD:=⟨102,[.cell 2 (some 15)],.seq (rg [ef 0 2 (.alloc [.int .i64 0,.string (bl []),.string (bl []),.slice none 0 0,.string (bl []),.slice none 0 0,.int .i64 0,.int .i64 0,.string (bl []),.slice none 0 0,.slice none 0 0,.string (bl []),.slice none 0 0,.slice none 0 0,.slice none 0 0])]) (.seq (rg [mv 0 10 0,ca 1 11 F.s_l71Mk_name [10],pu 2 12 (.build [.int .i64 0,.string (bl []),.string (bl []),.slice none 0 0,.string (bl []),.slice none 0 0,.int .i64 0,.int .i64 0,.string (bl []),.slice none 0 0,.slice none 0 0,.string (bl []),.slice none 0 0,.slice none 0 0,.slice none 0 0] [(0,(1,ci 4)),(1,(1,11))]),ef 3 3 (.alloc [.int .i64 0,.string (bl []),.string (bl []),.slice none 0 0,.string (bl []),.slice none 0 0,.int .i64 0,.int .i64 0,.string (bl []),.slice none 0 0,.slice none 0 0,.string (bl []),.slice none 0 0,.slice none 0 0,.slice none 0 0]),en 4 (.store 15 3 12)]) (.seq (.seq (rg [mv 0 13 0,nc 1 14 13,fa 2 15 1 14,ld 3 16 none 15,nc 4 17 16,fa 5 18 1 17,ld 6 19 none 18,pu 7 20 (.bin .eql 19 (ci 0))]) (.cond 20 (.seq (rg [ld 0 21 (some 15) 3,en 1 (.store 15 2 21)]) .ret) .skip)) (.seq (.region true [mv 0 22 0,nc 1 23 22,fa 2 24 1 23,⟨3,some 25,none,.load (.load none 24),[19]⟩,nc 4 26 25,fa 5 27 0 26,fa 6 28 0 27,⟨7,some 29,none,.load (.load none 28),[19]⟩,mv 8 30 0,nc 9 31 30,fa 10 32 0 31,ld 11 33 none 32,mv 12 34 0,nc 13 35 34,fa 14 36 1 35,ld 15 37 none 36,nc 16 38 37,fa 17 39 1 38,ld 18 40 none 39,⟨19,some 41,none,.eff (.call F.s_l6Rd_pick [33,40]),[3,7]⟩,ia 20 42 12 29 41,ld 21 43 (some 12) 42,ef 22 4 (.alloc [.string (bl []),.slice none 0 0,.bool false,.slice none 0 0,.slice none 0 0,.int .i64 0,.int .i64 0,.string (bl []),.slice none 0 0,.slice none 0 0,.string (bl []),.slice none 0 0]),en 23 (.store 12 4 43)]) (.seq (rg [fa 0 44 0 4,ld 1 45 none 44,fa 2 46 11 3,en 3 (.store 1 46 45)]) (.seq (.seq (rg [mv 0 5 (ci 0)]) (.block 0 (.loop (.seq (.seq (rg [mv 0 47 5,fa 1 48 1 4,ld 2 49 none 48,pu 3 50 (.lenSl 49),pu 4 51 (.bin .lss 47 50)]) (.cond 51 .skip (.exit 0))) (.seq (.block 1 (.seq (.seq (rg [fa 0 54 1 4,ld 1 55 none 54,mv 2 56 5,ia 3 57 3 55 56,fa 4 58 1 57,ld 5 59 none 58,pu 6 60 (.not 59)]) (.cond 60 (.seq (.region true [fa 0 61 12 3,⟨1,some 62,none,.load (.load none 61),[9]⟩,mv 2 63 0,fa 3 64 1 4,ld 4 65 none 64,mv 5 66 5,ia 6 67 3 65 66,fa 7 68 2 67,ld 8 69 (some 1) 68,⟨9,some 70,none,.eff (.call F.s_l71Mk_expr [63,69,ci 2]),[1]⟩,pu 10 71 (.build [.bool false,.string (bl []),.slice none 0 0,.int .i64 0,.int .i64 0,.string (bl []),.slice none 0 0,.slice none 0 0] [(3,(5,70))]),⟨11,some 72,none,.lits 8 1 [.bool false,.string (bl []),.slice none 0 0,.int .i64 0,.int .i64 0,.string (bl []),.slice none 0 0,.slice none 0 0] [(0,(8,71))],[]⟩,ef 12 73 (.appendM 8 128 62 72),fa 13 74 12 3,en 14 (.store 1 74 73)]) (.exit 1)) .skip)) (.seq (rg [pu 0 75 (.build [.string (bl []),.slice none 0 0] [(0,(1,.const (.string (bl [110,111,110,101]))))]),ef 1 6 (.alloc [.string (bl []),.slice none 0 0]),en 2 (.store 2 6 75)]) (.seq (.seq (rg [mv 0 7 (ci 0)]) (.block 2 (.loop (.seq (.seq (rg [mv 0 76 7,pu 1 77 (.bin .lss 76 (ci 6))]) (.cond 77 .skip (.exit 2))) (.seq (.block 3 (.seq (rg [mv 0 81 0,ca 1 82 F.s_l71Mk_place [81],mv 2 80 82,pu 3 83 (.extract 80 0),pu 4 84 (.extract 80 1),ef 5 8 (.alloc [.string (bl []),.slice none 0 0]),ef 6 9 (.alloc [.slice none 0 0]),en 7 (.store 2 8 83),en 8 (.store 1 9 84)]) (.seq (.region true [ld 0 85 (some 1) 9,fa 1 86 1 4,ld 2 87 none 86,mv 3 88 5,ia 4 89 3 87 88,fa 5 90 2 89,ld 6 91 (some 1) 90,ca 7 92 F.s_l1Same [85,91]]) (.cond 92 (rg [ld 0 93 (some 2) 8,en 1 (.store 2 6 93)]) .skip)))) (rg [mv 0 78 7,pu 1 79 (.bin .add 78 (ci 1)),mv 2 7 79])))))) (rg [fa 0 94 12 3,ld 1 95 none 94,ld 2 96 (some 2) 6,pu 3 97 (.build [.bool false,.string (bl []),.slice none 0 0,.int .i64 0,.int .i64 0,.string (bl []),.slice none 0 0,.slice none 0 0] [(0,(1,ct)),(1,(2,96))]),⟨4,some 98,none,.lits 8 1 [.bool false,.string (bl []),.slice none 0 0,.int .i64 0,.int .i64 0,.string (bl []),.slice none 0 0,.slice none 0 0] [(0,(8,97))],[]⟩,ef 5 99 (.appendM 8 128 95 98),fa 6 100 12 3,en 7 (.store 1 100 99)]))))) (rg [mv 0 52 5,pu 1 53 (.bin .add 52 (ci 1)),mv 2 5 53])))))) (kd19 F))))))⟩
def kQ(F:Ids):aD:=⟨177,[],.seq (rg [ef 0 3 (.box 1)]) (.seq (.region true [mv 0 10 0,nc 1 11 10,fa 2 12 0 11,ld 3 13 (some 1) 12,fa 4 14 11 3,ld 5 15 none 14,mv 6 16 0,nc 7 17 16,fa 8 18 1 17,ld 9 19 none 18,ca 10 20 F.s_l3Fn [13,15,19],mv 11 4 20]) (.seq (.seq (rg [mv 0 21 4,pu 1 22 (.bin .lss 21 (ci 0))]) (.cond 22 (.seq (rg [mv 0 23 0,ca 1 24 F.s_l3Env_fail [23,ci 2]]) .ret) .skip)) (.seq (rg [mv 0 25 0,nc 1 26 25,fa 2 27 0 26,fa 3 28 0 27,ld 4 29 none 28,mv 5 30 4,ia 6 31 12 29 30,ld 7 32 (some 12) 31,ef 8 5 (.alloc [.string (bl []),.slice none 0 0,.bool false,.slice none 0 0,.slice none 0 0,.int .i64 0,.int .i64 0,.string (bl []),.slice none 0 0,.slice none 0 0,.string (bl []),.slice none 0 0]),en 9 (.store 12 5 32)]) (.seq (.seq (rg [fa 0 33 1 5,ld 1 34 none 33,pu 2 35 (.lenSl 34),fa 3 36 12 3,ld 4 37 none 36,pu 5 38 (.lenSl 37),pu 6 39 (.bin .neq 35 38)]) (.cond 39 (.seq (rg [mv 0 40 0,ca 1 41 F.s_l3Env_fail [40,ci 3]]) .ret) .skip)) (.seq (rg [mv 0 42 0,nc 1 43 42,fa 2 44 2 43,ld 3 45 none 44,pu 4 46 (.lenSl 45),mv 5 6 46]) (.seq (rg [ef 0 47 (.buildSlice 2 0 [.string (bl []),.slice none 0 0] []),mv 1 7 47]) (.seq (.seq (rg [mv 0 8 (ci 0)]) (.block 0 (.loop (.seq (.seq (rg [mv 0 48 8,fa 1 49 12 3,ld 2 50 none 49,pu 3 51 (.lenSl 50),pu 4 52 (.bin .lss 48 51)]) (.cond 52 .skip (.exit 0))) (.seq (.block 1 (.seq (.seq (.region true [fa 0 55 12 3,ld 1 56 none 55,mv 2 57 8,ia 3 58 8 56 57,fa 4 59 0 58,ld 5 60 none 59,fa 6 61 1 5,ld 7 62 none 61,mv 8 63 8,ia 9 64 3 62 63,fa 10 65 1 64,ld 11 66 none 65,pu 12 67 (.eqBool true 60 66)]) (.cond 67 (.seq (rg [mv 0 68 0,ca 1 69 F.s_l3Env_fail [68,ci 3]]) .ret) .skip)) (.seq (.seq (rg [fa 0 70 12 3,ld 1 71 none 70,mv 2 72 8,ia 3 73 8 71 72,fa 4 74 0 73,ld 5 75 none 74,pu 6 76 (.not 75)]) (.cond 76 (.seq (.region true [mv 0 77 0,mv 1 78 0,fa 2 79 12 3,ld 3 80 none 79,mv 4 81 8,ia 5 82 8 80 81,fa 6 83 3 82,ld 7 84 (some 5) 83,⟨8,some 85,none,.eff (.call F.s_l3Env_expr [78,84]),[10,14]⟩,fa 9 86 1 5,⟨10,some 87,none,.load (.load none 86),[8]⟩,mv 11 88 8,ia 12 89 3 87 88,fa 13 90 2 89,⟨14,some 91,none,.load (.load (some 1) 90),[8]⟩,ca 15 92 F.s_l3Env_same [77,85,91]]) (.exit 1)) .skip)) (.seq (.region true [mv 0 93 0,mv 1 94 0,fa 2 95 12 3,ld 3 96 none 95,mv 4 97 8,ia 5 98 8 96 97,fa 6 99 1 98,ld 7 100 (some 2) 99,⟨8,some 101,none,.eff (.call F.s_l3Env_use [94,100]),[10,14]⟩,fa 9 102 1 5,⟨10,some 103,none,.load (.load none 102),[8]⟩,mv 11 104 8,ia 12 105 3 103 104,fa 13 106 2 105,⟨14,some 107,none,.load (.load (some 1) 106),[8]⟩,ca 15 108 F.s_l3Env_same [93,101,107]]) (.seq (.region true [mv 0 109 0,mv 1 110 0,nc 2 111 110,fa 3 112 2 111,ld 4 113 none 112,fa 5 114 12 3,ld 6 115 none 114,mv 7 116 8,ia 8 117 8 115 116,fa 9 118 1 117,ld 10 119 (some 2) 118,ef 11 120 (.buildSlice 2 1 [.string (bl []),.slice none 0 0] [(0,(2,119))]),pu 12 121 (.build [.string (bl []),.bool false,.bool false,.slice none 0 0,.slice none 0 0,.bool false] [(0,(1,.const (.string (bl [])))),(1,(1,ct)),(4,(1,120))]),⟨13,some 122,none,.lits 6 1 [.string (bl []),.bool false,.bool false,.slice none 0 0,.slice none 0 0,.bool false] [(0,(6,121))],[]⟩,ef 14 123 (.appendM 6 80 113 122),nc 15 124 109,fa 16 125 2 124,en 17 (.store 1 125 123)]) (rg [mv 0 126 7,fa 1 127 12 3,ld 2 128 none 127,mv 3 129 8,ia 4 130 8 128 129,fa 5 131 1 130,ld 6 132 (some 2) 131,⟨7,some 133,none,.lits 2 1 [.string (bl []),.slice none 0 0] [(0,(2,132))],[]⟩,ef 8 134 (.appendM 2 40 126 133),mv 9 7 134])))))) (rg [mv 0 53 8,pu 1 54 (.bin .add 53 (ci 1)),mv 2 8 54])))))) (kd4 F))))))))⟩
def kJ(F:Ids):aD:=⟨71,[],.seq (rg [ef 0 3 (.box 1)]) (.seq (rg [mv 0 6 0,mv 1 7 0,fa 2 8 6 3,ld 3 9 (some 5) 8,ca 4 10 F.s_l3Env_expr [7,9],ca 5 11 F.s_l3Env_num [6,10]]) (.seq (rg [mv 0 12 0,fa 1 13 2 3,ld 2 14 (some 2) 13,ca 3 15 F.s_l3Env_use [12,14],ef 4 4 (.alloc [.slice none 0 0]),en 5 (.store 1 4 15)]) (.seq (rg [mv 0 16 0,nc 1 17 16,fa 2 18 2 17,ld 3 19 none 18,pu 4 20 (.lenSl 19),mv 5 5 20]) (.seq (.region true [mv 0 21 0,mv 1 22 0,nc 2 23 22,fa 3 24 2 23,ld 4 25 none 24,fa 5 26 2 3,ld 6 27 (some 2) 26,ef 7 28 (.buildSlice 2 1 [.string (bl []),.slice none 0 0] [(0,(2,27))]),pu 8 29 (.build [.string (bl []),.bool false,.bool false,.slice none 0 0,.slice none 0 0,.bool false] [(0,(1,.const (.string (bl [])))),(1,(1,ct)),(4,(1,28))]),⟨9,some 30,none,.lits 6 1 [.string (bl []),.bool false,.bool false,.slice none 0 0,.slice none 0 0,.bool false] [(0,(6,29))],[]⟩,ef 10 31 (.appendM 6 80 25 30),nc 11 32 21,fa 12 33 2 32,en 13 (.store 1 33 31)]) (.seq (.region true [mv 0 34 0,mv 1 35 0,fa 2 36 4 3,ld 3 37 (some 2) 36,⟨4,some 38,none,.eff (.call F.s_l3Env_use [35,37]),[5]⟩,⟨5,some 39,none,.load (.load (some 1) 4),[4]⟩,ca 6 40 F.s_l3Env_same [34,38,39]]) (.seq (.seq (rg [mv 0 41 0,nc 1 42 41,fa 2 43 2 42,ld 3 44 none 43,mv 4 45 5,ia 5 46 6 44 45,fa 6 47 5 46,ld 7 48 none 47]) (.cond 48 (rg [mv 0 49 0,ca 1 50 F.s_l3Env_fail [49,ci 4]]) .skip)) (kd2 F)))))))⟩
def kK(F:Ids):aD:=⟨86,[],.seq (rg [ef 0 3 (.box 1)]) (.seq (rg [mv 0 7 0,ca 1 8 F.s_l3Env_copy [7],mv 2 4 8]) (.seq (rg [mv 0 9 4,fa 1 10 13 3,ld 2 11 none 10,ca 3 12 F.s_l3Env_body [9,11]]) (.seq (rg [mv 0 13 0,ca 1 14 F.s_l3Env_copy [13],mv 2 5 14]) (.seq (rg [mv 0 15 5,ef 1 16 (.buildSlice 1 0 [.string (bl [])] []),mv 2 17 4,nc 3 18 17,fa 4 19 3 18,ld 5 20 none 19,ef 6 21 (.appendM 1 16 16 20),nc 7 22 15,fa 8 23 3 22,en 9 (.store 1 23 21)]) (.seq (rg [mv 0 24 5,fa 1 25 14 3,ld 2 26 none 25,ca 3 27 F.s_l3Env_body [24,26]]) (.seq (.seq (rg [mv 0 6 (ci 0)]) (.block 0 (.loop (.seq (.seq (rg [mv 0 28 6,mv 1 29 0,nc 2 30 29,fa 3 31 2 30,ld 4 32 none 31,pu 5 33 (.lenSl 32),pu 6 34 (.bin .lss 28 33)]) (.cond 34 .skip (.exit 0))) (.seq (.block 1 (.region true [mv 0 37 0,nc 1 38 37,fa 2 39 2 38,ld 3 40 none 39,mv 4 41 6,mv 5 42 4,nc 6 43 42,fa 7 44 2 43,ld 8 45 none 44,mv 9 46 6,ia 10 47 6 45 46,fa 11 48 5 47,ld 12 49 none 48,mv 13 50 49,gp 14 51 50 false (.move 5),gp 15 52 50 false (.nilCheck 51),gp 16 53 50 false (.fieldAddr 2 52),gl 17 54 50 false none 53,gp 18 55 50 false (.move 6),gp 19 56 50 false (.indexAddr 6 54 55),gp 20 57 50 false (.fieldAddr 5 56),gl 21 58 50 false none 57,pu 22 59 (.pick 50 ct 58),ia 23 60 6 40 41,fa 24 61 5 60,en 25 (.store 1 61 59)])) (rg [mv 0 35 6,pu 1 36 (.bin .add 35 (ci 1)),mv 2 6 36])))))) (.seq (rg [mv 0 62 0,mv 1 63 5,nc 2 64 63,fa 3 65 3 64,ld 4 66 none 65,nc 5 67 62,fa 6 68 3 67,en 7 (.store 1 68 66)]) (.seq (.seq (rg [mv 0 69 4,nc 1 70 69,fa 2 71 4 70,ld 3 72 none 71,pu 4 73 (.bin .gtr 72 (ci 0))]) (.cond 73 (rg [mv 0 74 0,mv 1 75 4,nc 2 76 75,fa 3 77 4 76,ld 4 78 none 77,ca 5 79 F.s_l3Env_fail [74,78]]) .skip)) (rg [mv 0 80 0,mv 1 81 5,nc 2 82 81,fa 3 83 4 82,ld 4 84 none 83,ca 5 85 F.s_l3Env_fail0 [80,84]])))))))))⟩
def pm(F:Ids):aD:=⟨25,[.cell 2 (some 1)],.seq (rg [ef 0 1 (.box 0),ef 1 2 (.alloc [.slice none 0 0])]) (.seq (rg [pu 0 5 (.build [.slice none 0 0] []),ef 1 3 (.alloc [.slice none 0 0]),en 2 (.store 1 3 5)]) (.seq (.seq (rg [mv 0 4 (ci 0)]) (.block 0 (.loop (.seq (.seq (rg [mv 0 6 4,fa 1 7 0 1,ld 2 8 none 7,pu 3 9 (.lenSl 8),pu 4 10 (.bin .lss 6 9)]) (.cond 10 .skip (.exit 0))) (.seq (.block 1 (.region true [fa 0 13 0 3,⟨1,some 14,none,.load (.load none 13),[7]⟩,fa 2 15 0 1,ld 3 16 none 15,mv 4 17 4,ia 5 18 1 16 17,ld 6 19 (some 1) 18,⟨7,some 20,none,.eff (.call F.s_l1Copy [19]),[1]⟩,⟨8,some 21,none,.lits 1 1 [.slice none 0 0] [(0,(1,20))],[]⟩,ef 9 22 (.appendM 1 24 14 21),fa 10 23 0 3,en 11 (.store 1 23 22)])) (rg [mv 0 11 4,pu 1 12 (.bin .add 11 (ci 1)),mv 2 4 12])))))) (.seq (rg [ld 0 24 (some 1) 3,en 1 (.store 1 2 24)]) .ret)))⟩
def oZ(F:Ids):aD:=⟨36,[.slot 4],.seq (rg [ef 0 2 (.box 0),ef 1 3 (.box 1),mv 2 4 cf]) (.seq (.seq (rg [fa 0 6 0 2,ld 1 7 none 6,fa 2 8 0 3,ld 3 9 none 8,pu 4 10 (.bin .neq 7 9)]) (.cond 10 (.seq (rg [mv 0 4 cf]) .ret) .skip)) (.seq (.seq (rg [mv 0 5 (ci 0)]) (.block 0 (.loop (.seq (.seq (rg [mv 0 11 5,fa 1 12 1 2,ld 2 13 none 12,pu 3 14 (.lenSl 13),pu 4 15 (.bin .lss 11 14),mv 5 16 15,gp 6 17 16 true (.move 5),gp 7 18 16 true (.fieldAddr 1 3),gl 8 19 16 true none 18,gp 9 20 16 true (.lenSl 19),gp 10 21 16 true (.bin .lss 17 20),pu 11 22 (.pick 16 21 cf)]) (.cond 22 .skip (.exit 0))) (.seq (.block 1 (.seq (.region true [fa 0 25 1 2,ld 1 26 none 25,mv 2 27 5,ia 3 28 1 26 27,ld 4 29 none 28,fa 5 30 1 3,ld 6 31 none 30,mv 7 32 5,ia 8 33 1 31 32,ld 9 34 none 33,pu 10 35 (.bin .neq 29 34)]) (.cond 35 (.seq (rg [mv 0 4 cf]) .ret) .skip))) (rg [mv 0 23 5,pu 1 24 (.bin .add 23 (ci 1)),mv 2 5 24])))))) (.seq (rg [mv 0 4 ct]) .ret)))⟩
def lA(F:Ids):aD:=⟨96,[.slot 4],.seq (rg [mv 0 4 (.const (.slice none 0 0))]) (.seq (rg [mv 0 5 ct]) (.seq (.block 0 (.loop (.seq (.seq (rg [mv 0 11 5]) (.cond 11 .skip (.exit 0))) (.block 1 (.seq (rg [mv 0 5 cf]) (.seq (rg [mv 0 6 (ci 0)]) (.block 2 (.loop (.seq (.seq (rg [mv 0 12 6,mv 1 13 0,pu 2 14 (.lenSl 13),pu 3 15 (.bin .lss 12 14)]) (.cond 15 .skip (.exit 2))) (.seq (.block 3 (.seq (.seq (rg [mv 0 18 0,mv 1 19 6,ia 2 20 6 18 19,fa 3 21 5 20,ld 4 22 none 21,mv 5 23 22,gp 6 24 23 false (.move 0),gp 7 25 23 false (.move 6),gp 8 26 23 false (.indexAddr 6 24 25),gp 9 27 23 false (.fieldAddr 1 26),gl 10 28 23 false none 27,gp 11 29 23 false (.not 28),pu 12 30 (.pick 23 ct 29),mv 13 31 30,gp 14 32 31 false (.move 1),gp 15 33 31 false (.move 6),⟨16,some 34,some (31,false),.eff (.call F.s_l3Among [32,33]),[]⟩,pu 17 35 (.pick 31 ct 34)]) (.cond 35 (.exit 3) .skip)) (.seq (rg [mv 0 7 (ci 0)]) (.block 4 (.loop (.seq (.seq (rg [mv 0 36 7,mv 1 37 0,mv 2 38 6,ia 3 39 6 37 38,fa 4 40 4 39,ld 5 41 none 40,pu 6 42 (.lenSl 41),pu 7 43 (.bin .lss 36 42)]) (.cond 43 .skip (.exit 4))) (.seq (.block 5 (.seq (rg [mv 0 8 (ci 0)]) (.block 6 (.loop (.seq (.seq (rg [mv 0 46 8,mv 1 47 1,pu 2 48 (.lenSl 47),pu 3 49 (.bin .lss 46 48)]) (.cond 49 .skip (.exit 6))) (.seq (.block 7 (.seq (.region true [mv 0 52 0,mv 1 53 1,mv 2 54 8,ia 3 55 1 53 54,ld 4 56 none 55,ia 5 57 6 52 56,fa 6 58 0 57,ld 7 59 none 58,mv 8 60 0,mv 9 61 6,ia 10 62 6 60 61,fa 11 63 4 62,ld 12 64 none 63,mv 13 65 7,ia 14 66 2 64 65,fa 15 67 0 66,ld 16 68 none 67,pu 17 69 (.bin .eql 59 68),mv 18 70 69,gp 19 71 70 true (.move 1),gp 20 72 70 true (.move 6),⟨21,some 73,some (70,true),.eff (.call F.s_l3Among [71,72]),[]⟩,gp 22 74 70 true (.not 73),pu 23 75 (.pick 70 74 cf)]) (.cond 75 (.seq (rg [mv 0 76 1,mv 1 77 6,⟨2,some 78,none,.lits 1 1 [.int .i64 0] [(0,(1,77))],[]⟩,ef 3 79 (.appendM 1 8 76 78),mv 4 1 79]) (rg [mv 0 5 ct])) .skip))) (rg [mv 0 50 8,pu 1 51 (.bin .add 50 (ci 1)),mv 2 8 51]))))))) (rg [mv 0 44 7,pu 1 45 (.bin .add 44 (ci 1)),mv 2 7 45])))))))) (rg [mv 0 16 6,pu 1 17 (.bin .add 16 (ci 1)),mv 2 6 17]))))))))))) (.seq (rg [ef 0 80 (.buildSlice 1 0 [.int .i64 0] []),mv 1 9 80]) (.seq (.seq (rg [mv 0 81 0,pu 1 82 (.lenSl 81),pu 2 83 (.bin .sub 82 (ci 1)),mv 3 10 83]) (.block 8 (.loop (.seq (.seq (rg [mv 0 84 10,pu 1 85 (.bin .geq 84 (ci 0))]) (.cond 85 .skip (.exit 8))) (.seq (.block 9 (.seq (rg [mv 0 88 1,mv 1 89 10,ca 2 90 F.s_l3Among [88,89]]) (.cond 90 (rg [mv 0 91 9,mv 1 92 10,⟨2,some 93,none,.lits 1 1 [.int .i64 0] [(0,(1,92))],[]⟩,ef 3 94 (.appendM 1 8 91 93),mv 4 9 94]) .skip))) (rg [mv 0 86 10,pu 1 87 (.bin .sub 86 (ci 1)),mv 2 10 87])))))) (.seq (rg [mv 0 95 9,mv 1 4 95]) .ret)))))⟩
def sn(F:Ids):aD:=⟨29,[.slot 6],.seq (rg [ef 0 3 (.box 0),mv 1 6 (ci 0)]) (.seq (.seq (rg [mv 0 7 (ci 0)]) (.block 0 (.loop (.seq (.seq (rg [mv 0 8 7,mv 1 9 2,pu 2 10 (.bin .lss 8 9),mv 3 11 10,gp 4 12 11 true (.move 7),gp 5 13 11 true (.fieldAddr 0 3),gl 6 14 11 true none 13,gp 7 15 11 true (.lenSl 14),gp 8 16 11 true (.bin .lss 12 15),pu 9 17 (.pick 11 16 cf)]) (.cond 17 .skip (.exit 0))) (.seq (.block 1 (.seq (rg [fa 0 20 0 3,ld 1 21 none 20,mv 2 22 7,ia 3 23 12 21 22,fa 4 24 0 23,ld 5 25 none 24,mv 6 26 1,pu 7 27 (.bin .eql 25 26)]) (.cond 27 (.seq (rg [mv 0 28 7,mv 1 6 28]) .ret) .skip))) (rg [mv 0 18 7,pu 1 19 (.bin .add 18 (ci 1)),mv 2 7 19])))))) (.seq (rg [mv 0 6 (.const (.int .i64 (-1)))]) .ret))⟩
def lB(F:Ids):aD:=⟨8,[.slot 4],.seq (rg [mv 0 4 (.const (.slice none 0 0))]) (.seq (.seq (rg [mv 0 5 0,pu 1 6 (.not 5)]) (.cond 6 (.seq (rg [mv 0 4 (.const (.slice none 0 0))]) .ret) .skip)) (.seq (rg [mv 0 7 1,mv 1 4 7]) .ret))⟩
def kR(F:Ids):aD:=⟨24,[],.seq (rg [mv 0 4 (ci 0)]) (.block 0 (.loop (.seq (.seq (rg [mv 0 5 4,mv 1 6 1,pu 2 7 (.lenSl 6),pu 3 8 (.bin .lss 5 7),mv 4 9 8,gp 5 10 9 true (.move 0),gp 6 11 9 true (.nilCheck 10),gp 7 12 9 true (.fieldAddr 4 11),gl 8 13 9 true none 12,gp 9 14 9 true (.bin .eql 13 (ci 0)),pu 10 15 (.pick 9 14 cf)]) (.cond 15 .skip (.exit 0))) (.seq (.block 1 (rg [mv 0 18 0,mv 1 19 1,mv 2 20 4,ia 3 21 15 19 20,ld 4 22 (some 15) 21,ca 5 23 F.s_l3Env_stmt [18,22]])) (rg [mv 0 16 4,pu 1 17 (.bin .add 16 (ci 1)),mv 2 4 17])))))⟩
def iH(F:Ids):aD:=⟨9,[],.seq (rg [mv 0 4 1,pu 1 5 (.bin .gtr 4 (ci 0))]) (.cond 5 (rg [mv 0 6 0,mv 1 7 1,ca 2 8 F.s_l3Env_fail [6,7]]) .skip)⟩
def nA(F:Ids):aD:=⟨18,[.slot 4],.seq (rg [mv 0 4 cf]) (.seq (.seq (rg [mv 0 5 (ci 0)]) (.block 0 (.loop (.seq (.seq (rg [mv 0 6 5,mv 1 7 0,pu 2 8 (.lenSl 7),pu 3 9 (.bin .lss 6 8)]) (.cond 9 .skip (.exit 0))) (.seq (.block 1 (.seq (rg [mv 0 12 0,mv 1 13 5,ia 2 14 1 12 13,ld 3 15 none 14,mv 4 16 1,pu 5 17 (.bin .eql 15 16)]) (.cond 17 (.seq (rg [mv 0 4 ct]) .ret) .skip))) (rg [mv 0 10 5,pu 1 11 (.bin .add 10 (ci 1)),mv 2 5 11])))))) (.seq (rg [mv 0 4 cf]) .ret))⟩
structure Lib(P:Program)(F:Ids):Prop where
 s_l71Some:bT P F.s_l71Some (nq F)
 s_l6Open:bT P F.s_l6Open (mw F)
 i_progForm:bT P F.i_progForm (mB F)
 s_l2Form:bT P F.s_l2Form (ph F)
 s_l71Prog:bT P F.s_l71Prog (nu F)
 s_l6Rd_pick:bT P F.s_l6Rd_pick (gG F)
 s_l71Bend:bT P F.s_l71Bend (nx F)
 i_fnForm:bT P F.i_fnForm (pD F)
 s_l2Fn:bT P F.s_l2Fn (sq F)
 s_l71Fn:bT P F.s_l71Fn (qW F)
 s_l6Rd_of:bT P F.s_l6Rd_of (ny F)
 s_l71Deep:bT P F.s_l71Deep (nw F)
 i_nameForm:bT P F.i_nameForm (je F)
 i_TypeOk:bT P F.i_TypeOk (pF F)
 i_stmtsForm:bT P F.i_stmtsForm (lT F)
 i_placeForm:bT P F.i_placeForm (lU F)
 i_exprNothing:bT P F.i_exprNothing (jR F)
 i_exprForm:bT P F.i_exprForm (jf F)
 i_placeNothing:bT P F.i_placeNothing (js F)
 i_typeIsNum:bT P F.i_typeIsNum (lS F)
 i_stmtOf:bT P F.i_stmtOf (pC F)
 i_exprOf:bT P F.i_exprOf (pE F)
 s_l2Name:bT P F.s_l2Name (kT F)
 s_TypeOk:bT P F.s_TypeOk (po F)
 s_l2Body:bT P F.s_l2Body (kV F)
 s_l2Count:bT P F.s_l2Count (jD F)
 s_l2Place:bT P F.s_l2Place (nB F)
 s_l2NoExpr:bT P F.s_l2NoExpr (my F)
 s_l2None:bT P F.s_l2None (pf F)
 s_l2Expr:bT P F.s_l2Expr (kU F)
 s_l71Type:bT P F.s_l71Type (gZ F)
 s_l3Start:bT P F.s_l3Start (nz F)
 s_l71Mk_body:bT P F.s_l71Mk_body (kF F)
 s_l71Mk_place:bT P F.s_l71Mk_place (jP F)
 s_l3Env_copy:bT P F.s_l3Env_copy (kP F)
 s_l3Env_use:bT P F.s_l3Env_use (lO F)
 s_l3Env_outside:bT P F.s_l3Env_outside (fA F)
 s_l71Mk_expr:bT P F.s_l71Mk_expr (kD F)
 s_l3Env_same:bT P F.s_l3Env_same (kI F)
 s_l3Env_expr:bT P F.s_l3Env_expr (kN F)
 i_typeFits:bT P F.i_typeFits (jd F)
 i_argsForm:bT P F.i_argsForm (mE F)
 i_pathForm:bT P F.i_pathForm (mD F)
 i_stmtNothing:bT P F.i_stmtNothing (jQ F)
 s_l1Deep:bT P F.s_l1Deep (kW F)
 s_l2Stmt:bT P F.s_l2Stmt (pe F)
 s_l6In:bT P F.s_l6In (qp F)
 s_l3Env_add:bT P F.s_l3Env_add (j7 F)
 s_l71Mk_stmt:bT P F.s_l71Mk_stmt (kA F)
 s_l3Env_stmt:bT P F.s_l3Env_stmt (kG F)
 s_l71Path:bT P F.s_l71Path (nv F)
 s_l3Env_find:bT P F.s_l3Env_find (kL F)
 s_l3Env_fail:bT P F.s_l3Env_fail (kM F)
 s_TypeAt:bT P F.s_TypeAt (pq F)
 s_l3Env_ends:bT P F.s_l3Env_ends (kO F)
 s_l1Same:bT P F.s_l1Same (pk F)
 s_l3Env_num:bT P F.s_l3Env_num (lP F)
 i_argForm:bT P F.i_argForm (nG F)
 s_l2Args:bT P F.s_l2Args (pj F)
 s_l71Mk_pick:bT P F.s_l71Mk_pick (kB F)
 s_l71Mk_name:bT P F.s_l71Mk_name (kC F)
 s_l71Mk_call:bT P F.s_l71Mk_call (kE F)
 s_l3Env_call:bT P F.s_l3Env_call (kQ F)
 s_l3Env_pick:bT P F.s_l3Env_pick (kJ F)
 s_l3Env_fork:bT P F.s_l3Env_fork (kK F)
 s_l1Copy:bT P F.s_l1Copy (pm F)
 s_l3Meet:bT P F.s_l3Meet (oZ F)
 s_l3Order:bT P F.s_l3Order (lA F)
 s_l3Fn:bT P F.s_l3Fn (sn F)
 s_l3Loans:bT P F.s_l3Loans (lB F)
 s_l3Env_body:bT P F.s_l3Env_body (kR F)
 s_l3Env_fail0:bT P F.s_l3Env_fail0 (iH F)
 s_l3Among:bT P F.s_l3Among (nA F)
structure bS extends Ids where
 T_i_Type:Nat
 T_k_Fault:Nat
 T_map_string_k_Named:Nat
 g_errCheckLoan:Nat
 g_errCheckName:Nat
 g_errCheckOut:Nat
 g_errCheckType:Nat
 i_CheckLive:Nat
 i_TypeAt:Nat
 i_Type_parts:Nat
 i_partAt_i_Type_:Nat
 i_placesMeet:Nat
 i_progFine:Nat
 i_typeCopy:Nat
 i_typePair:Nat
 i_typeSame:Nat
 k_AppendSeq:Nat
 k_At:Nat
 k_Backward:Nat
 k_Backward_1:Nat
 k_Begin:Nat
 k_Clone:Nat
 k_Collect:Nat
 k_Contains:Nat
 k_Equal:Nat
 k_Fn:Nat
 k_Fns:Nat
 k_Index:Nat
 k_arg:Nat
 k_branch:Nat
 k_call:Nat
 k_called:Nat
 k_callee:Nat
 k_choice:Nat
 k_end:Nat
 k_ends:Nat
 k_ends_1:Nat
 k_expr:Nat
 k_give:Nat
 k_join:Nat
 k_liveNames:Nat
 k_mapsClone:Nat
 k_number:Nat
 k_out:Nat
 k_params:Nat
 k_part:Nat
 k_pick:Nat
 k_picked:Nat
 k_stmt:Nat
 k_stmts:Nat
 k_use:Nat
 k_ways:Nat
 l_lhGiven:Nat
 l_lhHas:Nat
 l_lhTexts:Nat
 maps_clone:Nat
 s_CheckLive:Nat
 s_CheckOf:Nat
 s_DrawCheckLive:Nat
 s_l3Code:Nat
 s_l71Spot:Nat
def kg1(F:bS):aX:=.seq (rg [mv 0 52 0,mv 1 53 0,nc 2 54 53,fa 3 55 1 54,ld 4 56 none 55,mv 5 57 1,⟨6,some 58,none,.lits 1 1 [.string (bl [])] [(0,(1,57))],[]⟩,ef 7 59 (.appendM 1 16 56 58),nc 8 60 52,fa 9 61 1 60,en 10 (.store 1 61 59)]) (.seq (.region true [mv 0 62 0,nc 1 63 62,fa 2 64 2 63,ld 3 65 none 64,mv 4 66 1,ld 5 67 (some 6) 5,en 6 (.callX .mapSet [65,66,67])]) (.seq (rg [mv 0 6 (.const .nilIface)]) .ret))
def kg2(F:bS):aX:=.seq (.seq (rg [mv 0 49 8,pu 1 50 (.lenSl 49),mv 2 51 (ci 0)]) (.block 2 (.loop (.seq (rg [pu 0 52 (.bin .lss 51 50)]) (.seq (.cond 52 .skip (.exit 2)) (.seq (.block 3 (.seq (rg [ia 0 53 1 49 51,ld 1 54 none 53,mv 2 12 54]) (rg [mv 0 55 0,mv 1 56 12,ca 2 57 F.k_end [55,56]]))) (rg [pu 0 58 (.bin .add 51 (ci 1)),mv 1 51 58]))))))) (.seq (.seq (rg [mv 0 59 0,nc 1 60 59,fa 2 61 6 60,ld 3 62 none 61,pu 4 63 (.isNil0 .nilFunc true 62)]) (.cond 63 (rg [mv 0 64 0,nc 1 65 64,fa 2 66 6 65,ld 3 67 none 66,mv 4 68 8,ef 5 69 (.callX .clos [67,68])]) .skip)) (.seq (rg [ld 0 70 (some 1) 6,en 1 (.store 1 4 70),mv 2 5 (.const .nilIface)]) .ret))
def kg3(F:bS):aX:=.seq (.seq (rg [mv 0 27 0,nc 1 28 27,fa 2 29 4 28,ld 3 30 none 29,pu 4 31 (.lenSl 30),mv 5 32 (ci 0)]) (.block 0 (.loop (.seq (rg [pu 0 33 (.bin .lss 32 31)]) (.seq (.cond 33 .skip (.exit 0)) (.seq (.block 1 (.seq (rg [ia 0 34 2 30 32,ld 1 35 (some 2) 34,ef 2 10 (.alloc [.string (bl []),.slice none 0 0]),en 3 (.store 2 10 35)]) (.seq (rg [ld 0 36 (some 2) 10,ld 1 37 (some 2) 3,ca 2 38 F.i_placesMeet [36,37],mv 3 39 38,gp 4 40 39 false (.move 8),gp 5 41 39 false (.fieldAddr 0 10),gl 6 42 39 false none 41,⟨7,some 43,some (39,false),.eff (.call F.k_Contains [40,42]),[]⟩,pu 8 44 (.pick 39 ct 43)]) (.cond 44 (rg [mv 0 45 0,nc 1 46 45,fa 2 47 5 46,en 3 (.store 1 47 ct)]) .skip)))) (rg [pu 0 48 (.bin .add 32 (ci 1)),mv 1 32 48]))))))) (kg2 F)
def jc(F:bS):aD:=⟨26,[.cell 2 (some 1),.slot 3,.slot 4],.seq (rg [ef 0 2 (.alloc [.slice none 0 0]),mv 1 3 (ci 0),mv 2 4 (ci 0)]) (.seq (rg [mv 0 9 0,ca 1 10 F.s_l6Open [9],mv 2 5 10]) (.seq (rg [mv 0 12 5,ca 1 13 F.s_l71Spot [12],mv 2 11 13,pu 3 14 (.extract 11 0),pu 4 15 (.extract 11 1),pu 5 16 (.extract 11 2),ef 6 6 (.alloc [.slice none 0 0]),en 7 (.store 1 6 14),mv 8 7 15,mv 9 8 16]) (.seq (.seq (rg [mv 0 17 5,ca 1 18 F.s_l6Rd_pick [17,ci 5],pu 2 19 (.bin .eql 18 (ci 0))]) (.cond 19 (rg [mv 0 20 5,ld 1 21 (some 1) 6,ca 2 22 F.s_l71Bend [20,21],en 3 (.store 1 6 22)]) .skip)) (.seq (rg [ld 0 23 (some 1) 6,mv 1 24 7,mv 2 25 8,en 3 (.store 1 2 23),mv 4 3 24,mv 5 4 25]) .ret))))⟩
def lQ(F:bS):aD:=⟨85,[.slot 6],.seq (rg [ef 0 3 (.box 0),mv 1 6 (.const (.slice none 0 0))]) (.seq (rg [ef 0 12 (.buildSlice 1 0 [.string (bl [])] []),mv 1 7 12]) (.seq (rg [ld 0 14 (some 1) 3,ca 1 15 F.s_CheckOf [14],mv 2 13 15,pu 3 16 (.extract 13 0),pu 4 17 (.extract 13 1),mv 5 8 16,mv 6 9 17]) (.seq (.seq (rg [mv 0 18 8,pu 1 19 (.bin .gtr 18 (ci 0)),mv 2 20 19,gp 3 21 20 false (.move 1),gp 4 22 20 false (.fieldAddr 0 3),gl 5 23 20 false none 22,gp 6 24 20 false (.lenSl 23),gp 7 25 20 false (.bin .sub 24 (ci 1)),⟨8,some 26,some (20,false),.eff (.call F.s_l6In [21,ci 0,25]),[]⟩,gp 9 27 20 false (.not 26),pu 10 28 (.pick 20 ct 27),mv 11 29 28,gp 12 30 29 false (.move 2),gp 13 31 29 false (.fieldAddr 0 3),gl 14 32 29 false none 31,gp 15 33 29 false (.move 1),gp 16 34 29 false (.indexAddr 12 32 33),gp 17 35 29 false (.fieldAddr 4 34),gl 18 36 29 false none 35,gp 19 37 29 false (.lenSl 36),⟨20,some 38,some (29,false),.eff (.call F.s_l6In [30,ci 0,37]),[]⟩,gp 21 39 29 false (.not 38),pu 22 40 (.pick 29 ct 39)]) (.cond 40 (.seq (rg [mv 0 41 7,mv 1 6 41]) .ret) .skip)) (.seq (rg [ld 0 42 (some 1) 3,mv 1 43 1,ca 2 44 F.s_l3Start [42,43],mv 3 10 44]) (.seq (rg [mv 0 45 10,fa 1 46 0 3,ld 2 47 none 46,mv 3 48 1,ia 4 49 12 47 48,fa 5 50 4 49,ld 6 51 none 50,mv 7 52 2,pu 8 53 (.slice 15 51 none (some 52)),ca 9 54 F.s_l3Env_body [45,53]]) (.seq (.seq (rg [mv 0 11 (ci 0)]) (.block 0 (.loop (.seq (.seq (rg [mv 0 55 11,mv 1 56 10,nc 2 57 56,fa 3 58 2 57,ld 4 59 none 58,pu 5 60 (.lenSl 59),pu 6 61 (.bin .lss 55 60)]) (.cond 61 .skip (.exit 0))) (.seq (.block 1 (.seq (rg [mv 0 64 10,nc 1 65 64,fa 2 66 2 65,ld 3 67 none 66,mv 4 68 11,ia 5 69 6 67 68,fa 6 70 5 69,ld 7 71 none 70,pu 8 72 (.not 71)]) (.cond 72 (rg [mv 0 73 7,mv 1 74 10,nc 2 75 74,fa 3 76 2 75,ld 4 77 none 76,mv 5 78 11,ia 6 79 6 77 78,fa 7 80 0 79,ld 8 81 none 80,⟨9,some 82,none,.lits 1 1 [.string (bl [])] [(0,(1,81))],[]⟩,ef 10 83 (.appendM 1 16 73 82),mv 11 7 83]) .skip))) (rg [mv 0 62 11,pu 1 63 (.bin .add 62 (ci 1)),mv 2 11 63])))))) (.seq (rg [mv 0 84 7,mv 1 6 84]) .ret)))))))⟩
def lV(F:bS):aD:=⟨20,[.slot 6],.seq (rg [ef 0 3 (.box 0),mv 1 6 (.const (.slice none 0 0))]) (.seq (rg [ld 0 10 (some 1) 3,mv 1 11 1,mv 2 12 2,ca 3 13 F.k_At [10,11,12],mv 4 9 13,pu 5 14 (.extract 9 0),pu 6 15 (.extract 9 1),mv 7 7 14,mv 8 8 15]) (.seq (.seq (rg [mv 0 16 8,pu 1 17 (.not 16)]) (.cond 17 (.seq (rg [mv 0 6 (.const (.slice none 0 0))]) .ret) .skip)) (.seq (rg [mv 0 18 7,ca 1 19 F.k_liveNames [18],mv 2 6 19]) .ret)))⟩
def nD(F:bS):aD:=⟨26,[.slot 4],.seq (rg [mv 0 4 cf]) (.seq (.seq (rg [mv 0 6 0,pu 1 7 (.lenSl 6),mv 2 8 1,pu 3 9 (.lenSl 8),pu 4 10 (.bin .neq 7 9)]) (.cond 10 (.seq (rg [mv 0 4 cf]) .ret) .skip)) (.seq (.seq (rg [mv 0 5 (ci 0)]) (.block 0 (.loop (.seq (.seq (rg [mv 0 11 5,mv 1 12 0,pu 2 13 (.lenSl 12),pu 3 14 (.bin .lss 11 13)]) (.cond 14 .skip (.exit 0))) (.seq (.block 1 (.seq (.region true [mv 0 17 0,mv 1 18 5,ia 2 19 1 17 18,ld 3 20 none 19,mv 4 21 1,mv 5 22 5,ia 6 23 1 21 22,ld 7 24 none 23,pu 8 25 (.bin .neq 20 24)]) (.cond 25 (.seq (rg [mv 0 4 cf]) .ret) .skip))) (rg [mv 0 15 5,pu 1 16 (.bin .add 15 (ci 1)),mv 2 5 16])))))) (.seq (rg [mv 0 4 ct]) .ret)))⟩
def nE(F:bS):aD:=⟨47,[.slot 4],.seq (rg [ef 0 2 (.box 0),mv 1 4 (.const (.slice none 0 0))]) (.seq (rg [ef 0 8 (.buildSlice 1 0 [.string (bl [])] []),mv 1 5 8]) (.seq (.seq (rg [mv 0 6 (ci 0)]) (.block 0 (.loop (.seq (.seq (rg [mv 0 9 6,fa 1 10 1 2,ld 2 11 none 10,pu 3 12 (.lenSl 11),pu 4 13 (.bin .lss 9 12)]) (.cond 13 .skip (.exit 0))) (.seq (.block 1 (rg [mv 0 16 5,fa 1 17 1 2,ld 2 18 none 17,mv 3 19 6,ia 4 20 3 18 19,fa 5 21 0 20,ld 6 22 none 21,⟨7,some 23,none,.lits 1 1 [.string (bl [])] [(0,(1,22))],[]⟩,ef 8 24 (.appendM 1 16 16 23),mv 9 5 24])) (rg [mv 0 14 6,pu 1 15 (.bin .add 14 (ci 1)),mv 2 6 15])))))) (.seq (.seq (rg [mv 0 7 (ci 0)]) (.block 2 (.loop (.seq (.seq (rg [mv 0 25 7,mv 1 26 1,pu 2 27 (.bin .lss 25 26)]) (.cond 27 .skip (.exit 2))) (.seq (.block 3 (.seq (rg [fa 0 30 4 2,ld 1 31 none 30,mv 2 32 7,ia 3 33 15 31 32,fa 4 34 1 33,ld 5 35 none 34,pu 6 36 (.bin .neq 35 (.const (.string (bl []))))]) (.cond 36 (rg [mv 0 37 5,fa 1 38 4 2,ld 2 39 none 38,mv 3 40 7,ia 4 41 15 39 40,fa 5 42 1 41,ld 6 43 none 42,⟨7,some 44,none,.lits 1 1 [.string (bl [])] [(0,(1,43))],[]⟩,ef 8 45 (.appendM 1 16 37 44),mv 9 5 45]) .skip))) (rg [mv 0 28 7,pu 1 29 (.bin .add 28 (ci 1)),mv 2 7 29])))))) (.seq (rg [mv 0 46 5,mv 1 4 46]) .ret))))⟩
def qX(F:bS):aD:=⟨18,[.slot 4],.seq (rg [mv 0 4 cf]) (.seq (.seq (rg [mv 0 5 (ci 0)]) (.block 0 (.loop (.seq (.seq (rg [mv 0 6 5,mv 1 7 0,pu 2 8 (.lenSl 7),pu 3 9 (.bin .lss 6 8)]) (.cond 9 .skip (.exit 0))) (.seq (.block 1 (.seq (rg [mv 0 12 0,mv 1 13 5,ia 2 14 1 12 13,ld 3 15 none 14,mv 4 16 1,pu 5 17 (.bin .eql 15 16)]) (.cond 17 (.seq (rg [mv 0 4 ct]) .ret) .skip))) (rg [mv 0 10 5,pu 1 11 (.bin .add 10 (ci 1)),mv 2 5 11])))))) (.seq (rg [mv 0 4 cf]) .ret))⟩
def nk(F:bS):aD:=⟨55,[.cell 2 (some 1),.slot 3,.slot 4],.seq (rg [ef 0 2 (.alloc [.slice none 0 0]),mv 1 3 (ci 0),mv 2 4 (ci 0)]) (.seq (rg [mv 0 8 0,ca 1 9 F.s_l71Some [8],ef 2 5 (.alloc [.slice none 0 0]),en 3 (.store 1 5 9)]) (.seq (rg [mv 0 10 0,fa 1 11 0 5,ld 2 12 none 11,pu 3 13 (.lenSl 12),ca 4 14 F.s_l6Rd_pick [10,13],mv 5 6 14]) (.seq (rg [mv 0 15 0,fa 1 16 0 5,ld 2 17 none 16,mv 3 18 6,ia 4 19 12 17 18,fa 5 20 4 19,ld 6 21 none 20,pu 7 22 (.lenSl 21),pu 8 23 (.bin .add 22 (ci 1)),ca 9 24 F.s_l6Rd_pick [15,23],mv 10 7 24]) (.seq (.seq (rg [mv 0 25 0,ca 1 26 F.s_l6Rd_pick [25,ci 20]]) (.block 0 (.seq (rg [pu 0 28 (.bin .eql 26 (ci 0)),mv 1 27 28]) (.cond 27 (.region true [fa 0 29 0 5,⟨1,some 30,none,.load (.load none 29),[5]⟩,pu 2 31 (.lenSl 30),⟨3,some 32,none,.lits 1 2 [.int .i64 0] [(0,(1,.const (.int .i64 (-1)))),(1,(1,31))],[]⟩,mv 4 33 0,⟨5,some 34,none,.eff (.call F.s_l6Rd_pick [33,ci 2]),[1]⟩,ia 6 35 1 32 34,ld 7 36 none 35,mv 8 6 36]) (.seq (rg [pu 0 38 (.bin .eql 26 (ci 1)),mv 1 37 38]) (.cond 37 (.region true [fa 0 39 0 5,⟨1,some 40,none,.load (.load none 39),[10]⟩,mv 2 41 6,ia 3 42 12 40 41,fa 4 43 4 42,⟨5,some 44,none,.load (.load none 43),[10]⟩,pu 6 45 (.lenSl 44),pu 7 46 (.bin .add 45 (ci 1)),⟨8,some 47,none,.lits 1 2 [.int .i64 0] [(0,(1,.const (.int .i64 (-1)))),(1,(1,46))],[]⟩,mv 9 48 0,⟨10,some 49,none,.eff (.call F.s_l6Rd_pick [48,ci 2]),[1,5]⟩,ia 11 50 1 47 49,ld 12 51 none 50,mv 13 7 51]) .skip)))))) (.seq (rg [ld 0 52 (some 1) 5,mv 1 53 6,mv 2 54 7,en 3 (.store 1 2 52),mv 4 3 53,mv 5 4 54]) .ret)))))⟩
def nC(F:bS):aD:=⟨23,[.slot 2,.slot 3],.seq (rg [ef 0 1 (.box 0),mv 1 2 (ci 0),mv 2 3 (ci 0)]) (.seq (.seq (rg [ld 0 6 (some 1) 1,ca 1 7 F.s_l2Form [6],pu 2 8 (.not 7)]) (.cond 8 (.seq (rg [mv 0 2 (ci 1),mv 1 3 (ci 0)]) .ret) .skip)) (.seq (.seq (rg [mv 0 4 (ci 0)]) (.block 0 (.loop (.seq (.seq (rg [mv 0 9 4,fa 1 10 0 1,ld 2 11 none 10,pu 3 12 (.lenSl 11),pu 4 13 (.bin .lss 9 12)]) (.cond 13 .skip (.exit 0))) (.seq (.block 1 (.seq (rg [ld 0 16 (some 1) 1,mv 1 17 4,ca 2 18 F.s_l3Code [16,17],mv 3 5 18]) (.seq (rg [mv 0 19 5,pu 1 20 (.bin .gtr 19 (ci 0))]) (.cond 20 (.seq (rg [mv 0 21 5,mv 1 22 4,mv 2 2 21,mv 3 3 22]) .ret) .skip)))) (rg [mv 0 14 4,pu 1 15 (.bin .add 14 (ci 1)),mv 2 4 15])))))) (.seq (rg [mv 0 2 (ci 0),mv 1 3 (ci 0)]) .ret)))⟩
def xX(F:bS):aD:=⟨63,[.slot 6,.slot 7],.seq (rg [ef 0 3 (.box 0),mv 1 6 (.const (.pointer none)),mv 2 7 cf]) (.seq (.seq (rg [ld 0 10 (some 1) 3,ca 1 11 F.i_progFine [10],pu 2 12 (.not 11),mv 3 13 12,gp 4 14 13 false (.move 1),gp 5 15 13 false (.bin .lss 14 (ci 0)),pu 6 16 (.pick 13 ct 15),mv 7 17 16,gp 8 18 17 false (.move 1),gp 9 19 17 false (.fieldAddr 0 3),gl 10 20 17 false none 19,gp 11 21 17 false (.lenSl 20),gp 12 22 17 false (.bin .geq 18 21),pu 13 23 (.pick 17 ct 22),mv 14 24 23,gp 15 25 24 false (.move 2),gp 16 26 24 false (.bin .lss 25 (ci 0)),pu 17 27 (.pick 24 ct 26),mv 18 28 27,gp 19 29 28 false (.move 2),gp 20 30 28 false (.fieldAddr 0 3),gl 21 31 28 false none 30,gp 22 32 28 false (.move 1),gp 23 33 28 false (.indexAddr 12 31 32),gp 24 34 28 false (.fieldAddr 4 33),gl 25 35 28 false none 34,gp 26 36 28 false (.lenSl 35),gp 27 37 28 false (.bin .gtr 29 36),pu 28 38 (.pick 28 ct 37)]) (.cond 38 (.seq (rg [mv 0 6 (.const (.pointer none)),mv 1 7 cf]) .ret) .skip)) (.seq (rg [fa 0 39 0 3,ld 1 40 none 39,mv 2 41 1,ia 3 42 12 40 41,ld 4 43 (some 12) 42,ef 5 8 (.alloc [.string (bl []),.slice none 0 0,.bool false,.slice none 0 0,.slice none 0 0,.int .i64 0,.int .i64 0,.string (bl []),.slice none 0 0,.slice none 0 0,.string (bl []),.slice none 0 0]),en 6 (.store 12 8 43)]) (.seq (rg [fa 0 44 0 3,ld 1 45 none 44,mv 2 46 1,pu 3 47 (.slice 12 45 none (some 46)),ca 4 48 F.k_Begin [47],mv 5 9 48]) (.seq (.seq (rg [mv 0 49 9,ld 1 50 (some 12) 8,ca 2 51 F.k_params [49,50],pu 3 52 (.isNil true 51),mv 4 53 52,gp 5 54 53 false (.move 9),gp 6 55 53 false (.fieldAddr 4 8),gl 7 56 53 false none 55,gp 8 57 53 false (.move 2),gp 9 58 53 false (.slice 15 56 none (some 57)),⟨10,some 59,some (53,false),.eff (.call F.k_stmts [54,58]),[]⟩,gp 11 60 53 false (.isNil true 59),pu 12 61 (.pick 53 ct 60)]) (.cond 61 (.seq (rg [mv 0 6 (.const (.pointer none)),mv 1 7 cf]) .ret) .skip)) (.seq (rg [mv 0 62 9,mv 1 6 62,mv 2 7 ct]) .ret)))))⟩
def j8(F:bS):aD:=⟨28,[.slot 2],.seq (rg [mv 0 2 (.const (.slice none 0 0))]) (.seq (rg [mv 0 3 (.const (.slice none 0 0))]) (.seq (.seq (rg [mv 0 6 0,nc 1 7 6,fa 2 8 1 7,ld 3 9 none 8,pu 4 10 (.lenSl 9),mv 5 11 (ci 0)]) (.block 0 (.loop (.seq (rg [pu 0 12 (.bin .lss 11 10)]) (.seq (.cond 12 .skip (.exit 0)) (.seq (.block 1 (.seq (rg [ia 0 13 1 9 11,ld 1 14 none 13,mv 2 5 14]) (.seq (rg [mv 0 15 0,nc 1 16 15,fa 2 17 2 16,ld 3 18 none 17,mv 4 19 5,ef 5 20 (.callX (.lookup (.agg [.lit (.slice none 0 0),.lit (.bool false),.lit (.bool false),.lit (.bool false),.lit (.bool false),.lit (.slice none 0 0)]) false) [18,19]),pu 6 21 (.field 3 none 20)]) (.cond 21 (rg [mv 0 22 3,mv 1 23 5,⟨2,some 24,none,.lits 1 1 [.string (bl [])] [(0,(1,23))],[]⟩,ef 3 25 (.appendM 1 16 22 24),mv 4 3 25]) .skip)))) (rg [pu 0 26 (.bin .add 11 (ci 1)),mv 1 11 26]))))))) (.seq (rg [mv 0 27 3,mv 1 2 27]) .ret)))⟩
def pd(F:bS):aD:=⟨73,[.slot 4],.seq (rg [ef 0 2 (.box 0),mv 1 4 (ci 0)]) (.seq (rg [fa 0 7 0 2,ld 1 8 none 7,mv 2 9 1,ia 3 10 12 8 9,ld 4 11 (some 12) 10,ef 5 5 (.alloc [.string (bl []),.slice none 0 0,.bool false,.slice none 0 0,.slice none 0 0,.int .i64 0,.int .i64 0,.string (bl []),.slice none 0 0,.slice none 0 0,.string (bl []),.slice none 0 0]),en 6 (.store 12 5 11)]) (.seq (.seq (rg [ld 0 12 (some 1) 2,fa 1 13 0 5,ld 2 14 none 13,mv 3 15 1,ca 4 16 F.s_l3Fn [12,14,15],pu 5 17 (.bin .geq 16 (ci 0))]) (.cond 17 (.seq (rg [mv 0 4 (ci 2)]) .ret) .skip)) (.seq (rg [ld 0 18 (some 1) 2,mv 1 19 1,ca 2 20 F.s_l3Start [18,19],mv 3 6 20]) (.seq (rg [mv 0 21 6,fa 1 22 4 5,ld 2 23 none 22,ca 3 24 F.s_l3Env_body [21,23]]) (.seq (.seq (rg [mv 0 25 6,nc 1 26 25,fa 2 27 4 26,ld 3 28 none 27,pu 4 29 (.bin .gtr 28 (ci 0))]) (.cond 29 (.seq (rg [mv 0 30 6,nc 1 31 30,fa 2 32 4 31,ld 3 33 none 32,mv 4 4 33]) .ret) .skip)) (.seq (.seq (rg [fa 0 34 2 5,ld 1 35 none 34,pu 2 36 (.not 35)]) (.cond 36 (.seq (.region true [mv 0 37 6,mv 1 38 6,fa 2 39 5 5,ld 3 40 (some 5) 39,⟨4,some 41,none,.eff (.call F.s_l3Env_expr [38,40]),[6]⟩,fa 5 42 3 5,⟨6,some 43,none,.load (.load (some 1) 42),[4]⟩,ca 7 44 F.s_l3Env_same [37,41,43]]) (.seq (rg [mv 0 45 6,nc 1 46 45,fa 2 47 4 46,ld 3 48 none 47,mv 4 4 48]) .ret)) .skip)) (.seq (.region true [mv 0 49 6,mv 1 50 6,fa 2 51 10 5,ld 3 52 (some 2) 51,⟨4,some 53,none,.eff (.call F.s_l3Env_use [50,52]),[6]⟩,fa 5 54 3 5,⟨6,some 55,none,.load (.load (some 1) 54),[4]⟩,ca 7 56 F.s_l3Env_same [49,53,55]]) (.seq (.seq (rg [mv 0 57 6,nc 1 58 57,fa 2 59 4 58,ld 3 60 none 59,pu 4 61 (.bin .eql 60 (ci 0)),mv 5 62 61,gp 6 63 62 true (.move 6),gp 7 64 62 true (.fieldAddr 10 5),gl 8 65 62 true (some 2) 64,⟨9,some 66,some (62,true),.eff (.call F.s_l3Env_outside [63,65]),[]⟩,gp 10 67 62 true (.not 66),pu 11 68 (.pick 62 67 cf)]) (.cond 68 (.seq (rg [mv 0 4 (ci 5)]) .ret) .skip)) (.seq (rg [mv 0 69 6,nc 1 70 69,fa 2 71 4 70,ld 3 72 none 71,mv 4 4 72]) .ret)))))))))⟩
def mC(F:bS):aD:=⟨10,[.slot 2],.seq (rg [ef 0 1 (.box 0),mv 1 2 cf]) (.seq (rg [ld 0 3 (some 1) 1,ca 1 4 F.i_progForm [3],mv 2 5 4,gl 3 6 5 true (some 1) 1,⟨4,some 7,some (5,true),.eff (.call F.k_Fns [6]),[]⟩,gp 5 8 5 true (.isNil false 7),pu 6 9 (.pick 5 8 cf),mv 7 2 9]) .ret)⟩
def rb(F:bS):aD:=⟨8,[.slot 2],.seq (rg [mv 0 2 (.const (.pointer none))]) (.seq (rg [mv 0 3 0,ef 1 4 (.callX .mkMap []),ef 2 5 (.callX .mkMap []),pu 3 6 (.build [.slice none 0 0,.slice none 0 0,.map none,.map none,.slice none 0 0,.bool false,.nilFunc] [(0,(1,3)),(2,(1,4)),(3,(1,5))]),ef 4 7 (.box 6),mv 5 2 7]) .ret)⟩
def px(F:bS):aD:=⟨32,[.slot 4],.seq (rg [ef 0 3 (.box 1),mv 1 4 (.const .nilIface)]) (.seq (.seq (rg [fa 0 9 1 3,ld 1 10 none 9,pu 2 11 (.lenSl 10),mv 3 12 (ci 0)]) (.block 0 (.loop (.seq (rg [pu 0 13 (.bin .lss 12 11)]) (.seq (.cond 13 .skip (.exit 0)) (.seq (.block 1 (.seq (rg [ia 0 14 3 10 12,ld 1 15 (some 3) 14,ef 2 6 (.alloc [.string (bl []),.bool false,.slice none 0 0]),en 3 (.store 3 6 15)]) (.seq (rg [fa 0 16 2 6,ld 1 17 (some 1) 16,fa 2 18 1 6,ld 3 19 none 18,fa 4 20 1 6,ld 5 21 none 20,pu 6 22 (.build [.slice none 0 0,.bool false,.bool false,.bool false,.bool false,.slice none 0 0] [(0,(1,17)),(1,(1,ct)),(2,(1,19)),(4,(1,21))]),ef 7 7 (.alloc [.slice none 0 0,.bool false,.bool false,.bool false,.bool false,.slice none 0 0]),en 8 (.store 6 7 22)]) (.seq (rg [mv 0 23 0,fa 1 24 0 6,ld 2 25 none 24,ld 3 26 (some 6) 7,ca 4 27 F.k_give [23,25,26],mv 5 8 27]) (.seq (rg [mv 0 28 8,pu 1 29 (.isNil true 28)]) (.cond 29 (.seq (rg [mv 0 30 8,mv 1 4 30]) .ret) .skip)))))) (rg [pu 0 31 (.bin .add 12 (ci 1)),mv 1 12 31]))))))) (.seq (rg [mv 0 4 (.const .nilIface)]) .ret))⟩
def qY(F:bS):aD:=⟨21,[.slot 4],.seq (rg [mv 0 4 (.const .nilIface)]) (.seq (.seq (rg [mv 0 8 1,pu 1 9 (.lenSl 8),mv 2 10 (ci 0)]) (.block 0 (.loop (.seq (rg [pu 0 11 (.bin .lss 10 9)]) (.seq (.cond 11 .skip (.exit 0)) (.seq (.block 1 (.seq (rg [ia 0 12 15 8 10,ld 1 13 (some 15) 12,ef 2 6 (.alloc [.int .i64 0,.string (bl []),.string (bl []),.slice none 0 0,.string (bl []),.slice none 0 0,.int .i64 0,.int .i64 0,.string (bl []),.slice none 0 0,.slice none 0 0,.string (bl []),.slice none 0 0,.slice none 0 0,.slice none 0 0]),en 3 (.store 15 6 13)]) (.seq (rg [mv 0 14 0,ld 1 15 (some 15) 6,ca 2 16 F.k_stmt [14,15],mv 3 7 16]) (.seq (rg [mv 0 17 7,pu 1 18 (.isNil true 17)]) (.cond 18 (.seq (rg [mv 0 19 7,mv 1 4 19]) .ret) .skip))))) (rg [pu 0 20 (.bin .add 10 (ci 1)),mv 1 10 20]))))))) (.seq (rg [mv 0 4 (.const .nilIface)]) .ret))⟩
def uZ(F:bS):aD:=⟨22,[.slot 2],.seq (rg [ef 0 1 (.box 0),mv 1 2 (.const .nilIface)]) (.seq (.seq (rg [fa 0 5 0 1,ld 1 6 none 5,pu 2 7 (.lenSl 6),mv 3 8 (ci 0)]) (.block 0 (.loop (.seq (rg [pu 0 9 (.bin .lss 8 7)]) (.seq (.cond 9 .skip (.exit 0)) (.seq (.block 1 (.seq (rg [mv 0 10 8,mv 1 3 10]) (.seq (rg [ld 0 11 (some 1) 1,mv 1 12 3,ca 2 13 F.k_Fn [11,12],mv 3 4 13]) (.seq (rg [mv 0 14 4,pu 1 15 (.isNil true 14)]) (.cond 15 (.seq (rg [mv 0 16 3,mv 1 17 4,pu 2 18 (.build [.int .i64 0,.nilIface] [(0,(1,16)),(1,(1,17))]),ef 3 19 (.box 18),pu 4 20 (.mkIface F.T_k_Fault 19),mv 5 2 20]) .ret) .skip))))) (rg [pu 0 21 (.bin .add 8 (ci 1)),mv 1 8 21]))))))) (.seq (rg [mv 0 2 (.const .nilIface)]) .ret))⟩
def sA(F:bS):aD:=⟨68,[.slot 6],.seq (rg [ef 0 5 (.box 2),mv 1 6 (.const .nilIface)]) (.seq (.seq (rg [mv 0 9 0,nc 1 10 9,fa 2 11 3 10,ld 3 12 none 11,mv 4 13 1,ef 5 14 (.callX (.lookup (.lit (.int .i64 0)) false) [12,13]),pu 6 15 (.bin .gtr 14 (ci 0))]) (.cond 15 (.seq (rg [ld 0 16 none (.glob F.g_errCheckName),mv 1 6 16]) .ret) .skip)) (.seq (rg [mv 0 17 0,nc 1 18 17,fa 2 19 3 18,ld 3 20 none 19,mv 4 21 1,en 5 (.callX .mapSet [20,21,ci 1])]) (.seq (rg [fa 0 22 3 5,en 1 (.store 1 22 ct)]) (.seq (.seq (rg [fa 0 23 1 5,ld 1 24 none 23,pu 2 25 (.not 24),mv 3 26 25,gp 4 27 26 true (.fieldAddr 2 5),gl 5 28 26 true none 27,pu 6 29 (.pick 26 28 cf)]) (.cond 29 (.seq (rg [fa 0 30 4 5,en 1 (.store 1 30 ct)]) (.seq (rg [fa 0 31 5 5,ld 1 32 none 31,pu 2 33 (.lenSl 32),mv 3 34 (ci 0)]) (.block 0 (.loop (.seq (rg [pu 0 35 (.bin .lss 34 33)]) (.seq (.cond 35 .skip (.exit 0)) (.seq (.block 1 (.seq (rg [ia 0 36 2 32 34,ld 1 37 (some 2) 36,ef 2 8 (.alloc [.string (bl []),.slice none 0 0]),en 3 (.store 2 8 37)]) (.region true [fa 0 38 4 5,ld 1 39 none 38,mv 2 40 39,gp 3 41 40 true (.move 0),gp 4 42 40 true (.nilCheck 41),gp 5 43 40 true (.fieldAddr 2 42),gl 6 44 40 true none 43,gp 7 45 40 true (.fieldAddr 0 8),gl 8 46 40 true none 45,⟨9,some 47,some (40,true),.eff (.callX (.lookup (.agg [.lit (.slice none 0 0),.lit (.bool false),.lit (.bool false),.lit (.bool false),.lit (.bool false),.lit (.slice none 0 0)]) false) [44,46]),[]⟩,gp 10 48 40 true (.field 4 none 47),pu 11 49 (.pick 40 48 cf),fa 12 50 4 5,en 13 (.store 1 50 49)]))) (rg [pu 0 51 (.bin .add 34 (ci 1)),mv 1 34 51])))))))) .skip)) (kg1 F)))))⟩
def sy(F:bS):aD:=⟨110,[.slot 4],.seq (rg [ef 0 3 (.box 1),mv 1 4 (.const .nilIface)]) (.seq (.seq (rg [ld 0 18 (some 15) 3,ca 1 19 F.i_stmtOf [18]]) (.block 0 (.seq (rg [pu 0 20 (.assertT F.T_i_stmtLet (.aggc [.string (bl []),.int .i64 0,.int .i64 0,.string (bl []),.slice none 0 0,.slice none 0 0]) 19),pu 1 21 (.extract 20 1),pu 2 22 (.extract 20 0)]) (.cond 21 (.seq (rg [ef 0 5 (.alloc [.string (bl []),.int .i64 0,.int .i64 0,.string (bl []),.slice none 0 0,.slice none 0 0]),en 1 (.store 6 5 22)]) (.seq (rg [mv 0 24 0,fa 1 25 1 5,ld 2 26 (some 5) 25,ca 3 27 F.k_expr [24,26],mv 4 23 27,pu 5 28 (.extract 23 0),pu 6 29 (.extract 23 1),ef 7 6 (.alloc [.slice none 0 0]),en 8 (.store 1 6 28),mv 9 7 29]) (.seq (.seq (rg [mv 0 30 7,pu 1 31 (.isNil true 30)]) (.cond 31 (.seq (rg [mv 0 32 7,mv 1 4 32]) .ret) .skip)) (.seq (rg [mv 0 33 0,fa 1 34 0 5,ld 2 35 none 34,ld 3 36 (some 1) 6,pu 4 37 (.build [.slice none 0 0,.bool false,.bool false,.bool false,.bool false,.slice none 0 0] [(0,(1,36))]),ca 5 38 F.k_give [33,35,37],mv 6 4 38]) .ret)))) (.seq (rg [pu 0 39 (.assertT F.T_i_stmtLend (.aggc [.string (bl []),.string (bl []),.slice none 0 0]) 19),pu 1 40 (.extract 39 1),pu 2 41 (.extract 39 0)]) (.cond 40 (.seq (rg [ef 0 8 (.alloc [.string (bl []),.string (bl []),.slice none 0 0]),en 1 (.store 3 8 41)]) (.seq (rg [mv 0 43 0,fa 1 44 1 8,ld 2 45 (some 2) 44,ca 3 46 F.k_use [43,45],mv 4 42 46,pu 5 47 (.extract 42 0),pu 6 48 (.extract 42 1),ef 7 9 (.alloc [.slice none 0 0]),en 8 (.store 1 9 47),mv 9 10 48]) (.seq (.seq (rg [mv 0 49 10,pu 1 50 (.isNil true 49)]) (.cond 50 (.seq (rg [mv 0 51 10,mv 1 4 51]) .ret) .skip)) (.seq (rg [mv 0 52 0,fa 1 53 0 8,ld 2 54 none 53,ld 3 55 (some 1) 9,fa 4 56 1 8,ld 5 57 (some 2) 56,ef 6 58 (.buildSlice 2 1 [.string (bl []),.slice none 0 0] [(0,(2,57))]),pu 7 59 (.build [.slice none 0 0,.bool false,.bool false,.bool false,.bool false,.slice none 0 0] [(0,(1,55)),(2,(1,ct)),(5,(1,58))]),ca 8 60 F.k_give [52,54,59],mv 9 4 60]) .ret)))) (.seq (rg [pu 0 61 (.assertT F.T_i_stmtSet (.aggc [.string (bl []),.slice none 0 0,.int .i64 0,.int .i64 0,.string (bl []),.slice none 0 0,.slice none 0 0]) 19),pu 1 62 (.extract 61 1),pu 2 63 (.extract 61 0)]) (.cond 62 (.seq (rg [ef 0 11 (.alloc [.string (bl []),.slice none 0 0,.int .i64 0,.int .i64 0,.string (bl []),.slice none 0 0,.slice none 0 0]),en 1 (.store 7 11 63)]) (.seq (rg [mv 0 65 0,fa 1 66 2 11,ld 2 67 (some 5) 66,ca 3 68 F.k_expr [65,67],mv 4 64 68,pu 5 69 (.extract 64 0),pu 6 70 (.extract 64 1),ef 7 12 (.alloc [.slice none 0 0]),en 8 (.store 1 12 69),mv 9 13 70]) (.seq (.seq (rg [mv 0 71 13,pu 1 72 (.isNil true 71)]) (.cond 72 (.seq (rg [mv 0 73 13,mv 1 4 73]) .ret) .skip)) (.seq (rg [mv 0 75 0,fa 1 76 0 11,ld 2 77 (some 2) 76,ca 3 78 F.k_use [75,77],mv 4 74 78,pu 5 79 (.extract 74 0),pu 6 80 (.extract 74 1),ef 7 14 (.alloc [.slice none 0 0]),en 8 (.store 1 14 79),mv 9 13 80]) (.seq (.seq (rg [mv 0 81 13,pu 1 82 (.isNil false 81),mv 2 83 82,gl 3 84 83 true (some 1) 12,gl 4 85 83 true (some 1) 14,⟨5,some 86,some (83,true),.eff (.call F.i_typeSame [84,85]),[]⟩,gp 6 87 83 true (.not 86),pu 7 88 (.pick 83 87 cf)]) (.cond 88 (.seq (rg [ld 0 89 none (.glob F.g_errCheckType),mv 1 4 89]) .ret) .skip)) (.seq (rg [mv 0 90 13,mv 1 4 90]) .ret)))))) (.seq (rg [pu 0 91 (.assertT F.T_i_stmtCall (.aggc [.string (bl []),.string (bl []),.slice none 0 0]) 19),pu 1 92 (.extract 91 1),pu 2 93 (.extract 91 0)]) (.cond 92 (.seq (rg [ef 0 15 (.alloc [.string (bl []),.string (bl []),.slice none 0 0]),en 1 (.store 3 15 93)]) (.seq (rg [mv 0 94 0,ld 1 95 (some 3) 15,ca 2 96 F.k_call [94,95],mv 3 4 96]) .ret)) (.seq (rg [pu 0 97 (.assertT F.T_i_stmtIf (.aggc [.int .i64 0,.int .i64 0,.string (bl []),.slice none 0 0,.slice none 0 0,.slice none 0 0,.slice none 0 0]) 19),pu 1 98 (.extract 97 1),pu 2 99 (.extract 97 0)]) (.cond 98 (.seq (rg [ef 0 16 (.alloc [.int .i64 0,.int .i64 0,.string (bl []),.slice none 0 0,.slice none 0 0,.slice none 0 0,.slice none 0 0]),en 1 (.store 7 16 99)]) (.seq (rg [mv 0 100 0,ld 1 101 (some 7) 16,ca 2 102 F.k_choice [100,101],mv 3 4 102]) .ret)) (.seq (rg [pu 0 103 (.assertT F.T_i_stmtPick (.aggc [.string (bl []),.string (bl []),.slice none 0 0,.string (bl []),.slice none 0 0,.int .i64 0,.int .i64 0,.string (bl []),.slice none 0 0,.slice none 0 0]) 19),pu 1 104 (.extract 103 1),pu 2 105 (.extract 103 0)]) (.cond 104 (.seq (rg [ef 0 17 (.alloc [.string (bl []),.string (bl []),.slice none 0 0,.string (bl []),.slice none 0 0,.int .i64 0,.int .i64 0,.string (bl []),.slice none 0 0,.slice none 0 0]),en 1 (.store 10 17 105)]) (.seq (rg [mv 0 106 0,ld 1 107 (some 10) 17,ca 2 108 F.k_pick [106,107],mv 3 4 108]) .ret)) .skip)))))))))))))) (.seq (rg [ld 0 109 none (.glob F.g_errCheckType),mv 1 4 109]) .ret))⟩
def xW(F:bS):aD:=⟨46,[.slot 4],.seq (rg [ef 0 2 (.box 0),mv 1 4 (.const .nilIface)]) (.seq (rg [fa 0 11 0 2,ld 1 12 none 11,mv 2 13 1,ia 3 14 12 12 13,ld 4 15 (some 12) 14,ef 5 5 (.alloc [.string (bl []),.slice none 0 0,.bool false,.slice none 0 0,.slice none 0 0,.int .i64 0,.int .i64 0,.string (bl []),.slice none 0 0,.slice none 0 0,.string (bl []),.slice none 0 0]),en 6 (.store 12 5 15)]) (.seq (rg [fa 0 16 0 2,ld 1 17 none 16,mv 2 18 1,pu 3 19 (.slice 12 17 none (some 18)),ca 4 20 F.k_Begin [19],mv 5 6 20]) (.seq (.seq (rg [mv 0 22 6,fa 1 23 0 5,ld 2 24 none 23,ca 3 25 F.k_callee [22,24],mv 4 21 25,pu 5 26 (.extract 21 0),pu 6 27 (.extract 21 1),ef 7 7 (.alloc [.string (bl []),.slice none 0 0,.bool false,.slice none 0 0,.slice none 0 0,.int .i64 0,.int .i64 0,.string (bl []),.slice none 0 0,.slice none 0 0,.string (bl []),.slice none 0 0]),en 8 (.store 12 7 26),mv 9 8 27]) (.seq (rg [mv 0 28 8]) (.cond 28 (.seq (rg [ld 0 29 none (.glob F.g_errCheckName),mv 1 4 29]) .ret) .skip))) (.seq (.seq (rg [mv 0 30 6,ld 1 31 (some 12) 5,ca 2 32 F.k_params [30,31],mv 3 9 32]) (.seq (rg [mv 0 33 9,pu 1 34 (.isNil true 33)]) (.cond 34 (.seq (rg [mv 0 35 9,mv 1 4 35]) .ret) .skip))) (.seq (.seq (rg [mv 0 36 6,fa 1 37 4 5,ld 2 38 none 37,ca 3 39 F.k_stmts [36,38],mv 4 10 39]) (.seq (rg [mv 0 40 10,pu 1 41 (.isNil true 40)]) (.cond 41 (.seq (rg [mv 0 42 10,mv 1 4 42]) .ret) .skip))) (.seq (rg [mv 0 43 6,ld 1 44 (some 12) 5,ca 2 45 F.k_out [43,44],mv 3 4 45]) .ret))))))⟩
def sB(F:bS):aD:=⟨78,[.cell 4 (some 1),.slot 5],.seq (rg [ef 0 3 (.box 1),ef 1 4 (.alloc [.slice none 0 0]),mv 2 5 (.const .nilIface)]) (.seq (.seq (rg [ld 0 13 (some 5) 3,ca 1 14 F.i_exprOf [13]]) (.block 0 (.seq (rg [pu 0 15 (.assertT F.T_i_exprNum (.aggc [.int .i64 0]) 14),pu 1 16 (.extract 15 1),pu 2 17 (.extract 15 0)]) (.cond 16 (.seq (rg [ef 0 6 (.alloc [.int .i64 0]),en 1 (.store 1 6 17)]) (.seq (rg [pu 0 18 (.build [.slice none 0 0] []),en 1 (.store 1 4 18),mv 2 5 (.const .nilIface)]) .ret)) (.seq (rg [pu 0 19 (.assertT F.T_i_exprRead (.aggc [.string (bl []),.slice none 0 0]) 14),pu 1 20 (.extract 19 1),pu 2 21 (.extract 19 0)]) (.cond 20 (.seq (rg [ef 0 7 (.alloc [.string (bl []),.slice none 0 0]),en 1 (.store 2 7 21)]) (.seq (rg [mv 0 22 0,fa 1 23 0 7,ld 2 24 (some 2) 23,ca 3 25 F.k_use [22,24],pu 4 26 (.extract 25 0),pu 5 27 (.extract 25 1),en 6 (.store 1 4 26),mv 7 5 27]) .ret)) (.seq (rg [pu 0 28 (.assertT F.T_i_exprTwo (.aggc [.int .i64 0,.int .i64 0,.int .i64 0,.string (bl []),.slice none 0 0,.slice none 0 0,.int .i64 0,.int .i64 0,.string (bl []),.slice none 0 0,.slice none 0 0]) 14),pu 1 29 (.extract 28 1),pu 2 30 (.extract 28 0)]) (.cond 29 (.seq (rg [ef 0 8 (.alloc [.int .i64 0,.int .i64 0,.int .i64 0,.string (bl []),.slice none 0 0,.slice none 0 0,.int .i64 0,.int .i64 0,.string (bl []),.slice none 0 0,.slice none 0 0]),en 1 (.store 11 8 30)]) (.seq (rg [mv 0 32 0,fa 1 33 1 8,ld 2 34 (some 5) 33,ca 3 35 F.k_expr [32,34],mv 4 31 35,pu 5 36 (.extract 31 0),pu 6 37 (.extract 31 1),ef 7 9 (.alloc [.slice none 0 0]),en 8 (.store 1 9 36),mv 9 10 37]) (.seq (.seq (rg [mv 0 38 10,pu 1 39 (.isNil true 38)]) (.cond 39 (.seq (rg [pu 0 40 (.build [.slice none 0 0] []),mv 1 41 10,en 2 (.store 1 4 40),mv 3 5 41]) .ret) .skip)) (.seq (rg [mv 0 43 0,fa 1 44 6 8,ld 2 45 (some 5) 44,ca 3 46 F.k_expr [43,45],mv 4 42 46,pu 5 47 (.extract 42 0),pu 6 48 (.extract 42 1),ef 7 11 (.alloc [.slice none 0 0]),en 8 (.store 1 11 47),mv 9 10 48]) (.seq (.seq (rg [mv 0 49 10,pu 1 50 (.isNil true 49)]) (.cond 50 (.seq (rg [pu 0 51 (.build [.slice none 0 0] []),mv 1 52 10,en 2 (.store 1 4 51),mv 3 5 52]) .ret) .skip)) (.seq (.seq (rg [fa 0 53 0 8,ld 1 54 none 53,pu 2 55 (.bin .neq 54 (ci 6))]) (.cond 55 (.seq (.seq (rg [ld 0 56 (some 1) 9,ca 1 57 F.i_typeIsNum [56],pu 2 58 (.not 57),mv 3 59 58,gl 4 60 59 false (some 1) 11,⟨5,some 61,some (59,false),.eff (.call F.i_typeIsNum [60]),[]⟩,gp 6 62 59 false (.not 61),pu 7 63 (.pick 59 ct 62)]) (.cond 63 (.seq (.region true [pu 0 64 (.build [.slice none 0 0] []),⟨1,some 65,none,.load (.load none (.glob F.g_errCheckType)),[2]⟩,⟨2,none,none,.eff (.store 1 4 64),[1]⟩,mv 3 5 65]) .ret) .skip)) (.seq (rg [pu 0 66 (.build [.slice none 0 0] []),en 1 (.store 1 4 66),mv 2 5 (.const .nilIface)]) .ret)) .skip)) (.seq (rg [ld 0 67 (some 1) 9,ld 1 68 (some 1) 11,ca 2 69 F.i_typePair [67,68],ef 3 12 (.alloc [.slice none 0 0]),en 4 (.store 1 12 69)]) (.seq (.seq (rg [ld 0 70 (some 1) 12,ca 1 71 F.i_TypeOk [70],pu 2 72 (.not 71)]) (.cond 72 (.seq (.region true [pu 0 73 (.build [.slice none 0 0] []),⟨1,some 74,none,.load (.load none (.glob F.g_errCheckType)),[2]⟩,⟨2,none,none,.eff (.store 1 4 73),[1]⟩,mv 3 5 74]) .ret) .skip)) (.seq (rg [ld 0 75 (some 1) 12,en 1 (.store 1 4 75),mv 2 5 (.const .nilIface)]) .ret))))))))) .skip)))))))) (.seq (.region true [pu 0 76 (.build [.slice none 0 0] []),⟨1,some 77,none,.load (.load none (.glob F.g_errCheckType)),[2]⟩,⟨2,none,none,.eff (.store 1 4 76),[1]⟩,mv 3 5 77]) .ret))⟩
def uV(F:bS):aD:=⟨71,[.cell 4 (some 1),.slot 5],.seq (rg [ef 0 3 (.box 1),ef 1 4 (.alloc [.slice none 0 0]),mv 2 5 (.const .nilIface)]) (.seq (rg [mv 0 14 0,ld 1 15 (some 2) 3,ca 2 16 F.k_part [14,15],mv 3 13 16,pu 4 17 (.extract 13 0),pu 5 18 (.extract 13 1),ef 6 6 (.alloc [.slice none 0 0]),en 7 (.store 1 6 17),mv 8 7 18]) (.seq (.seq (rg [mv 0 19 7,pu 1 20 (.isNil true 19)]) (.cond 20 (.seq (rg [pu 0 21 (.build [.slice none 0 0] []),mv 1 22 7,en 2 (.store 1 4 21),mv 3 5 22]) .ret) .skip)) (.seq (rg [mv 0 23 0,ld 1 24 (some 2) 3,ca 2 25 F.k_ends [23,24],ca 3 26 F.k_Collect [25],mv 4 8 26]) (kg3 F))))⟩
def m8(F:bS):aD:=⟨32,[.slot 4],.seq (rg [ef 0 2 (.box 0),ef 1 3 (.box 1),mv 2 4 cf]) (.seq (.seq (rg [fa 0 6 0 2,ld 1 7 none 6,pu 2 8 (.lenSl 7),fa 3 9 0 3,ld 4 10 none 9,pu 5 11 (.lenSl 10),pu 6 12 (.bin .neq 8 11)]) (.cond 12 (.seq (rg [mv 0 4 cf]) .ret) .skip)) (.seq (.seq (rg [fa 0 13 0 2,ld 1 14 none 13,pu 2 15 (.lenSl 14),mv 3 16 (ci 0)]) (.block 0 (.loop (.seq (rg [pu 0 17 (.bin .lss 16 15)]) (.seq (.cond 17 .skip (.exit 0)) (.seq (.block 1 (.seq (rg [mv 0 18 16,mv 1 5 18]) (.seq (.region true [fa 0 19 0 2,ld 1 20 none 19,mv 2 21 5,ia 3 22 1 20 21,ld 4 23 (some 1) 22,fa 5 24 0 3,ld 6 25 none 24,mv 7 26 5,ia 8 27 1 25 26,ld 9 28 (some 1) 27,ca 10 29 F.i_typeSame [23,28],pu 11 30 (.not 29)]) (.cond 30 (.seq (rg [mv 0 4 cf]) .ret) .skip)))) (rg [pu 0 31 (.bin .add 16 (ci 1)),mv 1 16 31]))))))) (.seq (rg [mv 0 4 ct]) .ret)))⟩
def sD(F:bS):aD:=⟨53,[.slot 4],.seq (rg [ef 0 3 (.box 1),mv 1 4 (.const .nilIface)]) (.seq (rg [mv 0 11 0,fa 1 12 1 3,ld 2 13 none 12,ca 3 14 F.k_callee [11,13],mv 4 10 14,pu 5 15 (.extract 10 0),pu 6 16 (.extract 10 1),ef 7 5 (.alloc [.string (bl []),.slice none 0 0,.bool false,.slice none 0 0,.slice none 0 0,.int .i64 0,.int .i64 0,.string (bl []),.slice none 0 0,.slice none 0 0,.string (bl []),.slice none 0 0]),en 8 (.store 12 5 15),mv 9 6 16]) (.seq (.seq (rg [mv 0 17 6,pu 1 18 (.not 17)]) (.cond 18 (.seq (rg [ld 0 19 none (.glob F.g_errCheckName),mv 1 4 19]) .ret) .skip)) (.seq (.seq (rg [fa 0 20 2 3,ld 1 21 none 20,pu 2 22 (.lenSl 21),fa 3 23 1 5,ld 4 24 none 23,pu 5 25 (.lenSl 24),pu 6 26 (.bin .neq 22 25)]) (.cond 26 (.seq (rg [ld 0 27 none (.glob F.g_errCheckType),mv 1 4 27]) .ret) .skip)) (.seq (.seq (rg [fa 0 28 2 3,ld 1 29 none 28,pu 2 30 (.lenSl 29),mv 3 31 (ci 0)]) (.block 0 (.loop (.seq (rg [pu 0 32 (.bin .lss 31 30)]) (.seq (.cond 32 .skip (.exit 0)) (.seq (.block 1 (.seq (rg [mv 0 33 31,ia 1 34 8 29 31,ld 2 35 (some 8) 34,ef 3 8 (.alloc [.bool false,.string (bl []),.slice none 0 0,.int .i64 0,.int .i64 0,.string (bl []),.slice none 0 0,.slice none 0 0]),mv 4 7 33,en 5 (.store 8 8 35)]) (.seq (.region true [mv 0 36 0,ld 1 37 (some 8) 8,fa 2 38 1 5,ld 3 39 none 38,mv 4 40 7,ia 5 41 3 39 40,ld 6 42 (some 3) 41,ca 7 43 F.k_arg [36,37,42],mv 8 9 43]) (.seq (rg [mv 0 44 9,pu 1 45 (.isNil true 44)]) (.cond 45 (.seq (rg [mv 0 46 9,mv 1 4 46]) .ret) .skip))))) (rg [pu 0 47 (.bin .add 31 (ci 1)),mv 1 31 47]))))))) (.seq (rg [mv 0 48 0,fa 1 49 0 3,ld 2 50 none 49,ld 3 51 (some 12) 5,ca 4 52 F.k_called [48,50,51],mv 5 4 52]) .ret)))))⟩
def pz(F:bS):aD:=⟨16,[.slot 4],.seq (rg [ef 0 3 (.box 1),mv 1 4 (.const .nilIface)]) (.seq (.seq (rg [mv 0 6 0,fa 1 7 0 3,ld 2 8 (some 5) 7,ca 3 9 F.k_number [6,8],mv 4 5 9]) (.seq (rg [mv 0 10 5,pu 1 11 (.isNil true 10)]) (.cond 11 (.seq (rg [mv 0 12 5,mv 1 4 12]) .ret) .skip))) (.seq (rg [mv 0 13 0,ld 1 14 (some 7) 3,ca 2 15 F.k_ways [13,14],mv 3 4 15]) .ret))⟩
def s8(F:bS):aD:=⟨16,[.slot 4],.seq (rg [ef 0 3 (.box 1),mv 1 4 (.const .nilIface)]) (.seq (.seq (rg [mv 0 6 0,fa 1 7 5 3,ld 2 8 (some 5) 7,ca 3 9 F.k_number [6,8],mv 4 5 9]) (.seq (rg [mv 0 10 5,pu 1 11 (.isNil true 10)]) (.cond 11 (.seq (rg [mv 0 12 5,mv 1 4 12]) .ret) .skip))) (.seq (rg [mv 0 13 0,ld 1 14 (some 10) 3,ca 2 15 F.k_picked [13,14],mv 3 4 15]) .ret))⟩
def p9(F:bS):aD:=⟨24,[.cell 4 (some 12),.slot 5],.seq (rg [ef 0 4 (.alloc [.string (bl []),.slice none 0 0,.bool false,.slice none 0 0,.slice none 0 0,.int .i64 0,.int .i64 0,.string (bl []),.slice none 0 0,.slice none 0 0,.string (bl []),.slice none 0 0]),mv 1 5 cf]) (.seq (.seq (rg [mv 0 8 0,nc 1 9 8,fa 2 10 0 9,ld 3 11 none 10,pu 4 12 (.lenSl 11),mv 5 13 (ci 0)]) (.block 0 (.loop (.seq (rg [pu 0 14 (.bin .lss 13 12)]) (.seq (.cond 14 .skip (.exit 0)) (.seq (.block 1 (.seq (rg [ia 0 15 12 11 13,ld 1 16 (some 12) 15,ef 2 7 (.alloc [.string (bl []),.slice none 0 0,.bool false,.slice none 0 0,.slice none 0 0,.int .i64 0,.int .i64 0,.string (bl []),.slice none 0 0,.slice none 0 0,.string (bl []),.slice none 0 0]),en 3 (.store 12 7 16)]) (.seq (rg [fa 0 17 0 7,ld 1 18 none 17,mv 2 19 1,pu 3 20 (.bin .eql 18 19)]) (.cond 20 (.seq (rg [ld 0 21 (some 12) 7,en 1 (.store 12 4 21),mv 2 5 ct]) .ret) .skip)))) (rg [pu 0 22 (.bin .add 13 (ci 1)),mv 1 13 22]))))))) (.seq (rg [pu 0 23 (.build [.string (bl []),.slice none 0 0,.bool false,.slice none 0 0,.slice none 0 0,.int .i64 0,.int .i64 0,.string (bl []),.slice none 0 0,.slice none 0 0,.string (bl []),.slice none 0 0] []),en 1 (.store 12 4 23),mv 2 5 cf]) .ret))⟩
def uW(F:bS):aD:=⟨47,[.slot 4],.seq (rg [ef 0 3 (.box 1),mv 1 4 (.const .nilIface)]) (.seq (rg [ef 0 5 (.alloc [.slice none 0 0])]) (.seq (rg [mv 0 6 (.const .nilIface)]) (.seq (.seq (rg [fa 0 7 2 3,ld 1 8 none 7]) (.cond 8 (rg [mv 0 10 0,fa 1 11 10 3,ld 2 12 (some 2) 11,ca 3 13 F.k_use [10,12],mv 4 9 13,pu 5 14 (.extract 9 0),pu 6 15 (.extract 9 1),en 7 (.store 1 5 14),mv 8 6 15]) (rg [mv 0 17 0,fa 1 18 5 3,ld 2 19 (some 5) 18,ca 3 20 F.k_expr [17,19],mv 4 16 20,pu 5 21 (.extract 16 0),pu 6 22 (.extract 16 1),en 7 (.store 1 5 21),mv 8 6 22]))) (.seq (.seq (rg [mv 0 23 6,pu 1 24 (.isNil true 23)]) (.cond 24 (.seq (rg [mv 0 25 6,mv 1 4 25]) .ret) .skip)) (.seq (.seq (rg [ld 0 26 (some 1) 5,fa 1 27 3 3,ld 2 28 (some 1) 27,ca 3 29 F.i_typeSame [26,28],pu 4 30 (.not 29)]) (.cond 30 (.seq (rg [ld 0 31 none (.glob F.g_errCheckType),mv 1 4 31]) .ret) .skip)) (.seq (.seq (.region true [fa 0 32 2 3,ld 1 33 none 32,mv 2 34 33,gp 3 35 34 true (.move 0),gp 4 36 34 true (.nilCheck 35),gp 5 37 34 true (.fieldAddr 2 36),gl 6 38 34 true none 37,gp 7 39 34 true (.fieldAddr 10 3),gp 8 40 34 true (.fieldAddr 0 39),gl 9 41 34 true none 40,⟨10,some 42,some (34,true),.eff (.callX (.lookup (.agg [.lit (.slice none 0 0),.lit (.bool false),.lit (.bool false),.lit (.bool false),.lit (.bool false),.lit (.slice none 0 0)]) false) [38,41]),[]⟩,gp 11 43 34 true (.field 4 none 42),gp 12 44 34 true (.not 43),pu 13 45 (.pick 34 44 cf)]) (.cond 45 (.seq (rg [ld 0 46 none (.glob F.g_errCheckOut),mv 1 4 46]) .ret) .skip)) (.seq (rg [mv 0 4 (.const .nilIface)]) .ret)))))))⟩
def m9(F:bS):aD:=⟨11,[.cell 4 (some 1)],.seq (rg [ef 0 2 (.box 0),ef 1 3 (.box 1),ef 2 4 (.alloc [.slice none 0 0])]) (.seq (.region true [ld 0 5 (some 1) 2,⟨1,some 6,none,.eff (.call F.i_typeCopy [5]),[2]⟩,⟨2,some 7,none,.load (.load (some 1) 3),[1]⟩,ca 3 8 F.i_typeCopy [7],ef 4 9 (.buildSlice 1 2 [.slice none 0 0] [(0,(1,6)),(1,(1,8))]),pu 5 10 (.build [.slice none 0 0] [(0,(1,9))]),en 6 (.store 1 4 10)]) .ret)⟩
def s9(F:bS):aD:=⟨41,[.cell 4 (some 1),.slot 5],.seq (rg [ef 0 3 (.box 1),ef 1 4 (.alloc [.slice none 0 0]),mv 2 5 (.const .nilIface)]) (.seq (.region true [mv 0 10 0,nc 1 11 10,fa 2 12 2 11,ld 3 13 none 12,fa 4 14 0 3,ld 5 15 none 14,ef 6 16 (.callX (.lookup (.agg [.lit (.slice none 0 0),.lit (.bool false),.lit (.bool false),.lit (.bool false),.lit (.bool false),.lit (.slice none 0 0)]) true) [13,15]),mv 7 9 16,pu 8 17 (.extract 9 0),pu 9 18 (.extract 9 1),ef 10 6 (.alloc [.slice none 0 0,.bool false,.bool false,.bool false,.bool false,.slice none 0 0]),en 11 (.store 6 6 17),mv 12 7 18]) (.seq (.seq (rg [mv 0 19 7,pu 1 20 (.not 19)]) (.cond 20 (.seq (.region true [pu 0 21 (.build [.slice none 0 0] []),⟨1,some 22,none,.load (.load none (.glob F.g_errCheckName)),[2]⟩,⟨2,none,none,.eff (.store 1 4 21),[1]⟩,mv 3 5 22]) .ret) .skip)) (.seq (.seq (rg [fa 0 23 3 6,ld 1 24 none 23,pu 2 25 (.not 24)]) (.cond 25 (.seq (.region true [pu 0 26 (.build [.slice none 0 0] []),⟨1,some 27,none,.load (.load none (.glob F.g_errCheckLoan)),[2]⟩,⟨2,none,none,.eff (.store 1 4 26),[1]⟩,mv 3 5 27]) .ret) .skip)) (.seq (rg [fa 0 29 0 6,ld 1 30 (some 1) 29,fa 2 31 1 3,ld 3 32 none 31,ca 4 33 F.i_TypeAt [30,32],mv 5 28 33,pu 6 34 (.extract 28 0),pu 7 35 (.extract 28 1),ef 8 8 (.alloc [.slice none 0 0]),en 9 (.store 1 8 34),mv 10 7 35]) (.seq (.seq (rg [mv 0 36 7,pu 1 37 (.not 36)]) (.cond 37 (.seq (.region true [pu 0 38 (.build [.slice none 0 0] []),⟨1,some 39,none,.load (.load none (.glob F.g_errCheckType)),[2]⟩,⟨2,none,none,.eff (.store 1 4 38),[1]⟩,mv 3 5 39]) .ret) .skip)) (.seq (rg [ld 0 40 (some 1) 8,en 1 (.store 1 4 40),mv 2 5 (.const .nilIface)]) .ret))))))⟩
def nF(F:bS):aD:=⟨5,[.slot 2],.seq (rg [mv 0 2 (.const (.slice none 0 0))]) (.seq (rg [mv 0 3 0,ca 1 4 F.k_AppendSeq [.const (.slice none 0 0),3],mv 2 2 4]) .ret)⟩
def sC(F:bS):aD:=⟨6,[.slot 4],.seq (rg [ef 0 2 (.box 0),ef 1 3 (.box 1),mv 2 4 (.const .nilFunc)]) (.seq (rg [pu 0 5 (.mkFn F.k_ends_1 [] [2,3]),mv 1 4 5]) .ret)⟩
def kX(F:bS):aD:=⟨29,[.slot 4],.seq (rg [ef 0 2 (.box 0),ef 1 3 (.box 1),mv 2 4 cf]) (.seq (rg [fa 0 6 1 2,ld 1 7 none 6,pu 2 8 (.lenSl 7),fa 3 9 1 3,ld 4 10 none 9,pu 5 11 (.lenSl 10),pu 6 12 (.minI 8 11),mv 7 5 12]) (.seq (.region true [fa 0 13 0 2,ld 1 14 none 13,fa 2 15 0 3,ld 3 16 none 15,pu 4 17 (.bin .eql 14 16),mv 5 18 17,gp 6 19 18 true (.fieldAddr 1 2),gl 7 20 18 true none 19,gp 8 21 18 true (.move 5),gp 9 22 18 true (.slice 1 20 none (some 21)),gp 10 23 18 true (.fieldAddr 1 3),gl 11 24 18 true none 23,gp 12 25 18 true (.move 5),gp 13 26 18 true (.slice 1 24 none (some 25)),⟨14,some 27,some (18,true),.eff (.call F.k_Equal [22,26]),[]⟩,pu 15 28 (.pick 18 27 cf),mv 16 4 28]) .ret))⟩
def mz(F:bS):aD:=⟨9,[.slot 4],.seq (rg [mv 0 4 cf]) (.seq (rg [mv 0 5 0,mv 1 6 1,ca 2 7 F.k_Index [5,6],pu 3 8 (.bin .geq 7 (ci 0)),mv 4 4 8]) .ret)⟩
def uX(F:bS):aD:=⟨18,[],.seq (rg [mv 0 5 0,nc 1 6 5,fa 2 7 2 6,ld 3 8 none 7,mv 4 9 1,ef 5 10 (.callX (.lookup (.agg [.lit (.slice none 0 0),.lit (.bool false),.lit (.bool false),.lit (.bool false),.lit (.bool false),.lit (.slice none 0 0)]) false) [8,9]),ef 6 4 (.alloc [.slice none 0 0,.bool false,.bool false,.bool false,.bool false,.slice none 0 0]),en 7 (.store 6 4 10)]) (.seq (rg [fa 0 11 3 4,en 1 (.store 1 11 cf)]) (.region true [mv 0 12 0,nc 1 13 12,fa 2 14 2 13,ld 3 15 none 14,mv 4 16 1,ld 5 17 (some 6) 4,en 6 (.callX .mapSet [15,16,17])]))⟩
def uY(F:bS):aD:=⟨53,[.slot 6],.seq (rg [ef 0 4 (.box 1),ef 1 5 (.box 2),mv 2 6 (.const .nilIface)]) (.seq (.seq (rg [fa 0 9 0 4,ld 1 10 none 9,fa 2 11 1 5,ld 3 12 none 11,pu 4 13 (.eqBool true 10 12)]) (.cond 13 (.seq (rg [ld 0 14 none (.glob F.g_errCheckType),mv 1 6 14]) .ret) .skip)) (.seq (rg [ef 0 7 (.alloc [.slice none 0 0])]) (.seq (rg [mv 0 8 (.const .nilIface)]) (.seq (.seq (rg [fa 0 15 0 4,ld 1 16 none 15]) (.cond 16 (.seq (rg [mv 0 18 0,fa 1 19 1 4,ld 2 20 (some 2) 19,ca 3 21 F.k_use [18,20],mv 4 17 21,pu 5 22 (.extract 17 0),pu 6 23 (.extract 17 1),en 7 (.store 1 7 22),mv 8 8 23]) (.region true [mv 0 24 0,mv 1 25 0,nc 2 26 25,fa 3 27 4 26,ld 4 28 none 27,fa 5 29 1 4,ld 6 30 (some 2) 29,⟨7,some 31,none,.lits 2 1 [.string (bl []),.slice none 0 0] [(0,(2,30))],[]⟩,ef 8 32 (.appendM 2 40 28 31),nc 9 33 24,fa 10 34 4 33,en 11 (.store 1 34 32)])) (rg [mv 0 36 0,fa 1 37 3 4,ld 2 38 (some 5) 37,ca 3 39 F.k_expr [36,38],mv 4 35 39,pu 5 40 (.extract 35 0),pu 6 41 (.extract 35 1),en 7 (.store 1 7 40),mv 8 8 41]))) (.seq (.seq (rg [mv 0 42 8,pu 1 43 (.isNil false 42),mv 2 44 43,gl 3 45 44 true (some 1) 7,gp 4 46 44 true (.fieldAddr 2 5),gl 5 47 44 true (some 1) 46,⟨6,some 48,some (44,true),.eff (.call F.i_typeSame [45,47]),[]⟩,gp 7 49 44 true (.not 48),pu 8 50 (.pick 44 49 cf)]) (.cond 50 (.seq (rg [ld 0 51 none (.glob F.g_errCheckType),mv 1 6 51]) .ret) .skip)) (.seq (rg [mv 0 52 8,mv 1 6 52]) .ret))))))⟩
def pA(F:bS):aD:=⟨37,[.slot 6],.seq (rg [ef 0 5 (.box 2),mv 1 6 (.const .nilIface)]) (.seq (.region true [mv 0 9 0,nc 1 10 9,fa 2 11 4 10,ld 3 12 none 11,mv 4 13 0,nc 5 14 13,fa 6 15 5 14,ld 7 16 none 15,mv 8 7 12,mv 9 8 16]) (.seq (rg [mv 0 17 0,mv 1 18 0,nc 2 19 17,fa 3 20 4 19,en 4 (.store 1 20 (.const (.slice none 0 0))),nc 5 21 18,fa 6 22 5 21,en 7 (.store 1 22 cf)]) (.seq (.seq (rg [mv 0 23 8]) (.cond 23 (.seq (rg [ld 0 24 none (.glob F.g_errCheckLoan),mv 1 6 24]) .ret) .skip)) (.seq (.seq (rg [fa 0 25 2 5,ld 1 26 none 25,pu 2 27 (.not 26)]) (.cond 27 (rg [mv 0 7 (.const (.slice none 0 0))]) .skip)) (.seq (rg [mv 0 28 0,mv 1 29 1,fa 2 30 3 5,ld 3 31 (some 1) 30,fa 4 32 2 5,ld 5 33 none 32,mv 6 34 7,pu 7 35 (.build [.slice none 0 0,.bool false,.bool false,.bool false,.bool false,.slice none 0 0] [(0,(1,31)),(2,(1,33)),(5,(1,34))]),ca 8 36 F.k_give [28,29,35],mv 9 6 36]) .ret)))))⟩
def py(F:bS):aD:=⟨22,[.slot 4],.seq (rg [ef 0 3 (.box 1),mv 1 4 (.const .nilIface)]) (.seq (rg [mv 0 8 0,ld 1 9 (some 5) 3,ca 2 10 F.k_expr [8,9],mv 3 7 10,pu 4 11 (.extract 7 0),pu 5 12 (.extract 7 1),ef 6 5 (.alloc [.slice none 0 0]),en 7 (.store 1 5 11),mv 8 6 12]) (.seq (.seq (rg [mv 0 13 6,pu 1 14 (.isNil false 13),mv 2 15 14,gl 3 16 15 true (some 1) 5,⟨4,some 17,some (15,true),.eff (.call F.i_typeIsNum [16]),[]⟩,gp 5 18 15 true (.not 17),pu 6 19 (.pick 15 18 cf)]) (.cond 19 (.seq (rg [ld 0 20 none (.glob F.g_errCheckType),mv 1 4 20]) .ret) .skip)) (.seq (rg [mv 0 21 6,mv 1 4 21]) .ret)))⟩
def sv(F:bS):aD:=⟨32,[.slot 4],.seq (rg [ef 0 3 (.box 1),mv 1 4 (.const .nilIface)]) (.seq (rg [mv 0 9 0,ca 1 10 F.k_branch [9],mv 2 11 0,ca 3 12 F.k_branch [11],mv 4 5 10,mv 5 6 12]) (.seq (.seq (rg [mv 0 13 5,fa 1 14 5 3,ld 2 15 none 14,ca 3 16 F.k_stmts [13,15],mv 4 7 16]) (.seq (rg [mv 0 17 7,pu 1 18 (.isNil true 17)]) (.cond 18 (.seq (rg [mv 0 19 7,mv 1 4 19]) .ret) .skip))) (.seq (.seq (rg [mv 0 20 6,fa 1 21 6 3,ld 2 22 none 21,ca 3 23 F.k_stmts [20,22],mv 4 8 23]) (.seq (rg [mv 0 24 8,pu 1 25 (.isNil true 24)]) (.cond 25 (.seq (rg [mv 0 26 8,mv 1 4 26]) .ret) .skip))) (.seq (rg [mv 0 27 0,mv 1 28 5,mv 2 29 6,ef 3 30 (.buildSlice 1 2 [.pointer none] [(0,(1,28)),(1,(1,29))]),ca 4 31 F.k_join [27,30]]) (.seq (rg [mv 0 4 (.const .nilIface)]) .ret)))))⟩
def pt(F:bS):aD:=⟨66,[.slot 4],.seq (rg [ef 0 3 (.box 1),mv 1 4 (.const .nilIface)]) (.seq (rg [mv 0 10 0,fa 1 11 1 3,ld 2 12 (some 2) 11,ca 3 13 F.k_use [10,12],mv 4 9 13,pu 5 14 (.extract 9 0),pu 6 15 (.extract 9 1),ef 7 5 (.alloc [.slice none 0 0]),en 8 (.store 1 5 14),mv 9 6 15]) (.seq (.seq (rg [mv 0 16 6,pu 1 17 (.isNil true 16)]) (.cond 17 (.seq (rg [mv 0 18 6,mv 1 4 18]) .ret) .skip)) (.seq (rg [mv 0 19 0,mv 1 20 0,fa 2 21 1 3,ld 3 22 (some 2) 21,ef 4 23 (.buildSlice 2 1 [.string (bl []),.slice none 0 0] [(0,(2,22))]),nc 5 24 19,fa 6 25 4 24,en 7 (.store 1 25 23),nc 8 26 20,fa 9 27 5 26,en 10 (.store 1 27 cf)]) (.seq (rg [mv 0 29 0,fa 1 30 3 3,ld 2 31 (some 2) 30,ca 3 32 F.k_use [29,31],mv 4 28 32,pu 5 33 (.extract 28 0),pu 6 34 (.extract 28 1),ef 7 7 (.alloc [.slice none 0 0]),en 8 (.store 1 7 33),mv 9 6 34]) (.seq (rg [mv 0 35 0,nc 1 36 35,fa 2 37 5 36,ld 3 38 none 37,mv 4 8 38]) (.seq (rg [mv 0 39 0,mv 1 40 0,nc 2 41 39,fa 3 42 4 41,en 4 (.store 1 42 (.const (.slice none 0 0))),nc 5 43 40,fa 6 44 5 43,en 7 (.store 1 44 cf)]) (.seq (.seq (rg [mv 0 45 6,pu 1 46 (.isNil true 45)]) (.cond 46 (.seq (rg [mv 0 47 6,mv 1 4 47]) .ret) .skip)) (.seq (.seq (rg [ld 0 48 (some 1) 5,ld 1 49 (some 1) 7,ca 2 50 F.i_typeSame [48,49],pu 3 51 (.not 50)]) (.cond 51 (.seq (rg [ld 0 52 none (.glob F.g_errCheckType),mv 1 4 52]) .ret) .skip)) (.seq (.seq (rg [mv 0 53 8]) (.cond 53 (.seq (rg [ld 0 54 none (.glob F.g_errCheckLoan),mv 1 4 54]) .ret) .skip)) (.seq (rg [mv 0 55 0,fa 1 56 0 3,ld 2 57 none 56,ld 3 58 (some 1) 5,fa 4 59 1 3,ld 5 60 (some 2) 59,fa 6 61 3 3,ld 7 62 (some 2) 61,ef 8 63 (.buildSlice 2 2 [.string (bl []),.slice none 0 0] [(0,(2,60)),(2,(2,62))]),pu 9 64 (.build [.slice none 0 0,.bool false,.bool false,.bool false,.bool false,.slice none 0 0] [(0,(1,58)),(2,(1,ct)),(5,(1,63))]),ca 10 65 F.k_give [55,57,64],mv 11 4 65]) .ret))))))))))⟩
def mA(F:bS):aD:=⟨17,[.cell 2 (some 1)],.seq (rg [ef 0 1 (.box 0),ef 1 2 (.alloc [.slice none 0 0])]) (.seq (.seq (rg [fa 0 3 0 1,ld 1 4 none 3,pu 2 5 (.lenSl 4),pu 3 6 (.bin .eql 5 (ci 0))]) (.cond 6 (.seq (rg [pu 0 7 (.build [.slice none 0 0] []),en 1 (.store 1 2 7)]) .ret) .skip)) (.seq (.region true [fa 0 8 0 1,ld 1 9 none 8,pu 2 10 (.indexAddr 1 9 (ci 0)),ld 3 11 (some 1) 10,fa 4 12 0 1,ld 5 13 none 12,pu 6 14 (.indexAddr 1 13 (ci 1)),ld 7 15 (some 1) 14,ca 8 16 F.i_typePair [11,15],en 9 (.store 1 2 16)]) .ret))⟩
def pG(F:bS):aD:=⟨23,[.cell 4 (some 1),.slot 5],.seq (rg [ef 0 2 (.box 0),ef 1 4 (.alloc [.slice none 0 0]),mv 2 5 cf]) (.seq (.seq (rg [ld 0 8 (some 1) 2,ca 1 9 F.i_TypeOk [8],pu 2 10 (.not 9)]) (.cond 10 (.seq (rg [pu 0 11 (.build [.slice none 0 0] []),en 1 (.store 1 4 11),mv 2 5 cf]) .ret) .skip)) (.seq (rg [ld 0 13 (some 1) 2,mv 1 14 1,ca 2 15 F.i_partAt_i_Type_ [13,14],mv 3 12 15,pu 4 16 (.extract 12 0),pu 5 17 (.extract 12 1),ef 6 6 (.alloc [.slice none 0 0]),en 7 (.store 1 6 16),mv 8 7 17]) (.seq (.seq (rg [mv 0 18 7,pu 1 19 (.not 18)]) (.cond 19 (.seq (rg [pu 0 20 (.build [.slice none 0 0] []),en 1 (.store 1 4 20),mv 2 5 cf]) .ret) .skip)) (.seq (rg [ld 0 21 (some 1) 6,ca 1 22 F.i_typeCopy [21],en 2 (.store 1 4 22),mv 3 5 ct]) .ret))))⟩
def m7(F:bS):aD:=⟨4,[.slot 2],.seq (rg [ef 0 1 (.box 0),mv 1 2 (.const .nilFunc)]) (.seq (rg [pu 0 3 (.mkFn F.k_Backward_1 [] [1]),mv 1 2 3]) .ret)⟩
def ra(F:bS):aD:=⟨26,[.slot 4],.seq (rg [mv 0 4 cf]) (.seq (.seq (rg [mv 0 6 0,pu 1 7 (.lenSl 6),mv 2 8 1,pu 3 9 (.lenSl 8),pu 4 10 (.bin .neq 7 9)]) (.cond 10 (.seq (rg [mv 0 4 cf]) .ret) .skip)) (.seq (.seq (rg [mv 0 11 0,pu 1 12 (.lenSl 11),mv 2 13 (ci 0)]) (.block 0 (.loop (.seq (rg [pu 0 14 (.bin .lss 13 12)]) (.seq (.cond 14 .skip (.exit 0)) (.seq (.block 1 (.seq (rg [mv 0 15 13,mv 1 5 15]) (.seq (.region true [mv 0 16 0,mv 1 17 5,ia 2 18 1 16 17,ld 3 19 none 18,mv 4 20 1,mv 5 21 5,ia 6 22 1 20 21,ld 7 23 none 22,pu 8 24 (.bin .neq 19 23)]) (.cond 24 (.seq (rg [mv 0 4 cf]) .ret) .skip)))) (rg [pu 0 25 (.bin .add 13 (ci 1)),mv 1 13 25]))))))) (.seq (rg [mv 0 4 ct]) .ret)))⟩
def qZ(F:bS):aD:=⟨19,[.slot 4],.seq (rg [mv 0 4 (ci 0)]) (.seq (.seq (rg [mv 0 6 0,pu 1 7 (.lenSl 6),mv 2 8 (ci 0)]) (.block 0 (.loop (.seq (rg [pu 0 9 (.bin .lss 8 7)]) (.seq (.cond 9 .skip (.exit 0)) (.seq (.block 1 (.seq (rg [mv 0 10 8,mv 1 5 10]) (.seq (rg [mv 0 11 1,mv 1 12 0,mv 2 13 5,ia 3 14 1 12 13,ld 4 15 none 14,pu 5 16 (.bin .eql 11 15)]) (.cond 16 (.seq (rg [mv 0 17 5,mv 1 4 17]) .ret) .skip)))) (rg [pu 0 18 (.bin .add 8 (ci 1)),mv 1 8 18]))))))) (.seq (rg [mv 0 4 (.const (.int .i64 (-1)))]) .ret))⟩
def pB(F:bS):aD:=⟨19,[.slot 2],.seq (rg [mv 0 2 (.const (.pointer none))]) (.seq (rg [mv 0 4 0,nc 1 5 4,ld 2 6 (some 7) 5,ef 3 3 (.alloc [.slice none 0 0,.slice none 0 0,.map none,.map none,.slice none 0 0,.bool false,.nilFunc]),en 4 (.store 7 3 6)]) (.seq (rg [mv 0 7 0,nc 1 8 7,fa 2 9 1 8,ld 3 10 none 9,ca 4 11 F.k_Clone [10],fa 5 12 1 3,en 6 (.store 1 12 11)]) (.seq (rg [mv 0 13 0,nc 1 14 13,fa 2 15 2 14,ld 3 16 none 15,ca 4 17 F.k_mapsClone [16],fa 5 18 2 3,en 6 (.store 1 18 17)]) (.seq (rg [mv 0 2 3]) .ret))))⟩
def qq(F:bS):aD:=⟨36,[],.seq (rg [mv 0 8 0,nc 1 9 8,fa 2 10 1 9,ld 3 11 none 10,pu 4 12 (.lenSl 11),mv 5 13 (ci 0)]) (.block 0 (.loop (.seq (rg [pu 0 14 (.bin .lss 13 12)]) (.seq (.cond 14 .skip (.exit 0)) (.seq (.block 1 (.seq (rg [ia 0 15 1 11 13,ld 1 16 none 15,mv 2 5 16]) (.seq (rg [mv 0 17 1,pu 1 18 (.lenSl 17),mv 2 19 (ci 0)]) (.block 2 (.loop (.seq (rg [pu 0 20 (.bin .lss 19 18)]) (.seq (.cond 20 .skip (.exit 2)) (.seq (.block 3 (.seq (rg [ia 0 21 1 17 19,ld 1 22 none 21,mv 2 7 22]) (.seq (rg [mv 0 23 7,nc 1 24 23,fa 2 25 2 24,ld 3 26 none 25,mv 4 27 5,ef 5 28 (.callX (.lookup (.agg [.lit (.slice none 0 0),.lit (.bool false),.lit (.bool false),.lit (.bool false),.lit (.bool false),.lit (.slice none 0 0)]) false) [26,27]),pu 6 29 (.field 3 none 28),pu 7 30 (.not 29)]) (.cond 30 (rg [mv 0 31 0,mv 1 32 5,ca 2 33 F.k_end [31,32]]) .skip)))) (rg [pu 0 34 (.bin .add 19 (ci 1)),mv 1 19 34]))))))))) (rg [pu 0 35 (.bin .add 13 (ci 1)),mv 1 13 35]))))))⟩
def iN(F:bS):aD:=⟨37,[.cell 4 (some 1),.slot 5],.seq (rg [ef 0 2 (.box 0),ef 1 4 (.alloc [.slice none 0 0]),mv 2 5 cf]) (.seq (.seq (rg [mv 0 10 1,pu 1 11 (.lenSl 10),mv 2 12 (ci 0)]) (.block 0 (.loop (.seq (rg [pu 0 13 (.bin .lss 12 11)]) (.seq (.cond 13 .skip (.exit 0)) (.seq (.block 1 (.seq (rg [ia 0 14 1 10 12,ld 1 15 none 14,mv 2 7 15]) (.seq (rg [ld 0 16 (some 1) 2,pu 1 17 (.mkIface F.T_i_Type 16),ef 2 18 (.callX (.invoke "loop.example/handfast/impl.parts") [17]),mv 3 8 18]) (.seq (.seq (rg [mv 0 19 8,pu 1 20 (.lenSl 19),pu 2 21 (.bin .neq 20 (ci 2)),mv 3 22 21,gp 4 23 22 false (.move 7),gp 5 24 22 false (.bin .lss 23 (ci 0)),pu 6 25 (.pick 22 ct 24),mv 7 26 25,gp 8 27 26 false (.move 7),gp 9 28 26 false (.bin .gtr 27 (ci 1)),pu 10 29 (.pick 26 ct 28)]) (.cond 29 (.seq (rg [ef 0 9 (.alloc [.slice none 0 0])]) (.seq (rg [ld 0 30 (some 1) 9,en 1 (.store 1 4 30),mv 2 5 cf]) .ret)) .skip)) (rg [mv 0 31 8,mv 1 32 7,ia 2 33 1 31 32,ld 3 34 (some 1) 33,en 4 (.store 1 2 34)]))))) (rg [pu 0 35 (.bin .add 12 (ci 1)),mv 1 12 35]))))))) (.seq (rg [ld 0 36 (some 1) 2,en 1 (.store 1 4 36),mv 2 5 ct]) .ret))⟩
def o8(F:bS):aD:=⟨8,[.slot 2],.seq (rg [mv 0 2 (.const (.slice none 0 0))]) (.seq (.seq (rg [mv 0 3 0,pu 1 4 (.isNil0 (.slice none 0 0) false 3)]) (.cond 4 (.seq (rg [mv 0 2 (.const (.slice none 0 0))]) .ret) .skip)) (.seq (rg [ef 0 5 (.buildSlice 1 0 [.string (bl [])] []),mv 1 6 0,ef 2 7 (.appendM 1 16 5 6),mv 3 2 7]) .ret))⟩
def lR(F:bS):aD:=⟨9,[.slot 2],.seq (rg [mv 0 2 (.const (.map none))]) (.seq (.seq (rg [mv 0 3 0,pu 1 4 (.isNil0 (.map none) false 3)]) (.cond 4 (.seq (rg [mv 0 2 (.const (.map none))]) .ret) .skip)) (.seq (rg [mv 0 5 0,pu 1 6 (.mkIface F.T_map_string_k_Named 5),ef 2 7 (.callX .mapClone [6]),pu 3 8 (.assert1 F.T_map_string_k_Named 7),mv 4 2 8]) .ret))⟩
def kY(F:bS):aD:=⟨5,[.slot 2],.seq (rg [ef 0 1 (.box 0),mv 1 2 (.const (.slice none 0 0))]) (.seq (rg [fa 0 3 0 1,ld 1 4 none 3,mv 2 2 4]) .ret)⟩
structure eC(P:Program)(F:bS):Prop extends Lib P F.toIds where
 s_DrawCheckLive:bT P F.s_DrawCheckLive (jc F)
 s_CheckLive:bT P F.s_CheckLive (lQ F)
 i_CheckLive:bT P F.i_CheckLive (lV F)
 l_lhTexts:bT P F.l_lhTexts (nD F)
 l_lhGiven:bT P F.l_lhGiven (nE F)
 l_lhHas:bT P F.l_lhHas (qX F)
 s_l71Spot:bT P F.s_l71Spot (nk F)
 s_CheckOf:bT P F.s_CheckOf (nC F)
 k_At:bT P F.k_At (xX F)
 k_liveNames:bT P F.k_liveNames (j8 F)
 s_l3Code:bT P F.s_l3Code (pd F)
 i_progFine:bT P F.i_progFine (mC F)
 k_Begin:bT P F.k_Begin (rb F)
 k_params:bT P F.k_params (px F)
 k_stmts:bT P F.k_stmts (qY F)
 k_Fns:bT P F.k_Fns (uZ F)
 k_give:bT P F.k_give (sA F)
 k_stmt:bT P F.k_stmt (sy F)
 k_Fn:bT P F.k_Fn (xW F)
 k_expr:bT P F.k_expr (sB F)
 k_use:bT P F.k_use (uV F)
 i_typeSame:bT P F.i_typeSame (m8 F)
 k_call:bT P F.k_call (sD F)
 k_choice:bT P F.k_choice (pz F)
 k_pick:bT P F.k_pick (s8 F)
 k_callee:bT P F.k_callee (p9 F)
 k_out:bT P F.k_out (uW F)
 i_typePair:bT P F.i_typePair (m9 F)
 k_part:bT P F.k_part (s9 F)
 k_Collect:bT P F.k_Collect (nF F)
 k_ends:bT P F.k_ends (sC F)
 i_placesMeet:bT P F.i_placesMeet (kX F)
 k_Contains:bT P F.k_Contains (mz F)
 k_end:bT P F.k_end (uX F)
 k_arg:bT P F.k_arg (uY F)
 k_called:bT P F.k_called (pA F)
 k_number:bT P F.k_number (py F)
 k_ways:bT P F.k_ways (sv F)
 k_picked:bT P F.k_picked (pt F)
 i_typeCopy:bT P F.i_typeCopy (mA F)
 i_TypeAt:bT P F.i_TypeAt (pG F)
 k_Backward:bT P F.k_Backward (m7 F)
 k_Equal:bT P F.k_Equal (ra F)
 k_Index:bT P F.k_Index (qZ F)
 k_branch:bT P F.k_branch (pB F)
 k_join:bT P F.k_join (qq F)
 i_partAt_i_Type_:bT P F.i_partAt_i_Type_ (iN F)
 k_Clone:bT P F.k_Clone (o8 F)
 k_mapsClone:bT P F.k_mapsClone (lR F)
 i_Type_parts:bT P F.i_Type_parts (kY F)
 m_parts:wM P F.T_i_Type "loop.example/handfast/impl.parts" =some F.i_Type_parts
 g_parts:iQ P F.i_Type_parts=true
def one(b:Nat)(o:cK):aj:=aj.empty.set b o
theorem bE(b:Nat)(o:cK):(one b o).get b=some o:=by simp[one]
theorem gk{b c:Nat}(o:cK)(h:c≠b):(one b o).get c=none:=by simp[one,aM,h]
theorem gR(b:Nat)(o o':cK):(one b o).set b o'=one b o':=by
 apply aj.ext;intro c;simp only[one,aM];split<;>rfl
theorem eO{H:aj}{b:Nat}{o:cK}(h:H.get b=some o):(one b o).sub H:=by
 intro c q hc
 by_cases e:c=b
 ·subst e;rw[bE]at hc;rw[h,hc]
 ·rw[gk _ e]at hc;simp at hc
theorem wq{H:aj}{b:Nat}{o o':cK}:H.swap (one b o) (one b o')=H.set b o':=by
 apply aj.ext;intro c
 rw[bG,aM]
 by_cases e:c=b
 ·subst e;simp[bE]
 ·simp[gk _ e,e]
def RdO(bs:List UInt8)(p:Int):cK:=.cells [.sl 1 none (bs.map fun b=>[.lit (.int .u8 b.toNat)]),I p]
theorem sh{x n:Int}(hx:0<=x)(hn:0<n):0<=x.tmod n/\x.tmod n<n/\x.tmod n<=x:=by
 rw[Int.tmod_eq_emod_of_nonneg hx]
 refine⟨Int.emod_nonneg _ (by omega),Int.emod_lt_of_pos _ hn,?_⟩
 have h1:=Int.mul_ediv_add_emod x n
 have h2:0<=n*(x / n):=Int.mul_nonneg (by omega) (Int.ediv_nonneg hx (by omega))
 omega
theorem zo{x n:Int}(hx:0<=x)(hn:0<n):0<=x.tdiv n/\x.tdiv n<=x:=by
 rw[Int.tdiv_eq_ediv_of_nonneg hx]
 exact⟨Int.ediv_nonneg hx (by omega),Int.ediv_le_self _ hx⟩
theorem xor_in{a b:Int}(ha:0<=a)(ha':a<9223372036854775808)(hb:0<=b)(hb':b<9223372036854775808):
 0<=(((BitVec.ofInt 64 a^^^BitVec.ofInt 64 b).toNat:Nat):Int)/\(((BitVec.ofInt 64 a^^^BitVec.ofInt 64 b).toNat:Nat):Int)<9223372036854775808:=by
 obtain⟨n,rfl⟩:=dF ha
 obtain⟨m,rfl⟩:=dF hb
 refine⟨Int.natCast_nonneg _,?_⟩
 rw[BitVec.toNat_xor]
 have h1:(BitVec.ofInt 64 (n:Int)).toNat=n:=by rw[BitVec.toNat_ofInt];omega
 have h2:(BitVec.ofInt 64 (m:Int)).toNat=m:=by rw[BitVec.toNat_ofInt];omega
 rw[h1,h2]
 have:n^^^m<2^63:=Nat.xor_lt_two_pow (by omega) (by omega)
 omega
section
variable {P:Program}{F:Ids}
theorem c_pick(L:Lib P F)(r:Nat)(bs:List UInt8)(p n:Int)(hb:bs.length<=2000)(hp:0<=p)(hp':p<=2^50):
 bD P F.s_l6Rd_pick [.ptr r 0,I n] (one r (RdO bs p)) (fun q H'=>∃k,q=I k/\0<=k/\(k<n\/k=0)/\H'=one r (RdO bs (p+1))):=by
 refine L.s_l6Rd_pick (by simp[gG]) ?_
 have w1:=aL (n:=p+1) (by omega) (by omega)
 have w2:=aL (n:=p+1 - 1) (by omega) (by omega)
 have hget:∀{k:Nat} (h:k<bs.length),(bs.map fun b=>[AC.lit (.int .u8 (b.toNat:Int))])[k]?=some [.lit (.int .u8 (bs[k].toNat:Int))]:=by
  intro k h;simp[h]
 by_cases hn:n<1
 ·simp only[gG,go_sem,rE,bE,gR,RdO,w1,rA,rL,aC,ge_iff_le,hn]
  exact gK ⟨0,rfl,dz _,.inr rfl,rfl⟩
 ·by_cases hb0:bs.length=0
  ·simp only[gG,go_sem,rE,bE,gR,RdO,w1,rA,rL,aC,ge_iff_le,hn,am,hb0,cW,beq_self_eq_true]
   exact gK ⟨0,rfl,dz _,.inr rfl,rfl⟩
  ·have hb0':((bs.length:Int)==0)=false:=by simpa using hb0
   by_cases hk:p+1 - 1<bs.length
   ·have hk':(p+1 - 1).toNat<bs.length:=by omega
    have hge:0<=p+1 - 1:=by omega
    have hlt:bs[(p+1 - 1).toNat].toNat<256:=UInt8.toNat_lt _
    have w3:=aL (n:=(bs[(p+1 - 1).toNat].toNat:Int)) (by omega) (by omega)
    have ht:=sh (x:=(bs[(p+1 - 1).toNat].toNat:Int)) (n:=n) (by omega) (by omega)
    have w4:=aL (n:=(bs[(p+1 - 1).toNat].toNat:Int).tmod n) (by omega) (by omega)
    have hn0:¬n=0:=by omega
    simp only[gG,go_sem,rE,bE,gR,RdO,w1,w2,rA,rL,aC,ge_iff_le,hn,am,hb0',hk,hge,hget hk',w3,w4,hn0]
    exact gK ⟨_,rfl,ht.1,.inl ht.2.1,rfl⟩
   ·have hl0:(0:Int)<bs.length:=by omega
    have t1:=sh (x:=p+1 - 1) (n:=bs.length) (by omega) hl0
    have w3:=aL (n:=(p+1 - 1).tmod bs.length) (by omega) (by omega)
    have w4:=aL (n:=(p+1 - 1)*7) (by omega) (by omega)
    have w5:=aL (n:=(p+1 - 1)*7+3) (by omega) (by omega)
    have t2:=sh (x:=(p+1 - 1)*7+3) (n:=bs.length) (by omega) hl0
    have w6:=aL (n:=((p+1 - 1)*7+3).tmod bs.length) (by omega) (by omega)
    have w7:=aL (n:=(p+1 - 1)*29) (by omega) (by omega)
    have t3:=zo (x:=p+1 - 1) (n:=bs.length) (by omega) hl0
    have w8:=aL (n:=(p+1 - 1).tdiv bs.length) (by omega) (by omega)
    have w9:=aL (n:=(p+1 - 1).tdiv bs.length*53) (by omega) (by omega)
    generalize e1:(p+1 - 1).tmod bs.length=m1 at*
    generalize e2:((p+1 - 1)*7+3).tmod bs.length=m2 at*
    generalize e3:(p+1 - 1).tdiv bs.length=m3 at*
    have hm1:m1.toNat<bs.length:=by omega
    have hm2:m2.toNat<bs.length:=by omega
    have hb1:bs[m1.toNat].toNat<256:=UInt8.toNat_lt _
    have hb2:bs[m2.toNat].toNat<256:=UInt8.toNat_lt _
    have g1:=hget hm1
    have g2:=hget hm2
    generalize bs[m1.toNat].toNat=c1 at*
    generalize bs[m2.toNat].toNat=c2 at*
    have v1:=aL (n:=(c1:Int)) (by omega) (by omega)
    have v2:=aL (n:=(c2:Int)) (by omega) (by omega)
    have v3:=aL (n:=(c1:Int)*131) (by omega) (by omega)
    have v4:=aL (n:=(c2:Int)*1117) (by omega) (by omega)
    have v5:=aL (n:=(c1:Int)*131+c2*1117) (by omega) (by omega)
    have v6:=aL (n:=(c1:Int)*131+c2*1117+(p+1 - 1)*29) (by omega) (by omega)
    have v7:=aL (n:=(c1:Int)*131+c2*1117+(p+1 - 1)*29+m3*53) (by omega) (by omega)
    have hx:0<=(c1:Int)*131+c2*1117+(p+1 - 1)*29+m3*53:=by omega
    have hx':(c1:Int)*131+c2*1117+(p+1 - 1)*29+m3*53<2^62:=by omega
    have hlz:¬(bs.length:Int)=0:=by omega
    have hn0:¬n=0:=by omega
    have h64:¬(64:Int)=0:=by decide
    generalize ex:(c1:Int)*131+c2*1117+(p+1 - 1)*29+m3*53=x at*
    have t4:=zo (x:=x) (n:=64) hx (by omega)
    have u1:=aL (n:=x.tdiv 64) (by omega) (by omega)
    have t5:=xor_in (a:=x) (b:=x.tdiv 64) (by omega) (by omega) (by omega) (by omega)
    have u2:=aL (n:=(((BitVec.ofInt 64 x^^^BitVec.ofInt 64 (x.tdiv 64)).toNat:Nat):Int)) (by omega) (by omega)
    have u2':IntKind.i64.wrap (((BitVec.ofInt IntKind.i64.bits x^^^BitVec.ofInt IntKind.i64.bits (x.tdiv 64)).toNat:Nat):Int)=(((BitVec.ofInt 64 x^^^BitVec.ofInt 64 (x.tdiv 64)).toNat:Nat):Int):=u2
    have t6:=sh (x:=(((BitVec.ofInt 64 x^^^BitVec.ofInt 64 (x.tdiv 64)).toNat:Nat):Int)) (n:=n) (by omega) (by omega)
    have u3:=aL (n:=(((BitVec.ofInt 64 x^^^BitVec.ofInt 64 (x.tdiv 64)).toNat:Int)).tmod n) (by omega) (by omega)
    simp only[gG,go_sem,rE,bE,gR,RdO,w1,w2,w3,w4,w5,w6,w7,w8,w9,rA,rL,aC,ge_iff_le,hn,am,hb0',hk,g1,g2,e1,e2,e3,t1,t2,v1,v2,v3,v4,v5,v6,v7,hlz,ex,h64,u1,u2',hn0,u3]
    rw[<-u3,<-u2]at t6
    exact gK ⟨_,rfl,t6.1,.inl t6.2.1,rfl⟩
theorem rj{dr:Bool}{K:Env->aj->Prop}{xs:List aN}{E:Env}{H:aj}{l:Lds}{f:Fps}{i:Nat}{g:FuncId}{args:List aI}{d:Option Nat}{inc:List Nat}{as:List AC}{r:Nat}{o:cK}
{R:AC->aj->Prop}(hc:bD P g as (one r o) fun q H'=>∃o',R q (one r o')/\H'=one r o')(ha:args.map (aI.ev E)=as)(hr:H.get r=some o)(hlive:dr=true->∃q o',R q (one r o'))(hchk:dS inc l (·=r))
(h:∀q o',R q (one r o')->bw P dr K xs (E.put d q) (H.set r o') l ((i,fun b=>b=r\/H.get b=none)::f)):
 bw P dr K (⟨i,d,none,.eff (.call g args),inc⟩::xs) E H l f:=by
 have hfp:(fun b=>(one r o).get b≠none)=fun b=>b=r:=by
  funext b;apply propext
  by_cases e:b=r
  ·subst e;simp[bE]
  ·simp[gk _ e,e]
 refine dR hc ha (eO hr) (fun hd N=>?_) (by rw[hfp];exact hchk) ?_
 ·obtain⟨q,o',hq⟩:=hlive hd
  refine⟨q,one r o',⟨o',hq,rfl⟩,fun b hb hn=>?_⟩
  by_cases e:b=r
  ·subst e;rw[bE]at hn;simp at hn
  ·rw[gk _ e]at hb;simp at hb
 ·rintro q H' ⟨o',hq,rfl⟩ hd
  rw[wq]
  have:=h q o' hq
  have hfp':(fun b=>(one r o).get b≠none\/H.get b=none)=fun b=>b=r\/H.get b=none:=by
   funext b;rw[congrFun hfp b]
  rw[hfp'];exact this
def RdR(r:Nat)(bs:List UInt8)(p:Int)(c:Int)(Q:AC->Prop)(q:AC)(H':aj):Prop:=∃p',p<=p'/\p'<=p+c/\H'=one r (RdO bs p')/\Q q
theorem bg{dr:Bool}{K:Env->aj->Prop}{xs:List aN}{E:Env}{H:aj}{l:Lds}{f:Fps}{i:Nat}{g:FuncId}{args:List aI}{d:Option Nat}{inc:List Nat}{as:List AC}{r:Nat}{bs:List UInt8}{p c:Int}
{Q:AC->Prop}(hc:bD P g as (one r (RdO bs p)) (RdR r bs p c Q))(ha:args.map (aI.ev E)=as)(hr:H.get r=some (RdO bs p))(hlive:dr=true->0<=c/\∃q,Q q)(hchk:dS inc l (·=r))
(h:∀q p',p<=p'->p'<=p+c->Q q->bw P dr K xs (E.put d q) (H.set r (RdO bs p')) l ((i,fun b=>b=r\/H.get b=none)::f)):
 bw P dr K (⟨i,d,none,.eff (.call g args),inc⟩::xs) E H l f:=by
 refine rj (r:=r) (o:=RdO bs p) (R:=fun q H'=>∃p',p<=p'/\p'<=p+c/\H'=one r (RdO bs p')/\Q q) (hc.mono ?_) ha hr (fun hd=>?_) hchk ?_
 ·rintro q H' ⟨p',h1,h2,rfl,h4⟩
  exact⟨_,⟨p',h1,h2,rfl,h4⟩,rfl⟩
 ·obtain⟨h0,q,hq⟩:=hlive hd
  exact⟨q,RdO bs p,p,dz _,by omega,rfl,hq⟩
 ·rintro q o' ⟨p',h1,h2,h3,h4⟩
  have:o'=RdO bs p':=by
   have:=congrArg (fun H=>aj.get H r) h3
   simpa[bE]using this
  subst this
  exact h q p' h1 h2 h4
theorem cH(L:Lib P F)(r:Nat)(bs:List UInt8)(p n:Int)(hb:bs.length<=2000)(hp:0<=p)(hp':p<=2^50):
 bD P F.s_l6Rd_pick [.ptr r 0,I n] (one r (RdO bs p)) (RdR r bs p 1 fun q=>∃k,q=I k/\0<=k/\(k<n\/k=0)):=
 (c_pick L r bs p n hb hp hp').mono fun q H' ⟨k,h1,h2,h3,h4⟩=>⟨p+1,by omega,dz _,h4,k,h1,h2,h3⟩
def Ty.le:Nat->Ty->Prop
 |0,.mk ks=>ks=[]
 |d+1,.mk ks=>ks.length<=3/\∀k∈ks,Ty.le d k
theorem k9:∀d,Ty.le d (.mk [])
 |0=>rfl
 |d+1=>by simp[Ty.le]
def eQ:Nat->Int
 |0=>0
 |d+1=>1+2*eQ d
theorem mI:∀d,0<=eQ d
 |0=>dz _
 |d+1=>by have:=mI d;simp only[eQ];omega
theorem o9{H:aj}{b:Nat}{o:cK}(h:H.get b=none):H.sub (H.set b o):=by
 intro c q hc
 rw[ae _ _ (by rintro rfl;rw[h]at hc;simp at hc)];exact hc
theorem ff:Le (.agg [NIL]) (.agg (Ty.mk []).enc):=Le.agg (show LeC [NIL] [.sl 1 none []]from⟨⟨.nil 1,rfl⟩,trivial⟩)
theorem le_ty(tok:Option (Nat×Nat×Nat))(ks:List Ty):Le (.agg [.sl 1 tok (Ty.encs ks)]) (.agg (Ty.mk ks).enc):=
 Le.agg (show LeC [.sl 1 tok (Ty.encs ks)] [.sl 1 none (Ty.encs ks)]from⟨⟨.tok _ _ _,rfl⟩,trivial⟩)
theorem ky(L:Lib P F)(r:Nat)(bs:List UInt8)(hb:bs.length<=2000):∀(d:Nat) (dp:Int),dp<=d->d<=100->∀p:Int,0<=p->p+eQ d<=2^50->
 bD P F.s_l71Type [.ptr r 0,I dp] (one r (RdO bs p)) (RdR r bs p (eQ d) fun q=>∃t:Ty,q=.agg t.enc/\t.le d):=by
 intro d
 induction d with
 |zero=>
  intro dp hd hd' p hp hp'
  have h2:dp<2:=by omega
  refine L.s_l71Type (by simp[gZ]) ?_
  simp only[gZ,go_sem,rE]
  intro b hb'
  have hrb:r≠b:=by rintro rfl;rw[bE]at hb';simp at hb'
  simp only[go_sem,rE,h2,aC,rA]
  exact bY (off:=0) (rfl) (ai _ _ _) rfl ff (o9 hb')
   ⟨p,dz _,by simp[eQ],rfl,.mk [],rfl,rfl⟩
 |succ d ih=>
  intro dp hd hd' p hp hp'
  have tn:=mI d
  simp only[eQ]at hp'
  refine L.s_l71Type (by simp[gZ]) ?_
  simp only[gZ,go_sem,rE]
  intro b hb'
  have hrb:r≠b:=by rintro rfl;rw[bE]at hb';simp at hb'
  have hbr:b≠r:=Ne.symm hrb
  have leaf:∀(E:Env) p',p<=p'->p'<=p+eQ (d+1)->E 4=.ptr b 0->
   aD.post [j4.cell 4 (some 1)] (RdR r bs p (eQ (d+1)) fun q=>∃t:Ty,q=.agg t.enc/\t.le (d+1)) .ret E ((one r (RdO bs p')).set b (.cells [AC.lit (.slice none 0 0)])):=by
   intro E p' h1 h2 hE
   exact bY hE (ai _ _ _) rfl ff (o9 (gk _ hbr)) ⟨p',h1,h2,rfl,.mk [],rfl,k9 _⟩
  by_cases h2:dp<2
  ·simp only[go_sem,rE,h2,aC,rA]
   exact leaf _ p (dz _) (by simp only[eQ];omega) (rfl)
  ·simp only[go_sem,rE,h2]
   refine bg (cH L r bs p 3 hb hp (by omega)) (rfl) (by simp only[go_sem,hrb,bE]) (by simp) trivial ?_
   rintro q p1 hp1 hp1' ⟨k,rfl,hk0,hk3⟩
   simp only[go_sem,rE]
   rw[fk hbr,gR]
   refine aG (fun hgt=>?_) (fun hle=>?_)
   ·simp only[go_sem,rE,aC,rA]
    exact leaf _ p1 hp1 (by simp only[eQ];omega) (rfl)
   ·have w1:=aL (n:=dp - 1) (by omega) (by omega)
    simp only[go_sem,rE,w1]
    refine bg (ih (dp - 1) (by omega) (by omega) p1 (by omega) (by omega)) (rfl) (by simp only[go_sem,hrb,bE]) (by simp) trivial ?_
    rintro q p2 hp2 hp2' ⟨t1,rfl,ht1⟩
    rw[fk hbr,gR]
    simp only[go_sem,rE,w1]
    refine bg (ih (dp - 1) (by omega) (by omega) p2 (by omega) (by omega)) (rfl) (by simp only[go_sem,hrb,bE]) (by simp) trivial ?_
    rintro q p3 hp3 hp3' ⟨t2,rfl,ht2⟩
    rw[fk hbr,gR]
    obtain⟨k1⟩:=t1
    obtain⟨k2⟩:=t2
    simp only[go_sem,rE,Ty.enc,ax,aq,az,rA,rL,aC,Nat.reduceMul]
    intro b2 hb2
    have h2b:b≠b2:=by rintro rfl;simp at hb2
    have h2r:r≠b2:=by rintro rfl;rw[ae _ _ hrb,bE]at hb2;simp at hb2
    simp only[go_sem,h2b,bh,aC,rA]
    refine bY (off:=0) (rfl) (ai _ _ _) rfl (le_ty (some (b2,2,2)) [.mk k1,.mk k2])
     (eO (o:=RdO bs p3) (by rw[ae _ _ hrb,ae _ _ h2r,ae _ _ hrb,bE]))
     ⟨p3,by omega,by simp only[eQ];omega,rfl,_,rfl,?_⟩
    simp only[Ty.le,aV,bP,bf,cq,or_false,forall_eq_or_imp,forall_eq]
    exact⟨by omega,ht1,ht2⟩
end
noncomputable instance:DecidableEq Ty:=fun _ _=>Classical.propDecidable _
noncomputable instance:DecidableEq Pl:=fun _ _=>Classical.propDecidable _
theorem strEq(a b:ByteArray):(a.toList==b.toList)=decide (a=b):=by
 rw[aZ,beq_iff_eq,decide_eq_true_eq,ByteArray.toList_eq,ByteArray.toList_eq]
 exact⟨fun h=>ByteArray.ext (eY.mp h),fun h=>by rw[h]⟩
@[go_sem] theorem strBin_eql(a b:ByteArray):pJ .eql a b=some (B (decide (a=b))):=by simp only[pJ,strEq]
@[go_sem] theorem strBin_neq(a b:ByteArray):pJ .neq a b=some (B (!decide (a=b))):=by simp only[pJ,strEq]
theorem gI{P:Program}{dr:Bool}{K:Env->aj->Prop}{xs:List aN}{E:Env}{H:aj}{l:Lds}{f:Fps}{i:Nat}{g:FuncId}{args:List aI}{d:Option Nat}{inc:List Nat}{as as':List AC}{r:AC}
(hc:cM P g as r)(ha:args.map (aI.ev E)=as')(hl:LeA as' as)
(h:bw P dr K xs (E.put d r) H l ((i,fun b=>False\/H.get b=none)::f)):bw P dr K (⟨i,d,none,.eff (.call g args),inc⟩::xs) E H l f:=
 ao (hc.weaken hl (fun b=>by simp)) ha h
section
variable {P:Program}{F:Ids}
theorem qe(L:Lib P F)(n lo hi:Int):cM P F.s_l6In [I n,I lo,I hi] (B (decide (lo<=n/\n<=hi))):=by
 refine L.s_l6In (by simp[qp]) ?_
 by_cases h1:lo<=n
 ·simp only[qp,go_sem,rE,rA,ge_iff_le,h1]
  exact gK ⟨rfl,rfl⟩
 ·simp only[qp,go_sem,rE,rA,ge_iff_le,h1]
  exact gK ⟨by simp[fR,h1],rfl⟩
theorem j5{D:Nat}{ks:List Ty}(h:Ty.le D (.mk ks)):ks.length<=3/\∀k∈ks,∃D',D=D'+1/\k.le D':=by
 cases D with
 |zero=>simp only[Ty.le]at h;subst h;simp
 |succ D=>exact⟨h.1,fun k hk=>⟨D,rfl,h.2 k hk⟩⟩
theorem Ty.enc_eq(t:Ty):t.enc=[.sl 1 none (Ty.encs t.kids)]:=by cases t;rfl
theorem mi{ks:List Ty}{k:Nat}(h:k<ks.length):(Ty.encs ks)[k]?=some (ks[k]).enc:=by simp[Ty.encs_map,h]
@[go_sem] theorem encs_len{ks:List Ty}:(Ty.encs ks).length=ks.length:=by simp[Ty.encs_map]
theorem qJ(L:Lib P F):∀(D:Nat) (a b:Ty),a.le D->cM P F.s_l1Same [.agg a.enc,.agg b.enc] (B (decide (a=b))):=by
 intro D
 induction D using Nat.strongRecOn with
 |_ D ih=>
  rintro⟨as⟩ ⟨bs⟩ ha
  obtain⟨hl,hk⟩:=j5 ha
  refine L.s_l1Same (by simp[pk]) ?_
  simp only[pk,go_sem,rE,rA,Ty.enc]
  intro b1 hb1 b2 hb2
  have hne:b1≠b2:=by rintro rfl;simp at hb2
  simp only[go_sem,rE,rA,hne]
  by_cases hlen:as.length=bs.length
  ·have hlen':((as.length:Int) !=bs.length)=false:=by simp[hlen]
   simp only[go_sem,rE,rA,hlen']
   refine aT as.length (fun k E H=>H=(aj.empty.set b1 (.cells [.sl 1 none (Ty.encs as)])).set b2 (.cells [.sl 1 none (Ty.encs bs)])/\E 2=.ptr b1 0/\E 3=.ptr b2 0/\E 5=I k/\
    ∀i (h:i<as.length) (h':i<bs.length),i<k->as[i]=bs[i]) (by simp[go_sem]) ?_
   rintro k E H hk' ⟨rfl,h2,h3,h5,hall⟩
   simp only[go_sem,rE,rA,h2,h3,h5,hne]
   refine aG (fun hlt=>?_) (fun hge=>?_)
   ·have hlt1:k<as.length:=by omega
    have hlt2:k<bs.length:=by omega
    have w1:=aL (n:=(k:Int)+1) (by omega) (by omega)
    obtain⟨D',rfl,hD'⟩:=hk _ (ay hlt1)
    have hg1:=mi hlt1
    have hg2:=mi hlt2
    have hih:=ih D' (by omega) as[k] bs[k] hD'
    rw[Ty.enc_eq]at hg1 hg2
    rw[Ty.enc_eq,Ty.enc_eq bs[k]]at hih
    simp only[go_sem,rE,rA,h2,h3,h5,hne,hg1,hg2]
    refine ao hih (rfl) ?_
    simp only[go_sem,rE,rA,h2,h3,h5,hne]
    by_cases heq:as[k]=bs[k]
    ·simp only[heq,go_sem,rE,rA,h2,h3,h5,hne,w1]
     refine⟨hlt1,_,aj.sub_refl _,rfl,by simp,fun i h h' hi=>?_⟩
     by_cases hik:i=k
     ·subst hik;exact heq
     ·exact hall i h h' (by omega)
    ·simp only[heq,go_sem,rE,rA,h2,h3,h5,hne,w1]
     refine ak (.refl _) (aj.sub_empty _) ⟨?_,rfl⟩
     have:¬Ty.mk as=.mk bs:=by rintro h;injection h with h;subst h;exact heq rfl
     simp only[go_sem,this]
   ·simp only[go_sem,rE,rA]
    refine ak (.refl _) (aj.sub_empty _) ⟨?_,rfl⟩
    have:Ty.mk as=.mk bs:=by
     congr 1
     exact List.ext_getElem hlen fun i h h'=>hall i h h' (by omega)
    simp only[go_sem,this]
  ·have hlen':((as.length:Int) !=bs.length)=true:=bne_iff_ne.2 (by omega)
   simp only[go_sem,rE,rA,hlen']
   refine ak (.refl _) (aj.sub_empty _) ⟨?_,rfl⟩
   have:¬Ty.mk as=.mk bs:=by rintro h;injection h with h;exact hlen (by rw[h])
   simp only[go_sem,this]
def Ty.deepB:Nat->Ty->Bool
 |0,_=>false
 |n+1,.mk ks=>(decide (ks.length=0)||decide (ks.length=2))&&ks.all (Ty.deepB n)
theorem Cm(L:Lib P F):∀(n:Nat) (t:Ty),n<=100->cM P F.s_l1Deep [.agg t.enc,I n] (B (t.deepB n)):=by
 intro n
 induction n with
 |zero=>
  rintro⟨ks⟩ -
  refine L.s_l1Deep (by simp[kW]) ?_
  simp only[kW,go_sem,rE,Ty.enc]
  intro b1 hb1
  simp only[go_sem,rE,cW,show(0:Int)<1 from by decide]
  exact ak (.refl _) (aj.sub_empty _) ⟨by simp only[go_sem,Ty.deepB],rfl⟩
 |succ n ih=>
  rintro⟨ks⟩ hn
  refine L.s_l1Deep (by simp[kW]) ?_
  simp only[kW,go_sem,rE,Ty.enc]
  intro b1 hb1
  have h1:¬((n+1:Nat):Int)<1:=by omega
  simp only[go_sem,rE,h1]
  by_cases hl0:ks.length=0
  ·have hks:ks=[]:=bu hl0
   subst hks
   simp only[go_sem,rE,cW,bne_self_eq_false]
   refine aT 0 (fun k E H=>E 2=.ptr b1 0/\H.get b1=some (.cells [.sl 1 none []])/\E 5=I k) (by simp[go_sem,Ty.encs]) ?_
   rintro k E H hk ⟨h2,hg,h5⟩
   have:k=0:=by omega
   subst this
   simp only[go_sem,rE,h2,hg,h5,cW,Int.lt_irrefl]
   exact ak (.refl _) (aj.sub_empty _) ⟨by simp[fR,Ty.deepB],rfl⟩
  ·have hb0:((ks.length:Int) !=0)=true:=bne_iff_ne.2 (by omega)
   by_cases hl2:ks.length=2
   ·have hb2:((ks.length:Int) !=2)=false:=by simp[hl2]
    simp only[go_sem,rE,hb0,hb2]
    refine aT ks.length (fun k E H=>E 1=I (n+1:Nat)/\E 2=.ptr b1 0/\H.get b1=some (.cells [.sl 1 none (Ty.encs ks)])/\E 5=I k/\∀i (h:i<ks.length),i<k->(ks[i]).deepB n=true) (by simp[go_sem]) ?_
    rintro k E H hk ⟨h1',h2,hg,h5,hall⟩
    simp only[go_sem,rE,h2,hg,h5]
    refine aG (fun hlt=>?_) (fun hge=>?_)
    ·have hlt1:k<ks.length:=by omega
     have w1:=aL (n:=(k:Int)+1) (by omega) (by omega)
     have w2:IntKind.i64.wrap (((n+1:Nat):Int) - 1)=n:=by rw[aL (by omega) (by omega)];omega
     have hih:=ih ks[k] (by omega)
     have hg1:=mi hlt1
     rw[Ty.enc_eq]at hg1 hih
     simp only[go_sem,rE,rA,h1',h2,hg,h5,hg1,w2]
     refine ao hih (rfl) ?_
     simp only[go_sem,rE,h1',h2,hg,h5]
     refine mF (fun hd=>?_) (fun hd=>?_)
     ·simp only[dJ]at hd
      simp only[go_sem,rE]
      refine ak (.refl _) (aj.sub_empty _) ⟨?_,rfl⟩
      have:Ty.deepB (n+1) (.mk ks)=false:=by
       simp only[Ty.deepB,cO,du]
       exact .inr ⟨ks[k],ay _,by simp[hd]⟩
      simp only[go_sem,this]
     ·simp only[Bool.not_eq_false']at hd
      simp only[go_sem,rE,h1',h2,hg,h5,w1]
      refine⟨hlt1,H,aj.sub_refl _,hg,by simp,fun i h hi=>?_⟩
      by_cases hik:i=k
      ·subst hik;exact hd
      ·exact hall i h (by omega)
    ·simp only[go_sem,rE]
     refine ak (.refl _) (aj.sub_empty _) ⟨?_,rfl⟩
     have:Ty.deepB (n+1) (.mk ks)=true:=by
      simp only[Ty.deepB,hl2,aw,aW]
      refine⟨by simp,fun x hx=>?_⟩
      obtain⟨i,hi,rfl⟩:=bj.1 hx
      exact hall i hi (by omega)
     simp only[go_sem,this]
   ·have hb2:((ks.length:Int) !=2)=true:=bne_iff_ne.2 (by omega)
    simp only[go_sem,rE,hb0,hb2]
    exact ak (.refl _) (aj.sub_empty _) ⟨by simp[fR,Ty.deepB,hl0,hl2],rfl⟩
def Ty.okB(t:Ty):Bool:=t.deepB 4
theorem qL(L:Lib P F)(t:Ty):cM P F.s_TypeOk [.agg t.enc] (B t.okB):=by
 refine L.s_TypeOk (by simp[po]) ?_
 have h:=Cm L 4 t (by omega)
 rw[Ty.enc_eq]at h⊢
 simp only[po,go_sem,rE]
 intro b1 hb1
 refine ao h (rfl) ?_
 simp only[go_sem,rE]
 exact ak (.refl _) (aj.sub_empty _) ⟨by simp only[go_sem,Ty.okB],rfl⟩
theorem AK(L:Lib P F)(ns:List Int)(n:Int)(hl:ns.length<=2^40):cM P F.s_l3Among [.sl 1 none (ns.map fun i=>[I i]),I n] (B (ns.contains n)):=by
 refine L.s_l3Among (by simp[nA]) ?_
 simp only[nA,go_sem,rE]
 refine aT ns.length (fun k E H=>E 0=.sl 1 none (ns.map fun i=>[I i])/\E 1=I n/\E 5=I k/\∀i (h:i<ns.length),i<k->ns[i]≠n) (by simp[go_sem]) ?_
 rintro k E H hk ⟨h0,h1,h5,hall⟩
 simp only[go_sem,rE,h0,h1,h5,am]
 refine aG (fun hlt=>?_) (fun hge=>?_)
 ·have hlt1:k<ns.length:=by omega
  have w1:=aL (n:=(k:Int)+1) (by omega) (by omega)
  have hg:(ns.map fun i=>[I i])[k]?=some [I ns[k]]:=by simp[hlt1]
  simp only[go_sem,rE,h0,h1,h5,hg]
  refine mF (fun hd=>?_) (fun hd=>?_)
  ·simp only[go_sem,rE]
   refine ak (.refl _) (aj.sub_empty _) ⟨?_,rfl⟩
   have:ns.contains n=true:=by rw[List.contains_iff_mem];rw[beq_iff_eq]at hd;rw[<-hd];exact ay _
   simp only[go_sem,this]
  ·simp only[go_sem,rE,h0,h1,h5,w1]
   refine⟨hlt1,H,aj.sub_refl _,by simp,fun i h hi=>?_⟩
   by_cases hik:i=k
   ·subst hik;simpa using hd
   ·exact hall i h (by omega)
 ·simp only[go_sem,rE]
  refine ak (.refl _) (aj.sub_empty _) ⟨?_,rfl⟩
  have:ns.contains n=false:=by
   rw[<-Bool.not_eq_true,List.contains_iff_mem]
   intro hm
   obtain⟨i,hi,he⟩:=bj.1 hm
   exact hall i hi (by omega) he
  simp only[go_sem,this]
theorem AJ(L:Lib P F)(lent:Bool)(es:List (List AC))(sz:Nat):cM P F.s_l3Loans [B lent,.sl sz none es] (.sl sz none (if lent then es else [])):=by
 refine L.s_l3Loans (by simp[lB]) ?_
 cases lent
 ·simp only[lB,go_sem,rE]
  exact ak (by simpa[fR]using Le.nil sz) (aj.sub_empty _) ⟨rfl,rfl⟩
 ·simp only[lB,go_sem,rE]
  exact ak (by simpa[fR]using Le.refl _) (aj.sub_empty _) ⟨rfl,rfl⟩
def Pl.meet(a b:Pl):Bool:=decide (a.name=b.name)&&(a.path.zip b.path).all fun p=>decide (p.1=p.2)
theorem ji{p:List Int}{k:Nat}(h:k<p.length):(p.map fun i=>[I i])[k]?=some [I p[k]]:=by simp[h]
theorem x6(L:Lib P F)(a b:Pl)(ha:a.path.length<=2^40):cM P F.s_l3Meet [.agg a.enc,.agg b.enc] (B (a.meet b)):=by
 refine L.s_l3Meet (by simp[oZ]) ?_
 simp only[oZ,go_sem,rE,Pl.enc,au]
 intro b1 hb1 b2 hb2
 have hne:b1≠b2:=by rintro rfl;simp at hb2
 simp only[go_sem,rE,rA,hne]
 by_cases hn:a.name=b.name
 ·simp only[go_sem,rE,hn]
  refine aT a.path.length (fun k E H=>H.get b1=some (.cells [S b.name,.sl 1 none (a.path.map fun i=>[I i])])/\H.get b2=some (.cells [S b.name,.sl 1 none (b.path.map fun i=>[I i])])/\E 2=.ptr b1 0/\E 3=.ptr b2 0/\E 5=I k/\
   ∀i (h:i<a.path.length) (h':i<b.path.length),i<k->a.path[i]=b.path[i]) (by simp[go_sem,hne]) ?_
  rintro k E H hk ⟨g1,g2,h2,h3,h5,hall⟩
  have fin:a.path.length<=k\/b.path.length<=k->Pl.meet a b=true:=by
   intro hle
   simp only[Pl.meet,hn,decide_true,bX,aW,decide_eq_true_eq]
   intro p hp
   obtain⟨i,hi,rfl⟩:=bj.1 hp
   simp only[List.length_zip]at hi
   simp only[List.getElem_zip]
   exact hall i (by omega) (by omega) (by omega)
  simp only[go_sem,rE,rA,h2,h3,h5,g1,g2,am]
  by_cases hlt1:k<a.path.length
  ·have hlt1':(k:Int)<a.path.length:=by omega
   simp only[go_sem,rE,rA,h2,h3,h5,g1,g2,hlt1',am]
   refine aG (fun hlt=>?_) (fun hge=>?_)
   ·have hlt2:k<b.path.length:=by omega
    have w1:=aL (n:=(k:Int)+1) (by omega) (by omega)
    simp only[go_sem,rE,rA,h2,h3,h5,g1,g2,ji hlt1,ji hlt2]
    by_cases he:a.path[k]=b.path[k]
    ·have he':(a.path[k] !=b.path[k])=false:=by simp[he]
     simp only[go_sem,rE,he',h2,h3,h5,w1]
     refine⟨hlt1,H,aj.sub_refl _,g1,g2,by simp,fun i h h' hi=>?_⟩
     by_cases hik:i=k
     ·subst hik;exact he
     ·exact hall i h h' (by omega)
    ·have he':(a.path[k] !=b.path[k])=true:=bne_iff_ne.2 he
     simp only[go_sem,rE,he']
     refine ak (.refl _) (aj.sub_empty _) ⟨?_,rfl⟩
     have:Pl.meet a b=false:=by
      simp only[Pl.meet,cO,du]
      refine .inr ⟨(a.path[k],b.path[k]),?_,by simpa using he⟩
      have hz:k<(a.path.zip b.path).length:=by simp;omega
      have:=ay hz
      simpa using this
     simp only[go_sem,this]
   ·simp only[go_sem,rE]
    exact ak (.refl _) (aj.sub_empty _) ⟨by simp only[go_sem,fin (.inr (by omega))],rfl⟩
  ·have hlt1':¬(k:Int)<a.path.length:=by omega
   simp only[go_sem,rE,hlt1']
   exact ak (.refl _) (aj.sub_empty _) ⟨by simp only[go_sem,fin (.inl (by omega))],rfl⟩
 ·simp only[go_sem,rE,hn]
  exact ak (.refl _) (aj.sub_empty _) ⟨by simp[fR,Pl.meet,hn],rfl⟩
theorem Ex.enc_eq(e:Ex):e.enc=[I e.kind,I e.num,S e.place.name,au e.place.path,.sl 5 none (Ex.encs e.kids)]:=by cases e;rfl
theorem Fu.enc_eq(f:Fu):f.enc=[S f.name,.sl 3 none (f.params.map Pa.enc),B f.lent,.sl 1 none (Ty.encs f.type.kids),.sl 15 none (St.encs f.body),I f.says.kind,I f.says.num,S f.says.place.name,
 au f.says.place.path,.sl 5 none (Ex.encs f.says.kids),S f.gives.name,au f.gives.path]:=by
 simp only[Fu.enc,Ty.enc_eq,Ex.enc_eq,Pl.enc];rfl
theorem St.enc_eq(s:St):s.enc=[I s.kind,S s.name,S s.place.name,au s.place.path,S s.other.name,au s.other.path,I s.expr.kind,I s.expr.num,S s.expr.place.name,au s.expr.place.path,.sl 5 none (Ex.encs s.expr.kids),
 S s.fn,.sl 8 none (s.args.map Ag.enc),.sl 15 none (St.encs s.thn),.sl 15 none (St.encs s.els)]:=by
 obtain⟨k,n,p,o,e,f,as,t,l⟩:=s
 simp only[St.enc,Ex.enc_eq];rfl
theorem vC{fs:List Fu}{k:Nat}(h:k<fs.length):(fs.map Fu.enc)[k]?=some fs[k].enc:=by simp[h]
def yD(fs:List Fu)(name:ByteArray)(most:Nat):Int:=match(fs.take most).findIdx? fun f=>decide (f.name=name)with
 |some i=>i
 |none=>-1
theorem Ci(L:Lib P F)(fs:List Fu)(name:ByteArray)(most:Nat)(hl:fs.length<=2^40)(hm:most<=2^40):cM P F.s_l3Fn [.agg (Pg.enc fs),S name,I most] (I (yD fs name most)):=by
 refine L.s_l3Fn (by simp[sn]) ?_
 simp only[sn,go_sem,rE,Pg.enc]
 intro b1 hb1
 refine aT most (fun k E H=>H.get b1=some (.cells [.sl 12 none (fs.map Fu.enc)])/\E 1=S name/\E 2=I most/\E 3=.ptr b1 0/\E 7=I k/\
  ∀i (h:i<fs.length),i<k->fs[i].name≠name) (by simp[go_sem]) ?_
 rintro k E H hk ⟨g1,h1,h2,h3,h7,hall⟩
 have fin:most<=k\/fs.length<=k->yD fs name most=-1:=by
  intro hle
  have:(fs.take most).findIdx? (fun f=>decide (f.name=name))=none:=by
   rw[iB]
   intro x hx
   obtain⟨i,hi,rfl⟩:=bj.1 hx
   simp only[bk]at hi
   simp only[List.getElem_take,decide_eq_false_iff_not]
   exact hall i (by omega) (by omega)
  simp only[yD,this]
 by_cases hlt1:k<most
 ·have hlt1':(k:Int)<most:=by omega
  simp only[go_sem,rE,rA,h1,h2,h3,h7,g1,hlt1',am]
  refine aG (fun hlt=>?_) (fun hge=>?_)
  ·have hlt2:k<fs.length:=by omega
   have w1:=aL (n:=(k:Int)+1) (by omega) (by omega)
   simp only[go_sem,rE,rA,h1,h2,h3,h7,g1,vC hlt2,Fu.enc_eq]
   by_cases he:fs[k].name=name
   ·simp only[go_sem,rE,he,h7]
    refine ak (.refl _) (aj.sub_empty _) ⟨?_,rfl⟩
    have:(fs.take most).findIdx? (fun f=>decide (f.name=name))=some k:=by
     rw[bQ]
     refine⟨by simp;omega,by simpa using he,fun j hj=>?_⟩
     simp only[List.getElem_take,decide_eq_true_eq]
     exact hall j (by omega) hj
    simp only[go_sem,yD,this]
   ·simp only[go_sem,rE,he,h1,h2,h3,h7,w1]
    refine⟨hlt1,H,aj.sub_refl _,g1,by simp,fun i h hi=>?_⟩
    by_cases hik:i=k
    ·subst hik;exact he
    ·exact hall i h (by omega)
  ·simp only[go_sem,rE]
   exact ak (.refl _) (aj.sub_empty _) ⟨by simp only[go_sem,fin (.inr (by omega))],rfl⟩
 ·have hlt1':¬(k:Int)<most:=by omega
  simp only[go_sem,rE,h1,h2,h7,hlt1']
  exact ak (.refl _) (aj.sub_empty _) ⟨by simp only[go_sem,fin (.inl (by omega))],rfl⟩
theorem Au(ks:List Ty)(k:Ty):Ty.encs (ks++[k])=Ty.encs ks++[k.enc]:=by simp only[Ty.encs_map,bB,aS,bv]
theorem LeC.self_sl{sz:Nat}{x:AC}{es:List (List AC)}(h:Le x (.sl sz none es)):LeC [x] [.sl sz none es]:=⟨⟨h,rfl⟩,trivial⟩
theorem Cn(L:Lib P F):∀(D:Nat) (t:Ty),t.le D->cM P F.s_l1Copy [.agg t.enc] (.agg t.enc):=by
 intro D
 induction D using Nat.strongRecOn with
 |_ D ih=>
  rintro⟨ks⟩ ht
  obtain⟨hl,hk⟩:=j5 ht
  refine L.s_l1Copy (by simp[pm]) ?_
  simp only[pm,go_sem,rE,Ty.enc]
  intro b1 hb1 b2 hb2 b3 hb3
  have h12:b1≠b2:=by rintro rfl;simp at hb2
  have h23:b2≠b3:=by rintro rfl;simp at hb3
  have h13:b1≠b3:=by rintro rfl;rw[ae _ _ h12]at hb3;simp at hb3
  refine aT ks.length (fun k E H=>H.get b1=some (.cells [.sl 1 none (Ty.encs ks)])/\(∃y,H.get b2=some (.cells [y]))/\(∃x,H.get b3=some (.cells [x])/\bR H 1 (Ty.encs (ks.take k)) x)/\
   E 1=.ptr b1 0/\E 2=.ptr b2 0/\E 3=.ptr b3 0/\E 4=I k) ⟨by simp[go_sem,h12,h13],⟨_,by rw[ae _ _ h23,ai]⟩,⟨NIL,by simp,by simpa[Ty.encs]using bR.nil _ _⟩,by simp[go_sem]⟩ ?_
  rintro k E H hk' ⟨g1,⟨y,g2⟩,⟨x,g3,hx⟩,h1,h2,h3,h4⟩
  simp only[go_sem,rE,rA,h1,h2,h3,h4,g1]
  refine aG (fun hlt=>?_) (fun hge=>?_)
  ·have hlt1:k<ks.length:=by omega
   have w1:=aL (n:=(k:Int)+1) (by omega) (by omega)
   have hg1:=mi hlt1
   obtain⟨D',rfl,hD'⟩:=hk _ (ay hlt1)
   have hih:=ih D' (by omega) _ hD'
   rw[Ty.enc_eq]at hg1 hih
   simp only[go_sem,rE,rA,h1,h2,h3,h4,g1,g3,hg1]
   refine ao hih (rfl) ?_
   simp only[go_sem,rE,rA,ax,aq,az]
   refine wx (es:=Ty.encs (ks.take k)) (ys:=[ks[k].enc]) (by simp only[go_sem,rE];exact hx) (by simp[go_sem,bh,Ty.enc_eq]) (by simp[Ty.enc_eq]) (by simp[Ty.encs_map];omega) rfl ?_
   intro x' H' fp hx' hkeep
   have k1:=hkeep.1 _ _ g1
   have k2:=hkeep.1 _ _ g2
   have k3:=hkeep.1 _ _ g3
   simp only[go_sem,rE,rA,h1,h2,h3,h4,k3,hx'.one,w1]
   refine⟨hlt1,_,aj.sub_refl _,?_,⟨y,?_⟩,⟨x',ai _ _ _,?_⟩,?_⟩
   ·rw[ae _ _ h13];exact k1
   ·rw[ae _ _ h23];exact k2
   ·have:=hx'.set k3 (.cells [x'])
    rwa[show Ty.encs (ks.take k)++[ks[k].enc]=Ty.encs (ks.take (k+1))from by rw[aA hlt1,Au]]at this
   ·simp
  ·have hkk:k=ks.length:=by omega
   subst hkk
   rw[aU]at hx
   simp only[go_sem,rE,rA,h1,h2,h3,g2,g3]
   exact bY (off:=0) (h2) (ai _ _ _) rfl (.agg (.self_sl hx.le)) (aj.sub_empty _) ⟨rfl,rfl⟩
def Ty.at:Ty->List Int->Option Ty
 |t,[]=>some t
 |.mk ks,i::p=>if 0<=i then(ks[i.toNat]?).bind fun u=>Ty.at u p else none
def Ty.atOk(t:Ty)(p:List Int):Option Ty:=if t.okB then t.at p else none
def jg:Option Ty->AC
 |some u=>.tup [.agg u.enc,B true]
 |none=>.tup [.agg (Ty.mk []).enc,B false]
theorem mK{E:Env}{H:aj}{a b:j4}{x y:AC}(ha:a.val E H=some x)(hb:b.val E H=some y):lW E H [a,b]=some (.tup [x,y]):=by
 simp only[lW,iK,ha,hb]
theorem cv{E:Env}{H:aj}{n m r off:Nat}{g:Option Nat}{cs:List AC}{q q1:AC}{R:AC->aj->Prop}(hE:E n=.ptr r off)(hg:H.get r=some (.cells cs))(hq:fM g cs off=some q)
(hl:Le q q1){H':aj}(hs:H'.sub H)(h:R (.tup [q1,E m]) H'):aD.post [.cell n g,.slot m] R .ret E H:=
 ⟨.tup [q,E m],mK (by simp only[j4.val,hE,hg,hq]) rfl,_,H',.of (Le.tup (show LeA [q,E m] [q1,E m]from⟨hl,.refl _,trivial⟩)) hs,h⟩
theorem Cw(L:Lib P F)(D:Nat)(t:Ty)(ht:t.le D)(p:List Int)(hp:p.length<=2^40):cM P F.s_TypeAt [.agg t.enc,au p] (jg (t.atOk p)):=by
 refine L.s_TypeAt (by simp[pq]) ?_
 have hok:=qL L t
 rw[Ty.enc_eq]at hok⊢
 simp only[pq,go_sem,rE,au]
 intro b1 hb1 b2 hb2
 have h12:b1≠b2:=by rintro rfl;simp at hb2
 have h21:b2≠b1:=Ne.symm h12
 simp only[go_sem,rE,rA,h12]
 refine ao hok (rfl) ?_
 simp only[go_sem,rE,rA]
 cases hb:t.okB
 ·simp only[go_sem,rE,rA]
  exact cv (off:=0) (rfl) (ai _ _ _) rfl ff (aj.sub_empty _) ⟨by simp only[go_sem,rE,Ty.atOk,hb,jg],rfl⟩
 ·simp only[go_sem,rE,rA]
  refine aT p.length (fun k E H=>(∃u D,u.le D/\H.get b1=some (.cells [.sl 1 none (Ty.encs u.kids)])/\t.at p=u.at (p.drop k))/\(∃y,H.get b2=some (.cells [y]))/\E 1=.sl 1 none (p.map fun i=>[I i])/\
   E 2=.ptr b1 0/\E 4=.ptr b2 0/\E 6=I k) ⟨⟨t,D,ht,by simp[go_sem,h12],by simp⟩,⟨_,by rw[ai]⟩,by simp[go_sem]⟩ ?_
  rintro k E H hk ⟨⟨u,D',hu,g1,hat⟩,⟨y,g2⟩,h1,h2,h4,h6⟩
  simp only[go_sem,rE,rA,h1,h2,h4,h6,am]
  refine aG (fun hlt=>?_) (fun hge=>?_)
  ·have hlt1:k<p.length:=by omega
   have w1:=aL (n:=(k:Int)+1) (by omega) (by omega)
   obtain⟨us⟩:=u
   obtain⟨hl,hsub⟩:=j5 hu
   have w2:=aL (n:=(us.length:Int) - 1) (by omega) (by omega)
   simp only[Ty.kids]at g1
   simp only[go_sem,rE,rA,h1,h2,h4,h6,g1,ji hlt1,w2]
   refine ao (qe L p[k] 0 (us.length - 1)) (rfl) ?_
   simp only[go_sem,rE,rA,h1,h2,h4,h6,g1]
   rw[bU hlt1]at hat
   by_cases hin:0<=p[k]/\p[k]<=(us.length:Int) - 1
   ·have hin':p[k].toNat<us.length:=by omega
    have hge0:0<=p[k]:=hin.1
    obtain⟨D'',-,hD''⟩:=hsub _ (ay hin')
    have hg:=mi hin'
    rw[Ty.enc_eq]at hg
    simp only[go_sem,rE,rA,hin,hge0,h1,h2,h4,h6,g1,ji hlt1,hg,w1]
    refine⟨hlt1,_,aj.sub_refl _,⟨us[p[k].toNat],D'',hD'',ai _ _ _,?_⟩,⟨y,?_⟩,by simp⟩
    ·rw[hat];simp only[Ty.at,hge0,if_true,av hin',Option.bind_some]
    ·rw[ae _ _ h21];exact g2
   ·simp only[go_sem,rE,rA,hin,h1,h2,h4,h6,g2]
    have hn:t.at p=none:=by
     rw[hat];simp only[Ty.at]
     split
     ·rw[fE (by omega)];rfl
     ·rfl
    exact cv (off:=0) (h4) (ai _ _ _) rfl ff (aj.sub_empty _) ⟨by simp only[go_sem,rE,Ty.atOk,hb,hn,jg],rfl⟩
  ·have hkk:k=p.length:=by omega
   subst hkk
   rw[l8]at hat
   simp only[Ty.at]at hat
   have hc:=Cn L D' u hu
   rw[Ty.enc_eq]at hc
   simp only[go_sem,rE,rA,h1,h2,h4,h6,g1,g2]
   refine ao hc (rfl) ?_
   simp only[go_sem,rE,rA,h1,h2,h4,h6,g1,g2]
   exact cv (off:=0) (h4) (ai _ _ _) rfl (.refl _) (aj.sub_empty _) ⟨by simp only[go_sem,rE,Ty.atOk,hb,hat,jg,Ty.enc_eq],rfl⟩
end
def eN(H:aj)(sz:Nat)(rows:List (List AC))(x:AC):Prop:=(rows=[]/\x=NIL)\/
 ∃b c cs,x=.lit (.slice (some ⟨b,0,none⟩) rows.length c)/\H.get b=some (.cells cs)/\cs.length=c*sz/\rows.length<=c/\cs.take (rows.length*sz)=rows.flatten
def gT(x:AC)(d:Nat):Prop:=∃n c,x=.lit (.slice (some ⟨d,0,none⟩) n c)
theorem eN.mono{H H':aj}{sz:Nat}{rows:List (List AC)}{x:AC}(h:eN H sz rows x)(hk:∀d,gT x d->H'.get d=H.get d):eN H' sz rows x:=by
 rcases h with h|⟨b,c,cs,rfl,h1,h2⟩
 ·exact .inl h
 ·exact .inr ⟨b,c,cs,rfl,by rw[hk b ⟨_,_,rfl⟩];exact h1,h2⟩
section
variable {P:Program}{dr:Bool}{K:Env->aj->Prop}{xs:List aN}{E:Env}{H:aj}{l:Lds}{f:Fps}
theorem sR{i sz bytes:Nat}{d:Option Nat}{s y:aI}{inc:List Nat}{rows ys:List (List AC)}(hs:eN H sz rows (s.ev E))(hy:i9 H sz (y.ev E)=some ys)(hsz:∀e∈ys,e.length=sz)
(hl:rows.length+ys.length<=2^32)(hinc:inc=[])
(h:∀x' H' fp,eN H' sz (rows++ys) x'->(∀c,H.get c≠none->¬gT (s.ev E) c->H'.get c=H.get c)->(∀c,gT x' c->gT (s.ev E) c\/H.get c=none)->bw P dr K xs (E.put d x') H' l ((i,fp)::f)):
 bw P dr K (⟨i,d,none,.eff (.appendM sz bytes s y),inc⟩::xs) E H l f:=by
 subst hinc
 simp only[bw,aN.act,dB,EOp.isA,EOp.run,hy,ap,if_false]
 refine⟨hsz,?_⟩
 rcases hs with⟨rfl,e⟩|⟨b,c,cs,e,hg,hc,hn,ht⟩
 ·simp only[e,l7]
  refine⟨by simpa using hl,fun e'=>⟨trivial,?_⟩,fun hne=>.inr fun b c cs hb h1 h2 h3=>⟨trivial,?_⟩⟩
  ·subst e'
   exact h NIL H _ (.inl ⟨rfl,rfl⟩) (fun _ _ _=>rfl) (fun c ⟨n,c',e'⟩=>by simp at e')
  ·refine h _ _ _ (.inr ⟨b,c,cs,rfl,ai _ _ _,h2,h1,h3⟩) (fun c2 hc2 _=>?_) (fun c2 ⟨n,c',e'⟩=>?_)
   ·rw[ae _ _ (by rintro rfl;exact hc2 hb)]
   ·simp at e';obtain⟨rfl,-⟩:=e';exact .inr hb
 ·simp only[e,l7]
  refine⟨cs,hg,hc,hn,hl,fun b' c' cs' hb' h1 h2 h3=>⟨trivial,?_⟩⟩
  refine h _ _ _ (.inr ⟨b',c',cs',by rw[bq],ai _ _ _,h2,by rw[bq];exact h1,?_⟩) (fun c2 hc2 hnb=>?_) (fun c2 ⟨n,c3,e'⟩=>?_)
  ·rw[bq,h3,ht,List.flatten_append]
  ·rw[ae]
   rintro rfl
   rcases hb' with rfl|hb'
   ·exact hnb ⟨_,_,e⟩
   ·exact hc2 hb'
  ·simp at e';obtain⟨rfl,-⟩:=e'
   rcases hb' with rfl|hb'
   ·exact .inl ⟨_,_,e⟩
   ·exact .inr hb'
theorem sS{i sz bytes b:Nat}{d:Option Nat}{s y:aI}{inc:List Nat}{ys:List (List AC)}(hs:s.ev E=.sl sz (some (b,0,0)) [])(hb:H.get b=some (.tail 0 0))(hy:i9 H sz (y.ev E)=some ys)
(hsz:∀e∈ys,e.length=sz)(hl:ys.length<=2^32)(hchk:dS inc l (·=b))
(h:∀x' H' fp,eN H' sz ys x'->(∀c,fp c->c=b\/H.get c=none)->(∀c,H.get c≠none->c≠b->H'.get c=H.get c)->(∀c,gT x' c->c=b\/H.get c=none)->bw P dr K xs (E.put d x') H' l ((i,fp)::f)):
 bw P dr K (⟨i,d,none,.eff (.appendM sz bytes s y),inc⟩::xs) E H l f:=by
 simp only[bw,aN.act,dB,EOp.isA,EOp.run,hy,hs,ap,if_false,l7]
 refine⟨hsz,trivial,by simpa using hl,hb,.inr ⟨trivial,trivial,fun b' c cs hb' h1 h2 h3=>⟨hchk,?_⟩⟩⟩
 refine h _ _ _ (.inr ⟨b',c,cs,rfl,ai _ _ _,h2,h1,h3⟩) (fun c hc=>hc) (fun c2 hc2 hnb=>?_) (fun c2 ⟨n,c3,e'⟩=>?_)
 ·rw[ae]
  rintro rfl
  exact hb'.elim hnb hc2
 ·simp at e';obtain⟨rfl,-⟩:=e';exact hb'
theorem tB{sz:Nat}:∀(rows:List (List AC)) (cs:List AC),(∀e∈rows,e.length=sz)->cs.take (rows.length*sz)=rows.flatten->bh sz rows.length cs=rows
 |[],cs,_,_=>rfl
 |e::rows,cs,hs,h=>by
  have he:e.length=sz:=hs e (by simp)
  have hl:=dD (ys:=e::rows) (sz:=sz) hs
  simp only[aV,cI,Nat.one_mul,aq,bq]at h hl
  simp only[aV,bh]
  have h1:cs.take sz=e:=by
   have:=congrArg (List.take sz) h
   rw[List.take_take,eE (by omega),List.take_left' he]at this
   exact this
  have h2:(cs.drop sz).take (rows.length*sz)=rows.flatten:=by
   have:=congrArg (List.drop sz) h
   rw[List.drop_take,List.drop_left' he,Nat.add_sub_cancel]at this
   exact this
  rw[h1,tB rows (cs.drop sz) (fun e he=>hs e (by simp[he])) h2]
theorem eN.elems{sz:Nat}{rows:List (List AC)}{x:AC}(h:eN H sz rows x)(hs:∀e∈rows,e.length=sz)(hl:rows.length<=LIM):i9 H sz x=some rows:=by
 rcases h with⟨rfl,rfl⟩|⟨b,c,cs,rfl,h1,h2,h3,h4⟩
 ·rfl
 ·have:rows.length*sz<=c*sz:=bA _ h3
  simp only[i9,h1,cj]
  rw[if_pos ⟨by omega,hl⟩,ip,tB rows cs hs h4]
theorem eN.one{H:aj}{sz:Nat}{rows:List (List AC)}{x:AC}(h:eN H sz rows x):x.cells?=some [x]:=by
 rcases h with⟨rfl,rfl⟩|⟨b,c,cs,rfl,-⟩<;>rfl
theorem eN.cell{rows:List (List AC)}{sz:Nat}{cs:List AC}(hs:∀e∈rows,e.length=sz)(h:cs.take (rows.length*sz)=rows.flatten){k j:Nat}(hk:k<rows.length)(hj:j<sz):cs[k*sz+j]?=rows[k][j]?:=by
 obtain⟨e,x,h1,h2,h3⟩:=oe hs hk hj
 have:k*sz+j<rows.length*sz:=fj hk hj
 rw[<-h,dw this]at h3
 rw[h3,<-h2]
 simp[hk]at h1;rw[<-h1]
end
theorem eN.keep{H H':aj}{sz:Nat}{rows:List (List AC)}{x:AC}(h:eN H sz rows x)(hk:C7 H H'):eN H' sz rows x:=by
 rcases h with h|⟨b,c,cs,rfl,h1,h2⟩
 ·exact .inl h
 ·exact .inr ⟨b,c,cs,rfl,hk.1 _ _ h1,h2⟩
theorem bR.rows{H H':aj}{sz sz':Nat}{rows es:List (List AC)}{x y:AC}(h:bR H sz es x)(hr:eN H sz' rows y)(hk:∀c,H.get c≠none->¬gT y c->H'.get c=H.get c):bR H' sz es x:=by
 rcases h with h|⟨b,n,m,rfl,hb⟩
 ·exact .inl h
 ·refine .inr ⟨b,n,m,rfl,?_⟩
  rw[hk b (by simp[hb])]
  ·exact hb
  ·rintro⟨n',c',rfl⟩
   rcases hr with⟨-,h⟩|⟨b',c,cs,h,hg,-⟩
   ·simp at h
   ·simp at h;obtain⟨rfl,-⟩:=h;rw[hb]at hg;simp at hg
structure Vr where
 name:ByteArray
 lent:Bool
 param:Bool
 type:Ty
 loans:List Pl
 dead:Bool
 deriving Inhabited
def Vr.enc(v:Vr):List AC:=[S v.name,B v.lent,B v.param,.sl 1 none (Ty.encs v.type.kids),.sl 2 none (v.loans.map Pl.enc),B v.dead]
structure En where
 p:Pg
 fn:Nat
 vars:List Vr
 names:List ByteArray
 code:Int
 deriving Inhabited
def cZ(p:Pg)(fn:Nat)(VS NS:AC)(code:Int):cK:=.cells [.sl 12 none (p.map Fu.enc),I fn,VS,NS,I code]
def lw(H:aj)(vs:List Vr)(VS:AC):Prop:=eN H 6 (vs.map Vr.enc) VS
def a9(ns:List ByteArray):List (List AC):=ns.map fun s=>[S s]
structure bF(H:aj)(e:Nat)(v:En)(VS NS:AC):Prop where
 obj:H.get e=some (cZ v.p v.fn VS NS v.code)
 vars:lw H v.vars VS
 names:bR H 1 (a9 v.names) NS
def dx(code c:Int):Int:=if code=0 then c else code
theorem di{E:Env}{H H':aj}{R:AC->aj->Prop}(hs:H'.sub H)(h:R (.tup []) H'):aD.post [] R .normal E H:=⟨.tup [],rfl,_,H',.of (.refl _) hs,h⟩
theorem lX{E:Env}{H H':aj}{R:AC->aj->Prop}(hs:H'.sub H)(h:R (.tup []) H'):aD.post [] R .ret E H:=⟨.tup [],rfl,_,H',.of (.refl _) hs,h⟩
section
variable {P:Program}{F:Ids}
theorem mS(L:Lib P F)(e:Nat)(p:Pg)(fn:Nat)(VS NS:AC)(code c:Int):
 bD P F.s_l3Env_fail [.ptr e 0,I c] (one e (cZ p fn VS NS code)) fun q H'=>∃o',(q=.tup []/\o'=cZ p fn VS NS (dx code c))/\H'=one e o':=by
 refine L.s_l3Env_fail (by simp[kM]) ?_
 simp only[kM,go_sem,rE,bE,cZ]
 by_cases h:code=0
 ·subst h
  simp only[go_sem,rE,bE,gR,cZ,beq_self_eq_true,rA,rL]
  exact di (aj.sub_refl _) ⟨_,⟨rfl,rfl⟩,rfl⟩
 ·have h':(code==0)=false:=by simpa using h
  simp only[go_sem,rE,bE,gR,cZ,h']
  exact di (aj.sub_refl _) ⟨_,⟨rfl,by simp only[dx,h,if_false,cZ]⟩,rfl⟩
theorem gJ{dr:Bool}{K:Env->aj->Prop}{xs:List aN}{E:Env}{H:aj}{l:Lds}{f:Fps}{i:Nat}{g:FuncId}{args:List aI}{d:Option Nat}{inc:List Nat}{as:List AC}{r:Nat}{o:cK}
{R:AC->cK->Prop}(hc:bD P g as (one r o) fun q H'=>∃o',R q o'/\H'=one r o')(ha:args.map (aI.ev E)=as)(hr:H.get r=some o)(hlive:dr=true->∃q o',R q o')(hchk:dS inc l (·=r))
(h:∀q o',R q o'->bw P dr K xs (E.put d q) (H.set r o') l ((i,fun b=>b=r\/H.get b=none)::f)):
 bw P dr K (⟨i,d,none,.eff (.call g args),inc⟩::xs) E H l f:=by
 refine rj (r:=r) (o:=o) (R:=fun q H'=>∃o',H'=one r o'/\R q o') (hc.mono ?_) ha hr (fun hd=>?_) hchk ?_
 ·rintro q H' ⟨o',h1,rfl⟩;exact⟨o',⟨o',rfl,h1⟩,rfl⟩
 ·obtain⟨q,o',h1⟩:=hlive hd;exact⟨q,o',o',rfl,h1⟩
 ·rintro q o' ⟨o2,h1,h2⟩
  have:o'=o2:=by
   have:=congrArg (fun H=>aj.get H r) h1
   simpa[bE]using this
  subst this
  exact h q o' h2
theorem c_fail0(L:Lib P F)(e:Nat)(p:Pg)(fn:Nat)(VS NS:AC)(code c:Int):
 bD P F.s_l3Env_fail0 [.ptr e 0,I c] (one e (cZ p fn VS NS code)) fun q H'=>∃o',(q=.tup []/\o'=cZ p fn VS NS (if 0<c then dx code c else code))/\H'=one e o':=by
 refine L.s_l3Env_fail0 (by simp[iH]) ?_
 by_cases h:0<c
 ·simp only[iH,go_sem,rE,gt_iff_lt,h]
  refine gJ (mS L e p fn VS NS code c) (rfl) (bE _ _) (by simp) trivial ?_
  rintro q o' ⟨rfl,rfl⟩
  simp only[go_sem,gR]
  exact di (aj.sub_refl _) ⟨_,⟨rfl,by simp only[h,if_true]⟩,rfl⟩
 ·simp only[iH,go_sem,rE,gt_iff_lt,h]
  exact di (aj.sub_refl _) ⟨_,⟨rfl,by simp only[h,if_false]⟩,rfl⟩
theorem Ce(L:Lib P F)(e:Nat)(p:Pg)(fn:Nat)(VS NS:AC)(code:Int)(t:Ty):
 bD P F.s_l3Env_num [.ptr e 0,.agg t.enc] (one e (cZ p fn VS NS code)) fun q H'=>∃o',(q=.tup []/\o'=cZ p fn VS NS (if t.kids=[]then code else dx code 3))/\H'=one e o':=by
 refine L.s_l3Env_num (by simp[lP]) ?_
 rw[Ty.enc_eq]
 simp only[lP,go_sem,rE]
 intro b hb
 have hbe:b≠e:=by rintro rfl;rw[bE]at hb;simp at hb
 have heb:e≠b:=Ne.symm hbe
 simp only[go_sem,rE,gt_iff_lt]
 refine aG (fun hgt=>?_) (fun hle=>?_)
 ·have hk:¬t.kids=[]:=by rintro h;rw[h]at hgt;simp at hgt
  simp only[go_sem,rE]
  refine gJ (mS L e p fn VS NS code 3) (rfl) (by rw[ae _ _ heb,bE]) (by simp) trivial ?_
  rintro q o' ⟨rfl,rfl⟩
  simp only[go_sem]
  exact di (eO (ai _ _ _)) ⟨_,⟨rfl,by simp only[hk,if_false]⟩,rfl⟩
 ·have hk:t.kids=[]:=by
   cases h:t.kids with
   |nil=>rfl
   |cons x xs=>rw[h]at hle;simp at hle
  simp only[go_sem]
  exact di (eO (by rw[ae _ _ heb,bE])) ⟨_,⟨rfl,by simp only[hk,if_true]⟩,rfl⟩
theorem c_same(L:Lib P F)(e:Nat)(p:Pg)(fn:Nat)(VS NS:AC)(code:Int)(a t:Ty)(D:Nat)(ha:a.le D):
 bD P F.s_l3Env_same [.ptr e 0,.agg a.enc,.agg t.enc] (one e (cZ p fn VS NS code)) fun q H'=>∃o',(q=.tup []/\o'=cZ p fn VS NS (if a=t then code else dx code 3))/\H'=one e o':=by
 refine L.s_l3Env_same (by simp[kI]) ?_
 have hs:=qJ L D a t ha
 rw[Ty.enc_eq a,Ty.enc_eq t]at hs⊢
 simp only[kI,go_sem,rE]
 intro b hb b2 hb2
 have hbe:b≠e:=by rintro rfl;rw[bE]at hb;simp at hb
 have heb:e≠b:=Ne.symm hbe
 have hbb:b≠b2:=by rintro rfl;simp at hb2
 have heb2:e≠b2:=by rintro rfl;rw[ae _ _ heb,bE]at hb2;simp at hb2
 simp only[go_sem,rE,rA,hbb]
 refine ao hs (rfl) ?_
 simp only[go_sem,rE]
 by_cases h:a=t
 ·simp only[go_sem,rE,h]
  exact di (eO (by rw[ae _ _ heb2,ae _ _ heb,bE])) ⟨_,⟨rfl,rfl⟩,rfl⟩
 ·simp only[go_sem,rE,h]
  refine gJ (mS L e p fn VS NS code 3) (rfl) (by rw[ae _ _ heb2,ae _ _ heb,bE]) (by simp) trivial ?_
  rintro q o' ⟨rfl,rfl⟩
  simp only[go_sem]
  exact di (eO (ai _ _ _)) ⟨_,⟨rfl,rfl⟩,rfl⟩
theorem Vr.enc_len(v:Vr):v.enc.length=6:=rfl
theorem jF{vs:List Vr}{cs:List AC}(h:cs.take (vs.length*6)=(vs.map Vr.enc).flatten){k j:Nat}(hk:k<vs.length)(hj:j<6):cs[k*6+j]?=(vs[k]).enc[j]?:=by
 have hs:∀e∈vs.map Vr.enc,e.length=6:=by intro e he;obtain⟨v,-,rfl⟩:=aY.1 he;exact v.enc_len
 obtain⟨e,x,h1,h2,h3⟩:=oe hs (i:=k) (j:=j) (by simpa using hk) hj
 have:k*6+j<vs.length*6:=fj hk hj
 rw[<-h,dw this]at h3
 rw[h3,<-h2]
 simp[hk]at h1;rw[<-h1]
def uo(vs:List Vr)(n:ByteArray):Int:=match vs.findIdx? fun v=>decide (v.name=n)with
 |some i=>i
 |none=>-1
theorem c_find(L:Lib P F)(e:Nat)(v:En)(VS NS:AC)(H:aj)(h:bF H e v VS NS)(hl:v.vars.length<=2^40)(n:ByteArray):
 bD P F.s_l3Env_find [.ptr e 0,S n] H fun q H'=>q=I (uo v.vars n)/\H'=H:=by
 refine L.s_l3Env_find (by simp[kL]) ?_
 obtain⟨p,fn,vs,names,code⟩:=v
 have ho:=h.obj
 have hv:=h.vars
 simp only[cZ]at ho hv
 simp only[kL,go_sem,rE]
 refine aT vs.length (fun k E H2=>H2=H/\E 0=.ptr e 0/\E 1=S n/\E 5=I k/\∀i (h:i<vs.length),i<k->vs[i].name≠n) (by simp[go_sem]) ?_
 rintro k E H2 hk ⟨rfl,h0,h1,h5,hall⟩
 rcases hv with⟨hv,rfl⟩|⟨b,c,cs,rfl,hg,hc,hvc,hcs⟩
 ·have hv':vs=[]:=by simpa using hv
  subst hv'
  have hk0:k=0:=by simpa using hk
  subst hk0
  simp only[go_sem,rE,rA,h0,h1,h5,ho,cW,Int.lt_irrefl]
  exact ak (.refl _) (aj.sub_refl _) ⟨by simp[fR,uo],rfl⟩
 ·simp only[am]at hvc hcs ho
  have hlim:vs.length<=LIM:=hl
  have hl':vs.length<=2^40:=hl
  simp only[go_sem,rE,rA,h0,h1,h5,ho,hlim]
  refine aG (fun hlt=>?_) (fun hge=>?_)
  ·have hlt1:k<vs.length:=by omega
   have w1:=aL (n:=(k:Int)+1) (by omega) (by omega)
   have hg0:=jF hcs hlt1 (j:=0) (by omega)
   simp only[Vr.enc,a7,Nat.add_zero]at hg0
   simp only[go_sem,rE,rA,h0,h1,h5,ho,hlim,hlt,hg,hg0]
   by_cases he:vs[k].name=n
   ·simp only[go_sem,rE,he,h5]
    refine ak (.refl _) (aj.sub_refl _) ⟨?_,rfl⟩
    have:vs.findIdx? (fun v=>decide (v.name=n))=some k:=by
     rw[bQ]
     exact⟨hlt1,by simpa using he,fun j hj=>by simpa using hall j (by omega) hj⟩
    simp only[go_sem,uo,this]
   ·simp only[go_sem,rE,he,h0,h1,h5,w1]
    refine⟨hlt1,_,aj.sub_refl _,rfl,by simp,fun i h hi=>?_⟩
    by_cases hik:i=k
    ·subst hik;exact he
    ·exact hall i h (by omega)
  ·simp only[go_sem,rE]
   refine ak (.refl _) (aj.sub_refl _) ⟨?_,rfl⟩
   have:vs.findIdx? (fun v=>decide (v.name=n))=none:=by
    rw[iB]
    intro x hx
    obtain⟨i,hi,rfl⟩:=bj.1 hx
    simpa using hall i hi (by omega)
   simp only[go_sem,uo,this]
theorem iL{H:aj}{e:Nat}{p:Pg}{fn:Nat}{VS NS:AC}{code:Int}(ho:H.get e=some (cZ p fn VS NS code)){vs:List Vr}{V:AC}(hv:lw H vs V):¬gT V e:=by
 rintro⟨n,c,rfl⟩
 rcases hv with⟨-,h⟩|⟨b,c',cs,h,hg,hc,-⟩
 ·simp at h
 ·simp at h
  obtain⟨rfl,-⟩:=h
  rw[ho]at hg
  simp only[cZ,Option.some.injEq,cK.cells.injEq]at hg
  subst hg
  simp at hc;omega
def AW(v:En)(n:ByteArray):Int:=if v.names.any fun m=>decide (m=n)then dx v.code 2 else v.code
def En.add(v:En)(x:Vr):En:={v with vars:=v.vars++[x],names:=v.names++[x.name],code:=AW v x.name}
theorem rR(c d:Int)(h:d≠0):dx (dx c d) d=dx c d:=by
 unfold dx;split<;>simp_all
theorem c_add(L:Lib P F)(e:Nat)(v:En)(VS NS:AC)(H:aj)(h:bF H e v VS NS)(hl:v.vars.length<=2^30)(hn:v.names.length<=2^30)(x:Vr):
 bD P F.s_l3Env_add [.ptr e 0,.agg x.enc] H fun q H'=>q=.tup []/\∃VS' NS',bF H' e (v.add x) VS' NS':=by
 refine L.s_l3Env_add (by simp[j7]) ?_
 obtain⟨p,fn,vs,names,code⟩:=v
 obtain⟨ho,hv,hns⟩:=h
 simp only at ho hv hns hl hn
 simp only[j7,go_sem,rE,Vr.enc]
 intro b hb
 have heb:e≠b:=by rintro rfl;rw[ho]at hb;simp at hb
 refine aT names.length (fun k E H2=>(∃c:Int,c=(if(names.take k).any (fun m=>decide (m=x.name))then dx code 2 else code)/\H2.get e=some (cZ p fn VS NS c))/\
  H2.get b=some (.cells [S x.name,B x.lent,B x.param,.sl 1 none (Ty.encs x.type.kids),.sl 2 none (x.loans.map Pl.enc),B x.dead])/\lw H2 vs VS/\bR H2 1 (a9 names) NS/\E 0=.ptr e 0/\E 3=.ptr b 0/\E 4=I k)
  ⟨⟨code,by simp,by rw[ae _ _ heb];exact ho⟩,ai _ _ _,hv.mono (fun d hd=>ae _ _ (by
    rintro rfl
    obtain⟨n,c,rfl⟩:=hd
    rcases hv with⟨-,h⟩|⟨b',c',cs,h,hg,-⟩
    ·simp at h
    ·simp at h;obtain⟨rfl,-⟩:=h;rw[hg]at hb;simp at hb)),hns.new hb _,by simp[go_sem]⟩ ?_
 rintro k E H2 hk ⟨⟨c,hc,g0⟩,g1,hv2,hns2,h0,h3,h4⟩
 have hev:=iL g0 hv2
 simp only[cZ]at g0
 have step:∀(t:Bool),(decide (names.length<=k)=false->(∃h:k<names.length,t=decide (names[k]=x.name))->(if t then dx c 2 else c)=if(names.take (k+1)).any (fun m=>decide (m=x.name))then dx code 2 else code):=by
  rintro t - ⟨h,rfl⟩
  rw[aA h,fy,hc]
  by_cases h1:names[k]=x.name
  ·simp only[h1,decide_true,if_true,List.any_cons,List.any_nil,dI,Bool.or_true]
   split
   ·exact rR _ _ (by decide)
   ·rfl
  ·simp only[h1,decide_false,ap,if_false,List.any_cons,List.any_nil,dI]
 by_cases hlt:k<names.length
 ·have w1:=aL (n:=(k:Int)+1) (by omega) (by omega)
  have hlt':(k:Int)<(a9 names).length:=by simp[a9];omega
  have hg:(a9 names)[k]?=some [S names[k]]:=by simp[a9,hlt]
  rcases hns2 with⟨hz,rfl⟩|⟨nb,n1,m1,rfl,hnb⟩
  ·simp[a9]at hz;subst hz;simp at hlt
  ·have hne:nb≠e:=by rintro rfl;rw[g0]at hnb;simp at hnb
   simp only[go_sem,rE,rA,h0,h3,h4,g0,g1,hlt',hg]
   by_cases he:names[k]=x.name
   ·have hst:=step true (by simpa using hlt) ⟨hlt,by simp[he]⟩
    simp only[if_true]at hst
    simp only[go_sem,rE,rA,h0,h3,h4,g0,g1,he]
    refine gJ (mS L e p fn VS _ c 2) (by simp only[go_sem,rE,h0]) (by simpa only[cZ]using g0) (by simp) trivial ?_
    rintro q o' ⟨rfl,rfl⟩
    simp only[go_sem,rE,h0,h3,h4,w1]
    refine⟨hlt,_,aj.sub_refl _,⟨_,hst,ai _ _ _⟩,by rw[ae _ _ (Ne.symm heb)];exact g1,hv2.mono (fun d hd=>ae _ _ (by rintro rfl;exact hev hd)),
     .inr ⟨nb,n1,m1,rfl,by rw[ae _ _ hne];exact hnb⟩,by simp⟩
   ·have hst:=step false (by simpa using hlt) ⟨hlt,by simp[he]⟩
    simp only[ap,if_false]at hst
    simp only[go_sem,rE,rA,h0,h3,h4,he,w1]
    exact⟨hlt,_,aj.sub_refl _,⟨c,hst,by simpa only[cZ]using g0⟩,g1,hv2,.inr ⟨nb,n1,m1,rfl,hnb⟩,by simp⟩
 ·have hkk:k=names.length:=by omega
  subst hkk
  rw[aU]at hc
  have hlt':¬((names.length:Nat):Int)<(a9 names).length:=by simp[a9]
  have hcode:AW ⟨p,fn,vs,names,code⟩ x.name=c:=by rw[hc];rfl
  have hns3:=hns2
  have fin:∀(E':Env) (K:cL->Env->aj->Prop),E' 0=.ptr e 0->E' 3=.ptr b 0->(∀E2 H4 VS' NS',bF H4 e (En.add ⟨p,fn,vs,names,code⟩ x) VS' NS'->K .normal E2 H4)->
   (aX.seq (.region true [mv 0 26 0,mv 1 27 0,nc 2 28 27,fa 3 29 3 28,ld 4 30 none 29,fa 5 31 0 3,ld 6 32 none 31,⟨7,some 33,none,.lits 1 1 [.string (bl [])] [(0,(1,32))],[]⟩,ef 8 34 (.appendM 1 16 30 33),nc 9 35 26,fa 10 36 3 35,en 11 (.store 1 36 34)])
    (.region true [mv 0 37 0,mv 1 38 0,nc 2 39 38,fa 3 40 2 39,ld 4 41 none 40,ld 5 42 (some 6) 3,⟨6,some 43,none,.lits 6 1 [.string (bl []),.bool false,.bool false,.slice none 0 0,.slice none 0 0,.bool false] [(0,(6,42))],[]⟩,ef 7 44 (.appendM 6 80 41 43),nc 8 45 37,fa 9 46 2 45,en 10 (.store 1 46 44)])).wp P K E' H2:=by
   intro E' K e0 e3 hK
   simp only[go_sem,rE,rA,e0,e3,g0,g1,ax,aq,az]
   refine wx (es:=a9 names) (ys:=[[S x.name]]) (by simp only[go_sem,rE];exact hns3) (by simp[go_sem,bh]) (by simp) (by simp[a9];omega) rfl ?_
   intro NS' H3 fp hNS' hkeep
   have k1:=hkeep.1 _ _ g0
   have k2:=hkeep.1 _ _ g1
   have hv3:=hv2.keep hkeep
   have hbe:=Ne.symm heb
   have hv4:lw (H3.set e (.cells [AC.sl 12 none (List.map Fu.enc p),I fn,VS,NS',I c])) vs VS:=eN.mono hv3 fun d hd=>ae _ _ (by rintro rfl;exact hev hd)
   have hn4:=hNS'.set k1 (.cells [AC.sl 12 none (List.map Fu.enc p),I fn,VS,NS',I c])
   simp only[go_sem,rE,rA,e0,e3,k1,k2,hNS'.one,rL,hbe,ax,aq,az]
   refine sR (rows:=vs.map Vr.enc) (ys:=[x.enc]) (by simp only[go_sem,rE];exact hv4) (by simp[go_sem,bh,Vr.enc]) (by simp[Vr.enc]) (by simp;omega) rfl ?_
   intro VS' H5 fp2 hVS' hout hblk
   simp only[go_sem,rE]at hout hblk
   have g5:H5.get e=some (.cells [AC.sl 12 none (List.map Fu.enc p),I fn,VS,NS',I c]):=by
    rw[hout e (by simp) hev];exact ai _ _ _
   have hn5:=hn4.rows hv4 hout
   simp only[go_sem,rE,rA,e0,e3,g5,hVS'.one,rL]
   refine hK _ _ VS' NS' ⟨?_,?_,?_⟩
   ·simp only[En.add,hcode,ai,cZ]
   ·have:lw H5 (vs++[x]) VS':=by simpa[lw]using hVS'
    refine eN.mono this fun d hd=>ae _ _ ?_
    rintro rfl
    rcases hblk d hd with h|h
    ·exact hev h
    ·simp at h
   ·have:bR H5 1 (a9 (names++[x.name])) NS':=by simpa[a9]using hn5
    exact this.set g5 _
  have done:∀E2 H4 VS' NS',bF H4 e (En.add ⟨p,fn,vs,names,code⟩ x) VS' NS'->aD.post (j7 F).results (fun q H'=>q=.tup []/\∃VS' NS',bF H' e (En.add ⟨p,fn,vs,names,code⟩ x) VS' NS') .normal E2 H4:=
   fun E2 H4 VS' NS' h=>di (aj.sub_refl _) ⟨rfl,_,_,h⟩
  rcases hns2 with⟨hz,rfl⟩|⟨nb,n1,m1,rfl,hnb⟩
  ·simp[a9]at hz;subst hz
   simp only[go_sem,rE,rA,h0,h3,h4,g0,g1]
   refine aG (fun h=>absurd h (by simp)) (fun _=>?_)
   simp only[wp_exit,fl,dL,cC]
   exact fin _ _ (h0) (h3) done
  ·simp only[go_sem,rE,rA,h0,h3,h4,g0,g1]
   refine aG (fun h=>absurd h hlt') (fun _=>?_)
   simp only[wp_exit,fl,dL,cC]
   exact fin _ _ (h0) (h3) done
end
section
variable {P:Program}{F:Ids}
def aP(e:Nat)(VS NS:AC)(d:Nat):Prop:=d=e\/gT VS d\/cG NS d
theorem bF.mono{H H':aj}{e:Nat}{v:En}{VS NS:AC}(h:bF H e v VS NS)(hk:∀d,aP e VS NS d->H'.get d=H.get d):bF H' e v VS NS:=by
 obtain⟨h1,h2,h3⟩:=h
 refine⟨by rw[hk e (.inl rfl)];exact h1,eN.mono h2 fun d hd=>hk d (.inr (.inl hd)),?_⟩
 rcases h3 with h3|⟨b,n,m,rfl,hb⟩
 ·exact .inl h3
 ·exact .inr ⟨b,n,m,rfl,by rw[hk b (.inr (.inr ⟨_,_,_,_,rfl⟩))];exact hb⟩
theorem Cv(L:Lib P F)(e:Nat)(v:En)(VS NS:AC)(H:aj)(h:bF H e v VS NS)(hl:v.vars.length<=2^30)(hn:v.names.length<=2^30):
 bD P F.s_l3Env_copy [.ptr e 0] H fun q H'=>∃a VS' NS',q=.ptr a 0/\bF H' a v VS' NS'/\(∀d,H.get d≠none->H'.get d=H.get d)/\∀d,aP a VS' NS' d->H.get d=none:=by
 refine L.s_l3Env_copy (by simp[kP]) ?_
 obtain⟨p,fn,vs,names,code⟩:=v
 obtain⟨ho,hv,hns⟩:=h
 simp only[cZ]at ho hv hns hl hn
 have hne:=iL (H:=H) (by simpa only[cZ]using ho) hv
 simp only[kP,go_sem,rE,rA,ho,rL,ax,az,bh]
 intro b1 hb1
 have h1e:e≠b1:=by rintro rfl;rw[ho]at hb1;simp at hb1
 have hv1:lw (H.set b1 (.tail 0 0)) vs VS:=eN.mono hv fun d ⟨n,c,hd⟩=>ae _ _ (by
  rintro rfl
  rcases hv with⟨-,h⟩|⟨b',c',cs,h,hg,-⟩
  ·rw[hd]at h;simp at h
  ·rw[hd]at h;simp at h;obtain⟨rfl,-⟩:=h;rw[hg]at hb1;simp at hb1)
 simp only[go_sem,rE,rA,ho,h1e]
 refine sS (b:=b1) (ys:=vs.map Vr.enc) (rfl) (ai _ _ _) (by simp only[go_sem,rE];exact hv1.elems (by simp[Vr.enc]) (by simp[LIM];omega)) (by simp[Vr.enc]) (by simp;omega) ?_ ?_
 ·simp[dS,h1e]
 ·intro VS' H2 fp hVS hfp hout hblk
  have ho2:H2.get e=some (cK.cells [AC.sl 12 none (List.map Fu.enc p),I fn,VS,NS,I code]):=by
   rw[hout e (by rw[ae _ _ h1e,ho];simp) h1e,ae _ _ h1e];exact ho
  have hfe:¬fp e:=by
   intro hc
   rcases hfp e hc with h|h
   ·exact h1e h
   ·rw[ae _ _ h1e,ho]at h;simp at h
  simp only[go_sem,rE,rA,rL,ax,az,bh]
  intro b2 hb2
  have h2e:e≠b2:=by rintro rfl;rw[ho2]at hb2;simp at hb2
  simp only[go_sem,rE,rA,ho2,h2e,jy,bf,cq,or_false,forall_eq,hfe]
  refine eM (es:=[]) (ys:=a9 names) (by simp only[go_sem,rE];exact .inr ⟨b2,0,0,rfl,ai _ _ _⟩) (by simp only[go_sem,rE];exact hns.elems) (by simp[a9]) (by simp[a9];omega) ?_
  intro NS' H3 fp2 hNS hfp2 hout2 htok
  have tb2:∀d,cG (AC.sl 1 (some (b2,0,0)) []) d->d=b2:=by
   rintro d ⟨_,_,_,_,h⟩;simp at h;exact h.2.1.1.symm
  simp only[go_sem,rE]at hout2 htok
  have keep2:∀d,H2.get d≠none->H3.get d=H2.get d:=by
   intro d hd
   have hdb:d≠b2:=by rintro rfl;exact hd hb2
   rw[hout2 d (by rw[ae _ _ hdb];exact hd) (fun h=>hdb (tb2 d h)),ae _ _ hdb]
  have keep1:∀d,H.get d≠none->H2.get d=H.get d:=by
   intro d hd
   have hdb:d≠b1:=by rintro rfl;exact hd hb1
   rw[hout d (by rw[ae _ _ hdb];exact hd) hdb,ae _ _ hdb]
  have ho3:H3.get e=some (cK.cells [AC.sl 12 none (List.map Fu.enc p),I fn,VS,NS,I code]):=by
   rw[keep2 e (by rw[ho2];simp)];exact ho2
  have hfe2:¬fp2 e:=by
   intro hc
   have:=hfp2 e hc
   rw[ae _ _ h2e,ho2]at this;simp at this
  have hvs1:VS'.cells?=some [VS']:=hVS.one
  have hns1:NS'.cells?=some [NS']:=hNS.one
  simp only[go_sem,rE,rA,rL,ho3,jy,bf,cq,or_false,forall_eq,hfe2,hfe,forall_eq_or_imp,hvs1,hns1]
  intro a ha
  have hv3:lw H3 vs VS':=eN.mono hVS fun d hd=>by
   rcases hVS with⟨-,h⟩|⟨b',c',cs,h,hg,-⟩
   ·obtain⟨n,c,hd⟩:=hd;rw[hd]at h;simp at h
   ·obtain⟨n,c,hd⟩:=hd
    rw[hd]at h;simp at h;obtain⟨rfl,-⟩:=h
    exact keep2 d (by rw[hg];simp)
  have keepA:∀d,H3.get d≠none->(H3.set a (.cells [AC.sl 12 none (List.map Fu.enc p),I fn,VS',NS',I code])).get d=H3.get d:=fun d hd=>ae _ _ (by rintro rfl;exact hd ha)
  refine gK ⟨a,VS',NS',rfl,⟨?_,?_,?_⟩,fun d hd=>?_,fun d hd=>?_⟩
  ·simp only[cZ];exact ai _ _ _
  ·refine eN.mono hv3 fun d hd=>keepA d ?_
   rcases hv3 with⟨-,h⟩|⟨b',c',cs,h,hg,-⟩
   ·obtain⟨n,c,hd⟩:=hd;rw[hd]at h;simp at h
   ·obtain⟨n,c,hd⟩:=hd
    rw[hd]at h;simp at h;obtain⟨rfl,-⟩:=h
    rw[hg];simp
  ·have:bR H3 1 (a9 names) NS':=by simpa using hNS
   exact this.new ha _
  ·have hd':H.get d≠none:=hd
   rw[keepA d (by rw[keep2 d (by rw[keep1 d hd'];exact hd'),keep1 d hd'];exact hd'),keep2 d (by rw[keep1 d hd'];exact hd'),keep1 d hd']
  ·apply Classical.byContradiction
   intro hn'
   have h2:H2.get d≠none:=by rw[keep1 d hn'];exact hn'
   rcases hd with rfl|hd|hd
   ·rw[keep2 d h2]at ha;exact h2 ha
   ·rcases hblk d hd with h|h
    ·subst h;exact hn' hb1
    ·by_cases hdb:d=b1
     ·subst hdb;exact hn' hb1
     ·rw[ae _ _ hdb]at h;exact hn' h
   ·rcases htok d hd with h|h
    ·have:=tb2 d h;subst this;exact h2 hb2
    ·by_cases hdb:d=b2
     ·subst hdb;exact h2 hb2
     ·rw[ae _ _ hdb]at h;exact h2 h
end
end Go.Xl
