/- FnCheckForm: a part of the proof. -/
import Derived.Test.YtghekniakencpaaGreatDoorProg
import Derived.KernelRfl
import Derived.Test.YtghekniakencpaaGreatDoorX1
set_option linter.unusedVariables false
set_option linter.unusedSimpArgs false
namespace Go.Xl
open _root_.Array renaming toList_inj -> eW
open _root_.Bool renaming and_eq_false_iff -> cH, and_eq_true -> aw, and_false -> aM, and_true -> fC, eq_iff_iff -> aX, false_and -> aL, false_eq_true -> aq, false_ne_true -> fB, not_eq_true' -> dF, or_eq_true -> dh, or_false -> dE, true_and -> bT
open _root_.Iff renaming rfl -> dz
open _root_.Int renaming le_refl -> eA, natCast_zero -> dg, reduceBEq -> aF, reduceEq -> bm, reduceLE -> dN
open _root_.List renaming all_append -> eD, all_eq_false -> dj, all_eq_true -> aS, any_append -> fY, append_assoc -> dU, append_nil -> dA, cons_append -> cq, drop_eq_getElem_cons -> bO, drop_length -> kl, drop_succ_cons -> gq, drop_zero -> gZ, eq_nil_of_length_eq_zero -> bn, ext_getElem? -> fQ, findIdx?_eq_none_iff -> ip, findIdx?_eq_some_iff_getElem -> bN, flatten_cons -> av, flatten_nil -> ay, foldl_cons -> d7, getElem?_append_left -> aO, getElem?_append_right -> be, getElem?_cons_succ -> aB, getElem?_cons_zero -> a9, getElem?_drop -> bU, getElem?_eq_getElem -> a6, getElem?_eq_none -> fx, getElem?_eq_some_iff -> aN, getElem?_map -> co, getElem?_take_of_lt -> dq, getElem_append_left -> dm, getElem_map -> iO, getElem_mem -> az, length_append -> bv, length_cons -> aR, length_drop -> eV, length_map -> ao, length_nil -> bM, length_take -> bI, map_append -> bL, map_congr_left -> eJ, map_cons -> aU, map_nil -> bB, map_take -> kR, mem_append -> aE, mem_cons -> bi, mem_filter -> eR, mem_iff_getElem -> bk, mem_iff_getElem? -> jx, mem_map -> aZ, mem_of_getElem? -> aY, mem_of_mem_take -> cP, mem_singleton -> bQ, nil_append -> df, not_mem_nil -> cF, range -> dC, replicate -> ax, take_append_drop -> ic, take_length -> aW, take_of_length_le -> cy, take_succ_eq_append_getElem -> aC
open _root_.Nat renaming reduceEqDiff -> rE, reduceAdd -> rA, reduceLeDiff -> rL, add_mul -> cB, le_refl -> aA, le_trans -> cg, min_eq_left -> eC, mul_le_mul_right -> bu, reduceSub -> kQ, zero_add -> bY, zero_le -> gN
open _root_.Option renaming eq_none_or_eq_some -> bV, map_some -> bW, ne_none_iff_exists' -> aI
def xC(o:Option AC)(k:AC->Prop):Prop:=match o with
 |some r=>k r
 |none=>False
def nx(o:Option (List AC))(k:List AC->Prop):Prop:=match o with
 |some r=>k r
 |none=>False
def tc(o:Option (AC×Option Nat))(k:AC->Option Nat->Prop):Prop:=match o with
 |some r=>k r.1 r.2
 |none=>False
theorem qo(r:AC)(k:AC->Prop):xC (some r) k=k r:=propext dz
theorem uo(r:List AC)(k:List AC->Prop):nx (some r) k=k r:=propext dz
theorem uq(r:AC)(ob:Option Nat)(k:AC->Option Nat->Prop):tc (some (r,ob)) k=k r ob:=propext dz
section
variable (P:Program)(dr:Bool)(K:Env->aj->Prop)(xs:List aJ)(E:Env)(d:Option Nat)(H:aj)(l:Lds)(f:Fps)
def runK(r:AC):Prop:=bp P dr K xs (E.put d r) H l f
def x8(i:Nat)(inc:List Nat)(r:AC)(ob:Option Nat):Prop:=jw inc f ob/\bp P dr K xs (E.put d r) H (oS i ob l) f
def xz(sz len:Nat)(cs:List AC):Prop:=bp P dr K xs (E.put d (.sl sz none (bg sz len cs))) H l f
def x6(cs:List AC):Prop:=∀b,H.get b=none->bp P dr K xs (E.put d (.ptr b 0)) (H.set b (.cells cs)) l f
def zT(sz len:Nat)(cs:List AC):Prop:=
 ∀b,H.get b=none->bp P dr K xs (E.put d (.sl sz (some (b,len*sz,len*sz)) (bg sz len cs))) (H.set b (.tail (len*sz) (len*sz))) l f
def runG(o:Option Bool)(x:aJ):Prop:=match o with
 |some true=>bp P dr K (x::xs) E H l f
 |some false=>bp P dr K xs (E.put x.dst (.tup [])) H l f
 |none=>False
def oU(K:cE->Env->aj->Prop)(x:AC)(a b:aT):Prop:=∃t,x=.lit (.bool t)/\(t=true->a.wp P K E H)/\(t=false->b.wp P K E H)
end
section
variable {P:Program}{dr:Bool}{K:Env->aj->Prop}{xs:List aJ}{E:Env}{d:Option Nat}{H:aj}{l:Lds}{f:Fps}
theorem x7{r:AC}:runK P dr K xs E d H l f r=bp P dr K xs (E.put d r) H l f:=propext dz
theorem zU{i:Nat}{inc:List Nat}{r:AC}{ob:Option Nat}:x8 P dr K xs E d H l f i inc r ob=(jw inc f ob/\bp P dr K xs (E.put d r) H (oS i ob l) f):=propext dz
theorem vP{sz len:Nat}{cs:List AC}:xz P dr K xs E d H l f sz len cs=bp P dr K xs (E.put d (.sl sz none (bg sz len cs))) H l f:=propext dz
theorem vQ{cs:List AC}:x6 P dr K xs E d H l f cs=∀b,H.get b=none->bp P dr K xs (E.put d (.ptr b 0)) (H.set b (.cells cs)) l f:=propext dz
theorem yr{sz len:Nat}{cs:List AC}:zT P dr K xs E d H l f sz len cs=
 ∀b,H.get b=none->bp P dr K xs (E.put d (.sl sz (some (b,len*sz,len*sz)) (bg sz len cs))) (H.set b (.tail (len*sz) (len*sz))) l f:=propext dz
theorem yu{x:aJ}:runG P dr K xs E H l f (some true) x=bp P dr K (x::xs) E H l f:=propext dz
theorem vR{x:aJ}:runG P dr K xs E H l f (some false) x=bp P dr K xs (E.put x.dst (.tup [])) H l f:=propext dz
end
section
variable {P:Program}{E:Env}{H:aj}{K:cE->Env->aj->Prop}{a b:aT}
theorem nq:oU P E H K (.lit (.bool true)) a b=a.wp P K E H:=by simp[oU]
theorem lH:oU P E H K (.lit (.bool false)) a b=b.wp P K E H:=by simp[oU]
theorem kV{t:Bool}(ha:t=true->a.wp P K E H)(hb:t=false->b.wp P K E H):oU P E H K (.lit (.bool t)) a b:=⟨t,rfl,ha,hb⟩
theorem aH{p:Prop}[Decidable p](ha:p->a.wp P K E H)(hb:¬p->b.wp P K E H):oU P E H K (.lit (.bool (decide p))) a b:=
 ⟨decide p,rfl,fun h=>ha (of_decide_eq_true h),fun h=>hb (of_decide_eq_false h)⟩
end
theorem iq(E:Env)(n:Nat)(x:AC):Env.put E (some n) x n=x:=by simp[Env.put]
theorem sf(E:Env){n m:Nat}(x:AC)(h:m≠n):Env.put E (some n) x m=E m:=by simp[Env.put,h]
theorem Aa(E:Env)(x:AC):Env.put E none x=E:=rfl
section
variable {P:Program}{dr:Bool}{K:Env->aj->Prop}{xs:List aJ}{E:Env}{H:aj}{l:Lds}{f:Fps}
theorem kr:bp P dr K [] E H l f=K E H:=propext dz
theorem yp{i:Nat}{d:Option Nat}{g:Nat×Bool}{op:XOp}{inc:List Nat}:
 bp P dr K (⟨i,d,some g,op,inc⟩::xs) E H l f=runG P dr K xs E H l f (dt E (some g)) ⟨i,d,none,op,inc⟩:=by
 simp only[bp,aJ.act]
 cases h:dt E (some g)with
 |none=>rfl
 |some b=>cases b<;>simp[runG,bp,aJ.act,dt]
theorem pV{i:Nat}{d:Option Nat}{p:POp}{inc:List Nat}:
 bp P dr K (⟨i,d,none,.pure p,inc⟩::xs) E H l f=xC (p.val (aG.ev E)) (runK P dr K xs E d H l f):=by
 simp only[bp,aJ.act,dt,xC]
 rfl
theorem run_load{i:Nat}{d:Option Nat}{o:LOp}{inc:List Nat}:
 bp P dr K (⟨i,d,none,.load o,inc⟩::xs) E H l f=tc (o.val H (aG.ev E)) (x8 P dr K xs E d H l f i inc):=by
 simp only[bp,aJ.act,dt,tc,x8]
 split<;>simp_all
theorem zQ{i sz len:Nat}{d:Option Nat}{z:List Value}{ps:List (Nat×Nat×aG)}{inc:List Nat}:
 bp P dr K (⟨i,d,none,.lits sz len z ps,inc⟩::xs) E H l f=
  nx (gX ((ax len (z.map AC.lit)).flatten) (ps.map fun p=>(p.1,p.2.1,aG.ev E p.2.2))) (xz P dr K xs E d H l f sz len):=by
 simp only[bp,aJ.act,dt,nx]
 rfl
theorem run_box{i:Nat}{d:Option Nat}{x:aG}{inc:List Nat}:
 bp P dr K (⟨i,d,none,.eff (.box x),inc⟩::xs) E H l f=nx (x.ev E).cells? (x6 P dr K xs E d H l f):=by
 simp only[bp,aJ.act,dt,EOp.isA,EOp.run,nx,if_true]
 rfl
theorem yq{i:Nat}{d:Option Nat}{z:List Value}{inc:List Nat}:
 bp P dr K (⟨i,d,none,.eff (.alloc z),inc⟩::xs) E H l f=∀b,H.get b=none->bp P dr K xs (E.put d (.ptr b 0)) (H.set b (im z)) l f:=by
 simp only[bp,aJ.act,dt,EOp.isA,EOp.run,if_true]
theorem wR{k:IntKind}{n:Int}{z:List Value}:im (.int k n::z)=.cells ((Value.int k n::z).map .lit):=rfl
theorem vt{n:Bool}{z:List Value}:im (.bool n::z)=.cells ((Value.bool n::z).map .lit):=rfl
theorem rN{n:ByteArray}{z:List Value}:im (.string n::z)=.cells ((Value.string n::z).map .lit):=rfl
theorem tD{a:Option Addr}{n c:Nat}{z:List Value}:im (.slice a n c::z)=.cells ((Value.slice a n c::z).map .lit):=rfl
theorem re{a:Option Addr}{z:List Value}:im (.pointer a::z)=.cells ((Value.pointer a::z).map .lit):=rfl
theorem tE{z:List Value}:im (.nilIface::z)=.cells ((Value.nilIface::z).map .lit):=rfl
theorem wQ{a:Option Nat}{z:List Value}:im (.map a::z)=.cells ((Value.map a::z).map .lit):=rfl
theorem tC{ts:Array Value}{z:List Value}:im (.tuple ts::z)=.typed ts.size (z.map .lit):=rfl
theorem pZ{i sz len:Nat}{d:Option Nat}{z:List Value}{ps:List (Nat×Nat×aG)}{inc:List Nat}:
 bp P dr K (⟨i,d,none,.eff (.buildSlice sz len z ps),inc⟩::xs) E H l f=
  nx (gX ((ax len (z.map AC.lit)).flatten) (ps.map fun p=>(p.1,p.2.1,aG.ev E p.2.2))) (zT P dr K xs E d H l f sz len):=by
 simp only[bp,aJ.act,dt,EOp.isA,EOp.run,nx,if_true]
 rfl
def mv(i d:Nat)(a:aG):aJ:=⟨i,some d,none,.pure (.move a),[]⟩
def pu(i d:Nat)(p:POp):aJ:=⟨i,some d,none,.pure p,[]⟩
def ld(i d:Nat)(g:Option Nat)(a:aG):aJ:=⟨i,some d,none,.load (.load g a),[]⟩
def sl(n:Nat):aG:=.slot n
instance (n:Nat):OfNat aG n:=⟨.slot n⟩
def ci(n:Int):aG:=.const (.int .i64 n)
def ct:aG:=.const (.bool true)
def cf:aG:=.const (.bool false)
def rg(xs:List aJ):aT:=.region false xs
def ca(i d:Nat)(f:FuncId)(zas:List aG):aJ:=⟨i,some d,none,.eff (.call f zas),[]⟩
def gp(i d g:Nat)(b:Bool)(p:POp):aJ:=⟨i,some d,some (g,b),.pure p,[]⟩
def gl(i d g:Nat)(b:Bool)(o:Option Nat)(a:aG):aJ:=⟨i,some d,some (g,b),.load (.load o a),[]⟩
def fa(i d k:Nat)(x:aG):aJ:=pu i d (.fieldAddr k x)
def ef(i d:Nat)(e:EOp):aJ:=⟨i,some d,none,.eff e,[]⟩
def en(i:Nat)(e:EOp):aJ:=⟨i,none,none,.eff e,[]⟩
theorem run_ef{i d:Nat}{e:EOp}:bp P dr K (ef i d e::xs) E H l f=bp P dr K (⟨i,some d,none,.eff e,[]⟩::xs) E H l f:=propext dz
theorem run_en{i:Nat}{e:EOp}:bp P dr K (en i e::xs) E H l f=bp P dr K (⟨i,none,none,.eff e,[]⟩::xs) E H l f:=propext dz
def nc(i d:Nat)(x:aG):aJ:=pu i d (.nilCheck x)
def ia(i d z:Nat)(x y:aG):aJ:=pu i d (.indexAddr z x y)
theorem run_fa{i d k:Nat}{x:aG}:bp P dr K (fa i d k x::xs) E H l f=bp P dr K (pu i d (.fieldAddr k x)::xs) E H l f:=propext dz
theorem run_nc{i d:Nat}{x:aG}:bp P dr K (nc i d x::xs) E H l f=bp P dr K (pu i d (.nilCheck x)::xs) E H l f:=propext dz
theorem run_ia{i d z:Nat}{x y:aG}:bp P dr K (ia i d z x y::xs) E H l f=bp P dr K (pu i d (.indexAddr z x y)::xs) E H l f:=propext dz
theorem ev_num{n:Nat}:aG.ev E (no_index (OfNat.ofNat n:aG))=E (OfNat.ofNat n:Nat):=rfl
theorem ev_ci{n:Int}:aG.ev E (ci n)=I n:=rfl
theorem ev_ct:aG.ev E ct=B true:=rfl
theorem ev_cf:aG.ev E cf=B false:=rfl
theorem run_gp{i d g:Nat}{b:Bool}{p:POp}:bp P dr K (gp i d g b p::xs) E H l f=bp P dr K (⟨i,some d,some (g,b),.pure p,[]⟩::xs) E H l f:=propext dz
theorem run_gl{i d g:Nat}{b:Bool}{o:Option Nat}{a:aG}:bp P dr K (gl i d g b o a::xs) E H l f=bp P dr K (⟨i,some d,some (g,b),.load (.load o a),[]⟩::xs) E H l f:=propext dz
theorem wp_rg{xs:List aJ}{K:cE->Env->aj->Prop}:(rg xs).wp P K E H=bp P false (K .normal) xs E H [] []:=propext dz
theorem ev_slot{n:Nat}:aG.ev E (.slot n)=E n:=rfl
theorem AA{v:Value}:aG.ev E (.const v)=.lit v:=rfl
theorem ev_aggc{vs:List Value}:aG.ev E (.aggc vs)=.agg (vs.map .lit):=rfl
theorem ev_func{g:FuncId}:aG.ev E (.func g)=.fn (.func g) [] []:=rfl
theorem ev_sl{n:Nat}:aG.ev E (sl n)=E n:=rfl
theorem zP{i d:Nat}{a:aG}:bp P dr K (mv i d a::xs) E H l f=bp P dr K xs (E.put (some d) (a.ev E)) H l f:=by
 simp only[mv,pV,POp.val,qo,x7]
theorem run_pu{i d:Nat}{p:POp}:bp P dr K (pu i d p::xs) E H l f=xC (p.val (aG.ev E)) (runK P dr K xs E (some d) H l f):=by
 simp only[pu,pV]
theorem run_ld{i d:Nat}{g:Option Nat}{a:aG}:bp P dr K (ld i d g a::xs) E H l f=tc ((LOp.load g a).val H (aG.ev E)) (x8 P dr K xs E (some d) H l f i []):=by
 simp only[ld,run_load]
theorem run_store{i n:Nat}{d:Option Nat}{a x:aG}{inc:List Nat}{r off:Nat}{cs us:List AC}(ha:a.ev E=.ptr r off)(hx:(x.ev E).cells?=some us)
(hg:H.get r=some (.cells cs))(hn:us.length=n)(ho:off+n<=cs.length)(hc:dQ inc l (·=r))
(h:bp P dr K xs (E.put d (.tup [])) (H.set r (.cells (bx cs off us))) l ((i,fun b=>b=r\/H.get b=none)::f)):
 bp P dr K (⟨i,d,none,.eff (.store n a x),inc⟩::xs) E H l f:=by
 simp only[bp,aJ.act,dt,EOp.isA,EOp.run,ha,hx,hg,aq,if_false]
 exact⟨hn,ho,hc,h⟩
def xw(P:Program)(dr:Bool)(K:Env->aj->Prop)(xs:List aJ)(E:Env)(d:Option Nat)(H:aj)(l:Lds)(f:Fps)(i:Nat)(inc:List Nat)(n r off:Nat)(us:List AC)(o:Option cz):Prop:=match o with
 |some (.cells cs)=>us.length=n/\off+n<=cs.length/\dQ inc l (·=r)/\bp P dr K xs (E.put d (.tup [])) (H.set r (.cells (bx cs off us))) l ((i,fun b=>b=r\/H.get b=none)::f)
 |_=>False
def runS(P:Program)(dr:Bool)(K:Env->aj->Prop)(xs:List aJ)(E:Env)(d:Option Nat)(H:aj)(l:Lds)(f:Fps)(i:Nat)(inc:List Nat)(n:Nat)(a:AC)(us:Option (List AC)):Prop:=match a,us with
 |.ptr r off,some us=>xw P dr K xs E d H l f i inc n r off us (H.get r)
 |_,_=>False
theorem zS{i n r off:Nat}{d:Option Nat}{inc:List Nat}{us:List AC}:runS P dr K xs E d H l f i inc n (.ptr r off) (some us)=xw P dr K xs E d H l f i inc n r off us (H.get r):=propext dz
theorem ug{i n r off:Nat}{d:Option Nat}{inc:List Nat}{us cs:List AC}:xw P dr K xs E d H l f i inc n r off us (some (.cells cs))=
 (us.length=n/\off+n<=cs.length/\dQ inc l (·=r)/\bp P dr K xs (E.put d (.tup [])) (H.set r (.cells (bx cs off us))) l ((i,fun b=>b=r\/H.get b=none)::f)):=propext dz
theorem run_st{i n:Nat}{d:Option Nat}{a x:aG}{inc:List Nat}:
 bp P dr K (⟨i,d,none,.eff (.store n a x),inc⟩::xs) E H l f=runS P dr K xs E d H l f i inc n (a.ev E) (x.ev E).cells?:=by
 simp only[bp,aJ.act,dt,EOp.isA,EOp.run,aq,if_false,runS]
 split
 ·rename_i ha hx
  simp only[ha,hx,xw]
  split<;>simp_all
 ·rename_i h
  split
  ·rename_i ha hx
   exact absurd ‹(x.ev E).cells?=some _› (h _ _ _ ‹a.ev E=.ptr _ _›)
  ·rfl
theorem run_append_nil{i sz bytes:Nat}{d:Option Nat}{s y:aG}{inc:List Nat}{ys:List (List AC)}(hs:s.ev E=NIL)(hy:iM sz (y.ev E)=some ys)(hl:ys.length<=2^32)(hne:ys≠[])
(h:∀b m,H.get b=none->ys.length*sz<=m->bp P dr K xs (E.put d (.sl sz (some (b,ys.length*sz,m)) ys)) (H.set b (.tail (ys.length*sz) m)) l f):
 bp P dr K (⟨i,d,none,.eff (.append sz bytes s y),inc⟩::xs) E H l f:=by
 simp only[bp,aJ.act,dt,EOp.isA,EOp.run,hs,hy,if_true]
 exact⟨hl,fun e=>absurd e hne,fun _ b m hb hm=>h b m hb hm⟩
def cI(P:Program)(g:FuncId)(zas:List AC)(r:AC):Prop:=ACalls P g zas .empty fun q H'=>q=r/\H'=.empty
theorem si(r:AC):zp (fun q H'=>q=r/\H'=aj.empty) .empty:=fun N=>⟨r,.empty,⟨rfl,rfl⟩,fun b hb=>by simp at hb⟩
theorem am{i:Nat}{g:FuncId}{args:List aG}{d:Option Nat}{inc:List Nat}{zas:List AC}{r:AC}(hc:cI P g zas r)(ha:args.map (aG.ev E)=zas)
(h:bp P dr K xs (E.put d r) H l ((i,fun b=>False\/H.get b=none)::f)):bp P dr K (⟨i,d,none,.eff (.call g args),inc⟩::xs) E H l f:=by
 simp only[bp,aJ.act,dt,EOp.isA,EOp.run,ha,aq,if_false]
 refine⟨.empty,_,H.sub_empty,hc,fun _=>si r,?_⟩
 rintro q H' ⟨rfl,rfl⟩ hd
 refine⟨?_,?_⟩
 ·cases inc with
  |nil=>trivial
  |cons=>intro z hz hi;simp
 ·rw[jy]
  simpa using h
theorem du{i:Nat}{g:FuncId}{args:List aG}{d:Option Nat}{inc:List Nat}{zas:List AC}{Hf:aj}{R:AC->aj->Prop}(hc:ACalls P g zas Hf R)(ha:args.map (aG.ev E)=zas)(hs:Hf.sub H)
(hlive:dr=true->zp R Hf)(hchk:dQ inc l fun b=>Hf.get b≠none)
(h:∀r H',R r H'->(∀b,H'.get b≠none->Hf.get b=none->H.get b=none)->bp P dr K xs (E.put d r) (H.swap Hf H') l ((i,fun b=>Hf.get b≠none\/H.get b=none)::f)):
 bp P dr K (⟨i,d,none,.eff (.call g args),inc⟩::xs) E H l f:=by
 simp only[bp,aJ.act,dt,EOp.isA,EOp.run,ha,aq,if_false]
 exact⟨Hf,R,hs,hc,hlive,fun r H' hr hd=>⟨hchk,h r H' hr hd⟩⟩
end
section
variable {P:Program}{K:cE->Env->aj->Prop}{E:Env}{H:aj}
theorem wp_skip:aT.skip.wp P K E H=K .normal E H:=propext dz
theorem wp_region{d:Bool}{xs:List aJ}:(aT.region d xs).wp P K E H=bp P d (K .normal) xs E H [] []:=propext dz
theorem vF{a b:Nat}{xs ys:List aJ}:(aT.region2 a b xs ys).wp P K E H=(bp P true (K .normal) xs E H [] []/\bp P true (K .normal) ys E H [] []):=propext dz
theorem wp_seq{a b:aT}:(aT.seq a b).wp P K E H=a.wp P (cE.then (b.wp P K) K) E H:=propext dz
theorem wp_cond{c:aG}{a b:aT}:(aT.cond c a b).wp P K E H=oU P E H K (c.ev E) a b:=propext dz
theorem wp_block{id:Nat}{c:aT}:(aT.block id c).wp P K E H=c.wp P (cE.inBlock id K) E H:=propext dz
theorem wp_exit{id:Nat}:(aT.exit id).wp P K E H=K (.exit id) E H:=propext dz
theorem wp_ret:aT.ret.wp P K E H=K .ret E H:=propext dz
theorem aT.wp_mono{c:aT}:∀{K K':cE->Env->aj->Prop} {E:Env} {H:aj},(∀e E H,K e E H->K' e E H)->c.wp P K E H->c.wp P K' E H:=by
 induction c with
 |skip=>intro K K' E H h;exact h _ _ _
 |region d xs=>intro K K' E H h;exact oI (h .normal) xs
 |region2 a b xs ys=>intro K K' E H h hh;exact⟨oI (h .normal) xs hh.1,oI (h .normal) ys hh.2⟩
 |seq a b iha ihb=>
  intro K K' E H h
  refine iha (fun e E H q=>?_)
  cases e with
  |normal=>exact ihb h q
  |exit i=>exact h _ _ _ q
  |ret=>exact h _ _ _ q
 |cond c a b iha ihb=>intro K K' E H h;rintro⟨t,h0,h1,h2⟩;exact⟨t,h0,fun q=>iha h (h1 q),fun q=>ihb h (h2 q)⟩
 |block i c ih=>
  intro K K' E H h
  refine ih (fun e E H q=>?_)
  cases e with
  |normal=>exact h _ _ _ q
  |exit j=>
   simp only[cE.inBlock]at q⊢
   split<;>rename_i hj<;>simp only[hj,if_true,if_false]at q<;>exact h _ _ _ q
  |ret=>exact h _ _ _ q
 |loop c ih=>
  intro K K' E H h
  rintro⟨J,h0,h1⟩
  refine⟨J,h0,fun n E H q=>ih (fun e E H q=>?_) (h1 n E H q)⟩
  cases e with
  |normal=>exact q
  |exit i=>exact h _ _ _ q
  |ret=>exact h _ _ _ q
 |exit i=>intro K K' E H h;exact h _ _ _
 |ret=>intro K K' E H h;exact h _ _ _
theorem tS{c:aT}(I:Nat->Env->aj->Prop)(n:Nat)(h0:I n E H)
(h:∀n E H,I n E H->c.wp P (cE.then (fun E' H'=>∃m,m<n/\∃H'',HWk H' H''/\I m E' H'') K) E H):(aT.loop c).wp P K E H:=⟨I,⟨n,h0⟩,h⟩
theorem wp_loop{c:aT}(I:Nat->Env->aj->Prop)(n:Nat)(h0:I n E H)
(h:∀n E H,I n E H->c.wp P (cE.then (fun E' H'=>∃m,m<n/\∃H'',H''.sub H'/\I m E' H'') K) E H):(aT.loop c).wp P K E H:=by
 refine tS I n h0 fun n E H hI=>aT.wp_mono (fun e E' H' he=>?_) (h n E H hI)
 cases e with
 |normal=>obtain⟨m,hm,H'',hs,hi⟩:=he;exact⟨m,hm,H'',.of_sub hs,hi⟩
 |exit i=>exact he
 |ret=>exact he
theorem rU{c:aT}(len:Nat)(J:Nat->Env->aj->Prop)(h0:J 0 E H)
(h:∀k E H,k<=len->J k E H->c.wp P (cE.then (fun E' H'=>k<len/\∃H'',HWk H' H''/\J (k+1) E' H'') K) E H):(aT.loop c).wp P K E H:=by
 refine tS (fun n E H=>∃k,n=len - k/\k<=len/\J k E H) len ⟨0,rfl,gN _,h0⟩ ?_
 rintro n E H ⟨k,rfl,hk,hJ⟩
 refine aT.wp_mono (fun e E' H' he=>?_) (h k E H hk hJ)
 cases e with
 |normal=>
  obtain⟨hlt,H'',hs,hj⟩:=he
  exact⟨len - (k+1),by omega,H'',hs,k+1,rfl,hlt,hj⟩
 |exit i=>exact he
 |ret=>exact he
theorem aV{c:aT}(len:Nat)(J:Nat->Env->aj->Prop)(h0:J 0 E H)
(h:∀k E H,k<=len->J k E H->c.wp P (cE.then (fun E' H'=>k<len/\∃H'',H''.sub H'/\J (k+1) E' H'') K) E H):(aT.loop c).wp P K E H:=by
 refine rU len J h0 fun k E H hk hJ=>aT.wp_mono (fun e E' H' he=>?_) (h k E H hk hJ)
 cases e with
 |normal=>obtain⟨hm,H'',hs,hi⟩:=he;exact⟨hm,H'',.of_sub hs,hi⟩
 |exit i=>exact he
 |ret=>exact he
theorem cu{A:Env->aj->Prop}:cE.then A K .normal E H=A E H:=propext dz
theorem fh{A:Env->aj->Prop}{i:Nat}:cE.then A K (.exit i) E H=K (.exit i) E H:=propext dz
theorem zG{A:Env->aj->Prop}:cE.then A K .ret E H=K .ret E H:=propext dz
theorem jU{i:Nat}:cE.inBlock i K .normal E H=K .normal E H:=propext dz
theorem uG{i:Nat}:cE.inBlock i K .ret E H=K .ret E H:=propext dz
theorem dH{i:Nat}:cE.inBlock i K (.exit i) E H=K .normal E H:=by simp[cE.inBlock]
theorem rG{i j:Nat}(h:j≠i):cE.inBlock i K (.exit j) E H=K (.exit j) E H:=by simp[cE.inBlock,h]
end
theorem gA{E:Env}{H:aj}{n:Nat}{R:AC->aj->Prop}(h:R (E n) H):bh.post [.slot n] R .ret E H:=
 ⟨E n,rfl,E n,H,.refl _ _,h⟩
theorem y6{E:Env}{H:aj}{n r off:Nat}{g:Option Nat}{cs:List AC}{q:AC}{R:AC->aj->Prop}(hE:E n=.ptr r off)(hg:H.get r=some (.cells cs))(hq:fH g cs off=some q)
{H':aj}(hs:H'.sub H)(h:R q H'):bh.post [.cell n g] R .ret E H:=
 ⟨q,by simp only[lh,iH,jq.val,hE,hg,hq],q,H',.of (.refl _) hs,h⟩
theorem wG(cs:List AC):AC.cells? (.agg cs)=some cs:=rfl
theorem yP(sz:Nat)(t:Option (Nat×Nat×Nat))(es:List (List AC)):AC.cells? (.sl sz t es)=some [.sl sz t es]:=rfl
theorem wD(r o:Nat):AC.cells? (.ptr r o)=some [.ptr r o]:=rfl
theorem wF(cs:List AC):AC.cells? (.elt cs)=some [.elt cs]:=rfl
theorem tv(t:TypeId)(x:AC):AC.cells? (.iface t x)=some [.iface t x]:=rfl
theorem yQ(f:Fn)(a b:List AC):AC.cells? (.fn f a b)=some [.fn f a b]:=rfl
theorem wE(k:IntKind)(n:Int):AC.cells? (.lit (.int k n))=some [.lit (.int k n)]:=rfl
theorem rH(s:ByteArray):AC.cells? (.lit (.string s))=some [.lit (.string s)]:=rfl
theorem uX(b:Bool):AC.cells? (.lit (.bool b))=some [.lit (.bool b)]:=rfl
theorem tu(a:Option Addr)(n c:Nat):AC.cells? (.lit (.slice a n c))=some [.lit (.slice a n c)]:=rfl
theorem qU(a:Option Addr):AC.cells? (.lit (.pointer a))=some [.lit (.pointer a)]:=rfl
theorem pI:AC.cells? (.lit .nilIface)=some [.lit .nilIface]:=rfl
theorem beq_tt:(true==true)=true:=rfl
theorem beq_tf:(true==false)=false:=rfl
theorem beq_ft:(false==true)=false:=rfl
theorem beq_ff:(false==false)=true:=rfl
theorem ite_t{α:Type}(a b:α):(if true=true then a else b)=a:=rfl
theorem ite_f{α:Type}(a b:α):(if false=true then a else b)=b:=rfl
theorem l5(H:aj)(b:Nat)(o o':cz):(H.set b o).set b o'=H.set b o':=by
 apply aj.ext;intro c;simp only[aK];split<;>rfl
theorem aP{n:Int}(h:-9223372036854775808<=n)(h':n<=9223372036854775807):IntKind.i64.wrap n=n:=
 xh .i64 n (by simpa[IntKind.min,IntKind.bits,IntKind.signed]using h) (by simpa[IntKind.max,IntKind.bits,IntKind.signed]using h')
def Fits(P:Program)(f:FuncId)(x:bh):Prop:=
 ∀{xs:List AC} {H:aj} {R:AC->aj->Prop},xs.length<=x.ntmps->x.body.wp P (bh.post x.results R) (lq xs) H->ACalls P f xs H R
theorem fits_of{P:Program}{f:FuncId}{fn:Func}{xf:bh}(hf:P.funcs[f]?=some fn)(hx:my P fn=some xf)(hok:sY P fn xf=true):Fits P f xf:=
 fun hlen h=>zo hf hx hok hlen h
attribute [go_sem] run_fa run_ef run_en run_nc run_ia ev_num ev_ci ev_ct ev_cf run_gp run_gl wp_rg gZ gq dA df wR vt rN tD re tE wQ tC cF false_implies implies_true Nat.add_zero bY Nat.zero_mul Nat.one_mul Nat.mul_one aA gX ai ae beq_tt beq_tf beq_ft beq_ff ite_t ite_f decide_true decide_false Bool.not_true Bool.not_false run_st zS ug bx List.take_succ_cons List.take_zero aR bM List.take_nil List.drop_nil l5 ev_sl zP run_pu run_ld qo uo uq yu vR x7 zU vP vQ yr nq lH iq sf Aa kr yp pV run_load zQ run_box yq pZ wp_skip wp_region vF wp_seq wp_cond wp_block wp_exit wp_ret cu fh zG jU uG dH rG POp.val ev_slot AA ev_aggc ev_func to LOp.val fH jw oS iM l9 lA wG yP wD wF tv yQ wE rH uX tu qU pI lq dt dQ Option.bind a9 aB bW Option.getD_some if_true if_false ne_eq not_false_eq_true not_true_eq_false aU bB true_and and_true and_self Int.natCast_nonneg Int.toNat_natCast cq df gq gZ
def LeA:List AC->List AC->Prop
 |[],[]=>True
 |x::xs,y::ys=>Le x y/\LeA xs ys
 |_,_=>False
def LeC:List AC->List AC->Prop
 |[],[]=>True
 |x::xs,y::ys=>(Le x y/\y.one=true)/\LeC xs ys
 |_,_=>False
def LeR:List (List AC)->List (List AC)->Prop
 |[],[]=>True
 |x::xs,y::ys=>LeC x y/\LeR xs ys
 |_,_=>False
theorem LeA.refl:∀xs,LeA xs xs
 |[]=>trivial
 |x::xs=>⟨.refl x,LeA.refl xs⟩
theorem LeC.refl:∀{xs:List AC},(∀x∈xs,x.one=true)->LeC xs xs
 |[],_=>trivial
 |x::xs,h=>⟨⟨.refl x,h x (by simp)⟩,LeC.refl fun y hy=>h y (by simp[hy])⟩
theorem LeA.length:∀{xs ys:List AC},LeA xs ys->xs.length=ys.length
 |[],[],_=>rfl
 |x::xs,y::ys,h=>by simp[LeA.length h.2]
theorem LeC.length:∀{xs ys:List AC},LeC xs ys->xs.length=ys.length
 |[],[],_=>rfl
 |x::xs,y::ys,h=>by simp[LeC.length h.2]
theorem LeR.length:∀{xs ys:List (List AC)},LeR xs ys->xs.length=ys.length
 |[],[],_=>rfl
 |x::xs,y::ys,h=>by simp[LeR.length h.2]
theorem LeA.get:∀{xs ys:List AC},LeA xs ys->∀{j:Nat} {y},ys[j]?=some y->∃x,xs[j]?=some x/\Le x y
 |[],[],_,j,y,h=>by simp at h
 |x::xs,y::ys,h,0,z,hz=>by simp at hz;subst hz;exact⟨x,rfl,h.1⟩
 |x::xs,y::ys,h,j+1,z,hz=>by simpa using LeA.get h.2 (by simpa using hz)
theorem LeC.get:∀{xs ys:List AC},LeC xs ys->∀{j:Nat} {y},ys[j]?=some y->∃x,xs[j]?=some x/\Le x y/\y.one=true
 |[],[],_,j,y,h=>by simp at h
 |x::xs,y::ys,h,0,z,hz=>by simp at hz;subst hz;exact⟨x,rfl,h.1⟩
 |x::xs,y::ys,h,j+1,z,hz=>by simpa using LeC.get h.2 (by simpa using hz)
theorem LeR.get:∀{xs ys:List (List AC)},LeR xs ys->∀{j:Nat} {y},ys[j]?=some y->∃x,xs[j]?=some x/\LeC x y
 |[],[],_,j,y,h=>by simp at h
 |x::xs,y::ys,h,0,z,hz=>by simp at hz;subst hz;exact⟨x,rfl,h.1⟩
 |x::xs,y::ys,h,j+1,z,hz=>by simpa using LeR.get h.2 (by simpa using hz)
theorem LeC.one{xs ys:List AC}(h:LeC xs ys):∀y∈ys,y.one=true:=by
 intro y hy
 obtain⟨j,hj⟩:=jx.1 hy
 obtain⟨x,-,-,h1⟩:=h.get hj
 exact h1
theorem Le.nil(sz:Nat):Le NIL (.sl sz none []):=by
 intro M v r
 obtain⟨rfl,-⟩:=r.lit_inv
 exact .sl0
theorem Le.slR{sz:Nat}{tok:Option (Nat×Nat×Nat)}{es es':List (List AC)}(h:LeR es es'):Le (.sl sz tok es) (.sl sz none es'):=by
 intro M v r
 cases r with
 |sl0=>
  cases es' with
  |nil=>exact .sl0
  |cons=>simp[LeR]at h
 |sl vs hl hc hs hm hr ht=>
  have hlen:=h.length
  rw[hlen]
  refine .sl vs (by omega) (by omega) (fun e he=>?_) (fun i j e x he hx=>?_) (fun i j e x he hx=>?_) (by simp)
  ·obtain⟨i,hi⟩:=jx.1 he
   obtain⟨e0,h0,hle⟩:=h.get hi
   exact⟨by rw[<-hle.length];exact(hs e0 (aY h0)).1,hle.one⟩
  ·obtain⟨e0,h0,hle⟩:=h.get he
   obtain⟨x0,hx0,-⟩:=hle.get hx
   exact hm i j e0 x0 h0 hx0
  ·obtain⟨e0,h0,hle⟩:=h.get he
   obtain⟨x0,hx0,hxx,-⟩:=hle.get hx
   exact hxx M _ (hr i j e0 x0 h0 hx0)
theorem Le.tok(sz:Nat)(tok:Option (Nat×Nat×Nat))(es:List (List AC)):Le (.sl sz tok es) (.sl sz none es):=by
 intro M v r
 cases r with
 |sl0=>exact .sl0
 |sl vs hl hc hs hm hr ht=>exact .sl vs hl hc hs hm hr (by simp)
theorem Le.agg{xs ys:List AC}(h:LeC xs ys):Le (.agg xs) (.agg ys):=by
 intro M v r
 cases r with
 |agg h1 hl hr=>
  refine .agg h.one (by rw[<-h.length];exact hl) fun j y v hy hv=>?_
  obtain⟨x,hx,hle,-⟩:=h.get hy
  exact hle M v (hr j x v hx hv)
theorem Le.tup{xs ys:List AC}(h:LeA xs ys):Le (.tup xs) (.tup ys):=by
 intro M v r
 cases r with
 |tup hl hr=>
  refine .tup (by rw[<-h.length];exact hl) fun j y v hy hv=>?_
  obtain⟨x,hx,hle⟩:=h.get hy
  exact hle M v (hr j x v hx hv)
def OLe:cz->cz->Prop
 |.cells cs,.cells cs'=>LeC cs cs'
 |o,o'=>o=o'
def HLe(H H':aj):Prop:=∀b,match H.get b,H'.get b with
 |some o,some o'=>OLe o o'
 |none,none=>True
 |_,_=>False
theorem HLe.none{H H':aj}(h:HLe H H')(b:Nat):H.get b=none↔H'.get b=none:=by
 have:=h b
 split at this<;>simp_all
theorem HLe.sim{H H':aj}(h:HLe H H'){M:bF}{w:World}(s:Sim M H w):Sim M H' w:=by
 refine⟨s.mem,fun b o' ho'=>?_⟩
 have:=h b
 rw[ho']at this
 split at this
 ·rename_i o o2 ho heq
  simp at heq;subst heq
  have so:=s.obj b o ho
  unfold OLe at this
  split at this
  ·obtain⟨vs,el,h1,h2,h3,h4,h5⟩:=so
   refine⟨vs,el,h1,this.one,by rw[<-this.length];exact h3,fun j y v hy hv=>?_,h5⟩
   obtain⟨x,hx,hle,-⟩:=this.get hy
   exact hle M v (h4 j x v hx hv)
  ·subst this;exact so
 ·rename_i heq;simp at heq
 ·exact this.elim
theorem bC.dom{M M':bF}{H H₀ H':aj}{w w':World}(h:∀b,H.get b=none↔H₀.get b=none)(t:bC M H w M' H' w'):bC M H₀ w M' H' w':=
 ⟨t.le,t.size,fun b hb hn=>t.same b hb ((h b).2 hn),fun b hb=>(t.fresh b hb).imp (fun q e=>q ((h b).2 e)) id,t.io⟩
theorem ACalls.weaken{P:Program}{f:FuncId}{xs xs':List AC}{H H':aj}{R:AC->aj->Prop}(h:ACalls P f xs H R)(hx:LeA xs' xs)(hh:HLe H' H):ACalls P f xs' H' R:=by
 intro M w vs s r
 have r':gP M xs vs:=by
  refine⟨by rw[<-hx.length];exact r.1,fun j y v hy hv=>?_⟩
  obtain⟨x,hx',hle⟩:=hx.get hy
  exact hle M v (r.2 j x v hx' hv)
 refine(h M w vs (hh.sim s) r').mono ?_
 rintro e w' ⟨q,v,M',H2,h1,h2,h3,h4,h5⟩
 exact⟨q,v,M',H2,h1,h2,h3,h4.dom fun b=>(hh.none b).symm,h5⟩
theorem mV.trans_le{x y z:AC}{H H':aj}(h:mV x H y H')(h':Le y z):mV x H z H':=h.trans (.of h' H'.sub_refl)
theorem bP{E:Env}{H:aj}{n r off:Nat}{g:Option Nat}{cs:List AC}{q q':AC}{R:AC->aj->Prop}(hE:E n=.ptr r off)(hg:H.get r=some (.cells cs))(hq:fH g cs off=some q)
(hl:Le q q'){H':aj}(hs:H'.sub H)(h:R q' H'):bh.post [.cell n g] R .ret E H:=
 ⟨q,by simp only[lh,iH,jq.val,hE,hg,hq],q',H',.of hl hs,h⟩
theorem ak{E:Env}{H:aj}{n:Nat}{q':AC}{R:AC->aj->Prop}(hl:Le (E n) q'){H':aj}(hs:H'.sub H)(h:R q' H'):bh.post [.slot n] R .ret E H:=
 ⟨E n,rfl,q',H',.of hl hs,h⟩
def bR(H:aj)(sz:Nat)(es:List (List AC))(x:AC):Prop:=(es=[]/\x=NIL)\/∃b n m,x=.sl sz (some (b,n,m)) es/\H.get b=some (.tail n m)
theorem bR.nil(H:aj)(sz:Nat):bR H sz [] NIL:=.inl ⟨rfl,rfl⟩
theorem bR.le{H:aj}{sz:Nat}{es:List (List AC)}{x:AC}(h:bR H sz es x):Le x (.sl sz none es):=by
 rcases h with⟨rfl,rfl⟩|⟨b,n,m,rfl,-⟩
 ·exact .nil sz
 ·exact .tok _ _ _
theorem bR.set{H:aj}{sz:Nat}{es:List (List AC)}{x:AC}(h:bR H sz es x){b:Nat}{cs:List AC}(hb:H.get b=some (.cells cs))(o:cz):bR (H.set b o) sz es x:=by
 rcases h with⟨rfl,rfl⟩|⟨c,n,m,rfl,hc⟩
 ·exact .nil _ _
 ·refine .inr ⟨c,n,m,rfl,?_⟩
  rw[ae _ _ (by rintro rfl;rw[hb]at hc;simp at hc)];exact hc
theorem bR.new{H:aj}{sz:Nat}{es:List (List AC)}{x:AC}(h:bR H sz es x){b:Nat}(hb:H.get b=none)(o:cz):bR (H.set b o) sz es x:=by
 rcases h with⟨rfl,rfl⟩|⟨c,n,m,rfl,hc⟩
 ·exact .nil _ _
 ·refine .inr ⟨c,n,m,rfl,?_⟩
  rw[ae _ _ (by rintro rfl;rw[hb]at hc;simp at hc)];exact hc
theorem bR.one{H:aj}{sz:Nat}{es:List (List AC)}{x:AC}(h:bR H sz es x):x.cells?=some [x]:=by
 rcases h with⟨rfl,rfl⟩|⟨c,n,m,rfl,hc⟩<;>rfl
@[go_sem] theorem yK(H:aj)(sz sz':Nat)(t:Option (Nat×Nat×Nat))(es:List (List AC)):gT H sz (.sl sz' t es)=if sz=sz' then some es else none:=rfl
@[go_sem] theorem elemsH_nil(H:aj)(sz:Nat):gT H sz NIL=some []:=rfl
@[go_sem] theorem elemsH_none(H:aj)(sz:Nat)(a:Option Addr)(c:Nat):gT H sz (.lit (.slice a 0 c))=some []:=by
  rcases a with _|⟨b,o,_|s⟩<;>rfl
def Bs(H H':aj):Prop:=(∀b cs,H.get b=some (.cells cs)->H'.get b=some (.cells cs))/\∀b cs,H'.get b=some (.cells cs)->H.get b=some (.cells cs)
section
variable {P:Program}{dr:Bool}{K:Env->aj->Prop}{xs:List aJ}{E:Env}{H:aj}{l:Lds}{f:Fps}
theorem uf{i sz bytes:Nat}{d:Option Nat}{s y:aG}{inc:List Nat}{es ys:List (List AC)}(hs:bR H sz es (s.ev E))(hy:gT H sz (y.ev E)=some ys)(hsz:∀e∈ys,e.length=sz)(hl:es.length+ys.length<=2^32)
(hinc:inc=[])(h:∀x' H' fp,bR H' sz (es++ys) x'->Bs H H'->bp P dr K xs (E.put d x') H' l ((i,fp)::f)):
 bp P dr K (⟨i,d,none,.eff (.appendM sz bytes s y),inc⟩::xs) E H l f:=by
 subst hinc
 have keep:∀b o,(H.get b=none\/∃n m,H.get b=some (.tail n m))->(∃n m,o=.tail n m)->Bs H (H.set b o):=by
  rintro b o hb ⟨n,m,rfl⟩
  refine⟨fun c cs hc=>?_,fun c cs hc=>?_⟩
  ·rw[ae _ _ (by rintro rfl;rcases hb with hb|⟨n,m,hb⟩<;>rw[hb]at hc<;>simp at hc)];exact hc
  ·rw[aK]at hc
   split at hc
   ·simp at hc
   ·exact hc
 simp only[bp,aJ.act,dt,EOp.isA,EOp.run,hy,aq,if_false]
 refine⟨hsz,?_⟩
 rcases hs with⟨rfl,e⟩|⟨b,n,m,e,hb⟩
 ·simp only[e,kj]
  refine⟨by simpa using hl,fun e=>?_,fun e=>.inl fun b m hb hm=>?_⟩
  ·subst e;exact⟨trivial,h NIL H _ (.nil _ _) ⟨fun _ _ h=>h,fun _ _ h=>h⟩⟩
  ·exact⟨trivial,h _ _ _ (.inr ⟨b,_,_,rfl,ai _ _ _⟩) (keep b _ (.inl hb) ⟨_,_,rfl⟩)⟩
 ·simp only[e,kj]
  refine⟨trivial,hl,hb,.inl fun b' m' hb' hm=>⟨trivial,h _ _ _ (.inr ⟨b',_,_,rfl,ai _ _ _⟩) (keep b' _ ?_ ⟨_,_,rfl⟩)⟩⟩
  rcases hb' with rfl|hb'
  ·exact .inr ⟨n,m,hb⟩
  ·exact .inl hb'
def cJ(x:AC)(d:Nat):Prop:=∃sz n m es,x=.sl sz (some (d,n,m)) es
theorem ls(inc:List Nat)(l:Lds):dQ inc l (fun _=>False):=by
 cases inc with
 |nil=>trivial
 |cons=>intro z hz hi hf;exact hf
theorem fG{i sz bytes:Nat}{d:Option Nat}{s y:aG}{inc:List Nat}{es ys:List (List AC)}(hs:bR H sz es (s.ev E))(hy:gT H sz (y.ev E)=some ys)(hsz:∀e∈ys,e.length=sz)(hl:es.length+ys.length<=2^32)
(h:∀x' H' fp,bR H' sz (es++ys) x'->(∀c,fp c->H.get c=none)->(∀c,H.get c≠none->¬cJ (s.ev E) c->H'.get c=H.get c)->(∀c,cJ x' c->cJ (s.ev E) c\/H.get c=none)->
  bp P dr K xs (E.put d x') H' l ((i,fp)::f)):
 bp P dr K (⟨i,d,none,.eff (.appendM sz bytes s y),inc⟩::xs) E H l f:=by
 simp only[bp,aJ.act,dt,EOp.isA,EOp.run,hy,aq,if_false]
 refine⟨hsz,?_⟩
 rcases hs with⟨rfl,e⟩|⟨b,n,m,e,hb⟩
 ·simp only[e,kj]
  refine⟨by simpa using hl,fun e'=>?_,fun e'=>.inl fun b m hb hm=>?_⟩
  ·subst e';exact⟨ls _ _,h NIL H _ (.nil _ _) (fun c hc=>hc.resolve_left id) (fun _ _ _=>rfl) (fun c ⟨_,_,_,_,e'⟩=>by simp at e')⟩
  ·refine⟨ls _ _,h _ _ _ (.inr ⟨b,_,_,rfl,ai _ _ _⟩) (fun c hc=>hc.resolve_left id) (fun c hc _=>ae _ _ (by rintro rfl;exact hc hb)) (fun c ⟨_,_,_,_,e'⟩=>?_)⟩
   simp at e';obtain⟨-,⟨rfl,-⟩,-⟩:=e';exact .inr hb
 ·simp only[e,kj]
  refine⟨trivial,hl,hb,.inl fun b' m' hb' hm=>⟨ls _ _,h _ _ _ (.inr ⟨b',_,_,rfl,ai _ _ _⟩) (fun c hc=>hc.resolve_left id) (fun c hc hn=>ae _ _ ?_) (fun c ⟨_,_,_,_,e'⟩=>?_)⟩⟩
  ·rintro rfl
   rcases hb' with rfl|hb'
   ·exact hn ⟨_,_,_,_,e⟩
   ·exact hc hb'
  ·simp at e';obtain⟨-,⟨rfl,-⟩,-⟩:=e'
   rcases hb' with rfl|hb'
   ·exact .inl ⟨_,_,_,_,e⟩
   ·exact .inr hb'
theorem bR.elems{H H':aj}{sz:Nat}{es:List (List AC)}{x:AC}(h:bR H sz es x):gT H' sz x=some es:=by
 rcases h with⟨rfl,rfl⟩|⟨c,n,m,rfl,hc⟩
 ·rfl
 ·rw[yK,if_pos rfl]
end
open Classical in
noncomputable def aj.only (H:aj) (S:Nat->Prop):aj:=
 ⟨fun b=>if S b then H.get b else none,by
  obtain⟨N,h⟩:=H.fin
  exact⟨N,fun b hb=>by split<;>simp[h b hb]⟩⟩
theorem bf{H:aj}{S:Nat->Prop}{b:Nat}(h:S b):(H.only S).get b=H.get b:=by simp[aj.only,h]
theorem bS{H:aj}{S:Nat->Prop}{b:Nat}(h:¬S b):(H.only S).get b=none:=by simp[aj.only,h]
theorem aj.only_sub(H:aj)(S:Nat->Prop):(H.only S).sub H:=by
 intro b o hb
 by_cases h:S b
 ·rwa[bf h]at hb
 ·rw[bS h]at hb;simp at hb
structure After(S:Nat->Prop)(H H1:aj):Prop where
 out:∀b,¬S b->H.get b≠none->H1.get b=H.get b
theorem zI{H Hf H':aj}:H'.sub (H.swap Hf H'):=by
 intro b o hb
 rw[bz,hb];rfl
section
variable {P:Program}{dr:Bool}{K:Env->aj->Prop}{xs:List aJ}{E:Env}{H:aj}{l:Lds}{f:Fps}
theorem ACalls.args{P:Program}{f:FuncId}{xs xs':List AC}{H:aj}{R:AC->aj->Prop}(h:ACalls P f xs H R)(hx:LeA xs' xs):ACalls P f xs' H R:=by
 intro M w vs s r
 refine h M w vs s ⟨by rw[<-hx.length];exact r.1,fun j y v hy hv=>?_⟩
 obtain⟨x,hx',hle⟩:=hx.get hy
 exact hle M v (r.2 j x v hx' hv)
theorem gu{i:Nat}{g:FuncId}{args:List aG}{d:Option Nat}{inc:List Nat}{zas as':List AC}(S:Nat->Prop){R:AC->aj->Prop}(hc:ACalls P g zas (H.only S) R)
(ha:args.map (aG.ev E)=as')(hl:LeA as' zas)(hlive:dr=true->zp R (H.only S))(hchk:dQ inc l fun b=>(H.only S).get b≠none)
(h:∀q H' H1,R q H'->H'.sub H1->After S H H1->(∀b,H'.get b≠none->S b\/H.get b=none)->(∀b,H1.get b≠none->H'.get b≠none\/(¬S b/\H.get b≠none))->
  bp P dr K xs (E.put d q) H1 l ((i,fun b=>(H.only S).get b≠none\/H.get b=none)::f)):
 bp P dr K (⟨i,d,none,.eff (.call g args),inc⟩::xs) E H l f:=by
 refine du (hc.args hl) ha (H.only_sub S) hlive hchk ?_
 ·intro q H' hr hfresh
  refine h q H' _ hr zI ⟨fun b hb hn=>?_⟩ (fun b hb=>?_) (fun b hb=>?_)
  ·rw[bz,bS hb]
   have:H'.get b=none:=by
    rcases bV (H'.get b)with e|⟨o,e⟩
    ·exact e
    ·exact absurd (hfresh b (by simp[e]) (bS hb)) hn
   simp[this]
  ·by_cases hs:S b
   ·exact .inl hs
   ·exact .inr (hfresh b hb (bS hs))
  ·rw[bz]at hb
   split at hb
   ·exact .inl hb
   ·split at hb
    ·simp at hb
    ·rename_i h1 h2
     by_cases hs:S b
     ·rw[bf hs]at h2
      simp at h2;exact absurd h2 hb
     ·exact .inr ⟨hs,hb⟩
end
theorem jI(H:aj)(r:Nat):(H.only (·=r)).get r=H.get r:=bf (S:=(·=r)) rfl
theorem lT(H:aj){r b:Nat}(h:b≠r):(H.only (·=r)).get b=none:=bS (S:=(·=r)) h
theorem mW(H:aj)(S:Nat->Prop):H.swap (H.only S) (H.only S)=H:=by
 ext b:1
 rw[bz]
 by_cases h:S b
 ·rw[bf h]
  cases H.get b<;>rfl
 ·rw[bS h];rfl
theorem nP(H:aj){r:Nat}{o o':cz}(hr:H.get r=some o):H.swap (H.only (·=r)) ((H.only (·=r)).set r o')=H.set r o':=by
 ext b:1
 rw[bz,aK,aK]
 by_cases h:b=r
 ·subst h;simp
 ·rw[if_neg h,if_neg h,lT H h];rfl
theorem rQ(H:aj){b:Nat}{o:cz}:H.swap .empty (aj.empty.set b o)=H.set b o:=by
 ext c:1
 rw[bz,aK,aK]
 by_cases h:c=b
 ·subst h;simp
 ·rw[if_neg h,if_neg h];rfl
section
variable {P:Program}{dr:Bool}{K:Env->aj->Prop}{xs:List aJ}{E:Env}{H:aj}{l:Lds}{f:Fps}
@[go_sem] theorem ev_glob{g:Nat}:aG.ev E (.glob g)=.ptr g 0:=rfl
theorem kG{i:Nat}{c:vu}{args:List aG}{d:Option Nat}{inc:List Nat}{zas:List AC}{Hf:aj}{R:AC->aj->Prop}(hc:mg P c zas Hf R)(ha:args.map (aG.ev E)=zas)(hs:Hf.sub H)
(hlive:dr=true->zp R Hf)(hchk:dQ inc l fun b=>Hf.get b≠none)
(h:∀r H',R r H'->(∀b,H'.get b≠none->Hf.get b=none->H.get b=none)->bp P dr K xs (E.put d r) (H.swap Hf H') l ((i,fun b=>Hf.get b≠none\/H.get b=none)::f)):
 bp P dr K (⟨i,d,none,.eff (.callX c args),inc⟩::xs) E H l f:=by
 simp only[bp,aJ.act,dt,EOp.isA,EOp.run,ha,aq,if_false]
 exact⟨Hf,R,hs,hc,hlive,fun r H' hr hd=>⟨hchk,h r H' hr hd⟩⟩
theorem qT{inc:List Nat}{l:Lds}{r:Nat}(hchk:dQ inc l (·=r)):dQ inc l fun b=>(H.only (·=r)).get b≠none:=by
 have hb:∀b,(H.only (·=r)).get b≠none->b=r:=fun b h=>by
  by_cases hb:b=r
  ·exact hb
  ·rw[lT H hb]at h;simp at h
 cases inc with
 |nil=>trivial
 |cons a t=>exact fun z hz hi hh=>hchk z hz hi (hb _ hh)
theorem fT{i:Nat}{z:AC}{ok:Bool}{args:List aG}{d:Option Nat}{inc:List Nat}{r:Nat}{k:ByteArray}{g:ByteArray->Option AC}(ha:args.map (aG.ev E)=[.mp r,S k])
(hg:H.get r=some (.map g))(hchk:dQ inc l (·=r))
(h:bp P dr K xs (E.put d (iC z ok (g k))) H l ((i,fun b=>(H.only (·=r)).get b≠none\/H.get b=none)::f)):
 bp P dr K (⟨i,d,none,.eff (.callX (.lookup z ok) args),inc⟩::xs) E H l f:=by
 have hg':(H.only (·=r)).get r=some (.map g):=by rw[jI,hg]
 refine kG (Hf:=H.only (·=r)) (R:=fun q H'=>q=iC z ok (g k)/\H'=H.only (·=r)) (zas:=[.mp r,S k]) ⟨g,hg',rfl,rfl⟩ ha (H.only_sub _) (fun _ N=>⟨_,_,⟨rfl,rfl⟩,fun b h1 h2=>absurd h2 h1⟩) (qT hchk) ?_
 rintro q H' ⟨rfl,rfl⟩ -
 rw[mW];exact h
theorem jP{i:Nat}{args:List aG}{d:Option Nat}{inc:List Nat}{r:Nat}{k:ByteArray}{v v':AC}{g:ByteArray->Option AC}(ha:args.map (aG.ev E)=[.mp r,S k,v])(hle:Le v v')
(hg:H.get r=some (.map g))(hchk:dQ inc l (·=r))
(h:bp P dr K xs (E.put d (.tup [])) (H.set r (.map (lJ g k v'))) l ((i,fun b=>(H.only (·=r)).get b≠none\/H.get b=none)::f)):
 bp P dr K (⟨i,d,none,.eff (.callX .mapSet args),inc⟩::xs) E H l f:=by
 have hg':(H.only (·=r)).get r=some (.map g):=by rw[jI,hg]
 refine kG (Hf:=H.only (·=r)) (R:=fun q H'=>q=.tup []/\H'=(H.only (·=r)).set r (.map (lJ g k v'))) (zas:=[.mp r,S k,v]) ⟨g,v',hle,hg',rfl,rfl⟩ ha (H.only_sub _) (fun _ N=>⟨_,_,⟨rfl,rfl⟩,fun b h1 h2=>?_⟩) (qT hchk) ?_
 ·by_cases hb:b=r
  ·subst hb;rw[hg']at h2;simp at h2
  ·rw[ae _ _ hb]at h1;exact absurd h2 h1
 ·rintro q H' ⟨rfl,rfl⟩ -
  rw[nP H hg];exact h
theorem oG{i:Nat}{d:Option Nat}{inc:List Nat}(h:∀b,H.get b=none->bp P dr K xs (E.put d (.mp b)) (H.set b (.map fun _=>none)) l ((i,fun b=>aj.empty.get b≠none\/H.get b=none)::f)):
 bp P dr K (⟨i,d,none,.eff (.callX .mkMap []),inc⟩::xs) E H l f:=by
 refine kG (Hf:=.empty) (R:=fun q H'=>∃b,q=.mp b/\H'=aj.empty.set b (.map fun _=>none)) (zas:=[]) (fun b _=>⟨b,rfl,rfl⟩) rfl H.sub_empty (fun _ N=>⟨_,_,⟨N,rfl,rfl⟩,fun b h1 _=>?_⟩) ?_ ?_
 ·by_cases hb:b=N
  ·omega
  ·rw[ae _ _ hb]at h1;simp at h1
 ·cases inc with
  |nil=>trivial
  |cons a t=>exact fun z hz hi hh=>hh rfl
 ·rintro q H' ⟨b,rfl,rfl⟩ hf
  rw[rQ];exact h b (hf b (by simp) rfl)
theorem sS{i:Nat}{args:List aG}{d:Option Nat}{inc:List Nat}{t:TypeId}{r:Nat}{g:ByteArray->Option AC}(ha:args.map (aG.ev E)=[.iface t (.mp r)])
(hg:H.get r=some (.map g))(hchk:dQ inc l (·=r))
(h:∀b,H.get b=none->bp P dr K xs (E.put d (.iface t (.mp b))) (H.set b (.map g)) l ((i,fun b=>(H.only (·=r)).get b≠none\/H.get b=none)::f)):
 bp P dr K (⟨i,d,none,.eff (.callX .mapClone args),inc⟩::xs) E H l f:=by
 have hg':(H.only (·=r)).get r=some (.map g):=by rw[jI,hg]
 refine kG (Hf:=H.only (·=r)) (R:=fun q H'=>∃b,(H.only (·=r)).get b=none/\q=.iface t (.mp b)/\H'=(H.only (·=r)).set b (.map g)) (zas:=[.iface t (.mp r)]) ⟨g,hg',fun b hb=>⟨b,hb,rfl,rfl⟩⟩ ha (H.only_sub _)
  (fun _ N=>⟨_,_,⟨N+r+1,lT H (by omega),rfl,rfl⟩,fun b h1 h2=>?_⟩) (qT hchk) ?_
 ·by_cases hb:b=N+r+1
  ·omega
  ·rw[ae _ _ hb]at h1;exact absurd h2 h1
 ·rintro q H' ⟨b,hb,rfl,rfl⟩ hf
  have hb':H.get b=none:=hf b (by simp) hb
  have:H.swap (H.only (·=r)) ((H.only (·=r)).set b (.map g))=H.set b (.map g):=by
   ext c:1
   rw[bz,aK,aK]
   by_cases hc:c=b
   ·subst hc;simp
   ·rw[if_neg hc,if_neg hc]
    by_cases h:c=r
    ·subst h;rw[jI];cases H.get c<;>rfl
    ·rw[lT H h];rfl
  rw[this];exact h b hb'
theorem pF{i:Nat}{name:String}{g:FuncId}{args:List aG}{d:Option Nat}{inc:List Nat}{t:TypeId}{y r:AC}{ys:List AC}(hm:ux P t name=some g)(hgood:iz P g=true)(hc:cI P g (y::ys) r)
(ha:args.map (aG.ev E)=.iface t y::ys)
(h:bp P dr K xs (E.put d r) H l ((i,fun b=>aj.empty.get b≠none\/H.get b=none)::f)):bp P dr K (⟨i,d,none,.eff (.callX (.invoke name) args),inc⟩::xs) E H l f:=by
 refine kG (Hf:=.empty) (R:=fun q H'=>q=r/\H'=.empty) (zas:=.iface t y::ys) ⟨g,hm,hgood,hc⟩ ha H.sub_empty (fun _=>si r) ?_ ?_
 ·cases inc with
  |nil=>trivial
  |cons=>exact fun z hz hi hh=>hh rfl
 ·rintro q H' ⟨rfl,rfl⟩ hd
  rw[jy];exact h
end
open Go.Proofs
set_option maxRecDepth 100000
structure Ids where mk::
structure Lib(P:Program)(F:Ids):Prop where p:P=Tryz.prog
theorem fs0:ByteArray.mk (Array.mk [])=bl []:=rfl
theorem fs1(x:UInt8)(l:List UInt8):ByteArray.mk (Array.mk (x::l))=bl ((x::l).map UInt8.toNat):=by
 have:∀l:List UInt8,(l.map UInt8.toNat).map UInt8.ofNat=l:=fun l=>by
  rw[List.map_map];conv=>rhs;rw[<-List.map_id l]
  apply eJ;intro x _;simp
 unfold bl;rw[this]
theorem fs2(n:Nat)(h:n<2^8):UInt8.toNat (UInt8.ofBitVec (BitVec.ofFin (Fin.mk n h)))=n:=rfl
section variable {i d k z:Nat}{p:POp}{e:EOp}{g:Option Nat}{a x y:aG}{q:Nat}{b:Bool}{f:FuncId}{l:List aG}{xs:List aJ}{n:Int}
theorem g1:(⟨i,some d,none,.pure p,[]⟩:aJ)=pu i d p:=rfl
theorem g2:pu i d (.move a)=mv i d a:=rfl
theorem g3:pu i d (.fieldAddr k x)=fa i d k x:=rfl
theorem g4:pu i d (.nilCheck x)=nc i d x:=rfl
theorem g5:pu i d (.indexAddr z x y)=ia i d z x y:=rfl
theorem g6:(⟨i,some d,none,.load (.load g a),[]⟩:aJ)=ld i d g a:=rfl
theorem g7:(⟨i,some d,none,.eff e,[]⟩:aJ)=ef i d e:=rfl
theorem g8:ef i d (.call f l)=ca i d f l:=rfl
theorem g9:(⟨i,none,none,.eff e,[]⟩:aJ)=en i e:=rfl
theorem ga:(⟨i,some d,some (q,b),.pure p,[]⟩:aJ)=gp i d q b p:=rfl
theorem gb:(⟨i,some d,some (q,b),.load (.load g a),[]⟩:aJ)=gl i d q b g a:=rfl
theorem gc:aT.region false xs=rg xs:=rfl
theorem gd:aG.const (.int .i64 n)=ci n:=rfl
theorem ge:aG.const (.bool true)=ct:=rfl
theorem gf:aG.const (.bool false)=cf:=rfl
end
def R(f:Func):={x:bh//my Tryz.prog f=some x}
def mY(f:Func){x:bh}(h:my Tryz.prog f=some x:=by with_unfolding_all (conv=>lhs;reduce;simp only[fs0,fs1,fs2,aU,bB,Int.reduceOfNat,Int.reduceNegSucc,g1,g2,g3,g4,g5,g6,g7,g8,g9,ga,gb,gc,gd,ge,gf])):R f:=⟨x,h⟩
@[simp,go_sem] theorem mYv{f:Func}{x:bh}{h:my Tryz.prog f=some x}:(mY f h).1=x:=by unfold mY;rfl
theorem Lib.a{P:Program}{F:Ids}(L:Lib P F){n:Nat}{fn:Func}(hf:Tryz.prog.funcs[n]?=some fn)(y:R fn)(hk:sY Tryz.prog fn y.1=true:=by kernel_rfl):Fits P n y.1:=by
 cases L with|mk h=>subst h;exact fits_of hf y.2 hk
def aT.at:aT->List Nat->aT
|.seq a _,0::p=>a.at p
|.seq _ b,_::p=>b.at p
|.cond _ a _,0::p=>a.at p
|.cond _ _ b,_::p=>b.at p
|.block _ c,_::p=>c.at p
|.loop c,_::p=>c.at p
|c,_=>c
def aT.put:aT->List Nat->aT->aT
|.seq a b,0::p,k=>.seq (a.put p k) b
|.seq a b,_::p,k=>.seq a (b.put p k)
|.cond c a b,0::p,k=>.cond c (a.put p k) b
|.cond c a b,_::p,k=>.cond c a (b.put p k)
|.block i c,_::p,k=>.block i (c.put p k)
|.loop c,_::p,k=>.loop (c.put p k)
|_,_,k=>k
def mF{α:Type}(x:α){c:α}(h:x=c:=by with_unfolding_all (conv=>lhs;reduce;simp only[fs0,fs1,fs2,aU,bB,Int.reduceOfNat,Int.reduceNegSucc,g1,g2,g3,g4,g5,g6,g7,g8,g9,ga,gb,gc,gd,ge,gf])):{c:α//x=c}:=⟨c,h⟩
@[simp,go_sem] theorem mFv{α:Type}{x c:α}{h:x=c}:(mF x h).1=c:=by unfold mF;rfl
def y8:R Tryz.f8:=mY _
def y9:R Tryz.f9:=mY _
def y10:R Tryz.f10:=mY _
def y11:R Tryz.f11:=mY _
def y12:R Tryz.f12:=mY _
def y22:R Tryz.f22:=mY _
def y23:R Tryz.f23:=mY _
def y24:R Tryz.f24:=mY _
def y25:R Tryz.f25:=mY _
def r26:R Tryz.f26:=mY _
def fd30:=mF (r26.1.body.at [1,1,1,0,1,0,1,1,1,1,1,1,1,1,1,1,1,1,1,1,1,1,1,0])
def kd30:aT:=fd30.1
def fd29:=mF (r26.1.body.at [1,1,1,1])
def kd29:aT:=fd29.1
def f26:=mF (fun k0 k1=>({r26.1 with body:=((r26.1.body.put [1,1,1,0,1,0,1,1,1,1,1,1,1,1,1,1,1,1,1,1,1,1,1,0] k0).put [1,1,1,1] k1)}:bh))
def y26:R Tryz.f26:=⟨f26.1 kd30 kd29,by kernel_rfl⟩
def y27:R Tryz.f27:=mY _
def y28:R Tryz.f28:=mY _
def y29:R Tryz.f29:=mY _
def y38:R Tryz.f38:=mY _
def r53:R Tryz.f53:=mY _
def fd27:=mF (r53.1.body.at [1,1,1,1,1,1,1,1,1])
def kd27:aT:=fd27.1
def fd28:=mF (fun k0=>((r53.1.body.at [1,1,1,1,1,1,1,1]).put [1] k0))
def kd28:aT:=fd28.1 kd27
def f53:=mF (fun k0=>({r53.1 with body:=(r53.1.body.put [1,1,1,1,1,1,1,1] k0)}:bh))
def y53:R Tryz.f53:=⟨f53.1 kd28,by kernel_rfl⟩
def y54:R Tryz.f54:=mY _
def y55:R Tryz.f55:=mY _
def y56:R Tryz.f56:=mY _
def y57:R Tryz.f57:=mY _
def y58:R Tryz.f58:=mY _
def y59:R Tryz.f59:=mY _
def y91:R Tryz.f91:=mY _
def y92:R Tryz.f92:=mY _
def r93:R Tryz.f93:=mY _
def fd11:=mF (r93.1.body.at [1,1,1,1,1,1])
def kd11:aT:=fd11.1
def fd12:=mF (fun k0=>((r93.1.body.at [1,1,1]).put [1,1,1] k0))
def kd12:aT:=fd12.1 kd11
def f93:=mF (fun k0=>({r93.1 with body:=(r93.1.body.put [1,1,1] k0)}:bh))
def y93:R Tryz.f93:=⟨f93.1 kd12,by kernel_rfl⟩
def y94:R Tryz.f94:=mY _
def r95:R Tryz.f95:=mY _
def fd1:=mF (r95.1.body.at [1,1,1,1,1,1])
def kd1:aT:=fd1.1
def f95:=mF (fun k0=>({r95.1 with body:=(r95.1.body.put [1,1,1,1,1,1] k0)}:bh))
def y95:R Tryz.f95:=⟨f95.1 kd1,by kernel_rfl⟩
def y96:R Tryz.f96:=mY _
def r97:R Tryz.f97:=mY _
def fd18:=mF (r97.1.body.at [1,0,1,0,1])
def kd18:aT:=fd18.1
def fd13:=mF (r97.1.body.at [1,1,1,0,1,0])
def kd13:aT:=fd13.1
def fd15:=mF (r97.1.body.at [1,1,1,1,0,1,0])
def kd15:aT:=fd15.1
def fd14:=mF (r97.1.body.at [1,1,1,1,1])
def kd14:aT:=fd14.1
def fd16:=mF (fun k0 k1=>(((r97.1.body.at [1,1,1,1]).put [0,1,0] k0).put [1] k1))
def kd16:aT:=fd16.1 kd15 kd14
def fd17:=mF (fun k0 k1=>(((r97.1.body.at [1,1]).put [1,0,1,0] k0).put [1,1] k1))
def kd17:aT:=fd17.1 kd13 kd16
def f97:=mF (fun k0 k1=>({r97.1 with body:=((r97.1.body.put [1,0,1,0,1] k0).put [1,1] k1)}:bh))
def y97:R Tryz.f97:=⟨f97.1 kd18 kd17,by kernel_rfl⟩
def y98:R Tryz.f98:=mY _
def y99:R Tryz.f99:=mY _
def y100:R Tryz.f100:=mY _
def y101:R Tryz.f101:=mY _
def y102:R Tryz.f102:=mY _
def zw:R Tryz.f103:=mY _
def y104:R Tryz.f104:=mY _
def y105:R Tryz.f105:=mY _
def y106:R Tryz.f106:=mY _
def y107:R Tryz.f107:=mY _
def xU:R Tryz.f108:=mY _
def y109:R Tryz.f109:=mY _
def y110:R Tryz.f110:=mY _
def y111:R Tryz.f111:=mY _
def y112:R Tryz.f112:=mY _
def y113:R Tryz.f113:=mY _
def y114:R Tryz.f114:=mY _
def y129:R Tryz.f129:=mY _
def y132:R Tryz.f132:=mY _
def y141:R Tryz.f141:=mY _
def y142:R Tryz.f142:=mY _
def r144:R Tryz.f144:=mY _
def fd31:=mF (r144.1.body.at [1,1,1,1,0,1,0,1,1,1,1,1,0])
def kd31:aT:=fd31.1
def A8:=mF (r144.1.body.at [1,1,1,1,1])
def yD:aT:=A8.1
def f144:=mF (fun k0 k1=>({r144.1 with body:=((r144.1.body.put [1,1,1,1,0,1,0,1,1,1,1,1,0] k0).put [1,1,1,1,1] k1)}:bh))
def y144:R Tryz.f144:=⟨f144.1 kd31 yD,by kernel_rfl⟩
def y147:R Tryz.f147:=mY _
def sU:R Tryz.f148:=mY _
def fd20:=mF (sU.1.body.at [1,1,0,1,0,1,0])
def kd20:aT:=fd20.1
def fd21:=mF (sU.1.body.at [1,1,0,1,0,1,1,1,0])
def kd21:aT:=fd21.1
def fd22:=mF (sU.1.body.at [1,1,0,1,0,1,1,1,1,1,0])
def kd22:aT:=fd22.1
def fd23:=mF (sU.1.body.at [1,1,0,1,0,1,1,1,1,1,1,1,0])
def kd23:aT:=fd23.1
def fd24:=mF (sU.1.body.at [1,1,1,0,1,0])
def kd24:aT:=fd24.1
def fd25:=mF (sU.1.body.at [1,1,1,1])
def kd25:aT:=fd25.1
def fd26:=mF (fun k0 k1=>(((sU.1.body.at [1,1,1]).put [0,1,0] k0).put [1] k1))
def kd26:aT:=fd26.1 kd24 kd25
def f148:=mF (fun k0 k1 k2 k3 k4=>({sU.1 with body:=(((((sU.1.body.put [1,1,0,1,0,1,0] k0).put [1,1,0,1,0,1,1,1,0] k1).put [1,1,0,1,0,1,1,1,1,1,0] k2).put [1,1,0,1,0,1,1,1,1,1,1,1,0] k3).put [1,1,1] k4)}:bh))
def y148:R Tryz.f148:=⟨f148.1 kd20 kd21 kd22 kd23 kd26,by kernel_rfl⟩
def y0:R Tryz.f149:=mY _
def fd6:=mF (y0.1.body.at [1,1,1,1,1,1,1,1])
def kd6:aT:=fd6.1
def fd7:=mF (fun k0=>((y0.1.body.at [1,1,1,1,1,1,1]).put [1] k0))
def kd7:aT:=fd7.1 kd6
def fd8:=mF (fun k0=>((y0.1.body.at [1,1,1,1,1,1]).put [1] k0))
def kd8:aT:=fd8.1 kd7
def fd9:=mF (fun k0=>((y0.1.body.at [1,1,1,1,1]).put [1] k0))
def kd9:aT:=fd9.1 kd8
def f149:=mF (fun k0=>({y0.1 with body:=(y0.1.body.put [1,1,1,1,1] k0)}:bh))
def y149:R Tryz.f149:=⟨f149.1 kd9,by kernel_rfl⟩
def y150:R Tryz.f150:=mY _
def r151:R Tryz.f151:=mY _
def fd10:=mF (r151.1.body.at [1,1,1])
def kd10:aT:=fd10.1
def f151:=mF (fun k0=>({r151.1 with body:=(r151.1.body.put [1,1,1] k0)}:bh))
def y151:R Tryz.f151:=⟨f151.1 kd10,by kernel_rfl⟩
def y152:R Tryz.f152:=mY _
def y153:R Tryz.f153:=mY _
def y154:R Tryz.f154:=mY _
def y155:R Tryz.f155:=mY _
def y156:R Tryz.f156:=mY _
def y157:R Tryz.f157:=mY _
def zu:R Tryz.f158:=mY _
def xS:R Tryz.f159:=mY _
def xR:R Tryz.f160:=mY _
def y161:R Tryz.f161:=mY _
def y162:R Tryz.f162:=mY _
def y163:R Tryz.f163:=mY _
def r164:R Tryz.f164:=mY _
def fd5:=mF (r164.1.body.at [1,1])
def kd5:aT:=fd5.1
def A9:=mF (fun k0=>({r164.1 with body:=(r164.1.body.put [1,1] k0)}:bh))
def xQ:R Tryz.f164:=⟨A9.1 kd5,by kernel_rfl⟩
def xP:R Tryz.f165:=mY _
def y166:R Tryz.f166:=mY _
def y167:R Tryz.f167:=mY _
def r168:R Tryz.f168:=mY _
def fg1:=mF (r168.1.body.at [1,1,1,1,1])
def kg1:aT:=fg1.1
def f168:=mF (fun k0=>({r168.1 with body:=(r168.1.body.put [1,1,1,1,1] k0)}:bh))
def y168:R Tryz.f168:=⟨f168.1 kg1,by kernel_rfl⟩
def y169:R Tryz.f169:=mY _
def r170:R Tryz.f170:=mY _
def fg2:=mF (r170.1.body.at [1,1,1,1,1])
def kg2:aT:=fg2.1
def fg3:=mF (fun k0=>((r170.1.body.at [1,1,1,1]).put [1] k0))
def kg3:aT:=fg3.1 kg2
def f170:=mF (fun k0=>({r170.1 with body:=(r170.1.body.put [1,1,1,1] k0)}:bh))
def y170:R Tryz.f170:=⟨f170.1 kg3,by kernel_rfl⟩
def y171:R Tryz.f171:=mY _
def y172:R Tryz.f172:=mY _
def xO:R Tryz.f177:=mY _
def y178:R Tryz.f178:=mY _
def y183:R Tryz.f183:=mY _
def y191:R Tryz.f191:=mY _
def y193:R Tryz.f193:=mY _
def y194:R Tryz.f194:=mY _
def r195:R Tryz.f195:=mY _
def fd19:=mF (r195.1.body.at [1,1,1,1,1,1])
def kd19:aT:=fd19.1
def f195:=mF (fun k0=>({r195.1 with body:=(r195.1.body.put [1,1,1,1,1,1] k0)}:bh))
def y195:R Tryz.f195:=⟨f195.1 kd19,by kernel_rfl⟩
def y196:R Tryz.f196:=mY _
def r197:R Tryz.f197:=mY _
def fd3:=mF (r197.1.body.at [1,1,1,1,1,1,1,1,1])
def kd3:aT:=fd3.1
def fd4:=mF (fun k0=>((r197.1.body.at [1,1,1,1,1,1,1,1]).put [1] k0))
def kd4:aT:=fd4.1 kd3
def f197:=mF (fun k0=>({r197.1 with body:=(r197.1.body.put [1,1,1,1,1,1,1,1] k0)}:bh))
def y197:R Tryz.f197:=⟨f197.1 kd4,by kernel_rfl⟩
def r198:R Tryz.f198:=mY _
def fd2:=mF (r198.1.body.at [1,1,1,1,1,1,1])
def kd2:aT:=fd2.1
def f198:=mF (fun k0=>({r198.1 with body:=(r198.1.body.put [1,1,1,1,1,1,1] k0)}:bh))
def y198:R Tryz.f198:=⟨f198.1 kd2,by kernel_rfl⟩
def y199:R Tryz.f199:=mY _
def y200:R Tryz.f200:=mY _
def y201:R Tryz.f201:=mY _
def y202:R Tryz.f202:=mY _
def y203:R Tryz.f203:=mY _
def y204:R Tryz.f204:=mY _
def y205:R Tryz.f205:=mY _
def y206:R Tryz.f206:=mY _
def y207:R Tryz.f207:=mY _
def y208:R Tryz.f208:=mY _
def y209:R Tryz.f209:=mY _
def y210:R Tryz.f210:=mY _
def y211:R Tryz.f211:=mY _
def y212:R Tryz.f212:=mY _
def y227:R Tryz.f227:=mY _
def y228:R Tryz.f228:=mY _
def y229:R Tryz.f229:=mY _
def y230:R Tryz.f230:=mY _
def y231:R Tryz.f231:=mY _
def y232:R Tryz.f232:=mY _
def y233:R Tryz.f233:=mY _
def y234:R Tryz.f234:=mY _
def y235:R Tryz.f235:=mY _
def y238:R Tryz.f238:=mY _
def y239:R Tryz.f239:=mY _
def y240:R Tryz.f240:=mY _
def y250:R Tryz.f250:=mY _
def y251:R Tryz.f251:=mY _
def y252:R Tryz.f252:=mY _
def y259:R Tryz.f259:=mY _
def y260:R Tryz.f260:=mY _
def y280:R Tryz.f280:=mY _
theorem Lib.m_parts{P:Program}{F:Ids}(L:Lib P F):ux P 36 "loop.example/handfast/impl.parts"=some 280:=by
 cases L with|mk h=>subst h;kernel_rfl
theorem Lib.g_parts{P:Program}{F:Ids}(L:Lib P F):iz P 280=true:=by
 cases L with|mk h=>subst h;kernel_rfl
def one(b:Nat)(o:cz):aj:=aj.empty.set b o
theorem bD(b:Nat)(o:cz):(one b o).get b=some o:=by simp[one]
theorem fV{b c:Nat}(o:cz)(h:c≠b):(one b o).get c=none:=by simp[one,aK,h]
theorem gI(b:Nat)(o o':cz):(one b o).set b o'=one b o':=by
 apply aj.ext;intro c;simp only[one,aK];split<;>rfl
theorem gK{H:aj}{b:Nat}{o:cz}(h:H.get b=some o):(one b o).sub H:=by
 intro c q hc
 by_cases e:c=b
 ·subst e;rw[bD]at hc;rw[h,hc]
 ·rw[fV _ e]at hc;simp at hc
theorem ub{H:aj}{b:Nat}{o o':cz}:H.swap (one b o) (one b o')=H.set b o':=by
 apply aj.ext;intro c
 rw[bz,aK]
 by_cases e:c=b
 ·subst e;simp[bD]
 ·simp[fV _ e,e]
def RdO(bs:List UInt8)(p:Int):cz:=.cells [.sl 1 none (bs.map fun b=>[.lit (.int .u8 b.toNat)]),I p]
theorem pK{x n:Int}(hx:0<=x)(hn:0<n):0<=x.tmod n/\x.tmod n<n/\x.tmod n<=x:=by
 rw[Int.tmod_eq_emod_of_nonneg hx]
 refine⟨Int.emod_nonneg _ (by omega),Int.emod_lt_of_pos _ hn,?_⟩
 have h1:=Int.mul_ediv_add_emod x n
 have h2:0<=n*(x / n):=Int.mul_nonneg (by omega) (Int.ediv_nonneg hx (by omega))
 omega
theorem xl{x n:Int}(hx:0<=x)(hn:0<n):0<=x.tdiv n/\x.tdiv n<=x:=by
 rw[Int.tdiv_eq_ediv_of_nonneg hx]
 exact⟨Int.ediv_nonneg hx (by omega),Int.ediv_le_self _ hx⟩
theorem xor_in{a b:Int}(ha:0<=a)(ha':a<9223372036854775808)(hb:0<=b)(hb':b<9223372036854775808):
 0<=(((BitVec.ofInt 64 a^^^BitVec.ofInt 64 b).toNat:Nat):Int)/\(((BitVec.ofInt 64 a^^^BitVec.ofInt 64 b).toNat:Nat):Int)<9223372036854775808:=by
 obtain⟨n,rfl⟩:=Int.eq_ofNat_of_zero_le ha
 obtain⟨m,rfl⟩:=Int.eq_ofNat_of_zero_le hb
 refine⟨Int.natCast_nonneg _,?_⟩
 rw[BitVec.toNat_xor]
 have h1:(BitVec.ofInt 64 (n:Int)).toNat=n:=by rw[BitVec.toNat_ofInt];omega
 have h2:(BitVec.ofInt 64 (m:Int)).toNat=m:=by rw[BitVec.toNat_ofInt];omega
 rw[h1,h2]
 have:n^^^m<2^63:=Nat.xor_lt_two_pow (by omega) (by omega)
 omega
section
variable {P:Program}{F:Ids}
theorem c_pick(L:Lib P F)(r:Nat)(bs:List UInt8)(p n:Int)(hb:bs.length<=2000)(hp:0<=p)(hp':p<=2^50):
 ACalls P 25 [.ptr r 0,I n] (one r (RdO bs p)) (fun q H'=>∃k,q=I k/\0<=k/\(k<n\/k=0)/\H'=one r (RdO bs (p+1))):=by
 refine(L.a Tryz.func25 y25) (by simp[y25]) ?_
 have w1:=aP (n:=p+1) (by omega) (by omega)
 have w2:=aP (n:=p+1 - 1) (by omega) (by omega)
 have hget:∀{k:Nat} (h:k<bs.length),(bs.map fun b=>[AC.lit (.int .u8 (b.toNat:Int))])[k]?=some [.lit (.int .u8 (bs[k].toNat:Int))]:=by
  intro k h;simp[h]
 by_cases hn:n<1
 ·simp only[y25,go_sem,rE,bD,gI,RdO,w1,rA,rL,aA,ge_iff_le,hn]
  exact gA ⟨0,rfl,eA _,.inr rfl,rfl⟩
 ·by_cases hb0:bs.length=0
  ·simp only[y25,go_sem,rE,bD,gI,RdO,w1,rA,rL,aA,ge_iff_le,hn,ao,hb0,dg,beq_self_eq_true]
   exact gA ⟨0,rfl,eA _,.inr rfl,rfl⟩
  ·have hb0':((bs.length:Int)==0)=false:=by simpa using hb0
   by_cases hk:p+1 - 1<bs.length
   ·have hk':(p+1 - 1).toNat<bs.length:=by omega
    have hge:0<=p+1 - 1:=by omega
    have hlt:bs[(p+1 - 1).toNat].toNat<256:=UInt8.toNat_lt _
    have w3:=aP (n:=(bs[(p+1 - 1).toNat].toNat:Int)) (by omega) (by omega)
    have ht:=pK (x:=(bs[(p+1 - 1).toNat].toNat:Int)) (n:=n) (by omega) (by omega)
    have w4:=aP (n:=(bs[(p+1 - 1).toNat].toNat:Int).tmod n) (by omega) (by omega)
    have hn0:¬n=0:=by omega
    simp only[y25,go_sem,rE,bD,gI,RdO,w1,w2,rA,rL,aA,ge_iff_le,hn,ao,hb0',hk,hge,hget hk',w3,w4,hn0]
    exact gA ⟨_,rfl,ht.1,.inl ht.2.1,rfl⟩
   ·have hl0:(0:Int)<bs.length:=by omega
    have t1:=pK (x:=p+1 - 1) (n:=bs.length) (by omega) hl0
    have w3:=aP (n:=(p+1 - 1).tmod bs.length) (by omega) (by omega)
    have w4:=aP (n:=(p+1 - 1)*7) (by omega) (by omega)
    have w5:=aP (n:=(p+1 - 1)*7+3) (by omega) (by omega)
    have t2:=pK (x:=(p+1 - 1)*7+3) (n:=bs.length) (by omega) hl0
    have w6:=aP (n:=((p+1 - 1)*7+3).tmod bs.length) (by omega) (by omega)
    have w7:=aP (n:=(p+1 - 1)*29) (by omega) (by omega)
    have t3:=xl (x:=p+1 - 1) (n:=bs.length) (by omega) hl0
    have w8:=aP (n:=(p+1 - 1).tdiv bs.length) (by omega) (by omega)
    have w9:=aP (n:=(p+1 - 1).tdiv bs.length*53) (by omega) (by omega)
    generalize e1:(p+1 - 1).tmod bs.length=m1 at*
    generalize e2:((p+1 - 1)*7+3).tmod bs.length=m2 at*
    generalize e3:(p+1 - 1).tdiv bs.length=m3 at*
    have hm1:m1.toNat<bs.length:=by omega
    have hm2:m2.toNat<bs.length:=by omega
    have hb1:bs[m1.toNat].toNat<256:=UInt8.toNat_lt _
    have hb2:bs[m2.toNat].toNat<256:=UInt8.toNat_lt _
    have g1:=hget hm1
    have g2:=hget hm2
    generalize bs[m1.toNat].toNat=c1 at*
    generalize bs[m2.toNat].toNat=c2 at*
    have v1:=aP (n:=(c1:Int)) (by omega) (by omega)
    have v2:=aP (n:=(c2:Int)) (by omega) (by omega)
    have v3:=aP (n:=(c1:Int)*131) (by omega) (by omega)
    have v4:=aP (n:=(c2:Int)*1117) (by omega) (by omega)
    have v5:=aP (n:=(c1:Int)*131+c2*1117) (by omega) (by omega)
    have v6:=aP (n:=(c1:Int)*131+c2*1117+(p+1 - 1)*29) (by omega) (by omega)
    have v7:=aP (n:=(c1:Int)*131+c2*1117+(p+1 - 1)*29+m3*53) (by omega) (by omega)
    have hx:0<=(c1:Int)*131+c2*1117+(p+1 - 1)*29+m3*53:=by omega
    have hx':(c1:Int)*131+c2*1117+(p+1 - 1)*29+m3*53<2^62:=by omega
    have hlz:¬(bs.length:Int)=0:=by omega
    have hn0:¬n=0:=by omega
    have h64:¬(64:Int)=0:=by decide
    generalize ex:(c1:Int)*131+c2*1117+(p+1 - 1)*29+m3*53=x at*
    have t4:=xl (x:=x) (n:=64) hx (by omega)
    have u1:=aP (n:=x.tdiv 64) (by omega) (by omega)
    have t5:=xor_in (a:=x) (b:=x.tdiv 64) (by omega) (by omega) (by omega) (by omega)
    have u2:=aP (n:=(((BitVec.ofInt 64 x^^^BitVec.ofInt 64 (x.tdiv 64)).toNat:Nat):Int)) (by omega) (by omega)
    have u2':IntKind.i64.wrap (((BitVec.ofInt IntKind.i64.bits x^^^BitVec.ofInt IntKind.i64.bits (x.tdiv 64)).toNat:Nat):Int)=(((BitVec.ofInt 64 x^^^BitVec.ofInt 64 (x.tdiv 64)).toNat:Nat):Int):=u2
    have t6:=pK (x:=(((BitVec.ofInt 64 x^^^BitVec.ofInt 64 (x.tdiv 64)).toNat:Nat):Int)) (n:=n) (by omega) (by omega)
    have u3:=aP (n:=(((BitVec.ofInt 64 x^^^BitVec.ofInt 64 (x.tdiv 64)).toNat:Int)).tmod n) (by omega) (by omega)
    simp only[y25,go_sem,rE,bD,gI,RdO,w1,w2,w3,w4,w5,w6,w7,w8,w9,rA,rL,aA,ge_iff_le,hn,ao,hb0',hk,g1,g2,e1,e2,e3,t1,t2,v1,v2,v3,v4,v5,v6,v7,hlz,ex,h64,u1,u2',hn0,u3]
    rw[<-u3,<-u2]at t6
    exact gA ⟨_,rfl,t6.1,.inl t6.2.1,rfl⟩
theorem oH{dr:Bool}{K:Env->aj->Prop}{xs:List aJ}{E:Env}{H:aj}{l:Lds}{f:Fps}{i:Nat}{g:FuncId}{args:List aG}{d:Option Nat}{inc:List Nat}{zas:List AC}{r:Nat}{o:cz}
{R:AC->aj->Prop}(hc:ACalls P g zas (one r o) fun q H'=>∃o',R q (one r o')/\H'=one r o')(ha:args.map (aG.ev E)=zas)(hr:H.get r=some o)(hlive:dr=true->∃q o',R q (one r o'))(hchk:dQ inc l (·=r))
(h:∀q o',R q (one r o')->bp P dr K xs (E.put d q) (H.set r o') l ((i,fun b=>b=r\/H.get b=none)::f)):
 bp P dr K (⟨i,d,none,.eff (.call g args),inc⟩::xs) E H l f:=by
 have hfp:(fun b=>(one r o).get b≠none)=fun b=>b=r:=by
  funext b;apply propext
  by_cases e:b=r
  ·subst e;simp[bD]
  ·simp[fV _ e,e]
 refine du hc ha (gK hr) (fun hd N=>?_) (by rw[hfp];exact hchk) ?_
 ·obtain⟨q,o',hq⟩:=hlive hd
  refine⟨q,one r o',⟨o',hq,rfl⟩,fun b hb hn=>?_⟩
  by_cases e:b=r
  ·subst e;rw[bD]at hn;simp at hn
  ·rw[fV _ e]at hb;simp at hb
 ·rintro q H' ⟨o',hq,rfl⟩ hd
  rw[ub]
  have:=h q o' hq
  have hfp':(fun b=>(one r o).get b≠none\/H.get b=none)=fun b=>b=r\/H.get b=none:=by
   funext b;rw[congrFun hfp b]
  rw[hfp'];exact this
def RdR(r:Nat)(bs:List UInt8)(p:Int)(c:Int)(Q:AC->Prop)(q:AC)(H':aj):Prop:=∃p',p<=p'/\p'<=p+c/\H'=one r (RdO bs p')/\Q q
theorem bw{dr:Bool}{K:Env->aj->Prop}{xs:List aJ}{E:Env}{H:aj}{l:Lds}{f:Fps}{i:Nat}{g:FuncId}{args:List aG}{d:Option Nat}{inc:List Nat}{zas:List AC}{r:Nat}{bs:List UInt8}{p c:Int}
{Q:AC->Prop}(hc:ACalls P g zas (one r (RdO bs p)) (RdR r bs p c Q))(ha:args.map (aG.ev E)=zas)(hr:H.get r=some (RdO bs p))(hlive:dr=true->0<=c/\∃q,Q q)(hchk:dQ inc l (·=r))
(h:∀q p',p<=p'->p'<=p+c->Q q->bp P dr K xs (E.put d q) (H.set r (RdO bs p')) l ((i,fun b=>b=r\/H.get b=none)::f)):
 bp P dr K (⟨i,d,none,.eff (.call g args),inc⟩::xs) E H l f:=by
 refine oH (r:=r) (o:=RdO bs p) (R:=fun q H'=>∃p',p<=p'/\p'<=p+c/\H'=one r (RdO bs p')/\Q q) (hc.mono ?_) ha hr (fun hd=>?_) hchk ?_
 ·rintro q H' ⟨p',h1,h2,rfl,h4⟩
  exact⟨_,⟨p',h1,h2,rfl,h4⟩,rfl⟩
 ·obtain⟨h0,q,hq⟩:=hlive hd
  exact⟨q,RdO bs p,p,eA _,by omega,rfl,hq⟩
 ·rintro q o' ⟨p',h1,h2,h3,h4⟩
  have:o'=RdO bs p':=by
   have:=congrArg (fun H=>aj.get H r) h3
   simpa[bD]using this
  subst this
  exact h q p' h1 h2 h4
theorem cW(L:Lib P F)(r:Nat)(bs:List UInt8)(p n:Int)(hb:bs.length<=2000)(hp:0<=p)(hp':p<=2^50):
 ACalls P 25 [.ptr r 0,I n] (one r (RdO bs p)) (RdR r bs p 1 fun q=>∃k,q=I k/\0<=k/\(k<n\/k=0)):=
 (c_pick L r bs p n hb hp hp').mono fun q H' ⟨k,h1,h2,h3,h4⟩=>⟨p+1,by omega,eA _,h4,k,h1,h2,h3⟩
def Ty.le:Nat->Ty->Prop
 |0,.mk ks=>ks=[]
 |d+1,.mk ks=>ks.length<=3/\∀k∈ks,Ty.le d k
theorem jM:∀d,Ty.le d (.mk [])
 |0=>rfl
 |d+1=>by simp[Ty.le]
def eN:Nat->Int
 |0=>0
 |d+1=>1+2*eN d
theorem kZ:∀d,0<=eN d
 |0=>eA _
 |d+1=>by have:=kZ d;simp only[eN];omega
theorem mq{H:aj}{b:Nat}{o:cz}(h:H.get b=none):H.sub (H.set b o):=by
 intro c q hc
 rw[ae _ _ (by rintro rfl;rw[h]at hc;simp at hc)];exact hc
theorem eX:Le (.agg [NIL]) (.agg (Ty.mk []).enc):=Le.agg (show LeC [NIL] [.sl 1 none []]from⟨⟨.nil 1,rfl⟩,trivial⟩)
theorem le_ty(tok:Option (Nat×Nat×Nat))(ks:List Ty):Le (.agg [.sl 1 tok (Ty.encs ks)]) (.agg (Ty.mk ks).enc):=
 Le.agg (show LeC [.sl 1 tok (Ty.encs ks)] [.sl 1 none (Ty.encs ks)]from⟨⟨.tok _ _ _,rfl⟩,trivial⟩)
theorem jK(L:Lib P F)(r:Nat)(bs:List UInt8)(hb:bs.length<=2000):∀(d:Nat) (dp:Int),dp<=d->d<=100->∀p:Int,0<=p->p+eN d<=2^50->
 ACalls P 38 [.ptr r 0,I dp] (one r (RdO bs p)) (RdR r bs p (eN d) fun q=>∃t:Ty,q=.agg t.enc/\t.le d):=by
 intro d
 induction d with
 |zero=>
  intro dp hd hd' p hp hp'
  have h2:dp<2:=by omega
  refine(L.a Tryz.func38 y38) (by simp[y38]) ?_
  simp only[y38,go_sem,rE]
  intro b hb'
  have hrb:r≠b:=by rintro rfl;rw[bD]at hb';simp at hb'
  simp only[go_sem,rE,h2,aA,rA]
  exact bP (off:=0) (rfl) (ai _ _ _) rfl eX (mq hb')
   ⟨p,eA _,by simp[eN],rfl,.mk [],rfl,rfl⟩
 |succ d ih=>
  intro dp hd hd' p hp hp'
  have tn:=kZ d
  simp only[eN]at hp'
  refine(L.a Tryz.func38 y38) (by simp[y38]) ?_
  simp only[y38,go_sem,rE]
  intro b hb'
  have hrb:r≠b:=by rintro rfl;rw[bD]at hb';simp at hb'
  have hbr:b≠r:=Ne.symm hrb
  have leaf:∀(E:Env) p',p<=p'->p'<=p+eN (d+1)->E 4=.ptr b 0->
   bh.post [jq.cell 4 (some 1)] (RdR r bs p (eN (d+1)) fun q=>∃t:Ty,q=.agg t.enc/\t.le (d+1)) .ret E ((one r (RdO bs p')).set b (.cells [AC.lit (.slice none 0 0)])):=by
   intro E p' h1 h2 hE
   exact bP hE (ai _ _ _) rfl eX (mq (fV _ hbr)) ⟨p',h1,h2,rfl,.mk [],rfl,jM _⟩
  by_cases h2:dp<2
  ·simp only[go_sem,rE,h2,aA,rA]
   exact leaf _ p (eA _) (by simp only[eN];omega) (rfl)
  ·simp only[go_sem,rE,h2]
   refine bw (cW L r bs p 3 hb hp (by omega)) (rfl) (by simp only[go_sem,hrb,bD]) (by simp) trivial ?_
   rintro q p1 hp1 hp1' ⟨k,rfl,hk0,hk3⟩
   simp only[go_sem,rE]
   rw[fg hbr,gI]
   refine aH (fun hgt=>?_) (fun hle=>?_)
   ·simp only[go_sem,rE,aA,rA]
    exact leaf _ p1 hp1 (by simp only[eN];omega) (rfl)
   ·have w1:=aP (n:=dp - 1) (by omega) (by omega)
    simp only[go_sem,rE,w1]
    refine bw (ih (dp - 1) (by omega) (by omega) p1 (by omega) (by omega)) (rfl) (by simp only[go_sem,hrb,bD]) (by simp) trivial ?_
    rintro q p2 hp2 hp2' ⟨t1,rfl,ht1⟩
    rw[fg hbr,gI]
    simp only[go_sem,rE,w1]
    refine bw (ih (dp - 1) (by omega) (by omega) p2 (by omega) (by omega)) (rfl) (by simp only[go_sem,hrb,bD]) (by simp) trivial ?_
    rintro q p3 hp3 hp3' ⟨t2,rfl,ht2⟩
    rw[fg hbr,gI]
    obtain⟨k1⟩:=t1
    obtain⟨k2⟩:=t2
    simp only[go_sem,rE,Ty.enc,ax,av,ay,rA,rL,aA,Nat.reduceMul]
    intro b2 hb2
    have h2b:b≠b2:=by rintro rfl;simp at hb2
    have h2r:r≠b2:=by rintro rfl;rw[ae _ _ hrb,bD]at hb2;simp at hb2
    simp only[go_sem,h2b,bg,aA,rA]
    refine bP (off:=0) (rfl) (ai _ _ _) rfl (le_ty (some (b2,2,2)) [.mk k1,.mk k2])
     (gK (o:=RdO bs p3) (by rw[ae _ _ hrb,ae _ _ h2r,ae _ _ hrb,bD]))
     ⟨p3,by omega,by simp only[eN];omega,rfl,_,rfl,?_⟩
    simp only[Ty.le,aR,bM,bi,cF,or_false,forall_eq_or_imp,forall_eq]
    exact⟨by omega,ht1,ht2⟩
end
noncomputable instance:DecidableEq Ty:=fun _ _=>Classical.propDecidable _
noncomputable instance:DecidableEq Pl:=fun _ _=>Classical.propDecidable _
theorem strEq(a b:ByteArray):(a.toList==b.toList)=decide (a=b):=by
 rw[aX,beq_iff_eq,decide_eq_true_eq,ByteArray.toList_eq,ByteArray.toList_eq]
 exact⟨fun h=>ByteArray.ext (eW.mp h),fun h=>by rw[h]⟩
@[go_sem] theorem strBin_eql(a b:ByteArray):nu .eql a b=some (B (decide (a=b))):=by simp only[nu,strEq]
@[go_sem] theorem strBin_neq(a b:ByteArray):nu .neq a b=some (B (!decide (a=b))):=by simp only[nu,strEq]
theorem gv{P:Program}{dr:Bool}{K:Env->aj->Prop}{xs:List aJ}{E:Env}{H:aj}{l:Lds}{f:Fps}{i:Nat}{g:FuncId}{args:List aG}{d:Option Nat}{inc:List Nat}{zas as':List AC}{r:AC}
(hc:cI P g zas r)(ha:args.map (aG.ev E)=as')(hl:LeA as' zas)
(h:bp P dr K xs (E.put d r) H l ((i,fun b=>False\/H.get b=none)::f)):bp P dr K (⟨i,d,none,.eff (.call g args),inc⟩::xs) E H l f:=
 am (hc.weaken hl (fun b=>by simp)) ha h
section
variable {P:Program}{F:Ids}
theorem qW(L:Lib P F)(n lo hi:Int):cI P 178 [I n,I lo,I hi] (B (decide (lo<=n/\n<=hi))):=by
 refine(L.a Tryz.func178 y178) (by simp[y178]) ?_
 by_cases h1:lo<=n
 ·simp only[y178,go_sem,rE,rA,ge_iff_le,h1]
  exact gA ⟨rfl,rfl⟩
 ·simp only[y178,go_sem,rE,rA,ge_iff_le,h1]
  exact gA ⟨by simp[iq,h1],rfl⟩
theorem jb{D:Nat}{ks:List Ty}(h:Ty.le D (.mk ks)):ks.length<=3/\∀k∈ks,∃D',D=D'+1/\k.le D':=by
 cases D with
 |zero=>simp only[Ty.le]at h;subst h;simp
 |succ D=>exact⟨h.1,fun k hk=>⟨D,rfl,h.2 k hk⟩⟩
theorem Ty.enc_eq(t:Ty):t.enc=[.sl 1 none (Ty.encs t.kids)]:=by cases t;rfl
theorem kL{ks:List Ty}{k:Nat}(h:k<ks.length):(Ty.encs ks)[k]?=some (ks[k]).enc:=by simp[Ty.encs_map,h]
@[go_sem] theorem encs_len{ks:List Ty}:(Ty.encs ks).length=ks.length:=by simp[Ty.encs_map]
theorem ov(L:Lib P F):∀(D:Nat) (a b:Ty),a.le D->cI P 156 [.agg a.enc,.agg b.enc] (B (decide (a=b))):=by
 intro D
 induction D using Nat.strongRecOn with
 |_ D ih=>
  rintro⟨zas⟩ ⟨bs⟩ ha
  obtain⟨hl,hk⟩:=jb ha
  refine(L.a Tryz.func156 y156) (by simp[y156]) ?_
  simp only[y156,go_sem,rE,rA,Ty.enc]
  intro b1 hb1 b2 hb2
  have hne:b1≠b2:=by rintro rfl;simp at hb2
  simp only[go_sem,rE,rA,hne]
  by_cases hlen:zas.length=bs.length
  ·have hlen':((zas.length:Int) !=bs.length)=false:=by simp[hlen]
   simp only[go_sem,rE,rA,hlen']
   refine aV zas.length (fun k E H=>H=(aj.empty.set b1 (.cells [.sl 1 none (Ty.encs zas)])).set b2 (.cells [.sl 1 none (Ty.encs bs)])/\E 2=.ptr b1 0/\E 3=.ptr b2 0/\E 5=I k/\
    ∀i (h:i<zas.length) (h':i<bs.length),i<k->zas[i]=bs[i]) (by simp[go_sem]) ?_
   rintro k E H hk' ⟨rfl,h2,h3,h5,hall⟩
   simp only[go_sem,rE,rA,h2,h3,h5,hne]
   refine aH (fun hlt=>?_) (fun hge=>?_)
   ·have hlt1:k<zas.length:=by omega
    have hlt2:k<bs.length:=by omega
    have w1:=aP (n:=(k:Int)+1) (by omega) (by omega)
    obtain⟨D',rfl,hD'⟩:=hk _ (az hlt1)
    have hg1:=kL hlt1
    have hg2:=kL hlt2
    have hih:=ih D' (by omega) zas[k] bs[k] hD'
    rw[Ty.enc_eq]at hg1 hg2
    rw[Ty.enc_eq,Ty.enc_eq bs[k]]at hih
    simp only[go_sem,rE,rA,h2,h3,h5,hne,hg1,hg2]
    refine am hih (rfl) ?_
    simp only[go_sem,rE,rA,h2,h3,h5,hne]
    by_cases heq:zas[k]=bs[k]
    ·simp only[heq,go_sem,rE,rA,h2,h3,h5,hne,w1]
     refine⟨hlt1,_,aj.sub_refl _,rfl,by simp,fun i h h' hi=>?_⟩
     by_cases hik:i=k
     ·subst hik;exact heq
     ·exact hall i h h' (by omega)
    ·simp only[heq,go_sem,rE,rA,h2,h3,h5,hne,w1]
     refine ak (.refl _) (aj.sub_empty _) ⟨?_,rfl⟩
     have:¬Ty.mk zas=.mk bs:=by rintro h;injection h with h;subst h;exact heq rfl
     simp only[go_sem,this]
   ·simp only[go_sem,rE,rA]
    refine ak (.refl _) (aj.sub_empty _) ⟨?_,rfl⟩
    have:Ty.mk zas=.mk bs:=by
     congr 1
     exact List.ext_getElem hlen fun i h h'=>hall i h h' (by omega)
    simp only[go_sem,this]
  ·have hlen':((zas.length:Int) !=bs.length)=true:=bne_iff_ne.2 (by omega)
   simp only[go_sem,rE,rA,hlen']
   refine ak (.refl _) (aj.sub_empty _) ⟨?_,rfl⟩
   have:¬Ty.mk zas=.mk bs:=by rintro h;injection h with h;exact hlen (by rw[h])
   simp only[go_sem,this]
def Ty.deepB:Nat->Ty->Bool
 |0,_=>false
 |n+1,.mk ks=>(decide (ks.length=0)||decide (ks.length=2))&&ks.all (Ty.deepB n)
theorem AV(L:Lib P F):∀(n:Nat) (t:Ty),n<=100->cI P 177 [.agg t.enc,I n] (B (t.deepB n)):=by
 intro n
 induction n with
 |zero=>
  rintro⟨ks⟩ -
  refine(L.a Tryz.func177 xO) (by simp[xO]) ?_
  simp only[xO,go_sem,rE,Ty.enc]
  intro b1 hb1
  simp only[go_sem,rE,dg,show(0:Int)<1 from by decide]
  exact ak (.refl _) (aj.sub_empty _) ⟨by simp only[go_sem,Ty.deepB],rfl⟩
 |succ n ih=>
  rintro⟨ks⟩ hn
  refine(L.a Tryz.func177 xO) (by simp[xO]) ?_
  simp only[xO,go_sem,rE,Ty.enc]
  intro b1 hb1
  have h1:¬((n+1:Nat):Int)<1:=by omega
  simp only[go_sem,rE,h1]
  by_cases hl0:ks.length=0
  ·have hks:ks=[]:=bn hl0
   subst hks
   simp only[go_sem,rE,dg,bne_self_eq_false]
   refine aV 0 (fun k E H=>E 2=.ptr b1 0/\H.get b1=some (.cells [.sl 1 none []])/\E 5=I k) (by simp[go_sem,Ty.encs]) ?_
   rintro k E H hk ⟨h2,hg,h5⟩
   have:k=0:=by omega
   subst this
   simp only[go_sem,rE,h2,hg,h5,dg,Int.lt_irrefl]
   exact ak (.refl _) (aj.sub_empty _) ⟨by simp[iq,Ty.deepB],rfl⟩
  ·have hb0:((ks.length:Int) !=0)=true:=bne_iff_ne.2 (by omega)
   by_cases hl2:ks.length=2
   ·have hb2:((ks.length:Int) !=2)=false:=by simp[hl2]
    simp only[go_sem,rE,hb0,hb2]
    refine aV ks.length (fun k E H=>E 1=I (n+1:Nat)/\E 2=.ptr b1 0/\H.get b1=some (.cells [.sl 1 none (Ty.encs ks)])/\E 5=I k/\∀i (h:i<ks.length),i<k->(ks[i]).deepB n=true) (by simp[go_sem]) ?_
    rintro k E H hk ⟨h1',h2,hg,h5,hall⟩
    simp only[go_sem,rE,h2,hg,h5]
    refine aH (fun hlt=>?_) (fun hge=>?_)
    ·have hlt1:k<ks.length:=by omega
     have w1:=aP (n:=(k:Int)+1) (by omega) (by omega)
     have w2:IntKind.i64.wrap (((n+1:Nat):Int) - 1)=n:=by rw[aP (by omega) (by omega)];omega
     have hih:=ih ks[k] (by omega)
     have hg1:=kL hlt1
     rw[Ty.enc_eq]at hg1 hih
     simp only[go_sem,rE,rA,h1',h2,hg,h5,hg1,w2]
     refine am hih (rfl) ?_
     simp only[go_sem,rE,h1',h2,hg,h5]
     refine kV (fun hd=>?_) (fun hd=>?_)
     ·simp only[dF]at hd
      simp only[go_sem,rE]
      refine ak (.refl _) (aj.sub_empty _) ⟨?_,rfl⟩
      have:Ty.deepB (n+1) (.mk ks)=false:=by
       simp only[Ty.deepB,cH,dj]
       exact .inr ⟨ks[k],az _,by simp[hd]⟩
      simp only[go_sem,this]
     ·simp only[Bool.not_eq_false']at hd
      simp only[go_sem,rE,h1',h2,hg,h5,w1]
      refine⟨hlt1,H,aj.sub_refl _,hg,by simp,fun i h hi=>?_⟩
      by_cases hik:i=k
      ·subst hik;exact hd
      ·exact hall i h (by omega)
    ·simp only[go_sem,rE]
     refine ak (.refl _) (aj.sub_empty _) ⟨?_,rfl⟩
     have:Ty.deepB (n+1) (.mk ks)=true:=by
      simp only[Ty.deepB,hl2,aw,aS]
      refine⟨by simp,fun x hx=>?_⟩
      obtain⟨i,hi,rfl⟩:=bk.1 hx
      exact hall i hi (by omega)
     simp only[go_sem,this]
   ·have hb2:((ks.length:Int) !=2)=true:=bne_iff_ne.2 (by omega)
    simp only[go_sem,rE,hb0,hb2]
    exact ak (.refl _) (aj.sub_empty _) ⟨by simp[iq,Ty.deepB,hl0,hl2],rfl⟩
def Ty.okB(t:Ty):Bool:=t.deepB 4
theorem ox(L:Lib P F)(t:Ty):cI P 129 [.agg t.enc] (B t.okB):=by
 refine(L.a Tryz.func129 y129) (by simp[y129]) ?_
 have h:=AV L 4 t (by omega)
 rw[Ty.enc_eq]at h⊢
 simp only[y129,go_sem,rE]
 intro b1 hb1
 refine am h (rfl) ?_
 simp only[go_sem,rE]
 exact ak (.refl _) (aj.sub_empty _) ⟨by simp only[go_sem,Ty.okB],rfl⟩
theorem yY(L:Lib P F)(ns:List Int)(n:Int)(hl:ns.length<=2^40):cI P 229 [.sl 1 none (ns.map fun i=>[I i]),I n] (B (ns.contains n)):=by
 refine(L.a Tryz.func229 y229) (by simp[y229]) ?_
 simp only[y229,go_sem,rE]
 refine aV ns.length (fun k E H=>E 0=.sl 1 none (ns.map fun i=>[I i])/\E 1=I n/\E 5=I k/\∀i (h:i<ns.length),i<k->ns[i]≠n) (by simp[go_sem]) ?_
 rintro k E H hk ⟨h0,h1,h5,hall⟩
 simp only[go_sem,rE,h0,h1,h5,ao]
 refine aH (fun hlt=>?_) (fun hge=>?_)
 ·have hlt1:k<ns.length:=by omega
  have w1:=aP (n:=(k:Int)+1) (by omega) (by omega)
  have hg:(ns.map fun i=>[I i])[k]?=some [I ns[k]]:=by simp[hlt1]
  simp only[go_sem,rE,h0,h1,h5,hg]
  refine kV (fun hd=>?_) (fun hd=>?_)
  ·simp only[go_sem,rE]
   refine ak (.refl _) (aj.sub_empty _) ⟨?_,rfl⟩
   have:ns.contains n=true:=by rw[List.contains_iff_mem];rw[beq_iff_eq]at hd;rw[<-hd];exact az _
   simp only[go_sem,this]
  ·simp only[go_sem,rE,h0,h1,h5,w1]
   refine⟨hlt1,H,aj.sub_refl _,by simp,fun i h hi=>?_⟩
   by_cases hik:i=k
   ·subst hik;simpa using hd
   ·exact hall i h (by omega)
 ·simp only[go_sem,rE]
  refine ak (.refl _) (aj.sub_empty _) ⟨?_,rfl⟩
  have:ns.contains n=false:=by
   rw[<-Bool.not_eq_true,List.contains_iff_mem]
   intro hm
   obtain⟨i,hi,he⟩:=bk.1 hm
   exact hall i hi (by omega) he
  simp only[go_sem,this]
theorem yX(L:Lib P F)(lent:Bool)(es:List (List AC))(sz:Nat):cI P 227 [B lent,.sl sz none es] (.sl sz none (if lent then es else [])):=by
 refine(L.a Tryz.func227 y227) (by simp[y227]) ?_
 cases lent
 ·simp only[y227,go_sem,rE]
  exact ak (by simpa[iq]using Le.nil sz) (aj.sub_empty _) ⟨rfl,rfl⟩
 ·simp only[y227,go_sem,rE]
  exact ak (by simpa[iq]using Le.refl _) (aj.sub_empty _) ⟨rfl,rfl⟩
def Pl.meet(a b:Pl):Bool:=decide (a.name=b.name)&&(a.path.zip b.path).all fun p=>decide (p.1=p.2)
theorem iJ{p:List Int}{k:Nat}(h:k<p.length):(p.map fun i=>[I i])[k]?=some [I p[k]]:=by simp[h]
theorem vd(L:Lib P F)(a b:Pl)(ha:a.path.length<=2^40):cI P 201 [.agg a.enc,.agg b.enc] (B (a.meet b)):=by
 refine(L.a Tryz.func201 y201) (by simp[y201]) ?_
 simp only[y201,go_sem,rE,Pl.enc,au]
 intro b1 hb1 b2 hb2
 have hne:b1≠b2:=by rintro rfl;simp at hb2
 simp only[go_sem,rE,rA,hne]
 by_cases hn:a.name=b.name
 ·simp only[go_sem,rE,hn]
  refine aV a.path.length (fun k E H=>H.get b1=some (.cells [S b.name,.sl 1 none (a.path.map fun i=>[I i])])/\H.get b2=some (.cells [S b.name,.sl 1 none (b.path.map fun i=>[I i])])/\E 2=.ptr b1 0/\E 3=.ptr b2 0/\E 5=I k/\
   ∀i (h:i<a.path.length) (h':i<b.path.length),i<k->a.path[i]=b.path[i]) (by simp[go_sem,hne]) ?_
  rintro k E H hk ⟨g1,g2,h2,h3,h5,hall⟩
  have fin:a.path.length<=k\/b.path.length<=k->Pl.meet a b=true:=by
   intro hle
   simp only[Pl.meet,hn,decide_true,bT,aS,decide_eq_true_eq]
   intro p hp
   obtain⟨i,hi,rfl⟩:=bk.1 hp
   simp only[List.length_zip]at hi
   simp only[List.getElem_zip]
   exact hall i (by omega) (by omega) (by omega)
  simp only[go_sem,rE,rA,h2,h3,h5,g1,g2,ao]
  by_cases hlt1:k<a.path.length
  ·have hlt1':(k:Int)<a.path.length:=by omega
   simp only[go_sem,rE,rA,h2,h3,h5,g1,g2,hlt1',ao]
   refine aH (fun hlt=>?_) (fun hge=>?_)
   ·have hlt2:k<b.path.length:=by omega
    have w1:=aP (n:=(k:Int)+1) (by omega) (by omega)
    simp only[go_sem,rE,rA,h2,h3,h5,g1,g2,iJ hlt1,iJ hlt2]
    by_cases he:a.path[k]=b.path[k]
    ·have he':(a.path[k] !=b.path[k])=false:=by simp[he]
     simp only[go_sem,rE,he',h2,h3,h5,w1]
     refine⟨hlt1,H,aj.sub_refl _,g1,g2,by simp,fun i h h' hi=>?_⟩
     by_cases hik:i=k
     ·subst hik;exact he
     ·exact hall i h h' (by omega)
    ·have he':(a.path[k] !=b.path[k])=true:=bne_iff_ne.2 he
     simp only[go_sem,rE,he']
     refine ak (.refl _) (aj.sub_empty _) ⟨?_,rfl⟩
     have:Pl.meet a b=false:=by
      simp only[Pl.meet,cH,dj]
      refine .inr ⟨(a.path[k],b.path[k]),?_,by simpa using he⟩
      have hz:k<(a.path.zip b.path).length:=by simp;omega
      have:=az hz
      simpa using this
     simp only[go_sem,this]
   ·simp only[go_sem,rE]
    exact ak (.refl _) (aj.sub_empty _) ⟨by simp only[go_sem,fin (.inr (by omega))],rfl⟩
  ·have hlt1':¬(k:Int)<a.path.length:=by omega
   simp only[go_sem,rE,hlt1']
   exact ak (.refl _) (aj.sub_empty _) ⟨by simp only[go_sem,fin (.inl (by omega))],rfl⟩
 ·simp only[go_sem,rE,hn]
  exact ak (.refl _) (aj.sub_empty _) ⟨by simp[iq,Pl.meet,hn],rfl⟩
theorem Ex.enc_eq(e:Ex):e.enc=[I e.kind,I e.num,S e.place.name,au e.place.path,.sl 5 none (Ex.encs e.kids)]:=by cases e;rfl
theorem Fu.enc_eq(f:Fu):f.enc=[S f.name,.sl 3 none (f.params.map Pa.enc),B f.lent,.sl 1 none (Ty.encs f.type.kids),.sl 15 none (St.encs f.body),I f.says.kind,I f.says.num,S f.says.place.name,
 au f.says.place.path,.sl 5 none (Ex.encs f.says.kids),S f.gives.name,au f.gives.path]:=by
 simp only[Fu.enc,Ty.enc_eq,Ex.enc_eq,Pl.enc];rfl
theorem St.enc_eq(s:St):s.enc=[I s.kind,S s.name,S s.place.name,au s.place.path,S s.other.name,au s.other.path,I s.expr.kind,I s.expr.num,S s.expr.place.name,au s.expr.place.path,.sl 5 none (Ex.encs s.expr.kids),
 S s.fn,.sl 8 none (s.args.map Ag.enc),.sl 15 none (St.encs s.thn),.sl 15 none (St.encs s.els)]:=by
 obtain⟨k,n,p,o,e,f,zas,t,l⟩:=s
 simp only[St.enc,Ex.enc_eq];rfl
theorem tp{fs:List Fu}{k:Nat}(h:k<fs.length):(fs.map Fu.enc)[k]?=some fs[k].enc:=by simp[h]
def wx(fs:List Fu)(name:ByteArray)(most:Nat):Int:=match(fs.take most).findIdx? fun f=>decide (f.name=name)with
 |some i=>i
 |none=>-1
theorem AR(L:Lib P F)(fs:List Fu)(name:ByteArray)(most:Nat)(hl:fs.length<=2^40)(hm:most<=2^40):cI P 101 [.agg (Pg.enc fs),S name,I most] (I (wx fs name most)):=by
 refine(L.a Tryz.func101 y101) (by simp[y101]) ?_
 simp only[y101,go_sem,rE,Pg.enc]
 intro b1 hb1
 refine aV most (fun k E H=>H.get b1=some (.cells [.sl 12 none (fs.map Fu.enc)])/\E 1=S name/\E 2=I most/\E 3=.ptr b1 0/\E 7=I k/\
  ∀i (h:i<fs.length),i<k->fs[i].name≠name) (by simp[go_sem]) ?_
 rintro k E H hk ⟨g1,h1,h2,h3,h7,hall⟩
 have fin:most<=k\/fs.length<=k->wx fs name most=-1:=by
  intro hle
  have:(fs.take most).findIdx? (fun f=>decide (f.name=name))=none:=by
   rw[ip]
   intro x hx
   obtain⟨i,hi,rfl⟩:=bk.1 hx
   simp only[bI]at hi
   simp only[List.getElem_take,decide_eq_false_iff_not]
   exact hall i (by omega) (by omega)
  simp only[wx,this]
 by_cases hlt1:k<most
 ·have hlt1':(k:Int)<most:=by omega
  simp only[go_sem,rE,rA,h1,h2,h3,h7,g1,hlt1',ao]
  refine aH (fun hlt=>?_) (fun hge=>?_)
  ·have hlt2:k<fs.length:=by omega
   have w1:=aP (n:=(k:Int)+1) (by omega) (by omega)
   simp only[go_sem,rE,rA,h1,h2,h3,h7,g1,tp hlt2,Fu.enc_eq]
   by_cases he:fs[k].name=name
   ·simp only[go_sem,rE,he,h7]
    refine ak (.refl _) (aj.sub_empty _) ⟨?_,rfl⟩
    have:(fs.take most).findIdx? (fun f=>decide (f.name=name))=some k:=by
     rw[bN]
     refine⟨by simp;omega,by simpa using he,fun j hj=>?_⟩
     simp only[List.getElem_take,decide_eq_true_eq]
     exact hall j (by omega) hj
    simp only[go_sem,wx,this]
   ·simp only[go_sem,rE,he,h1,h2,h3,h7,w1]
    refine⟨hlt1,H,aj.sub_refl _,g1,by simp,fun i h hi=>?_⟩
    by_cases hik:i=k
    ·subst hik;exact he
    ·exact hall i h (by omega)
  ·simp only[go_sem,rE]
   exact ak (.refl _) (aj.sub_empty _) ⟨by simp only[go_sem,fin (.inr (by omega))],rfl⟩
 ·have hlt1':¬(k:Int)<most:=by omega
  simp only[go_sem,rE,h1,h2,h7,hlt1']
  exact ak (.refl _) (aj.sub_empty _) ⟨by simp only[go_sem,fin (.inl (by omega))],rfl⟩
theorem yI(ks:List Ty)(k:Ty):Ty.encs (ks++[k])=Ty.encs ks++[k.enc]:=by simp only[Ty.encs_map,bL,aU,bB]
theorem LeC.self_sl{sz:Nat}{x:AC}{es:List (List AC)}(h:Le x (.sl sz none es)):LeC [x] [.sl sz none es]:=⟨⟨h,rfl⟩,trivial⟩
theorem AW(L:Lib P F):∀(D:Nat) (t:Ty),t.le D->cI P 200 [.agg t.enc] (.agg t.enc):=by
 intro D
 induction D using Nat.strongRecOn with
 |_ D ih=>
  rintro⟨ks⟩ ht
  obtain⟨hl,hk⟩:=jb ht
  refine(L.a Tryz.func200 y200) (by simp[y200]) ?_
  simp only[y200,go_sem,rE,Ty.enc]
  intro b1 hb1 b2 hb2 b3 hb3
  have h12:b1≠b2:=by rintro rfl;simp at hb2
  have h23:b2≠b3:=by rintro rfl;simp at hb3
  have h13:b1≠b3:=by rintro rfl;rw[ae _ _ h12]at hb3;simp at hb3
  refine aV ks.length (fun k E H=>H.get b1=some (.cells [.sl 1 none (Ty.encs ks)])/\(∃y,H.get b2=some (.cells [y]))/\(∃x,H.get b3=some (.cells [x])/\bR H 1 (Ty.encs (ks.take k)) x)/\
   E 1=.ptr b1 0/\E 2=.ptr b2 0/\E 3=.ptr b3 0/\E 4=I k) ⟨by simp[go_sem,h12,h13],⟨_,by rw[ae _ _ h23,ai]⟩,⟨NIL,by simp,by simpa[Ty.encs]using bR.nil _ _⟩,by simp[go_sem]⟩ ?_
  rintro k E H hk' ⟨g1,⟨y,g2⟩,⟨x,g3,hx⟩,h1,h2,h3,h4⟩
  simp only[go_sem,rE,rA,h1,h2,h3,h4,g1]
  refine aH (fun hlt=>?_) (fun hge=>?_)
  ·have hlt1:k<ks.length:=by omega
   have w1:=aP (n:=(k:Int)+1) (by omega) (by omega)
   have hg1:=kL hlt1
   obtain⟨D',rfl,hD'⟩:=hk _ (az hlt1)
   have hih:=ih D' (by omega) _ hD'
   rw[Ty.enc_eq]at hg1 hih
   simp only[go_sem,rE,rA,h1,h2,h3,h4,g1,g3,hg1]
   refine am hih (rfl) ?_
   simp only[go_sem,rE,rA,ax,av,ay]
   refine uf (es:=Ty.encs (ks.take k)) (ys:=[ks[k].enc]) (by simp only[go_sem,rE];exact hx) (by simp[go_sem,bg,Ty.enc_eq]) (by simp[Ty.enc_eq]) (by simp[Ty.encs_map];omega) rfl ?_
   intro x' H' fp hx' hkeep
   have k1:=hkeep.1 _ _ g1
   have k2:=hkeep.1 _ _ g2
   have k3:=hkeep.1 _ _ g3
   simp only[go_sem,rE,rA,h1,h2,h3,h4,k3,hx'.one,w1]
   refine⟨hlt1,_,aj.sub_refl _,?_,⟨y,?_⟩,⟨x',ai _ _ _,?_⟩,?_⟩
   ·rw[ae _ _ h13];exact k1
   ·rw[ae _ _ h23];exact k2
   ·have:=hx'.set k3 (.cells [x'])
    rwa[show Ty.encs (ks.take k)++[ks[k].enc]=Ty.encs (ks.take (k+1))from by rw[aC hlt1,yI]]at this
   ·simp
  ·have hkk:k=ks.length:=by omega
   subst hkk
   rw[aW]at hx
   simp only[go_sem,rE,rA,h1,h2,h3,g2,g3]
   exact bP (off:=0) (h2) (ai _ _ _) rfl (.agg (.self_sl hx.le)) (aj.sub_empty _) ⟨rfl,rfl⟩
def Ty.at:Ty->List Int->Option Ty
 |t,[]=>some t
 |.mk ks,i::p=>if 0<=i then(ks[i.toNat]?).bind fun u=>Ty.at u p else none
def Ty.atOk(t:Ty)(p:List Int):Option Ty:=if t.okB then t.at p else none
def iG:Option Ty->AC
 |some u=>.tup [.agg u.enc,B true]
 |none=>.tup [.agg (Ty.mk []).enc,B false]
theorem lg{E:Env}{H:aj}{a b:jq}{x y:AC}(ha:a.val E H=some x)(hb:b.val E H=some y):lh E H [a,b]=some (.tup [x,y]):=by
 simp only[lh,iH,ha,hb]
theorem cd{E:Env}{H:aj}{n m r off:Nat}{g:Option Nat}{cs:List AC}{q q1:AC}{R:AC->aj->Prop}(hE:E n=.ptr r off)(hg:H.get r=some (.cells cs))(hq:fH g cs off=some q)
(hl:Le q q1){H':aj}(hs:H'.sub H)(h:R (.tup [q1,E m]) H'):bh.post [.cell n g,.slot m] R .ret E H:=
 ⟨.tup [q,E m],lg (by simp only[jq.val,hE,hg,hq]) rfl,_,H',.of (Le.tup (show LeA [q,E m] [q1,E m]from⟨hl,.refl _,trivial⟩)) hs,h⟩
theorem Bh(L:Lib P F)(D:Nat)(t:Ty)(ht:t.le D)(p:List Int)(hp:p.length<=2^40):cI P 154 [.agg t.enc,au p] (iG (t.atOk p)):=by
 refine(L.a Tryz.func154 y154) (by simp[y154]) ?_
 have hok:=ox L t
 rw[Ty.enc_eq]at hok⊢
 simp only[y154,go_sem,rE,au]
 intro b1 hb1 b2 hb2
 have h12:b1≠b2:=by rintro rfl;simp at hb2
 have h21:b2≠b1:=Ne.symm h12
 simp only[go_sem,rE,rA,h12]
 refine am hok (rfl) ?_
 simp only[go_sem,rE,rA]
 cases hb:t.okB
 ·simp only[go_sem,rE,rA]
  exact cd (off:=0) (rfl) (ai _ _ _) rfl eX (aj.sub_empty _) ⟨by simp only[go_sem,rE,Ty.atOk,hb,iG],rfl⟩
 ·simp only[go_sem,rE,rA]
  refine aV p.length (fun k E H=>(∃u D,u.le D/\H.get b1=some (.cells [.sl 1 none (Ty.encs u.kids)])/\t.at p=u.at (p.drop k))/\(∃y,H.get b2=some (.cells [y]))/\E 1=.sl 1 none (p.map fun i=>[I i])/\
   E 2=.ptr b1 0/\E 4=.ptr b2 0/\E 6=I k) ⟨⟨t,D,ht,by simp[go_sem,h12],by simp⟩,⟨_,by rw[ai]⟩,by simp[go_sem]⟩ ?_
  rintro k E H hk ⟨⟨u,D',hu,g1,hat⟩,⟨y,g2⟩,h1,h2,h4,h6⟩
  simp only[go_sem,rE,rA,h1,h2,h4,h6,ao]
  refine aH (fun hlt=>?_) (fun hge=>?_)
  ·have hlt1:k<p.length:=by omega
   have w1:=aP (n:=(k:Int)+1) (by omega) (by omega)
   obtain⟨us⟩:=u
   obtain⟨hl,hsub⟩:=jb hu
   have w2:=aP (n:=(us.length:Int) - 1) (by omega) (by omega)
   simp only[Ty.kids]at g1
   simp only[go_sem,rE,rA,h1,h2,h4,h6,g1,iJ hlt1,w2]
   refine am (qW L p[k] 0 (us.length - 1)) (rfl) ?_
   simp only[go_sem,rE,rA,h1,h2,h4,h6,g1]
   rw[bO hlt1]at hat
   by_cases hin:0<=p[k]/\p[k]<=(us.length:Int) - 1
   ·have hin':p[k].toNat<us.length:=by omega
    have hge0:0<=p[k]:=hin.1
    obtain⟨D'',-,hD''⟩:=hsub _ (az hin')
    have hg:=kL hin'
    rw[Ty.enc_eq]at hg
    simp only[go_sem,rE,rA,hin,hge0,h1,h2,h4,h6,g1,iJ hlt1,hg,w1]
    refine⟨hlt1,_,aj.sub_refl _,⟨us[p[k].toNat],D'',hD'',ai _ _ _,?_⟩,⟨y,?_⟩,by simp⟩
    ·rw[hat];simp only[Ty.at,hge0,if_true,a6 hin',Option.bind_some]
    ·rw[ae _ _ h21];exact g2
   ·simp only[go_sem,rE,rA,hin,h1,h2,h4,h6,g2]
    have hn:t.at p=none:=by
     rw[hat];simp only[Ty.at]
     split
     ·rw[fx (by omega)];rfl
     ·rfl
    exact cd (off:=0) (h4) (ai _ _ _) rfl eX (aj.sub_empty _) ⟨by simp only[go_sem,rE,Ty.atOk,hb,hn,iG],rfl⟩
  ·have hkk:k=p.length:=by omega
   subst hkk
   rw[kl]at hat
   simp only[Ty.at]at hat
   have hc:=AW L D' u hu
   rw[Ty.enc_eq]at hc
   simp only[go_sem,rE,rA,h1,h2,h4,h6,g1,g2]
   refine am hc (rfl) ?_
   simp only[go_sem,rE,rA,h1,h2,h4,h6,g1,g2]
   exact cd (off:=0) (h4) (ai _ _ _) rfl (.refl _) (aj.sub_empty _) ⟨by simp only[go_sem,rE,Ty.atOk,hb,hat,iG,Ty.enc_eq],rfl⟩
end
def eK(H:aj)(sz:Nat)(rows:List (List AC))(x:AC):Prop:=(rows=[]/\x=NIL)\/
 ∃b c cs,x=.lit (.slice (some ⟨b,0,none⟩) rows.length c)/\H.get b=some (.cells cs)/\cs.length=c*sz/\rows.length<=c/\cs.take (rows.length*sz)=rows.flatten
def gM(x:AC)(d:Nat):Prop:=∃n c,x=.lit (.slice (some ⟨d,0,none⟩) n c)
theorem eK.mono{H H':aj}{sz:Nat}{rows:List (List AC)}{x:AC}(h:eK H sz rows x)(hk:∀d,gM x d->H'.get d=H.get d):eK H' sz rows x:=by
 rcases h with h|⟨b,c,cs,rfl,h1,h2⟩
 ·exact .inl h
 ·exact .inr ⟨b,c,cs,rfl,by rw[hk b ⟨_,_,rfl⟩];exact h1,h2⟩
section
variable {P:Program}{dr:Bool}{K:Env->aj->Prop}{xs:List aJ}{E:Env}{H:aj}{l:Lds}{f:Fps}
theorem qc{i sz bytes:Nat}{d:Option Nat}{s y:aG}{inc:List Nat}{rows ys:List (List AC)}(hs:eK H sz rows (s.ev E))(hy:gT H sz (y.ev E)=some ys)(hsz:∀e∈ys,e.length=sz)
(hl:rows.length+ys.length<=2^32)(hinc:inc=[])
(h:∀x' H' fp,eK H' sz (rows++ys) x'->(∀c,H.get c≠none->¬gM (s.ev E) c->H'.get c=H.get c)->(∀c,gM x' c->gM (s.ev E) c\/H.get c=none)->bp P dr K xs (E.put d x') H' l ((i,fp)::f)):
 bp P dr K (⟨i,d,none,.eff (.appendM sz bytes s y),inc⟩::xs) E H l f:=by
 subst hinc
 simp only[bp,aJ.act,dt,EOp.isA,EOp.run,hy,aq,if_false]
 refine⟨hsz,?_⟩
 rcases hs with⟨rfl,e⟩|⟨b,c,cs,e,hg,hc,hn,ht⟩
 ·simp only[e,kj]
  refine⟨by simpa using hl,fun e'=>⟨trivial,?_⟩,fun hne=>.inr fun b c cs hb h1 h2 h3=>⟨trivial,?_⟩⟩
  ·subst e'
   exact h NIL H _ (.inl ⟨rfl,rfl⟩) (fun _ _ _=>rfl) (fun c ⟨n,c',e'⟩=>by simp at e')
  ·refine h _ _ _ (.inr ⟨b,c,cs,rfl,ai _ _ _,h2,h1,h3⟩) (fun c2 hc2 _=>?_) (fun c2 ⟨n,c',e'⟩=>?_)
   ·rw[ae _ _ (by rintro rfl;exact hc2 hb)]
   ·simp at e';obtain⟨rfl,-⟩:=e';exact .inr hb
 ·simp only[e,kj]
  refine⟨cs,hg,hc,hn,hl,fun b' c' cs' hb' h1 h2 h3=>⟨trivial,?_⟩⟩
  refine h _ _ _ (.inr ⟨b',c',cs',by rw[bv],ai _ _ _,h2,by rw[bv];exact h1,?_⟩) (fun c2 hc2 hnb=>?_) (fun c2 ⟨n,c3,e'⟩=>?_)
  ·rw[bv,h3,ht,List.flatten_append]
  ·rw[ae]
   rintro rfl
   rcases hb' with rfl|hb'
   ·exact hnb ⟨_,_,e⟩
   ·exact hc2 hb'
  ·simp at e';obtain⟨rfl,-⟩:=e'
   rcases hb' with rfl|hb'
   ·exact .inl ⟨_,_,e⟩
   ·exact .inr hb'
theorem qd{i sz bytes b:Nat}{d:Option Nat}{s y:aG}{inc:List Nat}{ys:List (List AC)}(hs:s.ev E=.sl sz (some (b,0,0)) [])(hb:H.get b=some (.tail 0 0))(hy:gT H sz (y.ev E)=some ys)
(hsz:∀e∈ys,e.length=sz)(hl:ys.length<=2^32)(hchk:dQ inc l (·=b))
(h:∀x' H' fp,eK H' sz ys x'->(∀c,fp c->c=b\/H.get c=none)->(∀c,H.get c≠none->c≠b->H'.get c=H.get c)->(∀c,gM x' c->c=b\/H.get c=none)->bp P dr K xs (E.put d x') H' l ((i,fp)::f)):
 bp P dr K (⟨i,d,none,.eff (.appendM sz bytes s y),inc⟩::xs) E H l f:=by
 simp only[bp,aJ.act,dt,EOp.isA,EOp.run,hy,hs,aq,if_false,kj]
 refine⟨hsz,trivial,by simpa using hl,hb,.inr ⟨trivial,trivial,fun b' c cs hb' h1 h2 h3=>⟨hchk,?_⟩⟩⟩
 refine h _ _ _ (.inr ⟨b',c,cs,rfl,ai _ _ _,h2,h1,h3⟩) (fun c hc=>hc) (fun c2 hc2 hnb=>?_) (fun c2 ⟨n,c3,e'⟩=>?_)
 ·rw[ae]
  rintro rfl
  exact hb'.elim hnb hc2
 ·simp at e';obtain⟨rfl,-⟩:=e';exact hb'
theorem qS{sz:Nat}:∀(rows:List (List AC)) (cs:List AC),(∀e∈rows,e.length=sz)->cs.take (rows.length*sz)=rows.flatten->bg sz rows.length cs=rows
 |[],cs,_,_=>rfl
 |e::rows,cs,hs,h=>by
  have he:e.length=sz:=hs e (by simp)
  have hl:=dB (ys:=e::rows) (sz:=sz) hs
  simp only[aR,cB,Nat.one_mul,av,bv]at h hl
  simp only[aR,bg]
  have h1:cs.take sz=e:=by
   have:=congrArg (List.take sz) h
   rw[List.take_take,eC (by omega),List.take_left' he]at this
   exact this
  have h2:(cs.drop sz).take (rows.length*sz)=rows.flatten:=by
   have:=congrArg (List.drop sz) h
   rw[List.drop_take,List.drop_left' he,Nat.add_sub_cancel]at this
   exact this
  rw[h1,qS rows (cs.drop sz) (fun e he=>hs e (by simp[he])) h2]
theorem eK.elems{sz:Nat}{rows:List (List AC)}{x:AC}(h:eK H sz rows x)(hs:∀e∈rows,e.length=sz)(hl:rows.length<=LIM):gT H sz x=some rows:=by
 rcases h with⟨rfl,rfl⟩|⟨b,c,cs,rfl,h1,h2,h3,h4⟩
 ·rfl
 ·have:rows.length*sz<=c*sz:=bu _ h3
  simp only[gT,h1,bY]
  by_cases h0:rows.length=0
  ·rw[if_pos h0,bn h0]
  rw[if_neg h0,if_pos ⟨by omega,hl⟩,gZ,qS rows cs hs h4]
theorem eK.one{H:aj}{sz:Nat}{rows:List (List AC)}{x:AC}(h:eK H sz rows x):x.cells?=some [x]:=by
 rcases h with⟨rfl,rfl⟩|⟨b,c,cs,rfl,-⟩<;>rfl
theorem eK.cell{rows:List (List AC)}{sz:Nat}{cs:List AC}(hs:∀e∈rows,e.length=sz)(h:cs.take (rows.length*sz)=rows.flatten){k j:Nat}(hk:k<rows.length)(hj:j<sz):cs[k*sz+j]?=rows[k][j]?:=by
 obtain⟨e,x,h1,h2,h3⟩:=ma hs hk hj
 have:k*sz+j<rows.length*sz:=ff hk hj
 rw[<-h,dq this]at h3
 rw[h3,<-h2]
 simp[hk]at h1;rw[<-h1]
end
theorem eK.keep{H H':aj}{sz:Nat}{rows:List (List AC)}{x:AC}(h:eK H sz rows x)(hk:Bs H H'):eK H' sz rows x:=by
 rcases h with h|⟨b,c,cs,rfl,h1,h2⟩
 ·exact .inl h
 ·exact .inr ⟨b,c,cs,rfl,hk.1 _ _ h1,h2⟩
theorem bR.rows{H H':aj}{sz sz':Nat}{rows es:List (List AC)}{x y:AC}(h:bR H sz es x)(hr:eK H sz' rows y)(hk:∀c,H.get c≠none->¬gM y c->H'.get c=H.get c):bR H' sz es x:=by
 rcases h with h|⟨b,n,m,rfl,hb⟩
 ·exact .inl h
 ·refine .inr ⟨b,n,m,rfl,?_⟩
  rw[hk b (by simp[hb])]
  ·exact hb
  ·rintro⟨n',c',rfl⟩
   rcases hr with⟨-,h⟩|⟨b',c,cs,h,hg,-⟩
   ·simp at h
   ·simp at h;obtain⟨rfl,-⟩:=h;rw[hb]at hg;simp at hg
structure Vr where
 name:ByteArray
 lent:Bool
 param:Bool
 type:Ty
 loans:List Pl
 dead:Bool
 deriving Inhabited
def Vr.enc(v:Vr):List AC:=[S v.name,B v.lent,B v.param,.sl 1 none (Ty.encs v.type.kids),.sl 2 none (v.loans.map Pl.enc),B v.dead]
structure En where
 p:Pg
 fn:Nat
 vars:List Vr
 names:List ByteArray
 code:Int
 deriving Inhabited
def cR(p:Pg)(fn:Nat)(VS NS:AC)(code:Int):cz:=.cells [.sl 12 none (p.map Fu.enc),I fn,VS,NS,I code]
def kc(H:aj)(vs:List Vr)(VS:AC):Prop:=eK H 6 (vs.map Vr.enc) VS
def aD(ns:List ByteArray):List (List AC):=ns.map fun s=>[S s]
structure bA(H:aj)(e:Nat)(v:En)(VS NS:AC):Prop where
 obj:H.get e=some (cR v.p v.fn VS NS v.code)
 vars:kc H v.vars VS
 names:bR H 1 (aD v.names) NS
def dv(code c:Int):Int:=if code=0 then c else code
theorem cY{E:Env}{H H':aj}{R:AC->aj->Prop}(hs:H'.sub H)(h:R (.tup []) H'):bh.post [] R .normal E H:=⟨.tup [],rfl,_,H',.of (.refl _) hs,h⟩
theorem kB{E:Env}{H H':aj}{R:AC->aj->Prop}(hs:H'.sub H)(h:R (.tup []) H'):bh.post [] R .ret E H:=⟨.tup [],rfl,_,H',.of (.refl _) hs,h⟩
section
variable {P:Program}{F:Ids}
theorem lw(L:Lib P F)(e:Nat)(p:Pg)(fn:Nat)(VS NS:AC)(code c:Int):
 ACalls P 153 [.ptr e 0,I c] (one e (cR p fn VS NS code)) fun q H'=>∃o',(q=.tup []/\o'=cR p fn VS NS (dv code c))/\H'=one e o':=by
 refine(L.a Tryz.func153 y153) (by simp[y153]) ?_
 simp only[y153,go_sem,rE,bD,cR]
 by_cases h:code=0
 ·subst h
  simp only[go_sem,rE,bD,gI,cR,beq_self_eq_true,rA,rL]
  exact cY (aj.sub_refl _) ⟨_,⟨rfl,rfl⟩,rfl⟩
 ·have h':(code==0)=false:=by simpa using h
  simp only[go_sem,rE,bD,gI,cR,h']
  exact cY (aj.sub_refl _) ⟨_,⟨rfl,by simp only[dv,h,if_false,cR]⟩,rfl⟩
theorem gx{dr:Bool}{K:Env->aj->Prop}{xs:List aJ}{E:Env}{H:aj}{l:Lds}{f:Fps}{i:Nat}{g:FuncId}{args:List aG}{d:Option Nat}{inc:List Nat}{zas:List AC}{r:Nat}{o:cz}
{R:AC->cz->Prop}(hc:ACalls P g zas (one r o) fun q H'=>∃o',R q o'/\H'=one r o')(ha:args.map (aG.ev E)=zas)(hr:H.get r=some o)(hlive:dr=true->∃q o',R q o')(hchk:dQ inc l (·=r))
(h:∀q o',R q o'->bp P dr K xs (E.put d q) (H.set r o') l ((i,fun b=>b=r\/H.get b=none)::f)):
 bp P dr K (⟨i,d,none,.eff (.call g args),inc⟩::xs) E H l f:=by
 refine oH (r:=r) (o:=o) (R:=fun q H'=>∃o',H'=one r o'/\R q o') (hc.mono ?_) ha hr (fun hd=>?_) hchk ?_
 ·rintro q H' ⟨o',h1,rfl⟩;exact⟨o',⟨o',rfl,h1⟩,rfl⟩
 ·obtain⟨q,o',h1⟩:=hlive hd;exact⟨q,o',o',rfl,h1⟩
 ·rintro q o' ⟨o2,h1,h2⟩
  have:o'=o2:=by
   have:=congrArg (fun H=>aj.get H r) h1
   simpa[bD]using this
  subst this
  exact h q o' h2
theorem c_fail0(L:Lib P F)(e:Nat)(p:Pg)(fn:Nat)(VS NS:AC)(code c:Int):
 ACalls P 228 [.ptr e 0,I c] (one e (cR p fn VS NS code)) fun q H'=>∃o',(q=.tup []/\o'=cR p fn VS NS (if 0<c then dv code c else code))/\H'=one e o':=by
 refine(L.a Tryz.func228 y228) (by simp[y228]) ?_
 by_cases h:0<c
 ·simp only[y228,go_sem,rE,gt_iff_lt,h]
  refine gx (lw L e p fn VS NS code c) (rfl) (bD _ _) (by simp) trivial ?_
  rintro q o' ⟨rfl,rfl⟩
  simp only[go_sem,gI]
  exact cY (aj.sub_refl _) ⟨_,⟨rfl,by simp only[h,if_true]⟩,rfl⟩
 ·simp only[y228,go_sem,rE,gt_iff_lt,h]
  exact cY (aj.sub_refl _) ⟨_,⟨rfl,by simp only[h,if_false]⟩,rfl⟩
theorem AL(L:Lib P F)(e:Nat)(p:Pg)(fn:Nat)(VS NS:AC)(code:Int)(t:Ty):
 ACalls P 157 [.ptr e 0,.agg t.enc] (one e (cR p fn VS NS code)) fun q H'=>∃o',(q=.tup []/\o'=cR p fn VS NS (if t.kids=[]then code else dv code 3))/\H'=one e o':=by
 refine(L.a Tryz.func157 y157) (by simp[y157]) ?_
 rw[Ty.enc_eq]
 simp only[y157,go_sem,rE]
 intro b hb
 have hbe:b≠e:=by rintro rfl;rw[bD]at hb;simp at hb
 have heb:e≠b:=Ne.symm hbe
 simp only[go_sem,rE,gt_iff_lt]
 refine aH (fun hgt=>?_) (fun hle=>?_)
 ·have hk:¬t.kids=[]:=by rintro h;rw[h]at hgt;simp at hgt
  simp only[go_sem,rE]
  refine gx (lw L e p fn VS NS code 3) (rfl) (by rw[ae _ _ heb,bD]) (by simp) trivial ?_
  rintro q o' ⟨rfl,rfl⟩
  simp only[go_sem]
  exact cY (gK (ai _ _ _)) ⟨_,⟨rfl,by simp only[hk,if_false]⟩,rfl⟩
 ·have hk:t.kids=[]:=by
   cases h:t.kids with
   |nil=>rfl
   |cons x xs=>rw[h]at hle;simp at hle
  simp only[go_sem]
  exact cY (gK (by rw[ae _ _ heb,bD])) ⟨_,⟨rfl,by simp only[hk,if_true]⟩,rfl⟩
theorem c_same(L:Lib P F)(e:Nat)(p:Pg)(fn:Nat)(VS NS:AC)(code:Int)(a t:Ty)(D:Nat)(ha:a.le D):
 ACalls P 98 [.ptr e 0,.agg a.enc,.agg t.enc] (one e (cR p fn VS NS code)) fun q H'=>∃o',(q=.tup []/\o'=cR p fn VS NS (if a=t then code else dv code 3))/\H'=one e o':=by
 refine(L.a Tryz.func98 y98) (by simp[y98]) ?_
 have hs:=ov L D a t ha
 rw[Ty.enc_eq a,Ty.enc_eq t]at hs⊢
 simp only[y98,go_sem,rE]
 intro b hb b2 hb2
 have hbe:b≠e:=by rintro rfl;rw[bD]at hb;simp at hb
 have heb:e≠b:=Ne.symm hbe
 have hbb:b≠b2:=by rintro rfl;simp at hb2
 have heb2:e≠b2:=by rintro rfl;rw[ae _ _ heb,bD]at hb2;simp at hb2
 simp only[go_sem,rE,rA,hbb]
 refine am hs (rfl) ?_
 simp only[go_sem,rE]
 by_cases h:a=t
 ·simp only[go_sem,rE,h]
  exact cY (gK (by rw[ae _ _ heb2,ae _ _ heb,bD])) ⟨_,⟨rfl,rfl⟩,rfl⟩
 ·simp only[go_sem,rE,h]
  refine gx (lw L e p fn VS NS code 3) (rfl) (by rw[ae _ _ heb2,ae _ _ heb,bD]) (by simp) trivial ?_
  rintro q o' ⟨rfl,rfl⟩
  simp only[go_sem]
  exact cY (gK (ai _ _ _)) ⟨_,⟨rfl,rfl⟩,rfl⟩
theorem Vr.enc_len(v:Vr):v.enc.length=6:=rfl
theorem ji{vs:List Vr}{cs:List AC}(h:cs.take (vs.length*6)=(vs.map Vr.enc).flatten){k j:Nat}(hk:k<vs.length)(hj:j<6):cs[k*6+j]?=(vs[k]).enc[j]?:=by
 have hs:∀e∈vs.map Vr.enc,e.length=6:=by intro e he;obtain⟨v,-,rfl⟩:=aZ.1 he;exact v.enc_len
 obtain⟨e,x,h1,h2,h3⟩:=ma hs (i:=k) (j:=j) (by simpa using hk) hj
 have:k*6+j<vs.length*6:=ff hk hj
 rw[<-h,dq this]at h3
 rw[h3,<-h2]
 simp[hk]at h1;rw[<-h1]
def rV(vs:List Vr)(n:ByteArray):Int:=match vs.findIdx? fun v=>decide (v.name=n)with
 |some i=>i
 |none=>-1
theorem c_find(L:Lib P F)(e:Nat)(v:En)(VS NS:AC)(H:aj)(h:bA H e v VS NS)(hl:v.vars.length<=2^40)(n:ByteArray):
 ACalls P 152 [.ptr e 0,S n] H fun q H'=>q=I (rV v.vars n)/\H'=H:=by
 refine(L.a Tryz.func152 y152) (by simp[y152]) ?_
 obtain⟨p,fn,vs,names,code⟩:=v
 have ho:=h.obj
 have hv:=h.vars
 simp only[cR]at ho hv
 simp only[y152,go_sem,rE]
 refine aV vs.length (fun k E H2=>H2=H/\E 0=.ptr e 0/\E 1=S n/\E 5=I k/\∀i (h:i<vs.length),i<k->vs[i].name≠n) (by simp[go_sem]) ?_
 rintro k E H2 hk ⟨rfl,h0,h1,h5,hall⟩
 rcases hv with⟨hv,rfl⟩|⟨b,c,cs,rfl,hg,hc,hvc,hcs⟩
 ·have hv':vs=[]:=by simpa using hv
  subst hv'
  have hk0:k=0:=by simpa using hk
  subst hk0
  simp only[go_sem,rE,rA,h0,h1,h5,ho,dg,Int.lt_irrefl]
  exact ak (.refl _) (aj.sub_refl _) ⟨by simp[iq,rV],rfl⟩
 ·simp only[ao]at hvc hcs ho
  have hlim:vs.length<=LIM:=hl
  have hl':vs.length<=2^40:=hl
  simp only[go_sem,rE,rA,h0,h1,h5,ho,hlim]
  refine aH (fun hlt=>?_) (fun hge=>?_)
  ·have hlt1:k<vs.length:=by omega
   have w1:=aP (n:=(k:Int)+1) (by omega) (by omega)
   have hg0:=ji hcs hlt1 (j:=0) (by omega)
   simp only[Vr.enc,a9,Nat.add_zero]at hg0
   simp only[go_sem,rE,rA,h0,h1,h5,ho,hlim,hlt,hg,hg0]
   by_cases he:vs[k].name=n
   ·simp only[go_sem,rE,he,h5]
    refine ak (.refl _) (aj.sub_refl _) ⟨?_,rfl⟩
    have:vs.findIdx? (fun v=>decide (v.name=n))=some k:=by
     rw[bN]
     exact⟨hlt1,by simpa using he,fun j hj=>by simpa using hall j (by omega) hj⟩
    simp only[go_sem,rV,this]
   ·simp only[go_sem,rE,he,h0,h1,h5,w1]
    refine⟨hlt1,_,aj.sub_refl _,rfl,by simp,fun i h hi=>?_⟩
    by_cases hik:i=k
    ·subst hik;exact he
    ·exact hall i h (by omega)
  ·simp only[go_sem,rE]
   refine ak (.refl _) (aj.sub_refl _) ⟨?_,rfl⟩
   have:vs.findIdx? (fun v=>decide (v.name=n))=none:=by
    rw[ip]
    intro x hx
    obtain⟨i,hi,rfl⟩:=bk.1 hx
    simpa using hall i hi (by omega)
   simp only[go_sem,rV,this]
theorem iw{H:aj}{e:Nat}{p:Pg}{fn:Nat}{VS NS:AC}{code:Int}(ho:H.get e=some (cR p fn VS NS code)){vs:List Vr}{V:AC}(hv:kc H vs V):¬gM V e:=by
 rintro⟨n,c,rfl⟩
 rcases hv with⟨-,h⟩|⟨b,c',cs,h,hg,hc,-⟩
 ·simp at h
 ·simp at h
  obtain⟨rfl,-⟩:=h
  rw[ho]at hg
  simp only[cR,Option.some.injEq,cz.cells.injEq]at hg
  subst hg
  simp at hc;omega
def zn(v:En)(n:ByteArray):Int:=if v.names.any fun m=>decide (m=n)then dv v.code 2 else v.code
def En.add(v:En)(x:Vr):En:={v with vars:=v.vars++[x],names:=v.names++[x.name],code:=zn v x.name}
theorem pt(c d:Int)(h:d≠0):dv (dv c d) d=dv c d:=by
 unfold dv;split<;>simp_all
theorem c_add(L:Lib P F)(e:Nat)(v:En)(VS NS:AC)(H:aj)(h:bA H e v VS NS)(hl:v.vars.length<=2^30)(hn:v.names.length<=2^30)(x:Vr):
 ACalls P 147 [.ptr e 0,.agg x.enc] H fun q H'=>q=.tup []/\∃VS' NS',bA H' e (v.add x) VS' NS':=by
 refine(L.a Tryz.func147 y147) (by simp[y147]) ?_
 obtain⟨p,fn,vs,names,code⟩:=v
 obtain⟨ho,hv,hns⟩:=h
 simp only at ho hv hns hl hn
 simp only[y147,go_sem,rE,Vr.enc]
 intro b hb
 have heb:e≠b:=by rintro rfl;rw[ho]at hb;simp at hb
 refine aV names.length (fun k E H2=>(∃c:Int,c=(if(names.take k).any (fun m=>decide (m=x.name))then dv code 2 else code)/\H2.get e=some (cR p fn VS NS c))/\
  H2.get b=some (.cells [S x.name,B x.lent,B x.param,.sl 1 none (Ty.encs x.type.kids),.sl 2 none (x.loans.map Pl.enc),B x.dead])/\kc H2 vs VS/\bR H2 1 (aD names) NS/\E 0=.ptr e 0/\E 3=.ptr b 0/\E 4=I k)
  ⟨⟨code,by simp,by rw[ae _ _ heb];exact ho⟩,ai _ _ _,hv.mono (fun d hd=>ae _ _ (by
    rintro rfl
    obtain⟨n,c,rfl⟩:=hd
    rcases hv with⟨-,h⟩|⟨b',c',cs,h,hg,-⟩
    ·simp at h
    ·simp at h;obtain⟨rfl,-⟩:=h;rw[hg]at hb;simp at hb)),hns.new hb _,by simp[go_sem]⟩ ?_
 rintro k E H2 hk ⟨⟨c,hc,g0⟩,g1,hv2,hns2,h0,h3,h4⟩
 have hev:=iw g0 hv2
 simp only[cR]at g0
 have step:∀(t:Bool),(decide (names.length<=k)=false->(∃h:k<names.length,t=decide (names[k]=x.name))->(if t then dv c 2 else c)=if(names.take (k+1)).any (fun m=>decide (m=x.name))then dv code 2 else code):=by
  rintro t - ⟨h,rfl⟩
  rw[aC h,fY,hc]
  by_cases h1:names[k]=x.name
  ·simp only[h1,decide_true,if_true,List.any_cons,List.any_nil,dE,Bool.or_true]
   split
   ·exact pt _ _ (by decide)
   ·rfl
  ·simp only[h1,decide_false,aq,if_false,List.any_cons,List.any_nil,dE]
 by_cases hlt:k<names.length
 ·have w1:=aP (n:=(k:Int)+1) (by omega) (by omega)
  have hlt':(k:Int)<(aD names).length:=by simp[aD];omega
  have hg:(aD names)[k]?=some [S names[k]]:=by simp[aD,hlt]
  rcases hns2 with⟨hz,rfl⟩|⟨nb,n1,m1,rfl,hnb⟩
  ·simp[aD]at hz;subst hz;simp at hlt
  ·have hne:nb≠e:=by rintro rfl;rw[g0]at hnb;simp at hnb
   simp only[go_sem,rE,rA,h0,h3,h4,g0,g1,hlt',hg]
   by_cases he:names[k]=x.name
   ·have hst:=step true (by simpa using hlt) ⟨hlt,by simp[he]⟩
    simp only[if_true]at hst
    simp only[go_sem,rE,rA,h0,h3,h4,g0,g1,he]
    refine gx (lw L e p fn VS _ c 2) (by simp only[go_sem,rE,h0]) (by simpa only[cR]using g0) (by simp) trivial ?_
    rintro q o' ⟨rfl,rfl⟩
    simp only[go_sem,rE,h0,h3,h4,w1]
    refine⟨hlt,_,aj.sub_refl _,⟨_,hst,ai _ _ _⟩,by rw[ae _ _ (Ne.symm heb)];exact g1,hv2.mono (fun d hd=>ae _ _ (by rintro rfl;exact hev hd)),
     .inr ⟨nb,n1,m1,rfl,by rw[ae _ _ hne];exact hnb⟩,by simp⟩
   ·have hst:=step false (by simpa using hlt) ⟨hlt,by simp[he]⟩
    simp only[aq,if_false]at hst
    simp only[go_sem,rE,rA,h0,h3,h4,he,w1]
    exact⟨hlt,_,aj.sub_refl _,⟨c,hst,by simpa only[cR]using g0⟩,g1,hv2,.inr ⟨nb,n1,m1,rfl,hnb⟩,by simp⟩
 ·have hkk:k=names.length:=by omega
  subst hkk
  rw[aW]at hc
  have hlt':¬((names.length:Nat):Int)<(aD names).length:=by simp[aD]
  have hcode:zn ⟨p,fn,vs,names,code⟩ x.name=c:=by rw[hc];rfl
  have hns3:=hns2
  have fin:∀(E':Env) (K:cE->Env->aj->Prop),E' 0=.ptr e 0->E' 3=.ptr b 0->(∀E2 H4 VS' NS',bA H4 e (En.add ⟨p,fn,vs,names,code⟩ x) VS' NS'->K .normal E2 H4)->
   (aT.seq (.region true [mv 0 26 0,mv 1 27 0,nc 2 28 27,fa 3 29 3 28,ld 4 30 none 29,fa 5 31 0 3,ld 6 32 none 31,⟨7,some 33,none,.lits 1 1 [.string (bl [])] [(0,(1,32))],[]⟩,ef 8 34 (.appendM 1 16 30 33),nc 9 35 26,fa 10 36 3 35,en 11 (.store 1 36 34)])
    (.region true [mv 0 37 0,mv 1 38 0,nc 2 39 38,fa 3 40 2 39,ld 4 41 none 40,ld 5 42 (some 6) 3,⟨6,some 43,none,.lits 6 1 [.string (bl []),.bool false,.bool false,.slice none 0 0,.slice none 0 0,.bool false] [(0,(6,42))],[]⟩,ef 7 44 (.appendM 6 80 41 43),nc 8 45 37,fa 9 46 2 45,en 10 (.store 1 46 44)])).wp P K E' H2:=by
   intro E' K e0 e3 hK
   simp only[go_sem,rE,rA,e0,e3,g0,g1,ax,av,ay]
   refine uf (es:=aD names) (ys:=[[S x.name]]) (by simp only[go_sem,rE];exact hns3) (by simp[go_sem,bg]) (by simp) (by simp[aD];omega) rfl ?_
   intro NS' H3 fp hNS' hkeep
   have k1:=hkeep.1 _ _ g0
   have k2:=hkeep.1 _ _ g1
   have hv3:=hv2.keep hkeep
   have hbe:=Ne.symm heb
   have hv4:kc (H3.set e (.cells [AC.sl 12 none (List.map Fu.enc p),I fn,VS,NS',I c])) vs VS:=eK.mono hv3 fun d hd=>ae _ _ (by rintro rfl;exact hev hd)
   have hn4:=hNS'.set k1 (.cells [AC.sl 12 none (List.map Fu.enc p),I fn,VS,NS',I c])
   simp only[go_sem,rE,rA,e0,e3,k1,k2,hNS'.one,rL,hbe,ax,av,ay]
   refine qc (rows:=vs.map Vr.enc) (ys:=[x.enc]) (by simp only[go_sem,rE];exact hv4) (by simp[go_sem,bg,Vr.enc]) (by simp[Vr.enc]) (by simp;omega) rfl ?_
   intro VS' H5 fp2 hVS' hout hblk
   simp only[go_sem,rE]at hout hblk
   have g5:H5.get e=some (.cells [AC.sl 12 none (List.map Fu.enc p),I fn,VS,NS',I c]):=by
    rw[hout e (by simp) hev];exact ai _ _ _
   have hn5:=hn4.rows hv4 hout
   simp only[go_sem,rE,rA,e0,e3,g5,hVS'.one,rL]
   refine hK _ _ VS' NS' ⟨?_,?_,?_⟩
   ·simp only[En.add,hcode,ai,cR]
   ·have:kc H5 (vs++[x]) VS':=by simpa[kc]using hVS'
    refine eK.mono this fun d hd=>ae _ _ ?_
    rintro rfl
    rcases hblk d hd with h|h
    ·exact hev h
    ·simp at h
   ·have:bR H5 1 (aD (names++[x.name])) NS':=by simpa[aD]using hn5
    exact this.set g5 _
  have done:∀E2 H4 VS' NS',bA H4 e (En.add ⟨p,fn,vs,names,code⟩ x) VS' NS'->bh.post (y147.1).results (fun q H'=>q=.tup []/\∃VS' NS',bA H' e (En.add ⟨p,fn,vs,names,code⟩ x) VS' NS') .normal E2 H4:=
   fun E2 H4 VS' NS' h=>cY (aj.sub_refl _) ⟨rfl,_,_,h⟩
  rcases hns2 with⟨hz,rfl⟩|⟨nb,n1,m1,rfl,hnb⟩
  ·simp[aD]at hz;subst hz
   simp only[go_sem,rE,rA,h0,h3,h4,g0,g1]
   refine aH (fun h=>absurd h (by simp)) (fun _=>?_)
   simp only[wp_exit,fh,dH,cu]
   exact fin _ _ (h0) (h3) done
  ·simp only[go_sem,rE,rA,h0,h3,h4,g0,g1]
   refine aH (fun h=>absurd h hlt') (fun _=>?_)
   simp only[wp_exit,fh,dH,cu]
   exact fin _ _ (h0) (h3) done
end
section
variable {P:Program}{F:Ids}
def aQ(e:Nat)(VS NS:AC)(d:Nat):Prop:=d=e\/gM VS d\/cJ NS d
theorem bA.mono{H H':aj}{e:Nat}{v:En}{VS NS:AC}(h:bA H e v VS NS)(hk:∀d,aQ e VS NS d->H'.get d=H.get d):bA H' e v VS NS:=by
 obtain⟨h1,h2,h3⟩:=h
 refine⟨by rw[hk e (.inl rfl)];exact h1,eK.mono h2 fun d hd=>hk d (.inr (.inl hd)),?_⟩
 rcases h3 with h3|⟨b,n,m,rfl,hb⟩
 ·exact .inl h3
 ·exact .inr ⟨b,n,m,rfl,by rw[hk b (.inr (.inr ⟨_,_,_,_,rfl⟩))];exact hb⟩
theorem Bg(L:Lib P F)(e:Nat)(v:En)(VS NS:AC)(H:aj)(h:bA H e v VS NS)(hl:v.vars.length<=2^30)(hn:v.names.length<=2^30):
 ACalls P 94 [.ptr e 0] H fun q H'=>∃a VS' NS',q=.ptr a 0/\bA H' a v VS' NS'/\(∀d,H.get d≠none->H'.get d=H.get d)/\∀d,aQ a VS' NS' d->H.get d=none:=by
 refine(L.a Tryz.func94 y94) (by simp[y94]) ?_
 obtain⟨p,fn,vs,names,code⟩:=v
 obtain⟨ho,hv,hns⟩:=h
 simp only[cR]at ho hv hns hl hn
 have hne:=iw (H:=H) (by simpa only[cR]using ho) hv
 simp only[y94,go_sem,rE,rA,ho,rL,ax,ay,bg]
 intro b1 hb1
 have h1e:e≠b1:=by rintro rfl;rw[ho]at hb1;simp at hb1
 have hv1:kc (H.set b1 (.tail 0 0)) vs VS:=eK.mono hv fun d ⟨n,c,hd⟩=>ae _ _ (by
  rintro rfl
  rcases hv with⟨-,h⟩|⟨b',c',cs,h,hg,-⟩
  ·rw[hd]at h;simp at h
  ·rw[hd]at h;simp at h;obtain⟨rfl,-⟩:=h;rw[hg]at hb1;simp at hb1)
 simp only[go_sem,rE,rA,ho,h1e]
 refine qd (b:=b1) (ys:=vs.map Vr.enc) (rfl) (ai _ _ _) (by simp only[go_sem,rE];exact hv1.elems (by simp[Vr.enc]) (by simp[LIM];omega)) (by simp[Vr.enc]) (by simp;omega) ?_ ?_
 ·simp[dQ,h1e]
 ·intro VS' H2 fp hVS hfp hout hblk
  have ho2:H2.get e=some (cz.cells [AC.sl 12 none (List.map Fu.enc p),I fn,VS,NS,I code]):=by
   rw[hout e (by rw[ae _ _ h1e,ho];simp) h1e,ae _ _ h1e];exact ho
  have hfe:¬fp e:=by
   intro hc
   rcases hfp e hc with h|h
   ·exact h1e h
   ·rw[ae _ _ h1e,ho]at h;simp at h
  simp only[go_sem,rE,rA,rL,ax,ay,bg]
  intro b2 hb2
  have h2e:e≠b2:=by rintro rfl;rw[ho2]at hb2;simp at hb2
  simp only[go_sem,rE,rA,ho2,h2e,jw,bi,cF,or_false,forall_eq,hfe]
  refine fG (es:=[]) (ys:=aD names) (by simp only[go_sem,rE];exact .inr ⟨b2,0,0,rfl,ai _ _ _⟩) (by simp only[go_sem,rE];exact hns.elems) (by simp[aD]) (by simp[aD];omega) ?_
  intro NS' H3 fp2 hNS hfp2 hout2 htok
  have tb2:∀d,cJ (AC.sl 1 (some (b2,0,0)) []) d->d=b2:=by
   rintro d ⟨_,_,_,_,h⟩;simp at h;exact h.2.1.1.symm
  simp only[go_sem,rE]at hout2 htok
  have keep2:∀d,H2.get d≠none->H3.get d=H2.get d:=by
   intro d hd
   have hdb:d≠b2:=by rintro rfl;exact hd hb2
   rw[hout2 d (by rw[ae _ _ hdb];exact hd) (fun h=>hdb (tb2 d h)),ae _ _ hdb]
  have keep1:∀d,H.get d≠none->H2.get d=H.get d:=by
   intro d hd
   have hdb:d≠b1:=by rintro rfl;exact hd hb1
   rw[hout d (by rw[ae _ _ hdb];exact hd) hdb,ae _ _ hdb]
  have ho3:H3.get e=some (cz.cells [AC.sl 12 none (List.map Fu.enc p),I fn,VS,NS,I code]):=by
   rw[keep2 e (by rw[ho2];simp)];exact ho2
  have hfe2:¬fp2 e:=by
   intro hc
   have:=hfp2 e hc
   rw[ae _ _ h2e,ho2]at this;simp at this
  have hvs1:VS'.cells?=some [VS']:=hVS.one
  have hns1:NS'.cells?=some [NS']:=hNS.one
  simp only[go_sem,rE,rA,rL,ho3,jw,bi,cF,or_false,forall_eq,hfe2,hfe,forall_eq_or_imp,hvs1,hns1]
  intro a ha
  have hv3:kc H3 vs VS':=eK.mono hVS fun d hd=>by
   rcases hVS with⟨-,h⟩|⟨b',c',cs,h,hg,-⟩
   ·obtain⟨n,c,hd⟩:=hd;rw[hd]at h;simp at h
   ·obtain⟨n,c,hd⟩:=hd
    rw[hd]at h;simp at h;obtain⟨rfl,-⟩:=h
    exact keep2 d (by rw[hg];simp)
  have keepA:∀d,H3.get d≠none->(H3.set a (.cells [AC.sl 12 none (List.map Fu.enc p),I fn,VS',NS',I code])).get d=H3.get d:=fun d hd=>ae _ _ (by rintro rfl;exact hd ha)
  refine gA ⟨a,VS',NS',rfl,⟨?_,?_,?_⟩,fun d hd=>?_,fun d hd=>?_⟩
  ·simp only[cR];exact ai _ _ _
  ·refine eK.mono hv3 fun d hd=>keepA d ?_
   rcases hv3 with⟨-,h⟩|⟨b',c',cs,h,hg,-⟩
   ·obtain⟨n,c,hd⟩:=hd;rw[hd]at h;simp at h
   ·obtain⟨n,c,hd⟩:=hd
    rw[hd]at h;simp at h;obtain⟨rfl,-⟩:=h
    rw[hg];simp
  ·have:bR H3 1 (aD names) NS':=by simpa using hNS
   exact this.new ha _
  ·have hd':H.get d≠none:=hd
   rw[keepA d (by rw[keep2 d (by rw[keep1 d hd'];exact hd'),keep1 d hd'];exact hd'),keep2 d (by rw[keep1 d hd'];exact hd'),keep1 d hd']
  ·apply Classical.byContradiction
   intro hn'
   have h2:H2.get d≠none:=by rw[keep1 d hn'];exact hn'
   rcases hd with rfl|hd|hd
   ·rw[keep2 d h2]at ha;exact h2 ha
   ·rcases hblk d hd with h|h
    ·subst h;exact hn' hb1
    ·by_cases hdb:d=b1
     ·subst hdb;exact hn' hb1
     ·rw[ae _ _ hdb]at h;exact hn' h
   ·rcases htok d hd with h|h
    ·have:=tb2 d h;subst this;exact h2 hb2
    ·by_cases hdb:d=b2
     ·subst hdb;exact h2 hb2
     ·rw[ae _ _ hdb]at h;exact h2 h
end
def AppTk(H:aj)(sz:Nat)(es:List (List AC))(x:AC):Prop:=∃b n m,x=.sl sz (some (b,n,m)) es/\H.get b=some (.tail n m)
section
variable {P:Program}{dr:Bool}{K:Env->aj->Prop}{xs:List aJ}{E:Env}{H:aj}{l:Lds}{f:Fps}
theorem dS{i sz bytes:Nat}{d:Option Nat}{s y:aG}{inc:List Nat}{b n m:Nat}{es ys:List (List AC)}(hs:s.ev E=.sl sz (some (b,n,m)) es)(hb:H.get b=some (.tail n m))(hy:gT H sz (y.ev E)=some ys)
(hsz:∀e∈ys,e.length=sz)(hl:es.length+ys.length<=2^32)
(h:∀b' n' m' H' fp,H'.get b'=some (.tail n' m')->(∀c,H.get c≠none->c≠b->H'.get c=H.get c)->(b'=b\/H.get b'=none)->(∀c,fp c->H.get c=none)->
  bp P dr K xs (E.put d (.sl sz (some (b',n',m')) (es++ys))) H' l ((i,fp)::f)):
 bp P dr K (⟨i,d,none,.eff (.appendM sz bytes s y),inc⟩::xs) E H l f:=by
 simp only[bp,aJ.act,dt,EOp.isA,EOp.run,hy,aq,if_false]
 refine⟨hsz,?_⟩
 simp only[hs,kj]
 refine⟨trivial,hl,hb,.inl fun b' m' hb' hm=>⟨ls _ _,h _ _ _ _ _ (ai _ _ _) (fun c hc hn=>ae _ _ ?_) hb' (fun c hc=>hc.resolve_left id)⟩⟩
 rintro rfl
 rcases hb' with rfl|hb'
 ·exact hn rfl
 ·exact hc hb'
end
@[go_sem] theorem chunk_zero(sz:Nat)(cs:List AC):bg sz 0 cs=[]:=rfl
def jv(n:Nat)(L:List Nat):Nat:=((dC n).filter fun i=>decide (i∉L)).length
theorem uV{n i:Nat}{L:List Nat}(hi:i<n)(hn:i∉L):jv n (L++[i])+1<=jv n L:=by
 unfold jv
 have key:∀(R:List Nat),i∈R->(R.filter fun j=>decide (j∉L++[i])).length+1<=(R.filter fun j=>decide (j∉L)).length:=by
  have mono:∀(R:List Nat),(R.filter fun j=>decide (j∉L++[i])).length<=(R.filter fun j=>decide (j∉L)).length:=by
   intro R
   induction R with
   |nil=>simp
   |cons a R ih=>
    simp only[List.filter_cons]
    by_cases h1:a∈L
    ·simp[h1];simpa using ih
    ·by_cases h2:a=i
     ·simp[h1,h2,hn];have:=ih;simp at this;omega
     ·simp[h1,h2];simpa using ih
  intro R hR
  induction R with
  |nil=>simp at hR
  |cons a R ih=>
   by_cases h2:a=i
   ·subst h2
    have:=mono R
    simp only[List.filter_cons]
    simp[hn];simpa using this
   ·have hR':i∈R:=by simpa[Ne.symm h2]using hR
    have:=ih hR'
    simp only[List.filter_cons]
    by_cases h1:a∈L
    ·simp[h1];simpa using this
    ·simp[h1,h2];simp at this;omega
 exact key _ (by simpa using hi)
inductive p9(vs:List Vr)(L:List Nat):Nat->Prop where
 |base {i:Nat}:i∈L->p9 vs L i
 |step {i j:Nat} {q:Pl} (hi:i<vs.length) (hd:vs[i].dead=false) (hl:vs[i].lent=true) (hq:q∈vs[i].loans) (hj:p9 vs L j) (hjl:j<vs.length) (hn:vs[j].name=q.name):p9 vs L i
open Classical in
noncomputable def wa (vs:List Vr) (L:List Nat):List Nat:=(dC vs.length).reverse.filter fun i=>decide (p9 vs L i)
def bE(L:List Nat):List (List AC):=L.map fun(i:Nat)=>[I i]
theorem oi{ps:List Pl}{k:Nat}(h:k<ps.length):(ps.map Pl.enc)[k]?=some [S ps[k].name,au ps[k].path]:=by simp[h,Pl.enc]
def kT(vs:List Vr)(L:List Nat)(i:Nat):Prop:=i∈L\/∀(h:i<vs.length),vs[i].dead=true\/vs[i].lent=false\/∀q∈vs[i].loans,∀j∈L,∀(hj:j<vs.length),vs[j].name≠q.name
theorem pH{vs:List Vr}{L0 L:List Nat}(h0:∀i∈L0,i∈L)(hc:∀i,i<vs.length->kT vs L i)(i:Nat)(h:p9 vs L0 i):i∈L:=by
 induction h with
 |base hi=>exact h0 _ hi
 |step hi hd hl hq hj hjl hn ih=>
  rcases hc _ hi with h|h
  ·exact h
  ·rcases h hi with h|h|h
   ·rw[hd]at h;simp at h
   ·rw[hl]at h;simp at h
   ·exact absurd hn (h _ hq _ ih hjl)
section
variable {P:Program}{F:Ids}
theorem nL(L:Lib P F)(xs:List Nat)(n:Nat)(tok:Option (Nat×Nat×Nat))(hl:xs.length<=2^40):cI P 229 [.sl 1 tok (bE xs),I n] (B (decide (n∈xs))):=by
 have h:=yY L (xs.map Int.ofNat) n (by simpa using hl)
 have e1:List.map (fun i=>[I i]) (List.map Int.ofNat xs)=bE xs:=by simp[bE]
 have e2:(xs.map Int.ofNat).contains (n:Int)=decide (n∈xs):=by
  rw[aX]
  simp only[List.contains_iff_mem,aZ,decide_eq_true_eq]
  constructor
  ·rintro⟨a,ha,he⟩
   have:a=n:=Int.ofNat.inj he
   exact this▸ha
  ·intro h;exact⟨n,h,rfl⟩
 rw[e1,e2]at h
 exact h.args ⟨.tok _ _ _,.refl _,trivial⟩
theorem jk{L:List Nat}{k:Nat}(h:k<L.length):(bE L)[k]?=some [I L[k]]:=by simp[bE,h]
theorem fN(L:List Nat):(bE L).length=L.length:=by simp[bE]
theorem sL{H:aj}{vs:List Vr}{b c:Nat}{cs:List AC}(hcs:cs.take ((vs.map Vr.enc).length*6)=(vs.map Vr.enc).flatten){k:Nat}(hk:k<vs.length):
 cs[k*6]?=some (S vs[k].name)/\cs[k*6+1]?=some (B vs[k].lent)/\cs[k*6+2]?=some (B vs[k].param)/\cs[k*6+3]?=some (.sl 1 none (Ty.encs vs[k].type.kids))/\
   cs[k*6+4]?=some (.sl 2 none (vs[k].loans.map Pl.enc))/\cs[k*6+5]?=some (B vs[k].dead):=by
 simp only[ao]at hcs
 refine⟨ji hcs hk (j:=0) (by omega),ji hcs hk (j:=1) (by omega),ji hcs hk (j:=2) (by omega),ji hcs hk (j:=3) (by omega),ji hcs hk (j:=4) (by omega),ji hcs hk (j:=5) (by omega)⟩
structure OrdI(vs:List Vr)(L0:List Nat)(C:Nat)(L1:List Nat):Prop where
 sub:∀i∈L0,i∈L1
 end_:∀i∈L1,p9 vs L0 i
 lt:∀i∈L1,i<vs.length
 cnt:L1.length+jv vs.length L1<=C
theorem yW(L:Lib P F)(vs:List Vr)(VS:AC)(L0:List Nat)(x0:AC)(H:aj)(hv:kc H vs VS)(hx:AppTk H 1 (bE L0) x0)(h0:∀i∈L0,i<vs.length)
(hl:vs.length<=2^20)(hl0:L0.length<=2^20)(hlo:∀v∈vs,v.loans.length<=2^20):
 ACalls P 202 [VS,x0] H fun q H'=>q=.sl 1 none (bE (wa vs L0))/\H'=H.only (gM VS):=by
 refine(L.a Tryz.func202 y202) (by simp[y202]) ?_
 have hcnt0:jv vs.length L0<=vs.length:=by unfold jv;exact cg (List.length_filter_le _ _) (by simp)
 have hI0:OrdI vs L0 (L0.length+vs.length) L0:=⟨fun _ h=>h,fun _ h=>.base h,h0,by omega⟩
 rcases hv with⟨hv,rfl⟩|⟨vb,vc,cs,rfl,hg,hc,hvc,hcs⟩
 ·have hvs:vs=[]:=by simpa using hv
  subst hvs
  have hL0:L0=[]:=by
   cases L0 with
   |nil=>rfl
   |cons a _=>have:=h0 a (by simp);simp at this
  subst hL0
  have w1:=aP (n:=(0:Int) - 1) (by omega) (by omega)
  obtain⟨tb,n0,m0,rfl,ht0⟩:=hx
  have hblk:∀d,¬gM NIL d:=by rintro d ⟨_,_,h⟩;simp at h
  simp only[y202,go_sem,rE]
  refine wp_loop (fun n E H1=>∃ag:Bool,n=(if ag then 1 else 0)/\E 0=NIL/\E 5=B ag) 1 ⟨true,rfl,rfl,rfl⟩ ?_
  rintro n E H1 ⟨ag,rfl,e0,e5⟩
  simp only[go_sem,rE,e5]
  cases ag
  ·simp only[go_sem,rE]
   intro b9 hb9
   simp only[go_sem,rE,e0,w1]
   refine aV 0 (fun k E H2=>E 9=.sl 1 (some (b9,0,0)) []/\E 10=I (-1)) ⟨rfl,rfl⟩ ?_
   rintro k E H2 - ⟨e9,e10⟩
   simp only[go_sem,rE,e10,e9]
   refine aH (fun h=>absurd h (by decide)) (fun _=>?_)
   simp only[go_sem,rE,e9]
   refine ak (q':=.sl 1 none (bE (wa [] []))) ?_ (H':=H.only (gM NIL)) (fun d o hd=>?_) ⟨rfl,rfl⟩
   ·simp only[go_sem,rE];exact .tok _ _ _
   ·rw[bS (hblk d)]at hd;simp at hd
  ·simp only[go_sem,rE]
   refine aV 0 (fun k E H2=>E 0=NIL/\E 5=B false/\E 6=I 0) ⟨e0,rfl,rfl⟩ ?_
   rintro k E H2 - ⟨e0,e5,e6⟩
   simp only[go_sem,rE,e0,e6]
   refine aH (fun h=>absurd h (by decide)) (fun _=>?_)
   simp only[go_sem,rE]
   exact⟨0,by simp,H2,aj.sub_refl _,false,by simp,e0,e5⟩
 ·have hb:∀d,gM (AC.lit (.slice (some ⟨vb,0,none⟩) (vs.map Vr.enc).length vc)) d->d=vb:=by rintro d ⟨_,_,h⟩;simp at h;exact h.1.symm
  have hrow:=fun {k:Nat} (hk:k<vs.length)=>sL (H:=H) (b:=vb) (c:=vc) hcs hk
  have hlim:vs.length<=LIM:=by simp[LIM];omega
  have hdrop:∀k,k<vs.length->True:=fun _ _=>trivial
  simp only[ao]at*
  obtain⟨tb,n0,m0,rfl,ht0⟩:=hx
  simp only[y202,go_sem,rE]
  refine wp_loop (fun n E H1=>∃(L1:List Nat) (ag:Bool) (b n1 m1:Nat),n=2*jv vs.length L1+(if ag then 1 else 0)/\OrdI vs L0 (L0.length+vs.length) L1/\(ag=false->∀i,i<vs.length->kT vs L1 i)/\
   E 0=.lit (.slice (some ⟨vb,0,none⟩) vs.length vc)/\E 1=.sl 1 (some (b,n1,m1)) (bE L1)/\H1.get b=some (.tail n1 m1)/\E 5=B ag/\H1.get vb=some (.cells cs))
   (2*jv vs.length L0+1) ⟨L0,true,tb,n0,m0,by simp,hI0,by simp,rfl,rfl,ht0,rfl,hg⟩ ?_
  rintro n E H1 ⟨L1,ag,b,n1,m1,rfl,hI1,hcl,e0,e1,hb1,e5,hg1⟩
  simp only[go_sem,rE,e5]
  cases ag
  ·simp only[go_sem,rE]
   intro b9 hb9
   have hvb9:vb≠b9:=by rintro rfl;rw[hg1]at hb9;simp at hb9
   have hmem:∀i,i<vs.length->(i∈L1↔p9 vs L0 i):=fun i hi=>⟨hI1.end_ i,fun h=>pH hI1.sub (hcl rfl) i h⟩
   have w1:=aP (n:=(vs.length:Int) - 1) (by omega) (by omega)
   simp only[go_sem,rE,e0,hlim,w1]
   refine aV vs.length (fun k E H2=>k<=vs.length/\∃(bo no mo:Nat),E 0=.lit (.slice (some ⟨vb,0,none⟩) vs.length vc)/\E 1=.sl 1 (some (b,n1,m1)) (bE L1)/\H2.get vb=some (.cells cs)/\
    E 10=I (vs.length - 1 - k)/\E 9=.sl 1 (some (bo,no,mo)) (bE (((dC vs.length).reverse.take k).filter fun i=>decide (i∈L1)))/\H2.get bo=some (.tail no mo))
    ⟨by omega,b9,0,0,by simp[go_sem,e0],by simp[go_sem,e1],by rw[ae _ _ hvb9];exact hg1,by simp[go_sem],by simp[go_sem,bE],ai _ _ _⟩ ?_
   rintro k E H2 - ⟨hk,bo,no,mo,f0,f1,hg2,f10,f9,hbo⟩
   simp only[go_sem,rE,f10]
   refine aH (fun hge=>?_) (fun hlt=>?_)
   ·have hk1:k<vs.length:=by omega
    have hkk:((vs.length:Int) - 1 - k)=((vs.length - 1 - k:Nat):Int):=by omega
    have htk:(dC vs.length).reverse.take (k+1)=(dC vs.length).reverse.take k++[vs.length - 1 - k]:=by
     rw[aC (by simpa using hk1)];simp
    have w2:=aP (n:=((vs.length - 1 - k:Nat):Int) - 1) (by omega) (by omega)
    have hlen:(((dC vs.length).reverse.take k).filter fun i=>decide (i∈L1)).length<=vs.length:=cg (List.length_filter_le _ _) (by simp;omega)
    simp only[go_sem,rE,f10,f1,hkk]
    refine am (nL L L1 (vs.length - 1 - k) (some (b,n1,m1)) (by have:=hI1.cnt;omega)) (rfl) ?_
    simp only[go_sem,rE,f10,f1,f9,hkk]
    by_cases hm:vs.length - 1 - k∈L1
    ·simp only[go_sem,rE,f10,f1,f9,hkk,hm,ax,av,ay]
     refine dS (es:=bE (((dC vs.length).reverse.take k).filter fun i=>decide (i∈L1))) (ys:=bE [vs.length - 1 - k]) (rfl) hbo (by simp[go_sem,bg,bE]) (by simp[bE]) (by rw[fN,fN];exact cg (Nat.add_le_add_right hlen 1) (by omega)) ?_
     intro b' n' m' H' fp hb' hkeep _ _
     have hvb:H'.get vb=some (.cells cs):=by
      rw[hkeep vb (by rw[hg2];simp) (by rintro rfl;rw[hbo]at hg2;simp at hg2)];exact hg2
     simp only[go_sem,rE,f10,f1,f0,hkk,w2]
     refine⟨hk1,H',aj.sub_refl _,by omega,b',n',m',hvb,by congr 2;omega,?_,hb'⟩
     rw[htk,List.filter_append,bE,bE,bE,bL]
     simp[hm]
    ·simp only[go_sem,rE,f10,f1,f9,hkk,hm,f0,w2]
     refine⟨hk1,H2,aj.sub_refl _,by omega,bo,no,mo,hg2,by congr 2;omega,?_,hbo⟩
     rw[htk,List.filter_append]
     simp[hm]
   ·have hkl:k=vs.length:=by omega
    subst hkl
    simp only[go_sem,rE,f9]
    refine ak (q':=.sl 1 none (bE (wa vs L0))) ?_ (H':=H.only (gM (AC.lit (.slice (some ⟨vb,0,none⟩) vs.length vc)))) ?_ ⟨rfl,rfl⟩
    ·simp only[go_sem,rE]
     rw[cy (by simp)]
     have:wa vs L0=List.filter (fun i=>decide (i∈L1)) (dC vs.length).reverse:=by
      unfold wa
      refine List.filter_congr fun i hi=>?_
      have:=hmem i (by simpa using hi)
      simp[this]
     rw[this]
     exact .tok _ _ _
    ·intro d o hd
     by_cases hbd:gM (AC.lit (.slice (some ⟨vb,0,none⟩) vs.length vc)) d
     ·have:=hb d hbd
      subst this
      rw[bf hbd,hg]at hd
      rw[hg2,hd]
     ·rw[bS hbd]at hd;simp at hd
  ·simp only[go_sem,rE]
   let St:=fun(L2:List Nat) (ag2:Bool)=>OrdI vs L0 (L0.length+vs.length) L2/\(ag2=false->L2=L1)/\(ag2=true->jv vs.length L2<jv vs.length L1)
   let At:=fun(L2:List Nat) (ag2:Bool) (b2 n2 m2:Nat) (i:Nat) (E:Env) (H2:aj)=>E 0=.lit (.slice (some ⟨vb,0,none⟩) vs.length vc)/\E 1=.sl 1 (some (b2,n2,m2)) (bE L2)/\
    E 5=B ag2/\E 6=I i/\H2.get b2=some (.tail n2 m2)/\H2.get vb=some (.cells cs)
   let J:Nat->Env->aj->Prop:=fun i E H2=>∃(L2:List Nat) (ag2:Bool) (b n1 m1:Nat),St L2 ag2/\(ag2=false->∀j,j<i->kT vs L1 j)/\At L2 ag2 b n1 m1 i E H2
   refine aV vs.length J
    ⟨L1,false,b,n1,m1,⟨hI1,fun _=>rfl,by simp⟩,by simp,e0,e1,rfl,rfl,hb1,hg1⟩ ?_
   rintro i E H2 hi ⟨L2,ag2,b2,n2,m2,hSt,hcl2,f0,f1,f5,f6,hb2,hg2⟩
   simp only[go_sem,rE,rA,f0,f1,f6,hlim]
   refine aH (fun hlt=>?_) (fun hge=>?_)
   ·have hi1:i<vs.length:=by omega
    obtain⟨r0,r1,r2,r3,r4,r5⟩:=hrow hi1
    have w1:=aP (n:=(i:Int)+1) (by omega) (by omega)
    have hlen2:L2.length<=L0.length+vs.length:=by have:=hSt.1.cnt;omega
    simp only[go_sem,rE,rA,f0,f1,f6,hlt,hg2,r5]
    have skip:∀(E':Env),E' 0=.lit (.slice (some ⟨vb,0,none⟩) vs.length vc)->E' 1=.sl 1 (some (b2,n2,m2)) (bE L2)->E' 5=B ag2->E' 6=I (i+1:Nat)->kT vs L2 i->
     i<vs.length/\∃H'',aj.sub H'' H2/\J (i+1) E' H'':=by
     intro E' g0 g1 g5 g6 hc'
     refine⟨hi1,H2,aj.sub_refl _,L2,ag2,b2,n2,m2,hSt,fun ha j hj=>?_,g0,g1,g5,g6,hb2,hg2⟩
     by_cases hji:j=i
     ·subst hji;rw[<-hSt.2.1 ha];exact hc'
     ·exact hcl2 ha j (by omega)
    by_cases hd:vs[i].dead=true
    ·simp only[go_sem,rE,rA,f0,f1,f6,hd,w1]
     exact skip _ (f0) (f1) (f5) (rfl) (.inr fun _=>.inl hd)
    simp only[Bool.not_eq_true]at hd
    by_cases hl:vs[i].lent=false
    ·simp only[go_sem,rE,rA,f0,f1,f6,hd,hl,w1,hlt,hg2,r1]
     exact skip _ (f0) (f1) (f5) (rfl) (.inr fun _=>.inr (.inl hl))
    simp only[Bool.not_eq_false]at hl
    simp only[go_sem,rE,rA,f0,f1,f6,hd,hl,w1,hlt,hg2,r1]
    refine am (nL L L2 i (some (b2,n2,m2)) (by omega)) (rfl) ?_
    by_cases hm:i∈L2
    ·simp only[go_sem,rE,rA,f0,f1,f6,hm,w1]
     exact skip _ (f0) (f1) (f5) (rfl) (.inl hm)
    simp only[go_sem,rE,rA,f0,f1,f6,hm]
    have hll:vs[i].loans.length<=2^20:=hlo _ (az hi1)
    let J2:Nat->Env->aj->Prop:=fun k E H2=>E 7=I k/\∃(L2:List Nat) (ag2:Bool) (b n1 m1:Nat),St L2 ag2/\(ag2=false->(∀j,j<i->kT vs L1 j)/\i∉L1/\
     ∀k',k'<k->∀(h:k'<vs[i].loans.length),∀j∈L1,∀(hj:j<vs.length),vs[j].name≠vs[i].loans[k'].name)/\At L2 ag2 b n1 m1 i E H2
    refine aV vs[i].loans.length J2 ⟨rfl,L2,ag2,b2,n2,m2,hSt,fun ha=>⟨hcl2 ha,by rw[<-hSt.2.1 ha];exact hm,by simp⟩,f0,f1,f5,f6,hb2,hg2⟩ ?_
    clear skip hm hSt hcl2 hb2 f0 f1 f5 f6 hg2 hlen2
    rintro k E H2 hk ⟨f7,L2,ag2,b2,n2,m2,hSt,hcl2,f0,f1,f5,f6,hb2,hg2⟩
    simp only[go_sem,rE,rA,f0,f1,f6,f7,hlt,hg2,r4,ao]
    refine aH (fun hltk=>?_) (fun hgek=>?_)
    ·have hk1:k<vs[i].loans.length:=by omega
     simp only[go_sem,rE]
     let J3:Nat->Env->aj->Prop:=fun n E H2=>E 8=I n/\E 7=I k/\∃(L2:List Nat) (ag2:Bool) (b n1 m1:Nat),St L2 ag2/\n<=L2.length/\(ag2=false->(∀j,j<i->kT vs L1 j)/\i∉L1/\
      (∀k',k'<k->∀(h:k'<vs[i].loans.length),∀j∈L1,∀(hj:j<vs.length),vs[j].name≠vs[i].loans[k'].name)/\
      ∀n',n'<n->∀(h:n'<L1.length),∀(hj:L1[n']<vs.length),vs[L1[n']].name≠vs[i].loans[k].name)/\At L2 ag2 b n1 m1 i E H2
     refine aV (L0.length+vs.length) J3 ⟨rfl,f7,L2,ag2,b2,n2,m2,hSt,by omega,fun ha=>⟨(hcl2 ha).1,(hcl2 ha).2.1,(hcl2 ha).2.2,by simp⟩,f0,f1,f5,f6,hb2,hg2⟩ ?_
     clear hSt hcl2 hb2 f0 f1 f5 f6 f7 hg2
     rintro n E H2 hn ⟨f8,f7,L2,ag2,b2,n2,m2,hSt,hn2,hcl2,f0,f1,f5,f6,hb2,hg2⟩
     have hlen2:L2.length<=L0.length+vs.length:=by have:=hSt.1.cnt;omega
     simp only[go_sem,rE,rA,f0,f1,f6,f7,f8,fN]
     refine aH (fun hltn=>?_) (fun hgen=>?_)
     ·have hn1:n<L2.length:=by omega
      have hj1:=hSt.1.lt _ (az hn1)
      have hj1':(L2[n]:Int)<vs.length:=by omega
      have w2:=aP (n:=(n:Int)+1) (by omega) (by omega)
      simp only[go_sem,rE,rA,f0,f1,f6,f7,f8,jk hn1,hj1',hlt,hg2,r4,(hrow hj1).1,oi hk1]
      by_cases he:vs[L2[n]].name=vs[i].loans[k].name
      ·simp only[go_sem,rE,rA,he]
       refine am (nL L L2 i (some (b2,n2,m2)) (by omega)) (by simp only[go_sem,rE,f1,f6]) ?_
       by_cases hm:i∈L2
       ·simp only[go_sem,rE,rA,hm,f8,w2]
        have hag:ag2=true:=by
         cases ag2
         ·exact absurd (hSt.2.1 rfl▸hm) (hcl2 rfl).2.1
         ·rfl
        subst hag
        exact⟨by omega,H2,aj.sub_refl _,rfl,f7,L2,true,b2,n2,m2,hSt,hn1,by simp,f0,f1,f5,f6,hb2,hg2⟩
       ·simp only[go_sem,rE,rA,hm,f1,f6,ax,av,ay]
        refine dS (es:=bE L2) (ys:=bE [i]) (rfl) hb2 (by simp[go_sem,bg,bE]) (by simp[bE]) (by simp[bE];omega) ?_
        intro b' n' m' H' fp hb' hkeep _ _
        have hvb:H'.get vb=some (.cells cs):=by
         rw[hkeep vb (by rw[hg2];simp) (by rintro rfl;rw[hb2]at hg2;simp at hg2)];exact hg2
        have hsnoc:=uV hi1 hm
        simp only[go_sem,rE,rA,f8,w2]
        refine⟨by omega,H',aj.sub_refl _,rfl,f7,L2++[i],true,b',n',m',⟨⟨fun j hj=>by simp[hSt.1.sub j hj],fun j hj=>?_,fun j hj=>?_,by simp;have:=hSt.1.cnt;omega⟩,by simp,fun _=>?_⟩,by simp;omega,by simp,
         by simp[go_sem,f0],by simp[go_sem,bE],by simp[go_sem],by simp[go_sem,f6],hb',hvb⟩
        ·rcases aE.1 hj with hj|hj
         ·exact hSt.1.end_ j hj
         ·simp at hj;subst hj
          exact .step hi1 hd hl (az hk1) (hSt.1.end_ _ (az hn1)) hj1 he
        ·rcases aE.1 hj with hj|hj
         ·exact hSt.1.lt j hj
         ·simp at hj;subst hj;exact hi1
        ·cases ag2
         ·have:=hSt.2.1 rfl;subst this;omega
         ·have:=hSt.2.2 rfl;omega
      ·simp only[go_sem,rE,rA,he,f8,w2]
       refine⟨by omega,H2,aj.sub_refl _,rfl,f7,L2,ag2,b2,n2,m2,hSt,hn1,fun ha=>⟨(hcl2 ha).1,(hcl2 ha).2.1,(hcl2 ha).2.2.1,fun n' hn' hl' hj'=>?_⟩,f0,f1,f5,f6,hb2,hg2⟩
       by_cases hnn:n'=n
       ·subst hnn
        have:=hSt.2.1 ha;subst this;exact he
       ·exact(hcl2 ha).2.2.2 n' (by omega) hl' hj'
     ·have hnn:n=L2.length:=by omega
      have w2:=aP (n:=(k:Int)+1) (by omega) (by omega)
      simp only[go_sem,rE,f7,w2]
      refine⟨hk1,H2,aj.sub_refl _,rfl,L2,ag2,b2,n2,m2,hSt,fun ha=>⟨(hcl2 ha).1,(hcl2 ha).2.1,fun k' hk' hkl j hj hjl=>?_⟩,f0,f1,f5,f6,hb2,hg2⟩
      by_cases hkk:k'=k
      ·subst hkk
       obtain⟨n',hn',rfl⟩:=bk.1 hj
       have:=hSt.2.1 ha;subst this
       exact(hcl2 ha).2.2.2 n' (by omega) hn' hjl
      ·exact(hcl2 ha).2.2.1 k' (by omega) hkl j hj hjl
    ·have hkk:k=vs[i].loans.length:=by omega
     simp only[go_sem,rE,f6,w1]
     refine⟨hi1,H2,aj.sub_refl _,L2,ag2,b2,n2,m2,hSt,fun ha j hj=>?_,f0,f1,f5,rfl,hb2,hg2⟩
     by_cases hji:j=i
     ·subst hji
      refine .inr fun hj'=>.inr (.inr fun q hq j' hj'' hjl=>?_)
      obtain⟨k',hk',rfl⟩:=bk.1 hq
      exact(hcl2 ha).2.2 k' (by omega) hk' j' hj'' hjl
     ·exact(hcl2 ha).1 j (by omega)
   ·have:i=vs.length:=by omega
    subst this
    simp only[go_sem,rE,f0,f1,f5]
    cases ag2
    ·have h21:=hSt.2.1 rfl
     subst h21
     refine⟨2*jv vs.length L2,by simp,H2,aj.sub_refl _,L2,false,b2,n2,m2,by simp,hI1,fun _=>hcl2 rfl,?_⟩
     simp only[go_sem,rE,f5,hb2,hg2]
    ·have:=hSt.2.2 rfl
     refine⟨2*jv vs.length L2+1,by simp;omega,H2,aj.sub_refl _,L2,true,b2,n2,m2,by simp,hSt.1,by simp,?_⟩
     simp only[go_sem,rE,f5,hb2,hg2]
end
def nz(vs:List Vr)(n:Nat)(s:ByteArray):Bool:=match vs[n]? with
 |some v=>decide (v.name=s)
 |none=>false
def jT(vs:List Vr)(p:Pl)(out:List Nat)(q:Pl):Bool:=p.meet q||out.any fun n=>nz vs n q.name
def jm(vs:List Vr)(p:Pl)(out:List Nat)(i:Nat):List Nat:=match vs[i]? with
 |some v=>if v.dead=false/\v.lent=true/\v.loans.any (jT vs p out)=true then out++[i]else out
 |none=>out
def bG(vs:List Vr)(p:Pl):Nat->List Nat
 |0=>[]
 |j+1=>jm vs p (bG vs p j) (vs.length - 1 - j)
noncomputable def eU(vs:List Vr)(p:Pl):List Nat:=wa vs (bG vs p vs.length)
theorem jR(vs:List Vr)(p:Pl):∀j,∀i∈bG vs p j,i<vs.length
 |0,i,h=>by simp[bG]at h
 |j+1,i,h=>by
  simp only[bG,jm]at h
  split at h
  ·rename_i v hv
   obtain⟨hl,-⟩:=aN.1 hv
   split at h
   ·rcases aE.1 h with h|h
    ·exact jR vs p j i h
    ·simp at h;omega
   ·exact jR vs p j i h
  ·exact jR vs p j i h
theorem kv(vs:List Vr)(p:Pl):∀j,(bG vs p j).length<=j
 |0=>by simp[bG]
 |j+1=>by
  have ih:=kv vs p j
  simp only[bG,jm]
  split
  ·split
   ·simp;omega
   ·omega
  ·omega
section
variable {P:Program}{F:Ids}
structure Vr.ok(v:Vr):Prop where
 loans:v.loans.length<=2^20
 paths:∀q∈v.loans,q.path.length<=2^20
theorem eK.blk{H:aj}{sz:Nat}{rows:List (List AC)}{x:AC}(h:eK H sz rows x){d:Nat}(hd:gM x d):∃cs,H.get d=some (.cells cs):=by
 obtain⟨n,c,rfl⟩:=hd
 rcases h with⟨-,h⟩|⟨b,c',cs,h,hg,-⟩
 ·simp at h
 ·simp at h;obtain⟨rfl,-⟩:=h;exact⟨_,hg⟩
theorem eK.sub{H H':aj}{sz:Nat}{rows:List (List AC)}{x:AC}(h:eK H sz rows x)(hs:H.sub H'):eK H' sz rows x:=
 h.mono fun d hd=>by obtain⟨cs,hc⟩:=h.blk hd;rw[hs _ _ hc,hc]
theorem aj.sub.new{H H':aj}(h:H.sub H'){b:Nat}(hb:H'.get b=none)(o:cz):H.sub (H'.set b o):=by
 intro c q hc
 have:=h c q hc
 rw[ae _ _ (by rintro rfl;rw[hb]at this;simp at this)];exact this
theorem c_ends(L:Lib P F)(e:Nat)(v:En)(VS NS:AC)(H:aj)(h:bA H e v VS NS)(hl:v.vars.length<=2^20)(ho:∀x∈v.vars,x.ok)(p:Pl)(hp:p.path.length<=2^20):
 ACalls P 155 [.ptr e 0,.agg p.enc] H fun q H'=>q=.sl 1 none (bE (eU v.vars p))/\H'=H:=by
 refine(L.a Tryz.func155 y155) (by simp[y155]) ?_
 obtain⟨pg,fn,vs,names,code⟩:=v
 obtain⟨hob,hv,hns⟩:=h
 simp only[cR]at hob hv hns hl ho
 have fin:∀(E:Env) (H1:aj) (b n m:Nat),E 0=.ptr e 0->E 5=.sl 1 (some (b,n,m)) (bE (bG vs p vs.length))->H1.get b=some (.tail n m)->H.sub H1->H.get b=none->
  (aT.seq (rg [mv 0 99 0,nc 1 100 99,fa 2 101 2 100,ld 3 102 none 101,mv 4 103 5,ca 5 104 202 [102,103],mv 6 4 104]) .ret).wp P
   (bh.post [.slot 4] fun q H'=>q=.sl 1 none (bE (eU vs p))/\H'=H) E H1:=by
  intro E H1 b n m e0 e5 hb hs hbn
  simp only[go_sem,rE,e0,hs _ _ hob,e5]
  have hv1:=hv.sub hs
  let S:=fun d=>gM VS d\/d=b
  refine gu S (yW L vs VS (bG vs p vs.length) (.sl 1 (some (b,n,m)) (bE (bG vs p vs.length))) (H1.only S) (eK.mono hv1 fun d hd=>bf (.inl hd)) ⟨b,n,m,rfl,by rw[bf (.inr rfl)];exact hb⟩
   (jR vs p _) hl (cg (kv vs p _) hl) fun x hx=>(ho x hx).loans) (rfl) (.refl _) (by simp) trivial ?_
  rintro q H' H2 ⟨rfl,rfl⟩ hsub hafter - -
  simp only[go_sem,rE]
  refine ak (q':=.sl 1 none (bE (eU vs p))) (by simp only[go_sem,rE];exact .refl _) (H':=H) (fun d o hd=>?_) ⟨rfl,rfl⟩
  have hd1:=hs _ _ hd
  by_cases hSd:gM VS d
  ·refine hsub d o ?_
   rw[bf hSd,bf (.inl hSd)];exact hd1
  ·have hn:¬S d:=fun h=>h.elim hSd (fun h=>by subst h;rw[hbn]at hd;simp at hd)
   rw[hafter.out d hn (by rw[hd1];simp)];exact hd1
 simp only[y155,go_sem,rE,Pl.enc]
 intro pb hpb ob hob'
 have hs1:H.sub (H.set pb (.cells [S p.name,au p.path])):=mq hpb
 have hs2:=hs1.new hob' (.tail 0 0)
 have hpo:pb≠ob:=by rintro rfl;simp at hob'
 have hobn:H.get ob=none:=by rw[ae _ _ (Ne.symm hpo)]at hob';exact hob'
 rcases hv with⟨hv,rfl⟩|⟨vb,vc,cs,rfl,hg,hc,hvc,hcs⟩
 ·have hvs:vs=[]:=by simpa using hv
  subst hvs
  have w1:=aP (n:=(0:Int) - 1) (by omega) (by omega)
  simp only[go_sem,rE,hs2 _ _ hob,w1]
  refine aV 0 (fun k E H1=>E 0=.ptr e 0/\E 5=.sl 1 (some (ob,0,0)) []/\H1.get ob=some (.tail 0 0)/\H.sub H1/\E 6=I (-1)) ⟨rfl,rfl,ai _ _ _,hs2,rfl⟩ ?_
  rintro k E H1 - ⟨e0,e5,hb,hs,e6⟩
  simp only[wp_seq,go_sem,rE,e6]
  refine aH (fun h=>absurd h (by decide)) (fun _=>?_)
  simp only[wp_exit,fh,dH,cu]
  exact fin _ _ ob 0 0 (e0) (by simp[go_sem,e5,bG,bE]) hb hs hobn
 ·have hrow:=fun {k:Nat} (hk:k<vs.length)=>sL (H:=H) (b:=vb) (c:=vc) hcs hk
  have hlim:vs.length<=LIM:=by simp[LIM];omega
  simp only[ao]at*
  have w1:=aP (n:=(vs.length:Int) - 1) (by omega) (by omega)
  simp only[go_sem,rE,hs2 _ _ hob,w1,hlim]
  let At:=fun(k b n m:Nat) (out:List Nat) (E:Env) (H1:aj)=>E 0=.ptr e 0/\E 3=.ptr pb 0/\E 5=.sl 1 (some (b,n,m)) (bE out)/\E 6=I (vs.length - 1 - k)/\H1.get b=some (.tail n m)/\H.get b=none/\H.sub H1/\
   H1.get pb=some (.cells [S p.name,au p.path])
  let J:Nat->Env->aj->Prop:=fun k E H1=>k<=vs.length/\∃b n m,At k b n m (bG vs p k) E H1
  refine aV vs.length J ⟨by omega,ob,0,0,by simp[go_sem],by simp[go_sem],by simp[go_sem,bG,bE],by simp[go_sem],ai _ _ _,hobn,hs2,by rw[ae _ _ hpo,ai]⟩ ?_
  rintro k E H1 hk ⟨-,b,n,m,e0,e3,e5,e6,hb,hbn,hs,hp1⟩
  have hob1:=hs _ _ hob
  have hg1:=hs _ _ hg
  simp only[wp_seq,go_sem,rE,e6]
  refine aH (fun hge=>?_) (fun hlt=>?_)
  ·have hi:vs.length - 1 - k<vs.length:=by omega
   have hkk:((vs.length:Int) - 1 - k)=((vs.length - 1 - k:Nat):Int):=by omega
   obtain⟨r0,r1,r2,r3,r4,r5⟩:=hrow hi
   have hvi:vs[vs.length - 1 - k]?=some vs[vs.length - 1 - k]:=a6 hi
   have hraw:bG vs p (k+1)=jm vs p (bG vs p k) (vs.length - 1 - k):=rfl
   simp only[jm,hvi]at hraw
   have hvo:=ho _ (az hi)
   generalize hix:vs.length - 1 - k=i at*
   generalize hxv:vs[i]=x at*
   have hlt:(i:Int)<vs.length:=by omega
   have w2:=aP (n:=(i:Int) - 1) (by omega) (by omega)
   have hnext:∀(E':Env) (H2:aj) (b n m:Nat) (out:List Nat),E' 0=.ptr e 0->E' 3=.ptr pb 0->E' 5=.sl 1 (some (b,n,m)) (bE out)->E' 6=I ((i:Int) - 1)->H2.get b=some (.tail n m)->H.get b=none->H.sub H2->
    H2.get pb=some (.cells [S p.name,au p.path])->bG vs p (k+1)=out->k<vs.length/\∃H'',aj.sub H'' H2/\J (k+1) E' H'':=by
    rintro E' H2 b n m out g0 g3 g5 g6 g7 g8 g9 g10 rfl
    exact⟨by omega,H2,aj.sub_refl _,by omega,b,n,m,g0,g3,g5,by rw[g6];exact congrArg (fun z:Int=>I z) (by omega),g7,g8,g9,g10⟩
   simp only[go_sem,rE,rA,e0,e6,hob1,hkk,hlt,hg1,r5]
   by_cases hd:x.dead=true
   ·simp only[go_sem,rE,rA,hd,e6,hkk,w2]
    exact hnext _ _ b n m (bG vs p k) (e0) (e3) (e5) (rfl) hb hbn hs hp1 (by rw[hraw];simp[hd])
   simp only[Bool.not_eq_true]at hd
   by_cases hle:x.lent=false
   ·simp only[go_sem,rE,rA,hd,e0,e6,hob1,hkk,hlt,hg1,r1,hle,w2]
    exact hnext _ _ b n m (bG vs p k) (e0) (e3) (e5) (rfl) hb hbn hs hp1 (by rw[hraw];simp[hle])
   simp only[Bool.not_eq_false]at hle
   simp only[go_sem,rE,rA,hd,e0,e6,hob1,hkk,hlt,hg1,r1,hle]
   simp only[hd,hle,true_and]at hraw
   let At2:=fun(c:Bool) (E:Env) (H1:aj)=>At k b n m (bG vs p k) E H1/\E 7=B c
   let J2:Nat->Env->aj->Prop:=fun j E H1=>At2 ((x.loans.take j).any (jT vs p (bG vs p k))) E H1/\E 8=I j
   refine aV x.loans.length J2 ⟨⟨⟨e0,e3,e5,e6,hb,hbn,hs,hp1⟩,rfl⟩,rfl⟩ ?_
   clear hb hs hp1 hob1 hg1 e0 e3 e5 e6
   rintro j E H1 hj ⟨⟨⟨e0,e3,e5,e6,hb,-,hs,hp1⟩,e7⟩,e8⟩
   have hob1:=hs _ _ hob
   have hg1:=hs _ _ hg
   have hloans:=hvo.loans
   simp only[go_sem,rE,rA,e0,e6,e8,hob1,hkk,hix,hlt,hg1,r4,ao]
   refine aH (fun hltj=>?_) (fun hgej=>?_)
   ·have hj1:j<x.loans.length:=by omega
    have w3:=aP (n:=(j:Int)+1) (by omega) (by omega)
    have hpath:=hvo.paths _ (az hj1)
    simp only[go_sem,rE,rA,e0,e6,e8,hob1,hkk,hix,hlt,hg1,r4,oi hj1]
    intro qb hqb
    have hpq:pb≠qb:=by rintro rfl;rw[hp1]at hqb;simp at hqb
    have hbq:b≠qb:=by rintro rfl;rw[hb]at hqb;simp at hqb
    have heq:e≠qb:=by rintro rfl;rw[hob1]at hqb;simp at hqb
    have hvq:vb≠qb:=by rintro rfl;rw[hg1]at hqb;simp at hqb
    have htk:x.loans.take (j+1)=x.loans.take j++[x.loans[j]]:=aC hj1
    have hsq:H.sub (H1.set qb (.cells [S x.loans[j].name,au x.loans[j].path])):=hs.new hqb _
    have hc:=vd L p x.loans[j] (cg hp (by decide))
    simp only[Pl.enc]at hc
    have inner:∀(E':Env) (c0:Bool) (H2:aj),c0=((x.loans.take j).any (jT vs p (bG vs p k))||p.meet x.loans[j])->At k b n m (bG vs p k) E' H2->E' 7=B c0->E' 8=I j->E' 9=.ptr qb 0->E' 10=I 0->
     H2.get qb=some (.cells [S x.loans[j].name,au x.loans[j].path])->
     ∀K:cE->Env->aj->Prop,(∀E2 H3,At2 ((x.loans.take (j+1)).any (jT vs p (bG vs p k))) E2 H3->E2 8=I j->K .normal E2 H3)->
     (aT.wp P (.block 4 (.loop (.seq (.seq (rg [mv 0 71 10,mv 1 72 5,pu 2 73 (.lenSl 72),pu 3 74 (.bin .lss 71 73)]) (.cond 74 .skip (.exit 4))) (.seq (.block 5 (.region true [mv 0 77 7,mv 1 78 77,gp 2 79 78 false (.move 0),gp 3 80 78 false (.nilCheck 79),gp 4 81 78 false (.fieldAddr 2 80),gl 5 82 78 false none 81,gp 6 83 78 false (.move 5),gp 7 84 78 false (.move 10),gp 8 85 78 false (.indexAddr 1 83 84),gl 9 86 78 false none 85,gp 10 87 78 false (.indexAddr 6 82 86),gp 11 88 78 false (.fieldAddr 0 87),gl 12 89 78 false none 88,gp 13 90 78 false (.fieldAddr 0 9),gl 14 91 78 false none 90,gp 15 92 78 false (.bin .eql 89 91),pu 16 93 (.pick 78 ct 92),mv 17 7 93])) (rg [mv 0 75 10,pu 1 76 (.bin .add 75 (ci 1)),mv 2 10 76]))))) K E' H2):=by
     rintro E' c0 H2 hc0 hAt e7 e8 e9 e10 hq K hK
     simp only[wp_block]
     let J3:Nat->Env->aj->Prop:=fun n' E H2=>n'<=(bG vs p k).length/\At k b n m (bG vs p k) E H2/\E 7=B (c0||((bG vs p k).take n').any fun n=>nz vs n x.loans[j].name)/\E 8=I j/\E 9=.ptr qb 0/\E 10=I n'/\H2.get qb=some (.cells [S x.loans[j].name,au x.loans[j].path])
     refine aV (bG vs p k).length J3 ⟨by omega,hAt,by simp[e7],e8,e9,by simpa using e10,hq⟩ ?_
     clear hAt e7 e8 e9 e10 hq
     rintro n' E H2 hn' ⟨-,⟨e0,e3,e5,e6,hb,hbn,hs,hp1⟩,e7,e8,e9,e10,hq⟩
     have hob1:=hs _ _ hob
     have hg1:=hs _ _ hg
     have hlr:=kv vs p k
     simp only[go_sem,rE,rA,e10,e5,fN]
     refine aH (fun hltn=>?_) (fun hgen=>?_)
     ·have hn1:n'<(bG vs p k).length:=by omega
      have hjl:=jR vs p k _ (az hn1)
      have hjl':(((bG vs p k)[n']:Nat):Int)<vs.length:=by omega
      have w4:=aP (n:=(n':Int)+1) (by omega) (by omega)
      have htn:((bG vs p k).take (n'+1)).any (fun n=>nz vs n x.loans[j].name)=(((bG vs p k).take n').any (fun n=>nz vs n x.loans[j].name)||decide (vs[(bG vs p k)[n']].name=x.loans[j].name)):=by
       rw[aC hn1,fY]
       simp[nz,hjl]
      cases hc1:(c0||((bG vs p k).take n').any fun n=>nz vs n x.loans[j].name)
      ·rw[hc1]at e7
       simp only[go_sem,rE,rA,e0,e5,e7,e9,e10,hob1,jk hn1,hjl',hg1,(hrow hjl).1,hq,w4]
       refine⟨hn1,H2,aj.sub_refl _,by omega,⟨e0,e3,e5,e6,hb,hbn,hs,hp1⟩,?_,e8,e9,rfl,hq⟩
       rw[htn,<-Bool.or_assoc,hc1];simp[go_sem]
      ·rw[hc1]at e7
       simp only[go_sem,rE,rA,e7,e10,w4]
       refine⟨hn1,H2,aj.sub_refl _,by omega,⟨e0,e3,e5,e6,hb,hbn,hs,hp1⟩,?_,e8,e9,rfl,hq⟩
       rw[htn,<-Bool.or_assoc,hc1];simp[go_sem]
     ·have hnn:n'=(bG vs p k).length:=by omega
      subst hnn
      rw[aW]at e7
      simp only[wp_exit,fh,dH]
      refine hK _ _ ⟨⟨e0,e3,e5,e6,hb,hbn,hs,hp1⟩,?_⟩ (e8)
      simp only[go_sem,rE,e7]
      rw[htk,fY,hc0,Bool.or_assoc]
      simp[jT]
    have back:∀E2 H3,At2 ((x.loans.take (j+1)).any (jT vs p (bG vs p k))) E2 H3->E2 8=I j->
     bp P false (fun E' H'=>j<x.loans.length/\∃H'',H''.sub H'/\J2 (j+1) E' H'') [mv 0 52 8,pu 1 53 (.bin .add 52 (ci 1)),mv 2 8 53] E2 H3 [] []:=by
     rintro E2 H3 ⟨⟨e0,e3,e5,e6,hb,-,hs,hp1⟩,e7⟩ e8
     simp only[go_sem,rE,e8,w3]
     exact⟨hj1,H3,aj.sub_refl _,⟨⟨e0,e3,e5,e6,hb,hbn,hs,hp1⟩,e7⟩,rfl⟩
    cases hc0:(x.loans.take j).any (jT vs p (bG vs p k))
    ·rw[hc0]at e7
     simp only[wp_seq,go_sem,rE,rA,e7,e3,hp1,hpq]
     refine am hc (rfl) ?_
     simp only[go_sem,rE,rA]
     refine inner _ (p.meet x.loans[j]) _ (by simp[hc0]) ⟨by simp[go_sem,e0],by simp[go_sem,e3],by simp[go_sem,e5],by simp[go_sem,e6],by rw[ae _ _ hbq];exact hb,hbn,hsq,by rw[ae _ _ hpq];exact hp1⟩ (by simp[go_sem,e7]) (by simp[go_sem,e8]) (by simp[go_sem]) (by simp[go_sem]) (by simp) _ ?_
     intro E2 H3 hA2 h8
     simp only[jU,cu,wp_region]
     exact back E2 H3 hA2 h8
    ·rw[hc0]at e7
     simp only[wp_seq,go_sem,rE,rA,e7]
     refine inner _ true _ (by simp[hc0]) ⟨by simp[go_sem,e0],by simp[go_sem,e3],by simp[go_sem,e5],by simp[go_sem,e6],by rw[ae _ _ hbq];exact hb,hbn,hsq,by rw[ae _ _ hpq];exact hp1⟩ (by simp[go_sem,e7]) (by simp[go_sem,e8]) (by simp[go_sem]) (by simp[go_sem]) (by simp) _ ?_
     intro E2 H3 hA2 h8
     simp only[jU,cu,wp_region]
     exact back E2 H3 hA2 h8
   ·have hjj:j=x.loans.length:=by omega
    subst hjj
    rw[aW]at e7
    have hrl:=kv vs p k
    cases hc0:x.loans.any (jT vs p (bG vs p k))
    ·rw[hc0]at e7 hraw
     simp only[go_sem,rE,rA,e7,e6,hkk,hix,w2]
     exact hnext _ _ b n m (bG vs p k) (e0) (e3) (e5) (rfl) hb hbn hs hp1 (by rw[hraw];simp)
    ·rw[hc0]at e7 hraw
     simp only[go_sem,rE,rA,e7,e5,e6,hkk,hix,ax,av,ay]
     refine dS (es:=bE (bG vs p k)) (ys:=bE [i]) (rfl) hb (by simp[go_sem,bg,bE]) (by simp[bE]) (by simp[bE];omega) ?_
     intro b' n' m' H' fp hb' hkeep hbb _
     have hs':H.sub H':=by
      intro d o hd
      have hd1:=hs _ _ hd
      rw[hkeep d (by rw[hd1];simp) (by rintro rfl;rw[hbn]at hd;simp at hd)];exact hd1
     have hpb':H'.get pb=some (.cells [S p.name,au p.path]):=by
      rw[hkeep pb (by rw[hp1];simp) (by rintro rfl;rw[hb]at hp1;simp at hp1)];exact hp1
     have hbn':H.get b'=none:=by
      rcases hbb with rfl|h
      ·exact hbn
      ·rcases bV (H.get b')with e|⟨o,e⟩
       ·exact e
       ·rw[hs _ _ e]at h;simp at h
     simp only[go_sem,rE,rA,e6,hkk,hix,w2]
     exact hnext _ _ b' n' m' (bG vs p k++[i]) (by simp[go_sem,e0]) (by simp[go_sem,e3]) (by simp[go_sem,bE]) (by simp[go_sem]) hb' hbn' hs' hpb' (by rw[hraw];simp)
  ·have hkk:k=vs.length:=by omega
   subst hkk
   simp only[wp_exit,fh,dH,cu]
   exact fin _ _ b n m (e0) (e5) hb hs hbn
end
theorem bA.mem{H:aj}{e:Nat}{v:En}{VS NS:AC}(h:bA H e v VS NS){d:Nat}(hd:aQ e VS NS d):H.get d≠none:=by
 rcases hd with rfl|hd|⟨sz,n,m,es,hd⟩
 ·rw[h.obj];simp
 ·obtain⟨cs,hc⟩:=h.vars.blk hd;rw[hc];simp
 ·subst hd
  rcases h.names with⟨-,h'⟩|⟨b,n',m',h',hb⟩
  ·simp at h'
  ·simp at h';obtain⟨-,⟨rfl,-⟩,-⟩:=h';rw[hb];simp
theorem bA.only{H:aj}{e:Nat}{v:En}{VS NS:AC}(h:bA H e v VS NS):bA (H.only (aQ e VS NS)) e v VS NS:=
 h.mono fun d hd=>bf hd
theorem ot(e N:Nat)(v:En):∃H' VS NS,bA H' e v VS NS/\∀b,H'.get b≠none->b=e\/N<=b:=by
 let b1:=N+e+1
 let b2:=N+e+2
 let VS:AC:=.lit (.slice (some ⟨b1,0,none⟩) (v.vars.map Vr.enc).length (v.vars.map Vr.enc).length)
 let NS:AC:=.sl 1 (some (b2,0,0)) (aD v.names)
 refine⟨((aj.empty.set b2 (.tail 0 0)).set b1 (.cells (v.vars.map Vr.enc).flatten)).set e (cR v.p v.fn VS NS v.code),VS,NS,⟨ai _ _ _,?_,?_⟩,fun b hb=>?_⟩
 ·refine .inr ⟨b1,_,(v.vars.map Vr.enc).flatten,rfl,?_,?_,aA _,?_⟩
  ·rw[ae _ _ (by omega),ai]
  ·rw[dB (sz:=6) (by simp[Vr.enc])]
  ·rw[cy];rw[dB (sz:=6) (by simp[Vr.enc])];omega
 ·refine .inr ⟨b2,0,0,rfl,?_⟩
  rw[ae _ _ (by omega),ae _ _ (by omega),ai]
 ·by_cases h1:b=e
  ·exact .inl h1
  ·rw[ae _ _ h1]at hb
   by_cases h2:b=b1
   ·exact .inr (by omega)
   ·rw[ae _ _ h2]at hb
    by_cases h3:b=b2
    ·exact .inr (by omega)
    ·rw[ae _ _ h3]at hb;simp at hb
def js(P:Program)(g:FuncId)(zas:List AC)(e:Nat)(v:En)(R:AC->En->Prop):Prop:=
 ∀(H:aj) (VS NS:AC),bA H e v VS NS->ACalls P g zas H fun q H'=>∃v' VS' NS',R q v'/\bA H' e v' VS' NS'
theorem bA.setO{H:aj}{e:Nat}{v:En}{VS NS:AC}(h:bA H e v VS NS)(c:Int):bA (H.set e (cR v.p v.fn VS NS c)) e {v with code:=c} VS NS:=by
 refine⟨ai _ _ _,eK.mono h.vars fun d hd=>ae _ _ ?_,h.names.set h.obj _⟩
 rintro rfl;exact iw h.obj h.vars hd
section
variable {P:Program}{dr:Bool}{K:Env->aj->Prop}{xs:List aJ}{E:Env}{H:aj}{l:Lds}{f:Fps}
theorem bJ{i:Nat}{g:FuncId}{args:List aG}{d:Option Nat}{inc:List Nat}{zas as':List AC}{e:Nat}{v:En}{VS NS:AC}{R:AC->En->Prop}(hc:js P g zas e v R)(hE:bA H e v VS NS)
(ha:args.map (aG.ev E)=as')(hl:LeA as' zas)(hlive:dr=true->∃q v',R q v')(hchk:dQ inc l (aQ e VS NS))
(h:∀q v' VS' NS' H1 fp,R q v'->bA H1 e v' VS' NS'->(∀b o,H.get b=some o->¬aQ e VS NS b->H1.get b=some o/\¬aQ e VS' NS' b)->
  (∀c,fp c->aQ e VS NS c\/H.get c=none)->bp P dr K xs (E.put d q) H1 l ((i,fp)::f)):
 bp P dr K (⟨i,d,none,.eff (.call g args),inc⟩::xs) E H l f:=by
 have hge:∀b,(H.only (aQ e VS NS)).get b≠none↔aQ e VS NS b:=by
  intro b
  by_cases hb:aQ e VS NS b
  ·simp only[bf hb,hb,iff_true];exact hE.mem hb
  ·simp[bS hb,hb]
 refine gu (aQ e VS NS) (hc (H.only (aQ e VS NS)) VS NS hE.only) ha hl (fun hd N=>?_) ?_ ?_
 ·obtain⟨q,v',hq⟩:=hlive hd
  obtain⟨H',VS',NS',hE',hfar⟩:=ot e N v'
  refine⟨q,H',⟨v',VS',NS',hq,hE'⟩,fun b hb hn=>?_⟩
  rcases hfar b hb with rfl|h
  ·rw[bf (.inl rfl),hE.obj]at hn;simp at hn
  ·exact h
 ·have:(fun b=>(H.only (aQ e VS NS)).get b≠none)=aQ e VS NS:=by funext b;exact propext (hge b)
  rw[this];exact hchk
 ·rintro q H' H1 ⟨v',VS',NS',hq,hE'⟩ hsub hafter hnew -
  refine h q v' VS' NS' H1 _ hq (hE'.mono fun d hd=>?_) (fun b o hb hn=>⟨by rw[hafter.out b hn (by rw[hb];simp)];exact hb,fun h=>?_⟩) (fun c hc=>?_)
  ·obtain⟨o,ho⟩:=aI.1 (hE'.mem hd)
   rw[ho];exact hsub _ _ ho
  ·rcases hnew b (hE'.mem h)with h|h
   ·exact hn h
   ·rw[hb]at h;simp at h
  ·rcases hc with hc|hc
   ·exact .inl ((hge c).1 hc)
   ·exact .inr hc
end
def fM(vs:List Vr)(n:ByteArray):Option Nat:=vs.findIdx? fun v=>decide (v.name=n)
theorem pO(vs:List Vr)(n:ByteArray):rV vs n=match fM vs n with|some i=>(i:Int)|none=>-1:=rfl
def iV(vs:List Vr)(i:Nat):List Vr:=vs.modify i fun v=>{v with dead:=true}
def ki(vs:List Vr)(L:List Nat):List Vr:=L.foldl iV vs
theorem lm(vs:List Vr)(i:Nat):(iV vs i).length=vs.length:=by simp[iV]
theorem lU:∀(L:List Nat) (vs:List Vr),(ki vs L).length=vs.length
 |[],vs=>rfl
 |i::L,vs=>by simp only[ki,d7];exact(lU L _).trans (lm vs i)
noncomputable def En.use(v:En)(p:Pl):En×Ty:=match fM v.vars p.name with
 |none=>({v with code:=dv v.code 2},.mk [])
 |some i=>match v.vars[i]? with
  |none=>(v,.mk [])
  |some x=>
   let c1:=if x.dead then dv v.code 4 else v.code
   let c2:=if(x.type.atOk p.path).isSome then c1 else dv c1 3
   ({v with code:=c2,vars:=ki v.vars (eU v.vars p)},(x.type.atOk p.path).getD (.mk []))
theorem qe{α:Type}{sz:Nat}:∀(rows:List (List α)) (i j:Nat) (x:α),(∀e∈rows,e.length=sz)->j<sz->
 (rows.modify i fun r=>r.set j x).flatten=rows.flatten.set (i*sz+j) x
 |[],i,j,x,_,_=>by simp
 |e::rows,0,j,x,h,hj=>by
  have he:e.length=sz:=h e (by simp)
  simp only[List.modify_zero_cons,av,Nat.zero_mul,bY]
  rw[List.set_append_left _ _ (by omega)]
 |e::rows,i+1,j,x,h,hj=>by
  have he:e.length=sz:=h e (by simp)
  simp only[List.modify_succ_cons,av]
  rw[qe rows i j x (fun e he=>h e (by simp[he])) hj,List.set_append_right _ _ (by rw[he,cB];omega)]
  congr 2
  rw[he,cB];omega
theorem pU{α:Type}{cs:List α}{off:Nat}(x:α)(h:off<cs.length):bx cs off [x]=cs.set off x:=by
 simp only[bx,aR,bM,bY]
 rw[List.set_eq_take_append_cons_drop,if_pos h];simp
theorem wz(vs:List Vr)(i:Nat):(iV vs i).map Vr.enc=(vs.map Vr.enc).modify i fun r=>r.set 5 (B true):=by
 unfold iV
 apply fQ
 intro k
 simp only[co,List.getElem?_modify]
 cases vs[k]? with
 |none=>rfl
 |some v=>by_cases h:i=k<;>simp[h,Vr.enc]
theorem xW{vs:List Vr}{cs:List AC}(hcs:cs.take ((vs.map Vr.enc).length*6)=(vs.map Vr.enc).flatten){i:Nat}(hi:i<vs.length):
 (bx cs (i*6+5) [B true]).length=cs.length/\(bx cs (i*6+5) [B true]).take (((iV vs i).map Vr.enc).length*6)=((iV vs i).map Vr.enc).flatten:=by
 have hlen:=dB (ys:=vs.map Vr.enc) (sz:=6) (by simp[Vr.enc])
 have h1:i*6+5<(vs.map Vr.enc).length*6:=by simp;omega
 have h2:(vs.map Vr.enc).length*6<=cs.length:=by
  have:=congrArg List.length hcs
  rw[hlen,bI]at this;omega
 rw[pU _ (by omega)]
 refine⟨by simp,?_⟩
 have h3:((iV vs i).map Vr.enc).length=(vs.map Vr.enc).length:=by simp[lm]
 rw[h3,List.take_set,hcs,wz,qe (sz:=6) _ _ _ _ (by simp[Vr.enc]) (by omega)]
theorem bA.new{H:aj}{e:Nat}{v:En}{VS NS:AC}(h:bA H e v VS NS){b:Nat}(hb:H.get b=none)(o:cz):bA (H.set b o) e v VS NS:=
 h.mono fun d hd=>ae _ _ (by rintro rfl;exact h.mem hd hb)
theorem bA.notin{H:aj}{e:Nat}{v:En}{VS NS:AC}(h:bA H e v VS NS){b:Nat}(hb:H.get b=none):¬aQ e VS NS b:=fun hd=>h.mem hd hb
theorem zH{α:Type}{cs:List α}{k:Nat}{x:α}(h:cs[k]?=some x):(cs.drop k).take 1=[x]:=by
 obtain⟨hk,rfl⟩:=aN.1 h
 rw[bO hk];rfl
structure vz(H:aj)(vs:List Vr)(i vb vc:Nat)(cs:List AC)(hi:i<vs.length):Prop where
 get:H.get vb=some (.cells cs)
 len:cs.length=vc*6
 cap:vs.length<=vc
 all:cs.take ((vs.map Vr.enc).length*6)=(vs.map Vr.enc).flatten
 name:cs[i*6]?=some (S vs[i].name)
 lent:cs[i*6+1]?=some (B vs[i].lent)
 param:cs[i*6+2]?=some (B vs[i].param)
 type:cs[i*6+3]?=some (.sl 1 none (Ty.encs vs[i].type.kids))
 loans:cs[i*6+4]?=some (.sl 2 none (vs[i].loans.map Pl.enc))
 dead:cs[i*6+5]?=some (B vs[i].dead)
 off:i*6+5<cs.length
 off3:i*6+3+1<=cs.length
 type1:(cs.drop (i*6+3)).take 1=[.sl 1 none (Ty.encs vs[i].type.kids)]
theorem kc.row{H:aj}{vs:List Vr}{VS:AC}(h:kc H vs VS){i:Nat}(hi:i<vs.length):∃vb vc cs,VS=.lit (.slice (some ⟨vb,0,none⟩) vs.length vc)/\vz H vs i vb vc cs hi:=by
 rcases h with⟨hv0,-⟩|⟨vb,vc,cs,rfl,hg,hc,hvc,hcs⟩
 ·have:vs=[]:=by simpa using hv0
  rw[this]at hi;simp at hi
 ·obtain⟨r0,r1,r2,r3,r4,r5⟩:=sL (H:=H) (b:=vb) (c:=vc) hcs hi
  simp only[ao]at hvc
  exact⟨vb,vc,cs,by simp,hg,hc,hvc,hcs,r0,r1,r2,r3,r4,r5,by omega,by omega,zH r3⟩
theorem bA.kill{H:aj}{e:Nat}{v:En}{NS:AC}{vb vc i:Nat}{cs:List AC}(h:bA H e v (.lit (.slice (some ⟨vb,0,none⟩) v.vars.length vc)) NS)(hi:i<v.vars.length)(hr:vz H v.vars i vb vc cs hi):
 bA (H.set vb (.cells (bx cs (i*6+5) [B true]))) e {v with vars:=iV v.vars i} (.lit (.slice (some ⟨vb,0,none⟩) v.vars.length vc)) NS:=by
 obtain⟨k1,k2⟩:=xW hr.all hi
 have hne:e≠vb:=by
  rintro rfl;exact iw h.obj h.vars ⟨_,_,rfl⟩
 refine⟨by rw[ae _ _ hne];exact h.obj,.inr ⟨vb,vc,_,by simp[lm],ai _ _ _,by rw[k1];exact hr.len,by simp[lm];exact hr.cap,k2⟩,h.names.set hr.get _⟩
section
variable {P:Program}{F:Ids}
theorem wA(L:Lib P F)(e:Nat)(v:En)(hl:v.vars.length<=2^40)(n:ByteArray):js P 152 [.ptr e 0,S n] e v fun q v'=>q=I (rV v.vars n)/\v'=v:=
 fun H VS NS hE=>(c_find L e v VS NS H hE hl n).mono fun q H' ⟨h1,h2⟩=>⟨v,VS,NS,⟨h1,rfl⟩,h2▸hE⟩
theorem e_ends(L:Lib P F)(e:Nat)(v:En)(hl:v.vars.length<=2^20)(ho:∀x∈v.vars,x.ok)(p:Pl)(hp:p.path.length<=2^20):js P 155 [.ptr e 0,.agg p.enc] e v fun q v'=>q=.sl 1 none (bE (eU v.vars p))/\v'=v:=
 fun H VS NS hE=>(c_ends L e v VS NS H hE hl ho p hp).mono fun q H' ⟨h1,h2⟩=>⟨v,VS,NS,⟨h1,rfl⟩,h2▸hE⟩
def Ty.wf(t:Ty):Prop:=∃D,D<=8/\t.le D
theorem AB(vs:List Vr)(p:Pl):∀i∈eU vs p,i<vs.length:=by
 intro i hi
 have:=(eR.1 hi).1
 simpa using this
theorem yG(vs:List Vr)(p:Pl):(eU vs p).length<=vs.length:=by
 refine cg (List.length_filter_le _ _) ?_
 simp
theorem e_use(L:Lib P F)(e:Nat)(v:En)(hl:v.vars.length<=2^20)(ho:∀x∈v.vars,x.ok/\x.type.wf)(p:Pl)(hp:p.path.length<=2^20):
 js P 95 [.ptr e 0,.agg p.enc] e v fun q v'=>q=.agg (v.use p).2.enc/\v'=(v.use p).1:=by
 intro H VS NS hE
 refine(L.a Tryz.func95 y95) (by simp[y95,f95]) ?_
 simp only[y95,f95,go_sem,rE,Pl.enc]
 intro b3 hb3 b4 hb4
 have h34:b3≠b4:=by rintro rfl;simp at hb4
 have he3:=hE.new hb3 (.cells [S p.name,au p.path])
 have he4:=he3.new hb4 (.cells [.lit (.slice none 0 0)])
 have n4:=(he3.notin hb4)
 simp only[go_sem,rE,rA,h34]
 refine bJ (wA L e v (by omega) p.name) he4 (rfl) (.refl _) (by simp) trivial ?_
 rintro q v VS1 NS1 H1 fp ⟨rfl,rfl⟩ hE1 hk1 -
 obtain⟨g3,n3⟩:=hk1 b3 (.cells [S p.name,au p.path]) (by simp[go_sem,h34]) (hE.notin hb3)
 obtain⟨g4,n4⟩:=hk1 b4 (.cells [.lit (.slice none 0 0)]) (by simp) n4
 have e3:e≠b3:=fun h=>n3 (.inl h.symm)
 have e4:e≠b4:=fun h=>n4 (.inl h.symm)
 have ho1:=hE1.obj
 simp only[cR]at ho1
 simp only[go_sem,rE,rA,pO]
 cases hi:fM v.vars p.name with
 |none=>
  simp only[go_sem,rE,rA,Int.reduceLT]
  refine gx (lw L e v.p v.fn VS1 NS1 v.code 2) (rfl) (by simpa only[cR]using ho1) (by simp) trivial ?_
  rintro q o' ⟨rfl,rfl⟩
  have hE2:=hE1.setO (dv v.code 2)
  simp only[go_sem,rE,rA,g4,Ne.symm e4]
  exact bP (off:=0) (rfl) (ai _ _ _) rfl eX (aj.sub_refl _) ⟨_,VS1,NS1,⟨by simp[En.use,hi],rfl⟩,by
   simp only[En.use,hi]
   exact hE2.mono fun d hd=>ae _ _ (by rintro rfl;exact n4 hd)⟩
 |some i=>
  obtain⟨hil,-,-⟩:=bN.1 hi
  have hge:¬(i:Int)<0:=by omega
  have hlt:(i:Int)<v.vars.length:=by omega
  have hvi:v.vars[i]?=some v.vars[i]:=a6 hil
  obtain⟨hvo,D,-,hD⟩:=ho _ (az hil)
  obtain⟨vb,vc,cs,rfl,hr⟩:=hE1.vars.row hil
  have hta:=Bh L D v.vars[i].type hD p.path (by omega)
  rw[Ty.enc_eq]at hta
  simp only[go_sem,rE,rA,hge,ho1,hlt,hr.get,hr.dead]
  have step3:∀(E:Env) (H2:aj) (v2:En) (u:Ty) (t6:Nat) (VS2 NS2:AC),bA H2 e v2 VS2 NS2->¬aQ e VS2 NS2 b4->E 4=.ptr b4 0->E 6=.ptr t6 0->H2.get b4=some (.cells [NIL])->
   H2.get t6=some (.cells [.sl 1 none (Ty.encs u.kids)])->
   (aT.wp P (.seq (rg [ld 0 66 (some 1) 6,en 1 (.store 1 4 66)]) .ret) (bh.post [jq.cell 4 (some 1)] fun q H'=>∃v' VS' NS',(q=AC.agg u.enc/\v'=v2)/\bA H' e v' VS' NS') E H2):=by
   intro E H2 v2 u t6 VS2 NS2 hE2 n4 e4 e6 g4 g6
   simp only[go_sem,rE,rA,e4,e6,g6,g4]
   refine bP (q':=.agg u.enc) (off:=0) (e4) (ai _ _ _) rfl (by rw[Ty.enc_eq];exact .refl _) (aj.sub_refl _) ⟨v2,VS2,NS2,⟨rfl,rfl⟩,?_⟩
   exact hE2.mono fun d hd=>ae _ _ (by rintro rfl;exact n4 hd)
  have step2:∀(E:Env) (H2:aj) (c2:Int) (u:Ty) (t6:Nat) (VS2 NS2:AC),bA H2 e {v with code:=c2} VS2 NS2->E 0=.ptr e 0->E 3=.ptr b3 0->E 4=.ptr b4 0->E 6=.ptr t6 0->
   H2.get b3=some (.cells [S p.name,au p.path])->H2.get b4=some (.cells [NIL])->H2.get t6=some (.cells [.sl 1 none (Ty.encs u.kids)])->¬aQ e VS2 NS2 b4->¬aQ e VS2 NS2 t6->
   (aT.wp P (kd1) (bh.post [jq.cell 4 (some 1)] fun q H'=>∃v' VS' NS',(q=AC.agg u.enc/\v'={v with code:=c2,vars:=ki v.vars (eU v.vars p)})/\bA H' e v' VS' NS') E H2):=by
   intro E H2 c2 u t6 VS2 NS2 hE2 e0 e3 e4 e6 g3 g4 g6 n4 n6
   rw[kd1,fd1]
   simp only[go_sem,rE,rA,e0,e3,g3]
   refine bJ (e_ends L e {v with code:=c2} hl (fun x hx=>(ho x hx).1) p hp) hE2 (by simp only[go_sem,rE,Pl.enc]) (.refl _) (by simp) trivial ?_
   rintro q v' VS3 NS3 H3 fp ⟨rfl,rfl⟩ hE3 hk3 -
   obtain⟨g4,n4⟩:=hk3 _ _ g4 n4
   obtain⟨g6,n6⟩:=hk3 _ _ g6 n6
   simp only[go_sem,rE,rA]
   have hll:=yG v.vars p
   refine aV (eU v.vars p).length (fun k E H=>bA H e {v with code:=c2,vars:=ki v.vars ((eU v.vars p).take k)} VS3 NS3/\E 0=.ptr e 0/\E 4=.ptr b4 0/\E 6=.ptr t6 0/\E 8=.sl 1 none (bE (eU v.vars p))/\E 9=I k/\
    H.get b4=some (.cells [NIL])/\H.get t6=some (.cells [.sl 1 none (Ty.encs u.kids)])) ⟨hE3,e0,e4,e6,rfl,rfl,g4,g6⟩ ?_
   rintro k E H hk ⟨hE3,e0,e4,e6,e8,e9,g4,g6⟩
   simp only[wp_seq,go_sem,rE,rA,e8,e9,fN]
   refine aH (fun hlt=>?_) (fun hge=>?_)
   ·have hk1:k<(eU v.vars p).length:=by omega
    have hil:=AB _ _ _ (az hk1)
    have hil2:(eU v.vars p)[k]<(ki v.vars ((eU v.vars p).take k)).length:=by rw[lU];exact hil
    have w1:=aP (n:=(k:Int)+1) (by omega) (by omega)
    obtain⟨vb3,vc3,cs3,rfl,hr3⟩:=hE3.vars.row hil2
    have hob:=hE3.obj
    have hE4:=hE3.kill hil2 hr3
    simp only[cR,lU]at hob hE4
    have hlt3:(((eU v.vars p)[k]:Nat):Int)<v.vars.length:=by omega
    simp only[go_sem,rE,rA,e0,e8,e9,hob,jk hk1,hlt3,hr3.get,hr3.off,w1,lU]
    refine⟨?_,hk1,_,aj.sub_refl _,?_,?_⟩
    ·have:=hr3.off;omega
    ·rw[aC hk1,ki,List.foldl_append]
     exact hE4
    ·have d4:b4≠vb3:=by rintro rfl;exact n4 (.inr (.inl ⟨_,_,rfl⟩))
     have d6:t6≠vb3:=by rintro rfl;exact n6 (.inr (.inl ⟨_,_,rfl⟩))
     simp[go_sem,e0,e4,e6,e8,ae _ _ d4,ae _ _ d6,g4,g6]
   ·have hkk:k=(eU v.vars p).length:=by omega
    subst hkk
    rw[aW]at hE3
    simp only[wp_exit,fh,dH,cu]
    exact step3 _ _ _ u t6 _ _ hE3 n4 (e4) (e6) g4 g6
  have step1:∀(E:Env) (H2:aj) (c1:Int),bA H2 e {v with code:=c1} (AC.lit (Value.slice (some {block:=vb,off:=0}) v.vars.length vc)) NS1->E 0=.ptr e 0->E 3=.ptr b3 0->E 4=.ptr b4 0->E 5=I i->
   H2.get b3=some (.cells [S p.name,au p.path])->H2.get b4=some (.cells [NIL])->c1=(if v.vars[i].dead then dv v.code 4 else v.code)->
   (aT.wp P (.seq (.region true [mv 0 30 0,nc 1 31 30,fa 2 32 2 31,ld 3 33 none 32,mv 4 34 5,ia 5 35 6 33 34,fa 6 36 3 35,ld 7 37 (some 1) 36,fa 8 38 1 3,ld 9 39 none 38,ca 10 40 154 [37,39],mv 11 29 40,pu 12 41 (.extract 29 0),pu 13 42 (.extract 29 1),ef 14 6 (.alloc [.slice none 0 0]),en 15 (.store 1 6 41),mv 16 7 42]) (.seq (.seq (rg [mv 0 43 7,pu 1 44 (.not 43)]) (.cond 44 (rg [mv 0 45 0,ca 1 46 153 [45,ci 3]]) .skip)) (kd1))) (bh.post [jq.cell 4 (some 1)] fun q H'=>∃v' VS' NS',(q=AC.agg (v.use p).2.enc/\v'=(v.use p).1)/\bA H' e v' VS' NS') E H2):=by
   intro E H2 c1 hE2 f0 f3 f4 f5 g3 g4 hc1
   obtain⟨vb5,vc5,cs5,heq,hr5⟩:=hE2.vars.row hil
   simp only[AC.lit.injEq,Value.slice.injEq,Option.some.injEq,Addr.mk.injEq,true_and,and_true]at heq
   obtain⟨rfl,rfl⟩:=heq
   have ho2:=hE2.obj
   simp only[cR]at ho2
   simp only[go_sem,rE,rA,f0,f3,f5,ho2,hlt,hr5.get,hr5.off3,hr5.type1,g3,rL]
   refine am hta (rfl) ?_
   have nV:¬aQ e (AC.lit (Value.slice (some {block:=vb,off:=0}) v.vars.length vc)) NS1 b4:=n4
   cases hat:v.vars[i].type.atOk p.path with
   |none=>
    simp only[iG,go_sem,rE,rA,Ty.enc]
    intro t6 ht6
    have n6:=hE2.notin ht6
    have hE3:=hE2.new ht6 (.cells [AC.sl 1 none (Ty.encs [])])
    have d6e:e≠t6:=by rintro rfl;exact n6 (.inl rfl)
    have d64:b4≠t6:=by rintro rfl;rw[g4]at ht6;simp at ht6
    have d63:b3≠t6:=by rintro rfl;rw[g3]at ht6;simp at ht6
    refine gx (lw L e v.p v.fn _ NS1 c1 3) (by simp only[go_sem,rE,f0]) (by simp only[go_sem,d6e];simpa only[cR]using ho2) (by simp) trivial ?_
    rintro q o' ⟨rfl,rfl⟩
    have hE4:=hE3.setO (dv c1 3)
    simp only[go_sem]
    have hu:v.use p=({v with code:=dv c1 3,vars:=ki v.vars (eU v.vars p)},.mk []):=by
     simp only[En.use,hi,hvi,hat,<-hc1];rfl
    rw[hu]
    refine step2 _ _ (dv c1 3) (.mk []) t6 _ _ hE4 (f0) (f3) (f4) (rfl)
     (by simp only[go_sem,Ne.symm e3,d63,g3]) (by simp only[go_sem,Ne.symm e4,d64,g4]) (by simp only[go_sem,Ne.symm d6e];rfl) nV n6
   |some u=>
    simp only[iG,go_sem,rE,rA,Ty.enc_eq u]
    intro t6 ht6
    have n6:=hE2.notin ht6
    have hE3:=hE2.new ht6 (.cells [AC.sl 1 none (Ty.encs u.kids)])
    have d64:b4≠t6:=by rintro rfl;rw[g4]at ht6;simp at ht6
    have d63:b3≠t6:=by rintro rfl;rw[g3]at ht6;simp at ht6
    have hu:v.use p=({v with code:=c1,vars:=ki v.vars (eU v.vars p)},u):=by
     simp only[En.use,hi,hvi,hat,<-hc1];rfl
    rw[hu]
    refine step2 _ _ c1 u t6 _ _ hE3 (f0) (f3) (f4) (rfl)
     (by simp only[go_sem,d63,g3]) (by simp only[go_sem,d64,g4]) (by simp only[go_sem]) nV n6
  by_cases hd:v.vars[i].dead=true
  ·simp only[hd,nq,wp_region,zP,ev_sl,sf,iq,ne_eq,rE,not_false_eq_true]
   refine gx (lw L e v.p v.fn _ NS1 v.code 4) (rfl) (by simpa only[cR]using ho1) (by simp) trivial ?_
   rintro q o' ⟨rfl,rfl⟩
   have hE2:=hE1.setO (dv v.code 4)
   simp only[kr,cu]
   exact step1 _ _ _ hE2 (rfl) (rfl) (rfl) (rfl) (by simp only[go_sem,Ne.symm e3,g3]) (by simp only[go_sem,Ne.symm e4,g4]) (by simp[hd])
  ·simp only[Bool.not_eq_true]at hd
   simp only[hd,lH,wp_skip,cu]
   exact step1 _ _ _ hE1 (rfl) (rfl) (rfl) (rfl) g3 g4 (by simp[hd])
end
inductive Ex.ok:Ex->Prop where
 |mk {k n:Int} {p:Pl} {ks:List Ex} (hp:p.path.length<=2^20) (hk:k≠1->k≠2->2<=ks.length) (hs:∀x∈ks,Ex.ok x):Ex.ok (.mk k n p ks)
def En.num(v:En)(t:Ty):En:={v with code:=if t.kids=[]then v.code else dv v.code 3}
noncomputable def En.same(v:En)(a t:Ty):En:={v with code:=if a=t then v.code else dv v.code 3}
def En.fail(v:En)(c:Int):En:={v with code:=dv v.code c}
noncomputable def En.expr(v:En):Ex->En×Ty
 |.mk k n p ks=>if k=1 then(v,.mk [])else if k=2 then v.use p else match ks with
  |a::b::_=>
   let r1:=v.expr a
   let r2:=r1.1.expr b
   if k=6 then(if(Ty.mk [r1.2,r2.2]).okB then(r2.1,.mk [r1.2,r2.2])else(r2.1.fail 3,.mk []))
   else((r2.1.num r1.2).num r2.2,.mk [])
  |_=>(v,.mk [])
termination_by x=>SizeOf.sizeOf x
theorem En.expr_eq(v:En)(k n:Int)(p:Pl)(ks:List Ex):v.expr (.mk k n p ks)=if k=1 then(v,.mk [])else if k=2 then v.use p else match ks with
 |a::b::_=>if k=6 then(if(Ty.mk [(v.expr a).2,((v.expr a).1.expr b).2]).okB then(((v.expr a).1.expr b).1,.mk [(v.expr a).2,((v.expr a).1.expr b).2])else(((v.expr a).1.expr b).1.fail 3,.mk []))
  else((((v.expr a).1.expr b).1.num (v.expr a).2).num ((v.expr a).1.expr b).2,.mk [])
 |_=>(v,.mk []):=by
 rw[En.expr.eq_def]
structure En.ok(v:En):Prop where
 len:v.vars.length<=2^20
 all:∀x∈v.vars,x.ok/\x.type.wf
structure En.like(v w:En):Prop where
 p:w.p=v.p
 fn:w.fn=v.fn
 names:w.names=v.names
 vars:w.vars.map (fun x=>{x with dead:=false})=v.vars.map (fun x=>{x with dead:=false})
theorem En.like.refl(v:En):v.like v:=⟨rfl,rfl,rfl,rfl⟩
theorem En.like.trans{u v w:En}(h:u.like v)(h':v.like w):u.like w:=⟨h'.p.trans h.p,h'.fn.trans h.fn,h'.names.trans h.names,h'.vars.trans h.vars⟩
theorem En.like.len{v w:En}(h:v.like w):w.vars.length=v.vars.length:=by
 have:=congrArg List.length h.vars;simpa using this
theorem En.like.ok{v w:En}(h:v.like w)(ho:v.ok):w.ok:=by
 refine⟨by rw[h.len];exact ho.len,fun x hx=>?_⟩
 have:{x with dead:=false}∈v.vars.map (fun x:Vr=>{x with dead:=false}):=by rw[<-h.vars];exact aZ.2 ⟨x,hx,rfl⟩
 obtain⟨y,hy,he⟩:=aZ.1 this
 obtain⟨⟨h1,h2⟩,h3⟩:=ho.all y hy
 simp only[Vr.mk.injEq]at he
 obtain⟨-,-,-,e1,e2,-⟩:=he
 exact⟨⟨e2▸h1,e2▸h2⟩,e1▸h3⟩
theorem uB(vs:List Vr)(i:Nat):(iV vs i).map (fun x=>{x with dead:=false})=vs.map (fun x=>{x with dead:=false}):=by
 apply fQ
 intro k
 simp only[iV,co,List.getElem?_modify]
 cases vs[k]? with
 |none=>rfl
 |some v=>by_cases h:i=k<;>simp[h]
theorem sk:∀(L:List Nat) (vs:List Vr),(ki vs L).map (fun x=>{x with dead:=false})=vs.map (fun x=>{x with dead:=false})
 |[],vs=>rfl
 |i::L,vs=>by simp only[ki,d7];exact(sk L _).trans (uB vs i)
theorem En.use_like(v:En)(p:Pl):v.like (v.use p).1:=by
 unfold En.use
 split
 ·exact⟨rfl,rfl,rfl,rfl⟩
 ·split
  ·exact .refl _
  ·exact⟨rfl,rfl,rfl,sk _ _⟩
theorem vv:∀(p:List Int) (t:Ty),t.wf->∀u,t.at p=some u->u.wf
 |[],t,h,u,e=>by simp[Ty.at]at e;exact e▸h
 |i::p,.mk ks,⟨D,h8,hD⟩,u,e=>by
  simp only[Ty.at]at e
  split at e
  ·cases hk:ks[i.toNat]? with
   |none=>rw[hk]at e;simp at e
   |some x=>
    rw[hk]at e
    obtain⟨D',hDD,hx⟩:=(jb hD).2 x (aY hk)
    exact vv p x ⟨D',by omega,hx⟩ u e
  ·simp at e
theorem dK:(Ty.mk []).wf:=⟨0,by omega,rfl⟩
theorem ri:∀(d d':Nat) (t:Ty),d<=d'->t.le d->t.le d'
 |0,0,t,_,h=>h
 |0,d'+1,.mk ks,_,h=>by simp only[Ty.le]at h;subst h;exact jM _
 |d+1,d'+1,.mk ks,hd,h=>⟨h.1,fun k hk=>ri d d' k (by omega) (h.2 k hk)⟩
theorem Ty.deep_le:∀(n:Nat) (t:Ty),t.deepB n=true->t.le n
 |0,.mk ks,h=>by simp[Ty.deepB]at h
 |n+1,.mk ks,h=>by
  simp only[Ty.deepB,aw,dh,aS,decide_eq_true_eq]at h
  obtain⟨h1,h2⟩:=h
  exact⟨by omega,fun k hk=>Ty.deep_le n k (h2 k hk)⟩
theorem rh{t:Ty}(h:t.okB=true):t.wf:=⟨4,by omega,Ty.deep_le 4 t h⟩
theorem iF{v:En}(h:v.ok)(p:Pl):(v.use p).2.wf:=by
 unfold En.use
 split
 ·exact dK
 ·split
  ·exact dK
  ·rename_i x hx
   have hw:=(h.all x (aY hx)).2
   simp only[Ty.atOk]
   split
   ·cases e:x.type.at p.path with
    |none=>exact dK
    |some u=>exact vv _ _ hw _ e
   ·exact dK
theorem En.expr_good:∀(x:Ex) (v:En),v.ok->v.like (v.expr x).1/\(v.expr x).2.wf
 |.mk k n p ks,v,h=>by
  rw[En.expr_eq]
  split
  ·exact⟨.refl _,dK⟩
  ·split
   ·exact⟨v.use_like p,iF h p⟩
   ·split
    ·rename_i a b l
     obtain⟨h1,w1⟩:=En.expr_good a v h
     obtain⟨h2,w2⟩:=En.expr_good b _ (h1.ok h)
     have h3:=h1.trans h2
     split
     ·split
      ·rename_i hok;exact⟨h3,rh hok⟩
      ·exact⟨h3.trans ⟨rfl,rfl,rfl,rfl⟩,dK⟩
     ·exact⟨h3.trans ⟨rfl,rfl,rfl,rfl⟩,dK⟩
    ·exact⟨.refl _,dK⟩
termination_by x=>SizeOf.sizeOf x
theorem al{H:aj}{b c:Nat}{o:cz}(h:H.get b=some o)(h':H.get c=none):b≠c:=by rintro rfl;rw[h]at h';simp at h'
theorem bA.ne{H:aj}{e:Nat}{v:En}{VS NS:AC}(h:bA H e v VS NS){b:Nat}(hb:H.get b=none):e≠b:=al h.obj hb
section
variable {P:Program}{F:Ids}
theorem nH(L:Lib P F)(e:Nat)(v:En)(h:v.ok)(p:Pl)(hp:p.path.length<=2^20):
 js P 95 [.ptr e 0,.agg p.enc] e v fun q v'=>q=.agg (v.use p).2.enc/\v'=(v.use p).1:=e_use L e v h.len h.all p hp
theorem post_rc{E:Env}{H:aj}{n r off:Nat}{g:Option Nat}{cs:List AC}{q:AC}{R:AC->aj->Prop}(hE:E n=.ptr r off)(hg:H.get r=some (.cells cs))(hq:fH g cs off=some q)
(h:R q H):bh.post [.cell n g] R .ret E H:=y6 hE hg hq H.sub_refl h
theorem nJ(L:Lib P F)(e:Nat):∀(n:Nat) (x:Ex),SizeOf.sizeOf x<=n->x.ok->∀(v:En),v.ok->js P 99 [.ptr e 0,.agg x.enc] e v fun q v'=>q=.agg (v.expr x).2.enc/\v'=(v.expr x).1:=by
 intro n
 induction n with
 |zero=>rintro⟨k,m,p,ks⟩ h;simp at h
 |succ n ih=>
  rintro⟨k,m,p,ks⟩ hn hx v hv H VS NS hE
  obtain⟨hp,hk2,hks⟩:=hx
  refine(L.a Tryz.func99 y99) (by simp[y99]) ?_
  simp only[y99,go_sem,rE,Ex.enc]
  intro b3 hb3 b4 hb4
  have h34:b3≠b4:=by rintro rfl;simp at hb4
  have he3:=hE.new hb3 (.cells [I k,I m,S p.name,au p.path,.sl 5 none (Ex.encs ks)])
  have he4:=he3.new hb4 (.cells [.lit (.slice none 0 0)])
  have n3:=he4.notin (b:=b3)
  have d3e:e≠b3:=by rintro rfl;exact hE.notin hb3 (.inl rfl)
  have d4e:e≠b4:=by rintro rfl;exact he3.notin hb4 (.inl rfl)
  by_cases h1:k=1
  ·subst h1
   simp only[go_sem,rE,rA,h34,beq_self_eq_true]
   refine bP (q':=.agg (Ty.mk []).enc) (off:=0) (rfl) (ai _ _ _) rfl eX (aj.sub_refl _) ⟨v,VS,NS,⟨by simp[En.expr_eq],by simp[En.expr_eq]⟩,?_⟩
   exact he4
  ·by_cases h2:k=2
   ·subst h2
    simp only[go_sem,rE,rA,h34,beq_self_eq_true,aF,rL]
    refine bJ (nH L e v hv p hp) he4 (by simp only[go_sem,rE,Pl.enc]) (.refl _) (by simp) trivial ?_
    rintro q v' VS1 NS1 H1 fp ⟨rfl,rfl⟩ hE1 hk1 -
    obtain⟨g4,n4⟩:=hk1 b4 (.cells [.lit (.slice none 0 0)]) (by simp) (he3.notin hb4)
    simp only[go_sem,rE,rA,g4,Ty.enc_eq (v.use p).2]
    refine post_rc (off:=0) (rfl) (ai _ _ _) rfl ⟨(v.use p).1,VS1,NS1,⟨by simp[En.expr_eq,Ty.enc_eq],by simp[En.expr_eq]⟩,?_⟩
    exact hE1.mono fun d hd=>ae _ _ (by rintro rfl;exact n4 hd)
   ·have h1':(k==1)=false:=by simpa using h1
    have h2':(k==2)=false:=by simpa using h2
    obtain⟨a,b,l,rfl⟩:∃a b l,ks=a::b::l:=by
     rcases ks with _|⟨a,_|⟨b,l⟩⟩
     ·simp at hk2;omega
     ·simp at hk2;omega
     ·exact⟨_,_,_,rfl⟩
    have ea:(Ex.encs (a::b::l))[0]?=some a.enc:=by simp[Ex.encs]
    have eb:(Ex.encs (a::b::l))[1]?=some b.enc:=by simp[Ex.encs]
    rw[Ex.enc_eq]at ea eb
    simp only[Ex.mk.sizeOf_spec,List.cons.sizeOf_spec]at hn
    simp only[go_sem,rE,rA,h34,h1',h2',Int.toNat_zero,ea,Int.toNat_one,eA,rL]
    refine bJ (ih a (by omega) (hks a (by simp)) v hv) he4 (by simp only[go_sem,rE,Ex.enc_eq a]) (.refl _) (by simp) trivial ?_
    rintro q v1 VS1 NS1 H1 fp ⟨rfl,hv1⟩ hE1 hk1 -
    obtain⟨g3,n3⟩:=hk1 b3 (.cells [I k,I m,S p.name,au p.path,.sl 5 none (Ex.encs (a::b::l))]) (by simp[go_sem,h34]) (hE.notin hb3)
    obtain⟨g4,n4⟩:=hk1 b4 (.cells [.lit (.slice none 0 0)]) (by simp) (he3.notin hb4)
    obtain⟨lk1,wf1⟩:=En.expr_good a v hv
    rw[<-hv1]at lk1
    have hv1o:=lk1.ok hv
    clear hk1 he4 he3
    simp only[go_sem,rE,rA,Ty.enc_eq (v.expr a).2]
    intro b5 hb5
    have n5:=hE1.notin hb5
    have hE1':=hE1.new hb5 (.cells [.sl 1 none (Ty.encs (v.expr a).2.kids)])
    have d35:=al g3 hb5
    have d45:=al g4 hb5
    simp only[go_sem,rE,rA,d35,g3,eb,dN,Int.reduceToNat,rL]
    refine bJ (ih b (by omega) (hks b (by simp)) v1 hv1o) hE1' (by simp only[go_sem,rE,Ex.enc_eq b]) (.refl _) (by simp) trivial ?_
    rintro q v2 VS2 NS2 H2 fp2 ⟨rfl,hv2⟩ hE2 hk2 -
    obtain⟨g3,n3⟩:=hk2 b3 (.cells [I k,I m,S p.name,au p.path,.sl 5 none (Ex.encs (a::b::l))]) (by simp[go_sem,d35,g3]) n3
    obtain⟨g4,n4⟩:=hk2 b4 (.cells [.lit (.slice none 0 0)]) (by simp[go_sem,d45,g4]) n4
    obtain⟨g5,n5⟩:=hk2 b5 (.cells [.sl 1 none (Ty.encs (v.expr a).2.kids)]) (by simp) n5
    obtain⟨lk2,wf2⟩:=En.expr_good b v1 hv1o
    rw[<-hv2]at lk2
    have hx:v.expr (.mk k m p (a::b::l))=if k=6 then(if(Ty.mk [(v.expr a).2,(v1.expr b).2]).okB then(v2,.mk [(v.expr a).2,(v1.expr b).2])else(v2.fail 3,.mk []))
     else((v2.num (v.expr a).2).num (v1.expr b).2,.mk []):=by
     rw[En.expr_eq];simp only[h1,h2,if_false,<-hv1,<-hv2]
    rw[hx]
    generalize(v.expr a).2=ta at*
    generalize(v1.expr b).2=tb at*
    clear hk2
    simp only[go_sem,rE,rA,Ty.enc_eq tb]
    intro b6 hb6
    have n6:=hE2.notin hb6
    have hE2':=hE2.new hb6 (.cells [.sl 1 none (Ty.encs tb.kids)])
    have d36:=al g3 hb6
    have d46:=al g4 hb6
    have d56:=al g5 hb6
    by_cases h6:k=6
    ·subst h6
     simp only[go_sem,rE,rA,d36,g3,d56,g5,beq_self_eq_true,rL,ax,av,ay,bg]
     intro bs hbs
     have hs6:=al (ai H2 b6 (.cells [.sl 1 none (Ty.encs tb.kids)])) hbs
     have hE3:=hE2'.new hbs (.tail 2 2)
     intro b7 hb7
     have hE4:=hE3.new hb7 (.cells [AC.sl 1 (some (bs,2,2)) [[AC.sl 1 none (Ty.encs ta.kids)],[AC.sl 1 none (Ty.encs tb.kids)]]])
     have hle:Le (.agg [AC.sl 1 (some (bs,2,2)) [[AC.sl 1 none (Ty.encs ta.kids)],[AC.sl 1 none (Ty.encs tb.kids)]]]) (.agg (Ty.mk [ta,tb]).enc):=by
      have:=le_ty (some (bs,2,2)) [ta,tb]
      simpa[Ty.encs,Ty.enc_eq ta,Ty.enc_eq tb]using this
     have d47:b4≠b7:=by
      have:((H2.set b6 (.cells [.sl 1 none (Ty.encs tb.kids)])).set bs (.tail 2 2)).get b4=some (.cells [.lit (.slice none 0 0)]):=by
       have d4s:b4≠bs:=al (H:=H2.set b6 (.cells [.sl 1 none (Ty.encs tb.kids)])) (by rw[ae _ _ d46];exact g4) hbs
       rw[ae _ _ d4s,ae _ _ d46];exact g4
      exact al this hb7
     have d4s:b4≠bs:=al (H:=H2.set b6 (.cells [.sl 1 none (Ty.encs tb.kids)])) (by rw[ae _ _ d46];exact g4) hbs
     refine gv (as':=[.agg [AC.sl 1 (some (bs,2,2)) [[AC.sl 1 none (Ty.encs ta.kids)],[AC.sl 1 none (Ty.encs tb.kids)]]]]) (ox L (.mk [ta,tb])) (rfl) ⟨hle,trivial⟩ ?_
     cases hok:(Ty.mk [ta,tb]).okB
     ·simp only[go_sem,rE,rA,rL]
      refine gx (lw L e v2.p v2.fn VS2 NS2 v2.code 3) (rfl) hE4.obj (by simp) trivial ?_
      rintro q o' ⟨rfl,rfl⟩
      have hE5:=hE4.setO (dv v2.code 3)
      have d4e:b4≠e:=fun h=>n4 (.inl h)
      simp only[go_sem,rE,rA,d4e,d47,d4s,d46,g4,rL]
      refine bP (q':=.agg (Ty.mk []).enc) (off:=0) (rfl) (ai _ _ _) rfl eX (aj.sub_refl _) ⟨_,VS2,NS2,⟨rfl,rfl⟩,?_⟩
      refine bA.mono hE5 ?_
      intro d hd
      have hdn:d≠b4:=by rintro rfl;exact n4 hd
      exact ae _ _ hdn
     ·simp only[go_sem,rE,rA,d47,d4s,d46,g4,rL]
      refine bP (q':=.agg (Ty.mk [ta,tb]).enc) (off:=0) (rfl) (ai _ _ _) rfl hle (aj.sub_refl _) ⟨v2,VS2,NS2,⟨rfl,rfl⟩,?_⟩
      refine bA.mono hE4 ?_
      intro d hd
      have hdn:d≠b4:=by rintro rfl;exact n4 hd
      exact ae _ _ hdn
    ·have h6':(k==6)=false:=by simpa using h6
     have d6e:=hE2.ne hb6
     have ho2:=hE2.obj
     simp only[go_sem,rE,rA,d36,g3,d56,g5,h6',rL,h6]
     refine gx (AL L e v2.p v2.fn VS2 NS2 v2.code ta) (by simp only[go_sem,rE,Ty.enc_eq ta]) (by rw[ae _ _ d6e];exact ho2) (by simp) trivial ?_
     rintro q o' ⟨rfl,rfl⟩
     have hE3:=hE2'.setO (if ta.kids=[]then v2.code else dv v2.code 3)
     simp only[go_sem,rE,rA,Ne.symm d6e,rL]
     refine gx (AL L e v2.p v2.fn VS2 NS2 _ tb) (by simp only[go_sem,rE,Ty.enc_eq tb]) (ai _ _ _) (by simp) trivial ?_
     rintro q o' ⟨rfl,rfl⟩
     have hE4:=hE3.setO (if tb.kids=[]then(if ta.kids=[]then v2.code else dv v2.code 3)else dv (if ta.kids=[]then v2.code else dv v2.code 3) 3)
     rw[l5]at hE4
     have d4e:b4≠e:=fun h=>n4 (.inl h)
     simp only[go_sem,rE,rA,d46,d4e,g4,rL]
     refine bP (q':=.agg (Ty.mk []).enc) (off:=0) (rfl) (ai _ _ _) rfl eX (aj.sub_refl _) ⟨_,VS2,NS2,⟨rfl,rfl⟩,?_⟩
     refine bA.mono hE4 ?_
     intro d hd
     have hdn:d≠b4:=by rintro rfl;exact n4 hd
     exact ae _ _ hdn
end
theorem ACalls.frame{P:Program}{f:FuncId}{xs:List AC}{Hf H:aj}{R:AC->aj->Prop}(h:ACalls P f xs Hf R)(hs:Hf.sub H):
 ACalls P f xs H fun q H1=>∃H',R q H'/\H1=H.swap Hf H':=by
 intro M w vs s r
 refine(h M w vs (s.sub hs) r).mono ?_
 rintro e w' ⟨q,v,M',H',h1,h2,h3,h4,h5⟩
 obtain⟨s',t'⟩:=s.frame hs h3 h4
 exact⟨q,v,M',_,h1,h2,s',t',H',h5,rfl⟩
def PW(H H':aj):Prop:=∀b,H'.get b=H.get b\/∃o o',H.get b=some o/\H'.get b=some o'/\∀M w,gY M w b o->gY M w b o'
theorem PW.dom{H H':aj}(h:PW H H')(b:Nat):H.get b=none↔H'.get b=none:=by
 rcases h b with e|⟨o,o',e1,e2,-⟩
 ·rw[e]
 ·simp[e1,e2]
theorem PW.sim{H H':aj}(h:PW H H'){M:bF}{w:World}(s:Sim M H w):Sim M H' w:=by
 refine⟨s.mem,fun b o' ho'=>?_⟩
 rcases h b with e|⟨o,o2,e1,e2,hh⟩
 ·exact s.obj b o' (by rw[<-e];exact ho')
 ·rw[e2]at ho';cases ho';exact hh M w (s.obj b o e1)
theorem PW.wk{H H':aj}(h:PW H H'):HWk H H':=⟨fun _ _ s=>h.sim s,fun b hb hn=>hb ((h.dom b).1 hn)⟩
theorem PW.only{H H':aj}(h:PW H H')(S:Nat->Prop):PW (H.only S) (H'.only S):=by
 intro b
 by_cases hb:S b
 ·rw[bf hb,bf hb];exact h b
 ·exact .inl (by rw[bS hb,bS hb])
theorem ACalls.pw{P:Program}{f:FuncId}{xs:List AC}{H H':aj}{R:AC->aj->Prop}(h:ACalls P f xs H' R)(hp:PW H H'):ACalls P f xs H R:=by
 intro M w vs s r
 refine(h M w vs (hp.sim s) r).mono ?_
 rintro e w' ⟨q,v,M',H2,h1,h2,h3,h4,h5⟩
 exact⟨q,v,M',H2,h1,h2,h3,h4.dom fun b=>(hp.dom b).symm,h5⟩
theorem PW.set{H:aj}{b:Nat}{cs cs':List AC}(hg:H.get b=some (.cells cs))(hl:cs'.length=cs.length)
(hle:∀(j:Nat) (y:AC),cs'[j]?=some y->cs[j]?=some y\/∃x,cs[j]?=some x/\Le x y/\y.one=true):PW H (H.set b (.cells cs')):=by
 intro c
 by_cases hc:c=b
 ·subst hc
  refine .inr ⟨_,_,hg,ai _ _ _,fun M w ho=>?_⟩
  obtain⟨vs,el,h1,h2,h3,h4,h5⟩:=ho
  refine⟨vs,el,h1,fun y hy=>?_,by rw[hl];exact h3,fun j y v hy hv=>?_,h5⟩
  ·obtain⟨j,hj⟩:=jx.1 hy
   rcases hle j y hj with h|⟨x,-,-,h⟩
   ·exact h2 y (aY h)
   ·exact h
  ·rcases hle j y hy with h|⟨x,hx,hxy,-⟩
   ·exact h4 j y v h hv
   ·exact hxy M v (h4 j x v hx hv)
 ·exact .inl (ae _ _ hc)
def kf(H:aj)(e:Nat)(v:En)(VS NS:AC):Prop:=∃H',PW H H'/\(∀d,¬aQ e VS NS d->H'.get d=H.get d)/\bA H' e v VS NS
section
variable {P:Program}{dr:Bool}{K:Env->aj->Prop}{xs:List aJ}{E:Env}{H:aj}{l:Lds}{f:Fps}
theorem zR{i:Nat}{g:FuncId}{args:List aG}{d:Option Nat}{inc:List Nat}{zas as':List AC}{e:Nat}{v:En}{VS NS:AC}{R:AC->En->Prop}(hc:js P g zas e v R)(hE:kf H e v VS NS)
(ha:args.map (aG.ev E)=as')(hl:LeA as' zas)(hlive:dr=true->∃q v',R q v')(hchk:dQ inc l (aQ e VS NS))
(h:∀q v' VS' NS' H1 fp,R q v'->bA H1 e v' VS' NS'->(∀b o,H.get b=some o->¬aQ e VS NS b->H1.get b=some o/\¬aQ e VS' NS' b)->
  (∀c,fp c->aQ e VS NS c\/H.get c=none)->bp P dr K xs (E.put d q) H1 l ((i,fp)::f)):
 bp P dr K (⟨i,d,none,.eff (.call g args),inc⟩::xs) E H l f:=by
 obtain⟨H0,hpw,hout,hE0⟩:=hE
 have hge:∀b,(H.only (aQ e VS NS)).get b≠none↔aQ e VS NS b:=by
  intro b
  by_cases hb:aQ e VS NS b
  ·simp only[bf hb,hb,iff_true]
   exact fun h=>hE0.mem hb ((hpw.dom b).1 h)
  ·simp[bS hb,hb]
 refine gu (aQ e VS NS) ((hc (H0.only (aQ e VS NS)) VS NS hE0.only).pw (hpw.only _)) ha hl (fun hd N=>?_) ?_ ?_
 ·obtain⟨q,v',hq⟩:=hlive hd
  obtain⟨H',VS',NS',hE',hfar⟩:=ot e N v'
  refine⟨q,H',⟨v',VS',NS',hq,hE'⟩,fun b hb hn=>?_⟩
  rcases hfar b hb with rfl|h
  ·rw[bf (.inl rfl)]at hn
   exact absurd ((hpw.dom _).1 hn) (hE0.mem (.inl rfl))
  ·exact h
 ·have:(fun b=>(H.only (aQ e VS NS)).get b≠none)=aQ e VS NS:=by funext b;exact propext (hge b)
  rw[this];exact hchk
 ·rintro q H' H1 ⟨v',VS',NS',hq,hE'⟩ hsub hafter hnew -
  refine h q v' VS' NS' H1 _ hq (hE'.mono fun d hd=>?_) (fun b o hb hn=>⟨by rw[hafter.out b hn (by rw[hb];simp)];exact hb,fun h=>?_⟩) (fun c hc=>?_)
  ·obtain⟨o,ho⟩:=aI.1 (hE'.mem hd)
   rw[ho];exact hsub _ _ ho
  ·rcases hnew b (hE'.mem h)with h|h
   ·exact hn h
   ·rw[hb]at h;simp at h
  ·rcases hc with hc|hc
   ·exact .inl ((hge c).1 hc)
   ·exact .inr hc
end
section
variable {P:Program}{F:Ids}
theorem k9{g:FuncId}{zas:List AC}{e:Nat}{v:En}{q0:AC}{c':Int}
(h:∀VS NS,ACalls P g zas (one e (cR v.p v.fn VS NS v.code)) fun q H'=>∃o',(q=q0/\o'=cR v.p v.fn VS NS c')/\H'=one e o'):js P g zas e v fun q v'=>q=q0/\v'={v with code:=c'}:=by
 intro H VS NS hE
 refine((h VS NS).frame (gK hE.obj)).mono ?_
 rintro q H1 ⟨H',⟨o',⟨rfl,rfl⟩,rfl⟩,rfl⟩
 rw[ub]
 exact⟨_,VS,NS,⟨rfl,rfl⟩,hE.setO c'⟩
theorem oP(L:Lib P F)(e:Nat)(v:En)(c:Int):js P 153 [.ptr e 0,I c] e v fun q v'=>q=.tup []/\v'=v.fail c:=k9 fun VS NS=>lw L e v.p v.fn VS NS v.code c
def En.fail0(v:En)(c:Int):En:={v with code:=if 0<c then dv v.code c else v.code}
theorem e_fail0(L:Lib P F)(e:Nat)(v:En)(c:Int):js P 228 [.ptr e 0,I c] e v fun q v'=>q=.tup []/\v'=v.fail0 c:=k9 fun VS NS=>c_fail0 L e v.p v.fn VS NS v.code c
theorem e_num(L:Lib P F)(e:Nat)(v:En)(t:Ty):js P 157 [.ptr e 0,.agg t.enc] e v fun q v'=>q=.tup []/\v'=v.num t:=k9 fun VS NS=>AL L e v.p v.fn VS NS v.code t
theorem nI(L:Lib P F)(e:Nat)(v:En)(a t:Ty)(ha:a.wf):js P 98 [.ptr e 0,.agg a.enc,.agg t.enc] e v fun q v'=>q=.tup []/\v'=v.same a t:=by
 obtain⟨D,-,hD⟩:=ha
 exact k9 fun VS NS=>c_same L e v.p v.fn VS NS v.code a t D hD
theorem uS(L:Lib P F)(e:Nat)(v:En)(hl:v.vars.length<=2^30)(hn:v.names.length<=2^30)(x:Vr):js P 147 [.ptr e 0,.agg x.enc] e v fun q v'=>q=.tup []/\v'=v.add x:=
 fun H VS NS hE=>(c_add L e v VS NS H hE hl hn x).mono fun q H' ⟨h1,VS',NS',h2⟩=>⟨_,VS',NS',⟨h1,rfl⟩,h2⟩
def En.push(v:En)(x:Vr):En:={v with vars:=v.vars++[x]}
def En.pop(v:En)(n:Nat):En:={v with vars:=v.vars.take n}
def Br(xs ys:List AC):Prop:=xs.length=ys.length/\∀(j:Nat) (y:AC),ys[j]?=some y->xs[j]?=some y\/∃x,xs[j]?=some x/\Le x y/\y.one=true
theorem kf.push{H:aj}{e:Nat}{v:En}{VS' NS:AC}{row:List AC}{x:Vr}(ho:H.get e=some (cR v.p v.fn VS' NS v.code))(hr:eK H 6 (v.vars.map Vr.enc++[row]) VS')(hn:bR H 1 (aD v.names) NS)(hrow:Br row x.enc):
 kf H e (v.push x) VS' NS:=by
 rcases hr with⟨h,-⟩|⟨b,c,cs,rfl,hg,hc,hlen,hcs⟩
 ·simp at h
 ·have h6:row.length=6:=hrow.1
  have hl1:=dB (ys:=v.vars.map Vr.enc) (sz:=6) (by simp[Vr.enc])
  simp only[ao]at hl1
  have hlv:(v.vars.map Vr.enc++[row]).length=v.vars.length+1:=by simp
  rw[hlv]at hlen hcs
  simp only[List.flatten_append,av,ay,dA]at hcs
  let cs':=(v.vars.map Vr.enc).flatten++x.enc++cs.drop ((v.vars.length+1)*6)
  have hsplit:cs=(v.vars.map Vr.enc).flatten++row++cs.drop ((v.vars.length+1)*6):=by rw[<-hcs,ic]
  have hcl:cs'.length=cs.length:=by
   conv=>rhs;rw[hsplit]
   simp only[cs',bv,h6,Vr.enc_len]
  have hne:e≠b:=by
   rintro rfl
   rw[ho]at hg;simp only[cR,Option.some.injEq,cz.cells.injEq]at hg
   rw[<-hg]at hc;simp at hc;omega
  refine⟨H.set b (.cells cs'),.set hg hcl fun j y hy=>?_,fun d hd=>ae _ _ (by rintro rfl;exact hd (.inr (.inl ⟨_,_,rfl⟩))),⟨?_,.inr ⟨b,c,cs',?_,ai _ _ _,hcl.trans hc,?_,?_⟩,hn.set hg _⟩⟩
  ·rw[hsplit]
   simp only[cs']at hy
   rw[dU]at hy⊢
   by_cases h1:j<((v.vars.map Vr.enc).flatten).length
   ·rw[aO h1]at hy⊢;exact .inl hy
   ·rw[be (by omega)]at hy⊢
    generalize j - ((v.vars.map Vr.enc).flatten).length=k at*
    by_cases h2:k<6
    ·rw[aO (by rw[Vr.enc_len];exact h2)]at hy
     rw[aO (by rw[h6];exact h2)]
     exact hrow.2 k y hy
    ·rw[be (by rw[Vr.enc_len];omega)]at hy
     rw[be (by rw[h6];omega)]
     rw[Vr.enc_len]at hy;rw[h6]
     exact .inl hy
  ·rw[ae _ _ hne];exact ho
  ·simp[En.push]
  ·simp[En.push];omega
  ·simp only[En.push,bL,aU,bB,bv,ao,aR,bM,List.flatten_append,av,ay,dA,cs']
   rw[List.take_left']
   simp only[bv,hl1,Vr.enc_len];omega
theorem bA.pop{H:aj}{e:Nat}{v:En}{NS:AC}{b c n:Nat}(h:bA H e v (.lit (.slice (some ⟨b,0,none⟩) v.vars.length c)) NS)(hn:n<=v.vars.length):
 bA (H.set e (cR v.p v.fn (.lit (.slice (some ⟨b,0,none⟩) n c)) NS v.code)) e (v.pop n) (.lit (.slice (some ⟨b,0,none⟩) n c)) NS:=by
 have hne:e≠b:=by rintro rfl;exact iw h.obj h.vars ⟨_,_,rfl⟩
 rcases h.vars with⟨-,hh⟩|⟨b',c',cs,hh,hg,hc,hl,ht⟩
 ·simp at hh
 ·simp only[AC.lit.injEq,Value.slice.injEq,Option.some.injEq,Addr.mk.injEq,true_and,and_true,ao]at hh hl ht
  obtain⟨rfl,rfl⟩:=hh
  refine⟨ai _ _ _,.inr ⟨b,c,cs,by simp[En.pop];omega,by rw[ae _ _ (Ne.symm hne)];exact hg,hc,by simp[En.pop];omega,?_⟩,h.names.set h.obj _⟩
  have:(v.pop n).vars=v.vars.take n:=rfl
  rw[this]
  simp only[ao,bI,eC hn,kR]
  have h1:=congrArg (List.take (n*6)) ht
  rw[List.take_take,eC (by omega)]at h1
  rw[h1]
  have h2:v.vars.map Vr.enc=(v.vars.map Vr.enc).take n++(v.vars.map Vr.enc).drop n:=(ic _ _).symm
  conv=>lhs;rw[h2,List.flatten_append]
  rw[List.take_left']
  rw[dB (sz:=6) (by simp[Vr.enc,List.mem_take_iff_getElem];intros;subst_vars;rfl)]
  simp;omega
end
def cZ(vs:List Vr)(n:Nat):Bool:=match vs[n]? with
 |some x=>x.dead
 |none=>false
def cK(p:Pl):Vr:=⟨bl [],true,false,.mk [],[p],false⟩
noncomputable def En.pick(v:En)(s:St):En:=
 let r:=v.expr s.expr
 let u:=(r.1.num r.2).use s.place
 let n:=u.1.vars.length
 let w:=(u.1.push (cK s.place)).use s.other
 let v5:=w.1.same w.2 u.2
 let v6:=if cZ v5.vars n then v5.fail 4 else v5
 (v6.pop n).add ⟨s.name,true,false,u.2,[s.place,s.other],false⟩
theorem En.num_like(v:En)(t:Ty):v.like (v.num t):=⟨rfl,rfl,rfl,rfl⟩
theorem eY(v:En)(a t:Ty):v.like (v.same a t):=⟨rfl,rfl,rfl,rfl⟩
theorem iR(v:En)(c:Int):v.like (v.fail c):=⟨rfl,rfl,rfl,rfl⟩
theorem mO{p:Pl}(hp:p.path.length<=2^20):(cK p).ok:=⟨by simp[cK],by simp[cK];exact hp⟩
theorem En.ok.push{v:En}(h:v.ok)(hl:v.vars.length+1<=2^20){x:Vr}(hx:x.ok/\x.type.wf):(v.push x).ok:=by
 refine⟨by simp[En.push];omega,fun y hy=>?_⟩
 simp only[En.push,aE,bQ]at hy
 rcases hy with hy|rfl
 ·exact h.all y hy
 ·exact hx
theorem sj(tok:Option (Nat×Nat×Nat))(p:Pl):Br [S (bl []),B true,B false,NIL,.sl 2 tok [[S p.name,au p.path]],B false] (cK p).enc:=by
 refine⟨rfl,fun j y hy=>?_⟩
 simp only[cK,Vr.enc,Ty.kids,Ty.encs,aU,bB,Pl.enc]at hy
 match j,hy with
 |0,hy=>simp at hy;subst hy;exact .inl rfl
 |1,hy=>simp at hy;subst hy;exact .inl rfl
 |2,hy=>simp at hy;subst hy;exact .inl rfl
 |3,hy=>simp at hy;subst hy;exact .inr ⟨NIL,rfl,.nil 1,rfl⟩
 |4,hy=>simp at hy;subst hy;exact .inr ⟨_,rfl,.tok _ _ _,rfl⟩
 |5,hy=>simp at hy;subst hy;exact .inl rfl
 |n+6,hy=>simp at hy
structure StC(s:St)(cs:List AC):Prop where
 len:cs.length=15
 kind:cs[0]?=some (I s.kind)
 name:cs[1]?=some (S s.name)
 place:(cs.drop 2).take 2=[S s.place.name,au s.place.path]
 other:(cs.drop 4).take 2=[S s.other.name,au s.other.path]
 expr:(cs.drop 6).take 5=s.expr.enc
 fn:cs[11]?=some (S s.fn)
 args:cs[12]?=some (.sl 8 none (s.args.map Ag.enc))
 thn:cs[13]?=some (.sl 15 none (St.encs s.thn))
 els:cs[14]?=some (.sl 15 none (St.encs s.els))
 all:cs.take 15=cs
theorem stC(s:St):∃cs,s.enc=cs/\StC s cs:=
 ⟨_,St.enc_eq s,rfl,rfl,rfl,rfl,rfl,by rw[Ex.enc_eq];rfl,rfl,rfl,rfl,rfl,rfl⟩
section
variable {P:Program}{F:Ids}
theorem e_pick(L:Lib P F)(e:Nat)(v:En)(s:St)(hv:v.ok)(hl:v.vars.length+1<=2^20)(hn:v.names.length+1<=2^20)(hne:0<v.vars.length)(hx:s.expr.ok)(hp:s.place.path.length<=2^20)(ho:s.other.path.length<=2^20):
 js P 198 [.ptr e 0,.agg s.enc] e v fun q v'=>q=.tup []/\v'=v.pick s:=by
 intro H VS NS hE
 refine(L.a Tryz.func198 y198) (by simp[y198,f198]) ?_
 obtain⟨cs3,hcs3,C⟩:=stC s
 rw[hcs3]
 simp only[y198,f198,go_sem,rE,rA,C.len,rL,C.expr]
 intro b3 hb3
 have he3:=hE.new hb3 (.cells cs3)
 have hg3:(H.set b3 (.cells cs3)).get b3=some (.cells cs3):=ai _ _ _
 refine bJ (nJ L e _ s.expr (aA _) hx v hv) he3 (rfl) (.refl _) (by simp) trivial ?_
 rintro q v1 VS1 NS1 H1 fp ⟨rfl,hv1⟩ hE1 hk1 -
 obtain⟨g3,n3⟩:=hk1 b3 (.cells cs3) hg3 (hE.notin hb3)
 obtain⟨lk1,wf1⟩:=En.expr_good s.expr v hv
 rw[<-hv1]at lk1
 refine bJ (e_num L e v1 (v.expr s.expr).2) hE1 (rfl) (.refl _) (by simp) trivial ?_
 rintro q v2 VS2 NS2 H2 fp2 ⟨rfl,hv2⟩ hE2 hk2 -
 obtain⟨g3,n3⟩:=hk2 _ _ g3 n3
 have lk2:v.like v2:=lk1.trans (hv2▸v1.num_like _)
 simp only[go_sem,rE,rA,g3,C.len,rL,C.place]
 refine bJ (nH L e v2 (lk2.ok hv) s.place hp) hE2 (by simp only[go_sem,rE,Pl.enc]) (.refl _) (by simp) trivial ?_
 rintro q v3 VS3 NS3 H3 fp3 ⟨rfl,hv3⟩ hE3 hk3 -
 obtain⟨g3,n3⟩:=hk3 _ _ g3 n3
 have lk3:v.like v3:=lk2.trans (hv3▸v2.use_like _)
 have wf3:=iF (lk2.ok hv) s.place
 have hu:v2.use s.place=(v3,(v2.use s.place).2):=by rw[hv3]
 generalize(v2.use s.place).2=t at*
 simp only[go_sem,rE,rA,Ty.enc_eq t]
 intro b4 hb4
 have hE4:=hE3.new hb4 (.cells [.sl 1 none (Ty.encs t.kids)])
 have n4:=hE3.notin hb4
 have d34:=al g3 hb4
 have d4e:=hE3.ne hb4
 have hob:=hE3.obj
 have hlen3:v3.vars.length=v.vars.length:=lk3.len
 obtain⟨vb,vc,cs,rfl,hr⟩:=hE3.vars.row (i:=0) (by omega)
 have hlim:v3.vars.length<=LIM:=by simp only[LIM];omega
 simp only[cR]at hob
 simp only[go_sem,rE,rA,d4e,hob,hlim,d34,g3,C.len,rL,C.place,ax,av,ay,bg]
 intro b5 hb5
 have hE5:=hE4.new hb5 (.tail 2 2)
 have d45:=al (ai H3 b4 (.cells [.sl 1 none (Ty.encs t.kids)])) hb5
 have d35:b3≠b5:=al (H:=H3.set b4 (.cells [.sl 1 none (Ty.encs t.kids)])) (by rw[ae _ _ d34];exact g3) hb5
 have d5e:=hE4.ne hb5
 have hrv:=hE5.vars
 have hnv:=hE5.names
 have g4':((H3.set b4 (.cells [.sl 1 none (Ty.encs t.kids)])).set b5 (.tail 2 2)).get b4=some (.cells [.sl 1 none (Ty.encs t.kids)]):=by rw[ae _ _ d45,ai]
 have g3':((H3.set b4 (.cells [.sl 1 none (Ty.encs t.kids)])).set b5 (.tail 2 2)).get b3=some (.cells cs3):=by rw[ae _ _ d35,ae _ _ d34];exact g3
 have ge':=hE5.obj
 simp only[cR]at ge'
 generalize((H3.set b4 (.cells [.sl 1 none (Ty.encs t.kids)])).set b5 (.tail 2 2))=H5 at*
 refine qc (rows:=v3.vars.map Vr.enc) (ys:=[[S (bl []),B true,B false,NIL,.sl 2 (some (b5,2,2)) [[S s.place.name,au s.place.path]],B false]]) (by simp only[go_sem,rE];exact hrv) (rfl) (by simp) (by simp;omega) rfl ?_
 intro VS6 H6 fp6 hVS6 hkeep6 hblk6
 simp only[go_sem,rE]at hkeep6 hblk6
 have nb3:¬gM (AC.lit (Value.slice (some {block:=vb,off:=0}) v3.vars.length vc)) b3:=fun h=>n3 (.inr (.inl h))
 have nb4:¬gM (AC.lit (Value.slice (some {block:=vb,off:=0}) v3.vars.length vc)) b4:=fun h=>n4 (.inr (.inl h))
 have g6e:H6.get e=some (.cells [.sl 12 none (v3.p.map Fu.enc),I v3.fn,AC.lit (Value.slice (some {block:=vb,off:=0}) v3.vars.length vc),NS3,I v3.code]):=by
  rw[hkeep6 e (by rw[ge'];simp) (iw hE3.obj hE3.vars)];exact ge'
 have g63:H6.get b3=some (.cells cs3):=by rw[hkeep6 b3 (by rw[g3'];simp) nb3];exact g3'
 have g64:H6.get b4=some (.cells [.sl 1 none (Ty.encs t.kids)]):=by rw[hkeep6 b4 (by rw[g4'];simp) nb4];exact g4'
 have hn6:bR H6 1 (aD v3.names) NS3:=hnv.rows hrv hkeep6
 have d3e:b3≠e:=fun h=>n3 (.inl h)
 have d4e':b4≠e:=Ne.symm d4e
 simp only[go_sem,rE,rA,g6e,hVS6.one,rL]
 have hWo:(H6.set e (cR v3.p v3.fn VS6 NS3 v3.code)).get e=some (cR v3.p v3.fn VS6 NS3 v3.code):=ai _ _ _
 have hnb6:∀d,gM VS6 d->d≠e:=by
  rintro d hd rfl
  rcases hblk6 d hd with h|h
  ·exact iw hE3.obj hE3.vars h
  ·rw[ge']at h;simp at h
 have hW:=kf.push hWo (eK.mono hVS6 fun d hd=>ae _ _ (hnb6 d hd)) (hn6.set g6e _) (sj (some (b5,2,2)) s.place)
 have g73:(H6.set e (cR v3.p v3.fn VS6 NS3 v3.code)).get b3=some (.cells cs3):=by rw[ae _ _ d3e];exact g63
 have g74:(H6.set e (cR v3.p v3.fn VS6 NS3 v3.code)).get b4=some (.cells [.sl 1 none (Ty.encs t.kids)]):=by rw[ae _ _ d4e'];exact g64
 simp only[cR]at hW g73 g74
 generalize H6.set e (.cells [.sl 12 none (v3.p.map Fu.enc),I v3.fn,VS6,NS3,I v3.code])=H7 at*
 have n63:¬aQ e VS6 NS3 b3:=by
  rintro(h|h|h)
  ·exact d3e h
  ·rcases hblk6 b3 h with h|h
   ·exact nb3 h
   ·rw[g3']at h;simp at h
  ·exact n3 (.inr (.inr h))
 have n64:¬aQ e VS6 NS3 b4:=by
  rintro(h|h|h)
  ·exact d4e' h
  ·rcases hblk6 b4 h with h|h
   ·exact nb4 h
   ·rw[g4']at h;simp at h
  ·exact n4 (.inr (.inr h))
 have ok3:(v3.push (cK s.place)).ok:=(lk3.ok hv).push (by omega) ⟨mO hp,dK⟩
 simp only[go_sem,rE,rA,g73,C.len,rL,C.other]
 refine zR (nH L e (v3.push (cK s.place)) ok3 s.other ho) hW (by simp only[go_sem,rE,Pl.enc]) (.refl _) (fun _=>⟨_,_,rfl,rfl⟩) (by simp[dQ]) ?_
 rintro q v8 VS8 NS8 H8 fp8 ⟨rfl,hv8⟩ hE8 hk8 hfp8
 obtain⟨g83,n83⟩:=hk8 _ _ g73 n63
 obtain⟨g84,n84⟩:=hk8 _ _ g74 n64
 have nf4:¬fp8 b4:=fun h=>(hfp8 b4 h).elim n64 (fun h=>by rw[g74]at h;simp at h)
 have lk8:(v3.push (cK s.place)).like v8:=hv8▸En.use_like _ _
 have wf8:=iF ok3 s.other
 have hw:(v3.push (cK s.place)).use s.other=(v8,((v3.push (cK s.place)).use s.other).2):=by rw[hv8]
 generalize((v3.push (cK s.place)).use s.other).2=u at*
 simp only[go_sem,rE,rA,g84,jw,bi,cF,or_false,forall_eq,nf4,rL]
 refine bJ (nI L e v8 u t wf8) hE8 (by simp only[go_sem,rE,Ty.enc_eq t]) (.refl _) (fun _=>⟨_,_,rfl,rfl⟩) trivial ?_
 rintro q v9 VS9 NS9 H9 fp9 ⟨rfl,hv9⟩ hE9 hk9 -
 obtain⟨g93,n93⟩:=hk9 _ _ g83 n83
 obtain⟨g94,n94⟩:=hk9 _ _ g84 n84
 have lk9:(v3.push (cK s.place)).like v9:=lk8.trans (hv9▸eY _ _ _)
 have hl9:v9.vars.length=v3.vars.length+1:=by rw[lk9.len];simp[En.push]
 have hpick:v.pick s=((if cZ v9.vars v3.vars.length then v9.fail 4 else v9).pop v3.vars.length).add ⟨s.name,true,false,t,[s.place,s.other],false⟩:=by
  simp only[En.pick,<-hv1,<-hv2,hu,hw,<-hv9]
 have hnm:v9.names.length=v.names.length:=by rw[lk9.names];simp only[En.push];rw[lk3.names]
 rw[hpick]
 have step:∀(E:Env) (H:aj) (v6:En) (VS NS:AC),bA H e v6 VS NS->v6.vars.length=v3.vars.length+1->v6.names.length=v.names.length->E 0=.ptr e 0->E 3=.ptr b3 0->E 4=.ptr b4 0->E 5=I v3.vars.length->
  H.get b3=some (.cells cs3)->H.get b4=some (.cells [.sl 1 none (Ty.encs t.kids)])->¬aQ e VS NS b3->¬aQ e VS NS b4->
  aT.wp P (kd2) (bh.post [] fun q H'=>∃v' VS' NS',(q=.tup []/\v'=(v6.pop v3.vars.length).add ⟨s.name,true,false,t,[s.place,s.other],false⟩)/\bA H' e v' VS' NS') E H:=by
  intro E H v6 VS NS hE hl6 hn6 e0 e3 e4 e5 g3 g4 n3 n4
  rw[kd2,fd2]
  obtain⟨vb,vc,cs,rfl,hr⟩:=hE.vars.row (i:=0) (by omega)
  have hob:=hE.obj
  simp only[cR]at hob
  have hcap:v3.vars.length<=vc/\0<vc:=by have:=hr.cap;omega
  have hpop:=hE.pop (n:=v3.vars.length) (by omega)
  simp only[cR]at hpop
  have d3e:b3≠e:=fun h=>n3 (.inl h)
  have d4e:b4≠e:=fun h=>n4 (.inl h)
  simp only[go_sem,rE,rA,e0,e3,e4,e5,hob,Int.natCast_nonneg,Int.toNat_natCast,hcap,rL,d3e,d4e,g3,g4,C.name,C.len,C.place,C.other,ax,av,ay,bg]
  intro b10 hb10
  have hE10:=hpop.new hb10 (.tail 4 4)
  refine bJ (as':=[.ptr e 0,.agg [S s.name,B true,B false,.sl 1 none (Ty.encs t.kids),.sl 2 (some (b10,2*2,2*2)) [[S s.place.name,au s.place.path],[S s.other.name,au s.other.path]],B false]]) (uS L e (v6.pop v3.vars.length) (by simp[En.pop];omega) (by simp only[En.pop];omega) ⟨s.name,true,false,t,[s.place,s.other],false⟩) hE10 (rfl)
   ⟨.refl _,.agg ⟨⟨.refl _,rfl⟩,⟨.refl _,rfl⟩,⟨.refl _,rfl⟩,⟨.refl _,rfl⟩,⟨.tok _ _ _,rfl⟩,⟨.refl _,rfl⟩,trivial⟩,trivial⟩ (by simp) trivial ?_
  rintro q v11 VS11 NS11 H11 fp11 ⟨rfl,hv11⟩ hE11 - -
  simp only[kr]
  exact cY (aj.sub_refl _) ⟨v11,VS11,NS11,⟨rfl,hv11⟩,hE11⟩
 obtain⟨vb9,vc9,cs9,rfl,hr9⟩:=hE9.vars.row (i:=v3.vars.length) (by omega)
 have hob9:=hE9.obj
 simp only[cR]at hob9
 have hlt9:((v3.vars.length:Nat):Int)<v9.vars.length:=by omega
 simp only[go_sem,rE,rA,hob9,hlt9,hr9.get,hr9.dead]
 have hdd:cZ v9.vars v3.vars.length=v9.vars[v3.vars.length].dead:=by
  simp only[cZ,a6 (show v3.vars.length<v9.vars.length by omega)]
 rw[hdd]
 cases hd:v9.vars[v3.vars.length].dead
 ·simp only[lH,wp_skip,cu]
  exact step _ _ v9 _ _ hE9 hl9 hnm (rfl) (rfl) (rfl) (rfl) g93 g94 n93 n94
 ·simp only[nq,go_sem,rE]
  refine bJ (oP L e v9 4) hE9 (rfl) (.refl _) (by simp) trivial ?_
  rintro q v10 VS10 NS10 H10 fp10 ⟨rfl,hv10⟩ hE10 hk10 -
  obtain⟨g103,n103⟩:=hk10 _ _ g93 n93
  obtain⟨g104,n104⟩:=hk10 _ _ g94 n94
  subst hv10
  simp only[kr,cu,if_true]
  exact step _ _ (v9.fail 4) _ _ hE10 hl9 hnm (rfl) (rfl) (rfl) (rfl) g103 g104 n103 n104
end
noncomputable def En.args:En->List (Pa×Ag)->List Pl->En×Option (List Pl)
 |v,[],pl=>(v,some pl)
 |v,(p,a)::l,pl=>if a.lent≠p.lent then(v.fail 3,none)else
  if a.lent then((((v.use a.place).1.same (v.use a.place).2 p.type)).push (cK a.place)).args l (pl++[a.place])
  else((v.expr a.expr).1.same (v.expr a.expr).2 p.type).args l pl
def En.gone(v:En)(n:Nat):En:=if(v.vars.drop n).any (fun x=>x.dead)then v.fail 4 else v
def j4(fs:List Fu)(name:ByteArray)(most:Nat):Option Nat:=(fs.take most).findIdx? fun f=>decide (f.name=name)
noncomputable def En.call(v:En)(s:St):En:=match j4 v.p s.fn v.fn with
 |none=>v.fail 2
 |some k=>match v.p[k]? with
  |none=>v
  |some f=>if f.params.length≠s.args.length then v.fail 3 else
   match v.args (f.params.zip s.args) []with
   |(w,none)=>w
   |(w,some pl)=>((w.gone v.vars.length).pop v.vars.length).add ⟨s.name,f.lent,false,f.type,if f.lent then pl else [],false⟩
structure Ag.ok(a:Ag):Prop where
 expr:a.lent=false->a.expr.ok
 path:a.place.path.length<=2^20
structure Pa.ok(p:Pa):Prop where
 type:p.type.wf
structure Fu.okS(f:Fu):Prop where
 params:∀p∈f.params,p.ok
 type:f.type.wf
structure FuC(f:Fu)(cs:List AC):Prop where
 len:cs.length=12
 name:cs[0]?=some (S f.name)
 params:cs[1]?=some (.sl 3 none (f.params.map Pa.enc))
 lent:cs[2]?=some (B f.lent)
 type:(cs.drop 3).take 1=f.type.enc
 body:cs[4]?=some (.sl 15 none (St.encs f.body))
 says:(cs.drop 5).take 5=f.says.enc
 gives:(cs.drop 10).take 2=[S f.gives.name,au f.gives.path]
 all:cs.take 12=cs
theorem fuC(f:Fu):∃cs,f.enc=cs/\FuC f cs:=⟨_,Fu.enc_eq f,rfl,rfl,rfl,rfl,by rw[Ty.enc_eq];rfl,rfl,by rw[Ex.enc_eq];rfl,rfl,rfl⟩
structure AgC(a:Ag)(cs:List AC):Prop where
 len:cs.length=8
 lent:cs[0]?=some (B a.lent)
 place:(cs.drop 1).take 2=[S a.place.name,au a.place.path]
 expr:(cs.drop 3).take 5=a.expr.enc
theorem agC(a:Ag):∃cs,a.enc=cs/\AgC a cs:=⟨a.enc,rfl,by rw[Ag.enc,Ex.enc_eq];rfl,rfl,rfl,by rw[Ag.enc,Ex.enc_eq];rfl⟩
structure PaC(p:Pa)(cs:List AC):Prop where
 len:cs.length=3
 name:cs[0]?=some (S p.name)
 lent:cs[1]?=some (B p.lent)
 lent1:(cs.drop 1)[0]?=some (B p.lent)
 type:(cs.drop 2).take 1=p.type.enc
 all:cs.take 3=cs
theorem paC(p:Pa):∃cs,p.enc=cs/\PaC p cs:=⟨p.enc,rfl,by rw[Pa.enc,Ty.enc_eq];rfl,rfl,rfl,rfl,by rw[Pa.enc,Ty.enc_eq];rfl,by rw[Pa.enc,Ty.enc_eq];rfl⟩
theorem y5{H:aj}{e:Nat}{v:En}{VS NS VS':AC}{H':aj}{row:List AC}{x:Vr}(hE:bA H e v VS NS)(hr:eK H' 6 (v.vars.map Vr.enc++[row]) VS')
(hkeep:∀c,H.get c≠none->¬gM VS c->H'.get c=H.get c)(hblk:∀c,gM VS' c->gM VS c\/H.get c=none)(hrow:Br row x.enc):
 H'.get e=some (cR v.p v.fn VS NS v.code)/\kf (H'.set e (cR v.p v.fn VS' NS v.code)) e (v.push x) VS' NS/\
  ∀b o,H.get b=some o->¬aQ e VS NS b->(H'.set e (cR v.p v.fn VS' NS v.code)).get b=some o/\H'.get b=some o/\¬aQ e VS' NS b:=by
 have he:H'.get e=some (cR v.p v.fn VS NS v.code):=by
  rw[hkeep e (by rw[hE.obj];simp) (iw hE.obj hE.vars)];exact hE.obj
 have hnb:∀d,gM VS' d->d≠e:=by
  rintro d hd rfl
  rcases hblk d hd with h|h
  ·exact iw hE.obj hE.vars h
  ·rw[hE.obj]at h;simp at h
 have hn:bR H' 1 (aD v.names) NS:=hE.names.rows hE.vars hkeep
 refine⟨he,kf.push (ai _ _ _) (eK.mono hr fun d hd=>ae _ _ (hnb d hd)) (hn.set he _) hrow,fun b o hb hnb'=>?_⟩
 have h1:b≠e:=fun h=>hnb' (.inl h)
 have h2:H'.get b=some o:=by
  rw[hkeep b (by rw[hb];simp) (fun h=>hnb' (.inr (.inl h)))];exact hb
 refine⟨by rw[ae _ _ h1];exact h2,h2,?_⟩
 rintro(h|h|h)
 ·exact h1 h
 ·rcases hblk b h with h|h
  ·exact hnb' (.inr (.inl h))
  ·rw[hb]at h;simp at h
 ·exact hnb' (.inr (.inr h))
open Classical in
theorem kf.mono {H H':aj} {e:Nat} {v:En} {VS NS:AC} (h:kf H e v VS NS) (hk:∀d,aQ e VS NS d->H'.get d=H.get d):kf H' e v VS NS:=by
 obtain⟨H0,h1,h2,h3⟩:=h
 let G:aj:=⟨fun b=>if aQ e VS NS b then H0.get b else H'.get b,by
  obtain⟨N,hN⟩:=H0.fin
  obtain⟨N',hN'⟩:=H'.fin
  exact⟨N+N',fun b hb=>by simp only[hN b (by omega),hN' b (by omega),ite_self]⟩⟩
 have gin:∀d,aQ e VS NS d->G.get d=H0.get d:=fun d hd=>by simp only[G,hd,if_true]
 have gout:∀d,¬aQ e VS NS d->G.get d=H'.get d:=fun d hd=>by simp only[G,hd,if_false]
 refine⟨G,fun b=>?_,gout,h3.mono gin⟩
 by_cases hb:aQ e VS NS b
 ·rw[gin b hb,hk b hb];exact h1 b
 ·rw[gout b hb];exact .inl rfl
theorem kf.wk{H:aj}{e:Nat}{v:En}{VS NS:AC}(h:kf H e v VS NS):∃H',HWk H H'/\bA H' e v VS NS/\∀b,¬aQ e VS NS b->H'.get b=H.get b:=by
 obtain⟨H',h1,h2,h3⟩:=h
 exact⟨H',h1.wk,h3,h2⟩
section
variable {P:Program}{F:Ids}
theorem fnAt_eq(fs:List Fu)(name:ByteArray)(most:Nat):wx fs name most=match j4 fs name most with|some i=>(i:Int)|none=>-1:=rfl
theorem e_call(L:Lib P F)(e:Nat)(v:En)(s:St)(hv:v.ok)(hl:v.vars.length+s.args.length+1<=2^20)(hn:v.names.length+1<=2^20)(hne:0<v.vars.length)(ha:∀a∈s.args,a.ok)
(hp:∀f∈v.p,f.okS)(hpl:v.p.length<=2^20)(hfn:v.fn<=2^20):js P 197 [.ptr e 0,.agg s.enc] e v fun q v'=>q=.tup []/\v'=v.call s:=by
 intro H VS NS hE
 refine(L.a Tryz.func197 y197) (by simp[y197,f197]) ?_
 obtain⟨cs3,hcs3,C⟩:=stC s
 rw[hcs3]
 have hob:=hE.obj
 simp only[cR]at hob
 simp only[y197,f197,go_sem,rE,rA,C.len,rL]
 intro b3 hb3
 have d3e:=hE.ne hb3
 have he3:=hE.new hb3 (.cells cs3)
 have n3:=hE.notin hb3
 simp only[go_sem,rE,rA,d3e,hob,C.fn,rL]
 refine am (AR L v.p s.fn v.fn (by omega) (by omega)) (by simp only[go_sem,rE,Pg.enc]) ?_
 have hg3:(H.set b3 (.cells cs3)).get b3=some (.cells cs3):=ai _ _ _
 simp only[go_sem,rE,rA,fnAt_eq]
 cases hk:j4 v.p s.fn v.fn with
 |none=>
  simp only[go_sem,rE,rA,Int.reduceLT]
  refine bJ (oP L e v 2) he3 (rfl) (.refl _) (by simp) trivial ?_
  rintro q v1 VS1 NS1 H1 fp1 ⟨rfl,hv1⟩ hE1 - -
  simp only[go_sem]
  exact kB (aj.sub_refl _) ⟨v1,VS1,NS1,⟨rfl,by rw[hv1];simp only[En.call,hk]⟩,hE1⟩
 |some k=>
  have hkl:k<v.p.length:=by
   obtain⟨h,-⟩:=bN.1 hk
   simp at h;omega
  have hvk:v.p[k]?=some v.p[k]:=a6 hkl
  have hfk:=hp _ (az hkl)
  have hge:¬(k:Int)<0:=by omega
  obtain⟨cs5,hcs5,CF⟩:=fuC v.p[k]
  have hgk:(v.p.map Fu.enc)[k]?=some cs5:=by rw[<-hcs5];simp[hkl]
  have hcall:v.call s=if v.p[k].params.length≠s.args.length then v.fail 3 else
   match v.args (v.p[k].params.zip s.args) []with
   |(w,none)=>w
   |(w,some pl)=>((w.gone v.vars.length).pop v.vars.length).add ⟨s.name,v.p[k].lent,false,v.p[k].type,if v.p[k].lent then pl else [],false⟩:=by
   simp only[En.call,hk,hvk]
  rw[hcall]
  generalize v.p[k]=f at*
  clear hcall
  have stepEnd:∀(E:Env) (H:aj) (w:En) (pl:List Pl) (VS NS:AC) (tok:Option (Nat×Nat×Nat)),bA H e w VS NS->v.vars.length<=w.vars.length->w.names.length=v.names.length->E 0=.ptr e 0->∀b5,E 3=.ptr b3 0->E 5=.ptr b5 0->E 6=I v.vars.length->
   E 7=.sl 2 tok (pl.map Pl.enc)->H.get b3=some (.cells cs3)->H.get b5=some (.cells cs5)->¬aQ e VS NS b3->¬aQ e VS NS b5->
   aT.wp P (kd3) (bh.post [] fun q H'=>∃v' VS' NS',(q=.tup []/\v'=(w.pop v.vars.length).add ⟨s.name,f.lent,false,f.type,if f.lent then pl else [],false⟩)/\bA H' e v' VS' NS') E H:=by
   intro E H w pl VS NS tok hE hlw hnw e0 b5 e3 e5 e6 e7 g3 g5 n3 n5
   rw[kd3,fd3]
   obtain⟨vb,vc,cs,rfl,hr⟩:=hE.vars.row (i:=0) (by omega)
   have hob:=hE.obj
   simp only[cR]at hob
   have hcap:v.vars.length<=vc/\0<vc:=by have:=hr.cap;omega
   have hpop:=hE.pop (n:=v.vars.length) (by omega)
   simp only[cR]at hpop
   have d3e:b3≠e:=fun h=>n3 (.inl h)
   have d5e:b5≠e:=fun h=>n5 (.inl h)
   simp only[go_sem,rE,rA,e0,e3,e5,e6,e7,hob,Int.natCast_nonneg,Int.toNat_natCast,hcap,rL,d3e,d5e,g3,g5,C.name,CF.lent,CF.len,CF.type]
   refine gv (as':=[B f.lent,.sl 2 tok (pl.map Pl.enc)]) (yX L f.lent (pl.map Pl.enc) 2) (by simp only[go_sem,rE,e7]) ⟨.refl _,.tok _ _ _,trivial⟩ ?_
   rw[Ty.enc_eq f.type]
   simp only[go_sem,rE,rA,e0]
   have hle:(if f.lent=true then List.map Pl.enc pl else [])=List.map Pl.enc (if f.lent then pl else []):=by cases f.lent<;>rfl
   rw[hle]
   refine bJ (uS L e (w.pop v.vars.length) (by simp[En.pop];omega) (by simp only[En.pop];omega) ⟨s.name,f.lent,false,f.type,if f.lent then pl else [],false⟩) hpop (by simp only[go_sem,rE,Vr.enc]) (.refl _) (fun _=>⟨_,_,rfl,rfl⟩) trivial ?_
   rintro q v11 VS11 NS11 H11 fp11 ⟨rfl,hv11⟩ hE11 - -
   simp only[kr]
   exact cY (aj.sub_refl _) ⟨v11,VS11,NS11,⟨rfl,hv11⟩,hE11⟩
  have stepGone:∀(E:Env) (H:aj) (w:En) (pl:List Pl) (VS NS:AC) (tok:Option (Nat×Nat×Nat)),bA H e w VS NS->v.vars.length<=w.vars.length->w.vars.length<=2^20->w.names.length=v.names.length->E 0=.ptr e 0->∀b5,E 3=.ptr b3 0->E 5=.ptr b5 0->E 6=I v.vars.length->
   E 7=.sl 2 tok (pl.map Pl.enc)->H.get b3=some (.cells cs3)->H.get b5=some (.cells cs5)->¬aQ e VS NS b3->¬aQ e VS NS b5->
   aT.wp P (kd4) (bh.post [] fun q H'=>∃v' VS' NS',(q=.tup []/\v'=((w.gone v.vars.length).pop v.vars.length).add ⟨s.name,f.lent,false,f.type,if f.lent then pl else [],false⟩)/\bA H' e v' VS' NS') E H:=by
   intro E H w pl VS NS tok hE hlw hlw2 hnw e0 b5 e3 e5 e6 e7 g3 g5 n3 n5
   rw[kd4,fd4]
   simp only[go_sem,rE,rA,e6]
   refine aV (w.vars.length - v.vars.length) (fun i E H=>∃VS NS,bA H e (if((w.vars.drop v.vars.length).take i).any (fun x=>x.dead)then w.fail 4 else w) VS NS/\E 0=.ptr e 0/\E 3=.ptr b3 0/\E 5=.ptr b5 0/\E 6=I v.vars.length/\
    E 7=.sl 2 tok (pl.map Pl.enc)/\E 9=I ((v.vars.length+i:Nat):Int)/\H.get b3=some (.cells cs3)/\H.get b5=some (.cells cs5)/\¬aQ e VS NS b3/\¬aQ e VS NS b5) ⟨VS,NS,by simpa using hE,e0,e3,e5,e6,e7,rfl,g3,g5,n3,n5⟩ ?_
   clear hE e0 e3 e5 e6 e7 g3 g5 n3 n5
   rintro i E H hi ⟨VS,NS,hE,e0,e3,e5,e6,e7,e9,g3,g5,n3,n5⟩
   have hvars:(if((w.vars.drop v.vars.length).take i).any (fun x=>x.dead)then w.fail 4 else w).vars=w.vars:=by split<;>rfl
   obtain⟨vb,vc,cs,rfl,hr0⟩:=hE.vars.row (i:=0) (by rw[hvars];omega)
   have hob:=hE.obj
   have hlim:w.vars.length<=LIM:=by simp only[LIM];omega
   simp only[cR,hvars]at hob
   simp only[go_sem,rE,rA,e0,e9,hob,hlim]
   refine aH (fun hlt=>?_) (fun hge=>?_)
   ·have hlt1:v.vars.length+i<w.vars.length:=by omega
    obtain⟨vb',vc',cs',heq,hr⟩:=hE.vars.row (i:=v.vars.length+i) (by rw[hvars];omega)
    simp only[AC.lit.injEq,Value.slice.injEq,Option.some.injEq,Addr.mk.injEq,true_and,and_true]at heq
    obtain⟨rfl,rfl⟩:=heq
    have w1:=aP (n:=((v.vars.length+i:Nat):Int)+1) (by omega) (by omega)
    have hdd:=hr.dead
    simp only[hvars]at hdd
    have htk:((w.vars.drop v.vars.length).take (i+1)).any (fun x=>x.dead)=(((w.vars.drop v.vars.length).take i).any (fun x=>x.dead)||w.vars[v.vars.length+i].dead):=by
     rw[aC (by simp;omega),fY];simp
    simp only[go_sem,rE,rA,e0,e9,hob,hlt,hr.get,hdd]
    cases hd:w.vars[v.vars.length+i].dead
    ·simp only[go_sem,rE,rA,e9,w1]
     refine⟨by omega,H,aj.sub_refl _,_,NS,by rw[htk,hd,dE];exact hE,e0,e3,e5,e6,e7,by simp[go_sem];omega,g3,g5,n3,n5⟩
    ·simp only[go_sem,rE,rA,e0]
     refine bJ (oP L e _ 4) hE (by simp only[go_sem,rE,e0]) (.refl _) (by simp) trivial ?_
     rintro q v10 VS10 NS10 H10 fp10 ⟨rfl,hv10⟩ hE10 hk10 -
     obtain⟨g3,n3⟩:=hk10 _ _ g3 n3
     obtain⟨g5,n5⟩:=hk10 _ _ g5 n5
     simp only[go_sem,rE,rA,e9,w1]
     refine⟨by omega,H10,aj.sub_refl _,VS10,NS10,?_,e0,e3,e5,e6,e7,by simp[go_sem];omega,g3,g5,n3,n5⟩
     rw[htk,hd,Bool.or_true,if_pos rfl]
     have:v10=w.fail 4:=by
      rw[hv10]
      split
      ·simp only[En.fail,pt _ 4 (by decide)]
      ·rfl
     rw[<-this];exact hE10
   ·simp only[wp_exit,fh,dH,cu]
    have hi':i=w.vars.length - v.vars.length:=by omega
    rw[cy (by simp;omega)]at hE n3 n5
    exact stepEnd _ _ (w.gone v.vars.length) pl _ _ tok hE (by unfold En.gone;split<;>exact hlw) (by unfold En.gone;split<;>exact hnw) (e0) b5 (e3) (e5) (e6) (e7) g3 g5 n3 n5
  simp only[go_sem,rE,rA,hge,d3e,hob,hgk,CF.len,CF.all,CF.params]
  intro b5 hb5
  have d35:b3≠b5:=al hg3 hb5
  have he5:=he3.new hb5 (.cells cs5)
  have n5:=he3.notin hb5
  have d5e:=he3.ne hb5
  simp only[go_sem,rE,rA,d35,C.args,ao]
  by_cases hlen:f.params.length=s.args.length
  ·have hbne:((f.params.length:Int) !=s.args.length)=false:=by rw[hlen];simp
   have hlim:v.vars.length<=LIM:=by simp only[LIM];omega
   have hvr:=he5.vars
   obtain⟨vb,vc,cs,rfl,hr0⟩:=hvr.row (i:=0) hne
   have hlc:¬f.params.length≠s.args.length:=by simpa using hlen
   rw[if_neg hlc]
   simp only[hbne,go_sem,rE,rA,d3e,d5e,hob,hlim]
   intro b7 hb7
   have d37:b3≠b7:=al (H:=(H.set b3 (.cells cs3)).set b5 (.cells cs5)) (by rw[ae _ _ d35];exact hg3) hb7
   have d57:b5≠b7:=al (ai _ _ _) hb7
   let J:Nat->Env->aj->Prop:=fun k E H=>∃(w:En) (pl:List Pl) (VS NS:AC) (bt nt mt:Nat),bA H e w VS NS/\w.ok/\w.names=v.names/\v.vars.length<=w.vars.length/\w.vars.length<=v.vars.length+k/\pl.length<=k/\
    v.args (f.params.zip s.args) []=w.args ((f.params.zip s.args).drop k) pl/\E 0=.ptr e 0/\E 3=.ptr b3 0/\E 5=.ptr b5 0/\E 6=I v.vars.length/\E 7=.sl 2 (some (bt,nt,mt)) (pl.map Pl.enc)/\E 8=I k/\
    H.get b3=some (.cells cs3)/\H.get b5=some (.cells cs5)/\H.get bt=some (.tail nt mt)/\¬aQ e VS NS b3/\¬aQ e VS NS b5/\¬aQ e VS NS bt
   have he7:=he5.new hb7 (.tail 0 0)
   refine rU s.args.length J ⟨v,[],_,NS,b7,0,0,he7,hv,rfl,by omega,by omega,by simp,by simp,rfl,rfl,rfl,rfl,rfl,rfl,by rw[ae _ _ d37,ae _ _ d35];exact hg3,
    by rw[ae _ _ d57,ai],ai _ _ _,n3,n5,he5.notin hb7⟩ ?_
   clear he7 hob hlim he5 hvr
   rintro k E H hk ⟨w,pl,VS,NS,bt,nt,mt,hE,hw,hnm,hlw,hlw2,hpk,hargs,e0,e3,e5,e6,e7,e8,g3,g5,gt,n3,n5,n7⟩
   simp only[wp_seq,go_sem,rE,rA,e3,e8,g3,C.args,ao]
   refine aH (fun hlt=>?_) (fun hge=>?_)
   ·have hk1:k<s.args.length:=by omega
    have hk1':=hk1
    have hk2:k<f.params.length:=by omega
    obtain⟨ca,hca,CA⟩:=agC s.args[k]
    obtain⟨cp,hcp,CP⟩:=paC f.params[k]
    have hga:(s.args.map Ag.enc)[k]?=some ca:=by rw[<-hca];simp[hk1]
    have hgp:(f.params.map Pa.enc)[k]?=some cp:=by rw[<-hcp];simp[hk2]
    have hoka:=ha _ (az hk1)
    have hokp:=hfk.params _ (az hk2)
    have hz:(f.params.zip s.args).drop k=(f.params[k],s.args[k])::(f.params.zip s.args).drop (k+1):=by
     rw[bO (by simp;omega)];simp
    rw[hz]at hargs
    simp only[En.args]at hargs
    have w1:=aP (n:=(k:Int)+1) (by omega) (by omega)
    simp only[go_sem,rE,rA,e3,e5,e8,g3,C.args,g5,CF.params,hga,hgp,CA.lent,CP.lent1]
    by_cases hll:s.args[k].lent=f.params[k].lent
    ·rw[if_neg (by simpa using hll)]at hargs
     have hlf:f.params[k].lent=s.args[k].lent:=hll.symm
     have cl:=CA.lent
     cases hlent:s.args[k].lent
     ·rw[hlent]at hargs cl
      rw[if_neg (by simp)]at hargs
      simp only[hlf,hlent,cl,go_sem,rE,rA,e0,e3,e5,e8,g3,C.args,g5,CF.params,hga,hgp,CA.expr,CA.len,eV,kQ,rL]
      refine bJ (nJ L e _ s.args[k].expr (aA _) (hoka.expr hlent) w hw) hE (by simp only[go_sem,rE,e0]) (.refl _) (fun _=>⟨_,_,rfl,rfl⟩) (by simp[dQ]) ?_
      rintro q v1 VS1 NS1 H1 fp1 ⟨rfl,hv1⟩ hE1 hk1 hfp1
      have nf5:¬fp1 b5:=fun h=>(hfp1 b5 h).elim n5 (fun h=>by rw[g5]at h;simp at h)
      obtain⟨g3,n3⟩:=hk1 _ _ g3 n3
      obtain⟨g5,n5⟩:=hk1 _ _ g5 n5
      obtain⟨gt,n7⟩:=hk1 _ _ gt n7
      obtain⟨lk1,wf1⟩:=En.expr_good s.args[k].expr w hw
      rw[<-hv1]at lk1 hargs
      generalize(w.expr s.args[k].expr).2=t1 at*
      simp only[go_sem,rE,rA,e0,e3,e5,e8,g5,CF.params,hgp,jw,bi,cF,or_false,forall_eq,nf5,CP.len,CP.type,eV,kQ,rL]
      refine bJ (nI L e v1 t1 f.params[k].type wf1) hE1 (rfl) (.refl _) (fun _=>⟨_,_,rfl,rfl⟩) trivial ?_
      rintro q v2 VS2 NS2 H2 fp2 ⟨rfl,hv2⟩ hE2 hk2 -
      obtain⟨g3,n3⟩:=hk2 _ _ g3 n3
      obtain⟨g5,n5⟩:=hk2 _ _ g5 n5
      obtain⟨gt,n7⟩:=hk2 _ _ gt n7
      rw[<-hv2]at hargs
      have lk2:w.like v2:=lk1.trans (hv2▸eY _ _ _)
      simp only[go_sem,rE,rA,e8,w1]
      refine⟨hk1',H2,⟨fun _ _ h=>h,fun _ h=>h⟩,v2,pl,VS2,NS2,bt,nt,mt,hE2,lk2.ok hw,by rw[lk2.names,hnm],by rw[lk2.len];exact hlw,by rw[lk2.len];omega,by omega,hargs,e0,e3,e5,e6,e7,rfl,g3,g5,gt,n3,n5,n7⟩
     ·rw[hlent]at hargs cl
      rw[if_pos rfl]at hargs
      simp only[hlf,hlent,cl,go_sem,rE,rA,e0,e3,e5,e8,g3,C.args,g5,CF.params,hga,hgp,CA.place,CA.len,eV,kQ,rL]
      refine bJ (nH L e w hw s.args[k].place hoka.path) hE (by simp only[go_sem,rE,e0,Pl.enc]) (.refl _) (fun _=>⟨_,_,rfl,rfl⟩) (by simp[dQ]) ?_
      rintro q v1 VS1 NS1 H1 fp1 ⟨rfl,hv1⟩ hE1 hk1 hfp1
      have nf5:¬fp1 b5:=fun h=>(hfp1 b5 h).elim n5 (fun h=>by rw[g5]at h;simp at h)
      obtain⟨g3,n3⟩:=hk1 _ _ g3 n3
      obtain⟨g5,n5⟩:=hk1 _ _ g5 n5
      obtain⟨gt,n7⟩:=hk1 _ _ gt n7
      have lk1:w.like v1:=hv1▸w.use_like _
      have wf1:=iF hw s.args[k].place
      rw[<-hv1]at hargs
      generalize(w.use s.args[k].place).2=t1 at*
      simp only[go_sem,rE,rA,e0,e3,e5,e8,g5,CF.params,hgp,jw,bi,cF,or_false,forall_eq,nf5,CP.len,CP.type,eV,kQ,rL]
      refine bJ (nI L e v1 t1 f.params[k].type wf1) hE1 (rfl) (.refl _) (fun _=>⟨_,_,rfl,rfl⟩) trivial ?_
      rintro q v2 VS2 NS2 H2 fp2 ⟨rfl,hv2⟩ hE2 hk2 -
      obtain⟨g3,n3⟩:=hk2 _ _ g3 n3
      obtain⟨g5,n5⟩:=hk2 _ _ g5 n5
      obtain⟨gt,n7⟩:=hk2 _ _ gt n7
      rw[<-hv2]at hargs
      have lk2:w.like v2:=lk1.trans (hv2▸eY _ _ _)
      have hl2:=lk2.len
      have ho2:=hE2.obj
      simp only[cR]at ho2
      simp only[go_sem,rE,rA,e0,e3,e8,ho2,g3,C.args,hga,CA.place,CA.len,eV,kQ,rL,ax,av,ay,bg]
      intro b9 hb9
      have hE3:=hE2.new hb9 (.tail 2 2)
      have d39:=al g3 hb9
      have d59:=al g5 hb9
      have dt9:=al gt hb9
      refine qc (rows:=v2.vars.map Vr.enc) (ys:=[[S (bl []),B true,B false,NIL,.sl 2 (some (b9,2,2)) [[S s.args[k].place.name,au s.args[k].place.path]],B false]]) (by simp only[go_sem,rE];exact hE3.vars) (rfl) (by simp) (by simp;omega) rfl ?_
      intro VS6 H6 fp6 hVS6 hkeep6 hblk6
      simp only[go_sem,rE]at hkeep6 hblk6
      obtain⟨g6e,hW,hk6⟩:=y5 (x:=cK s.args[k].place) hE3 hVS6 hkeep6 hblk6 (sj _ _)
      obtain⟨g63,-,n63⟩:=hk6 b3 _ (by rw[ae _ _ d39];exact g3) n3
      obtain⟨g65,-,n65⟩:=hk6 b5 _ (by rw[ae _ _ d59];exact g5) n5
      obtain⟨g6t,-,n67⟩:=hk6 bt _ (by rw[ae _ _ dt9];exact gt) n7
      simp only[cR]at g6e hW g63 g65 g6t
      simp only[go_sem,rE,rA,g6e,hVS6.one,rL]
      generalize H6.set e (.cells [AC.sl 12 none (v2.p.map Fu.enc),I v2.fn,VS6,NS2,I v2.code])=H7 at*
      simp only[go_sem,rE,rA,e3,e7,e8,g63,C.args,hga,CA.place,CA.len,eV,kQ,rL,ax,av,ay,bg]
      refine dS (es:=pl.map Pl.enc) (ys:=[[S s.args[k].place.name,au s.args[k].place.path]]) (rfl) g6t (rfl) (by simp) (by simp;omega) ?_
      intro bt' nt' mt' H8 fp8 gt8 hkeep8 hbt8 _
      have keep8:∀d,aQ e VS6 NS2 d->H8.get d=H7.get d:=by
       intro d hd
       have hne:H7.get d≠none:=by
        obtain⟨H0,hpw,-,hE0⟩:=hW
        exact fun hn=>hE0.mem hd ((hpw.dom d).1 hn)
       exact hkeep8 d hne (by rintro rfl;exact n67 hd)
      have hW8:=hW.mono keep8
      obtain⟨H9,hwk,hE9,hout9⟩:=hW8.wk
      have hin:∀b o,H7.get b=some o->b≠bt->¬aQ e VS6 NS2 b->H9.get b=some o:=by
       intro b o hb hne hnb
       rw[hout9 b hnb,hkeep8 b (by rw[hb];simp) hne];exact hb
      have nt9:¬aQ e VS6 NS2 bt':=by
       rcases hbt8 with rfl|h
       ·exact n67
       ·intro hd
        obtain⟨H0,hpw,-,hE0⟩:=hW
        exact hE0.mem hd ((hpw.dom _).1 h)
      have d3t:b3≠bt:=by rintro rfl;rw[g63]at g6t;simp at g6t
      have d5t:b5≠bt:=by rintro rfl;rw[g65]at g6t;simp at g6t
      simp only[go_sem,rE,rA,e8,w1]
      have hpush:(v2.push (cK s.args[k].place)).vars.length=v2.vars.length+1:=by simp[En.push]
      refine⟨hk1',H9,hwk,v2.push (cK s.args[k].place),pl++[s.args[k].place],VS6,NS2,bt',nt',mt',hE9,(lk2.ok hw).push (by omega) ⟨mO hoka.path,dK⟩,?_,by rw[hpush];omega,by rw[hpush];omega,by simp;omega,hargs,
       e0,e3,e5,e6,by simp[go_sem,Pl.enc],rfl,hin b3 _ g63 d3t n63,hin b5 _ g65 d5t n65,by rw[hout9 bt' nt9];exact gt8,n63,n65,nt9⟩
      show(v2.push (cK s.args[k].place)).names=v.names
      exact lk2.names.trans hnm
    ·have hb1:(!(s.args[k].lent==f.params[k].lent))=true:=by simp[hll]
     rw[if_pos (by simpa using hll)]at hargs
     simp only[hb1,go_sem,rE,rA,e0]
     refine bJ (oP L e w 3) hE (by simp only[go_sem,rE,e0]) (.refl _) (by simp) trivial ?_
     rintro q v1 VS1 NS1 H1 fp1 ⟨rfl,hv1⟩ hE1 - -
     simp only[go_sem]
     rw[hargs]
     exact kB (aj.sub_refl _) ⟨v1,VS1,NS1,⟨rfl,hv1⟩,hE1⟩
   ·have hkk:k=s.args.length:=by omega
    subst hkk
    simp only[wp_exit,fh,dH,cu]
    rw[List.drop_of_length_le (by simp;omega),En.args]at hargs
    rw[hargs]
    exact stepGone _ _ w pl VS NS (some (bt,nt,mt)) hE hlw hw.len (by rw[hnm]) (e0) b5 (e3) (e5) (e6) (e7) g3 g5 n3 n5
  ·have hbne:((f.params.length:Int) !=s.args.length)=true:=bne_iff_ne.2 (by omega)
   have hlc:f.params.length≠s.args.length:=hlen
   rw[if_pos hlc]
   simp only[hbne,go_sem,rE,rA]
   refine bJ (oP L e v 3) he5 (rfl) (.refl _) (by simp) trivial ?_
   rintro q v1 VS1 NS1 H1 fp1 ⟨rfl,hv1⟩ hE1 - -
   simp only[go_sem]
   exact kB (aj.sub_refl _) ⟨v1,VS1,NS1,⟨rfl,hv1⟩,hE1⟩
end
def fI(vs zas bs:List Vr):List Vr:=vs.mapIdx fun i x=>{x with dead:=cZ zas i||cZ bs i}
def En.join(v a b:En):En:=(({v with vars:=fI v.vars a.vars b.vars,names:=b.names}:En).fail0 a.code).fail0 b.code
mutual
noncomputable def En.stmt (v:En):St->En
 |.mk k n p o e f zas t l=>
  if k=1 then(v.expr e).1.add ⟨n,false,false,(v.expr e).2,[],false⟩
  else if k=2 then(v.use p).1.add ⟨n,true,false,(v.use p).2,[p],false⟩
  else if k=3 then((v.expr e).1.use p).1.same ((v.expr e).1.use p).2 (v.expr e).2
  else if k=4 then v.call (.mk k n p o e f zas t l)
  else if k=6 then v.pick (.mk k n p o e f zas t l)
  else
   let w:=(v.expr e).1.num (v.expr e).2
   let a:=w.body t
   w.join a (({w with names:=a.names}:En).body l)
termination_by x=>SizeOf.sizeOf x
noncomputable def En.body (v:En):List St->En
 |[]=>v
 |s::l=>if v.code=0 then(v.stmt s).body l else v
termination_by x=>SizeOf.sizeOf x
end
noncomputable def En.fork(v:En)(s:St):En:=v.join (v.body s.thn) (({v with names:=(v.body s.thn).names}:En).body s.els)
theorem En.stmt_eq(v:En)(s:St):v.stmt s=if s.kind=1 then(v.expr s.expr).1.add ⟨s.name,false,false,(v.expr s.expr).2,[],false⟩
 else if s.kind=2 then(v.use s.place).1.add ⟨s.name,true,false,(v.use s.place).2,[s.place],false⟩
 else if s.kind=3 then((v.expr s.expr).1.use s.place).1.same ((v.expr s.expr).1.use s.place).2 (v.expr s.expr).2
 else if s.kind=4 then v.call s else if s.kind=6 then v.pick s else((v.expr s.expr).1.num (v.expr s.expr).2).fork s:=by
 obtain⟨k,n,p,o,e,f,zas,t,l⟩:=s
 rw[En.stmt.eq_def];rfl
theorem hZ(v:En):v.body []=v:=by rw[En.body.eq_def]
theorem ig(v:En)(s:St)(l:List St):v.body (s::l)=if v.code=0 then(v.stmt s).body l else v:=by rw[En.body.eq_def]
mutual
def St.cnt:St->Nat
 |.mk _ _ _ _ _ _ zas t l=>1+zas.length+bq t+bq l
def bq:List St->Nat
 |[]=>0
 |s::l=>s.cnt+bq l
end
theorem dx(s:St):s.cnt=1+s.args.length+bq s.thn+bq s.els:=by cases s;rw[St.cnt];rfl
theorem eP:bq []=0:=by rw[bq]
theorem cQ(s:St)(l:List St):bq (s::l)=s.cnt+bq l:=by rw[bq]
theorem iD:∀l:List St,l.length<=bq l
 |[]=>by simp
 |s::l=>by rw[cQ,dx,aR];have:=iD l;omega
inductive St.ok:St->Prop where
 |mk {k:Int} {n:ByteArray} {p o:Pl} {e:Ex} {f:ByteArray} {zas:List Ag} {t l:List St} (hp:p.path.length<=2^20) (ho:o.path.length<=2^20) (he:k≠2->k≠4->e.ok) (ha:∀a∈zas,a.ok)
  (ht:∀x∈t,St.ok x) (hl:∀x∈l,St.ok x):St.ok (.mk k n p o e f zas t l)
theorem St.ok.get{s:St}(h:s.ok):s.place.path.length<=2^20/\s.other.path.length<=2^20/\(s.kind≠2->s.kind≠4->s.expr.ok)/\(∀a∈s.args,a.ok)/\(∀x∈s.thn,x.ok)/\∀x∈s.els,x.ok:=by
 cases h with
 |mk h1 h2 h3 h4 h5 h6=>exact⟨h1,h2,h3,h4,h5,h6⟩
structure En.step(v w:En)(n:Nat):Prop where
 p:w.p=v.p
 fn:w.fn=v.fn
 lo:v.vars.length<=w.vars.length
 hi:w.vars.length<=v.vars.length+n
 names:w.names.length<=v.names.length+n
 ok:w.ok
theorem En.step.refl{v:En}(h:v.ok):v.step v 0:=⟨rfl,rfl,aA _,aA _,aA _,h⟩
theorem En.step.trans{u v w:En}{n m:Nat}(h:u.step v n)(h':v.step w m):u.step w (n+m):=
 ⟨h'.p.trans h.p,h'.fn.trans h.fn,cg h.lo h'.lo,by have:=h.hi;have:=h'.hi;omega,by have:=h.names;have:=h'.names;omega,h'.ok⟩
theorem En.step.mono{v w:En}{n m:Nat}(h:v.step w n)(hm:n<=m):v.step w m:=⟨h.p,h.fn,h.lo,by have:=h.hi;omega,by have:=h.names;omega,h.ok⟩
theorem En.like.step{v w:En}(h:v.like w)(ho:v.ok):v.step w 0:=⟨h.p,h.fn,by rw[h.len];exact aA _,by rw[h.len];exact aA _,by rw[h.names];exact aA _,h.ok ho⟩
theorem En.step.add{v w:En}{n:Nat}(h:v.step w n)(hl:v.vars.length+n+1<=2^20){x:Vr}(hx:x.ok/\x.type.wf):v.step (w.add x) (n+1):=by
 have hh:=h.hi
 have hlo:=h.lo
 have hn:=h.names
 refine⟨h.p,h.fn,by simp[En.add];omega,by simp[En.add];omega,by simp[En.add];omega,⟨by simp[En.add];omega,fun y hy=>?_⟩⟩
 simp only[En.add,aE,bQ]at hy
 rcases hy with hy|rfl
 ·exact h.ok.all y hy
 ·exact hx
theorem l6:∀(l:List (Pa×Ag)) (v:En) (pl:List Pl),v.ok->v.vars.length+l.length<=2^20->(∀x∈l,x.2.ok)->
 v.step (v.args l pl).1 l.length/\(v.args l pl).1.names=v.names/\∀q,(v.args l pl).2=some q->q.length<=pl.length+l.length/\∀r∈q,r∈pl\/r.path.length<=2^20
 |[],v,pl,h,hl,ha=>⟨.refl h,rfl,fun q hq=>by simp[En.args]at hq;subst hq;exact⟨by simp,fun r hr=>.inl hr⟩⟩
 |(p,a)::l,v,pl,h,hl,ha=>by
  simp only[aR]at hl
  have hoka:=ha (p,a) (by simp)
  rw[En.args]
  by_cases h1:a.lent≠p.lent
  ·rw[if_pos h1]
   exact⟨(iR v 3).step h|>.mono (by simp),rfl,fun q hq=>by simp at hq⟩
  ·rw[if_neg h1]
   by_cases h2:a.lent=true
   ·rw[if_pos h2]
    have hs:=((v.use_like a.place).trans (eY _ (v.use a.place).2 p.type))
    have ho:=hs.ok h
    have hpush:=ho.push (x:=cK a.place) (by rw[hs.len];omega) ⟨mO hoka.path,dK⟩
    obtain⟨i1,i2,i3⟩:=l6 l _ (pl++[a.place]) hpush (by simp only[En.push,bv,aR,bM,hs.len];omega) (fun x hx=>ha x (by simp[hx]))
    refine⟨?_,i2.trans hs.names,fun q hq=>?_⟩
    ·have s1:v.step (((v.use a.place).1.same (v.use a.place).2 p.type).push (cK a.place)) 1:=
      ⟨hs.p,hs.fn,by simp only[En.push,bv,hs.len];omega,by simp only[En.push,bv,aR,bM,hs.len];omega,by simp only[En.push,hs.names];omega,hpush⟩
     exact(s1.trans i1).mono (by simp;omega)
    ·obtain⟨j1,j2⟩:=i3 q hq
     refine⟨by simp at j1⊢;omega,fun r hr=>?_⟩
     rcases j2 r hr with h|h
     ·rcases aE.1 h with h|h
      ·exact .inl h
      ·simp at h;subst h;exact .inr hoka.path
     ·exact .inr h
   ·rw[if_neg h2]
    obtain⟨g1,g2⟩:=En.expr_good a.expr v h
    have hs:=g1.trans (eY _ (v.expr a.expr).2 p.type)
    obtain⟨i1,i2,i3⟩:=l6 l _ pl (hs.ok h) (by rw[hs.len];omega) (fun x hx=>ha x (by simp[hx]))
    exact⟨((hs.step h).trans i1).mono (by simp),i2.trans hs.names,fun q hq=>by obtain⟨j1,j2⟩:=i3 q hq;exact⟨by simp;omega,j2⟩⟩
theorem En.ok.pop{v:En}(h:v.ok)(n:Nat):(v.pop n).ok:=⟨by simp[En.pop];have:=h.len;omega,fun x hx=>h.all x (cP hx)⟩
theorem tQ{v:En}{s:St}(h:v.ok)(hl:v.vars.length+s.args.length+1<=2^20)(ha:∀a∈s.args,a.ok)(hp:∀f∈v.p,f.okS):v.step (v.call s) (s.args.length+1):=by
 unfold En.call
 split
 ·exact((iR v 2).step h).mono (by omega)
 ·split
  ·exact(En.step.refl h).mono (by omega)
  ·rename_i f hf
   have hfo:=hp f (aY hf)
   split
   ·exact((iR v 3).step h).mono (by omega)
   ·rename_i hlen
    have hlen:f.params.length=s.args.length:=by simpa using hlen
    have hz:(f.params.zip s.args).length=s.args.length:=by simp;omega
    obtain⟨i1,i2,i3⟩:=l6 (f.params.zip s.args) v [] h (by rw[hz];omega) (fun x hx=>ha _ (List.of_mem_zip hx).2)
    rw[hz]at i1 i3
    split
    ·rename_i w hw
     rw[hw]at i1
     exact i1.mono (by omega)
    ·rename_i w pl hw
     rw[hw]at i1 i2 i3
     simp only at i1 i2 i3
     obtain⟨j1,j2⟩:=i3 pl rfl
     have hg:(w.gone v.vars.length).vars=w.vars:=by unfold En.gone;split<;>rfl
     have hg2:(w.gone v.vars.length).names=w.names:=by unfold En.gone;split<;>rfl
     have hg3:(w.gone v.vars.length).p=w.p:=by unfold En.gone;split<;>rfl
     have hg4:(w.gone v.vars.length).fn=w.fn:=by unfold En.gone;split<;>rfl
     have hgo:(w.gone v.vars.length).ok:=by unfold En.gone;split;exact(iR _ _).ok i1.ok;exact i1.ok
     have hlo:=i1.lo
     have s1:v.step ((w.gone v.vars.length).pop v.vars.length) 0:=by
      refine⟨hg3.trans i1.p,hg4.trans i1.fn,?_,?_,?_,hgo.pop _⟩
      ·simp only[En.pop,hg,bI];omega
      ·simp only[En.pop,hg,bI];omega
      ·simp only[En.pop,hg2,i2];omega
     refine(s1.add (by omega) ⟨⟨?_,?_⟩,hfo.type⟩).mono (by omega)
     ·simp only;split
      ·simp at j1;omega
      ·simp
     ·intro q hq
      simp only at hq
      split at hq
      ·exact(j2 q hq).resolve_left (by simp)
      ·simp at hq
theorem tJ{v:En}{s:St}(h:v.ok)(hl:v.vars.length+1<=2^20)(hp:s.place.path.length<=2^20)(ho:s.other.path.length<=2^20):v.step (v.pick s) 1:=by
 obtain⟨g1,g2⟩:=En.expr_good s.expr v h
 have l1:=(g1.trans (En.num_like _ (v.expr s.expr).2)).trans (En.use_like _ s.place)
 have l2:((((v.expr s.expr).1.num (v.expr s.expr).2).use s.place).1.push (cK s.place)).like _:=(En.use_like _ s.other).trans (eY _ (((((v.expr s.expr).1.num (v.expr s.expr).2).use s.place).1.push (cK s.place)).use s.other).2 (((v.expr s.expr).1.num (v.expr s.expr).2).use s.place).2)
 have wf:(((v.expr s.expr).1.num (v.expr s.expr).2).use s.place).2.wf:=iF ((g1.trans (En.num_like _ (v.expr s.expr).2)).ok h) s.place
 simp only[En.pick]
 generalize(((v.expr s.expr).1.num (v.expr s.expr).2).use s.place).2=t at*
 generalize(((v.expr s.expr).1.num (v.expr s.expr).2).use s.place).1=u at*
 generalize((u.push (cK s.place)).use s.other).1.same ((u.push (cK s.place)).use s.other).2 t=w at*
 have l3:(u.push (cK s.place)).like (if cZ w.vars u.vars.length then w.fail 4 else w):=by
  split
  ·exact l2.trans (iR _ _)
  ·exact l2
 generalize(if cZ w.vars u.vars.length then w.fail 4 else w)=w' at*
 have okp:=(l1.ok h).push (x:=cK s.place) (by rw[l1.len];exact hl) ⟨mO hp,dK⟩
 have hlw:w'.vars.length=u.vars.length+1:=by rw[l3.len];simp[En.push]
 have hlu:=l1.len
 have s1:v.step (w'.pop u.vars.length) 0:=by
  refine⟨l3.p.trans l1.p,l3.fn.trans l1.fn,?_,?_,?_,(l3.ok okp).pop _⟩
  ·simp only[En.pop,bI];omega
  ·simp only[En.pop,bI];omega
  ·simp only[En.pop,l3.names,En.push,l1.names];omega
 exact s1.add (by omega) ⟨⟨by simp,by simp;exact⟨hp,ho⟩⟩,wf⟩
theorem nA(vs zas bs:List Vr):(fI vs zas bs).length=vs.length:=by simp[fI]
theorem yB{vs zas bs:List Vr}(h:∀x∈vs,x.ok/\x.type.wf):∀x∈fI vs zas bs,x.ok/\x.type.wf:=by
 intro x hx
 obtain⟨i,hi,rfl⟩:=bk.1 hx
 simp only[fI,List.length_mapIdx]at hi
 simp only[fI,List.getElem_mapIdx]
 obtain⟨⟨h1,h2⟩,h3⟩:=h _ (az hi)
 exact⟨⟨h1,h2⟩,h3⟩
theorem tK{v a b:En}(h:v.ok){n:Nat}(hn:b.names.length<=v.names.length+n):v.step (v.join a b) n:=by
 have hl:=h.len
 refine⟨rfl,rfl,by simp[En.join,En.fail0,nA],by simp[En.join,En.fail0,nA],hn,⟨by simp[En.join,En.fail0,nA];exact hl,?_⟩⟩
 exact yB h.all
theorem En.stmt_step:∀(n:Nat),(∀(s:St),s.cnt<=n->s.ok->∀v:En,v.ok->v.vars.length+s.cnt<=2^20->(∀f∈v.p,f.okS)->v.step (v.stmt s) s.cnt)/\
 (∀(l:List St),bq l<=n->(∀s∈l,s.ok)->∀v:En,v.ok->v.vars.length+bq l<=2^20->(∀f∈v.p,f.okS)->v.step (v.body l) (bq l)):=by
 intro n
 induction n with
 |zero=>
  refine⟨fun s hs=>by rw[dx]at hs;omega,fun l hl hok v hv hle hp=>?_⟩
  have:l=[]:=by
   cases l with
   |nil=>rfl
   |cons s l=>rw[cQ,dx]at hl;omega
  subst this
  rw[hZ,eP];exact .refl hv
 |succ n ih=>
  have stm:∀(s:St),s.cnt<=n+1->s.ok->∀v:En,v.ok->v.vars.length+s.cnt<=2^20->(∀f∈v.p,f.okS)->v.step (v.stmt s) s.cnt:=by
   intro s hs hok v hv hle hp
   rw[dx]at hs hle⊢
   obtain⟨h1,h2,h3,h4,h5,h6⟩:=hok.get
   rw[En.stmt_eq]
   obtain⟨g1,g2⟩:=En.expr_good s.expr v hv
   by_cases k1:s.kind=1
   ·rw[if_pos k1];exact((g1.step hv).add (by omega) ⟨⟨by simp,by simp⟩,g2⟩).mono (by omega)
   rw[if_neg k1]
   by_cases k2:s.kind=2
   ·rw[if_pos k2];exact(((v.use_like s.place).step hv).add (by omega) ⟨⟨by simp,by simp;exact h1⟩,iF hv s.place⟩).mono (by omega)
   rw[if_neg k2]
   by_cases k3:s.kind=3
   ·rw[if_pos k3];exact(((g1.trans (En.use_like _ s.place)).trans (eY _ _ _)).step hv).mono (by omega)
   rw[if_neg k3]
   by_cases k4:s.kind=4
   ·rw[if_pos k4];exact(tQ hv (by omega) h4 hp).mono (by omega)
   rw[if_neg k4]
   by_cases k6:s.kind=6
   ·rw[if_pos k6];exact(tJ hv (by omega) h1 h2).mono (by omega)
   rw[if_neg k6]
   have hw:=g1.trans (En.num_like _ (v.expr s.expr).2)
   generalize(v.expr s.expr).1.num (v.expr s.expr).2=w at*
   have hwl:=hw.len
   have ha:=ih.2 s.thn (by omega) h5 w (hw.ok hv) (by omega) (by rw[hw.p];exact hp)
   have hb:=ih.2 s.els (by omega) h6 {w with names:=(w.body s.thn).names} (by obtain⟨q1,q2⟩:=hw.ok hv;exact⟨q1,q2⟩) (by simp only;omega) (by simp only;rw[hw.p];exact hp)
   have n1:=ha.names
   have n2:=hb.names
   have:=tK (a:=w.body s.thn) (b:=({w with names:=(w.body s.thn).names}:En).body s.els) (hw.ok hv) (n:=bq s.thn+bq s.els) (by simp only at n2;omega)
   exact(((hw.step hv).trans this)).mono (by omega)
  refine⟨stm,fun l=>?_⟩
  induction l with
  |nil=>intro hl hok v hv hle hp;rw[hZ,eP];exact .refl hv
  |cons s l ihl=>
   intro hl hok v hv hle hp
   rw[cQ]at hl hle⊢
   rw[ig]
   split
   ·have h1:=stm s (by omega) (hok s (by simp)) v hv (by omega) hp
    have h2:=h1.hi
    exact h1.trans (ihl (by omega) (fun x hx=>hok x (by simp[hx])) _ h1.ok (by omega) (by rw[h1.p];exact hp))
   ·exact(En.step.refl hv).mono (by omega)
theorem bA.sub{H H1:aj}{e:Nat}{v:En}{VS NS:AC}(h:bA H e v VS NS)(hs:H.sub H1):bA H1 e v VS NS:=by
 refine h.mono fun d hd=>?_
 obtain⟨o,ho⟩:=aI.1 (h.mem hd)
 rw[ho];exact hs _ _ ho
theorem bA.keep{H H1:aj}{e:Nat}{v:En}{VS NS:AC}{T T1:Nat->Prop}(h:bA H e v VS NS)(hk:∀b o,H.get b=some o->¬T b->H1.get b=some o/\¬T1 b)(hd:∀d,aQ e VS NS d->¬T d):
 bA H1 e v VS NS/\∀d,aQ e VS NS d->¬T1 d:=by
 have key:∀d,aQ e VS NS d->∃o,H.get d=some o/\H1.get d=some o/\¬T1 d:=by
  intro d hd'
  obtain⟨o,ho⟩:=aI.1 (h.mem hd')
  obtain⟨h1,h2⟩:=hk d o ho (hd d hd')
  exact⟨o,ho,h1,h2⟩
 exact⟨h.mono fun d hd'=>by obtain⟨o,h1,h2,-⟩:=key d hd';rw[h1,h2],fun d hd'=>by obtain⟨o,-,-,h3⟩:=key d hd';exact h3⟩
def mX(vs:List Vr)(i:Nat)(c:Bool):List Vr:=vs.modify i fun v=>{v with dead:=c}
theorem oF(vs:List Vr)(i:Nat)(c:Bool):(mX vs i c).length=vs.length:=by simp[mX]
theorem yJ(vs:List Vr)(i:Nat)(c:Bool):(mX vs i c).map Vr.enc=(vs.map Vr.enc).modify i fun r=>r.set 5 (B c):=by
 unfold mX
 apply fQ
 intro k
 simp only[co,List.getElem?_modify]
 cases vs[k]? with
 |none=>rfl
 |some v=>by_cases h:i=k<;>simp[h,Vr.enc]
theorem z7{vs:List Vr}{cs:List AC}(c:Bool)(hcs:cs.take ((vs.map Vr.enc).length*6)=(vs.map Vr.enc).flatten){i:Nat}(hi:i<vs.length):
 (bx cs (i*6+5) [B c]).length=cs.length/\(bx cs (i*6+5) [B c]).take (((mX vs i c).map Vr.enc).length*6)=((mX vs i c).map Vr.enc).flatten:=by
 have hlen:=dB (ys:=vs.map Vr.enc) (sz:=6) (by simp[Vr.enc])
 have h1:i*6+5<(vs.map Vr.enc).length*6:=by simp;omega
 have h2:(vs.map Vr.enc).length*6<=cs.length:=by
  have:=congrArg List.length hcs
  rw[hlen,bI]at this;omega
 rw[pU _ (by omega)]
 refine⟨by simp,?_⟩
 have h3:((mX vs i c).map Vr.enc).length=(vs.map Vr.enc).length:=by simp[oF]
 rw[h3,List.take_set,hcs,yJ,qe (sz:=6) _ _ _ _ (by simp[Vr.enc]) (by omega)]
theorem wX{H:aj}{e:Nat}{v:En}{NS:AC}{vb vc i:Nat}{cs:List AC}(c:Bool)(h:bA H e v (.lit (.slice (some ⟨vb,0,none⟩) v.vars.length vc)) NS)(hi:i<v.vars.length)(hr:vz H v.vars i vb vc cs hi):
 bA (H.set vb (.cells (bx cs (i*6+5) [B c]))) e {v with vars:=mX v.vars i c} (.lit (.slice (some ⟨vb,0,none⟩) v.vars.length vc)) NS:=by
 obtain⟨k1,k2⟩:=z7 c hr.all hi
 have hne:e≠vb:=by rintro rfl;exact iw h.obj h.vars ⟨_,_,rfl⟩
 refine⟨by rw[ae _ _ hne];exact h.obj,.inr ⟨vb,vc,_,by simp[oF],ai _ _ _,by rw[k1];exact hr.len,by simp[oF];exact hr.cap,k2⟩,h.names.set hr.get _⟩
def fE(vs zas bs:List Vr)(n:Nat):List Vr:=vs.mapIdx fun i x=>if i<n then {x with dead:=cZ zas i||cZ bs i}else x
theorem pf(vs zas bs:List Vr)(n:Nat):(fE vs zas bs n).length=vs.length:=by simp[fE]
theorem th(vs zas bs:List Vr):fE vs zas bs 0=vs:=by
 apply fQ
 intro k
 simp[fE]
theorem u4(vs zas bs:List Vr):fE vs zas bs vs.length=fI vs zas bs:=by
 apply List.ext_getElem (by simp[fE,fI])
 intro k h1 h2
 have:k<vs.length:=by simpa[fE]using h1
 simp[fE,fI,this]
theorem tj(vs zas bs:List Vr)(n:Nat):fE vs zas bs (n+1)=mX (fE vs zas bs n) n (cZ zas n||cZ bs n):=by
 apply fQ
 intro k
 simp only[mX,fE,List.getElem?_modify,List.getElem?_mapIdx]
 cases vs[k]? with
 |none=>rfl
 |some v=>
  by_cases h:n=k
  ·subst h;simp
  ·have:(k<n+1)=(k<n):=by apply propext;omega
   simp[h,this]
section
variable {P:Program}{F:Ids}
theorem lO(L:Lib P F){K:Env->aj->Prop}{xs:List aJ}{E:Env}{H:aj}{l:Lds}{f:Fps}{i:Nat}{args:List aG}{d:Option Nat}{e:Nat}{v:En}{VS NS:AC}(hE:bA H e v VS NS)
(hl:v.vars.length<=2^30)(hn:v.names.length<=2^30)(ha:args.map (aG.ev E)=[.ptr e 0])
(h:∀a VS' NS' H1 fp,bA H1 a v VS' NS'->H.sub H1->(∀d,aQ a VS' NS' d->H.get d=none)->bp P false K xs (E.put d (.ptr a 0)) H1 l ((i,fp)::f)):
 bp P false K (⟨i,d,none,.eff (.call 94 args),[]⟩::xs) E H l f:=by
 refine gu (aQ e VS NS) (Bg L e v VS NS (H.only (aQ e VS NS)) hE.only hl hn) ha (.refl _) (by simp) trivial ?_
 rintro q H' H1 ⟨a,VS',NS',rfl,hE',hsame,hnew⟩ hsub hafter hn2 -
 refine h a VS' NS' H1 _ (hE'.sub hsub) (fun b o hb=>?_) (fun d hd=>?_)
 ·by_cases hS:aQ e VS NS b
  ·refine hsub b o ?_
   rw[hsame b (by rw[bf hS,hb];simp),bf hS];exact hb
  ·rw[hafter.out b hS (by rw[hb];simp)];exact hb
 ·rcases hn2 d (hE'.mem hd)with h|h
  ·have:=hnew d hd
   rw[bf h]at this;exact this
  ·exact h
theorem e_fork(L:Lib P F)(e:Nat)(v:En)(s:St)(hv:v.ok)(hl:v.vars.length+bq s.thn+bq s.els<=2^20)(hn:v.names.length+bq s.thn+bq s.els<=2^20)(hne:0<v.vars.length)(hs:s.ok)
(hp:∀f∈v.p,f.okS)
(hbody:∀(a:Nat) (l:List St),(l=s.thn\/l=s.els)->∀w:En,w.ok->w.p=v.p->w.fn=v.fn->w.vars.length=v.vars.length->w.names.length+bq l<=2^20->js P 102 [.ptr a 0,.sl 15 none (St.encs l)] a w fun q v'=>q=.tup []/\v'=w.body l):
 js P 199 [.ptr e 0,.agg s.enc] e v fun q v'=>q=.tup []/\v'=v.fork s:=by
 intro H VS NS hE
 refine(L.a Tryz.func199 y199) (by simp[y199]) ?_
 obtain⟨cs3,hcs3,C⟩:=stC s
 obtain⟨h1,h2,h3,h4,h5,h6⟩:=hs.get
 have hvl:=hv.len
 rw[hcs3]
 simp only[y199,go_sem,rE,rA]
 intro b3 hb3
 have hE3:=hE.new hb3 (.cells cs3)
 have n3:=hE.notin hb3
 have g3:(H.set b3 (.cells cs3)).get b3=some (.cells cs3):=ai _ _ _
 refine lO L hE3 (by omega) (by omega) (rfl) ?_
 intro a VSa NSa H1 fp hEa hs1 hnew
 have hE1:=hE3.sub hs1
 have dis1:∀d,aQ e VS NS d->¬aQ a VSa NSa d:=fun d hd hd'=>hE3.mem hd (hnew d hd')
 have na3:¬aQ a VSa NSa b3:=fun h=>by have:=hnew b3 h;rw[g3]at this;simp at this
 have g3:=hs1 _ _ g3
 clear hnew hs1 hE3 hE
 simp only[go_sem,rE,rA,g3,C.thn]
 refine bJ (hbody a s.thn (.inl rfl) v hv rfl rfl rfl (by omega)) hEa (rfl) (.refl _) (by simp) trivial ?_
 rintro q va VSa NSa H2 fp2 ⟨rfl,hva⟩ hEa hk2 -
 obtain⟨hE2,dis2⟩:=hE1.keep hk2 dis1
 obtain⟨g3,na3⟩:=hk2 _ _ g3 na3
 have sa:=(En.stmt_step (bq s.thn)).2 s.thn (aA _) h5 v hv (by omega) hp
 rw[<-hva]at sa
 clear hk2 dis1 hE1
 simp only[go_sem,rE,rA]
 refine lO L hE2 (by omega) (by omega) (rfl) ?_
 intro b VSb NSb H3 fp hEb hs3 hnew
 have hE3:=hE2.sub hs3
 have hEa3:=hEa.sub hs3
 have disb:∀d,aQ e VS NS d->¬aQ b VSb NSb d:=fun d hd hd'=>hE2.mem hd (hnew d hd')
 have disab:∀d,aQ a VSa NSa d->¬aQ b VSb NSb d:=fun d hd hd'=>hEa.mem hd (hnew d hd')
 have nb3:¬aQ b VSb NSb b3:=fun h=>by have:=hnew b3 h;rw[g3]at this;simp at this
 have g3:=hs3 _ _ g3
 clear hnew hs3 hE2 hEa
 have hoa:=hEa3.obj
 have hob:=hEb.obj
 simp only[cR]at hoa hob
 simp only[go_sem,rE,rA]
 intro b16 hb16
 have hne16a:=hEa3.ne hb16
 have hne16b:=hEb.ne hb16
 simp only[go_sem,rE,rA,hne16a,hoa]
 refine dS (es:=[]) (ys:=aD va.names) (rfl) (ai _ _ _) (by simp only[go_sem,rE];exact hEa3.names.elems) (by simp[aD]) (by have:=sa.names;simp[aD];omega) ?_
 intro bt nt mt H4 fp4 hbt hkeep4 hbt16 _
 have hbtn:H3.get bt=none:=by
  rcases hbt16 with rfl|h
  ·exact hb16
  ·by_cases hbb:bt=b16
   ·subst hbb;exact hb16
   ·rw[ae _ _ hbb]at h;exact h
 have hs4:H3.sub H4:=by
  intro d o hd
  have hd16:d≠b16:=by rintro rfl;rw[hb16]at hd;simp at hd
  rw[hkeep4 d (by rw[ae _ _ hd16,hd];simp) hd16,ae _ _ hd16];exact hd
 have hEb4:=hEb.sub hs4
 have ob4:=hs4 _ _ hob
 simp only[go_sem,rE,rA,ob4,rL]
 have hbtb:bt≠b:=by rintro rfl;rw[hob]at hbtn;simp at hbtn
 have hEb5:bA (H4.set b (cR v.p v.fn VSb (.sl 1 (some (bt,nt,mt)) (aD va.names)) v.code)) b {v with names:=va.names} VSb (.sl 1 (some (bt,nt,mt)) (aD va.names)):=by
  refine⟨ai _ _ _,eK.mono hEb4.vars fun d hd=>ae _ _ (by rintro rfl;exact iw hEb4.obj hEb4.vars hd),.inr ⟨bt,nt,mt,rfl,?_⟩⟩
  rw[ae _ _ hbtb];exact hbt
 have inb:∀d,aQ b VSb (.sl 1 (some (bt,nt,mt)) (aD va.names)) d->aQ b VSb NSb d\/H3.get d=none:=by
  rintro d (h|h|⟨_,_,_,_,h⟩)
  ·exact .inl (.inl h)
  ·exact .inl (.inr (.inl h))
  ·simp at h;exact .inr (h.2.1.1▸hbtn)
 have keep5:∀{d o},H3.get d=some o->¬aQ b VSb NSb d->(H4.set b (cR v.p v.fn VSb (.sl 1 (some (bt,nt,mt)) (aD va.names)) v.code)).get d=some o/\¬aQ b VSb (.sl 1 (some (bt,nt,mt)) (aD va.names)) d:=by
  intro d o hd hn
  refine⟨by rw[ae _ _ (fun h=>hn (.inl h))];exact hs4 _ _ hd,fun h=>?_⟩
  rcases inb d h with h|h
  ·exact hn h
  ·rw[hd]at h;simp at h
 obtain⟨hE5,dis5⟩:=hE3.keep (fun b o h1 h2=>keep5 h1 h2) disb
 obtain⟨hEa5,disa5⟩:=hEa3.keep (fun b o h1 h2=>keep5 h1 h2) disab
 obtain⟨g3,nb3⟩:=keep5 g3 nb3
 simp only[cR]at hEb5 hE5 hEa5 g3
 clear keep5 inb hEb4 hs4 hkeep4 hE3 hEa3 hEb
 generalize H4.set b (.cells [AC.sl 12 none (v.p.map Fu.enc),I v.fn,VSb,.sl 1 (some (bt,nt,mt)) (aD va.names),I v.code])=H5 at*
 simp only[go_sem,rE,rA,g3,C.els]
 have san:=sa.names
 refine bJ (hbody b s.els (.inr rfl) {v with names:=va.names} (by obtain⟨q1,q2⟩:=hv;exact⟨q1,q2⟩) rfl rfl rfl (by simp only;omega)) hEb5 (rfl) (.refl _) (by simp) trivial ?_
 rintro q vb VSb NSb H6 fp6 ⟨rfl,hvb⟩ hEb6 hk6 -
 obtain⟨hE6,dis6⟩:=hE5.keep hk6 dis5
 obtain⟨hEa6,disa6⟩:=hEa5.keep hk6 disa5
 have disae:∀d,aQ e VS NS d->¬aQ a VSa NSa d:=dis2
 have sb:=(En.stmt_step (bq s.els)).2 s.els (aA _) h6 {v with names:=va.names} (by obtain⟨q1,q2⟩:=hv;exact⟨q1,q2⟩) (by simp only;omega) hp
 rw[<-hvb]at sb
 have hfork:v.fork s=v.join va vb:=by simp only[En.fork,<-hva,<-hvb]
 rw[hfork]
 clear hk6 hEb5 hEa5 hE5 dis5 disa5
 have sal:=sa.lo
 have sbl:=sb.lo
 simp only at sbl
 have dnb:b≠e:=by rintro rfl;exact dis6 _ (.inl rfl) (.inl rfl)
 have dna:a≠e:=by rintro rfl;exact disae _ (.inl rfl) (.inl rfl)
 simp only[go_sem,rE,rA]
 obtain⟨eb,ec,ecs,rfl,er⟩:=hE6.vars.row (i:=0) hne
 have hlim:v.vars.length<=LIM:=by simp only[LIM];omega
 let At:=fun(H:aj)=>bA H a va VSa NSa/\bA H b vb VSb NSb
 refine aV v.vars.length (fun i E H=>bA H e {v with vars:=fE v.vars va.vars vb.vars i} (AC.lit (Value.slice (some {block:=eb,off:=0}) v.vars.length ec)) NS/\bA H a va VSa NSa/\bA H b vb VSb NSb/\E 0=.ptr e 0/\E 4=.ptr a 0/\E 5=.ptr b 0/\E 6=I i)
  ⟨by rw[th];exact hE6,hEa6,hEb6,rfl,rfl,rfl,rfl⟩ ?_
 clear hE6 hEa6 hEb6 g3
 rintro i E H hi ⟨hE6,hEa6,hEb6,e0,e4,e5,e6⟩
 have hob:=hE6.obj
 have hoa:=hEa6.obj
 have hobb:=hEb6.obj
 simp only[cR]at hob hoa hobb
 simp only[wp_seq,go_sem,rE,rA,e0,e6,hob,hlim]
 refine aH (fun hlt=>?_) (fun hge=>?_)
 ·have hi1:i<v.vars.length:=by omega
  have him:i<(fE v.vars va.vars vb.vars i).length:=by rw[pf];exact hi1
  obtain⟨eb',ec',ecs',heq,er⟩:=hE6.vars.row him
  simp only[AC.lit.injEq,Value.slice.injEq,Option.some.injEq,Addr.mk.injEq,true_and,and_true]at heq
  obtain⟨rfl,-,rfl⟩:=heq
  obtain⟨ab,ac,acs,rfl,ar⟩:=hEa6.vars.row (i:=i) (by omega)
  obtain⟨bb,bc,bcs,rfl,br⟩:=hEb6.vars.row (i:=i) (by omega)
  have hda:cZ va.vars i=va.vars[i].dead:=by simp only[cZ,a6 (show i<va.vars.length by omega)]
  have hdb:cZ vb.vars i=vb.vars[i].dead:=by simp only[cZ,a6 (show i<vb.vars.length by omega)]
  have w1:=aP (n:=(i:Int)+1) (by omega) (by omega)
  have l1:(i:Int)<va.vars.length:=by omega
  have l2:(i:Int)<vb.vars.length:=by omega
  have next:∀(c:Bool),c=(cZ va.vars i||cZ vb.vars i)->(bA (H.set eb (.cells (bx ecs' (i*6+5) [B c]))) e {v with vars:=fE v.vars va.vars vb.vars (i+1)} (AC.lit (Value.slice (some {block:=eb,off:=0}) v.vars.length ec)) NS/\
   bA (H.set eb (.cells (bx ecs' (i*6+5) [B c]))) a va (AC.lit (Value.slice (some {block:=ab,off:=0}) va.vars.length ac)) NSa/\bA (H.set eb (.cells (bx ecs' (i*6+5) [B c]))) b vb (AC.lit (Value.slice (some {block:=bb,off:=0}) vb.vars.length bc)) NSb):=by
   intro c hc
   have hlen:(fE v.vars va.vars vb.vars i).length=v.vars.length:=pf _ _ _ _
   have h1:=wX (v:={v with vars:=fE v.vars va.vars vb.vars i}) c (by simp only[hlen];exact hE6) him er
   simp only[hlen]at h1
   refine⟨by rw[tj,<-hc];exact h1,hEa6.mono fun d hd=>ae _ _ (by rintro rfl;exact disae _ (.inr (.inl ⟨_,_,rfl⟩)) hd),hEb6.mono fun d hd=>ae _ _ (by rintro rfl;exact dis6 _ (.inr (.inl ⟨_,_,rfl⟩)) hd)⟩
  cases hc:va.vars[i].dead
  ·have ad:=ar.dead
   rw[hc]at ad
   simp only[go_sem,rE,rA,e0,e4,e5,e6,hob,hoa,hobb,l1,l2,hlt,ar.get,ad,br.get,br.dead,er.get,w1]
   obtain⟨q1,q2,q3⟩:=next vb.vars[i].dead (by rw[hda,hdb,hc];rfl)
   exact⟨by have:=er.off;omega,hi1,_,aj.sub_refl _,q1,q2,q3,rfl⟩
  ·have ad:=ar.dead
   rw[hc]at ad
   simp only[go_sem,rE,rA,e0,e4,e5,e6,hob,hoa,hobb,l1,l2,hlt,ar.get,ad,br.get,br.dead,er.get,w1]
   obtain⟨q1,q2,q3⟩:=next true (by rw[hda,hdb,hc];rfl)
   exact⟨by have:=er.off;omega,hi1,_,aj.sub_refl _,q1,q2,q3,rfl⟩
 ·have hii:i=v.vars.length:=by omega
  subst hii
  simp only[wp_exit,fh,dH,cu]
  rw[u4]at hE6
  have hns:=hEb6.names.one
  simp only[go_sem,rE,rA,e0,e4,e5,hob,hobb,hoa,hns,rL,dna,dnb]
  have hE7:bA (H.set e (cR v.p v.fn (AC.lit (Value.slice (some {block:=eb,off:=0}) v.vars.length ec)) NSb v.code)) e {v with vars:=fI v.vars va.vars vb.vars,names:=vb.names} (AC.lit (Value.slice (some {block:=eb,off:=0}) v.vars.length ec)) NSb:=by
   refine⟨ai _ _ _,eK.mono hE6.vars fun d hd=>ae _ _ (by rintro rfl;exact iw hE6.obj hE6.vars hd),hEb6.names.set hob _⟩
  have gb7:(H.set e (cR v.p v.fn (AC.lit (Value.slice (some {block:=eb,off:=0}) v.vars.length ec)) NSb v.code)).get b=some (.cells [AC.sl 12 none (vb.p.map Fu.enc),I vb.fn,VSb,NSb,I vb.code]):=by rw[ae _ _ dnb];exact hobb
  have nb7:¬aQ e (AC.lit (Value.slice (some {block:=eb,off:=0}) v.vars.length ec)) NSb b:=by
   rintro(h|h|⟨_,_,_,_,h⟩)
   ·exact dnb h
   ·exact dis6 _ (.inr (.inl h)) (.inl rfl)
   ·have:=hEb6.names
    rcases this with⟨-,h'⟩|⟨b',n',m',h',hb'⟩
    ·rw[h]at h';simp at h'
    ·rw[h]at h';simp at h';rw[<-h'.2.1.1,hobb]at hb';simp at hb'
  simp only[cR]at hE7 gb7
  have ga7:(H.set e (cR v.p v.fn (AC.lit (Value.slice (some {block:=eb,off:=0}) v.vars.length ec)) NSb v.code)).get a=some (.cells [AC.sl 12 none (va.p.map Fu.enc),I va.fn,VSa,NSa,I va.code]):=by rw[ae _ _ dna];exact hoa
  simp only[cR]at ga7
  generalize H.set e (.cells [AC.sl 12 none (v.p.map Fu.enc),I v.fn,AC.lit (Value.slice (some {block:=eb,off:=0}) v.vars.length ec),NSb,I v.code])=H7 at*
  generalize hu:({v with vars:=fI v.vars va.vars vb.vars,names:=vb.names}:En)=u at*
  have hjoin:v.join va vb=(u.fail0 va.code).fail0 vb.code:=by rw[<-hu];rfl
  rw[hjoin]
  have fin:∀(E:Env) (H:aj) (VS NS:AC),bA H e (u.fail0 va.code) VS NS->E 0=.ptr e 0->E 5=.ptr b 0->H.get b=some (.cells [AC.sl 12 none (vb.p.map Fu.enc),I vb.fn,VSb,NSb,I vb.code])->
   aT.wp P (rg [mv 0 80 0,mv 1 81 5,nc 2 82 81,fa 3 83 4 82,ld 4 84 none 83,ca 5 85 228 [80,84]]) (bh.post [] fun q H'=>∃v' VS' NS',(q=.tup []/\v'=(u.fail0 va.code).fail0 vb.code)/\bA H' e v' VS' NS') E H:=by
   intro E H VS NS hE e0 e5 gb
   simp only[go_sem,rE,rA,e0,e5,gb]
   refine bJ (e_fail0 L e (u.fail0 va.code) vb.code) hE (rfl) (.refl _) (by simp) trivial ?_
   rintro q v9 VS9 NS9 H9 fp9 ⟨rfl,hv9⟩ hE9 - -
   simp only[kr]
   exact cY (aj.sub_refl _) ⟨v9,VS9,NS9,⟨rfl,hv9⟩,hE9⟩
  refine aH (fun hgt=>?_) (fun hle=>?_)
  ·simp only[go_sem,rE,rA,e0,e4,ga7]
   refine bJ (oP L e u va.code) hE7 (rfl) (.refl _) (by simp) trivial ?_
   rintro q v8 VS8 NS8 H8 fp8 ⟨rfl,hv8⟩ hE8 hk8 -
   obtain⟨gb8,-⟩:=hk8 _ _ gb7 nb7
   have:v8=u.fail0 va.code:=by rw[hv8];simp only[En.fail,En.fail0];rw[if_pos (by omega)]
   subst this
   simp only[kr,cu]
   exact fin _ _ _ _ hE8 (e0) (e5) gb8
  ·have:u.fail0 va.code=u:=by simp only[En.fail0];rw[if_neg (by omega)]
   rw[this]at fin⊢
   simp only[wp_skip,cu]
   exact fin _ _ _ _ hE7 (e0) (e5) gb7
end
section
variable {P:Program}{F:Ids}
def Bo(P:Program)(F:Ids)(n:Nat):Prop:=∀(e:Nat) (s:St),s.cnt<=n->s.ok->∀v:En,v.ok->v.vars.length+s.cnt<=2^20->v.names.length+s.cnt<=2^20->0<v.vars.length->(∀f∈v.p,f.okS)->v.p.length<=2^20->v.fn<=2^20->
 js P 150 [.ptr e 0,.agg s.enc] e v fun q v'=>q=.tup []/\v'=v.stmt s
def Bw(P:Program)(F:Ids)(n:Nat):Prop:=∀(e:Nat) (l:List St),bq l<=n->(∀s∈l,s.ok)->∀v:En,v.ok->v.vars.length+bq l<=2^20->v.names.length+bq l<=2^20->0<v.vars.length->(∀f∈v.p,f.okS)->v.p.length<=2^20->v.fn<=2^20->
 js P 102 [.ptr e 0,.sl 15 none (St.encs l)] e v fun q v'=>q=.tup []/\v'=v.body l
theorem kM:∀(l:List St) (k:Nat),bq (l.take k)+bq (l.drop k)=bq l
 |[],k=>by simp[eP]
 |s::l,0=>by simp[eP]
 |s::l,k+1=>by simp only[List.take_succ_cons,gq,cQ];have:=kM l k;omega
theorem AD(L:Lib P F)(n:Nat)(h:Bo P F n):Bw P F n:=by
 intro e l hl hok v hv hvl hnl hne hp hpl hfn H VS NS hE
 refine(L.a Tryz.func102 y102) (by simp[y102]) ?_
 have hll:=iD l
 simp only[y102,go_sem,rE]
 refine aV l.length (fun k E H=>∃(w:En) (VS NS:AC),bA H e w VS NS/\v.body l=w.body (l.drop k)/\v.step w (bq (l.take k))/\E 0=.ptr e 0/\E 1=.sl 15 none (St.encs l)/\E 4=I k)
  ⟨v,VS,NS,hE,by simp,by simp[eP];exact .refl hv,rfl,rfl,rfl⟩ ?_
 rintro k E H hk ⟨w,VS,NS,hE,hb,hs,e0,e1,e4⟩
 have hob:=hE.obj
 simp only[cR]at hob
 simp only[go_sem,rE,rA,e0,e1,e4,St.encs_map,ao]
 have stop:∀(E:Env),(l.drop k=[]\/w.code≠0)->bh.post [] (fun q H'=>∃v' VS' NS',(q=AC.tup []/\v'=v.body l)/\bA H' e v' VS' NS') .normal E H:=by
  intro E hor
  refine cY (aj.sub_refl _) ⟨w,VS,NS,⟨rfl,?_⟩,hE⟩
  rw[hb]
  rcases hor with h|h
  ·rw[h,hZ]
  ·cases l.drop k with
   |nil=>rw[hZ]
   |cons s l'=>rw[ig,if_neg h]
 by_cases hlt:k<l.length
 ·have hlt':(k:Int)<l.length:=by omega
  have hg:(l.map St.enc)[k]?=some l[k].enc:=by simp[hlt]
  obtain⟨cs,hcs,C⟩:=stC l[k]
  rw[hcs]at hg
  simp only[go_sem,rE,rA,hlt',e0,hob]
  by_cases hc:w.code=0
  ·have hc':(w.code==0)=true:=by simpa using hc
   have hd:l.drop k=l[k]::l.drop (k+1):=bO hlt
   have hsplit:=kM l k
   rw[hd,cQ]at hsplit
   have w1:=aP (n:=(k:Int)+1) (by omega) (by omega)
   have hlo:=hs.lo
   have hhi:=hs.hi
   have hnn:=hs.names
   simp only[go_sem,rE,rA,hc',e0,e1,e4,hg,C.len,C.all,St.encs_map]
   refine bJ (h e l[k] (by omega) (hok _ (az hlt)) w hs.ok (by omega) (by omega) (by omega) (by rw[hs.p];exact hp) (by rw[hs.p];exact hpl) (by rw[hs.fn];exact hfn)) hE (by simp only[go_sem,rE,hcs]) (.refl _) (by simp) trivial ?_
   rintro q w2 VS2 NS2 H2 fp2 ⟨rfl,hw2⟩ hE2 - -
   simp only[go_sem,rE,rA,e4,w1]
   refine⟨hlt,H2,aj.sub_refl _,w2,VS2,NS2,hE2,?_,?_,e0,by simp[go_sem,e1,St.encs_map],by simp⟩
   ·rw[hb,hd,ig,if_pos hc,hw2]
   ·have st:=(En.stmt_step (l[k].cnt)).1 l[k] (aA _) (hok _ (az hlt)) w hs.ok (by omega) (by rw[hs.p];exact hp)
    rw[<-hw2]at st
    have htk:bq (l.take (k+1))=bq (l.take k)+l[k].cnt:=by
     have:=kM l (k+1)
     have:=kM l k
     rw[hd,cQ]at this
     omega
    rw[htk]
    exact hs.trans st
  ·have hc':(w.code==0)=false:=by simpa using hc
   simp only[go_sem,rE,rA,hc']
   exact stop _ (.inr hc)
 ·have hlt':¬(k:Int)<l.length:=by omega
  simp only[go_sem,rE,rA,hlt']
  exact stop _ (.inl (List.drop_of_length_le (by omega)))
theorem e_stmt1(L:Lib P F)(n:Nat)(hbody:Bw P F n):Bo P F (n+1):=by
 intro e s hs hok v hv hvl hnl hne hp hpl hfn H VS NS hE
 obtain⟨h1,h2,h3,h4,h5,h6⟩:=hok.get
 rw[dx]at hs hvl hnl
 refine(L.a Tryz.func150 y150) (by simp[y150]) ?_
 obtain⟨cs3,hcs3,C⟩:=stC s
 rw[hcs3]
 simp only[y150,go_sem,rE,rA,C.kind]
 intro b3 hb3
 have hE3:=hE.new hb3 (.cells cs3)
 have n3:=hE.notin hb3
 have g3:(H.set b3 (.cells cs3)).get b3=some (.cells cs3):=ai _ _ _
 generalize H.set b3 (.cells cs3)=H1 at*
 clear hE hb3
 rw[En.stmt_eq]
 by_cases k1:s.kind=1
 ·have c1:(s.kind==1)=true:=by simpa using k1
  rw[if_pos k1]
  simp only[c1,go_sem,rE,rA,g3,C.len,rL,C.expr]
  refine bJ (nJ L e _ s.expr (aA _) (h3 (by omega) (by omega)) v hv) hE3 (rfl) (.refl _) (by simp) trivial ?_
  rintro q v1 VS1 NS1 H2 fp ⟨rfl,hv1⟩ hE1 hk1 -
  obtain⟨g3,n3⟩:=hk1 _ _ g3 n3
  obtain⟨lk1,wf1⟩:=En.expr_good s.expr v hv
  rw[<-hv1]at lk1⊢
  generalize(v.expr s.expr).2=t at*
  simp only[go_sem,rE,rA,Ty.enc_eq t]
  intro b4 hb4
  have d34:=al g3 hb4
  have hl1:=lk1.len
  have hn1:=lk1.names
  simp only[go_sem,rE,rA,d34,g3,C.name,rL]
  refine bJ (as':=[.ptr e 0,.agg [S s.name,B false,B false,.sl 1 none (Ty.encs t.kids),NIL,B false]]) (uS L e v1 (by omega) (by rw[hn1];omega) ⟨s.name,false,false,t,[],false⟩) (hE1.new hb4 _) (rfl)
   ⟨.refl _,.agg ⟨⟨.refl _,rfl⟩,⟨.refl _,rfl⟩,⟨.refl _,rfl⟩,⟨.refl _,rfl⟩,⟨.nil 2,rfl⟩,⟨.refl _,rfl⟩,trivial⟩,trivial⟩ (by simp) trivial ?_
  rintro q v2 VS2 NS2 H3 fp2 ⟨rfl,hv2⟩ hE2 - -
  simp only[go_sem]
  exact cY (aj.sub_refl _) ⟨v2,VS2,NS2,⟨rfl,hv2⟩,hE2⟩
 have c1:(s.kind==1)=false:=by simpa using k1
 rw[if_neg k1]
 by_cases k2:s.kind=2
 ·have c2:(s.kind==2)=true:=by simpa using k2
  rw[if_pos k2]
  simp only[c1,c2,go_sem,rE,rA,g3,C.len,rL,C.place]
  refine bJ (nH L e v hv s.place h1) hE3 (by simp only[go_sem,rE,Pl.enc]) (.refl _) (by simp) trivial ?_
  rintro q v1 VS1 NS1 H2 fp ⟨rfl,hv1⟩ hE1 hk1 -
  obtain⟨g3,n3⟩:=hk1 _ _ g3 n3
  have lk1:v.like v1:=hv1▸v.use_like _
  rw[<-hv1]
  generalize(v.use s.place).2=t at*
  simp only[go_sem,rE,rA,Ty.enc_eq t]
  intro b4 hb4
  have d34:=al g3 hb4
  have hl1:=lk1.len
  have hn1:=lk1.names
  have hE4:=hE1.new hb4 (.cells [.sl 1 none (Ty.encs t.kids)])
  simp only[go_sem,rE,rA,d34,g3,C.name,C.len,C.place,rL,ax,av,ay,bg]
  intro b5 hb5
  refine bJ (as':=[.ptr e 0,.agg [S s.name,B true,B false,.sl 1 none (Ty.encs t.kids),.sl 2 (some (b5,2,2)) [[S s.place.name,au s.place.path]],B false]]) (uS L e v1 (by omega) (by rw[hn1];omega) ⟨s.name,true,false,t,[s.place],false⟩) (hE4.new hb5 _) (rfl)
   ⟨.refl _,.agg ⟨⟨.refl _,rfl⟩,⟨.refl _,rfl⟩,⟨.refl _,rfl⟩,⟨.refl _,rfl⟩,⟨.tok _ _ _,rfl⟩,⟨.refl _,rfl⟩,trivial⟩,trivial⟩ (by simp) trivial ?_
  rintro q v2 VS2 NS2 H3 fp2 ⟨rfl,hv2⟩ hE2 - -
  simp only[go_sem]
  exact cY (aj.sub_refl _) ⟨v2,VS2,NS2,⟨rfl,hv2⟩,hE2⟩
 have c2:(s.kind==2)=false:=by simpa using k2
 rw[if_neg k2]
 by_cases k3:s.kind=3
 ·have c3:(s.kind==3)=true:=by simpa using k3
  rw[if_pos k3]
  simp only[c1,c2,c3,go_sem,rE,rA,g3,C.len,rL,C.expr]
  refine bJ (nJ L e _ s.expr (aA _) (h3 (by omega) (by omega)) v hv) hE3 (rfl) (.refl _) (by simp) trivial ?_
  rintro q v1 VS1 NS1 H2 fp ⟨rfl,hv1⟩ hE1 hk1 -
  obtain⟨g3,n3⟩:=hk1 _ _ g3 n3
  obtain⟨lk1,wf1⟩:=En.expr_good s.expr v hv
  rw[<-hv1]at lk1⊢
  generalize(v.expr s.expr).2=t at*
  simp only[go_sem,rE,rA,Ty.enc_eq t]
  intro b4 hb4
  have n4:=hE1.notin hb4
  have d34:=al g3 hb4
  have hE4:=hE1.new hb4 (.cells [.sl 1 none (Ty.encs t.kids)])
  have g4:(H2.set b4 (.cells [.sl 1 none (Ty.encs t.kids)])).get b4=some (.cells [.sl 1 none (Ty.encs t.kids)]):=ai _ _ _
  simp only[go_sem,rE,rA,d34,g3,C.place,C.len,rL]
  refine bJ (nH L e v1 (lk1.ok hv) s.place h1) hE4 (by simp only[go_sem,rE,Pl.enc]) (.refl _) (fun _=>⟨_,_,rfl,rfl⟩) (by simp[dQ]) ?_
  rintro q v2 VS2 NS2 H3 fp2 ⟨rfl,hv2⟩ hE2 hk2 hfp2
  have nf4:¬fp2 b4:=fun h=>(hfp2 b4 h).elim n4 (fun h=>by rw[g4]at h;simp at h)
  obtain⟨g4,n4⟩:=hk2 _ _ g4 n4
  have wf2:=iF (lk1.ok hv) s.place
  rw[<-hv2]
  generalize(v1.use s.place).2=u at*
  simp only[go_sem,rE,rA,g4,jw,bi,cF,or_false,forall_eq,nf4,rL]
  refine bJ (nI L e v2 u t wf2) hE2 (by simp only[go_sem,rE,Ty.enc_eq t]) (.refl _) (fun _=>⟨_,_,rfl,rfl⟩) trivial ?_
  rintro q v3 VS3 NS3 H4 fp3 ⟨rfl,hv3⟩ hE3 - -
  simp only[go_sem]
  exact cY (aj.sub_refl _) ⟨v3,VS3,NS3,⟨rfl,hv3⟩,hE3⟩
 have c3:(s.kind==3)=false:=by simpa using k3
 rw[if_neg k3]
 by_cases k4:s.kind=4
 ·have c4:(s.kind==4)=true:=by simpa using k4
  rw[if_pos k4]
  simp only[c1,c2,c3,c4,go_sem,rE,rA,g3,C.len,rL,C.all]
  refine bJ (e_call L e v s hv (by omega) (by omega) hne h4 hp hpl hfn) hE3 (by simp only[go_sem,rE,hcs3]) (.refl _) (by simp) trivial ?_
  rintro q v3 VS3 NS3 H4 fp3 ⟨rfl,hv3⟩ hE3 - -
  simp only[go_sem]
  exact cY (aj.sub_refl _) ⟨v3,VS3,NS3,⟨rfl,hv3⟩,hE3⟩
 have c4:(s.kind==4)=false:=by simpa using k4
 rw[if_neg k4]
 by_cases k6:s.kind=6
 ·have c6:(s.kind==6)=true:=by simpa using k6
  rw[if_pos k6]
  simp only[c1,c2,c3,c4,c6,go_sem,rE,rA,g3,C.len,rL,C.all]
  refine bJ (e_pick L e v s hv (by omega) (by omega) hne (h3 (by omega) (by omega)) h1 h2) hE3 (by simp only[go_sem,rE,hcs3]) (.refl _) (by simp) trivial ?_
  rintro q v3 VS3 NS3 H4 fp3 ⟨rfl,hv3⟩ hE3 - -
  simp only[go_sem]
  exact cY (aj.sub_refl _) ⟨v3,VS3,NS3,⟨rfl,hv3⟩,hE3⟩
 have c6:(s.kind==6)=false:=by simpa using k6
 rw[if_neg k6]
 simp only[c1,c2,c3,c4,c6,go_sem,rE,rA,g3,C.len,rL,C.expr]
 refine bJ (nJ L e _ s.expr (aA _) (h3 (by omega) (by omega)) v hv) hE3 (rfl) (.refl _) (by simp) trivial ?_
 rintro q v1 VS1 NS1 H2 fp ⟨rfl,hv1⟩ hE1 hk1 -
 obtain⟨g3,n3⟩:=hk1 _ _ g3 n3
 obtain⟨lk1,wf1⟩:=En.expr_good s.expr v hv
 rw[<-hv1]at lk1⊢
 generalize(v.expr s.expr).2=t at*
 refine bJ (e_num L e v1 t) hE1 (rfl) (.refl _) (by simp) trivial ?_
 rintro q v2 VS2 NS2 H3 fp2 ⟨rfl,hv2⟩ hE2 hk2 -
 obtain⟨g3,n3⟩:=hk2 _ _ g3 n3
 have lk2:v.like v2:=lk1.trans (hv2▸En.num_like _ _)
 rw[<-hv2]
 have hl2:=lk2.len
 have hn2:=lk2.names
 simp only[go_sem,rE,rA,g3,C.len,rL,C.all]
 refine bJ (e_fork L e v2 s (lk2.ok hv) (by omega) (by rw[hn2];omega) (by omega) hok (by rw[lk2.p];exact hp) ?_) hE2 (by simp only[go_sem,rE,hcs3]) (.refl _) (by simp) trivial ?_
 ·intro a l hll w hw hwp hwf hwl hwn
  have hc:bq l<=n/\(∀x∈l,x.ok)/\w.vars.length+bq l<=2^20:=by
   rcases hll with rfl|rfl
   ·exact⟨by omega,h5,by omega⟩
   ·exact⟨by omega,h6,by omega⟩
  exact hbody a l hc.1 hc.2.1 w hw hc.2.2 hwn (by omega) (by rw[hwp,lk2.p];exact hp) (by rw[hwp,lk2.p];exact hpl) (by rw[hwf,lk2.fn];exact hfn)
 ·rintro q v3 VS3 NS3 H4 fp3 ⟨rfl,hv3⟩ hE3 - -
  simp only[go_sem]
  exact cY (aj.sub_refl _) ⟨v3,VS3,NS3,⟨rfl,hv3⟩,hE3⟩
theorem tr(L:Lib P F):∀n,Bo P F n
 |0=>by intro e s hs;rw[dx]at hs;omega
 |n+1=>e_stmt1 L n (AD L n (tr L n))
theorem e_bodyN(L:Lib P F)(n:Nat):Bw P F n:=AD L n (tr L n)
end
def Pa.vr(x:Pa):Vr:=⟨x.name,x.lent,true,x.type,[],false⟩
def En.givens(v:En):List Pa->En
 |[]=>v
 |x::l=>(v.add x.vr).givens l
def cL(p:Pg)(fn:Nat):En:=match p[fn]? with
 |some f=>(⟨p,fn,[],[],0⟩:En).givens f.params
 |none=>⟨p,fn,[],[],0⟩
theorem kg:∀(l:List Pa) (v:En),(v.givens l).p=v.p/\(v.givens l).fn=v.fn/\(v.givens l).vars=v.vars++l.map Pa.vr/\(v.givens l).names=v.names++l.map (fun x=>x.name)
 |[],v=>by simp[En.givens]
 |x::l,v=>by
  obtain⟨h1,h2,h3,h4⟩:=kg l (v.add x.vr)
  refine⟨h1,h2,?_,?_⟩
  ·rw[En.givens,h3];simp[En.add]
  ·rw[En.givens,h4];simp[En.add,Pa.vr]
section
variable {P:Program}{F:Ids}
theorem c_start(L:Lib P F)(p:Pg)(fn:Nat)(hfn:fn<p.length)(hpl:p.length<=2^20)(hpa:(p[fn]).params.length<=2^20):
 ACalls P 91 [.agg (Pg.enc p),I fn] .empty fun q H'=>∃a VS NS,q=.ptr a 0/\bA H' a (cL p fn) VS NS:=by
 refine(L.a Tryz.func91 y91) (by simp[y91]) ?_
 simp only[y91,go_sem,rE,rA,Pg.enc,rL]
 intro b2 hb2 a ha
 have d2a:b2≠a:=al (ai _ _ _) ha
 obtain⟨cf,hcf,CF⟩:=fuC p[fn]
 have hgf:(p.map Fu.enc)[fn]?=some cf:=by rw[<-hcf];simp[hfn]
 have hst:cL p fn=(⟨p,fn,[],[],0⟩:En).givens p[fn].params:=by simp only[cL,a6 hfn]
 rw[hst]
 generalize p[fn]=f at*
 have hE0:bA ((aj.empty.set b2 (.cells [.sl 12 none (p.map Fu.enc)])).set a (cR p fn NIL NIL 0)) a ⟨p,fn,[],[],0⟩ NIL NIL:=⟨ai _ _ _,.inl ⟨rfl,rfl⟩,.inl ⟨rfl,rfl⟩⟩
 refine aV f.params.length (fun k E H=>∃w VS NS,bA H a w VS NS/\(⟨p,fn,[],[],0⟩:En).givens f.params=w.givens (f.params.drop k)/\w.vars.length=k/\w.names.length=k/\E 1=I fn/\E 2=.ptr b2 0/\E 5=.ptr a 0/\E 6=I k/\
  H.get b2=some (.cells [.sl 12 none (p.map Fu.enc)])/\¬aQ a VS NS b2)
  ⟨_,NIL,NIL,hE0,by simp,rfl,rfl,rfl,rfl,rfl,rfl,by rw[ae _ _ d2a,ai],by
   rintro(h|⟨_,_,h⟩|⟨_,_,_,_,h⟩)
   ·exact d2a h
   ·simp at h
   ·simp at h⟩ ?_
 clear hE0
 rintro k E H hk ⟨w,VS,NS,hE,hg,hwl,hwn,e1,e2,e5,e6,g2,n2⟩
 simp only[wp_seq,go_sem,rE,rA,e1,e2,e5,e6,g2,hgf,CF.len,CF.params,ao]
 have cfp:(cf.drop 1)[0]?=some (.sl 3 none (f.params.map Pa.enc)):=by rw[bU];exact CF.params
 simp only[wp_seq,go_sem,rE,rA,e1,e2,e5,e6,g2,hgf,CF.len,cfp,ao]
 refine aH (fun hlt=>?_) (fun hge=>?_)
 ·have hk1:k<f.params.length:=by omega
  obtain⟨cp,hcp,CP⟩:=paC f.params[k]
  have hgp:(f.params.map Pa.enc)[k]?=some cp:=by rw[<-hcp];simp[hk1]
  have w1:=aP (n:=(k:Int)+1) (by omega) (by omega)
  simp only[go_sem,rE,rA,e1,e2,e5,e6,g2,hgf,cfp,hgp,CP.len,CP.all,CP.name,CP.lent,CP.type,rL]
  intro b7 hb7
  simp only[go_sem,rE,rA,e5,e6,CP.len,CP.all,CP.name,CP.lent,CP.type,dA,rL,Ty.enc_eq f.params[k].type]
  refine bJ (as':=[.ptr a 0,.agg [S f.params[k].name,B f.params[k].lent,B true,.sl 1 none (Ty.encs f.params[k].type.kids),NIL,B false]]) (uS L a w (by omega) (by omega) f.params[k].vr) (hE.new hb7 _) (by simp only[go_sem,rE,e5])
   ⟨.refl _,.agg ⟨⟨.refl _,rfl⟩,⟨.refl _,rfl⟩,⟨.refl _,rfl⟩,⟨.refl _,rfl⟩,⟨.nil 2,rfl⟩,⟨.refl _,rfl⟩,trivial⟩,trivial⟩ (by simp) trivial ?_
  rintro q w2 VS2 NS2 H2 fp2 ⟨rfl,hw2⟩ hE2 hk2 -
  obtain⟨g2,n2⟩:=hk2 b2 (.cells [.sl 12 none (p.map Fu.enc)]) (by rw[ae _ _ (al g2 hb7)];exact g2) n2
  simp only[go_sem,rE,rA,e6,w1]
  refine⟨hk1,H2,aj.sub_refl _,w2,VS2,NS2,hE2,?_,by rw[hw2];simp[En.add,hwl],by rw[hw2];simp[En.add,hwn],e1,e2,e5,by simp,g2,n2⟩
  rw[hg,bO hk1,En.givens,hw2]
 ·have hkk:k=f.params.length:=by omega
  subst hkk
  simp only[go_sem,rE,rA,e5]
  rw[kl,En.givens]at hg
  rw[hg]
  exact gA ⟨a,VS,NS,rfl,hE⟩
end
def mS(vs:List Vr):Nat->Pl->Bool
 |0,p=>false
 |n+1,p=>match fM vs p.name with
  |none=>false
  |some i=>match vs[i]? with
   |none=>false
   |some x=>x.lent&&(x.param||x.loans.all (mS vs n))
def En.outside(v:En)(p:Pl):Bool:=mS v.vars v.vars.length p
def Up(vs:List Vr):Prop:=∀i (h:i<vs.length),∀q∈vs[i].loans,∃j,fM vs q.name=some j/\j<i
theorem sM{vs:List Vr}{n:ByteArray}{i:Nat}(h:fM vs n=some i):i<vs.length:=by
 obtain⟨h,-⟩:=bN.1 h;exact h
section
variable {P:Program}{F:Ids}
theorem e_outN(L:Lib P F)(e:Nat)(v:En)(hl:v.vars.length<=2^20)(ho:∀x∈v.vars,x.ok)(hup:Up v.vars):∀(n:Nat) (p:Pl),(∀i,fM v.vars p.name=some i->i<n)->
 js P 96 [.ptr e 0,.agg p.enc] e v fun q v'=>q=B (mS v.vars n p)/\v'=v:=by
 intro n
 induction n with
 |zero=>
  intro p hp H VS NS hE
  have hi:fM v.vars p.name=none:=by
   cases h:fM v.vars p.name with
   |none=>rfl
   |some i=>have:=hp i h;omega
  refine(L.a Tryz.func96 y96) (by simp[y96]) ?_
  simp only[y96,go_sem,rE,Pl.enc]
  intro b3 hb3
  refine bJ (wA L e v (by omega) p.name) (hE.new hb3 _) (rfl) (.refl _) (by simp) trivial ?_
  rintro q w VS1 NS1 H1 fp ⟨rfl,hw⟩ hE1 hk1 -
  subst hw
  simp only[go_sem,rE,rA,pO,hi,Int.reduceLT]
  exact ak (q':=B (mS w.vars 0 p)) (by simp only[go_sem,rE,mS];exact .refl _) (aj.sub_refl _) ⟨w,VS1,NS1,⟨rfl,rfl⟩,hE1⟩
 |succ n ih=>
  intro p hp H VS NS hE
  refine(L.a Tryz.func96 y96) (by simp[y96]) ?_
  simp only[y96,go_sem,rE,Pl.enc]
  intro b3 hb3
  refine bJ (wA L e v (by omega) p.name) (hE.new hb3 _) (rfl) (.refl _) (by simp) trivial ?_
  rintro q w VS1 NS1 H1 fp ⟨rfl,hw⟩ hE1 hk1 -
  subst hw
  clear hE hk1
  simp only[go_sem,rE,rA,pO]
  cases hi:fM w.vars p.name with
  |none=>
   simp only[go_sem,rE,rA,Int.reduceLT]
   exact ak (q':=B (mS w.vars (n+1) p)) (by simp only[go_sem,rE,mS,hi];exact .refl _) (aj.sub_refl _) ⟨w,VS1,NS1,⟨rfl,rfl⟩,hE1⟩
  |some i=>
   have hil:=sM hi
   have hin:=hp i hi
   have hge:¬(i:Int)<0:=by omega
   have hlt:(i:Int)<w.vars.length:=by omega
   have hvi:w.vars[i]?=some w.vars[i]:=a6 hil
   have hout:mS w.vars (n+1) p=(w.vars[i].lent&&(w.vars[i].param||w.vars[i].loans.all (mS w.vars n))):=by simp only[mS,hi,hvi]
   rw[hout]
   obtain⟨vb,vc,cs,rfl,hr⟩:=hE1.vars.row hil
   have hob:=hE1.obj
   simp only[cR]at hob
   have ll:=(ho _ (az hil)).loans
   have r1:=hr.lent
   have r2:=hr.param
   cases h1:w.vars[i].lent
   ·rw[h1]at r1
    simp only[go_sem,rE,rA,hge,hob,hlt,hr.get,r1]
    exact ak (q':=B false) (by simp only[go_sem,rE];exact .refl _) (aj.sub_refl _) ⟨w,_,NS1,⟨by simp,rfl⟩,hE1⟩
   ·rw[h1]at r1
    cases h2:w.vars[i].param
    ·rw[h2]at r2
     simp only[go_sem,rE,rA,hge,hob,hlt,hr.get,r1,r2]
     clear hr hob r1 r2
     refine aV w.vars[i].loans.length (fun k E H=>∃VS NS,bA H e w VS NS/\(w.vars[i].loans.take k).all (mS w.vars n)=true/\E 0=.ptr e 0/\E 5=I i/\E 6=I k) ⟨_,NS1,hE1,by simp,rfl,rfl,rfl⟩ ?_
     clear hE1
     rintro k E H hk ⟨VS,NS,hE1,hall,e0,e5,e6⟩
     obtain⟨vb,vc,cs,rfl,hr⟩:=hE1.vars.row hil
     have hob:=hE1.obj
     simp only[cR]at hob
     simp only[wp_seq,go_sem,rE,rA,e0,e5,e6,hob,hlt,hr.get,hr.loans,ao]
     refine aH (fun hltk=>?_) (fun hgek=>?_)
     ·have hk1:k<w.vars[i].loans.length:=by omega
      have w1:=aP (n:=(k:Int)+1) (by omega) (by omega)
      obtain⟨j0,hj0,hji⟩:=hup i hil _ (az hk1)
      simp only[go_sem,rE,rA,e0,e5,e6,hob,hlt,hr.get,hr.loans,oi hk1,rL]
      refine bJ (ih w.vars[i].loans[k] (fun j hj=>by rw[hj0]at hj;cases hj;omega)) hE1 (by simp only[go_sem,rE,Pl.enc]) (.refl _) (by simp) trivial ?_
      rintro q w' VS2 NS2 H2 fp2 ⟨rfl,hw'⟩ hE2 - -
      subst hw'
      cases ho:mS w'.vars n w'.vars[i].loans[k]
      ·simp only[go_sem,rE,rA]
       refine ak (q':=B false) (by simp only[go_sem,rE];exact .refl _) (aj.sub_refl _) ⟨w',VS2,NS2,⟨?_,rfl⟩,hE2⟩
       have:w'.vars[i].loans.all (mS w'.vars n)=false:=by
        rw[dj]
        exact⟨_,az hk1,by simp[ho]⟩
       simp[this]
      ·simp only[go_sem,rE,rA,e6,w1]
       refine⟨hk1,H2,aj.sub_refl _,VS2,NS2,hE2,?_,e0,e5,by simp⟩
       rw[aC hk1,eD,hall]
       simp[ho]
     ·have hkk:k=w.vars[i].loans.length:=by omega
      subst hkk
      rw[aW]at hall
      simp only[go_sem,rE,rA]
      exact ak (q':=B true) (by simp only[go_sem,rE];exact .refl _) (aj.sub_refl _) ⟨w,_,NS,⟨by simp[hall],rfl⟩,hE1⟩
    ·rw[h2]at r2
     simp only[go_sem,rE,rA,hge,hob,hlt,hr.get,r1,r2]
     exact ak (q':=B true) (by simp only[go_sem,rE];exact .refl _) (aj.sub_refl _) ⟨w,_,NS1,⟨by simp,rfl⟩,hE1⟩
theorem sv(L:Lib P F)(e:Nat)(v:En)(hl:v.vars.length<=2^20)(ho:∀x∈v.vars,x.ok)(hup:Up v.vars)(p:Pl):
 js P 96 [.ptr e 0,.agg p.enc] e v fun q v'=>q=B (v.outside p)/\v'=v:=e_outN L e v hl ho hup _ p fun i hi=>sM hi
end
theorem gS{c d:Int}(hd:d≠0)(h:dv c d=0):c=0/\False:=by unfold dv at h;split at h<;>simp_all
theorem gh{v:En}{c:Int}(hc:c≠0):(v.fail c).code≠0:=fun h=>(gS hc h).2
theorem En.num_code{v:En}{t:Ty}(h:(v.num t).code=0):v.code=0:=by
 simp only[En.num]at h;split at h
 ·exact h
 ·exact(gS (by decide) h).1
theorem En.same_code{v:En}{a t:Ty}(h:(v.same a t).code=0):v.code=0:=by
 simp only[En.same]at h;split at h
 ·exact h
 ·exact(gS (by decide) h).1
theorem fR{v:En}{p:Pl}(h:(v.use p).1.code=0):v.code=0/\∃i,fM v.vars p.name=some i:=by
 unfold En.use at h
 split at h
 ·exact((gS (by decide) h).2).elim
 ·rename_i i hi
  refine⟨?_,i,hi⟩
  split at h
  ·exact h
  ·simp only at h
   split at h
   ·split at h
    ·exact(gS (by decide) h).1
    ·exact h
   ·exact((gS (by decide) h).2).elim
theorem kA{v:En}{x:Vr}(h:(v.add x).code=0):v.code=0:=by
 simp only[En.add,zn]at h;split at h
 ·exact(gS (by decide) h).1
 ·exact h
theorem gi:∀(x:Ex) (v:En),(v.expr x).1.code=0->v.code=0
 |.mk k n p ks,v,h=>by
  rw[En.expr_eq]at h
  split at h
  ·exact h
  ·split at h
   ·exact(fR h).1
   ·split at h
    ·rename_i a b l
     have fin:((v.expr a).1.expr b).1.code=0->v.code=0:=fun h=>gi a v (gi b _ h)
     split at h
     ·split at h
      ·exact fin h
      ·exact(gh (by decide) h).elim
     ·exact fin (En.num_code (En.num_code h))
    ·exact h
termination_by x=>SizeOf.sizeOf x
theorem nh{v:En}{c:Int}(h:(v.fail0 c).code=0):v.code=0:=by
 simp only[En.fail0]at h
 split at h
 ·exact(gS (by omega) h).1
 ·exact h
theorem jF{vs ws:List Vr}(h:ws.map (fun x=>{x with dead:=false})=vs.map (fun x=>{x with dead:=false}))(n:ByteArray):fM ws n=fM vs n:=by
 have key:∀us:List Vr,fM us n=fM (us.map (fun x=>{x with dead:=false})) n:=by
  intro us;simp only[fM,List.findIdx?_map];rfl
 rw[key ws,key vs,h]
theorem Up.core{vs ws:List Vr}(h:ws.map (fun x=>{x with dead:=false})=vs.map (fun x=>{x with dead:=false}))(hu:Up vs):Up ws:=by
 intro i hi q hq
 have hl:ws.length=vs.length:=by have:=congrArg List.length h;simpa using this
 have hi':i<vs.length:=by omega
 have he:({ws[i]with dead:=false}:Vr)={vs[i]with dead:=false}:=by
  have h1:=iO (fun x:Vr=>({x with dead:=false}:Vr)) (l:=ws) (i:=i) (h:=by simpa using hi)
  have h2:=iO (fun x:Vr=>({x with dead:=false}:Vr)) (l:=vs) (i:=i) (h:=by simpa using hi')
  rw[<-h1,<-h2];congr 1
 have hlo:ws[i].loans=vs[i].loans:=by
  have h3:∀x y:Vr,({x with dead:=false}:Vr)={y with dead:=false}->x.loans=y.loans:=by intro x y h;simpa using(congrArg Vr.loans h)
  exact h3 _ _ he
 rw[hlo]at hq
 obtain⟨j,hj,hji⟩:=hu i hi' q hq
 exact⟨j,by rw[jF h];exact hj,hji⟩
theorem oV{vs ws:List Vr}{n:ByteArray}{i:Nat}(h:fM vs n=some i):fM (vs++ws) n=some i:=by
 simp only[fM,List.findIdx?_append]at h⊢;rw[h];rfl
theorem pP{vs ws:List Vr}{n:ByteArray}(hw:∀x∈ws,x.name≠n):fM (vs++ws) n=fM vs n:=by
 simp only[fM,List.findIdx?_append]
 have:ws.findIdx? (fun v=>decide (v.name=n))=none:=by
  rw[ip];intro x hx;simpa using hw x hx
 rw[this];cases vs.findIdx? (fun v=>decide (v.name=n))<;>rfl
theorem Up.add{vs:List Vr}(h:Up vs){x:Vr}(hx:∀q∈x.loans,∃j,fM vs q.name=some j):Up (vs++[x]):=by
 intro i hi q hq
 by_cases h1:i<vs.length
 ·rw[dm h1]at hq
  obtain⟨j,hj,hji⟩:=h i h1 q hq
  exact⟨j,oV hj,hji⟩
 ·have hii:i=vs.length:=by simp at hi;omega
  subst hii
  simp at hq
  obtain⟨j,hj⟩:=hx q hq
  exact⟨j,oV hj,sM hj⟩
theorem yM{vs ws:List Vr}(h:ws.map (fun x=>{x with dead:=false})=vs.map (fun x:Vr=>{x with dead:=false}))(n:Nat):(ws.take n).map (fun x=>{x with dead:=false})=(vs.take n).map (fun x=>{x with dead:=false}):=by
 rw[kR,kR,h]
inductive St.nm:St->Prop where
 |mk {k:Int} {n:ByteArray} {p o:Pl} {e:Ex} {f:ByteArray} {zas:List Ag} {t l:List St} (ho:k=6->o.name≠bl []) (ha:k=4->∀a∈zas,a.lent=true->a.place.name≠bl [])
  (ht:∀x∈t,St.nm x) (hl:∀x∈l,St.nm x):St.nm (.mk k n p o e f zas t l)
theorem St.nm.get{s:St}(h:s.nm):(s.kind=6->s.other.name≠bl [])/\(s.kind=4->∀a∈s.args,a.lent=true->a.place.name≠bl [])/\(∀x∈s.thn,x.nm)/\∀x∈s.els,x.nm:=by
 cases h with
 |mk h1 h2 h3 h4=>exact⟨h1,h2,h3,h4⟩
def jr(vs ws:List Vr):Prop:=(ws.take vs.length).map (fun x=>{x with dead:=false})=vs.map (fun x:Vr=>{x with dead:=false})/\∀x∈ws.drop vs.length,x.name=bl []
theorem jr.refl(vs:List Vr):jr vs vs:=⟨by rw[aW],by simp⟩
theorem jr.core{vs ws us:List Vr}(h:jr vs ws)(hc:us.map (fun x=>{x with dead:=false})=ws.map (fun x:Vr=>{x with dead:=false})):jr vs us:=by
 refine⟨(yM hc _).trans h.1,fun x hx=>?_⟩
 have:({x with dead:=false}:Vr)∈(us.drop vs.length).map (fun x=>{x with dead:=false}):=aZ.2 ⟨x,hx,rfl⟩
 rw[List.map_drop,hc,<-List.map_drop]at this
 obtain⟨y,hy,he⟩:=aZ.1 this
 have:=h.2 y hy
 rw[<-this];exact(congrArg Vr.name he).symm
theorem jr.len{vs ws:List Vr}(h:jr vs ws):vs.length<=ws.length:=by
 have:=congrArg List.length h.1
 simp at this;omega
theorem jr.push{vs ws:List Vr}(h:jr vs ws)(p:Pl):jr vs (ws++[cK p]):=by
 have hl:=h.len
 refine⟨by rw[List.take_append_of_le_length hl];exact h.1,fun x hx=>?_⟩
 rw[List.drop_append_of_le_length hl]at hx
 rcases aE.1 hx with hx|hx
 ·exact h.2 x hx
 ·simp at hx;subst hx;rfl
theorem jr.vIdx{vs ws:List Vr}(h:jr vs ws){n:ByteArray}(hn:n≠bl []):fM ws n=fM vs n:=by
 have:ws=ws.take vs.length++ws.drop vs.length:=(ic _ _).symm
 rw[this,pP (fun x hx=>by rw[h.2 x hx];exact Ne.symm hn),jF h.1]
theorem jc:∀(l:List (Pa×Ag)) (v0:List Vr) (v:En) (pl:List Pl),jr v0 v.vars->(∀x∈l,x.2.lent=true->x.2.place.name≠bl [])->(∀q∈pl,∃j,fM v0 q.name=some j)->
 ((v.args l pl).1.code=0->v.code=0)/\∀q,(v.args l pl).2=some q->(v.args l pl).1.code=0->jr v0 (v.args l pl).1.vars/\∀r∈q,∃j,fM v0 r.name=some j
 |[],v0,v,pl,hg,ha,hp=>⟨fun h=>h,fun q hq _=>by simp[En.args]at hq;subst hq;exact⟨hg,hp⟩⟩
 |(p,a)::l,v0,v,pl,hg,ha,hp=>by
  rw[En.args]
  by_cases h1:a.lent≠p.lent
  ·rw[if_pos h1]
   exact⟨fun h=>(gh (by decide) h).elim,fun q hq=>by simp at hq⟩
  ·rw[if_neg h1]
   by_cases h2:a.lent=true
   ·rw[if_pos h2]
    have hlike:=(v.use_like a.place).trans (eY _ (v.use a.place).2 p.type)
    have code:((((v.use a.place).1.same (v.use a.place).2 p.type).push (cK a.place)).args l (pl++[a.place])).1.code=0->(v.use a.place).1.code=0:=by
     intro h
     by_cases hc:∃j,fM v0 a.place.name=some j
     ·have h0:=(jc l v0 (((v.use a.place).1.same (v.use a.place).2 p.type).push (cK a.place)) (pl++[a.place]) ((hg.core hlike.vars).push a.place) (fun x hx=>ha x (by simp[hx])) (by
       intro q hq
       rcases aE.1 hq with hq|hq
       ·exact hp q hq
       ·simp at hq;subst hq;exact hc)).1 h
      exact En.same_code (v:=(v.use a.place).1) (a:=(v.use a.place).2) (t:=p.type) h0
     ·have:=(jc l (((v.use a.place).1.same (v.use a.place).2 p.type).push (cK a.place)).vars (((v.use a.place).1.same (v.use a.place).2 p.type).push (cK a.place)) [] (.refl _) (fun x hx=>ha x (by simp[hx])) (by simp)).1
      have eq:∀(l:List (Pa×Ag)) (w:En) (q r:List Pl),(w.args l q).1=(w.args l r).1:=by
       intro l
       induction l with
       |nil=>intros;rfl
       |cons x l ih=>
        intro w q r
        obtain⟨p,a⟩:=x
        rw[En.args,En.args]
        split
        ·rfl
        ·split
         ·exact ih _ _ _
         ·exact ih _ _ _
      rw[eq l _ _ []]at h
      exact En.same_code (v:=(v.use a.place).1) (a:=(v.use a.place).2) (t:=p.type) (this h)
    refine⟨fun h=>(fR (code h)).1,fun q hq h=>?_⟩
    obtain⟨-,j,hj⟩:=fR (code h)
    rw[hg.vIdx (ha (p,a) (by simp) h2)]at hj
    exact(jc l v0 (((v.use a.place).1.same (v.use a.place).2 p.type).push (cK a.place)) (pl++[a.place]) ((hg.core hlike.vars).push a.place) (fun x hx=>ha x (by simp[hx])) (by
         intro q hq
         rcases aE.1 hq with hq|hq
         ·exact hp q hq
         ·simp at hq;subst hq;exact⟨j,hj⟩)).2 q hq h
   ·rw[if_neg h2]
    by_cases hv:True
    ·have ih:=jc l v0 ((v.expr a.expr).1.same (v.expr a.expr).2 p.type) pl
     have hx:((v.expr a.expr).1.same (v.expr a.expr).2 p.type).vars.map (fun x=>{x with dead:=false})=v.vars.map (fun x:Vr=>{x with dead:=false}):=by
      have:∀(x:Ex) (v:En),(v.expr x).1.vars.map (fun x=>{x with dead:=false})=v.vars.map (fun x:Vr=>{x with dead:=false}):=expr_core
      exact this _ _
     obtain⟨i1,i2⟩:=ih (hg.core hx) (fun x hx=>ha x (by simp[hx])) hp
     exact⟨fun h=>gi _ _ (En.same_code (i1 h)),i2⟩
    ·exact(hv trivial).elim
where
 expr_core:∀(x:Ex) (v:En),(v.expr x).1.vars.map (fun x=>{x with dead:=false})=v.vars.map (fun x:Vr=>{x with dead:=false})
 |.mk k n p ks,v=>by
  rw[En.expr_eq]
  split
  ·rfl
  ·split
   ·exact(v.use_like p).vars
   ·split
    ·rename_i a b l
     have h:=(expr_core b (v.expr a).1).trans (expr_core a v)
     split
     ·split
      ·exact h
      ·exact h
     ·exact h
    ·rfl
 termination_by x=>SizeOf.sizeOf x
theorem jC(x:Ex)(v:En):(v.expr x).1.vars.map (fun x=>{x with dead:=false})=v.vars.map (fun x:Vr=>{x with dead:=false}):=jc.expr_core x v
theorem tN{v:En}{n:Nat}(h:(v.gone n).code=0):v.code=0:=by
 unfold En.gone at h;split at h
 ·exact(gh (by decide) h).elim
 ·exact h
theorem xd{v:En}{s:St}(hn:∀a∈s.args,a.lent=true->a.place.name≠bl [])(h:(v.call s).code=0):v.code=0/\(Up v.vars->Up (v.call s).vars):=by
 unfold En.call at h⊢
 split at h
 ·exact(gh (by decide) h).elim
 ·split at h
  ·exact⟨h,id⟩
  ·rename_i f hf
   split at h
   ·exact(gh (by decide) h).elim
   ·rename_i hlen
    obtain⟨i1,i2⟩:=jc (f.params.zip s.args) v.vars v [] (.refl _) (fun x hx=>hn _ (List.of_mem_zip hx).2) (by simp)
    rw[if_neg hlen]
    split at h
    ·rename_i w hw
     rw[hw]at i1
     simp only at i1
     refine⟨i1 h,?_⟩
     exfalso
     have none_code:∀(l:List (Pa×Ag)) (v w:En) (pl:List Pl),v.args l pl=(w,none)->w.code≠0:=by
      intro l
      induction l with
      |nil=>intro v w pl h;simp[En.args]at h
      |cons x l ih=>
       intro v w pl h
       obtain⟨p,a⟩:=x
       rw[En.args]at h
       split at h
       ·simp at h;obtain⟨rfl,-⟩:=h;exact gh (by decide)
       ·split at h
        ·exact ih _ _ _ h
        ·exact ih _ _ _ h
     exact none_code _ _ _ _ hw h
    ·rename_i w pl hw
     rw[hw]at i1 i2
     simp only at i1 i2
     have hc:=tN (kA h)
     obtain⟨j1,j2⟩:=i2 pl rfl hc
     refine⟨i1 hc,fun hu=>?_⟩
     have hg:((w.gone v.vars.length).pop v.vars.length).vars=w.vars.take v.vars.length:=by
      simp only[En.pop];unfold En.gone;split<;>rfl
     have hu2:Up (w.vars.take v.vars.length):=Up.core j1.1 hu
     simp only[En.add,hg]
     refine hu2.add fun q hq=>?_
     simp only at hq
     split at hq
     ·rw[jF j1.1];exact j2 q hq
     ·simp at hq
theorem wZ{v:En}{s:St}(hn:s.other.name≠bl [])(h:(v.pick s).code=0):v.code=0/\(Up v.vars->Up (v.pick s).vars):=by
 have hc1:(v.expr s.expr).1.vars.map (fun x=>{x with dead:=false})=v.vars.map (fun x:Vr=>{x with dead:=false}):=jC _ _
 simp only[En.pick]at h⊢
 have l1:=En.use_like ((v.expr s.expr).1.num (v.expr s.expr).2) s.place
 have k1:=fun h=>fR (v:=(v.expr s.expr).1.num (v.expr s.expr).2) (p:=s.place) h
 have kk:((v.expr s.expr).1.num (v.expr s.expr).2).code=0->v.code=0:=fun h=>gi _ _ (En.num_code h)
 have hv1:((v.expr s.expr).1.num (v.expr s.expr).2).vars=(v.expr s.expr).1.vars:=rfl
 generalize(v.expr s.expr).1.num (v.expr s.expr).2=v1 at*
 rw[<-hv1]at hc1
 generalize hu:(v1.use s.place).1=u at*
 generalize(v1.use s.place).2=t at*
 have l2:=En.use_like (u.push (cK s.place)) s.other
 have k2:=fun h=>fR (v:=u.push (cK s.place)) (p:=s.other) h
 have hsv:(((u.push (cK s.place)).use s.other).1.same ((u.push (cK s.place)).use s.other).2 t).vars=((u.push (cK s.place)).use s.other).1.vars:=rfl
 have hsc:(((u.push (cK s.place)).use s.other).1.same ((u.push (cK s.place)).use s.other).2 t).code=0->((u.push (cK s.place)).use s.other).1.code=0:=En.same_code
 generalize(((u.push (cK s.place)).use s.other).1.same ((u.push (cK s.place)).use s.other).2 t)=w at*
 have hc:=kA h
 have hwc:w.code=0:=by
  simp only[En.pop]at hc
  split at hc
  ·exact(gh (by decide) hc).elim
  ·exact hc
 obtain⟨c2,j2,hj2⟩:=k2 (hsc hwc)
 obtain⟨c1,j1,hj1⟩:=k1 c2
 refine⟨kk c1,fun hup=>?_⟩
 have hgv:((if cZ w.vars u.vars.length then w.fail 4 else w).pop u.vars.length).vars=w.vars.take u.vars.length:=by
  simp only[En.pop];split<;>rfl
 have hgr:jr u.vars w.vars:=by rw[hsv];exact((jr.refl u.vars).push s.place).core l2.vars
 have huv:u.vars.map (fun x=>{x with dead:=false})=v.vars.map (fun x:Vr=>{x with dead:=false}):=l1.vars.trans hc1
 have hu0:Up u.vars:=hup.core huv
 have hu2:Up (w.vars.take u.vars.length):=hu0.core hgr.1
 simp only[En.add,hgv]
 refine hu2.add fun q hq=>?_
 simp at hq
 rw[jF hgr.1]
 rcases hq with rfl|rfl
 ·exact⟨j1,by rw[jF l1.vars];exact hj1⟩
 ·refine⟨j2,?_⟩
  rw[<-hj2]
  exact(((jr.refl u.vars).push s.place).vIdx hn).symm
theorem uz(vs zas bs:List Vr):(fI vs zas bs).map (fun x=>{x with dead:=false})=vs.map (fun x=>{x with dead:=false}):=by
 apply List.ext_getElem (by simp[fI])
 intro k h1 h2
 simp[fI]
theorem tL{v a b:En}(h:(v.join a b).code=0):v.code=0:=nh (v:=({v with vars:=fI v.vars a.vars b.vars,names:=b.names}:En)) (nh h)
theorem rp{s:St}(hs:s.nm){v:En}(h:(v.stmt s).code=0):v.code=0/\(Up v.vars->Up (v.stmt s).vars):=by
 obtain⟨n1,n2,n3,n4⟩:=hs.get
 rw[En.stmt_eq]at h⊢
 by_cases k1:s.kind=1
 ·rw[if_pos k1]at h⊢
  have:=kA h
  refine⟨gi _ _ this,fun hu=>?_⟩
  exact(hu.core (jC s.expr v)).add (by simp)
 rw[if_neg k1]at h⊢
 by_cases k2:s.kind=2
 ·rw[if_pos k2]at h⊢
  obtain⟨c1,j,hj⟩:=fR (kA h)
  refine⟨c1,fun hu=>?_⟩
  have hl:=v.use_like s.place
  refine(hu.core hl.vars).add fun q hq=>?_
  simp at hq;subst hq
  exact⟨j,by rw[jF hl.vars];exact hj⟩
 rw[if_neg k2]at h⊢
 by_cases k3:s.kind=3
 ·rw[if_pos k3]at h⊢
  refine⟨gi _ _ (fR (En.same_code h)).1,fun hu=>?_⟩
  exact(hu.core (jC s.expr v)).core (En.use_like (v.expr s.expr).1 s.place).vars
 rw[if_neg k3]at h⊢
 by_cases k4:s.kind=4
 ·rw[if_pos k4]at h⊢;exact xd (n2 k4) h
 rw[if_neg k4]at h⊢
 by_cases k6:s.kind=6
 ·rw[if_pos k6]at h⊢;exact wZ (n1 k6) h
 rw[if_neg k6]at h⊢
 have hj:=tL h
 refine⟨gi _ _ (En.num_code hj),fun hu=>?_⟩
 exact(hu.core (jC s.expr v)).core (uz _ _ _)
theorem rq:∀(l:List St),(∀s∈l,s.nm)->∀(v:En),(v.body l).code=0->v.code=0/\(Up v.vars->Up (v.body l).vars)
 |[],_,v,h=>by rw[hZ]at h⊢;exact⟨h,id⟩
 |s::l,hn,v,h=>by
  rw[ig]at h⊢
  split at h
  ·rename_i hc
   rw[if_pos hc]
   obtain⟨h1,h2⟩:=rq l (fun x hx=>hn x (by simp[hx])) _ h
   obtain⟨h3,h4⟩:=rp (hn s (by simp)) h1
   exact⟨h3,fun hu=>h2 (h4 hu)⟩
  ·rename_i hc;rw[if_neg hc];exact⟨h,id⟩
theorem Up.nil:Up []:=fun i h=>by simp at h
theorem tP(l:List Pa)(v:En)(hu:Up v.vars):Up (v.givens l).vars:=by
 induction l generalizing v with
 |nil=>exact hu
 |cons x l ih=>exact ih _ (hu.add (by simp[Pa.vr]))
theorem pA(p:Pg)(fn:Nat):Up (cL p fn).vars:=by
 unfold cL
 split
 ·exact tP _ _ .nil
 ·exact .nil
def iU(b:UInt8):Bool:=decide (97<=b.toNat)&&decide (b.toNat<=122)
def bj(s:ByteArray):Bool:=decide (1<=s.size)&&(decide (s.size<=6)&&s.data.toList.all iU)
def fU(p:List Int):Bool:=decide (p.length<=4)&&p.all fun i=>decide (0<=i/\i<=1)
def Pl.okB(p:Pl):Bool:=bj p.name&&fU p.path
def Pl.noneB(p:Pl):Bool:=decide (p.name=bl [])&&decide (p.path.length=0)
def Ex.noneB(e:Ex):Bool:=decide (e.kind=0)&&(decide (e.num=0)&&(e.place.noneB&&decide (e.kids.length=0)))
theorem vj{s:ByteArray}{k:Nat}(h:k<s.size):s[k]?=some s.data.toList[k]:=by
 show s[k]?=_
 simp[h];rfl
section
variable {P:Program}{F:Ids}
theorem mf(L:Lib P F)(s:ByteArray):cI P 158 [S s] (B (bj s)):=by
 refine(L.a Tryz.func158 zu) (by simp[zu]) ?_
 have hsz:s.data.toList.length=s.size:=rfl
 by_cases h1:s.size<1
 ·have h1':(s.size:Int)<1:=by omega
  simp only[zu,go_sem,rE,h1']
  exact ak (.refl _) (aj.sub_empty _) ⟨by simp only[go_sem,bj];simp;omega,rfl⟩
 ·have h1':¬(s.size:Int)<1:=by omega
  by_cases h6:s.size>6
  ·have h6':(s.size:Int)>6:=by omega
   simp only[zu,go_sem,rE,h1',h6']
   refine ak (.refl _) (aj.sub_empty _) ⟨?_,rfl⟩
   have:bj s=false:=by
    simp only[bj,cH,decide_eq_false_iff_not];exact .inr (.inl (by omega))
   simp only[go_sem,this]
  ·have h6':¬(s.size:Int)>6:=by omega
   simp only[zu,go_sem,rE,h1',h6']
   refine aV s.size (fun k E H=>E 0=S s/\E 3=I k/\(s.data.toList.take k).all iU=true) ⟨rfl,rfl,by simp⟩ ?_
   rintro k E H hk ⟨e0,e3,hall⟩
   simp only[go_sem,rE,e0,e3]
   refine aH (fun hlt=>?_) (fun hge=>?_)
   ·have hk1:k<s.size:=by omega
    have w1:=aP (n:=(k:Int)+1) (by omega) (by omega)
    have hb:=vj hk1
    have htk:s.data.toList.take (k+1)=s.data.toList.take k++[s.data.toList[k]]:=aC hk1
    have no:iU s.data.toList[k]=false->bj s=false:=by
     intro h
     have:s.data.toList.all iU=false:=by rw[dj];exact⟨_,az hk1,by rw[h];exact fB⟩
     simp only[bj,this,aM]
    generalize s.data.toList[k]=c at*
    simp only[go_sem,rE,e0,e3,hb]
    by_cases ha:(c.toNat:Int)<97
    ·simp only[go_sem,rE,ha]
     exact ak (.refl _) (aj.sub_empty _) ⟨by simp only[go_sem];rw[no (by simp[iU];omega)],rfl⟩
    ·simp only[go_sem,rE,ha,e0,e3,hb]
     by_cases hz:(c.toNat:Int)>122
     ·simp only[go_sem,rE,hz]
      exact ak (.refl _) (aj.sub_empty _) ⟨by simp only[go_sem];rw[no (by simp[iU];omega)],rfl⟩
     ·simp only[go_sem,rE,hz,e3,w1]
      refine⟨hk1,H,aj.sub_refl _,e0,by simp,?_⟩
      rw[htk,eD,hall]
      simp[iU];omega
   ·have hkk:k=s.size:=by omega
    subst hkk
    simp only[go_sem,rE]
    rw[<-hsz,aW]at hall
    refine ak (.refl _) (aj.sub_empty _) ⟨?_,rfl⟩
    have:bj s=true:=by simp only[bj,hall,fC,aw,decide_eq_true_eq];omega
    simp only[go_sem,this]
theorem jp(L:Lib P F)(p:Pl):cI P 163 [.agg p.enc] (B p.noneB):=by
 refine(L.a Tryz.func163 y163) (by simp[y163]) ?_
 simp only[y163,go_sem,rE,Pl.enc,au]
 intro b hb
 by_cases h:p.name=bl []
 ·simp only[go_sem,rE,h,ao]
  refine ak (.refl _) (aj.sub_empty _) ⟨?_,rfl⟩
  simp only[go_sem,rE,Pl.noneB,h]
  congr 2
  rw[aX];simp
 ·simp only[go_sem,rE,h]
  exact ak (.refl _) (aj.sub_empty _) ⟨by simp only[go_sem,Pl.noneB,h,aL],rfl⟩
theorem jL(L:Lib P F)(p:Pl):cI P 161 [.agg p.enc] (B p.okB):=by
 refine(L.a Tryz.func161 y161) (by simp[y161]) ?_
 simp only[y161,go_sem,rE,Pl.enc,au]
 intro b hb
 refine am (mf L p.name) (rfl) ?_
 cases hn:bj p.name
 ·simp only[go_sem,rE]
  exact ak (.refl _) (aj.sub_empty _) ⟨by simp only[go_sem,Pl.okB,hn,aL],rfl⟩
 ·have g1:((aj.empty.set b (.cells [S p.name,.sl 1 none (p.path.map fun i=>[I i])]))).get b=some (.cells [S p.name,.sl 1 none (p.path.map fun i=>[I i])]):=ai _ _ _
  by_cases h4:(p.path.length:Int)>4
  ·simp only[go_sem,rE,h4,ao]
   refine ak (.refl _) (aj.sub_empty _) ⟨?_,rfl⟩
   have:fU p.path=false:=by simp only[fU,cH,decide_eq_false_iff_not];exact .inl (by omega)
   simp only[go_sem,Pl.okB,this,aM]
  ·simp only[go_sem,rE,h4,ao]
   refine aV p.path.length (fun k E H=>E 1=.ptr b 0/\E 3=I k/\H.get b=some (.cells [S p.name,.sl 1 none (p.path.map fun i=>[I i])])/\((p.path.take k).all fun i=>decide (0<=i/\i<=1))=true) ⟨rfl,rfl,g1,by simp⟩ ?_
   rintro k E H hk ⟨e1,e3,g1,hall⟩
   simp only[go_sem,rE,rA,e1,e3,g1,ao]
   refine aH (fun hlt=>?_) (fun hge=>?_)
   ·have hk1:k<p.path.length:=by omega
    have w1:=aP (n:=(k:Int)+1) (by omega) (by omega)
    simp only[go_sem,rE,rA,e1,e3,g1,iJ hk1]
    refine am (qW L p.path[k] 0 1) (rfl) ?_
    by_cases hi:0<=p.path[k]/\p.path[k]<=1
    ·simp only[go_sem,rE,hi,e3,w1]
     refine⟨hk1,H,aj.sub_refl _,e1,by simp,g1,?_⟩
     rw[aC hk1,eD,hall]
     simp[hi]
    ·simp only[go_sem,rE,hi]
     refine ak (.refl _) (aj.sub_empty _) ⟨?_,rfl⟩
     have:(p.path.all fun i=>decide (0<=i/\i<=1))=false:=by rw[dj];exact⟨_,az hk1,by simpa using hi⟩
     simp only[go_sem,Pl.okB,fU,this,aM]
   ·have hkk:k=p.path.length:=by omega
    subst hkk
    rw[aW]at hall
    simp only[go_sem,rE]
    refine ak (.refl _) (aj.sub_empty _) ⟨?_,rfl⟩
    have:fU p.path=true:=by simp only[fU,hall,fC,decide_eq_true_eq];omega
    simp only[go_sem,Pl.okB,hn,this,fC]
theorem iZ(L:Lib P F)(e:Ex):cI P 162 [.agg e.enc] (B e.noneB):=by
 refine(L.a Tryz.func162 y162) (by simp[y162]) ?_
 rw[Ex.enc_eq]
 simp only[y162,go_sem,rE]
 intro b hb
 by_cases h1:e.kind=0
 ·by_cases h2:e.num=0
  ·simp only[go_sem,rE,h1,h2,beq_self_eq_true,rL,rA]
   refine am (jp L e.place) (by simp only[go_sem,rE,Pl.enc]) ?_
   cases h3:e.place.noneB
   ·simp only[go_sem,rE]
    exact ak (.refl _) (aj.sub_empty _) ⟨by simp only[go_sem,Ex.noneB,h3,aL,aM],rfl⟩
   ·simp only[go_sem,rE,Ex.encs_map,ao]
    refine ak (.refl _) (aj.sub_empty _) ⟨?_,rfl⟩
    simp only[go_sem,rE,Ex.noneB,h1,h2,h3,bT]
    congr 2
    rw[aX];simp
  ·have h2':(e.num==0)=false:=by simpa using h2
   simp only[go_sem,rE,h1,h2',beq_self_eq_true]
   exact ak (.refl _) (aj.sub_empty _) ⟨by simp only[go_sem,Ex.noneB,h2,aL,aM],rfl⟩
 ·have h1':(e.kind==0)=false:=by simpa using h1
  simp only[go_sem,rE,h1']
  exact ak (.refl _) (aj.sub_empty _) ⟨by simp only[go_sem,Ex.noneB,h1,aL],rfl⟩
end
def iX(k n:Int)(p:Pl)(m:Nat):Bool:=
 if k=1 then decide (0<=n/\n<=9999)&&decide (m=0)else if k=2 then p.okB&&decide (m=0)else decide (3<=k/\k<=6)&&decide (m=2)
def fq(k n:Int)(p:Pl)(m:Nat):Bool:=(decide (k=1)||decide (n=0))&&((decide (k=2)||p.noneB)&&decide (m<=2))
def Ex.okD:Nat->Ex->Bool
 |0,_=>false
 |d+1,e=>fq e.kind e.num e.place e.kids.length&&(e.kids.all (Ex.okD d)&&iX e.kind e.num e.place e.kids.length)
theorem ex_get{ks:List Ex}{k:Nat}(h:k<ks.length):(ks.map Ex.enc)[k]?=some ks[k].enc:=by simp[h]
theorem ex_take(e:Ex):e.enc.take 5=e.enc:=by rw[Ex.enc_eq];rfl
theorem ex_len(e:Ex):e.enc.length=5:=by rw[Ex.enc_eq];rfl
section
variable {P:Program}{F:Ids}
theorem kO(L:Lib P F):∀(d:Nat),d<=100->∀(e:Ex),cI P 164 [.agg e.enc,I d] (B (e.okD d)):=by
 intro d
 induction d with
 |zero=>
  intro _ e
  refine(L.a Tryz.func164 xQ) (by simp[xQ,A9]) ?_
  rw[Ex.enc_eq]
  simp only[xQ,A9,go_sem,rE,dg,Int.reduceLT]
  intro b hb
  exact ak (.refl _) (aj.sub_empty _) ⟨by simp only[go_sem,Ex.okD],rfl⟩
 |succ d ih=>
  intro hd e
  have ih:=ih (by omega)
  refine(L.a Tryz.func164 xQ) (by simp[xQ,A9]) ?_
  have h1:¬((d+1:Nat):Int)<1:=by omega
  have w0:=aP (n:=((d+1:Nat):Int) - 1) (by omega) (by omega)
  have hd1:((d+1:Nat):Int) - 1=(d:Nat):=by omega
  rw[hd1]at w0
  rw[Ex.enc_eq]
  simp only[xQ,A9,go_sem,rE,h1]
  intro b hb
  have g1:(aj.empty.set b (.cells [I e.kind,I e.num,S e.place.name,au e.place.path,.sl 5 none (Ex.encs e.kids)])).get b=some (.cells [I e.kind,I e.num,S e.place.name,au e.place.path,.sl 5 none (Ex.encs e.kids)]):=ai _ _ _
  have tail:∀(E:Env) (H:aj),fq e.kind e.num e.place e.kids.length=true->E 1=I (d+1:Nat)->E 2=.ptr b 0->H.get b=some (.cells [I e.kind,I e.num,S e.place.name,au e.place.path,.sl 5 none (Ex.encs e.kids)])->
   aT.wp P (kd5) (bh.post [.slot 4] fun q H'=>q=B (e.okD (d+1))/\H'=aj.empty) E H:=by
   intro E H hg e1 e2 g1
   rw[kd5,fd5]
   have hm:e.kids.length<=2:=by
    simp only[fq,aw,decide_eq_true_eq]at hg;exact hg.2.2
   simp only[go_sem,rE]
   refine aV e.kids.length (fun k E H=>E 1=I (d+1:Nat)/\E 2=.ptr b 0/\E 5=I k/\H.get b=some (.cells [I e.kind,I e.num,S e.place.name,au e.place.path,.sl 5 none (Ex.encs e.kids)])/\(e.kids.take k).all (Ex.okD d)=true)
    ⟨e1,e2,rfl,g1,by simp⟩ ?_
   clear e1 e2 g1
   rintro k E H hk ⟨e1,e2,e5,g1,hall⟩
   simp only[go_sem,rE,rA,e2,e5,g1,Ex.encs_map,ao]
   refine aH (fun hlt=>?_) (fun hge=>?_)
   ·have hk1:k<e.kids.length:=by omega
    have w1:=aP (n:=(k:Int)+1) (by omega) (by omega)
    simp only[go_sem,rE,rA,e1,e2,e5,g1,Ex.encs_map,ao,ex_get hk1,ex_len,ex_take,w0,hd1]
    refine am (ih e.kids[k]) (rfl) ?_
    cases ho:e.kids[k].okD d
    ·simp only[go_sem,rE]
     refine ak (.refl _) (aj.sub_empty _) ⟨?_,rfl⟩
     have:e.kids.all (Ex.okD d)=false:=by rw[dj];exact⟨_,az hk1,by rw[ho];exact fB⟩
     simp only[go_sem,Ex.okD,this,aL,aM]
    ·simp only[go_sem,rE,e5,w1]
     refine⟨hk1,H,aj.sub_refl _,e1,e2,by simp,by rw[<-Ex.encs_map];exact g1,?_⟩
     rw[aC hk1,eD,hall]
     simp[ho]
   ·have hkk:k=e.kids.length:=by omega
    subst hkk
    rw[aW]at hall
    have hres:e.okD (d+1)=iX e.kind e.num e.place e.kids.length:=by simp only[Ex.okD,hg,hall,bT]
    rw[hres]
    have hz:((e.kids.length:Int)==0)=decide (e.kids.length=0):=by rw[aX];simp
    have hz2:((e.kids.length:Int)==2)=decide (e.kids.length=2):=by
     rw[aX];simp;omega
    simp only[go_sem,rE,rA,e2,g1,Ex.encs_map,ao]
    by_cases k1:e.kind=1
    ·simp only[k1,beq_self_eq_true,go_sem,rE,rA,e2,g1,Ex.encs_map,ao]
     refine am (qW L e.num 0 9999) (rfl) ?_
     by_cases hi:0<=e.num/\e.num<=9999
     ·simp only[go_sem,rE,rA,hi,e2,g1,Ex.encs_map,ao]
      exact ak (.refl _) (aj.sub_empty _) ⟨by simp only[go_sem,rE,iX,hi,hz,bT],rfl⟩
     ·simp only[go_sem,rE,rA,hi]
      exact ak (.refl _) (aj.sub_empty _) ⟨by simp only[go_sem,rE,iX,hi,aL],rfl⟩
    ·have k1':(e.kind==1)=false:=by simpa using k1
     by_cases k2:e.kind=2
     ·simp only[k2,beq_self_eq_true,go_sem,rE,rA,e2,g1,Ex.encs_map,ao,aF,rL]
      refine am (jL L e.place) (by simp only[go_sem,rE,Pl.enc]) ?_
      cases hp:e.place.okB
      ·simp only[go_sem,rE,rA]
       exact ak (.refl _) (aj.sub_empty _) ⟨by simp only[go_sem,rE,iX,bm,hp,aL],rfl⟩
      ·simp only[go_sem,rE,rA,e2,g1,Ex.encs_map,ao]
       exact ak (.refl _) (aj.sub_empty _) ⟨by simp only[go_sem,rE,iX,bm,hp,hz,bT],rfl⟩
     ·have k2':(e.kind==2)=false:=by simpa using k2
      simp only[k1',k2',go_sem,rE,rA,e2,g1]
      refine am (qW L e.kind 3 6) (rfl) ?_
      by_cases hi:3<=e.kind/\e.kind<=6
      ·simp only[go_sem,rE,rA,hi,e2,g1,Ex.encs_map,ao]
       exact ak (.refl _) (aj.sub_empty _) ⟨by simp only[go_sem,rE,iX,k1,k2,hi,hz2,bT],rfl⟩
      ·simp only[go_sem,rE,rA,hi]
       exact ak (.refl _) (aj.sub_empty _) ⟨by simp only[go_sem,rE,iX,k1,k2,hi,aL],rfl⟩
  have no:fq e.kind e.num e.place e.kids.length=false->e.okD (d+1)=false:=fun h=>by simp only[Ex.okD,h,aL]
  have fin:∀(E:Env),E 1=I (d+1:Nat)->E 2=.ptr b 0->∀c,(c=true->fq e.kind e.num e.place e.kids.length=false)->(c=false->fq e.kind e.num e.place e.kids.length=true)->
   oU P E ((aj.empty.set b (.cells [I e.kind,I e.num,S e.place.name,au e.place.path,.sl 5 none (Ex.encs e.kids)]))) (cE.then (aT.wp P (kd5) (bh.post [.slot 4] fun q H'=>q=B (e.okD (d+1))/\H'=aj.empty)) (bh.post [.slot 4] fun q H'=>q=B (e.okD (d+1))/\H'=aj.empty)) (B c)
    (.seq (rg [mv 0 4 cf]) .ret) .skip:=by
   intro E e1 e2 c hc1 hc2
   refine kV (fun hc=>?_) (fun hc=>?_)
   ·simp only[go_sem,rE]
    exact ak (.refl _) (aj.sub_empty _) ⟨by simp only[go_sem,no (hc1 hc)],rfl⟩
   ·simp only[go_sem]
    exact tail E _ (hc2 hc) e1 e2 g1
  have hm2:∀c:Bool,c=decide ((e.kids.length:Int)>2)->(c=true->fq e.kind e.num e.place e.kids.length=false)/\((decide (e.kind=1)||decide (e.num=0))=true->(decide (e.kind=2)||e.place.noneB)=true->c=false->fq e.kind e.num e.place e.kids.length=true):=by
   rintro c rfl
   refine⟨fun h=>?_,fun h1 h2 h=>?_⟩
   ·have:¬e.kids.length<=2:=by have:=of_decide_eq_true h;omega
    simp only[fq,this,decide_false,aM]
   ·have:e.kids.length<=2:=by have:=of_decide_eq_false h;omega
    simp only[fq,h1,h2,this,decide_true,fC]
  obtain⟨m1,m2⟩:=hm2 _ rfl
  by_cases k1:e.kind=1
  ·have k1a:(e.kind !=1)=false:=by simp[k1]
   have k2a:(e.kind !=2)=true:=by simp[k1]
   simp only[k1a,k2a,go_sem,rE,rA,rL]
   refine am (jp L e.place) (by simp only[go_sem,rE,Pl.enc]) ?_
   cases hp:e.place.noneB
   ·simp only[go_sem,rE,rA]
    exact ak (.refl _) (aj.sub_empty _) ⟨by simp only[go_sem];rw[no (by simp[fq,k1,hp])],rfl⟩
   ·simp only[go_sem,rE,rA,Ex.encs_map,ao]
    simp only[<-Ex.encs_map]
    exact fin _ (rfl) (rfl) _ m1 (m2 (by simp[k1]) (by simp[hp]))
  ·have k1a:(e.kind !=1)=true:=by simpa using k1
   by_cases n0:e.num=0
   ·have n0a:(e.num !=0)=false:=by simp[n0]
    by_cases k2:e.kind=2
    ·have k2a:(e.kind !=2)=false:=by simp[k2]
     simp only[k1a,n0a,k2a,go_sem,rE,rA,Ex.encs_map,ao]
     simp only[<-Ex.encs_map]
     exact fin _ (rfl) (rfl) _ m1 (m2 (by simp[n0]) (by simp[k2]))
    ·have k2a:(e.kind !=2)=true:=by simpa using k2
     simp only[k1a,n0a,k2a,go_sem,rE,rA,rL]
     refine am (jp L e.place) (by simp only[go_sem,rE,Pl.enc]) ?_
     cases hp:e.place.noneB
     ·simp only[go_sem,rE,rA]
      exact ak (.refl _) (aj.sub_empty _) ⟨by simp only[go_sem];rw[no (by simp[fq,k2,hp])],rfl⟩
     ·simp only[go_sem,rE,rA,Ex.encs_map,ao]
      simp only[<-Ex.encs_map]
      exact fin _ (rfl) (rfl) _ m1 (m2 (by simp[n0]) (by simp[hp]))
   ·have n0a:(e.num !=0)=true:=by simpa using n0
    simp only[k1a,n0a,go_sem,rE,rA]
    exact ak (.refl _) (aj.sub_empty _) ⟨by simp only[go_sem];rw[no (by simp[fq,k1,n0])],rfl⟩
end
def Ag.okB(a:Ag):Bool:=if a.lent then a.place.okB&&a.expr.noneB else a.place.noneB&&a.expr.okD 4
def eG(l:List Ag):Bool:=decide (l.length<=4)&&l.all Ag.okB
structure AgC2(a:Ag)(cs:List AC):Prop extends AgC a cs where
 all:cs.take 8=cs
theorem agC2(a:Ag):∃cs,a.enc=cs/\AgC2 a cs:=⟨a.enc,rfl,⟨by rw[Ag.enc,Ex.enc_eq];rfl,rfl,rfl,by rw[Ag.enc,Ex.enc_eq];rfl⟩,by rw[Ag.enc,Ex.enc_eq];rfl⟩
section
variable {P:Program}{F:Ids}
theorem ve(L:Lib P F)(l:List Ag):cI P 196 [.sl 8 none (l.map Ag.enc)] (B (eG l)):=by
 refine(L.a Tryz.func196 y196) (by simp[y196]) ?_
 simp only[y196,go_sem,rE,ao]
 refine aH (fun hgt=>?_) (fun hle=>?_)
 ·simp only[go_sem,rE]
  refine ak (.refl _) (aj.sub_empty _) ⟨?_,rfl⟩
  have:eG l=false:=by simp only[eG,cH,decide_eq_false_iff_not];exact .inl (by omega)
  simp only[go_sem,this]
 ·simp only[go_sem,rE]
  refine aV l.length (fun k E H=>E 0=.sl 8 none (l.map Ag.enc)/\E 3=I k/\(l.take k).all Ag.okB=true) ⟨rfl,rfl,by simp⟩ ?_
  rintro k E H hk ⟨e0,e3,hall⟩
  simp only[go_sem,rE,e0,e3,ao]
  refine aH (fun hlt=>?_) (fun hge=>?_)
  ·have hk1:k<l.length:=by omega
   have w1:=aP (n:=(k:Int)+1) (by omega) (by omega)
   obtain⟨ca,hca,CA⟩:=agC2 l[k]
   have hga:(l.map Ag.enc)[k]?=some ca:=by rw[<-hca];simp[hk1]
   have no:l[k].okB=false->eG l=false:=by
    intro h
    have:l.all Ag.okB=false:=by rw[dj];exact⟨_,az hk1,by rw[h];exact fB⟩
    simp only[eG,this,aM]
   have yes:l[k].okB=true->(l.take (k+1)).all Ag.okB=true:=by
    intro h
    rw[aC hk1,eD,hall]
    simp[h]
   have goE:l[k].okB=if l[k].lent then l[k].place.okB&&l[k].expr.noneB else l[k].place.noneB&&l[k].expr.okD 4:=rfl
   generalize l[k]=a at*
   have cl:=CA.lent
   simp only[go_sem,rE,rA,e0,e3,hga,CA.len,CA.all]
   intro b4 hb4
   cases hl:a.lent
   ·rw[hl]at cl goE
    simp only[go_sem,rE,rA,cl,CA.len,CA.place,CA.expr,rL]
    refine am (jp L a.place) (by simp only[go_sem,rE,Pl.enc]) ?_
    cases hp:a.place.noneB
    ·simp only[go_sem,rE]
     exact ak (.refl _) (aj.sub_empty _) ⟨by simp only[go_sem];rw[no (by rw[goE,hp];rfl)],rfl⟩
    ·simp only[go_sem,rE,rA,CA.len,CA.place,CA.expr,rL]
     refine am (kO L 4 (by omega) a.expr) (rfl) ?_
     cases hx:a.expr.okD 4
     ·simp only[go_sem,rE]
      exact ak (.refl _) (aj.sub_empty _) ⟨by simp only[go_sem];rw[no (by rw[goE,hp,hx];rfl)],rfl⟩
     ·simp only[go_sem,rE,e0,e3,w1]
      exact⟨hk1,H,mq hb4,by simp,yes (by rw[goE,hp,hx];rfl)⟩
   ·rw[hl]at cl goE
    simp only[go_sem,rE,rA,cl,CA.len,CA.place,CA.expr,rL]
    refine am (jL L a.place) (by simp only[go_sem,rE,Pl.enc]) ?_
    cases hp:a.place.okB
    ·simp only[go_sem,rE]
     exact ak (.refl _) (aj.sub_empty _) ⟨by simp only[go_sem];rw[no (by rw[goE,hp];rfl)],rfl⟩
    ·simp only[go_sem,rE,rA,CA.len,CA.place,CA.expr,rL]
     refine am (iZ L a.expr) (rfl) ?_
     cases hx:a.expr.noneB
     ·simp only[go_sem,rE]
      exact ak (.refl _) (aj.sub_empty _) ⟨by simp only[go_sem];rw[no (by rw[goE,hp,hx];rfl)],rfl⟩
     ·simp only[go_sem,rE,rA,cl,e0,e3,w1]
      exact⟨hk1,H,mq hb4,by simp,yes (by rw[goE,hp,hx];rfl)⟩
  ·have hkk:k=l.length:=by omega
   subst hkk
   rw[aW]at hall
   simp only[go_sem,rE]
   refine ak (.refl _) (aj.sub_empty _) ⟨?_,rfl⟩
   have:eG l=true:=by simp only[eG,hall,fC,decide_eq_true_eq];omega
   simp only[go_sem,this]
end
end Go.Xl
