/- FnCheckForm: for every input the law returns true, and its arguments read as they did. Conditions: those of the given row (the listed package-level variables read as the text lays them; the card ties that). This is the first of the texts: a logic for running code. -/
import Derived.Orders
import Derived.Laws.Sem
import Derived.Laws.Entries
import Derived.Laws.Cells
import Derived.Laws.Slices
import Derived.Laws.Strings
import Derived.Laws.Small
import Derived.Laws.Tables
import Derived.Laws.Append
import Derived.Laws.AppendOwn
import Derived.Laws.CopyRow
import Derived.MapKept
import Derived.Laws.BytesString
set_option linter.unusedVariables false
set_option linter.unusedSimpArgs false
namespace Go.Xl
open _root_.Array renaming getD_eq_getD_getElem? -> gH, getElem?_append_left -> kh, getElem?_eq_getElem -> de, getElem?_eq_some_iff -> cS, getElem?_toList -> dy, length_toList -> kF, replicate -> ft, toList_inj -> eW
open _root_.Bool renaming and_eq_true -> aw, and_false -> aM, false_and -> aL, false_eq_true -> aq, false_or -> dG, or_eq_true -> dh, or_false -> dE, true_and -> bT
open _root_.Iff renaming rfl -> dz
open _root_.List renaming all_eq_true -> aS, any_eq_true -> iP, append_assoc -> dU, cons_append -> cq, eq_nil_of_length_eq_zero -> bn, ext_getElem? -> fQ, flatten_cons -> av, foldl_cons -> d7, getElem?_append_left -> aO, getElem?_append_right -> be, getElem?_cons_succ -> aB, getElem?_drop -> bU, getElem?_eq_getElem -> a6, getElem?_eq_none -> fx, getElem?_eq_some_iff -> aN, getElem?_map -> co, getElem?_take -> eT, getElem?_take_of_lt -> dq, length_append -> bv, length_cons -> aR, length_map -> ao, length_nil -> bM, length_take -> bI, map_append -> bL, map_congr_left -> eJ, map_cons -> aU, map_nil -> bB, mem_append -> aE, mem_cons -> bi, mem_cons_self -> fA, mem_filter -> eR, mem_iff_getElem -> bk, mem_iff_getElem? -> jx, mem_map -> aZ, mem_map_of_mem -> bZ, mem_of_getElem? -> aY, mem_of_mem_drop -> fL, mem_of_mem_take -> cP, mem_range -> fk, mem_singleton -> bQ, nodup_append -> fP, range -> dC, replicate -> ax, size_toArray -> j5, take_length -> aW, take_of_length_le -> cy
open _root_.Nat renaming reduceEqDiff -> rE, reduceAdd -> rA, reduceLeDiff -> rL, add_mul -> cB, le_refl -> aA, le_trans -> cg, min_eq_left -> eC, mul_le_mul_right -> bu, zero_add -> bY, zero_le -> gN
open _root_.Option renaming eq_none_or_eq_some -> bV, map_eq_some_iff -> a7, map_some -> bW, ne_none_iff_exists' -> aI
inductive AC where
 |lit(v:Value)
 |sl(sz:Nat)(tok:Option (Nat×Nat×Nat))(es:List (List AC))
 |ptr(r off:Nat)
 |elt(cs:List AC)
 |agg(cs:List AC)
 |tup(vs:List AC)
 |iface(t:TypeId)(v:AC)
 |fn(f:Fn)(first captured:List AC)
 |mp(r:Nat)
 |junk
 deriving Inhabited
abbrev bF:=Nat->Nat->Option Value
def bF.le(M M':bF):Prop:=∀b o v,M b o=some v->M' b o=some v
theorem bF.le_refl(M:bF):M.le M:=fun _ _ _ h=>h
theorem bF.le_trans{M N O:bF}(h:M.le N)(h':N.le O):M.le O:=fun b o v e=>h' b o v (h b o v e)
def LIM:Nat:=2^40
def okv:Value->Prop
 |.int k n=>k.min<=n/\n<=k.max
 |.string s=>s.size<=LIM
 |.agg _|.tuple _=>False
 |_=>True
def AC.one:AC->Bool
 |.agg _|.tup _|.junk=>false
 |_=>true
inductive Rep(M:bF):AC->Value->Prop
 |lit {v}:okv v->Rep M (.lit v) v
 |junk {v}:Rep M .junk v
 |sl0 {sz a c}:Rep M (.sl sz none []) (.slice a 0 c)
 |sl {sz tok es b off cap} (vs:Nat->Nat->Value):
  es.length<=LIM->es.length<=cap->(∀e∈es,e.length=sz/\∀x∈e,x.one=true)->
  (∀i j e x,es[i]?=some e->e[j]?=some x->M b (off+i*sz+j)=some (vs i j))->
  (∀i j e x,es[i]?=some e->e[j]?=some x->Rep M x (vs i j))->
  (∀t,tok=some t->off=0/\t=(b,es.length*sz,cap*sz))->
  Rep M (.sl sz tok es) (.slice (some ⟨b,off,none⟩) es.length cap)
 |ptr {r off}:Rep M (.ptr r off) (.pointer (some ⟨r,off,none⟩))
 |elt {cs b off} (vs:Nat->Value):(∀x∈cs,x.one=true)->(∀j x,cs[j]?=some x->M b (off+j)=some (vs j))->
  (∀j x,cs[j]?=some x->Rep M x (vs j))->Rep M (.elt cs) (.pointer (some ⟨b,off,none⟩))
 |agg {cs vs}:(∀x∈cs,x.one=true)->cs.length=vs.size->(∀(j:Nat) x v,cs[j]?=some x->vs[j]?=some v->Rep M x v)->Rep M (.agg cs) (.agg vs)
 |tup {cs vs}:cs.length=vs.size->(∀(j:Nat) x v,cs[j]?=some x->vs[j]?=some v->Rep M x v)->Rep M (.tup cs) (.tuple vs)
 |iface {t x v}:Rep M x v->Rep M (.iface t x) (.iface t v)
 |fn {f cs ds vs us}:cs.length=vs.size->(∀(j:Nat) x v,cs[j]?=some x->vs[j]?=some v->Rep M x v)->
  ds.length=us.size->(∀(j:Nat) x v,ds[j]?=some x->us[j]?=some v->Rep M x v)->Rep M (.fn f cs ds) (.func f vs us)
 |mp {r}:Rep M (.mp r) (.map (some r))
theorem Rep.mono{M M':bF}(h:M.le M'){x:AC}{v:Value}(r:Rep M x v):Rep M' x v:=by
 induction r with
 |lit h=>exact .lit h
 |junk=>exact .junk
 |sl0=>exact .sl0
 |sl vs hl hc hs hm _ ht ih=>exact .sl vs hl hc hs (fun i j e x he hx=>h _ _ _ (hm i j e x he hx)) ih ht
 |ptr=>exact .ptr
 |elt vs h1 hm _ ih=>exact .elt vs h1 (fun j x hx=>h _ _ _ (hm j x hx)) ih
 |agg h1 hl _ ih=>exact .agg h1 hl ih
 |tup hl _ ih=>exact .tup hl ih
 |iface _ ih=>exact .iface ih
 |fn hl _ hl' _ ih ih'=>exact .fn hl ih hl' ih'
 |mp=>exact .mp
inductive Ok:AC->Prop
 |lit {v}:okv v->Ok (.lit v)
 |junk:Ok .junk
 |sl {sz tok es}:es.length<=LIM->(∀e∈es,e.length=sz)->(∀e∈es,∀x∈e,Ok x)->Ok (.sl sz tok es)
 |ptr {r off}:Ok (.ptr r off)
 |elt {cs}:(∀x∈cs,Ok x)->Ok (.elt cs)
 |agg {cs}:(∀x∈cs,Ok x)->Ok (.agg cs)
 |tup {cs}:(∀x∈cs,Ok x)->Ok (.tup cs)
 |iface {t x}:Ok x->Ok (.iface t x)
 |fn {f cs ds}:(∀x∈cs,Ok x)->(∀x∈ds,Ok x)->Ok (.fn f cs ds)
 |mp {r}:Ok (.mp r)
theorem Rep.one{M:bF}{x:AC}{v:Value}(r:Rep M x v)(h:x.one=true):v.oneCell'=true:=by
 cases r<;>simp[AC.one,Value.oneCell']at*<;>(rename_i hk;cases v<;>simp_all [okv])
def Le(x y:AC):Prop:=∀M v,Rep M x v->Rep M y v
theorem Le.refl(x:AC):Le x x:=fun _ _ h=>h
theorem Le.trans{x y z:AC}(h:Le x y)(h':Le y z):Le x z:=fun M v r=>h' M v (h M v r)
inductive cz where
 |cells(cs:List AC)
 |tail(n m:Nat)
 |typed(t:TypeId)(cs:List AC)
 |map(f:ByteArray->Option AC)
 |const(o:Obj)(cs:List AC)
 deriving Inhabited
def cz.rd:cz->Option (List AC)
 |.cells cs=>some cs
 |.const _ cs=>some cs
 |_=>none
structure aj where
 get:Nat->Option cz
 fin:∃N,∀b,N<=b->get b=none
@[ext] theorem aj.ext{H H':aj}(h:∀b,H.get b=H'.get b):H=H':=by
  cases H;cases H';simp at h;have:=funext h;subst this;rfl
def aj.empty:aj:=⟨fun _=>none,0,fun _ _=>rfl⟩
def aj.set(H:aj)(b:Nat)(o:cz):aj:=
 ⟨fun c=>if c=b then some o else H.get c,by
  obtain⟨N,h⟩:=H.fin
  exact⟨N+b+1,fun c hc=>by rw[if_neg (by omega)];exact h c (by omega)⟩⟩
def aj.swap(H Hf H':aj):aj:=
 ⟨fun b=>if(H'.get b).isSome then H'.get b else if(Hf.get b).isSome then none else H.get b,by
  obtain⟨N,h⟩:=H.fin
  obtain⟨N',h'⟩:=H'.fin
  exact⟨N+N',fun c hc=>by simp[h c (by omega),h' c (by omega)]⟩⟩
@[simp] theorem Bu(b:Nat):aj.empty.get b=none:=rfl
theorem aK(H:aj)(b:Nat)(o:cz)(c:Nat):(H.set b o).get c=if c=b then some o else H.get c:=rfl
@[simp] theorem ai(H:aj)(b:Nat)(o:cz):(H.set b o).get b=some o:=by simp[aK]
theorem ae(H:aj){b c:Nat}(o:cz)(h:c≠b):(H.set b o).get c=H.get c:=by simp[aK,h]
theorem bz(H Hf H':aj)(b:Nat):
 (H.swap Hf H').get b=if(H'.get b).isSome then H'.get b else if(Hf.get b).isSome then none else H.get b:=rfl
def aj.sub(H H':aj):Prop:=∀b o,H.get b=some o->H'.get b=some o
theorem aj.sub_refl(H:aj):H.sub H:=fun _ _ h=>h
theorem aj.sub_empty(H:aj):aj.empty.sub H:=fun _ _ h=>by simp at h
theorem aj.exists_free(H:aj):∃b,H.get b=none:=let⟨N,h⟩:=H.fin;⟨N,h N (aA _)⟩
theorem jy(H:aj):H.swap .empty .empty=H:=by
 ext b;simp[bz]
structure gF(M:bF)(es:List MapEntry)(f:ByteArray->Option AC):Prop where
 keys:∀e∈es,∃k,e.key=.string k
 nodup:es.Pairwise fun e e'=>e.key≠e'.key
 no:∀k,f k=none->∀e∈es,e.key≠.string k
 yes:∀k x,f k=some x->∃e∈es,e.key=.string k/\Rep M x e.val
theorem gF.mono{M M':bF}{es:List MapEntry}{f:ByteArray->Option AC}(h:gF M es f)(hle:M.le M'):gF M' es f:=
 ⟨h.keys,h.nodup,h.no,fun k x e=>let⟨a,b,c,d⟩:=h.yes k x e;⟨a,b,c,d.mono hle⟩⟩
def gY(M:bF)(w:World)(b:Nat):cz->Prop
 |.cells cs=>∃vs el,w.heap[b]?=some (.cells vs el (0,0))/\(∀x∈cs,x.one=true)/\cs.length=vs.size/\
  (∀(j:Nat) x v,cs[j]?=some x->vs[j]?=some v->Rep M x v)/\∀o,M b o=none
 |.tail n m=>∃vs el,w.heap[b]?=some (.cells vs el (0,0))/\vs.size=m/\n<=m/\∀o,n<=o->M b o=none
 |.typed t cs=>∃vs,w.heap[b]?=some (.cells vs t (0,0))/\cs.length=vs.size/\
  (∀(j:Nat) x v,cs[j]?=some x->vs[j]?=some v->Rep M x v)/\∀o,M b o=none
 |.map f=>∃es clock,w.heap[b]?=some (.map es clock)/\gF M es.toList f/\∀o,M b o=none
 |.const o cs=>w.heap[b]?=some o/\∃vs:Nat->Value,(∀x∈cs,x.one=true)/\(∀j,j<cs.length->M b j=some (vs j))/\∀j x,cs[j]?=some x->Rep M x (vs j)
structure Sim(M:bF)(H:aj)(w:World):Prop where
 mem:∀b o v,M b o=some v->w.cell? ⟨b,o,none⟩=some v
 obj:∀b h,H.get b=some h->gY M w b h
theorem eo(w:World)(b o:Nat):w.cell? ⟨b,o,none⟩=match w.heap[b]? with|some (.cells c _ _)=>c[o]?|_=>none:=by
 simp only[World.cell?];split<;>simp_all
theorem Sim.lt{M:bF}{H:aj}{w:World}(s:Sim M H w){b:Nat}{h:cz}(hb:H.get b=some h):b<w.heap.size:=by
 have:=s.obj b h hb
 rcases Nat.lt_or_ge b w.heap.size with hl|hl
 ·exact hl
 ·cases h<;>simp[gY,Array.getElem?_eq_none hl]at this
theorem Sim.mem_lt{M:bF}{H:aj}{w:World}(s:Sim M H w){b o:Nat}{v:Value}(hb:M b o=some v):b<w.heap.size:=by
 have:=s.mem b o v hb
 rcases Nat.lt_or_ge b w.heap.size with hl|hl
 ·exact hl
 ·simp[eo,Array.getElem?_eq_none hl]at this
theorem Sim.sub{M:bF}{H H':aj}{w:World}(s:Sim M H w)(h:H'.sub H):Sim M H' w:=
 ⟨s.mem,fun b o hb=>s.obj b o (h b o hb)⟩
def pJ(w w':World):Prop:=w'.os=w.os/\w'.output=w.output
theorem pJ.trans{a b c:World}(h:pJ a b)(h':pJ b c):pJ a c:=⟨h'.1.trans h.1,h'.2.trans h.2⟩
structure bC(M:bF)(H:aj)(w:World)(M':bF)(H':aj)(w':World):Prop where
 le:M.le M'
 size:w.heap.size<=w'.heap.size
 same:∀b,b<w.heap.size->H.get b=none->w'.heap[b]?=w.heap[b]?/\∀o,M' b o=M b o
 fresh:∀b,H'.get b≠none->H.get b≠none\/w.heap.size<=b
 io:pJ w w'
theorem bC.refl(M:bF)(H:aj)(w:World):bC M H w M H w:=
 ⟨bF.le_refl M,aA _,fun _ _ _=>⟨rfl,fun _=>rfl⟩,fun _ h=>.inl h,rfl,rfl⟩
theorem bC.trans{M M₁ M₂:bF}{H H₁ H₂:aj}{w w₁ w₂:World}(t:bC M H w M₁ H₁ w₁)(u:bC M₁ H₁ w₁ M₂ H₂ w₂):
 bC M H w M₂ H₂ w₂:=by
 refine⟨bF.le_trans t.le u.le,cg t.size u.size,fun b hb hn=>?_,fun b hb=>?_,t.io.trans u.io⟩
 ·obtain⟨e,m⟩:=t.same b hb hn
  have hn₁:H₁.get b=none:=by
   rcases bV (H₁.get b)with h|⟨o,h⟩
   ·exact h
   ·rcases t.fresh b (by simp[h])with h'|h'
    ·exact absurd hn h'
    ·omega
  obtain⟨e',m'⟩:=u.same b (Nat.lt_of_lt_of_le hb t.size) hn₁
  exact⟨e'.trans e,fun o=>(m' o).trans (m o)⟩
 ·rcases u.fresh b hb with h|h
  ·exact t.fresh b h
  ·exact .inr (cg t.size h)
theorem bC.weaken{M M':bF}{H H' H'':aj}{w w':World}(t:bC M H w M' H' w')(h:H''.sub H'):bC M H w M' H'' w':=
 ⟨t.le,t.size,t.same,fun b hb=>t.fresh b (by
  obtain⟨o,ho⟩:=aI.1 hb
  simp[h b o ho]),t.io⟩
theorem Sim.frame{M M':bF}{H Hf H':aj}{w w':World}(s:Sim M H w)(hf:Hf.sub H)(s':Sim M' H' w')(t:bC M Hf w M' H' w'):
 Sim M' (H.swap Hf H') w'/\bC M H w M' (H.swap Hf H') w':=by
 have out:∀b o,H.get b=some o->Hf.get b=none->H'.get b=none->gY M' w' b o:=by
  intro b o hb hn hn'
  have hlt:=s.lt hb
  obtain⟨e,m⟩:=t.same b hlt hn
  have:=s.obj b o hb
  cases o with
  |cells cs=>
   obtain⟨vs,el,h1,h2,h3,h4,h5⟩:=this
   exact⟨vs,el,e.trans h1,h2,h3,fun j x v hx hv=>(h4 j x v hx hv).mono t.le,fun o=>(m o).trans (h5 o)⟩
  |tail n m'=>
   obtain⟨vs,el,h1,h3,h4,h5⟩:=this
   exact⟨vs,el,e.trans h1,h3,h4,fun o ho=>(m o).trans (h5 o ho)⟩
  |typed ty cs=>
   obtain⟨vs,h1,h3,h4,h5⟩:=this
   exact⟨vs,e.trans h1,h3,fun j x v hx hv=>(h4 j x v hx hv).mono t.le,fun o=>(m o).trans (h5 o)⟩
  |map f=>
   obtain⟨es,cl,h1,h2,h3⟩:=this
   exact⟨es,cl,e.trans h1,h2.mono t.le,fun o=>(m o).trans (h3 o)⟩
  |const ob cs=>
   obtain⟨h1,vs,h2,h3,h4⟩:=this
   exact⟨e.trans h1,vs,h2,fun j hj=>(m j).trans (h3 j hj),fun j x hx=>(h4 j x hx).mono t.le⟩
 refine⟨⟨s'.mem,fun b o hb=>?_⟩,⟨t.le,t.size,fun b hb hn=>t.same b hb ?_,fun b hb=>?_,t.io⟩⟩
 ·rw[bz]at hb
  split at hb
  ·exact s'.obj b o hb
  ·rename_i h
   split at hb
   ·simp at hb
   ·rename_i h'
    exact out b o hb (by simpa using h') (by simpa using h)
 ·rcases bV (Hf.get b)with h|⟨o,h⟩
  ·exact h
  ·rw[hf b o h]at hn;simp at hn
 ·rw[bz]at hb
  split at hb
  ·rcases t.fresh b hb with h|h
   ·obtain⟨o,ho⟩:=aI.1 h
    exact .inl (by simp[hf b o ho])
   ·exact .inr h
  ·split at hb
   ·simp at hb
   ·exact .inl hb
def mV(x:AC)(H:aj)(y:AC)(H':aj):Prop:=
 ∀M w v,Sim M H w->Rep M x v->∃M',Sim M' H' w/\bC M H w M' H' w/\Rep M' y v
theorem mV.of{x y:AC}{H H':aj}(h:Le x y)(hs:H'.sub H):mV x H y H':=
 fun M w v s r=>⟨M,s.sub hs,(bC.refl M H w).weaken hs,h M v r⟩
theorem mV.refl(x:AC)(H:aj):mV x H x H:=.of (.refl x) H.sub_refl
theorem mV.trans{x y z:AC}{H H₁ H₂:aj}(h:mV x H y H₁)(h':mV y H₁ z H₂):mV x H z H₂:=by
 intro M w v s r
 obtain⟨M₁,s₁,t₁,r₁⟩:=h M w v s r
 obtain⟨M₂,s₂,t₂,r₂⟩:=h' M₁ w v s₁ r₁
 exact⟨M₂,s₂,t₁.trans t₂,r₂⟩
def gP(M:bF)(xs:List AC)(vs:List Value):Prop:=xs.length=vs.length/\∀(j:Nat) x v,xs[j]?=some x->vs[j]?=some v->Rep M x v
theorem gP.nil(M:bF):gP M [] []:=⟨rfl,by simp⟩
theorem gP.cons{M:bF}{x:AC}{v:Value}{xs vs}(h:Rep M x v)(hs:gP M xs vs):gP M (x::xs) (v::vs):=by
 refine⟨by simp[hs.1],fun j y u hy hu=>?_⟩
 cases j with
 |zero=>simp at hy hu;subst hy hu;exact h
 |succ j=>exact hs.2 j y u (by simpa using hy) (by simpa using hu)
def ACalls(P:Program)(f:FuncId)(xs:List AC)(H:aj)(R:AC->aj->Prop):Prop:=
 ∀(M:bF) (w:World) (vs:List Value),Sim M H w->gP M xs vs->
  Calls P f vs.toArray w fun e w'=>∃r v M' H',e=.returned v/\Rep M' r v/\Sim M' H' w'/\bC M H w M' H' w'/\R r H'
theorem ACalls.mono{P:Program}{f:FuncId}{xs:List AC}{H:aj}{R R':AC->aj->Prop}(h:ACalls P f xs H R)
(hr:∀r H',R r H'->R' r H'):ACalls P f xs H R':=
 fun M w vs s r=>(h M w vs s r).mono fun _ _ ⟨x,v,M',H',a,b,c,d,e⟩=>⟨x,v,M',H',a,b,c,d,hr _ _ e⟩
abbrev Env:=Nat->AC
def Env.put(E:Env)(d:Option Nat)(x:AC):Env:=match d with
 |some d=>fun n=>if n=d then x else E n
 |none=>E
inductive aG where
 |slot(n:Nat)
 |const(v:Value)
 |func(f:FuncId)
 |aggc(vs:List Value)
 |glob(g:Nat)
 deriving Inhabited
def aG.ev(E:Env):aG->AC
 |.slot n=>E n
 |.const v=>.lit v
 |.aggc vs=>.agg (vs.map .lit)
 |.func f=>.fn (.func f) [] []
 |.glob g=>.ptr g 0
def sW:Value->Bool
 |.int k n=>k.min<=n&&n<=k.max
 |.string s=>s.size<=LIM
 |.agg _|.tuple _=>false
 |_=>true
def AC.cells?:AC->Option (List AC)
 |.agg cs=>some cs
 |.junk|.tup _=>none
 |.lit (.agg _)|.lit (.tuple _)=>none
 |x=>some [x]
def bx{α:Type}(cs:List α)(off:Nat)(xs:List α):List α:=cs.take off++xs++cs.drop (off+xs.length)
inductive POp where
 |move(x:aG)
 |pick(c a b:aG)
 |build(zero:List Value)(parts:List (Nat×Nat×aG))
 |field(off:Nat)(agg:Option Nat)(x:aG)
 |fieldAddr(off:Nat)(x:aG)
 |indexAddr(sz:Nat)(x i:aG)
 |strIndex(x i:aG)
 |extract(x:aG)(i:Nat)
 |lenSl(x:aG)
 |lenStr(x:aG)
 |bin(op:BinOp)(x y:aG)
 |eqBool(neq:Bool)(x y:aG)
 |not(x:aG)
 |neg(x:aG)
 |conv(k:IntKind)(x:aG)
 |convStr(x:aG)
 |slice(sz:Nat)(x:aG)(lo hi:Option aG)
 |strSlice(x:aG)(lo hi:Option aG)
 |mkIface(t:TypeId)(x:aG)
 |nilCheck(x:aG)
 |isNil(neg:Bool)(x:aG)
 |assertT(t:TypeId)(zero:aG)(x:aG)
 |isNil0(k:Value)(neg:Bool)(x:aG)
 |minI(x y:aG)
 |mkFn(f:FuncId)(zas cs:List aG)
 |assert1(t:TypeId)(x:aG)
 deriving Inhabited
def qv:Value->AC->Option Bool
 |.nilFunc,.lit .nilFunc=>some true
 |.nilFunc,.fn _ _ _=>some false
 |.map none,.lit (.map none)=>some true
 |.map none,.mp _=>some false
 |.slice none 0 0,.lit (.slice none _ _)=>some true
 |.slice none 0 0,.lit (.slice (some _) _ _)=>some false
 |.slice none 0 0,.sl _ _ (_::_)=>some false
 |_,_=>none
def nu(op:BinOp)(a b:ByteArray):Option AC:=
 match op with
 |.add=>if a.size+b.size<=LIM then some (.lit (.string (a++b)))else none
 |.eql=>some (.lit (.bool (a.toList==b.toList)))
 |.neq=>some (.lit (.bool !(a.toList==b.toList)))
 |.lss=>some (.lit (.bool (Op.bytesLess a.toList b.toList)))
 |.leq=>some (.lit (.bool (Op.bytesLess a.toList b.toList||a.toList==b.toList)))
 |.gtr=>some (.lit (.bool !(Op.bytesLess a.toList b.toList||a.toList==b.toList)))
 |.geq=>some (.lit (.bool !(Op.bytesLess a.toList b.toList)))
 |_=>none
def to(op:BinOp)(k:IntKind)(a b:Int):Option AC:=
 match op with
 |.add=>some (.lit (.int k (k.wrap (a+b))))
 |.sub=>some (.lit (.int k (k.wrap (a - b))))
 |.mul=>some (.lit (.int k (k.wrap (a*b))))
 |.quo=>if b=0 then none else some (.lit (.int k (k.wrap (a.tdiv b))))
 |.rem=>if b=0 then none else some (.lit (.int k (k.wrap (a.tmod b))))
 |.eql=>some (.lit (.bool (a==b)))
 |.neq=>some (.lit (.bool (a !=b)))
 |.lss=>some (.lit (.bool (a<b)))
 |.leq=>some (.lit (.bool (a<=b)))
 |.gtr=>some (.lit (.bool (a>b)))
 |.geq=>some (.lit (.bool (a>=b)))
 |.xor=>some (.lit (.int k (k.wrap (BitVec.ofInt k.bits a^^^BitVec.ofInt k.bits b).toNat)))
 |_=>none
def gX:List AC->List (Nat×Nat×AC)->Option (List AC)
 |cs,[]=>some cs
 |cs,(off,n,x)::r=>
  match x.cells? with
  |some xs=>if xs.length=n/\off+n<=cs.length then gX (bx cs off xs) r else none
  |none=>none
def l9(E:aG->AC):Option aG->Option Nat
 |none=>some 0
 |some x=>match E x with
  |.lit (.int .i64 i)=>if 0<=i then some i.toNat else none
  |_=>none
def lA(E:aG->AC)(len:Nat):Option aG->Option Nat
 |none=>some len
 |some x=>match E x with
  |.lit (.int .i64 i)=>if 0<=i then some i.toNat else none
  |_=>none
def fH(g:Option Nat)(cs:List AC)(off:Nat):Option AC:=match g with
 |none=>cs[off]?
 |some n=>if off+n<=cs.length then some (.agg ((cs.drop off).take n))else none
def POp.val(E:aG->AC):POp->Option AC
 |.move x=>some (E x)
 |.pick c a b=>match E c with
  |.lit (.bool t)=>some (if t then E a else E b)
  |_=>none
 |.build zero parts=>(gX (zero.map .lit) (parts.map fun p=>(p.1,p.2.1,E p.2.2))).map .agg
 |.field off g x=>match E x with
  |.agg cs=>fH g cs off
  |_=>none
 |.fieldAddr off x=>match E x with
  |.ptr r o=>some (.ptr r (o+off))
  |.elt cs=>some (.elt (cs.drop off))
  |_=>none
 |.indexAddr sz x i=>match E x,E i with
  |.sl sz' _ es,.lit (.int _ n)=>if sz=sz'/\0<=n then(es[n.toNat]?).map .elt else none
  |.lit (.slice (some ⟨b,o,none⟩) l _),.lit (.int _ n)=>if 0<=n/\n<l then some (.ptr b (o+n.toNat*sz))else none
  |_,_=>none
 |.strIndex x i=>match E x,E i with
  |.lit (.string s),.lit (.int _ n)=>if 0<=n then(s[n.toNat]?).map fun b=>.lit (.int .u8 b.toNat)else none
  |_,_=>none
 |.extract x i=>match E x with
  |.tup vs=>vs[i]?
  |_=>none
 |.lenSl x=>match E x with
  |.sl _ _ es=>some (.lit (.int .i64 es.length))
  |.lit (.slice none 0 0)=>some (.lit (.int .i64 0))
  |.lit (.slice (some ⟨_,_,none⟩) l _)=>if l<=LIM then some (.lit (.int .i64 l))else none
  |_=>none
 |.lenStr x=>match E x with
  |.lit (.string s)=>some (.lit (.int .i64 s.size))
  |_=>none
 |.bin op x y=>match E x,E y with
  |.lit (.int k a),.lit (.int k' b)=>if k=k' then to op k a b else none
  |.lit (.string a),.lit (.string b)=>nu op a b
  |_,_=>none
 |.eqBool neq x y=>match E x,E y with
  |.lit (.bool a),.lit (.bool b)=>some (.lit (.bool (if neq then !(a==b)else a==b)))
  |_,_=>none
 |.not x=>match E x with
  |.lit (.bool a)=>some (.lit (.bool !a))
  |_=>none
 |.neg x=>match E x with
  |.lit (.int k a)=>some (.lit (.int k (k.wrap (0 - a))))
  |_=>none
 |.conv k x=>match E x with
  |.lit (.int _ a)=>some (.lit (.int k (k.wrap a)))
  |_=>none
 |.convStr x=>match E x with
  |.lit (.string s)=>some (.lit (.string s))
  |_=>none
 |.slice sz x lo hi=>match E x with
  |.sl sz' _ es=>if sz=sz' then
   match l9 E lo,lA E es.length hi with
   |some l,some h=>if l<=h/\h<=es.length then some (.sl sz none ((es.take h).drop l))else none
   |_,_=>none
   else none
  |.lit (.slice none 0 0)=>
   match l9 E lo,lA E 0 hi with
   |some 0,some 0=>some (.lit (.slice none 0 0))
   |_,_=>none
  |.lit (.slice (some ⟨b,o,none⟩) n c)=>
   match l9 E lo,lA E n hi with
   |some 0,some h=>if h<=c/\0<c then some (.lit (.slice (some ⟨b,o,none⟩) h c))else none
   |_,_=>none
  |_=>none
 |.strSlice x lo hi=>match E x with
  |.lit (.string s)=>
   match l9 E lo,lA E s.size hi with
   |some l,some h=>if l<=h/\h<=s.size then some (.lit (.string (s.extract l h)))else none
   |_,_=>none
  |_=>none
 |.mkIface t x=>match E x with
  |.junk|.tup _=>none
  |y=>some (.iface t y)
 |.nilCheck x=>match E x with
  |.ptr r o=>some (.ptr r o)
  |.elt cs=>some (.elt cs)
  |.fn (.func f) a b=>some (.fn (.func f) a b)
  |.iface t y=>some (.iface t y)
  |_=>none
 |.isNil b x=>match E x with
  |.lit .nilIface=>some (.lit (.bool !b))
  |.iface _ _=>some (.lit (.bool b))
  |_=>none
 |.assertT t zero x=>match E x with
  |.iface t' y=>if t'=t then some (.tup [y,.lit (.bool true)])else some (.tup [E zero,.lit (.bool false)])
  |.lit .nilIface=>some (.tup [E zero,.lit (.bool false)])
  |_=>none
 |.isNil0 k ng x=>(qv k (E x)).map fun b=>.lit (.bool (if ng then !b else b))
 |.minI x y=>match E x,E y with
  |.lit (.int k a),.lit (.int k' b)=>if k=k' then some (.lit (.int k (if b<a then b else a)))else none
  |_,_=>none
 |.mkFn f zas cs=>some (.fn (.func f) (zas.map E) (cs.map E))
 |.assert1 t x=>match E x with
  |.iface t' y=>if t'=t then some y else none
  |_=>none
def eF:Operand->Option aG
 |.tmp t=>some (.slot t)
 |.const v=>if sW v then some (.const v)else match v with
  |.agg vs=>if vs.toList.all sW then some (.aggc vs.toList)else none
  |_=>none
 |.func f=>some (.func f)
 |.global g=>some (.glob g)
def jz:List Operand->Option (List aG)
 |[]=>some []
 |x::r=>match eF x,jz r with
  |some a,some r'=>some (a::r')
  |_,_=>none
def wS(P:Program)(t:TypeId):Option (Option Nat):=match P.underlying t,P.info? t with
 |some d,some i=>some (match d with|.struct _|.array _ _=>some i.size|_=>none)
 |_,_=>none
def nY(P:Program)(t:TypeId)(f:Nat):Option Field:=match P.underlying t with
 |some (.struct fs)=>fs[f]?
 |_=>none
def mn(pl:Nat->Option (Nat×Nat)):List (Nat×Operand)->Option (List (Nat×Nat×aG))
 |[]=>some []
 |(i,x)::r=>match pl i,eF x,mn pl r with
  |some q,some a,some r'=>some ((q.1,q.2,a)::r')
  |_,_,_=>none
def xparts(P:Program)(fs:Array Field)(l:List (Nat×Operand)):Option (List (Nat×Nat×aG)):=
 mn (fun i=>(fs[i]?).bind fun f=>(P.info? f.type).map fun inf=>(f.offset,inf.size)) l
def kC:Option Operand->Option (Option aG)
 |none=>some none
 |some o=>(eF o).map some
def r9(P:Program):Op->Option POp
 |.move x|.assign x=>(eF x).map .move
 |.pick c a b=>match eF c,eF a,eF b with
  |some c,some a,some b=>some (.pick c a b)
  |_,_,_=>none
 |.build t parts=>match P.underlying t,P.info? t with
  |some (.struct fs),some inf=>match inf.zero with
   |some (.agg z)=>if z.toList.all sW&&fs.all (fun f=>(P.info? f.type).isSome)then(xparts P fs parts.toList).map (.build z.toList)else none
   |_=>none
  |_,_=>none
 |.field t x f=>match nY P t f,eF x with
  |some fd,some a=>(wS P fd.type).map fun g=>.field fd.offset g a
  |_,_=>none
 |.fieldAddr t x f=>match nY P t f,eF x with
  |some fd,some a=>match P.info? fd.type with
   |some i=>if i.size=0 then none else some (.fieldAddr fd.offset a)
   |none=>none
  |_,_=>none
 |.indexAddr t x i=>match P.underlying t,eF x,eF i with
  |some (.slice e),some a,some b=>(P.info? e).map fun i=>.indexAddr i.size a b
  |_,_,_=>none
 |.index t x i=>match P.underlying t,eF x,eF i with
  |some .string,some a,some b=>some (.strIndex a b)
  |_,_,_=>none
 |.extract x i=>(eF x).map (.extract · i)
 |.binOp op t x y _=>match P.underlying t,eF x,eF y with
  |some .bool,some a,some b=>match op with
   |.eql=>some (.eqBool false a b)
   |.neq=>some (.eqBool true a b)
   |_=>none
  |some (.int _),some a,some b=>some (.bin op a b)
  |some .string,some a,some b=>some (.bin op a b)
  |some (.interface _),some a,some (.const .nilIface)=>match op,y with
   |.eql,.const .nilIface=>some (.isNil false a)
   |.neq,.const .nilIface=>some (.isNil true a)
   |_,_=>none
  |_,_,_=>none
 |.unOp .not _ x=>(eF x).map .not
 |.unOp .neg _ x=>(eF x).map .neg
 |.convert s d x=>match P.underlying s,P.underlying d,eF x with
  |some (.int _),some (.int k),some a=>some (.conv k a)
  |some .string,some .string,some a=>some (.convStr a)
  |_,_,_=>none
 |.slice t x lo hi none=>match P.underlying t,eF x,kC lo,kC hi with
  |some (.slice e),some a,some l,some h=>(P.info? e).map fun i=>.slice i.size a l h
  |some .string,some a,some l,some h=>some (.strSlice a l h)
  |_,_,_,_=>none
 |.makeInterface t x=>match P.underlying t,eF x with
  |some (.interface _),_=>none
  |some _,some a=>some (.mkIface t a)
  |_,_=>none
 |.nilCheck x=>(eF x).map .nilCheck
 |.typeAssert x _ t true=>match P.underlying t,P.info? t,eF x with
  |some (.interface _),_,_=>none
  |some _,some i,some a=>match i.zero with
   |some z=>(eF (.const z)).map fun z=>.assertT t z a
   |none=>none
  |_,_,_=>none
 |.call {callee:=.builtin .len,args,argTypes}=>match args.toList,argTypes.toList with
  |[x],[t]=>match P.underlying t,eF x with
   |some (.slice _),some a=>some (.lenSl a)
   |some .string,some a=>some (.lenStr a)
   |_,_=>none
  |_,_=>none
 |_=>none
def wq:TypeDesc->Value->Bool
 |.func _ _ _,.nilFunc|.map _ _,.map none|.slice _,.slice none 0 0=>true
 |_,_=>false
def qf(P:Program):Op->Option POp
 |.binOp op t x (.const k) _=>match P.underlying t,eF x with
  |some d,some a=>if wq d k then match op with
   |.eql=>some (.isNil0 k false a)
   |.neq=>some (.isNil0 k true a)
   |_=>none
   else none
  |_,_=>none
 |.makeFunc (.func f) zas cs=>match jz zas.toList,jz cs.toList with
  |some a,some c=>some (.mkFn f a c)
  |_,_=>none
 |.call {callee:=.builtin .min,args,..}=>match args.toList with
  |[x,y]=>match eF x,eF y with
   |some a,some b=>some (.minI a b)
   |_,_=>none
  |_=>none
 |.typeAssert x _ t false=>match P.underlying t,eF x with
  |some (.interface _),_=>none
  |some _,some a=>some (.assert1 t a)
  |_,_=>none
 |_=>none
def x9(P:Program)(op:Op):Option POp:=match r9 P op with
 |some p=>some p
 |none=>qf P op
theorem Rep.lit_inv{M:bF}{v u:Value}(h:Rep M (.lit v) u):u=v/\okv v:=by cases h;exact⟨rfl,by assumption⟩
theorem Rep.ptr_inv{M:bF}{r o:Nat}{u:Value}(h:Rep M (.ptr r o) u):u=.pointer (some ⟨r,o,none⟩):=by cases h;rfl
theorem Rep.tup_inv{M:bF}{cs:List AC}{u:Value}(h:Rep M (.tup cs) u):
 ∃vs,u=.tuple vs/\cs.length=vs.size/\(∀(j:Nat) x v,cs[j]?=some x->vs[j]?=some v->Rep M x v):=by
 cases h;exact⟨_,rfl,by assumption,by assumption⟩
theorem Rep.agg_inv{M:bF}{cs:List AC}{u:Value}(h:Rep M (.agg cs) u):
 ∃vs,u=.agg vs/\cs.length=vs.size/\(∀(j:Nat) x v,cs[j]?=some x->vs[j]?=some v->Rep M x v)/\∀x∈cs,x.one=true:=by
 cases h;exact⟨_,rfl,by assumption,by assumption,by assumption⟩
theorem Rep.sl_inv{M:bF}{sz:Nat}{tok:Option (Nat×Nat×Nat)}{es:List (List AC)}{u:Value}(h:Rep M (.sl sz tok es) u):
 ∃a cap,u=.slice a es.length cap/\es.length<=LIM/\(a=none->es=[]/\tok=none):=by
 cases h with
 |sl0=>exact⟨_,_,rfl,by simp,by simp⟩
 |sl vs hl hc hs hm hr ht=>exact⟨_,_,rfl,hl,by simp⟩
theorem jJ{v:Value}(h:sW v=true):okv v:=by
 cases v<;>simp_all [sW,okv]
theorem xV{x:Operand}{xa:aG}(h:eF x=some xa){a:Act}{M:bF}{E:Env}(hE:∀n,Rep M (E n) (a.tmps.getD n undef)):
 Rep M (xa.ev E) (a.eval x):=by
 cases x with
 |tmp t=>simp[eF]at h;subst h;exact hE t
 |const v=>
  simp only[eF]at h
  split at h
  ·simp at h;subst h;exact .lit (jJ (by assumption))
  ·split at h
   ·rename_i vs
    split at h
    ·rename_i hc
     simp at h;subst h
     refine .agg (by simp[AC.one]) (by simp) fun j x v hx hv=>?_
     simp only[co,a7]at hx
     obtain⟨u,hu,rfl⟩:=hx
     rw[dy]at hu
     rw[hu]at hv;simp at hv;subst hv
     exact .lit (jJ (aS.1 hc u (aY (by rw[dy];exact hu))))
    ·simp at h
   ·simp at h
 |func f=>simp[eF]at h;subst h;exact .fn rfl (by simp) rfl (by simp)
 |global g=>simp[eF]at h;subst h;exact .ptr
theorem nK{M:bF}{x:AC}{v:Value}{cs:List AC}(h:Rep M x v)(hc:x.cells?=some cs):
 cs.length=v.cells.size/\(∀(j:Nat) y u,cs[j]?=some y->v.cells[j]?=some u->Rep M y u)/\∀x∈cs,x.one=true:=by
 cases h with
 |agg h1 hl hr=>simp[AC.cells?]at hc;subst hc;exact⟨hl,hr,h1⟩
 |junk=>simp[AC.cells?]at hc
 |tup=>simp[AC.cells?]at hc
 |lit hk=>
  have hne:AC.cells? (.lit v)=some [.lit v]:=by cases v<;>simp_all [AC.cells?]
  rw[hne]at hc;simp at hc;subst hc
  have hv:v.cells=#[v]:=by cases v<;>simp_all [AC.cells?,Value.cells]
  rw[hv]
  refine⟨by simp,fun j y u hy hu=>?_,by simp[AC.one]⟩
  cases j with
  |zero=>simp at hy hu;subst hy hu;exact .lit hk
  |succ j=>simp at hy
 |sl0=>
  simp[AC.cells?]at hc;subst hc
  refine⟨rfl,fun j y u hy hu=>?_,by simp[AC.one]⟩
  cases j with
  |zero=>simp[Value.cells]at hy hu;subst hy hu;exact .sl0
  |succ j=>simp at hy
 |sl vs a b c d e f=>
  simp[AC.cells?]at hc;subst hc
  refine⟨rfl,fun j y u hy hu=>?_,by simp[AC.one]⟩
  cases j with
  |zero=>simp[Value.cells]at hy hu;subst hy hu;exact .sl vs a b c d e f
  |succ j=>simp at hy
 |ptr=>
  simp[AC.cells?]at hc;subst hc
  refine⟨rfl,fun j y u hy hu=>?_,by simp[AC.one]⟩
  cases j with
  |zero=>simp[Value.cells]at hy hu;subst hy hu;exact .ptr
  |succ j=>simp at hy
 |elt vs a b c=>
  simp[AC.cells?]at hc;subst hc
  refine⟨rfl,fun j y u hy hu=>?_,by simp[AC.one]⟩
  cases j with
  |zero=>simp[Value.cells]at hy hu;subst hy hu;exact .elt vs a b c
  |succ j=>simp at hy
 |iface a=>
  simp[AC.cells?]at hc;subst hc
  refine⟨rfl,fun j y u hy hu=>?_,by simp[AC.one]⟩
  cases j with
  |zero=>simp[Value.cells]at hy hu;subst hy hu;exact .iface a
  |succ j=>simp at hy
 |fn a b c d=>
  simp[AC.cells?]at hc;subst hc
  refine⟨rfl,fun j y u hy hu=>?_,by simp[AC.one]⟩
  cases j with
  |zero=>simp[Value.cells]at hy hu;subst hy hu;exact .fn a b c d
  |succ j=>simp at hy
 |mp=>
  simp[AC.cells?]at hc;subst hc
  refine⟨rfl,fun j y u hy hu=>?_,by simp[AC.one]⟩
  cases j with
  |zero=>simp[Value.cells]at hy hu;subst hy hu;exact .mp
  |succ j=>simp at hy
theorem nk(k:IntKind)(n:Int):k.min<=k.wrap n/\k.wrap n<=k.max:=by
 cases k<;>simp[IntKind.min,IntKind.max,IntKind.wrap,IntKind.bits,IntKind.signed]<;>(try split)<;>omega
theorem xh(k:IntKind)(n:Int)(h:k.min<=n)(h':n<=k.max):k.wrap n=n:=by
 cases k<;>simp[IntKind.min,IntKind.max,IntKind.wrap,IntKind.bits,IntKind.signed]at*<;>(try split)<;>omega
theorem vM(k:IntKind)(a b:Int)(ha:k.min<=a)(ha':a<=k.max):k.min<=a.tmod b/\a.tmod b<=k.max:=by
 have h0:k.min<=0:=by cases k<;>simp[IntKind.min,IntKind.bits,IntKind.signed]
 have h1:0<=k.max:=by cases k<;>simp[IntKind.max,IntKind.bits,IntKind.signed]
 have hn:(a.tmod b).natAbs<=a.natAbs:=by rw[Int.natAbs_tmod];exact Nat.mod_le _ _
 rcases Int.le_total 0 a with h|h
 ·have e:=Int.tmod_nonneg b h
  omega
 ·have hn':(-a).tmod b=-(a.tmod b):=Int.neg_tmod ..
  have e:=Int.tmod_nonneg b (show 0<=-a by omega)
  omega
section
variable {P:Program}{w:World}{M:bF}
theorem oj{op:BinOp}{t:TypeId}{k:IntKind}{a b:Int}{r:AC}(h:to op k a b=some r)(ha:okv (.int k a))(hb:okv (.int k b)):
 ∃v,(binOp op t (.int k a) (.int k b)).run P w=.ok v w/\Rep M r v:=by
 have W:=fun n=>nk k n
 simp only[okv]at ha hb
 cases op<;>simp only[to]at h
 case quo=>
  split at h
  ·simp at h
  ·rename_i hz
   simp only[Option.some.injEq]at h;subst h
   exact⟨_,by simp[go_sem,binOp,hz],.lit (W _)⟩
 case rem=>
  split at h
  ·simp at h
  ·rename_i hz
   simp only[Option.some.injEq]at h;subst h
   have hr:=vM k a b ha.1 ha.2
   rw[xh k _ hr.1 hr.2]
   exact⟨_,by simp[go_sem,binOp,hz],.lit hr⟩
 case xor=>
  simp only[Option.some.injEq]at h;subst h
  exact⟨_,by simp only[binOp,Op.intBits,ne_eq,not_true,if_false];rfl,.lit (W _)⟩
 all_goals first
  |(simp only[Option.some.injEq]at h;subst h;first
   |exact⟨_,by simp[go_sem,binOp,Op.intArith],.lit (W _)⟩
   |exact⟨_,by simp[go_sem,binOp,Op.intCmp],.lit trivial⟩)
  |simp at h
theorem nZ{op:BinOp}{t:TypeId}{a b:ByteArray}{r:AC}(h:nu op a b=some r):
 ∃v,(binOp op t (.string a) (.string b)).run P w=.ok v w/\Rep M r v:=by
 cases op<;>simp only[nu]at h
 case add=>
  split at h
  ·rename_i hz
   simp only[Option.some.injEq]at h;subst h
   refine⟨_,?_,.lit (v:=.string (a++b)) ?_⟩
   ·have:¬((a.size+b.size:Nat):Int)>IntKind.i64.max:=by
     have:LIM=2^40:=rfl
     simp only[IntKind.max_i64];omega
    simp only[binOp,Op.stringOp,this,if_false];rfl
   ·simpa[okv,ByteArray.size_append]using hz
  ·simp at h
 all_goals first
  |(simp only[Option.some.injEq]at h;subst h;exact⟨_,rfl,.lit trivial⟩)
  |simp at h
theorem rD(z:List Value)(h:z.all sW=true):∀(j:Nat) x v,(z.map AC.lit)[j]?=some x->z[j]?=some v->Rep M x v:=by
 intro j x v hx hv
 simp only[co,hv,bW,Option.some.injEq]at hx
 subst hx
 exact .lit (jJ (aS.1 h v (aY hv)))
theorem vk{E:aG->AC}{ρ:Operand->Value}(hE:∀x xa,eF x=some xa->Rep M (E xa) (ρ x)){lo:Option Operand}{la:Option aG}
(hl:kC lo=some la){l y:Nat}(h:l9 E la=some l)(hy:l<=y)(c:BoundsCode):
 (match lo.map ρ with|some v=>Instr.sliceBound v y c|none=>pure 0).run P w=.ok l w:=by
 cases lo with
 |none=>simp[kC]at hl;subst hl;simp[l9]at h;subst h;rfl
 |some x=>
  simp only[kC,a7]at hl
  obtain⟨xa,hxa,rfl⟩:=hl
  have hr:=hE x xa hxa
  simp only[l9]at h
  split at h
  ·rename_i i he
   split at h
   ·rename_i h0
    simp at h
    rw[he]at hr
    obtain⟨e,-⟩:=hr.lit_inv
    simp only[bW,e,Instr.sliceBound,asIntOf]
    have:0<=i/\i<=y:=by omega
    simp[this,h]
   ·simp at h
  ·simp at h
theorem vm{E:aG->AC}{ρ:Operand->Value}(hE:∀x xa,eF x=some xa->Rep M (E xa) (ρ x)){hi:Option Operand}{ha:Option aG}
(hl:kC hi=some ha){len l y:Nat}(h:lA E len ha=some l)(hy:l<=y)(c:BoundsCode):
 (match hi.map ρ with|some v=>Instr.sliceBound v y c|none=>pure len).run P w=.ok l w:=by
 cases hi with
 |none=>simp[kC]at hl;subst hl;simp[lA]at h;subst h;rfl
 |some x=>
  simp only[kC,a7]at hl
  obtain⟨xa,hxa,rfl⟩:=hl
  have hr:=hE x xa hxa
  simp only[lA]at h
  split at h
  ·rename_i i he
   split at h
   ·rename_i h0
    simp at h
    rw[he]at hr
    obtain⟨e,-⟩:=hr.lit_inv
    simp only[bW,e,Instr.sliceBound,asIntOf]
    have:0<=i/\i<=y:=by omega
    simp[this,h]
   ·simp at h
  ·simp at h
theorem fu{E:aG->AC}{ρ:Operand->Value}(hE:∀x xa,eF x=some xa->Rep M (E xa) (ρ x)){lo hi:Option Operand}{la ha:Option aG}
(hlo:kC lo=some la)(hhi:kC hi=some ha){l h len cap:Nat}(el:l9 E la=some l)(eh:lA E len ha=some h)(h1:l<=h)(h2:h<=cap)(b:Bool):
 (Instr.sliceBounds b len cap (lo.map ρ) (hi.map ρ) none).run P w=.ok (l,h,cap) w:=by
 have a1:=vk (P:=P) (w:=w) hE hlo el h1 .sliceB
 have a2:=vm (P:=P) (w:=w) hE hhi eh h2 (if b then .sliceAcap else .sliceAlen)
 unfold Instr.sliceBounds
 cases hh:hi.map ρ with
 |none=>
  simp only[hh]at a2
  cases hl:lo.map ρ with
  |none=>simp only[hl]at a1;simp_all
  |some v=>simp only[hl]at a1;simp_all
 |some u=>
  simp only[hh]at a2
  cases hl:lo.map ρ with
  |none=>simp only[hl]at a1;simp_all
  |some v=>simp only[hl]at a1;simp_all
end
section
variable {P:Program}{w:World}{M:bF}
theorem nw{cs xs:List AC}{vs us:List Value}{off:Nat}(hl:cs.length=vs.length)(hx:xs.length=us.length)
(hr:∀(j:Nat) x v,cs[j]?=some x->vs[j]?=some v->Rep M x v)(hr':∀(j:Nat) x v,xs[j]?=some x->us[j]?=some v->Rep M x v)(ho:off+xs.length<=cs.length):
 ∀(j:Nat) x v,(bx cs off xs)[j]?=some x->(bx vs off us)[j]?=some v->Rep M x v:=by
 intro j x v h1 h2
 simp only[bx]at h1 h2
 by_cases c1:j<off
 ·rw[dU,aO (by simp;omega),dq c1]at h1 h2
  exact hr j x v h1 h2
 ·by_cases c2:j<off+xs.length
  ·rw[aO (by simp;omega),be (by simp;omega)]at h1 h2
   simp only[bI,eC (show off<=cs.length by omega),eC (show off<=vs.length by omega)]at h1 h2
   exact hr' _ x v h1 h2
  ·rw[be (by simp;omega)]at h1 h2
   simp only[bv,bI,eC (show off<=cs.length by omega),eC (show off<=vs.length by omega),bU,hx]at h1 h2
   exact hr _ x v h1 h2
theorem nv{α:Type}{cs xs:List α}{off:Nat}{p:α->Prop}(h:∀x∈cs,p x)(h':∀x∈xs,p x):∀x∈bx cs off xs,p x:=by
 intro x hx
 simp only[bx,aE]at hx
 rcases hx with(hx|hx)|hx
 ·exact h x (cP hx)
 ·exact h' x hx
 ·exact h x (fL hx)
theorem eZ{α:Type}(cs xs:List α)(off:Nat)(h:off+xs.length<=cs.length):(bx cs off xs).length=cs.length:=by
 simp[bx];omega
theorem yF(v:List Value)(off:Nat):∀(k:Nat) (cs:Array Value),off+k+v.length<=cs.size->
 ((v.zipIdx k).foldl (fun cs (x:Value×Nat)=>cs.setIfInBounds (off+x.2) x.1) cs).toList=bx cs.toList (off+k) v:=by
 induction v with
 |nil=>intro k cs h;simp[bx]
 |cons x v ih=>
  intro k cs h
  simp only[List.zipIdx_cons,d7]
  rw[ih (k+1) _ (by simp at h⊢;omega)]
  simp only[aR]at h
  simp only[bx,Array.toList_setIfInBounds,aR]
  apply fQ
  intro j
  have hs:off+k<cs.toList.length:=by simp;omega
  by_cases c1:j<off+k
  ·simp[dU,aO,eT,c1,hs,show j<off+(k+1)by omega,show j<min (off+(k+1)) cs.size by omega,show j<min (off+k) cs.size by omega,List.getElem?_set,show ¬off+k=j by omega]
  ·by_cases c2:j=off+k
   ·subst c2
    rw[dU,aO (by simp;omega),dq (by omega),List.getElem?_set_self (by simpa using hs),
     dU,be (by simp;omega)]
    simp[eC (show off+k<=cs.size by omega)]
   ·by_cases c3:j<off+k+1+v.length
    ·rw[aO (by simp;omega),be (by simp;omega),aO (by simp;omega),be (by simp;omega)]
     simp only[bI,List.length_set,kF,eC (show off+(k+1)<=cs.size by omega),eC (show off+k<=cs.size by omega)]
     rw[show j - (off+k)=(j - (off+(k+1)))+1 by omega,aB]
    ·rw[be (by simp;omega),be (by simp;omega)]
     simp only[bv,bI,List.length_set,aR,kF,eC (show off+(k+1)<=cs.size by omega),
      eC (show off+k<=cs.size by omega),bU]
     rw[List.getElem?_set_ne (by omega)]
     congr 1;omega
theorem qM{E:aG->AC}{ρ:Operand->Value}(hE:∀x xa,eF x=some xa->Rep M (E xa) (ρ x)){pl place:Nat->Option (Nat×Nat)}
(hp:∀i q,pl i=some q->place i=some q):
 ∀(parts:List (Nat×Operand)) (xp:List (Nat×Nat×aG)) (cs:List AC) (vs:Array Value) (r:List AC),mn pl parts=some xp->
  cs.length=vs.size->(∀(j:Nat) x v,cs[j]?=some x->vs[j]?=some v->Rep M x v)->(∀x∈cs,x.one=true)->
  gX cs (xp.map fun p=>(p.1,p.2.1,E p.2.2))=some r->
  ∃us,Instr.fill place vs (parts.map fun p=>(p.1,ρ p.2))=some us/\r.length=us.size/\(∀(j:Nat) x v,r[j]?=some x->us[j]?=some v->Rep M x v)/\∀x∈r,x.one=true:=by
 intro parts
 induction parts with
 |nil=>
  intro xp cs vs r hx hl hr h1 hb
  simp[mn]at hx;subst hx
  simp[gX]at hb;subst hb
  exact⟨vs,rfl,hl,hr,h1⟩
 |cons p parts ih=>
  intro xp cs vs r hx hl hr hone hb
  obtain⟨i,x⟩:=p
  simp only[mn]at hx
  split at hx
  ·rename_i q a r' hq ha hr'
   simp at hx;subst hx
   simp only[aU,gX]at hb
   split at hb
   ·rename_i xs hxs
    split at hb
    ·rename_i hc
     obtain⟨hc1,hc2⟩:=hc
     have hrep:=hE x a ha
     obtain⟨cl,cr,c1⟩:=nK hrep hxs
     have e:=yF (ρ x).cells.toList q.1 0 vs (by simp;omega)
     obtain⟨us,h1,h2,h3⟩:=ih r' (bx cs q.1 xs) ((ρ x).cells.zipIdx.foldl (fun cs (c,j)=>cs.setIfInBounds (q.1+j) c) vs) r hr'
      (by
       rw[eZ _ _ _ (by omega),hl,<-kF (xs:=Array.foldl _ _ _),<-Array.foldl_toList]
       simp only[Array.toList_zipIdx]
       rw[e,eZ _ _ _ (by simp;omega),kF])
      (by
       intro j y u hy hu
       rw[<-dy,<-Array.foldl_toList,Array.toList_zipIdx,e]at hu
       refine nw (vs:=vs.toList) (us:=(ρ x).cells.toList) (by simpa using hl) (by simpa using cl) ?_ ?_ (by omega) j y u hy hu
       ·intro j x v hx hv;exact hr j x v hx (by simpa using hv)
       ·intro j x v hx hv;exact cr j x v hx (by simpa using hv))
      (nv hone c1) hb
     refine⟨us,?_,h2,h3⟩
     simp only[aU,Instr.fill,hp i q hq]
     have:¬((ρ x).cells.size≠q.2||decide (q.1+(ρ x).cells.size>vs.size))=true:=by simp;omega
     rw[if_neg (by simpa using this)]
     exact h1
    ·simp at hb
   ·simp at hb
  ·simp at hx
theorem u7(fs:Array Field)(h:fs.all (fun f=>(P.info? f.type).isSome)=true):
 ∃ps:Array (Nat×Nat),(fs.mapM (m:=Sem) fun(f:Field)=>do pure (f.offset,<-sizeOf f.type)).run P w=.ok ps w/\
  ∀(i:Nat) (f:Field) inf,fs[i]?=some f->P.info? f.type=some inf->ps[i]?=some (f.offset,inf.size):=by
 rw[Array.mapM_eq_mapM_toList]
 have key:∀l:List Field,(∀f∈l,(P.info? f.type).isSome=true)->
  ∃ps:List (Nat×Nat),(l.mapM (m:=Sem) fun(f:Field)=>do pure (f.offset,<-sizeOf f.type)).run P w=.ok ps w/\
   ∀(i:Nat) (f:Field) inf,l[i]?=some f->P.info? f.type=some inf->ps[i]?=some (f.offset,inf.size):=by
  intro l
  induction l with
  |nil=>intro _;exact⟨[],by simp,by simp⟩
  |cons f l ih=>
   intro hl
   obtain⟨ps,h1,h2⟩:=ih fun g hg=>hl g (by simp[hg])
   obtain⟨inf,hi⟩:=Option.isSome_iff_exists.1 (hl f (by simp))
   refine⟨(f.offset,inf.size)::ps,?_,?_⟩
   ·have hs:(sizeOf f.type).run P w=.ok inf.size w:=by simp[sizeOf,typeInfo,program,hi,Sem.run]
    simp only[List.mapM_cons,Sem.run_bind,hs,h1,Result.andThen_ok,Sem.run_pure]
   ·intro i g inf' hg hi'
    cases i with
    |zero=>simp at hg;subst hg;rw[hi]at hi';simp at hi';subst hi';rfl
    |succ i=>simpa using h2 i g inf' (by simpa using hg) hi'
 obtain⟨ps,h1,h2⟩:=key fs.toList (fun f hf=>(Array.all_eq_true_iff_forall_mem.1 h) f (by simpa using hf))
 refine⟨ps.toArray,?_,fun i f inf hf hi=>?_⟩
 ·rw[Sem.run_map,h1];rfl
 ·simpa using h2 i f inf (by simpa using hf) hi
end
section
variable {P:Program}{w:World}{M:bF}
theorem zm{t:TypeId}{g:Option Nat}(h:wS P t=some g){cs:List AC}{vs:Array Value}{off:Nat}{r:AC}(hl:cs.length=vs.size)
(hr:∀(j:Nat) x v,cs[j]?=some x->vs[j]?=some v->Rep M x v)(h1:∀x∈cs,x.one=true)
(hv:fH g cs off=some r):
 ∃v,(part t vs off).run P w=.ok v w/\Rep M r v:=by
 simp only[wS]at h
 split at h
 ·rename_i d i hd hi
  have hs:(sizeOf t).run P w=.ok i.size w:=by simp[sizeOf,typeInfo,program,hi,Sem.run]
  have hu:(underlying t).run P w=.ok d w:=by simp[underlying,program,hd,Sem.run]
  simp only[Option.some.injEq]at h
  subst h
  simp only[fH]at hv
  have agg:∀n,i.size=n->(if off+n<=cs.length then some (AC.agg ((cs.drop off).take n))else none)=some r->
   Rep M r (.agg (vs.extract off (off+i.size))):=by
   intro n hn hv
   subst hn
   split at hv
   ·rename_i hle
    simp at hv;subst hv
    refine .agg (fun x hx=>h1 x (fL (cP hx))) (by simp;omega) fun j x v hx hv=>?_
    rw[eT]at hx
    split at hx
    ·rename_i hj
     rw[bU]at hx
     rw[Array.getElem?_extract]at hv
     split at hv
     ·exact hr _ x v hx hv
     ·simp at hv
    ·simp at hx
   ·simp at hv
  have one:cs[off]?=some r->∃v,vs[off]?=some v/\Rep M r v:=by
   intro hv
   have hlt:off<cs.length:=(aN.1 hv).1
   exact⟨vs[off]'(hl▸hlt),de _,hr off r _ hv (de _)⟩
  cases d
  case struct=>exact⟨_,by simp[part,isAgg,hu,hs],agg _ rfl hv⟩
  case array=>exact⟨_,by simp[part,isAgg,hu,hs],agg _ rfl hv⟩
  all_goals
   obtain⟨v,h1,h2⟩:=one hv
   exact⟨v,by simp[part,isAgg,hu,h1],h2⟩
 ·simp at h
theorem qg{x y:AC}{u v:Value}(hx:Rep M x u)(hy:Rep M y v):∀(j:Nat) a b,[x,y][j]?=some a->(#[u,v]:Array Value)[j]?=some b->Rep M a b:=by
 intro j a b ha hb
 match j with
 |0=>simp at ha hb;subst ha hb;exact hx
 |1=>simp at ha hb;subst ha hb;exact hy
 |j+2=>simp at ha
theorem uP{t:TypeId}{ms:Array (String×TypeId)}(hu:P.underlying t=some (.interface ms))(d:Nat):(Op.equalIn (d+1) t .nilIface .nilIface).run P w=.ok true w:=by
 have huu:(underlying t).run P w=.ok (.interface ms) w:=by simp[underlying,program,hu,Sem.run]
 simp[Op.equalIn,huu]
theorem oq{t:TypeId}{ms:Array (String×TypeId)}(hu:P.underlying t=some (.interface ms))(d:Nat)(t':TypeId)(v:Value):(Op.equalIn (d+1) t (.iface t' v) .nilIface).run P w=.ok false w:=by
 have huu:(underlying t).run P w=.ok (.interface ms) w:=by simp[underlying,program,hu,Sem.run]
 simp[Op.equalIn,huu]
theorem pW{t:TypeId}{ms:Array (String×TypeId)}(hu:P.underlying t=some (.interface ms)){op:BinOp}{x:Operand}{u:Value}{b:Bool}
(h:(Op.equal t u .nilIface).run P w=.ok b w)(hg:eqGuard op t x (.const .nilIface) u .nilIface=pure ())(hn:u=.nilIface\/∃t' v,u=.iface t' v)(ho:op=.eql\/op=.neq):
 (do eqGuard op t x (.const .nilIface) u .nilIface;binOp op t u .nilIface:Sem Value).run P w=.ok (.bool (if op=.neq then !b else b)) w:=by
 rw[hg]
 rcases ho with rfl|rfl<;>rcases hn with rfl|⟨t',v,rfl⟩<;>simp[binOp,h]
theorem POp.sound{o:Oper}{p:POp}(hres:r9 P o.op=some p){ρ:Operand->Value}{E:aG->AC}
(hE:∀x xa,eF x=some xa->Rep M (E xa) (ρ x))(hρ:∀v,ρ (.const v)=v){r:AC}(hv:p.val E=some r):
 ∃v,(execOp ρ o).run P w=.ok (.value v) w/\Rep M r v:=by
 obtain⟨dst,op,ty,pos,after,guard⟩:=o
 cases op<;>simp only[r9]at hres<;>try(simp at hres;done)
 case move x=>
  simp only[a7]at hres;obtain⟨a,ha,rfl⟩:=hres
  simp[POp.val]at hv;subst hv
  exact⟨_,rfl,hE x a ha⟩
 case assign x=>
  simp only[a7]at hres;obtain⟨a,ha,rfl⟩:=hres
  simp[POp.val]at hv;subst hv
  exact⟨_,rfl,hE x a ha⟩
 case pick c a b=>
  split at hres
  ·rename_i xc xa xb hc ha hb
   simp at hres;subst hres
   simp only[POp.val]at hv
   split at hv
   ·rename_i t ht
    have hr:=hE _ _ hc
    rw[ht]at hr
    obtain⟨e,-⟩:=hr.lit_inv
    simp at hv;subst hv
    refine⟨_,by simp[execOp,asBool,e];rfl,?_⟩
    cases t
    ·exact hE _ _ hb
    ·exact hE _ _ ha
   ·simp at hv
  ·simp at hres
 case build t parts=>
  split at hres
  ·rename_i fs inf hu hi
   split at hres
   ·rename_i z hz
    split at hres
    ·rename_i hc
     simp only[aw]at hc
     simp only[a7]at hres;obtain⟨xp,hxp,rfl⟩:=hres
     simp only[POp.val,a7]at hv;obtain⟨rl,hrl,rfl⟩:=hv
     obtain⟨ps,hp1,hp2⟩:=u7 (P:=P) (w:=w) fs hc.2
     obtain⟨us,h1,h2,h3,h4⟩:=qM hE (place:=fun i=>ps[i]?) (fun i q hq=>by
      simp only[Option.bind_eq_some_iff,a7]at hq
      obtain⟨f,hf,inf,hi,rfl⟩:=hq
      exact hp2 i f inf hf hi) parts.toList xp (z.toList.map .lit) z rl hxp (by simp)
      (fun j x v hx hv=>rD z.toList hc.1 j x v hx (by simpa using hv)) (by simp[AC.one]) hrl
     refine⟨.agg us,?_,.agg h4 h2 h3⟩
     have hzz:(zeroValue t).run P w=.ok (.agg z) w:=by simp[zeroValue,typeInfo,program,hi,hz,Sem.run]
     have huu:(underlying t).run P w=.ok (.struct fs) w:=by simp[underlying,program,hu,Sem.run]
     simp only[execOp,Instr.build,Sem.run_bind,hzz,huu,hp1,Result.andThen_ok,Value.cells,Array.toList_map]
     rw[h1]
     rfl
    ·simp at hres
   ·simp at hres
  ·simp at hres
 case field t x f=>
  split at hres
  ·rename_i fd a hs ha
   simp only[a7]at hres;obtain⟨g,hg,rfl⟩:=hres
   simp only[POp.val]at hv
   split at hv
   ·rename_i cs hcs
    have hr:=hE _ _ ha
    rw[hcs]at hr
    obtain⟨vs,e,hl,hrr,hone⟩:=hr.agg_inv
    obtain⟨v,h1,h2⟩:=zm (w:=w) hg hl hrr hone hv
    refine⟨v,?_,h2⟩
    simp only[nY]at hs
    split at hs
    ·rename_i fs hfs
     have huu:(underlying t).run P w=.ok (.struct fs) w:=by simp[underlying,program,hfs,Sem.run]
     simp only[execOp,Instr.field,Sem.run_bind,huu,Result.andThen_ok,hs,e,asAgg,Sem.run_pure,h1]
    ·simp at hs
   ·simp at hv
  ·simp at hres
 case fieldAddr t x f=>
  split at hres
  ·rename_i fd a hs ha
   split at hres
   ·rename_i i hi
    split at hres
    ·simp at hres
    ·rename_i hz
     simp at hres;subst hres
     simp only[nY]at hs
     split at hs
     ·rename_i fs hfs
      have huu:(underlying t).run P w=.ok (.struct fs) w:=by simp[underlying,program,hfs,Sem.run]
      have hsz:(sizeOf fd.type).run P w=.ok i.size w:=by simp[sizeOf,typeInfo,program,hi,Sem.run]
      have hr:=hE _ _ ha
      have go:∀b off,ρ x=.pointer (some ⟨b,off,none⟩)->(execOp ρ ⟨dst,.fieldAddr t x f,ty,pos,after,guard⟩).run P w=.ok (.value (.pointer (some ⟨b,off+fd.offset,none⟩))) w:=by
       intro b off e
       simp only[execOp,Instr.fieldAt,Sem.run_bind,huu,Result.andThen_ok,hs,e,Instr.sureAddr,Sem.run_pure,fieldPlace,hsz,hz,if_false,Addr.add_lit]
      simp only[POp.val]at hv
      split at hv
      ·rename_i r0 o0 he
       rw[he]at hr
       have e:=hr.ptr_inv
       simp at hv;subst hv
       exact⟨_,go _ _ e,.ptr⟩
      ·rename_i cs he
       rw[he]at hr
       simp at hv;subst hv
       generalize hu:ρ x=u at hr
       cases hr with
       |elt vs h1 hm hr=>
        exact⟨_,go _ _ hu,.elt (fun j=>vs (fd.offset+j)) (fun x hx=>h1 x (fL hx)) (fun j x hx=>by rw[bU]at hx;rw[Nat.add_assoc];exact hm _ x hx)
         (fun j x hx=>by rw[bU]at hx;exact hr _ x hx)⟩
      ·simp at hv
     ·simp at hs
   ·simp at hres
  ·simp at hres
 case indexAddr t x i=>
  split at hres
  ·rename_i e a b hu ha hb
   simp only[a7]at hres;obtain⟨inf,hinf,rfl⟩:=hres
   have huu:(underlying t).run P w=.ok (.slice e) w:=by simp[underlying,program,hu,Sem.run]
   have hsz:(sizeOf e).run P w=.ok inf.size w:=by simp[sizeOf,typeInfo,program,hinf,Sem.run]
   have hr:=hE _ _ ha
   have hi:=hE _ _ hb
   simp only[POp.val]at hv
   split at hv
   ·rename_i sz tok es k n hx hn
    rw[hx]at hr;rw[hn]at hi
    obtain⟨ei,-⟩:=hi.lit_inv
    split at hv
    ·rename_i h0
     obtain⟨rfl,h0⟩:=h0
     simp only[a7]at hv
     obtain⟨el,hel,rfl⟩:=hv
     have hlt:n.toNat<es.length:=(aN.1 hel).1
     generalize hg:ρ x=u at hr
     cases hr with
     |sl0=>simp at hlt
     |sl vs hl hcap hs hm hr ht=>
      rename_i bb off cap
      refine⟨.pointer (some ⟨bb,off+n.toNat*inf.size,none⟩),?_,?_⟩
      ·have hc:0<=n/\n<(es.length:Int):=by omega
       simp only[execOp,Instr.indexAt,ei,asIntOf,Sem.run_bind,Sem.run_pure,Result.andThen_ok,huu,hg,hsz,hc,and_self,if_true,Addr.add_lit]
      ·exact .elt (fun j=>vs n.toNat j) (hs el (aY hel)).2 (fun j y hy=>hm _ _ _ _ hel hy) (fun j y hy=>hr _ _ _ _ hel hy)
    ·simp at hv
   ·rename_i bb off l cc k n hx hn
    rw[hx]at hr;rw[hn]at hi
    obtain⟨ei,-⟩:=hi.lit_inv
    obtain⟨ex,-⟩:=hr.lit_inv
    split at hv
    ·rename_i h0
     simp at hv;subst hv
     refine⟨.pointer (some ⟨bb,off+n.toNat*inf.size,none⟩),?_,.ptr⟩
     simp only[execOp,Instr.indexAt,ei,ex,asIntOf,Sem.run_bind,Sem.run_pure,Result.andThen_ok,huu,hsz,h0,and_self,if_true,Addr.add_lit]
    ·simp at hv
   ·simp at hv
  ·simp at hres
 case index t x i=>
  split at hres
  ·rename_i a b hu ha hb
   simp at hres;subst hres
   have huu:(underlying t).run P w=.ok .string w:=by simp[underlying,program,hu,Sem.run]
   have hr:=hE _ _ ha
   have hi:=hE _ _ hb
   simp only[POp.val]at hv
   split at hv
   ·rename_i s k n hx hn
    rw[hx]at hr;rw[hn]at hi
    obtain⟨ei,-⟩:=hi.lit_inv
    obtain⟨ex,-⟩:=hr.lit_inv
    split at hv
    ·rename_i h0
     simp only[a7]at hv
     obtain⟨c,hc,rfl⟩:=hv
     refine⟨.int .u8 c.toNat,?_,.lit ?_⟩
     ·simp only[execOp,Instr.index,ei,ex,asIntOf,Sem.run_bind,Sem.run_pure,Result.andThen_ok,huu,h0,if_true,hc]
     ·have:=c.toNat_lt
      simp only[okv,IntKind.min,IntKind.max,IntKind.bits,IntKind.signed,if_false,aq];omega
    ·simp at hv
   ·simp at hv
  ·simp at hres
 case extract x i=>
  simp only[a7]at hres;obtain⟨a,ha,rfl⟩:=hres
  simp only[POp.val]at hv
  split at hv
  ·rename_i vs hx
   have hr:=hE _ _ ha
   rw[hx]at hr
   obtain⟨us,e,hl,hrr⟩:=hr.tup_inv
   have hlt:i<vs.length:=(aN.1 hv).1
   have hu:us[i]?=some (us[i]'(hl▸hlt)):=de _
   exact⟨_,by simp only[execOp,Instr.extract,e,hu,Sem.run_bind,Sem.run_pure,Result.andThen_ok],hrr i _ _ hv hu⟩
  ·simp at hv
 case binOp op t x y yt=>
  split at hres
  ·rename_i a b hu ha hb
   have hr:=hE _ _ ha
   have hi:=hE _ _ hb
   split at hres
   all_goals try(simp at hres;done)
   all_goals
    simp at hres;subst hres
    simp only[POp.val]at hv
    split at hv
    ·rename_i s1 s2 h1 h2
     rw[h1]at hr;rw[h2]at hi
     obtain⟨e1,-⟩:=hr.lit_inv
     obtain⟨e2,-⟩:=hi.lit_inv
     simp at hv;subst hv
     refine⟨_,?_,.lit trivial⟩
     simp only[execOp,e1,e2,eqGuard_at_bool,Sem.run_bind,Sem.run_pure,Result.andThen_ok,run_eql_bool w t _ _ hu,run_neq_bool w t _ _ hu]
    ·simp at hv
  ·rename_i k a b hu ha hb
   simp at hres;subst hres
   have hr:=hE _ _ ha
   have hi:=hE _ _ hb
   simp only[POp.val]at hv
   split at hv
   ·rename_i k1 n1 k2 n2 h1 h2
    rw[h1]at hr;rw[h2]at hi
    obtain⟨e1,o1⟩:=hr.lit_inv
    obtain⟨e2,o2⟩:=hi.lit_inv
    split at hv
    ·rename_i hk;subst hk
     obtain⟨v,hv1,hv2⟩:=oj (P:=P) (w:=w) (M:=M) (t:=t) hv o1 o2
     exact⟨v,by simp only[execOp,e1,e2,eqGuard_at_int,Sem.run_bind,Sem.run_pure,Result.andThen_ok,hv1],hv2⟩
    ·simp at hv
   ·rename_i s1 s2 h1 h2
    rw[h1]at hr;rw[h2]at hi
    obtain⟨e1,o1⟩:=hr.lit_inv
    obtain⟨e2,o2⟩:=hi.lit_inv
    obtain⟨v,hv1,hv2⟩:=nZ (P:=P) (w:=w) (M:=M) (t:=t) hv
    exact⟨v,by simp only[execOp,e1,e2,eqGuard_at_string,Sem.run_bind,Sem.run_pure,Result.andThen_ok,hv1],hv2⟩
   ·simp at hv
  ·rename_i a b hu ha hb
   simp at hres;subst hres
   have hr:=hE _ _ ha
   have hi:=hE _ _ hb
   simp only[POp.val]at hv
   split at hv
   ·rename_i k1 n1 k2 n2 h1 h2
    rw[h1]at hr;rw[h2]at hi
    obtain⟨e1,o1⟩:=hr.lit_inv
    obtain⟨e2,o2⟩:=hi.lit_inv
    split at hv
    ·rename_i hk;subst hk
     obtain⟨v,hv1,hv2⟩:=oj (P:=P) (w:=w) (M:=M) (t:=t) hv o1 o2
     exact⟨v,by simp only[execOp,e1,e2,eqGuard_at_int,Sem.run_bind,Sem.run_pure,Result.andThen_ok,hv1],hv2⟩
    ·simp at hv
   ·rename_i s1 s2 h1 h2
    rw[h1]at hr;rw[h2]at hi
    obtain⟨e1,o1⟩:=hr.lit_inv
    obtain⟨e2,o2⟩:=hi.lit_inv
    obtain⟨v,hv1,hv2⟩:=nZ (P:=P) (w:=w) (M:=M) (t:=t) hv
    exact⟨v,by simp only[execOp,e1,e2,eqGuard_at_string,Sem.run_bind,Sem.run_pure,Result.andThen_ok,hv1],hv2⟩
   ·simp at hv
  ·rename_i ms a hu ha hb
   have hr:=hE _ _ ha
   have huu:(underlying t).run P w=.ok (.interface ms) w:=by simp[underlying,program,hu,Sem.run]
   have key:∀b:Bool,(match E a with|.lit .nilIface=>some (AC.lit (.bool !b))|.iface _ _=>some (.lit (.bool b))|_=>none)=some r->
    ∃v,(Op.equal t (ρ x) .nilIface).run P w=.ok v w/\r=.lit (.bool (if b then !v else v))/\eqGuard op t x (.const .nilIface) (ρ x) .nilIface=pure ()/\(ρ x=.nilIface\/∃t' v,ρ x=.iface t' v):=by
    intro b hv
    split at hv
    ·rename_i he
     rw[he]at hr
     obtain⟨e,-⟩:=hr.lit_inv
     simp at hv;subst hv
     rw[e]
     exact⟨true,uP hu 9999,by cases b<;>rfl,by cases op<;>cases x<;>rfl,.inl rfl⟩
    ·rename_i t' y' he
     rw[he]at hr
     generalize hg:ρ x=u at hr
     cases hr with
     |iface hi=>
      simp at hv;subst hv
      exact⟨false,oq hu 9999 _ _,by cases b<;>rfl,by cases op<;>rfl,.inr ⟨_,_,rfl⟩⟩
    ·simp at hv
   split at hres
   ·simp at hres;subst hres
    simp only[POp.val]at hv
    obtain⟨v,h1,rfl,h2,h3⟩:=key false hv
    refine⟨.bool v,?_,.lit trivial⟩
    have:=pW (P:=P) (w:=w) hu h1 h2 h3 (.inl rfl)
    simp only[execOp,hρ]
    rw[Sem.run_bind,this];rfl
   ·simp at hres;subst hres
    simp only[POp.val]at hv
    obtain⟨v,h1,rfl,h2,h3⟩:=key true hv
    refine⟨.bool !v,?_,.lit trivial⟩
    have:=pW (P:=P) (w:=w) hu h1 h2 h3 (.inr rfl)
    simp only[execOp,hρ]
    rw[Sem.run_bind,this];rfl
   ·simp at hres
  ·simp at hres
 case typeAssert x xt t ok=>
  cases ok with
  |false=>simp only[r9]at hres;simp at hres
  |true=>
   simp only[r9]at hres
   split at hres
   ·simp at hres
   ·rename_i d i a hni hu hi ha
    split at hres
    ·rename_i z hz
     simp only[a7]at hres
     obtain⟨za,hza,rfl⟩:=hres
     have hr:=hE _ _ ha
     have hrz:Rep M (E za) z:=by
      have:=hE (.const z) za hza
      rwa[hρ]at this
     have huu:(underlying t).run P w=.ok d w:=by simp[underlying,program,hu,Sem.run]
     have hzz:(zeroValue t).run P w=.ok z w:=by simp[zeroValue,typeInfo,program,hi,hz,Sem.run]
     have hni':∀ms,d≠.interface ms:=fun ms e=>hni ms e
     simp only[POp.val]at hv
     split at hv
     ·rename_i t' y he
      rw[he]at hr
      generalize hg:ρ x=u at hr
      cases hr with
      |iface hi'=>
       split at hv
       ·rename_i ht
        subst ht
        simp at hv;subst hv
        refine⟨.tuple #[_,.bool true],?_,.tup rfl (qg hi' (.lit trivial))⟩
        simp only[execOp,hg,Instr.typeAssert,Sem.run_bind,huu,Result.andThen_ok]
        cases d<;>first|exact absurd rfl (hni' _)|simp
       ·rename_i ht
        simp at hv;subst hv
        refine⟨.tuple #[z,.bool false],?_,.tup rfl (qg hrz (.lit trivial))⟩
        simp only[execOp,hg,Instr.typeAssert,Sem.run_bind,huu,Result.andThen_ok]
        cases d<;>first|exact absurd rfl (hni' _)|simp[ht,hzz]
     ·rename_i he
      rw[he]at hr
      obtain⟨e,-⟩:=hr.lit_inv
      simp at hv;subst hv
      refine⟨.tuple #[z,.bool false],?_,.tup rfl (qg hrz (.lit trivial))⟩
      simp only[execOp,e,Instr.typeAssert,Sem.run_bind,huu,Result.andThen_ok]
      cases d<;>first|exact absurd rfl (hni' _)|simp[hzz]
     ·simp at hv
    ·simp at hres
   ·simp at hres
 case unOp op t x=>
  cases op<;>simp only[r9]at hres<;>try(simp at hres;done)
  case neg=>
   simp only[a7]at hres;obtain⟨a,ha,rfl⟩:=hres
   have hr:=hE _ _ ha
   simp only[POp.val]at hv
   split at hv
   ·rename_i k n hx
    rw[hx]at hr
    obtain⟨e,-⟩:=hr.lit_inv
    simp at hv;subst hv
    refine⟨.int k (k.wrap (-n)),?_,.lit (v:=.int k (k.wrap (-n))) (nk k _)⟩;simp only[execOp,Op.unary,e,Op.intArith,Sem.run_bind,Sem.run_pure,Result.andThen_ok,Int.zero_sub]
   ·simp at hv
  case not=>
   simp only[a7]at hres;obtain⟨a,ha,rfl⟩:=hres
   have hr:=hE _ _ ha
   simp only[POp.val]at hv
   split at hv
   ·rename_i n hx
    rw[hx]at hr
    obtain⟨e,-⟩:=hr.lit_inv
    simp at hv;subst hv
    exact⟨_,by simp only[execOp,Op.unary,e,Sem.run_bind,Sem.run_pure,Result.andThen_ok],.lit trivial⟩
   ·simp at hv
 case convert s d x=>
  split at hres
  ·rename_i k1 k2 a hu1 hu2 ha
   simp at hres;subst hres
   have hr:=hE _ _ ha
   simp only[POp.val]at hv
   split at hv
   ·rename_i k n hx
    rw[hx]at hr
    obtain⟨e,-⟩:=hr.lit_inv
    simp at hv;subst hv
    have hus:(underlying s).run P w=.ok (.int k1) w:=by simp[underlying,program,hu1,Sem.run]
    have hud:(underlying d).run P w=.ok (.int k2) w:=by simp[underlying,program,hu2,Sem.run]
    exact⟨_,by simp only[execOp,convert,hus,hud,e,Conv.intToInt,Sem.run_bind,Sem.run_pure,Result.andThen_ok],.lit (nk k2 _)⟩
   ·simp at hv
  ·rename_i a hu1 hu2 ha
   simp at hres;subst hres
   have hr:=hE _ _ ha
   simp only[POp.val]at hv
   split at hv
   ·rename_i n hx
    rw[hx]at hr
    obtain⟨e,ok⟩:=hr.lit_inv
    simp at hv;subst hv
    have hus:(underlying s).run P w=.ok .string w:=by simp[underlying,program,hu1,Sem.run]
    have hud:(underlying d).run P w=.ok .string w:=by simp[underlying,program,hu2,Sem.run]
    exact⟨_,by simp only[execOp,convert,hus,hud,e,Sem.run_bind,Sem.run_pure,Result.andThen_ok],.lit ok⟩
   ·simp at hv
  ·simp at hres
 case slice t x lo hi mx=>
  cases mx with
  |some m=>simp only[r9]at hres;simp at hres
  |none=>
   simp only[r9]at hres
   split at hres
   ·rename_i e a la ha' hu ha hla hha
    simp only[a7]at hres;obtain⟨inf,hinf,rfl⟩:=hres
    have huu:(underlying t).run P w=.ok (.slice e) w:=by simp[underlying,program,hu,Sem.run]
    have hsz:(sizeOf e).run P w=.ok inf.size w:=by simp[sizeOf,typeInfo,program,hinf,Sem.run]
    have hr:=hE _ _ ha
    simp only[POp.val]at hv
    split at hv
    ·rename_i sz tok es hx
     rw[hx]at hr
     split at hv
     ·rename_i hs
      subst hs
      split at hv
      ·rename_i l h el eh
       split at hv
       ·rename_i hle
        obtain⟨h1,h2⟩:=hle
        simp at hv;subst hv
        generalize hg:ρ x=u at hr
        cases hr with
        |sl0=>
         rename_i aa cc
         have hh0:h=0:=by simpa using h2
         have hl0:l=0:=by omega
         subst hh0 hl0
         have:=fu (P:=P) (w:=w) hE hla hha (len:=0) (cap:=cc) el eh (aA _) (gN _) true
         refine⟨.slice (if cc=0 then aa else aa.map (·.add (0*inf.size))) (0 - 0) (cc - 0),?_,?_⟩
         ·simp only[execOp,Instr.sliceAt,Sem.run_bind,huu,Result.andThen_ok,Instr.slice,hg,Option.map_none,this,hsz,Sem.run_pure]
         ·simpa using(Rep.sl0:Rep M (.sl inf.size none []) (.slice _ 0 cc))
        |sl vs hl hcap hs hm hr ht=>
         rename_i bb off cap
         have:=fu (P:=P) (w:=w) hE hla hha (len:=es.length) (cap:=cap) el eh h1 (cg h2 hcap) true
         refine⟨.slice (if cap=l then some ⟨bb,off,none⟩else(some (⟨bb,off,none⟩:Addr)).map (·.add (l*inf.size))) (h - l) (cap - l),?_,?_⟩
         ·simp only[execOp,Instr.sliceAt,Sem.run_bind,huu,Result.andThen_ok,Instr.slice,hg,Option.map_none,this,hsz,Sem.run_pure]
         ·have hlen:((es.take h).drop l).length=h - l:=by simp;omega
          by_cases hcl:cap=l
          ·have:(es.take h).drop l=[]:=bn (by omega)
           rw[this,show h - l=0 by omega]
           exact .sl0
          ·rw[if_neg hcl,<-hlen]
           simp only[bW,Addr.add_lit]
           refine .sl (fun i j=>vs (l+i) j) (by omega) (by omega) (fun e he=>hs e (cP (fL he))) ?_ ?_ (by simp)
           ·intro i j e x hei hx
            rw[bU,eT]at hei
            split at hei
            ·have:=hm _ j e x hei hx
             rw[cB]at this
             rw[show off+l*inf.size+i*inf.size+j=off+(l*inf.size+i*inf.size)+j by omega]
             exact this
            ·simp at hei
           ·intro i j e x hei hx
            rw[bU,eT]at hei
            split at hei
            ·exact hr _ j e x hei hx
            ·simp at hei
       ·simp at hv
      ·simp at hv
     ·simp at hv
    ·rename_i hx
     rw[hx]at hr
     obtain⟨e',ok⟩:=hr.lit_inv
     split at hv
     ·rename_i el eh
      simp at hv;subst hv
      have:=fu (P:=P) (w:=w) hE hla hha (len:=0) (cap:=0) el eh (aA _) (aA _) true
      refine⟨.slice none 0 0,?_,.lit trivial⟩
      simp only[execOp,Instr.sliceAt,Sem.run_bind,huu,Result.andThen_ok,Instr.slice,e',Option.map_none,this,hsz,Sem.run_pure,if_true]
     ·simp at hv
    ·rename_i bb off n cc hx
     rw[hx]at hr
     obtain⟨e',ok⟩:=hr.lit_inv
     split at hv
     ·rename_i l h el eh
      split at hv
      ·rename_i hle
       simp at hv;subst hv
       have:=fu (P:=P) (w:=w) hE hla hha (len:=n) (cap:=cc) el eh (gN _) hle.1 true
       refine⟨.slice (some ⟨bb,off,none⟩) h cc,?_,.lit trivial⟩
       simp only[execOp,Instr.sliceAt,Sem.run_bind,huu,Result.andThen_ok,Instr.slice,e',Option.map_none,this,hsz,Sem.run_pure,show ¬cc=0 by omega,if_false,Nat.zero_mul,Nat.sub_zero,
        bW,Addr.add_lit,Nat.add_zero]
      ·simp at hv
     ·simp at hv
    ·simp at hv
   ·rename_i a la ha' hu ha hla hha
    simp at hres;subst hres
    have huu:(underlying t).run P w=.ok .string w:=by simp[underlying,program,hu,Sem.run]
    have hr:=hE _ _ ha
    simp only[POp.val]at hv
    split at hv
    ·rename_i s hx
     rw[hx]at hr
     obtain⟨e',ok⟩:=hr.lit_inv
     split at hv
     ·rename_i l h el eh
      split at hv
      ·rename_i hle
       obtain⟨h1,h2⟩:=hle
       simp at hv;subst hv
       have:=fu (P:=P) (w:=w) hE hla hha (len:=s.size) (cap:=s.size) el eh h1 h2 false
       refine⟨.string (s.extract l h),?_,.lit ?_⟩
       ·simp[execOp,Instr.sliceAt,huu,Instr.slice,e',this]
       ·simp only[okv]at ok⊢
        simp;omega
      ·simp at hv
     ·simp at hv
    ·simp at hv
   ·simp at hres
 case makeInterface t x=>
  split at hres
  ·simp at hres
  ·rename_i d a hni hu ha
   simp at hres;subst hres
   have hr:=hE _ _ ha
   have huu:(underlying t).run P w=.ok d w:=by simp[underlying,program,hu,Sem.run]
   have hm:(Instr.makeInterface t (ρ x)).run P w=.ok (.iface t (ρ x)) w:=by
    simp only[Instr.makeInterface,Sem.run_bind,huu,Result.andThen_ok]
    cases d<;>first|(exact absurd hu (hni _))|rfl
   simp only[POp.val]at hv
   split at hv
   ·simp at hv
   ·simp at hv
   ·simp at hv;subst hv
    exact⟨_,by simp only[execOp,hm,Sem.run_bind,Sem.run_pure,Result.andThen_ok],.iface hr⟩
  ·simp at hres
 case nilCheck x=>
  simp only[a7]at hres;obtain⟨a,ha,rfl⟩:=hres
  have hr:=hE _ _ ha
  simp only[POp.val]at hv
  split at hv
  ·rename_i r0 o0 he
   rw[he]at hr
   have e:=hr.ptr_inv
   simp at hv;subst hv
   exact⟨_,by simp only[execOp,e];rfl,.ptr⟩
  ·rename_i cs he
   rw[he]at hr
   simp at hv;subst hv
   generalize hg:ρ x=u at hr
   cases hr with
   |elt vs h1 hm hr=>exact⟨_,by simp only[execOp,hg];rfl,.elt vs h1 hm hr⟩
  ·rename_i f fa fb he
   rw[he]at hr
   simp at hv;subst hv
   generalize hg:ρ x=u at hr
   cases hr with
   |fn h1 h2 h3 h4=>exact⟨_,by simp only[execOp,hg];rfl,.fn h1 h2 h3 h4⟩
  ·rename_i t y he
   rw[he]at hr
   simp at hv;subst hv
   generalize hg:ρ x=u at hr
   cases hr with
   |iface h1=>exact⟨_,by simp only[execOp,hg];rfl,.iface h1⟩
  ·simp at hv
 case call c=>
  obtain⟨callee,args,argTypes⟩:=c
  cases callee with
  |value f=>simp at hres
  |invoke r m=>simp at hres
  |builtin b=>
   cases b<;>simp only[r9]at hres<;>try(simp at hres;done)
   split at hres
   ·rename_i x t hx ht
    have ea:args=#[x]:=by apply eW.1;simpa using hx
    have et:argTypes=#[t]:=by apply eW.1;simpa using ht
    subst ea et
    split at hres
    ·rename_i e a hu ha
     simp at hres;subst hres
     have hr:=hE _ _ ha
     have huu:(underlying t).run P w=.ok (.slice e) w:=by simp[underlying,program,hu,Sem.run]
     simp only[POp.val]at hv
     split at hv
     ·rename_i sz tok es he
      rw[he]at hr
      simp at hv;subst hv
      have hlen:=hr
      obtain⟨aa,cap,e',hlim,-⟩:=hr.sl_inv
      refine⟨.int .i64 es.length,?_,.lit ?_⟩
      ·simp[execOp,resolve,invoke,builtin,Builtin.len_,huu,e',goInt]
      ·have:LIM=2^40:=rfl
       simp[okv,IntKind.min,IntKind.max,IntKind.bits,IntKind.signed];omega
     ·rename_i he
      rw[he]at hr
      obtain⟨e',ok⟩:=hr.lit_inv
      simp at hv;subst hv
      refine⟨.int .i64 0,?_,.lit ?_⟩
      ·simp[execOp,resolve,invoke,builtin,Builtin.len_,huu,e',goInt]
      ·simp[okv,IntKind.min,IntKind.max,IntKind.bits,IntKind.signed]
     ·rename_i l _ he
      rw[he]at hr
      obtain⟨e',ok⟩:=hr.lit_inv
      split at hv
      ·rename_i hlim
       simp at hv;subst hv
       refine⟨.int .i64 l,?_,.lit ?_⟩
       ·simp[execOp,resolve,invoke,builtin,Builtin.len_,huu,e',goInt]
       ·have:LIM=2^40:=rfl
        simp[okv,IntKind.min,IntKind.max,IntKind.bits,IntKind.signed];omega
      ·simp at hv
     ·simp at hv
    ·rename_i a hu ha
     simp at hres;subst hres
     have hr:=hE _ _ ha
     have huu:(underlying t).run P w=.ok .string w:=by simp[underlying,program,hu,Sem.run]
     simp only[POp.val]at hv
     split at hv
     ·rename_i s he
      rw[he]at hr
      obtain⟨e',ok⟩:=hr.lit_inv
      simp at hv;subst hv
      refine⟨.int .i64 s.size,?_,.lit ?_⟩
      ·simp[execOp,resolve,invoke,builtin,Builtin.len_,huu,e',goInt]
      ·have:LIM=2^40:=rfl
       simp only[okv]at ok
       simp[okv,IntKind.min,IntKind.max,IntKind.bits,IntKind.signed];omega
     ·simp at hv
    ·simp at hres
   ·simp at hres
end
section
variable {M:bF}{H:aj}{w:World}
theorem Sim.heap{w':World}(e:w'.heap=w.heap)(s:Sim M H w):Sim M H w':=by
 refine⟨fun b o v h=>?_,fun b o h=>?_⟩
 ·have:=s.mem b o v h
  rw[eo]at*;rw[e];exact this
 ·have:=s.obj b o h
  cases o<;>simp only[gY]at*<;>rw[e]<;>exact this
theorem bC.heap{w':World}(e:w'.heap=w.heap)(io:pJ w w'):bC M H w M H w':=
 ⟨bF.le_refl M,by simp[e],fun b _ _=>by simp[e],fun b h=>.inl h,io⟩
theorem Sim.free(s:Sim M H w){b:Nat}(h:w.heap.size<=b):H.get b=none:=by
 rcases bV (H.get b)with e|⟨o,e⟩
 ·exact e
 ·have:=s.lt e;omega
theorem Sim.mem_free(s:Sim M H w){b o:Nat}(h:w.heap.size<=b):M b o=none:=by
 rcases bV (M b o)with e|⟨v,e⟩
 ·exact e
 ·have:=s.mem_lt e;omega
theorem Sim.push(s:Sim M H w)(o:Obj)(w':World)(e:w'.heap=w.heap.push o):Sim M H w':=by
 have hb:∀b,b<w.heap.size->w'.heap[b]?=w.heap[b]?:=by
  intro b hb
  rw[e,Array.getElem?_push];simp[show b≠w.heap.size by omega]
 refine⟨fun b o v h=>?_,fun b o h=>?_⟩
 ·have:=s.mem b o v h
  rw[eo]at*;rw[hb b (s.mem_lt h)];exact this
 ·have:=s.obj b o h
  have hl:=hb b (s.lt h)
  cases o<;>simp only[gY]at*<;>rw[hl]<;>exact this
theorem bC.push(o:Obj)(w':World)(e:w'.heap=w.heap.push o)(io:pJ w w'):bC M H w M H w':=by
 refine⟨bF.le_refl M,by simp[e],fun b hb _=>⟨?_,fun _=>rfl⟩,fun b h=>.inl h,io⟩
 rw[e,Array.getElem?_push];simp[show b≠w.heap.size by omega]
theorem Sim.newCells(s:Sim M H w)(vs:Array Value)(el:TypeId)(w':World)(e:w'.heap=w.heap.push (.cells vs el))(io:pJ w w'){cs:List AC}
(h1:∀x∈cs,x.one=true)(hl:cs.length=vs.size)(hr:∀(j:Nat) x v,cs[j]?=some x->vs[j]?=some v->Rep M x v):
 Sim M (H.set w.heap.size (.cells cs)) w'/\bC M H w M (H.set w.heap.size (.cells cs)) w':=by
 have s':=s.push _ w' e
 have t:=bC.push (M:=M) (H:=H) _ w' e io
 refine⟨⟨s'.mem,fun b o h=>?_⟩,⟨t.le,t.size,t.same,fun b h=>?_,t.io⟩⟩
 ·rw[aK]at h
  split at h
  ·rename_i hb;subst hb
   simp at h;subst h
   exact⟨vs,el,by rw[e];simp,h1,hl,hr,fun o=>s.mem_free (aA _)⟩
  ·exact s'.obj b o h
 ·rw[aK]at h
  split at h
  ·rename_i hb;exact .inr (by omega)
  ·exact .inl h
theorem Sim.newTyped(s:Sim M H w)(vs:Array Value)(el:TypeId)(w':World)(e:w'.heap=w.heap.push (.cells vs el))(io:pJ w w'){cs:List AC}
(hl:cs.length=vs.size)(hr:∀(j:Nat) x v,cs[j]?=some x->vs[j]?=some v->Rep M x v):
 Sim M (H.set w.heap.size (.typed el cs)) w'/\bC M H w M (H.set w.heap.size (.typed el cs)) w':=by
 have s':=s.push _ w' e
 have t:=bC.push (M:=M) (H:=H) _ w' e io
 refine⟨⟨s'.mem,fun b o h=>?_⟩,⟨t.le,t.size,t.same,fun b h=>?_,t.io⟩⟩
 ·rw[aK]at h
  split at h
  ·rename_i hb;subst hb
   simp at h;subst h
   exact⟨vs,by rw[e];simp,hl,hr,fun o=>s.mem_free (aA _)⟩
  ·exact s'.obj b o h
 ·rw[aK]at h
  split at h
  ·rename_i hb;exact .inr (by omega)
  ·exact .inl h
def bF.frz(M:bF)(b n n':Nat)(vs:Array Value):bF:=fun c o=>if c=b/\n<=o/\o<n' then vs[o]? else M c o
theorem hU{b n n':Nat}{vs:Array Value}(h:∀o,n<=o->M b o=none):M.le (M.frz b n n' vs):=by
 intro c o v e
 unfold bF.frz
 split
 ·rename_i hc
  obtain⟨rfl,h1,-⟩:=hc
  rw[h o h1]at e;simp at e
 ·exact e
theorem Sim.freeze(s:Sim M H w){b n n' m:Nat}{vs:Array Value}{el:TypeId}(hb:w.heap[b]?=some (.cells vs el (0,0)))(hm:vs.size=m)
(hn:n<=n')(hn':n'<=m)(hf:∀o,n<=o->M b o=none)(ho:H.get b=none\/∃k l,H.get b=some (.tail k l)):
 Sim (M.frz b n n' vs) (H.set b (.tail n' m)) w:=by
 refine⟨fun c o v h=>?_,fun c o h=>?_⟩
 ·unfold bF.frz at h
  split at h
  ·rename_i hc;obtain⟨rfl,-,-⟩:=hc
   rw[eo,hb];exact h
  ·exact s.mem c o v h
 ·rw[aK]at h
  split at h
  ·rename_i hc;subst hc
   simp at h;subst h
   refine⟨vs,el,hb,hm,hn',fun o ho=>?_⟩
   unfold bF.frz
   rw[if_neg (by omega)]
   exact hf o (by omega)
  ·rename_i hne
   have:=s.obj c o h
   have hM:∀o,M.frz b n n' vs c o=M c o:=fun o=>by unfold bF.frz;rw[if_neg (by simp[hne])]
   cases o with
   |cells cs=>
    obtain⟨us,el',h1,h2,h3,h4,h5⟩:=this
    exact⟨us,el',h1,h2,h3,fun j x v hx hv=>(h4 j x v hx hv).mono (hU hf),fun o=>(hM o).trans (h5 o)⟩
   |tail k l=>
    obtain⟨us,el',h1,h3,h4,h5⟩:=this
    exact⟨us,el',h1,h3,h4,fun o ho=>(hM o).trans (h5 o ho)⟩
   |typed ty cs=>
    obtain⟨us,h1,h3,h4,h5⟩:=this
    exact⟨us,h1,h3,fun j x v hx hv=>(h4 j x v hx hv).mono (hU hf),fun o=>(hM o).trans (h5 o)⟩
   |map f=>
    obtain⟨es,cl,h1,h2,h3⟩:=this
    exact⟨es,cl,h1,h2.mono (hU hf),fun o=>(hM o).trans (h3 o)⟩
   |const ob cs=>
    obtain⟨h1,us,h2,h3,h4⟩:=this
    exact⟨h1,us,h2,fun j hj=>(hM j).trans (h3 j hj),fun j x hx=>(h4 j x hx).mono (hU hf)⟩
theorem bC.freeze{b n n' m:Nat}{vs:Array Value}(hf:∀o,n<=o->M b o=none)(hb:H.get b≠none):
 bC M H w (M.frz b n n' vs) (H.set b (.tail n' m)) w:=by
 refine⟨hU hf,aA _,fun c hc hn=>⟨rfl,fun o=>?_⟩,fun c h=>?_,rfl,rfl⟩
 ·unfold bF.frz
  rw[if_neg]
  rintro⟨rfl,-⟩
  exact hb hn
 ·rw[aK]at h
  split at h
  ·rename_i e;subst e;exact .inl hb
  ·exact .inl h
theorem Sim.setRow(s:Sim M H w){b:Nat}{o o':cz}(ho:H.get b=some o)(cs:Array Value)
(hM:∀k v,M b k=some v->cs[k]?=some v){old:Array Value}{el:TypeId}(hb:w.heap[b]?=some (.cells old el (0,0)))
(hs:gY M (w.setRow b cs) b o'):Sim M (H.set b o') (w.setRow b cs)/\bC M H w M (H.set b o') (w.setRow b cs):=by
 have hself:=setRow_heap w b old cs el (0,0) hb
 have hoth:=fun k hk=>setRow_other w b k cs hk
 refine⟨⟨fun c k v h=>?_,fun c q h=>?_⟩,⟨bF.le_refl M,by simp[World.setRow],fun c hc hn=>⟨?_,fun _=>rfl⟩,fun c h=>?_,rfl,rfl⟩⟩
 ·by_cases hc:c=b
  ·subst hc
   rw[eo,hself];exact hM k v h
  ·have:=s.mem c k v h
   rw[eo]at*;rw[hoth c hc];exact this
 ·rw[aK]at h
  split at h
  ·rename_i hc;subst hc;simp at h;subst h;exact hs
  ·rename_i hc
   have:=s.obj c q h
   cases q<;>simp only[gY]at*<;>rw[hoth c hc]<;>exact this
 ·exact hoth c (by rintro rfl;rw[ho]at hn;simp at hn)
 ·rw[aK]at h
  split at h
  ·rename_i hc;subst hc;exact .inl (by simp[ho])
  ·exact .inl h
end
open Go.MapKept
def lJ(f:ByteArray->Option AC)(k:ByteArray)(x:AC):ByteArray->Option AC:=fun j=>if j=k then some x else f j
theorem iB(f:ByteArray->Option AC)(k:ByteArray)(x:AC):lJ f k x k=some x:=by simp[lJ]
theorem kn(f:ByteArray->Option AC){k j:ByteArray}(x:AC)(h:j≠k):lJ f k x j=f j:=by simp[lJ,h]
section
variable {P:Program}{M:bF}{H:aj}{w:World}{f:ByteArray->Option AC}
theorem gF.isKey{es:List MapEntry}(h:gF M es f):∀e∈es,IsKey .string e.key:=fun e he=>by
 obtain⟨k,e⟩:=h.keys e he
 rw[e];trivial
theorem gF.uniq{es:List MapEntry}(h:gF M es f){e e':MapEntry}(he:e∈es)(he':e'∈es)(hk:e.key=e'.key):e=e':=by
 obtain⟨i,hi,rfl⟩:=bk.1 he
 obtain⟨j,hj,rfl⟩:=bk.1 he'
 have hp:=List.pairwise_iff_getElem.1 h.nodup
 rcases Nat.lt_trichotomy i j with c|c|c
 ·exact absurd hk (hp i j hi hj c)
 ·subst c;rfl
 ·exact absurd hk.symm (hp j i hj hi c)
theorem gF.find{es:List MapEntry}(h:gF M es f)(k:ByteArray):
 (Instr.findNow .string (.string k) es 0=some none/\f k=none/\∀e∈es,e.key≠.string k)\/
 ∃j e x,Instr.findNow .string (.string k) es 0=some (some (j,e.val))/\es[j]?=some e/\e.key=.string k/\f k=some x/\Rep M x e.val:=by
 rcases findNow_spec (d:=.string) (k:=.string k) trivial es 0 h.isKey with⟨h1,h2⟩|⟨j,e,h1,h2,h3⟩
 ·left
  refine⟨h1,?_,h2⟩
  cases hf:f k with
  |none=>rfl
  |some x=>
   obtain⟨e,he,hk,-⟩:=h.yes k x hf
   exact absurd hk (h2 e he)
 ·right
  rw[bY]at h1
  have hm:e∈es:=aY h2
  cases hf:f k with
  |none=>exact absurd h3 (h.no k hf e hm)
  |some x=>
   obtain⟨e',he',hk',hr⟩:=h.yes k x hf
   have:=h.uniq hm he' (h3.trans hk'.symm)
   subst this
   exact⟨j,e,x,h1,h2,h3,rfl,hr⟩
theorem gF.push{es:List MapEntry}(h:gF M es f){k:ByteArray}(hk:∀e∈es,e.key≠.string k){x:AC}{v:Value}(hr:Rep M x v)(n:Nat):
 gF M (es++[{key:=.string k,val:=v,born:=n}]) (lJ f k x):=by
 refine⟨fun e he=>?_,?_,fun j hj e he=>?_,fun j y hj=>?_⟩
 ·rcases aE.1 he with he|he
  ·exact h.keys e he
  ·simp at he;subst he;exact⟨k,rfl⟩
 ·refine List.pairwise_append.2 ⟨h.nodup,by simp,fun e he e' he'=>?_⟩
  simp at he';subst he';exact hk e he
 ·have hne:j≠k:=by rintro rfl;rw[iB]at hj;simp at hj
  rw[kn _ _ hne]at hj
  rcases aE.1 he with he|he
  ·exact h.no j hj e he
  ·simp at he;subst he;simpa using Ne.symm hne
 ·by_cases hne:j=k
  ·subst hne
   rw[iB]at hj;simp at hj;subst hj
   exact⟨_,aE.2 (.inr (bQ.2 rfl)),rfl,hr⟩
  ·rw[kn _ _ hne]at hj
   obtain⟨e,he,h1,h2⟩:=h.yes j y hj
   exact⟨e,aE.2 (.inl he),h1,h2⟩
theorem gF.set{es:List MapEntry}(h:gF M es f){k:ByteArray}{j:Nat}{e:MapEntry}(he:es[j]?=some e)(hk:e.key=.string k){x:AC}{v:Value}(hr:Rep M x v):
 gF M (es.modify j fun e=>{e with key:=.string k,val:=v}) (lJ f k x):=by
 have hget:∀i,(es.modify j fun e=>{e with key:=.string k,val:=v})[i]?=if j=i then some {e with key:=.string k,val:=v}else es[i]?:=by
  intro i
  rw[List.getElem?_modify]
  by_cases c:j=i
  ·subst c;simp[he]
  ·simp[c]
 have hkeys:(es.modify j fun e=>{e with key:=.string k,val:=v}).map (·.key)=es.map (·.key):=by
  apply fQ
  intro i
  rw[co,co,hget]
  by_cases c:j=i
  ·subst c;simp[he,hk]
  ·simp[c]
 have hmem:∀d∈(es.modify j fun e=>{e with key:=.string k,val:=v}),∃d'∈es,d'.key=d.key:=fun d hd=>by
  have:d.key∈es.map (·.key):=by rw[<-hkeys];exact aZ.2 ⟨d,hd,rfl⟩
  obtain⟨d',h1,h2⟩:=aZ.1 this
  exact⟨d',h1,h2⟩
 refine⟨fun d hd=>?_,?_,fun i hi d hd=>?_,fun i y hi=>?_⟩
 ·obtain⟨d',h1,h2⟩:=hmem d hd
  rw[<-h2];exact h.keys d' h1
 ·have:=h.nodup
  rw[<-List.pairwise_map (f:=fun(e:MapEntry)=>e.key) (R:=(·≠·))]at this⊢
  rw[hkeys];exact this
 ·have hne:i≠k:=by rintro rfl;rw[iB]at hi;simp at hi
  rw[kn _ _ hne]at hi
  obtain⟨d',h1,h2⟩:=hmem d hd
  rw[<-h2];exact h.no i hi d' h1
 ·by_cases hne:i=k
  ·subst hne
   rw[iB]at hi;simp at hi;subst hi
   exact⟨{e with key:=.string i,val:=v},aY (i:=j) (by rw[hget];simp),rfl,hr⟩
  ·rw[kn _ _ hne]at hi
   obtain⟨d,hd,h1,h2⟩:=h.yes i y hi
   obtain⟨q,hq,rfl⟩:=bk.1 hd
   refine⟨es[q],aY (i:=q) ?_,h1,h2⟩
   rw[hget]
   have:j≠q:=by
    rintro rfl
    rw[a6 hq]at he
    simp at he;rw[he,hk]at h1;simp at h1;exact hne h1.symm
   simp[this]
theorem Sim.newMap(s:Sim M H w){es:Array MapEntry}{n:Nat}{f:ByteArray->Option AC}(hm:gF M es.toList f):
 Sim M (H.set w.heap.size (.map f)) (w.alloc (.map es n))/\bC M H w M (H.set w.heap.size (.map f)) (w.alloc (.map es n)):=by
 have e:(w.alloc (.map es n)).heap=w.heap.push (.map es n):=rfl
 have s':=s.push _ _ e
 have t:=bC.push (M:=M) (H:=H) _ _ e ⟨rfl,rfl⟩
 refine⟨⟨s'.mem,fun b o h=>?_⟩,⟨t.le,t.size,t.same,fun b h=>?_,t.io⟩⟩
 ·rw[aK]at h
  split at h
  ·rename_i hb;subst hb
   simp at h;subst h
   exact⟨es,n,by rw[e];simp,hm,fun o=>s.mem_free (aA _)⟩
  ·exact s'.obj b o h
 ·rw[aK]at h
  split at h
  ·rename_i hb;exact .inr (by omega)
  ·exact .inl h
theorem Sim.setMap(s:Sim M H w){r:Nat}{g:ByteArray->Option AC}(hg:H.get r=some (.map g)){es:Array MapEntry}{n:Nat}{f:ByteArray->Option AC}(hm:gF M es.toList f):
 Sim M (H.set r (.map f)) {w with heap:=w.heap.setIfInBounds r (.map es n)}/\bC M H w M (H.set r (.map f)) {w with heap:=w.heap.setIfInBounds r (.map es n)}:=by
 obtain⟨es0,n0,hw,hm0,hM⟩:=s.obj r _ hg
 obtain⟨h1,h2⟩:=heap_set (o':=.map es n) hw
 refine⟨⟨fun b o v h=>?_,fun b o h=>?_⟩,⟨bF.le_refl M,by simp,fun b hb hn=>⟨h2 b ?_,fun _=>rfl⟩,fun b h=>?_,rfl,rfl⟩⟩
 ·have hne:b≠r:=by rintro rfl;rw[hM o]at h;simp at h
  have:=s.mem b o v h
  rw[eo]at*
  rw[show({w with heap:=w.heap.setIfInBounds r (.map es n)}:World).heap[b]?=w.heap[b]? from h2 b hne]
  exact this
 ·rw[aK]at h
  split at h
  ·rename_i hb;subst hb;simp at h;subst h
   exact⟨es,n,h1,hm,hM⟩
  ·rename_i hb
   have:=s.obj b o h
   cases o<;>simp only[gY]at*<;>rw[h2 b hb]<;>exact this
 ·rintro rfl;rw[hg]at hn;simp at hn
 ·rw[aK]at h
  split at h
  ·rename_i hb;subst hb;exact .inl (by simp[hg])
  ·exact .inl h
end
inductive LOp where
 |load(g:Option Nat)(a:aG)
 |bytesToStr(x:aG)
 deriving Inhabited
def je:List (List AC)->Option (List UInt8)
 |[]=>some []
 |[.lit (.int .u8 n)]::r=>(je r).map (UInt8.ofNat n.toNat::·)
 |_=>none
def LOp.val(H:aj)(E:aG->AC):LOp->Option (AC×Option Nat)
 |.load g a=>match E a with
  |.ptr r off=>match H.get r with
   |some (.cells cs)=>(fH g cs off).map (·,some r)
   |some (.const _ cs)=>(fH g cs off).map (·,some r)
   |_=>none
  |.elt cs=>(fH g cs 0).map (·,none)
  |_=>none
 |.bytesToStr x=>match E x with
  |.sl 1 _ es=>(je es).map fun l=>(.lit (.string ⟨l.toArray⟩),none)
  |.lit (.slice none 0 0)=>some (.lit (.string .empty),none)
  |_=>none
def im:List Value->cz
 |.tuple ts::z=>.typed ts.size (z.map .lit)
 |z=>.cells (z.map .lit)
def rT(t:TypeId):List Value->List Value
 |[.pointer none,.slice none 0 0]=>[.tuple (ft t .nilIface),.pointer none,.slice none 0 0]
 |z=>z
inductive vu where
 |clos
 |lookup(z:AC)(ok:Bool)
 |mapSet
 |mkMap
 |mapClone
 |invoke(name:String)
 deriving Inhabited
inductive EOp where
 |box(x:aG)
 |alloc(zero:List Value)
 |buildSlice(sz len:Nat)(zero:List Value)(parts:List (Nat×Nat×aG))
 |store(n:Nat)(a x:aG)
 |append(sz bytes:Nat)(s y:aG)
 |appendM(sz bytes:Nat)(s y:aG)
 |call(f:FuncId)(args:List aG)
 |callX(c:vu)(args:List aG)
 deriving Inhabited
def bg(sz:Nat):Nat->List AC->List (List AC)
 |0,_=>[]
 |n+1,cs=>cs.take sz::bg sz n (cs.drop sz)
def iM(sz:Nat):AC->Option (List (List AC))
 |.sl sz' _ es=>if sz=sz' then some es else none
 |.lit (.slice _ 0 _)=>some []
 |_=>none
def gT(H:aj)(sz:Nat):AC->Option (List (List AC))
 |.lit (.slice (some ⟨b,o,none⟩) n _)=>if n=0 then some []else match H.get b with
  |some (.cells cs)=>if o+n*sz<=cs.length/\n<=LIM then some (bg sz n (cs.drop o))else none
  |_=>none
 |x=>iM sz x
def kj(H:aj)(sz:Nat)(ys:List (List AC))(K:(Nat->Prop)->AC->aj->Prop):AC->Prop
 |.lit (.slice none 0 0)=>ys.length<=2^32/\(ys=[]->K (fun _=>False) (.lit (.slice none 0 0)) H)/\
  (ys≠[]->(∀b m,H.get b=none->ys.length*sz<=m->K (fun _=>False) (.sl sz (some (b,ys.length*sz,m)) ys) (H.set b (.tail (ys.length*sz) m)))\/
   (∀b c cs,H.get b=none->ys.length<=c->cs.length=c*sz->cs.take (ys.length*sz)=ys.flatten->
    K (fun _=>False) (.lit (.slice (some ⟨b,0,none⟩) ys.length c)) (H.set b (.cells cs))))
 |.sl sz' (some (b,n,m)) es=>sz=sz'/\es.length+ys.length<=2^32/\H.get b=some (.tail n m)/\
  ((∀b' m',(b'=b\/H.get b'=none)->(es.length+ys.length)*sz<=m'->
   K (fun _=>False) (.sl sz (some (b',(es.length+ys.length)*sz,m')) (es++ys)) (H.set b' (.tail ((es.length+ys.length)*sz) m')))\/
   (es=[]/\m=0/\∀b' c cs,(b'=b\/H.get b'=none)->ys.length<=c->cs.length=c*sz->cs.take (ys.length*sz)=ys.flatten->
    K (·=b) (.lit (.slice (some ⟨b',0,none⟩) ys.length c)) (H.set b' (.cells cs))))
 |.lit (.slice (some ⟨b,0,none⟩) n c)=>∃cs,H.get b=some (.cells cs)/\cs.length=c*sz/\n<=c/\n+ys.length<=2^32/\
  ∀b' c' cs',(b'=b\/H.get b'=none)->n+ys.length<=c'->cs'.length=c'*sz->cs'.take ((n+ys.length)*sz)=cs.take (n*sz)++ys.flatten->
   K (·=b) (.lit (.slice (some ⟨b',0,none⟩) (n+ys.length) c')) (H.set b' (.cells cs'))
 |_=>False
def zp(R:AC->aj->Prop)(Hf:aj):Prop:=∀N,∃r H',R r H'/\∀b,H'.get b≠none->Hf.get b=none->N<=b
def iz(P:Program)(f:FuncId):Bool:=match P.funcs[f]? with
 |some fn=>fn.body.isSome&&fn.name != "runtime.NumGoroutine"
 |none=>false
def iC(z:AC)(ok:Bool):Option AC->AC
 |some x=>if ok then .tup [x,.lit (.bool true)]else x
 |none=>if ok then .tup [z,.lit (.bool false)]else z
def ux(P:Program)(t:TypeId)(name:String):Option FuncId:=match P.info? t,P.underlying t with
 |some _,some (.pointer _)=>none
 |some i,some _=>match i.methods.find? (·.name==name)with
  |some m=>if m.path.isEmpty then match m.func with
   |some (f,false)=>some f
   |_=>none
   else none
  |none=>none
 |_,_=>none
def mg(P:Program)(c:vu)(xs:List AC)(H:aj)(R:AC->aj->Prop):Prop:=match c,xs with
 |.clos,.fn (.func g) first cap::xs=>iz P g=true/\ACalls P g (first++xs++cap) H R
 |.lookup z ok,[.mp r,.lit (.string k)]=>∃f,H.get r=some (.map f)/\R (iC z ok (f k)) H
 |.mapSet,[.mp r,.lit (.string k),v]=>∃f v',Le v v'/\H.get r=some (.map f)/\R (.tup []) (H.set r (.map (lJ f k v')))
 |.mkMap,[]=>∀b,H.get b=none->R (.mp b) (H.set b (.map fun _=>none))
 |.invoke name,.iface t y::xs=>∃f,ux P t name=some f/\iz P f=true/\ACalls P f (y::xs) H R
 |.mapClone,[.iface t (.mp r)]=>∃f,H.get r=some (.map f)/\∀b,H.get b=none->R (.iface t (.mp b)) (H.set b (.map f))
 |_,_=>False
def EOp.run(P:Program)(E:aG->AC)(H:aj)(dr:Bool)(K:(Nat->Prop)->AC->aj->Prop):EOp->Prop
 |.box x=>match(E x).cells? with
  |some cs=>∀b,H.get b=none->K (fun _=>False) (.ptr b 0) (H.set b (.cells cs))
  |none=>False
 |.alloc zero=>∀b,H.get b=none->K (fun _=>False) (.ptr b 0) (H.set b (im zero))
 |.buildSlice sz len zero parts=>match gX ((ax len (zero.map AC.lit)).flatten) (parts.map fun p=>(p.1,p.2.1,E p.2.2))with
  |some cs=>∀b,H.get b=none->K (fun _=>False) (.sl sz (some (b,len*sz,len*sz)) (bg sz len cs)) (H.set b (.tail (len*sz) (len*sz)))
  |none=>False
 |.store n a x=>match E a,(E x).cells? with
  |.ptr r off,some xs=>match H.get r with
   |some (.cells cs)=>xs.length=n/\off+n<=cs.length/\K (·=r) (.tup []) (H.set r (.cells (bx cs off xs)))
   |_=>False
  |_,_=>False
 |.append sz bytes s y=>match iM sz (E y)with
  |some ys=>match E s with
   |.lit (.slice none 0 0)=>ys.length<=2^32/\(ys=[]->K (fun _=>False) (.lit (.slice none 0 0)) H)/\
    (ys≠[]->∀b m,H.get b=none->ys.length*sz<=m->K (fun _=>False) (.sl sz (some (b,ys.length*sz,m)) ys) (H.set b (.tail (ys.length*sz) m)))
   |.sl sz' (some (b,n,m)) es=>sz=sz'/\es.length+ys.length<=2^32/\H.get b=some (.tail n m)/\
    ∀b' m',(b'=b\/H.get b'=none)->(es.length+ys.length)*sz<=m'->
     K (fun _=>False) (.sl sz (some (b',(es.length+ys.length)*sz,m')) (es++ys)) (H.set b' (.tail ((es.length+ys.length)*sz) m'))
   |_=>False
  |none=>False
 |.appendM sz bytes s y=>match gT H sz (E y)with
  |some ys=>(∀e∈ys,e.length=sz)/\kj H sz ys K (E s)
  |none=>False
 |.call f args=>∃Hf R,Hf.sub H/\ACalls P f (args.map E) Hf R/\
  (dr=true->zp R Hf)/\
  ∀r H',R r H'->(∀b,H'.get b≠none->Hf.get b=none->H.get b=none)->K (fun b=>Hf.get b≠none) r (H.swap Hf H')
 |.callX c args=>∃Hf R,Hf.sub H/\mg P c (args.map E) Hf R/\
  (dr=true->zp R Hf)/\
  ∀r H',R r H'->(∀b,H'.get b≠none->Hf.get b=none->H.get b=none)->K (fun b=>Hf.get b≠none) r (H.swap Hf H')
def kU(P:Program)(t:TypeId):Option (List Value):=match P.info? t with
 |some i=>match i.zero with
  |some z=>if z.cells.toList.all sW&&z.cells.size==i.size then some z.cells.toList else none
  |none=>none
 |none=>none
def zr(P:Program)(t:TypeId):Option AC:=match P.info? t with
 |some i=>match i.zero with
  |some (.agg cs)=>if cs.toList.all sW then some (.agg (cs.toList.map .lit))else none
  |some v=>if sW v then some (.lit v)else none
  |none=>none
 |none=>none
def u6(P:Program)(t:TypeId):Option AC:=match P.underlying t with
 |some (.map k e)=>match P.underlying k with
  |some .string=>zr P e
  |_=>none
 |_=>none
def xJ(P:Program)(f:FuncId):Bool:=match P.funcs[f]? with
 |some fn=>fn.body.isNone&&fn.name== "maps.clone" &&fn.origin== ""
 |none=>false
def resL(P:Program):Op->Option LOp
 |.load t a=>match wS P t,eF a with
  |some g,some x=>some (.load g x)
  |_,_=>none
 |.convert s d x=>match P.underlying s,P.underlying d,eF x with
  |some (.slice e),some .string,some a=>match P.underlying e with
   |some (.int .u8)=>some (.bytesToStr a)
   |_=>none
  |_,_,_=>none
 |_=>none
def gO(P:Program):Op->Option EOp
 |.box t x=>(eF x).map .box
 |.alloc t=>(kU P t).map fun z=>.alloc (rT t z)
 |.buildSlice t len parts=>match P.underlying t with
  |some (.slice e)=>match kU P e with
   |some z=>if len*z.length<=2^24/\0<z.length then(mn (fun i=>some (i*z.length,z.length)) parts.toList).map (.buildSlice z.length len z)else none
   |none=>none
  |_=>none
 |.store t a x=>match P.info? t,eF a,eF x with
  |some i,some a,some x=>some (.store i.size a x)
  |_,_,_=>none
 |.call {callee:=.builtin .append,args,argTypes}=>match args.toList,argTypes.toList with
  |[s,x],[t,u]=>if t=u then match P.underlying t,eF s,eF x with
   |some (.slice e),some s,some x=>match kU P e,P.info? e with
    |some z,some i=>if 0<z.length/\i.bytes<=2^12 then some (.append z.length i.bytes s x)else none
    |_,_=>none
   |_,_,_=>none
   else none
  |_,_=>none
 |.call {callee:=.value (.func f),args,..}=>if iz P f then(jz args.toList).map (.call f)else
  if xJ P f then(jz args.toList).map (.callX .mapClone)else none
 |.call {callee:=.value (.tmp t),args,..}=>(jz (.tmp t::args.toList)).map (.callX .clos)
 |.call {callee:=.invoke r name,args,..}=>(jz (r::args.toList)).map (.callX (.invoke name))
 |.lookup t x i ok=>match u6 P t,jz [x,i]with
  |some z,some zas=>some (.callX (.lookup z ok) zas)
  |_,_=>none
 |.mapUpdate t m k v=>match u6 P t,jz [m,k,v]with
  |some _,some zas=>some (.callX .mapSet zas)
  |_,_=>none
 |.makeMap t none=>match u6 P t with
  |some _=>some (.callX .mkMap [])
  |none=>none
 |_=>none
section
variable {P:Program}{w:World}{M:bF}{H:aj}
theorem m7{t:TypeId}{g:Option Nat}(h:wS P t=some g){cs:List AC}{b off:Nat}{r:AC}(f:Nat->Value)
(hm:∀(j:Nat) x,cs[j]?=some x->w.cell? ⟨b,off+j,none⟩=some (f j)/\Rep M x (f j))(h1:∀x∈cs,x.one=true){o:Nat}
(hv:fH g cs o=some r):∃v,(loadVar t ⟨b,off+o,none⟩).run P w=.ok v w/\Rep M r v:=by
 simp only[wS]at h
 split at h
 ·rename_i d i hd hi
  have hs:(sizeOf t).run P w=.ok i.size w:=by simp[sizeOf,typeInfo,program,hi,Sem.run]
  have hu:(underlying t).run P w=.ok d w:=by simp[underlying,program,hd,Sem.run]
  simp only[Option.some.injEq]at h
  subst h
  simp only[fH]at hv
  have agg:∀n,i.size=n->(if o+n<=cs.length then some (AC.agg ((cs.drop o).take n))else none)=some r->
   ∃v,(loadCells ⟨b,off+o,none⟩ i.size).run P w=.ok v w/\Rep M r (.agg v):=by
   intro n hn hv
   subst hn
   split at hv
   ·rename_i hle
    simp at hv;subst hv
    refine⟨_,run_loadCells w ⟨b,off+o,none⟩ i.size (fun j=>f (o+j)) (fun j hj=>?_),?_⟩
    ·rw[Addr.add_lit,Nat.add_assoc]
     exact(hm (o+j) _ (a6 (by omega))).1
    ·refine .agg (fun x hx=>h1 x (fL (cP hx))) (by simp;omega) fun j x v hx hv=>?_
     rw[eT]at hx
     split at hx
     ·rename_i hj
      rw[bU]at hx
      simp only[List.getElem?_toArray,co,List.getElem?_range,Array.getElem?_ofFn]at hv
      have:v=f (o+j):=by simpa[hj]using hv.symm
      subst this
      exact(hm _ x hx).2
     ·simp at hx
   ·simp at hv
  have one:cs[o]?=some r->∃v,w.cell? ⟨b,off+o,none⟩=some v/\Rep M r v:=fun hv=>⟨_,hm o r hv⟩
  cases d
  case struct=>
   obtain⟨v,e1,e2⟩:=agg _ rfl hv
   exact⟨_,by simp[loadVar,isAgg,hu,hs,e1],e2⟩
  case array=>
   obtain⟨v,e1,e2⟩:=agg _ rfl hv
   exact⟨_,by simp[loadVar,isAgg,hu,hs,e1],e2⟩
  all_goals
   obtain⟨v,e1,e2⟩:=one hv
   exact⟨v,by simp[loadVar,isAgg,hu,e1],e2⟩
 ·simp at h
end
section
variable {P:Program}{w:World}{M:bF}
theorem lF{ρ:Operand->Value}{E:aG->AC}(hE:∀x xa,eF x=some xa->Rep M (E xa) (ρ x)):∀(l:List Operand) (zas:List aG),jz l=some zas->
 (zas.map E).length=(l.map ρ).length/\∀(j:Nat) x v,(zas.map E)[j]?=some x->(l.map ρ)[j]?=some v->Rep M x v
 |[],zas,h=>by simp[jz]at h;subst h;simp
 |x::l,zas,h=>by
  simp only[jz]at h
  split at h
  ·rename_i a r ha hr
   simp at h;subst h
   obtain⟨h1,h2⟩:=lF hE l r hr
   refine⟨by simpa using h1,fun j y v hy hv=>?_⟩
   cases j with
   |zero=>simp at hy hv;subst hy hv;exact hE _ _ ha
   |succ j=>exact h2 j y v (by simpa using hy) (by simpa using hv)
  ·simp at h
theorem qt{t:TypeId}{d:TypeDesc}(hu:P.underlying t=some d){k:Value}(hk:wq d k=true){x:AC}{b:Bool}(h:qv k x=some b){u:Value}(hr:Rep M x u)(n:Nat):
 (Op.equalIn (n+1) t u k).run P w=.ok b w:=by
 have huu:(underlying t).run P w=.ok d w:=by simp[underlying,program,hu,Sem.run]
 unfold qv at h
 split at h<;>simp at h<;>subst h<;>cases d<;>simp[wq]at hk<;>cases hr<;>simp[Op.equalIn,huu]
theorem qu{k:Value}{x:AC}{b:Bool}(h:qv k x=some b){u:Value}(hr:Rep M x u)(op:BinOp)(t:TypeId)(a c:Operand):eqGuard op t a c u k=pure ():=by
 unfold qv at h
 split at h<;>simp at h<;>cases hr<;>cases op<;>rfl
theorem ut{k:Value}{x:AC}{b:Bool}(h:qv k x=some b){u:Value}(hr:Rep M x u)(t:TypeId):
 binOp .eql t u k=(do Pure.pure (.bool (<-Op.equal t u k)))/\binOp .neq t u k=(do Pure.pure (.bool (!(<-Op.equal t u k)))):=by
 unfold qv at h
 split at h<;>simp at h<;>cases hr<;>exact⟨rfl,rfl⟩
theorem wV{o:Oper}{p:POp}(hres:qf P o.op=some p){ρ:Operand->Value}{E:aG->AC}
(hE:∀x xa,eF x=some xa->Rep M (E xa) (ρ x))(hρ:∀v,ρ (.const v)=v){r:AC}(hv:p.val E=some r):
 ∃v,(execOp ρ o).run P w=.ok (.value v) w/\Rep M r v:=by
 obtain⟨dst,op,ty,pos,after,guard⟩:=o
 cases op<;>simp only[qf]at hres<;>try(simp at hres;done)
 case binOp op t x y yt=>
  cases y<;>simp only[qf]at hres<;>try(simp at hres;done)
  rename_i k
  split at hres
  ·rename_i d a hu ha
   split at hres
   ·rename_i hk
    have hr:=hE _ _ ha
    split at hres<;>simp at hres<;>subst hres<;>simp only[POp.val,a7]at hv<;>obtain⟨b,hb,rfl⟩:=hv
    ·refine⟨.bool b,?_,.lit trivial⟩
     have:=qt (w:=w) hu hk hb hr 9999
     simp only[execOp,hρ,qu hb hr,(ut hb hr t).1,Op.equal]
     rw[Sem.run_bind,Sem.run_bind,Sem.run_pure,Result.andThen_ok,Sem.run_bind]
     rw[show Op.maxDepth=9999+1 from rfl,this];rfl
    ·refine⟨.bool !b,?_,.lit trivial⟩
     have:=qt (w:=w) hu hk hb hr 9999
     simp only[execOp,hρ,qu hb hr,(ut hb hr t).2,Op.equal]
     rw[Sem.run_bind,Sem.run_bind,Sem.run_pure,Result.andThen_ok,Sem.run_bind]
     rw[show Op.maxDepth=9999+1 from rfl,this];rfl
   ·simp at hres
  ·simp at hres
 case makeFunc f zas cs=>
  cases f<;>simp only[qf]at hres<;>try(simp at hres;done)
  split at hres
  ·rename_i a c ha hc
   simp at hres;subst hres
   simp only[POp.val,Option.some.injEq]at hv;subst hv
   obtain⟨h1,h2⟩:=lF hE _ _ ha
   obtain⟨h3,h4⟩:=lF hE _ _ hc
   refine⟨_,rfl,.fn (by simpa using h1) (fun j x v hx hv=>h2 j x v hx ?_) (by simpa using h3) (fun j x v hx hv=>h4 j x v hx ?_)⟩
   ·rw[<-dy]at hv;simpa using hv
   ·rw[<-dy]at hv;simpa using hv
  ·simp at hres
 case typeAssert x xt t ok=>
  cases ok with
  |true=>simp at hres
  |false=>
   simp only[]at hres
   split at hres
   ·simp at hres
   ·rename_i d a hni hu ha
    simp at hres;subst hres
    have hr:=hE _ _ ha
    have huu:(underlying t).run P w=.ok d w:=by simp[underlying,program,hu,Sem.run]
    have hni':∀ms,d≠.interface ms:=fun ms e=>hni ms e
    simp only[POp.val]at hv
    split at hv
    ·rename_i t' y he
     rw[he]at hr
     generalize hg:ρ x=u at hr
     cases hr with
     |iface hi=>
      split at hv
      ·rename_i ht
       subst ht
       simp at hv;subst hv
       refine⟨_,?_,hi⟩
       simp only[execOp,hg,Instr.typeAssert,Sem.run_bind,huu,Result.andThen_ok]
       cases d<;>first|exact absurd rfl (hni' _)|simp
      ·simp at hv
    ·simp at hv
   ·simp at hres
 case call c=>
  obtain⟨callee,args,argTypes⟩:=c
  cases callee with
  |invoke r m=>simp at hres
  |value f=>simp at hres
  |builtin b=>
   cases b<;>simp only[qf]at hres<;>try(simp at hres;done)
   split at hres
   ·rename_i x y hl
    have ea:args=#[x,y]:=by apply eW.1;simpa using hl
    subst ea
    split at hres
    ·rename_i a b ha hb
     simp at hres;subst hres
     simp only[POp.val]at hv
     split at hv
     ·rename_i k1 n1 k2 n2 h1 h2
      have hr:=hE _ _ ha
      have hi:=hE _ _ hb
      rw[h1]at hr;rw[h2]at hi
      obtain⟨e1,o1⟩:=hr.lit_inv
      obtain⟨e2,o2⟩:=hi.lit_inv
      split at hv
      ·rename_i hk;subst hk
       simp at hv;subst hv
       refine⟨.int k1 (if n2<n1 then n2 else n1),?_,.lit (by split<;>assumption)⟩
       simp[execOp,resolve,invoke,builtin,e1,e2,run_min_int2]
      ·simp at hv
     ·simp at hv
    ·simp at hres
   ·simp at hres
theorem wU{o:Oper}{p:POp}(hres:x9 P o.op=some p){ρ:Operand->Value}{E:aG->AC}
(hE:∀x xa,eF x=some xa->Rep M (E xa) (ρ x))(hρ:∀v,ρ (.const v)=v){r:AC}(hv:p.val E=some r):
 ∃v,(execOp ρ o).run P w=.ok (.value v) w/\Rep M r v:=by
 unfold x9 at hres
 split at hres
 ·rename_i q hq
  simp at hres;subst hres
  exact POp.sound hq hE hρ hv
 ·exact wV hres hE hρ hv
end
section
variable {P:Program}{w:World}{M:bF}{H:aj}
theorem gY.cells_get{b:Nat}{cs:List AC}(h:gY M w b (.cells cs)):
 ∃f:Nat->Value,(∀(j:Nat) x,cs[j]?=some x->w.cell? ⟨b,0+j,none⟩=some (f j)/\Rep M x (f j))/\∀x∈cs,x.one=true:=by
 obtain⟨vs,el,h1,h2,h3,h4,h5⟩:=h
 refine⟨fun j=>vs.getD j undef,fun j x hx=>?_,h2⟩
 have hlt:j<cs.length:=(aN.1 hx).1
 have hv:vs[j]?=some (vs.getD j undef):=by simp[Array.getD,show j<vs.size by omega]
 refine⟨?_,h4 j x _ hx hv⟩
 rw[eo,h1];simp only[bY];exact hv
theorem vi:∀(es:List (List AC)) (l:List UInt8),je es=some l->∀(f:Nat->Value),(∀i e x,es[i]?=some e->e[0]?=some x->Rep M x (f i))->
 es.length=l.length/\∀i (h:i<l.length),f i=.int .u8 (l[i]'h).toNat:=by
 intro es
 induction es with
 |nil=>intro l h f hf;simp[je]at h;subst h;simp
 |cons e es ih=>
  intro l h f hf
  match e,h with
  |[.lit (.int .u8 n)],h=>
   simp only[je,a7]at h
   obtain⟨l',h',rfl⟩:=h
   obtain⟨h1,h2⟩:=ih l' h' (fun i=>f (i+1)) (fun i e x he hx=>hf (i+1) e x (by simpa using he) hx)
   refine⟨by simp[h1],fun i hi=>?_⟩
   cases i with
   |zero=>
    obtain⟨e,ok⟩:=(hf 0 _ _ rfl rfl).lit_inv
    simp only[okv,IntKind.min,IntKind.max,IntKind.bits,IntKind.signed,if_false,aq]at ok
    simp only[e,List.getElem_cons_zero]
    congr 1
    simp only[UInt8.toNat_ofNat',Nat.reducePow]
    omega
   |succ i=>simpa using h2 i (by simpa using hi)
  |[],h=>simp[je]at h
  |.lit (.int .i8 _)::_,h=>simp[je]at h
  |x::y::r,h=>simp[je]at h
theorem LOp.sound{o:Oper}{l:LOp}(hres:resL P o.op=some l){ρ:Operand->Value}{E:aG->AC}
(hE:∀x xa,eF x=some xa->Rep M (E xa) (ρ x))(s:Sim M H w){r:AC}{ob:Option Nat}(hv:l.val H E=some (r,ob)):
 ∃v,(execOp ρ o).run P w=.ok (.value v) w/\Rep M r v:=by
 obtain⟨dst,op,ty,pos,after,guard⟩:=o
 cases op<;>simp only[resL]at hres<;>try(simp at hres;done)
 case load t a=>
  split at hres
  ·rename_i g x hg hx
   simp at hres;subst hres
   have hr:=hE _ _ hx
   simp only[LOp.val]at hv
   split at hv
   ·rename_i b off he
    rw[he]at hr
    have e:=hr.ptr_inv
    split at hv
    ·rename_i cs hb
     simp only[a7,Prod.mk.injEq]at hv
     obtain⟨r',hp,rfl,rfl⟩:=hv
     obtain⟨f,h1,h2⟩:=(s.obj b _ hb).cells_get
     obtain⟨v,e1,e2⟩:=m7 (P:=P) (w:=w) hg f h1 h2 hp
     refine⟨v,?_,e2⟩
     simp only[bY]at e1
     simp only[execOp,Instr.loadAt,e,Instr.sureAddr,Sem.run_bind,Sem.run_pure,Result.andThen_ok,e1]
    ·rename_i o cs hb
     simp only[a7,Prod.mk.injEq]at hv
     obtain⟨r',hp,rfl,rfl⟩:=hv
     obtain⟨-,vs,h1,h2,h3⟩:=s.obj b _ hb
     obtain⟨v,e1,e2⟩:=m7 (P:=P) (w:=w) hg vs (fun j x hx=>⟨s.mem _ _ _ (by rw[bY];exact h2 j (aN.1 hx).1),h3 j x hx⟩) h1 hp
     refine⟨v,?_,e2⟩
     simp only[bY]at e1
     simp only[execOp,Instr.loadAt,e,Instr.sureAddr,Sem.run_bind,Sem.run_pure,Result.andThen_ok,e1]
    ·simp at hv
   ·rename_i cs he
    rw[he]at hr
    simp only[a7,Prod.mk.injEq]at hv
    obtain⟨r',hp,rfl,rfl⟩:=hv
    generalize hg':ρ a=u at hr
    cases hr with
    |elt vs h1 hm hrr=>
     rename_i b off
     obtain⟨v,e1,e2⟩:=m7 (P:=P) (w:=w) hg vs (fun j x hx=>⟨s.mem _ _ _ (hm j x hx),hrr j x hx⟩) h1 hp
     refine⟨v,?_,e2⟩
     simp only[Nat.add_zero]at e1
     simp only[execOp,Instr.loadAt,hg',Instr.sureAddr,Sem.run_bind,Sem.run_pure,Result.andThen_ok,e1]
   ·simp at hv
  ·simp at hres
 case convert sr d x=>
  split at hres
  ·rename_i e a hu1 hu2 ha
   split at hres
   ·rename_i hue
    simp at hres;subst hres
    have hus:(underlying sr).run P w=.ok (.slice e) w:=by simp[underlying,program,hu1,Sem.run]
    have hud:(underlying d).run P w=.ok .string w:=by simp[underlying,program,hu2,Sem.run]
    have hude:(underlying e).run P w=.ok (.int .u8) w:=by simp[underlying,program,hue,Sem.run]
    have hr:=hE _ _ ha
    simp only[LOp.val]at hv
    split at hv
    ·rename_i tok es he
     rw[he]at hr
     simp only[a7,Prod.mk.injEq]at hv
     obtain⟨l,hl,rfl,rfl⟩:=hv
     generalize hg':ρ x=u at hr
     cases hr with
     |sl0=>
      simp[je]at hl;subst hl
      rename_i aa cc
      refine⟨.string .empty,?_,.lit (gN _)⟩
      simp only[execOp,hg',Sem.run_bind,run_convert_bytes_string w sr d e _ _ _ hu1 hue hu2]
      cases aa with
      |none=>simp[Conv.bytesToString]
      |some aa=>
       have:=run_bytesToString (P:=P) w aa 0 cc [] (by simp[loadCells,loadCellsFrom])
       simp[this]
     |sl vs hlim hcap hs hm hrr ht=>
      rename_i b off cap
      obtain⟨hb1,hb2⟩:=vi es l hl (fun i=>vs i 0) (fun i e x he hx=>hrr i 0 e x he hx)
      refine⟨.string ⟨l.toArray⟩,?_,.lit ?_⟩
      ·simp only[execOp,hg',Sem.run_bind,run_convert_bytes_string w sr d e _ _ _ hu1 hue hu2]
       have hload:(loadCells ⟨b,off,none⟩ es.length).run P w=.ok ((l.map fun c=>(c.toNat:Int)).map (Value.int .u8)).toArray w:=by
        have h1:=run_loadCells_list (P:=P) w ⟨b,off,none⟩ ((l.map fun c=>(c.toNat:Int)).map (Value.int .u8)) (fun j v hj=>by
         rw[List.map_map,co,a7]at hj
         obtain⟨c,hc,rfl⟩:=hj
         have hlt:j<l.length:=(aN.1 hc).1
         have hce:l[j]=c:=(aN.1 hc).2
         have hei:es[j]?=some (es[j]'(by omega)):=a6 _
         have hlen:=(hs _ (aY hei)).1
         have:=hm j 0 _ _ hei (a6 (show 0<(es[j]'(by omega)).length by omega))
         rw[Addr.add_lit]
         rw[Nat.mul_one,Nat.add_zero]at this
         rw[s.mem _ _ _ this,hb2 j hlt,hce];rfl)
        simpa[hb1]using h1
       have:=run_bytesToString (P:=P) w ⟨b,off,none⟩ es.length cap (l.map fun c=>(c.toNat:Int)) hload
       rw[this]
       simp only[Result.andThen_ok,Sem.run_pure]
       congr 3
       have:∀(l:List UInt8) (acc:ByteArray),(l.map fun c=>(c.toNat:Int)).foldl (fun r n=>r.push (UInt8.ofNat n.toNat)) acc=⟨(acc.data.toList++l).toArray⟩:=by
        intro l
        induction l with
        |nil=>intro acc;simp
        |cons c l ih=>intro acc;simp only[aU,d7,ih];simp[ByteArray.push]
       rw[this];rfl
      ·have hsz:(ByteArray.mk l.toArray).size=l.length:=by simp[ByteArray.size]
       simp only[okv];omega
    ·rename_i he
     rw[he]at hr
     obtain⟨e',-⟩:=hr.lit_inv
     simp at hv
     obtain⟨rfl,rfl⟩:=hv
     refine⟨.string .empty,?_,.lit ?_⟩
     ·simp only[execOp,convert,hus,hud,e',hude,Conv.bytesToString,Sem.run_bind,Sem.run_pure,Result.andThen_ok]
     ·simp[okv]
    ·simp at hv
   ·simp at hres
  ·simp at hres
theorem km{t:TypeId}{z:List Value}(h:kU P t=some z):
 ∃i v,P.info? t=some i/\i.zero=some v/\v.cells.toList=z/\v.cells.size=i.size/\(∀x∈z,okv x):=by
 simp only[kU]at h
 split at h
 ·rename_i i hi
  split at h
  ·rename_i v hv
   split at h
   ·rename_i hc
    simp only[aw,beq_iff_eq]at hc
    simp at h
    exact⟨i,v,hi,hv,h,hc.2,fun x hx=>jJ ((aS.1 hc.1) x (h▸hx))⟩
   ·simp at h
  ·simp at h
 ·simp at h
theorem lP{z:List Value}(h:∀x∈z,okv x):∀(j:Nat) x v,(z.map AC.lit)[j]?=some x->z[j]?=some v->Rep M x v:=by
 intro j x v hx hv
 simp only[co,hv,bW,Option.some.injEq]at hx
 subst hx
 exact .lit (h v (aY hv))
theorem yN(sz:Nat):∀(n:Nat) (cs:List AC),n*sz<=cs.length->(bg sz n cs).length=n/\
 ∀i e,(bg sz n cs)[i]?=some e->e.length=sz/\(∀x∈e,x∈cs)/\∀j x,e[j]?=some x->cs[i*sz+j]?=some x:=by
 intro n
 induction n with
 |zero=>intro cs h;simp[bg]
 |succ n ih=>
  intro cs h
  rw[cB,Nat.one_mul]at h
  obtain⟨h1,h2⟩:=ih (cs.drop sz) (by simp;omega)
  refine⟨by simp[bg,h1],fun i e he=>?_⟩
  cases i with
  |zero=>
   simp[bg]at he;subst he
   refine⟨by simp;omega,fun x hx=>cP hx,fun j x hx=>?_⟩
   rw[eT]at hx
   split at hx
   ·simpa using hx
   ·simp at hx
  |succ i=>
   simp only[bg,aB]at he
   obtain⟨a,b,c⟩:=h2 i e he
   refine⟨a,fun x hx=>fL (b x hx),fun j x hx=>?_⟩
   have:=c j x hx
   rw[bU]at this
   rw[show(i+1)*sz+j=sz+(i*sz+j)by rw[cB];omega]
   exact this
theorem rK:∀(parts:List (Nat×Nat×AC)) (cs r:List AC),gX cs parts=some r->r.length=cs.length:=by
 intro parts
 induction parts with
 |nil=>intro cs r h;simp[gX]at h;simp[h]
 |cons p parts ih=>
  intro cs r h
  obtain⟨off,n,x⟩:=p
  simp only[gX]at h
  split at h
  ·split at h
   ·rename_i hc
    rw[ih _ _ h,eZ _ _ _ (by omega)]
   ·simp at h
  ·simp at h
theorem gQ(z:Array Value)(n:Nat):(Builtin.zeroCells z n).size=n*z.size:=by simp[Builtin.zeroCells]
theorem ix{ρ:Operand->Value}{E:aG->AC}(hE:∀x xa,eF x=some xa->Rep M (E xa) (ρ x)):
 ∀(xs:List Operand) (zas:List aG),jz xs=some zas->gP M (zas.map E) (xs.map ρ):=by
 intro xs
 induction xs with
 |nil=>intro zas h;simp[jz]at h;subst h;exact gP.nil M
 |cons x xs ih=>
  intro zas h
  simp only[jz]at h
  split at h
  ·rename_i a r ha hr
   simp at h;subst h
   exact gP.cons (hE x a ha) (ih r hr)
  ·simp at h
theorem uR{sz:Nat}{y:AC}{ys:List (List AC)}(h:iM sz y=some ys){u:Value}(r:Rep M y u)(s:Sim M H w):
 ∃a n c,u=.slice a n c/\n=ys.length/\ys.length<=LIM/\(∀e∈ys,e.length=sz/\∀x∈e,x.one=true)/\
  (ys=[]\/∃b off,a=some ⟨b,off,none⟩/\∃vs:Nat->Nat->Value,(∀i j e x,ys[i]?=some e->e[j]?=some x->w.cell? ⟨b,off+(i*sz+j),none⟩=some (vs i j)/\Rep M x (vs i j))):=by
 cases y<;>simp only[iM]at h<;>try(simp at h;done)
 case lit v=>
  split at h
  ·rename_i e;simp at e
  ·rename_i e
   simp at e;subst e
   simp at h;subst h
   obtain⟨e',-⟩:=r.lit_inv
   exact⟨_,0,_,e',rfl,by simp,by simp,.inl rfl⟩
  ·simp at h
 case sl sz' tok es=>
  split at h
  ·rename_i e;subst e
   simp at h;subst h
   cases r with
   |sl0=>exact⟨_,_,_,rfl,rfl,by simp,by simp,.inl rfl⟩
   |sl vs hlim hcap hs hm hrr ht=>
    refine⟨_,_,_,rfl,rfl,hlim,hs,.inr ⟨_,_,rfl,vs,fun i j e x he hx=>⟨?_,hrr i j e x he hx⟩⟩⟩
    have:=s.mem _ _ _ (hm i j e x he hx)
    rwa[Nat.add_assoc]at this
  ·simp at h
def dY(vs:Nat->Nat->Value)(n sz:Nat):List Value:=(dC (n*sz)).map fun k=>vs (k / sz) (k % sz)
theorem fw(vs:Nat->Nat->Value)(n sz:Nat):(dY vs n sz).length=n*sz:=by simp[dY]
theorem mD{vs:Nat->Nat->Value}{n sz:Nat}(hz:0<sz){i j:Nat}(hi:i<n)(hj:j<sz):(dY vs n sz)[i*sz+j]?=some (vs i j):=by
 have hlt:i*sz+j<n*sz:=by
  have:(i+1)*sz<=n*sz:=bu _ hi
  rw[cB]at this;omega
 simp only[dY,co,List.getElem?_range hlt,bW]
 rw[Nat.mul_comm i sz,Nat.mul_add_div hz,Nat.mul_add_mod,Nat.div_eq_of_lt hj,Nat.mod_eq_of_lt hj,Nat.add_zero]
theorem kw{vs:Nat->Nat->Value}{n sz k:Nat}{v:Value}(h:(dY vs n sz)[k]?=some v):
 ∃i j,i<n/\j<sz/\k=i*sz+j/\v=vs i j:=by
 have hlt:k<n*sz:=by have:=(aN.1 h).1;rwa[fw]at this
 have hz:0<sz:=by rcases Nat.eq_zero_or_pos sz with e|e;· subst e;simp at hlt
                  ·exact e
 refine⟨k / sz,k % sz,?_,Nat.mod_lt _ hz,?_,?_⟩
 ·exact Nat.div_lt_of_lt_mul (by rw[Nat.mul_comm];exact hlt)
 ·rw[Nat.mul_comm];exact(Nat.div_add_mod k sz).symm
 ·simp only[dY,co,List.getElem?_range hlt,bW,Option.some.injEq]at h
  exact h.symm
end
section
variable {P:Program}{w:World}{M:bF}{H:aj}
theorem iu(t ty e:TypeId)(i:TypeInfo)(ht:P.underlying t=some (.slice e))(hi:P.info? e=some i)(base a:Option Addr)(n cap c:Nat)(h:n<=cap):
 (Builtin.append_ #[t,t] ty #[.slice base n cap,.slice a 0 c]).run P w=.ok (.slice base n cap) w:=by
 have hf:(Builtin.firstCells i.size 0 (.slice a 0 c)).run P w=.ok #[] w:=by
  cases a<;>simp[Builtin.firstCells,loadCells,loadCellsFrom]
 cases base<;>simp[Builtin.append_,run_underlying ht,sizeOf,typeInfo,hi,Builtin.lenOf,h,hf,storeCells]
theorem Sim.newTail(s:Sim M H w)(arr:Array Value)(el:TypeId)(w':World)(e:w'.heap=w.heap.push (.cells arr el))(io:pJ w w'){n:Nat}(hn:n<=arr.size):
 Sim (M.frz w.heap.size 0 n arr) (H.set w.heap.size (.tail n arr.size)) w'/\bC M H w (M.frz w.heap.size 0 n arr) (H.set w.heap.size (.tail n arr.size)) w':=by
 have hfree:∀o,0<=o->M w.heap.size o=none:=fun o _=>s.mem_free (aA _)
 refine⟨(s.push _ w' e).freeze (el:=el) (by rw[e];simp) rfl (gN _) hn hfree (.inl (s.free (aA _))),⟨hU hfree,by simp[e],fun b hb _=>⟨?_,fun o=>?_⟩,fun b h=>?_,io⟩⟩
 ·rw[e,Array.getElem?_push];simp[show b≠w.heap.size by omega]
 ·unfold bF.frz;rw[if_neg (by omega)]
 ·rw[aK]at h
  split at h
  ·exact .inr (by omega)
  ·exact .inl h
theorem oT{M:bF}{sz b cap:Nat}{es:List (List AC)}(vs:Nat->Nat->Value)(hlim:es.length<=LIM)(hcap:es.length<=cap)(hs:∀e∈es,e.length=sz/\∀x∈e,x.one=true)
(hm:∀i j e x,es[i]?=some e->e[j]?=some x->M b (i*sz+j)=some (vs i j)/\Rep M x (vs i j)):
 Rep M (.sl sz (some (b,es.length*sz,cap*sz)) es) (.slice (some ⟨b,0,none⟩) es.length cap):=
 .sl vs hlim hcap hs (fun i j e x he hx=>by rw[bY];exact(hm i j e x he hx).1) (fun i j e x he hx=>(hm i j e x he hx).2) (fun t h=>by simp at h;exact⟨rfl,h.symm⟩)
theorem nB{α:Type}{l r:List α}{i:Nat}{x:α}(h:(l++r)[i]?=some x):(i<l.length/\l[i]?=some x)\/(l.length<=i/\r[i - l.length]?=some x):=by
 rcases Nat.lt_or_ge i l.length with c|c
 ·rw[aO c]at h;exact .inl ⟨c,h⟩
 ·rw[be c]at h;exact .inr ⟨c,h⟩
theorem ff{sz n i j:Nat}(hi:i<n)(hj:j<sz):i*sz+j<n*sz:=by
 have:(i+1)*sz<=n*sz:=bu _ hi
 rw[cB]at this;omega
theorem oh{sz:Nat}(hz:0<sz){ys:List (List AC)}{b off:Nat}(hs:∀e∈ys,e.length=sz/\∀x∈e,x.one=true)(vs:Nat->Nat->Value)
(h:∀i j e x,ys[i]?=some e->e[j]?=some x->w.cell? ⟨b,off+(i*sz+j),none⟩=some (vs i j)/\Rep M x (vs i j)):
 (dY vs ys.length sz).length=ys.length*sz/\(∀j u,(dY vs ys.length sz)[j]?=some u->w.cell? ((⟨b,off,none⟩:Addr).add j)=some u)/\
  (∀u∈dY vs ys.length sz,u.oneCell'=true):=by
 refine⟨fw _ _ _,fun k u hk=>?_,fun u hu=>?_⟩
 ·obtain⟨i,j,hi,hj,rfl,rfl⟩:=kw hk
  have he:ys[i]?=some ys[i]:=a6 hi
  have hl:=(hs _ (aY he)).1
  rw[Addr.add_lit]
  exact(h i j _ _ he (a6 (by omega))).1
 ·obtain⟨k,hk⟩:=jx.1 hu
  obtain⟨i,j,hi,hj,rfl,rfl⟩:=kw hk
  have he:ys[i]?=some ys[i]:=a6 hi
  have hl:=hs _ (aY he)
  have hx:=a6 (show j<ys[i].length by omega)
  exact(h i j _ _ he hx).2.one (hl.2 _ (aY hx))
def appF(H:aj)(sz:Nat)(ys:List (List AC))(K:(Nat->Prop)->AC->aj->Prop)(x:AC):Prop:=match x with
 |.lit (.slice none 0 0)=>ys.length<=2^32/\(ys=[]->K (fun _=>False) (.lit (.slice none 0 0)) H)/\
  (ys≠[]->∀b m,H.get b=none->ys.length*sz<=m->K (fun _=>False) (.sl sz (some (b,ys.length*sz,m)) ys) (H.set b (.tail (ys.length*sz) m)))
 |.sl sz' (some (b,n,m)) es=>sz=sz'/\es.length+ys.length<=2^32/\H.get b=some (.tail n m)/\
  ∀b' m',(b'=b\/H.get b'=none)->(es.length+ys.length)*sz<=m'->
   K (fun _=>False) (.sl sz (some (b',(es.length+ys.length)*sz,m')) (es++ys)) (H.set b' (.tail ((es.length+ys.length)*sz) m'))
 |_=>False
theorem pz{t ty e:TypeId}{z:List Value}{i:TypeInfo}(ht:P.underlying t=some (.slice e))(hz:kU P e=some z)(hi:P.info? e=some i)
(hz0:0<z.length)(hby:i.bytes<=2^12)(s:Sim M H w){x:AC}{us uy:Value}(hs:Rep M x us)
{K:(Nat->Prop)->AC->aj->Prop}{ys:List (List AC)}
(hy:∃a n c,uy=.slice a n c/\n=ys.length/\ys.length<=LIM/\(∀e∈ys,e.length=z.length/\∀x∈e,x.one=true)/\
  (ys=[]\/∃b off,a=some ⟨b,off,none⟩/\∃vs:Nat->Nat->Value,(∀i j e x,ys[i]?=some e->e[j]?=some x->w.cell? ⟨b,off+(i*z.length+j),none⟩=some (vs i j)/\Rep M x (vs i j))))
(hrun:appF H z.length ys K x){next:Value->World->Prop}
(hnext:∀FP r v M' H' w',K FP r H'->Rep M' r v->Sim M' H' w'->bC M H w M' H' w'->next v w'):
 ∃v w',(Builtin.append_ #[t,t] ty #[us,uy]).run P w=.ok v w'/\next v w':=by
 obtain⟨i',zv,hi',hzv,hzl,hzs,hzo⟩:=km hz
 rw[hi]at hi';simp at hi';subst hi'
 have hsz:z.length=i.size:=by rw[<-hzl];simpa using hzs
 obtain⟨a,n,c,rfl,hn,hlim,hone,hcells⟩:=hy
 subst hn
 unfold appF at hrun
 split at hrun
 ·
  obtain⟨rfl,-⟩:=hs.lit_inv
  obtain⟨hb,h0,h1⟩:=hrun
  by_cases hyn:ys=[]
  ·subst hyn
   refine⟨_,w,iu t ty e i ht hi none a 0 0 c (aA _),hnext _ _ _ M H w (h0 rfl) (.lit trivial) s (bC.refl _ _ _)⟩
  ·rcases hcells with hc|⟨b,off,rfl,vs,hvs⟩
   ·exact absurd hc hyn
   ·obtain⟨n1,n2,n3⟩:=oh hz0 hone vs hvs
    have hpos:0<ys.length:=List.length_pos_iff.2 hyn
    have hmb:ys.length*i.bytes<=2^32*2^12:=Nat.mul_le_mul hb hby
    have hr:=run_append_nil (P:=P) w t ty e i zv ht hi hzv ⟨b,off,none⟩ ys.length c _ (by rw[n1,hsz]) n2 hpos (by omega) (by omega)
    generalize hcap:grownCap w ys.length 0 e=cap at hr
    have hge:ys.length<=cap:=by have:=grownCap_ge w ys.length 0 e;omega
    generalize harr:(dY vs ys.length z.length).toArray++Builtin.zeroCells zv.cells (cap - ys.length)=arr at hr
    have hsize:arr.size=cap*z.length:=by
     rw[<-harr];simp only[Array.size_append,j5,n1,gQ,hzs,<-hsz,<-cB]
     congr 1;omega
    obtain⟨s',t'⟩:=s.newTail arr e (w.drew.alloc (.cells arr e)) rfl ⟨rfl,rfl⟩ (n:=ys.length*z.length) (by rw[hsize];exact bu _ hge)
    refine⟨_,_,hr,hnext _ _ _ _ _ _ (h1 hyn w.heap.size (cap*z.length) (s.free (aA _)) (bu _ hge)) ?_ (hsize▸s') (hsize▸t')⟩
    refine oT vs hlim hge hone fun i j e x he hx=>⟨?_,(hvs i j e x he hx).2.mono t'.le⟩
    have hi':i<ys.length:=(aN.1 he).1
    have hj':j<z.length:=by have:=(aN.1 hx).1;have:=(hone e (aY he)).1;omega
    have hlt:=ff hi' hj'
    unfold bF.frz
    rw[if_pos ⟨rfl,gN _,hlt⟩,<-harr,kh (by simp[n1];exact hlt)]
    simpa using mD hz0 hi' hj'
 ·
  rename_i sz' bb nn mm es
  obtain⟨rfl,hb,hget,hk⟩:=hrun
  cases hs with
  |sl vs hlim' hcap' hs' hm hr htok=>
   rename_i b off cap
   have hq:=htok _ rfl
   clear htok
   obtain⟨hq0,hq⟩:=hq
   subst hq0
   simp only[Prod.mk.injEq]at hq
   obtain⟨rfl,rfl,rfl⟩:=hq
   obtain⟨cur,el,hb1,hb2,hb3,hb4⟩:=s.obj _ _ hget
   by_cases hyn:ys=[]
   ·subst hyn
    refine⟨_,w,iu t ty e i ht hi _ a _ _ c hcap',hnext (fun _=>False) _ _ M H w ?_ (.sl vs hlim' hcap' hs' hm hr (fun t h=>⟨rfl,(Option.some.inj h).symm⟩)) s (bC.refl _ _ _)⟩
    have:=hk bb (cap*z.length) (.inl rfl) (by simpa using hb3)
    have eH:(H.set bb (.tail (es.length*z.length) (cap*z.length)))=H:=by
     apply aj.ext;intro k;simp only[aK]
     split
     ·rename_i e;subst e;exact hget.symm
     ·rfl
    simpa[eH]using this
   ·rcases hcells with hc|⟨yb,yoff,rfl,us,hus⟩
    ·exact absurd hc hyn
    ·obtain⟨n1,n2,n3⟩:=oh hz0 hone us hus
     have hpos:0<ys.length:=List.length_pos_iff.2 hyn
     have hLIM:LIM=2^40:=rfl
     have hone':∀e∈es++ys,e.length=z.length/\∀x∈e,x.one=true:=by
      intro e he;rcases aE.1 he with h|h
      ·exact hs' e h
      ·exact hone e h
     have rep:∀(M':bF) (b' cap':Nat),M.le M'->es.length+ys.length<=cap'->
      (∀i j,i<es.length->j<z.length->M' b' (i*z.length+j)=some (vs i j))->
      (∀i j,i<ys.length->j<z.length->M' b' ((es.length+i)*z.length+j)=some (us i j))->
      Rep M' (.sl z.length (some (b',(es.length+ys.length)*z.length,cap'*z.length)) (es++ys)) (.slice (some ⟨b',0,none⟩) (es.length+ys.length) cap'):=by
      intro M' b' cap' hle hc h1 h2
      have:=oT (M:=M') (b:=b') (cap:=cap') (sz:=z.length) (es:=es++ys) (fun i j=>if i<es.length then vs i j else us (i - es.length) j)
       (by simp;omega) (by simpa using hc) hone' ?_
      ·simpa using this
      ·intro i j e x he hx
       have hj:j<z.length:=by have:=(aN.1 hx).1;have:=(hone' e (aY he)).1;omega
       rcases nB he with⟨c,he'⟩|⟨c,he'⟩
       ·simp only[c,if_true]
        exact⟨h1 i j c hj,(hr i j e x he' hx).mono hle⟩
       ·simp only[show ¬i<es.length by omega,if_false]
        have hi':=(aN.1 he').1
        refine⟨?_,(hus _ j e x he' hx).2.mono hle⟩
        have:=h2 (i - es.length) j hi' hj
        rwa[show es.length+(i - es.length)=i by omega]at this
     have hold:∀i j,i<es.length->j<z.length->M bb (i*z.length+j)=some (vs i j):=by
      intro i j hi' hj
      have he:es[i]?=some es[i]:=a6 hi'
      have hl:=(hs' _ (aY he)).1
      have:=hm i j _ _ he (a6 (by omega))
      rwa[bY]at this
     by_cases hroom:es.length+ys.length<=cap
     ·
      have hfit:es.length*i.size+(dY us ys.length z.length).length<=cur.size:=by
       rw[n1,<-hsz,<-cB,hb2];exact bu _ hroom
      have hel:el=e\/True:=.inr trivial
      have hst:=run_storeCells_at P bb (es.length*i.size) el (dY us ys.length z.length) 0 cur w hb1 (by simpa using hfit) n3
      have hf:=run_firstCells_some (P:=P) w i.size ys.length ⟨yb,yoff,none⟩ ys.length c (dY us ys.length z.length) (by rw[n1,hsz]) n2
      simp only[Nat.add_zero]at hst
      have hrr:(Builtin.append_ #[t,t] ty #[.slice (some ⟨bb,0,none⟩) es.length cap,.slice (some ⟨yb,yoff,none⟩) ys.length c]).run P w=
       .ok (.slice (some ⟨bb,0,none⟩) (es.length+ys.length) cap) (w.setRow bb (cur.toList.take (es.length*i.size)++dY us ys.length z.length++cur.toList.drop (es.length*i.size+(dY us ys.length z.length).length)).toArray):=by
       simp[Builtin.append_,run_underlying ht,sizeOf,typeInfo,hi,Builtin.lenOf,hroom,hf,Addr.add_lit,hst]
      generalize harr:(cur.toList.take (es.length*i.size)++dY us ys.length z.length++cur.toList.drop (es.length*i.size+(dY us ys.length z.length).length)).toArray=arr at hrr
      rw[<-hsz]at hfit harr
      have hasz:arr.size=cap*z.length:=by
       rw[<-harr];simp;omega
      have hself:=setRow_heap w bb cur arr el (0,0) hb1
      have hcell:∀o,o<es.length*z.length->arr[o]?=cur[o]?:=by
       intro o ho
       rw[<-harr,List.getElem?_toArray,dU,aO (by simp;omega),dq ho,dy]
      have hnewc:∀i j,i<ys.length->j<z.length->arr[(es.length+i)*z.length+j]?=some (us i j):=by
       intro i j hi' hj
       have:=ff hi' hj
       rw[<-harr,List.getElem?_toArray,cB,aO (by simp[n1];omega),be (by simp;omega)]
       simp only[bI,kF,eC (show es.length*z.length<=cur.size by omega)]
       rw[show es.length*z.length+i*z.length+j - es.length*z.length=i*z.length+j by omega]
       exact mD hz0 hi' hj
      obtain⟨s1,t1⟩:=s.setRow hget arr (fun k v hkv=>by
       have hlt:k<es.length*z.length:=by
        rcases Nat.lt_or_ge k (es.length*z.length)with h|h
        ·exact h
        ·rw[hb4 k h]at hkv;simp at hkv
       rw[hcell k hlt]
       have:=s.mem _ _ _ hkv
       rwa[eo,hb1]at this) hb1 (o':=.tail (es.length*z.length) (cap*z.length)) ⟨arr,el,hself,hasz,hb3,hb4⟩
      have hn':(es.length+ys.length)*z.length<=cap*z.length:=bu _ hroom
      have hnn:es.length*z.length<=(es.length+ys.length)*z.length:=bu _ (by omega)
      have s2:=s1.freeze hself hasz hnn hn' hb4 (.inr ⟨_,_,ai _ _ _⟩)
      have t2:=bC.freeze (M:=M) (H:=H.set bb (.tail (es.length*z.length) (cap*z.length))) (w:=w.setRow bb arr) (b:=bb) (n:=es.length*z.length) (n':=(es.length+ys.length)*z.length) (m:=cap*z.length) (vs:=arr) hb4 (by simp)
      have eH:(H.set bb (.tail (es.length*z.length) (cap*z.length))).set bb (.tail ((es.length+ys.length)*z.length) (cap*z.length))=
       H.set bb (.tail ((es.length+ys.length)*z.length) (cap*z.length)):=by
       apply aj.ext;intro k;simp only[aK];split<;>rfl
      rw[eH]at s2 t2
      refine⟨_,_,hrr,hnext _ _ _ _ _ _ (hk bb (cap*z.length) (.inl rfl) hn') (rep _ bb cap t2.le hroom ?_ ?_) s2 (t1.trans t2)⟩
      ·intro i j hi' hj
       exact hU hb4 _ _ _ (hold i j hi' hj)
      ·intro i j hi' hj
       unfold bF.frz
       have q1:es.length*z.length<=(es.length+i)*z.length+j:=cg (bu _ (Nat.le_add_right _ _)) (Nat.le_add_right _ _)
       have q2:(es.length+i)*z.length+j<(es.length+ys.length)*z.length:=ff (by omega) hj
       rw[if_pos ⟨rfl,q1,q2⟩]
       exact hnewc i j hi' hj
     ·
      have hmb:(es.length+ys.length)*i.bytes<=2^32*2^12:=Nat.mul_le_mul hb hby
      have uK:∀k v,(dY vs es.length z.length)[k]?=some v->w.cell? ((⟨bb,0,none⟩:Addr).add k)=some v:=by
       intro k v hkv
       obtain⟨i,j,hi',hj,rfl,rfl⟩:=kw hkv
       rw[Addr.add_lit,bY]
       exact s.mem _ _ _ (hold i j hi' hj)
      have hrr:=run_append_grow (P:=P) w t ty e i zv ht hi hzv ⟨bb,0,none⟩ es.length cap (dY vs es.length z.length) (by rw[fw,hsz]) uK ⟨yb,yoff,none⟩ ys.length c
       (dY us ys.length z.length) (by rw[n1,hsz]) n2 (by omega) (by omega) (growslice_fits (by omega) (by omega))
      generalize hcp:grownCap w (es.length+ys.length) cap e=cap' at hrr
      have hge:es.length+ys.length<=cap':=by have:=grownCap_ge w (es.length+ys.length) cap e;omega
      generalize harr:(dY vs es.length z.length).toArray++(dY us ys.length z.length).toArray++Builtin.zeroCells zv.cells (cap' - (es.length+ys.length))=arr at hrr
      have hsize:arr.size=cap'*z.length:=by
       rw[<-harr];simp only[Array.size_append,j5,n1,fw,gQ,hzs,<-hsz,<-cB]
       congr 1;omega
      have hle':(es.length+ys.length)*z.length<=arr.size:=by rw[hsize];exact bu _ hge
      obtain⟨s',t'⟩:=s.newTail arr e (w.drew.alloc (.cells arr e)) rfl ⟨rfl,rfl⟩ hle'
      refine⟨_,_,hrr,hnext _ _ _ _ _ _ (hk w.heap.size arr.size (.inr (s.free (aA _))) hle') ?_ s' t'⟩
      rw[hsize]
      have hfl:∀k v,k<(es.length+ys.length)*z.length->arr[k]?=some v->(M.frz w.heap.size 0 ((es.length+ys.length)*z.length) arr) w.heap.size k=some v:=by
       intro k v hk' hv
       unfold bF.frz
       rw[if_pos ⟨rfl,gN _,hk'⟩];exact hv
      refine rep _ w.heap.size cap' t'.le hge ?_ ?_
      ·intro i j hi' hj
       have h1:=ff hi' hj
       have h2:=ff (n:=es.length+ys.length) (show i<es.length+ys.length by omega) hj
       refine hfl _ _ h2 ?_
       rw[<-harr,Array.append_assoc,kh (by simp[fw];exact h1),List.getElem?_toArray]
       exact mD hz0 hi' hj
      ·intro i j hi' hj
       have h1:=ff hi' hj
       have h2:=ff (n:=es.length+ys.length) (show es.length+i<es.length+ys.length by omega) hj
       refine hfl _ _ h2 ?_
       rw[cB]at h2⊢
       rw[<-harr,kh (by simp[fw];omega),Array.getElem?_append_right (by simp[fw];omega),List.getElem?_toArray]
       simp only[j5,fw]
       rw[show es.length*z.length+i*z.length+j - es.length*z.length=i*z.length+j by omega]
       exact mD hz0 hi' hj
 ·exact hrun.elim
theorem t9{t ty e:TypeId}{z:List Value}{i:TypeInfo}(ht:P.underlying t=some (.slice e))(hz:kU P e=some z)(hi:P.info? e=some i)
(hz0:0<z.length)(hby:i.bytes<=2^12)(s:Sim M H w){xs xy:aG}{E:aG->AC}{us uy:Value}(hs:Rep M (E xs) us)(hy:Rep M (E xy) uy){dr:Bool}
{K:(Nat->Prop)->AC->aj->Prop}(hrun:(EOp.append z.length i.bytes xs xy).run P E H dr K){next:Value->World->Prop}
(hnext:∀FP r v M' H' w',K FP r H'->Rep M' r v->Sim M' H' w'->bC M H w M' H' w'->next v w'):
 ∃v w',(Builtin.append_ #[t,t] ty #[us,uy]).run P w=.ok v w'/\next v w':=by
 simp only[EOp.run]at hrun
 split at hrun
 case h_2=>exact hrun.elim
 rename_i ys hys
 exact pz ht hz hi hz0 hby s hs (uR hys hy s) hrun hnext
end
section
variable {P:Program}{w:World}{M:bF}{H:aj}
theorem iN(sz:Nat):∀(n:Nat) (cs:List AC),(bg sz n cs).length=n
 |0,_=>rfl
 |n+1,cs=>by simp[bg,iN sz n]
theorem oQ(sz:Nat):∀(n:Nat) (cs:List AC) (i:Nat),i<n->(bg sz n cs)[i]?=some ((cs.drop (i*sz)).take sz)
 |0,_,i,h=>by omega
 |n+1,cs,0,h=>by simp[bg]
 |n+1,cs,i+1,h=>by
  simp only[bg,aB]
  rw[oQ sz n (cs.drop sz) i (by omega),List.drop_drop,cB,Nat.one_mul,Nat.add_comm]
theorem yL{sz:Nat}{y:AC}{ys:List (List AC)}(h:gT H sz y=some ys){u:Value}(r:Rep M y u)(s:Sim M H w):
 ∃a n c,u=.slice a n c/\n=ys.length/\ys.length<=LIM/\(∀e∈ys,e.length=sz/\∀x∈e,x.one=true)/\
  (ys=[]\/∃b off,a=some ⟨b,off,none⟩/\∃vs:Nat->Nat->Value,(∀i j e x,ys[i]?=some e->e[j]?=some x->w.cell? ⟨b,off+(i*sz+j),none⟩=some (vs i j)/\Rep M x (vs i j))):=by
 unfold gT at h
 split at h
 ·rename_i b o n c
  split at h
  ·rename_i h0
   simp at h;subst h h0
   obtain⟨e',-⟩:=r.lit_inv
   exact⟨_,0,_,e',rfl,by simp,by simp,.inl rfl⟩
  split at h
  ·rename_i cs hget
   split at h
   ·rename_i hle
    simp at h;subst h
    obtain⟨e',-⟩:=r.lit_inv
    obtain⟨f,h1,h2⟩:=(s.obj _ _ hget).cells_get
    refine⟨some ⟨b,o,none⟩,n,c,e',(iN _ _ _).symm,by rw[iN];exact hle.2,fun e he=>?_,.inr ⟨b,o,rfl,fun i j=>f (o+(i*sz+j)),fun i j e x he hx=>?_⟩⟩
    ·obtain⟨i,hi⟩:=jx.1 he
     have hin:i<n:=by have:=(aN.1 hi).1;rwa[iN]at this
     rw[oQ sz n _ i hin]at hi
     simp at hi;subst hi
     have:(i+1)*sz<=n*sz:=bu _ hin
     rw[cB]at this
     exact⟨by simp;omega,fun x hx=>h2 x (fL (cP hx))⟩
    ·have hin:i<n:=by have:=(aN.1 he).1;rwa[iN]at this
     rw[oQ sz n _ i hin]at he
     simp at he;subst he
     rw[eT]at hx
     split at hx
     ·rw[bU]at hx
      have:=h1 _ x hx
      rw[bY,Nat.add_assoc]at this;exact this
     ·simp at hx
   ·simp at h
  ·simp at h
 ·exact uR h r s
theorem ma{ys:List (List AC)}{sz:Nat}(hs:∀e∈ys,e.length=sz):∀{i j:Nat},i<ys.length->j<sz->∃e x,ys[i]?=some e/\e[j]?=some x/\ys.flatten[i*sz+j]?=some x:=by
 induction ys with
 |nil=>intro i j h;simp at h
 |cons e ys ih=>
  intro i j hi hj
  have he:=hs e (by simp)
  cases i with
  |zero=>
   refine⟨e,e[j]'(by omega),by simp,a6 _,?_⟩
   rw[av,Nat.zero_mul,bY,aO (by omega)]
   exact a6 _
  |succ i=>
   obtain⟨e',x,h1,h2,h3⟩:=ih (fun e h=>hs e (by simp[h])) (i:=i) (j:=j) (by simpa using hi) hj
   refine⟨e',x,by simpa using h1,h2,?_⟩
   rw[av,be (by rw[he,cB];omega),he,cB,Nat.one_mul,show i*sz+sz+j - sz=i*sz+j by omega]
   exact h3
theorem dB{ys:List (List AC)}{sz:Nat}(hs:∀e∈ys,e.length=sz):ys.flatten.length=ys.length*sz:=by
 induction ys with
 |nil=>simp
 |cons e ys ih=>simp[hs e (by simp),ih (fun e h=>hs e (by simp[h])),cB];omega
theorem qh{ys:List (List AC)}{sz:Nat}(hs:∀e∈ys,e.length=sz){vs:Nat->Nat->Value}(h:∀i j e x,ys[i]?=some e->e[j]?=some x->Rep M x (vs i j)):
 ∀(k:Nat) x v,ys.flatten[k]?=some x->(dY vs ys.length sz)[k]?=some v->Rep M x v:=by
 intro k x v hx hv
 obtain⟨i,j,hi,hj,rfl,rfl⟩:=kw hv
 obtain⟨e,y,h1,h2,h3⟩:=ma hs hi hj
 rw[h3]at hx;simp at hx;subst hx
 exact h i j e _ h1 h2
theorem Aj{ys:List (List AC)}(hs:∀e∈ys,∀x∈e,x.one=true):∀x∈ys.flatten,x.one=true:=by
 intro x hx
 obtain⟨e,he,hxe⟩:=List.mem_flatten.1 hx
 exact hs e he x hxe
theorem oJ{z:List Value}(hz0:0<z.length)(hzo:∀x∈z,okv x){pre:List AC}{pv:List Value}(hl:pre.length=pv.length)(h1:∀x∈pre,x.one=true)
(hr:∀(k:Nat) x v,pre[k]?=some x->pv[k]?=some v->Rep M x v)(n:Nat):
 ∃cs:List AC,cs.length=(pv.toArray++Builtin.zeroCells z.toArray n).size/\cs.take pre.length=pre/\(∀x∈cs,x.one=true)/\
  ∀(k:Nat) x v,cs[k]?=some x->(pv.toArray++Builtin.zeroCells z.toArray n)[k]?=some v->Rep M x v:=by
 refine⟨pre++(Builtin.zeroCells z.toArray n).toList.map .lit,by simp[hl],by simp,fun x hx=>?_,fun k x v hx hv=>?_⟩
 ·rcases aE.1 hx with h|h
  ·exact h1 x h
  ·obtain⟨v,-,rfl⟩:=aZ.1 h;rfl
 ·rcases nB hx with⟨c,h⟩|⟨c,h⟩
  ·rw[kh (by simp;omega)]at hv
   exact hr k x v h (by simpa using hv)
  ·rw[Array.getElem?_append_right (by simp;omega)]at hv
   simp only[co,a7]at h
   obtain⟨u,hu,rfl⟩:=h
   simp only[j5,<-hl]at hv
   rw[dy]at hu
   rw[hu]at hv;simp at hv;subst hv
   refine .lit (hzo _ ?_)
   simp only[Builtin.zeroCells,Array.getElem?_map,a7]at hu
   obtain⟨q,-,rfl⟩:=hu
   have hm:q % z.toArray.size<z.toArray.size:=Nat.mod_lt _ (by simpa using hz0)
   rw[getElem!_pos z.toArray _ hm]
   simp
theorem Sim.newCells'(s:Sim M H w){arr:Array Value}{cs:List AC}(el:TypeId)(hl:cs.length=arr.size)(h1:∀x∈cs,x.one=true)
(hr:∀(k:Nat) x v,cs[k]?=some x->arr[k]?=some v->Rep M x v):
 Sim M (H.set w.heap.size (.cells cs)) (w.drew.alloc (.cells arr el))/\bC M H w M (H.set w.heap.size (.cells cs)) (w.drew.alloc (.cells arr el)):=
 s.newCells arr el (w.drew.alloc (.cells arr el)) rfl ⟨rfl,rfl⟩ h1 hl hr
theorem Sim.retype(s:Sim M H w){b:Nat}{o:cz}(hb:H.get b≠none)(h:gY M w b o):Sim M (H.set b o) w/\bC M H w M (H.set b o) w:=by
 refine⟨⟨s.mem,fun c q hq=>?_⟩,⟨bF.le_refl M,aA _,fun _ _ _=>⟨rfl,fun _=>rfl⟩,fun c hc=>?_,rfl,rfl⟩⟩
 ·rw[aK]at hq
  split at hq
  ·rename_i e;subst e;simp at hq;subst hq;exact h
  ·exact s.obj c q hq
 ·rw[aK]at hc
  split at hc
  ·rename_i e;subst e;exact .inl hb
  ·exact .inl hc
theorem rS{H:aj}{b:Nat}{o:cz}(h:H.get b=some o):H.set b o=H:=by
 apply aj.ext;intro k;simp only[aK]
 split
 ·rename_i e;subst e;exact h.symm
 ·rfl
theorem tB{t ty e:TypeId}{z:List Value}{i:TypeInfo}(ht:P.underlying t=some (.slice e))(hz:kU P e=some z)(hi:P.info? e=some i)
(hz0:0<z.length)(hby:i.bytes<=2^12)(s:Sim M H w){x:AC}{us uy:Value}(hs:Rep M x us)
{K:(Nat->Prop)->AC->aj->Prop}{ys:List (List AC)}
(hy:∃a n c,uy=.slice a n c/\n=ys.length/\ys.length<=LIM/\(∀e∈ys,e.length=z.length/\∀x∈e,x.one=true)/\
  (ys=[]\/∃b off,a=some ⟨b,off,none⟩/\∃vs:Nat->Nat->Value,(∀i j e x,ys[i]?=some e->e[j]?=some x->w.cell? ⟨b,off+(i*z.length+j),none⟩=some (vs i j)/\Rep M x (vs i j))))
(hrun:kj H z.length ys K x){next:Value->World->Prop}
(hnext:∀FP r v M' H' w',K FP r H'->Rep M' r v->Sim M' H' w'->bC M H w M' H' w'->next v w'):
 ∃v w',(Builtin.append_ #[t,t] ty #[us,uy]).run P w=.ok v w'/\next v w':=by
 have core:=fun h=>pz (next:=next) (ty:=ty) ht hz hi hz0 hby s hs hy h hnext
 obtain⟨i',zv,hi',hzv,hzl,hzs,hzo⟩:=km hz
 rw[hi]at hi';simp at hi';subst hi'
 have hsz:z.length=i.size:=by rw[<-hzl];simpa using hzs
 have hzv':zv.cells=z.toArray:=by rw[<-hzl]
 obtain⟨a,n,c,rfl,hn,hlim,hone,hcells⟩:=hy
 subst hn
 have hflen:=dB fun e he=>(hone e he).1
 have hfone:=Aj fun e he=>(hone e he).2
 unfold kj at hrun
 split at hrun
 ·
  obtain⟨hb,h0,h1⟩:=hrun
  by_cases hyn:ys=[]
  ·exact core ⟨hb,h0,fun h=>absurd hyn h⟩
  ·rcases h1 hyn with hF|hC
   ·exact core ⟨hb,fun e=>absurd e hyn,fun _=>hF⟩
   ·obtain⟨rfl,-⟩:=hs.lit_inv
    rcases hcells with hc|⟨b,off,rfl,vs,hvs⟩
    ·exact absurd hc hyn
    ·obtain⟨n1,n2,n3⟩:=oh hz0 hone vs hvs
     have hpos:0<ys.length:=List.length_pos_iff.2 hyn
     have hmb:ys.length*i.bytes<=2^32*2^12:=Nat.mul_le_mul hb hby
     have hr:=run_append_nil (P:=P) w t ty e i zv ht hi hzv ⟨b,off,none⟩ ys.length c _ (by rw[n1,hsz]) n2 hpos (by omega) (by omega)
     generalize hcap:grownCap w ys.length 0 e=cap at hr
     have hge:ys.length<=cap:=by have:=grownCap_ge w ys.length 0 e;omega
     obtain⟨cs,c1,c2,c3,c4⟩:=oJ hz0 hzo (pre:=ys.flatten) (pv:=dY vs ys.length z.length) (by rw[n1,hflen]) hfone (qh (M:=M) (fun e he=>(hone e he).1) fun i j e x a b=>(hvs i j e x a b).2) (cap - ys.length)
     rw[<-hzv']at c1 c4
     obtain⟨s',t'⟩:=s.newCells' e c1 c3 c4
     refine⟨_,_,hr,hnext _ _ _ _ _ _ (hC w.heap.size cap cs (s.free (aA _)) hge ?_ ?_) (.lit trivial) s' t'⟩
     ·rw[c1];simp only[Array.size_append,j5,n1,gQ,hzs,<-hsz,<-cB]
      congr 1;omega
     ·rw[<-hflen];exact c2
 ·
  rename_i sz' bb nn mm es
  obtain⟨rfl,hb,hget,hor⟩:=hrun
  rcases hor with hF|⟨rfl,rfl,hC⟩
  ·exact core ⟨rfl,hb,hget,hF⟩
  ·cases hs with
   |sl vs hlim' hcap' hs' hm hr htok=>
    rename_i b off cap
    obtain⟨hq0,hq⟩:=htok _ rfl
    subst hq0
    simp only[bM,Nat.zero_mul,Prod.mk.injEq]at hq
    obtain⟨rfl,rfl,hq⟩:=hq
    have hcap0:cap=0:=by
     rcases Nat.eq_zero_or_pos cap with h|h
     ·exact h
     ·have:=Nat.mul_pos h hz0;omega
    subst hcap0
    obtain⟨cur,el,hb1,hb2,hb3,hb4⟩:=s.obj _ _ hget
    by_cases hyn:ys=[]
    ·subst hyn
     obtain⟨s',t'⟩:=s.retype (b:=bb) (o:=.cells []) (by rw[hget];simp) ⟨cur,el,hb1,by simp,by simp[hb2],by simp,fun o=>hb4 o (gN _)⟩
     refine⟨_,w,iu t ty e i ht hi _ a _ _ c (aA _),hnext _ _ _ _ _ _ (hC bb 0 [] (.inl rfl) (aA _) (by simp) (by simp)) (.lit trivial) s' t'⟩
    ·rcases hcells with hc|⟨yb,yoff,rfl,us,hus⟩
     ·exact absurd hc hyn
     ·obtain⟨n1,n2,n3⟩:=oh hz0 hone us hus
      have hpos:0<ys.length:=List.length_pos_iff.2 hyn
      simp only[bM,bY]at hb
      have hmb:ys.length*i.bytes<=2^32*2^12:=Nat.mul_le_mul hb hby
      have hrr:=run_append_grow (P:=P) w t ty e i zv ht hi hzv ⟨bb,0,none⟩ 0 0 [] (by simp) (by simp) ⟨yb,yoff,none⟩ ys.length c
       (dY us ys.length z.length) (by rw[n1,hsz]) n2 (by omega) (by omega) (growslice_fits (by omega) (by rw[bY];omega))
      generalize hcp:grownCap w (0+ys.length) 0 e=cap' at hrr
      have hge:ys.length<=cap':=by have:=grownCap_ge w (0+ys.length) 0 e;omega
      obtain⟨cs,c1,c2,c3,c4⟩:=oJ hz0 hzo (pre:=ys.flatten) (pv:=dY us ys.length z.length) (by rw[n1,hflen]) hfone (qh (M:=M) (fun e he=>(hone e he).1) fun i j e x a b=>(hus i j e x a b).2) (cap' - (0+ys.length))
      rw[<-hzv']at c1 c4
      have hnil:([]:List Value).toArray++(dY us ys.length z.length).toArray=(dY us ys.length z.length).toArray:=by simp
      rw[hnil]at hrr
      simp only[bY]at hrr c1 c4
      obtain⟨s',t'⟩:=s.newCells' e c1 c3 c4
      refine⟨_,_,hrr,hnext _ _ _ _ _ _ (hC w.heap.size cap' cs (.inr (s.free (aA _))) hge ?_ ?_) (.lit trivial) s' t'⟩
      ·rw[c1];simp only[Array.size_append,j5,n1,gQ,hzs,<-hsz,<-cB]
       congr 1;omega
      ·rw[<-hflen];exact c2
 ·
  rename_i bb n cc
  obtain⟨cs,hget,hcl,hnc,hb,hK⟩:=hrun
  obtain⟨rfl,-⟩:=hs.lit_inv
  obtain⟨cur,el,hb1,hb2,hb3,hb4,hb5⟩:=s.obj _ _ hget
  have hnsz:n*z.length<=cc*z.length:=bu _ hnc
  by_cases hyn:ys=[]
  ·subst hyn
   refine⟨_,w,iu t ty e i ht hi _ a _ _ c hnc,hnext (·=bb) _ _ M H w ?_ (.lit trivial) s (bC.refl _ _ _)⟩
   have:=hK bb cc cs (.inl rfl) hnc hcl (by simp)
   rw[rS hget]at this
   exact this
  ·rcases hcells with hc|⟨yb,yoff,rfl,us,hus⟩
   ·exact absurd hc hyn
   ·obtain⟨n1,n2,n3⟩:=oh hz0 hone us hus
    have hpos:0<ys.length:=List.length_pos_iff.2 hyn
    have hrf:=qh (M:=M) (fun e he=>(hone e he).1) fun i j e x a b=>(hus i j e x a b).2
    by_cases hroom:n+ys.length<=cc
    ·have hroom':(n+ys.length)*z.length<=cc*z.length:=bu _ hroom
     rw[cB]at hroom'
     have hst:=run_storeCells_at P bb (n*i.size) el (dY us ys.length z.length) 0 cur w hb1 (by rw[n1,<-hsz];omega) n3
     have hf:=run_firstCells_some (P:=P) w i.size ys.length ⟨yb,yoff,none⟩ ys.length c (dY us ys.length z.length) (by rw[n1,hsz]) n2
     simp only[Nat.add_zero]at hst
     have hrr:(Builtin.append_ #[t,t] ty #[.slice (some ⟨bb,0,none⟩) n cc,.slice (some ⟨yb,yoff,none⟩) ys.length c]).run P w=
      .ok (.slice (some ⟨bb,0,none⟩) (n+ys.length) cc) (w.setRow bb (cur.toList.take (n*i.size)++dY us ys.length z.length++cur.toList.drop (n*i.size+(dY us ys.length z.length).length)).toArray):=by
      simp[Builtin.append_,run_underlying ht,sizeOf,typeInfo,hi,Builtin.lenOf,hroom,hf,Addr.add_lit,hst]
     generalize harr:(cur.toList.take (n*i.size)++dY us ys.length z.length++cur.toList.drop (n*i.size+(dY us ys.length z.length).length)).toArray=arr at hrr
     have hself:=setRow_heap w bb cur arr el (0,0) hb1
     have harr':arr.toList=bx cur.toList (n*z.length) (dY us ys.length z.length):=by rw[<-harr,hsz];simp[bx]
     have hasz:arr.size=cur.size:=by rw[<-kF,harr',eZ _ _ _ (by rw[n1];simp;omega)];simp
     have hlen:(bx cs (n*z.length) ys.flatten).length=cs.length:=eZ _ _ _ (by rw[hflen];omega)
     obtain⟨s',t'⟩:=s.setRow hget arr (fun k v hkv=>by rw[hb5 k]at hkv;simp at hkv) hb1 (o':=.cells (bx cs (n*z.length) ys.flatten))
      ⟨arr,el,hself,nv hb2 hfone,by omega,fun j y v hy hv=>by
       rw[<-dy,harr']at hv
       exact nw (vs:=cur.toList) (us:=dY us ys.length z.length) (by simpa using hb3) (by rw[hflen,n1]) (fun j x v hx hv=>hb4 j x v hx (by simpa using hv)) hrf (by rw[hflen];omega) j y v hy hv,hb5⟩
     refine⟨_,_,hrr,hnext _ _ _ _ _ _ (hK bb cc _ (.inl rfl) hroom (by rw[hlen,hcl]) ?_) (.lit trivial) s' t'⟩
     have h1:(cs.take (n*z.length)).length=n*z.length:=by simp;omega
     simp only[bx]
     rw[List.take_left' (by simp only[bv,h1,hflen,cB])]
    ·have hmb:(n+ys.length)*i.bytes<=2^32*2^12:=Nat.mul_le_mul hb hby
     have uK:∀k v,(cur.toList.take (n*z.length))[k]?=some v->w.cell? ((⟨bb,0,none⟩:Addr).add k)=some v:=by
      intro k v hkv
      rw[Addr.add_lit,bY,eo,hb1]
      rw[eT]at hkv
      split at hkv
      ·simpa using hkv
      ·simp at hkv
     have hol:(cur.toList.take (n*z.length)).length=n*z.length:=by simp;omega
     have hcl':(cs.take (n*z.length)).length=n*z.length:=by simp;omega
     have hrr:=run_append_grow (P:=P) w t ty e i zv ht hi hzv ⟨bb,0,none⟩ n cc (cur.toList.take (n*z.length)) (by rw[hol,hsz]) uK ⟨yb,yoff,none⟩ ys.length c
      (dY us ys.length z.length) (by rw[n1,hsz]) n2 (by omega) (by omega) (growslice_fits (by omega) (by omega))
     generalize hcp:grownCap w (n+ys.length) cc e=cap' at hrr
     have hge:n+ys.length<=cap':=by have:=grownCap_ge w (n+ys.length) cc e;omega
     obtain⟨cs',c1,c2,c3,c4⟩:=oJ hz0 hzo (pre:=cs.take (n*z.length)++ys.flatten) (pv:=cur.toList.take (n*z.length)++dY us ys.length z.length)
      (by simp only[bv,hol,hcl',n1,hflen]) (fun x hx=>by
       rcases aE.1 hx with h|h
       ·exact hb2 x (cP h)
       ·exact hfone x h) (M:=M) (fun k x v hx hv=>by
       rcases nB hx with⟨q,h⟩|⟨q,h⟩
       ·rw[hcl']at q
        rw[aO (by omega),dq q]at hv
        rw[dq q]at h
        exact hb4 k x v h (by simpa using hv)
       ·rw[hcl']at q h
        rw[be (by omega),hol]at hv
        exact hrf _ x v h hv) (cap' - (n+ys.length))
     rw[<-hzv']at c1 c4
     have harr:(cur.toList.take (n*z.length)).toArray++(dY us ys.length z.length).toArray=(cur.toList.take (n*z.length)++dY us ys.length z.length).toArray:=by simp
     rw[harr]at hrr
     obtain⟨s',t'⟩:=s.newCells' e c1 c3 c4
     refine⟨_,_,hrr,hnext _ _ _ _ _ _ (hK w.heap.size cap' cs' (.inr (s.free (aA _))) hge ?_ ?_) (.lit trivial) s' t'⟩
     ·rw[c1];simp only[Array.size_append,j5,bv,hol,n1,gQ,hzs,<-hsz,<-cB]
      congr 1;omega
     ·rw[<-c2];congr 1;simp only[bv,hcl',hflen,cB]
 ·exact hrun.elim
theorem rM{t ty e:TypeId}{z:List Value}{i:TypeInfo}(ht:P.underlying t=some (.slice e))(hz:kU P e=some z)(hi:P.info? e=some i)
(hz0:0<z.length)(hby:i.bytes<=2^12)(s:Sim M H w){xs xy:aG}{E:aG->AC}{us uy:Value}(hs:Rep M (E xs) us)(hy:Rep M (E xy) uy){dr:Bool}
{K:(Nat->Prop)->AC->aj->Prop}(hrun:(EOp.appendM z.length i.bytes xs xy).run P E H dr K){next:Value->World->Prop}
(hnext:∀FP r v M' H' w',K FP r H'->Rep M' r v->Sim M' H' w'->bC M H w M' H' w'->next v w'):
 ∃v w',(Builtin.append_ #[t,t] ty #[us,uy]).run P w=.ok v w'/\next v w':=by
 simp only[EOp.run]at hrun
 split at hrun
 case h_2=>exact hrun.elim
 rename_i ys hys
 exact tB ht hz hi hz0 hby s hs (yL hys hy s) hrun.2 hnext
theorem tA{o:Oper}{sz by':Nat}{sa xa:aG}(hres:gO P o.op=some (.append sz by' sa xa)){a:Act}{E:aG->AC}(hE:∀x xa,eF x=some xa->Rep M (E xa) (a.eval x))(s:Sim M H w)
{dr:Bool}{K:(Nat->Prop)->AC->aj->Prop}(hrun:(EOp.appendM sz by' sa xa).run P E H dr K){next:Act->World->Prop}{Q:Exit->Act->World->Prop}
(hnext:∀FP r v M' H' w',K FP r H'->Rep M' r v->Sim M' H' w'->bC M H w M' H' w'->next (a.put o.dst v) w'):o.wp P a w next Q:=by
 obtain⟨dst,op,ty,pos,after,guard⟩:=o
 cases op<;>simp only[gO]at hres<;>try(simp at hres;done)
 case call c=>
  obtain⟨callee,args,argTypes⟩:=c
  cases callee with
  |invoke r m=>simp[gO]at hres
  |builtin b=>
   cases b<;>simp only[gO]at hres<;>try(simp at hres;done)
   split at hres
   ·rename_i sx x t u hx ht
    have ea:args=#[sx,x]:=by apply eW.1;simpa using hx
    have et:argTypes=#[t,u]:=by apply eW.1;simpa using ht
    subst ea et
    split at hres
    ·rename_i htu
     subst htu
     split at hres
     ·rename_i el sa' xa' hu hsa hxa
      split at hres
      ·rename_i z i hz hi
       split at hres
       ·rename_i hc
        simp at hres
        obtain⟨rfl,rfl,rfl,rfl⟩:=hres
        obtain⟨v,w',hrr,hn⟩:=rM (ty:=ty) hu hz hi hc.1 hc.2 s (hE _ _ hsa) (hE _ _ hxa) hrun (next:=fun v w'=>next (a.put dst v) w') hnext
        have:(execOp a.eval ⟨dst,.call ⟨.builtin .append,#[sx,x],#[t,t]⟩,ty,pos,after,guard⟩).run P w=.ok (.value v) w':=by
         simp[execOp,resolve,invoke,builtin,hrr]
        simp only[Oper.wp,this,Oper.upon_value]
        exact hn
       ·simp at hres
      ·simp at hres
     ·simp at hres
    ·simp at hres
   ·simp at hres
  |value f=>
   cases f with
   |func f=>simp only[gO]at hres;repeat' split at hres
            all_goals simp at hres
   |_=>simp[gO]at hres
 case makeMap t r=>
  cases r with
  |none=>simp only[]at hres;split at hres<;>simp at hres
  |some r=>simp at hres
 all_goals(repeat' (split at hres))<;>simp at hres
end
open Go.MapKept
theorem resE_X{P:Program}{op:Op}{e:EOp}(h:gO P op=some e)
(ho:(∃t x i ok,op=.lookup t x i ok)\/(∃t m k v,op=.mapUpdate t m k v)\/(∃t r,op=.makeMap t r)):∃c zas,e=.callX c zas:=by
 rcases ho with⟨t,x,i,ok,rfl⟩|⟨t,m,k,v,rfl⟩|⟨t,r,rfl⟩
 ·simp only[gO]at h
  split at h<;>simp at h
  exact⟨_,_,h.symm⟩
 ·simp only[gO]at h
  split at h<;>simp at h
  exact⟨_,_,h.symm⟩
 ·cases r with
  |some r=>simp[gO]at h
  |none=>
   simp only[gO]at h
   split at h<;>simp at h
   exact⟨_,_,h.symm⟩
section
variable {P:Program}{w:World}{M:bF}{H:aj}
theorem vD{t:TypeId}{z:AC}(h:zr P t=some z):∃v,(∀w,(zeroValue t).run P w=.ok v w)/\∀M,Rep M z v:=by
 simp only[zr]at h
 split at h
 ·rename_i i hi
  have hz:∀v,i.zero=some v->∀w,(zeroValue t).run P w=.ok v w:=fun v hv w=>by simp[zeroValue,typeInfo,program,hi,hv,Sem.run]
  split at h
  ·rename_i cs hcs
   split at h
   ·rename_i hc
    simp at h;subst h
    refine⟨_,hz _ hcs,fun M=>.agg (fun x hx=>?_) (by simp) fun j x v hx hv=>?_⟩
    ·obtain⟨y,-,rfl⟩:=aZ.1 hx;rfl
    ·rw[co]at hx
     rw[<-dy]at hv
     rw[hv]at hx
     simp at hx;subst hx
     exact .lit (jJ (aS.1 hc v (aY hv)))
   ·simp at h
  ·rename_i v hne hv
   split at h
   ·rename_i hc
    simp at h;subst h
    exact⟨_,hz _ hv,fun M=>.lit (jJ hc)⟩
   ·simp at h
  ·simp at h
 ·simp at h
theorem qw{t:TypeId}{z:AC}(h:u6 P t=some z):∃kt et v,P.underlying t=some (.map kt et)/\P.underlying kt=some .string/\(∀w,(zeroValue et).run P w=.ok v w)/\∀M,Rep M z v:=by
 simp only[u6]at h
 split at h
 ·rename_i k e hm
  split at h
  ·rename_i hk
   obtain⟨v,h1,h2⟩:=vD h
   exact⟨k,e,v,hm,hk,h1,h2⟩
  ·simp at h
 ·simp at h
theorem vT{M:bF}{r:Nat}{v:Value}(h:Rep M (.mp r) v):v=.map (some r):=by cases h;rfl
theorem ku{M:bF}{u v:Value}(h:Rep M (.lit u) v):v=u:=by cases h;rfl
theorem ui{M:bF}{x y:AC}{a b:Value}(h:Rep M x a)(h':Rep M y b):Rep M (.tup [x,y]) (.tuple #[a,b]):=by
 refine .tup rfl fun j q v hq hv=>?_
 match j,hq,hv with
 |0,hq,hv=>simp at hq hv;subst hq hv;exact h
 |1,hq,hv=>simp at hq hv;subst hq hv;exact h'
 |j+2,hq,hv=>simp at hq
theorem pY{t kt et:TypeId}{z:AC}{zv:Value}(hm:P.underlying t=some (.map kt et))(hk:P.underlying kt=some .string)
(hz:∀w,(zeroValue et).run P w=.ok zv w)(hzr:∀M,Rep M z zv){r:Nat}{f:ByteArray->Option AC}(hs:gY M w r (.map f))(k:ByteArray)(ok:Bool):
 ∃v,(Instr.lookup t (.map (some r)) (.string k) ok).run P w=.ok v w/\Rep M (iC z ok (f k)) v:=by
 obtain⟨es,cl,hw,hm',-⟩:=hs
 have hck:=fun e n=>run_checkKey (P:=P) (w:=w) (k:=.string k) hk trivial e n
 rcases hm'.find k with⟨h1,h2,-⟩|⟨j,e,x,h1,h2,h3,h4,h5⟩
 ·refine⟨if ok then .tuple #[zv,.bool false]else zv,?_,?_⟩
  ·simp[Instr.lookup,run_underlying hm,run_getObj_map hw,hck,run_findKey hk h1,hz,Result.andThen]
  ·rw[h2];unfold iC
   cases ok
   ·exact hzr M
   ·exact ui (hzr M) (.lit (by trivial))
 ·refine⟨if ok then .tuple #[e.val,.bool true]else e.val,?_,?_⟩
  ·simp[Instr.lookup,run_underlying hm,run_getObj_map hw,hck,run_findKey hk h1,Result.andThen]
  ·rw[h4];unfold iC
   cases ok
   ·exact h5
   ·exact ui h5 (.lit (by trivial))
theorem ue{t kt et:TypeId}(hm:P.underlying t=some (.map kt et))(hk:P.underlying kt=some .string)(s:Sim M H w)
{r:Nat}{f:ByteArray->Option AC}(hg:H.get r=some (.map f))(k:ByteArray){x:AC}{v:Value}(hr:Rep M x v):
 ∃w',(Instr.mapUpdate t (.map (some r)) (.string k) v).run P w=.ok () w'/\Sim M (H.set r (.map (lJ f k x))) w'/\bC M H w M (H.set r (.map (lJ f k x))) w':=by
 obtain⟨es,cl,hw,hm',-⟩:=s.obj r _ hg
 have hck:=fun e n=>run_checkKey (P:=P) (w:=w) (k:=.string k) hk trivial e n
 rcases hm'.find k with⟨h1,h2,h3⟩|⟨j,e,y,h1,h2,h3,h4,h5⟩
 ·obtain⟨s',t'⟩:=s.setMap hg (es:=es.push {key:=.string k,val:=v,born:=cl}) (n:=cl+1) (f:=lJ f k x) (by
   rw[Array.toList_push];exact hm'.push h3 hr cl)
  refine⟨_,?_,s',t'⟩
  simp[Instr.mapUpdate,run_underlying hm,run_getObj_map hw,hck,run_findKey hk h1,run_setObj_map _ hw,Result.andThen]
 ·obtain⟨s',t'⟩:=s.setMap hg (es:=es.modify j fun e=>{e with key:=.string k,val:=v}) (n:=cl) (f:=lJ f k x) (by
   rw[Array.toList_modify];exact hm'.set h2 h3 hr)
  have hj:es[j]?=some e:=by simpa using h2
  refine⟨_,?_,s',t'⟩
  simp[Instr.mapUpdate,run_underlying hm,run_getObj_map hw,hck,run_findKey hk h1,hj,h3,run_keyThatStays (d:=.string) (k:=.string k) trivial,run_setObj_map _ hw,Result.andThen]
theorem zX{M:bF}{x y:AC}{a b:Value}(h:gP M [x,y] [a,b]):Rep M x a/\Rep M y b:=⟨h.2 0 _ _ rfl rfl,h.2 1 _ _ rfl rfl⟩
theorem vU{M:bF}{x y z:AC}{a b c:Value}(h:gP M [x,y,z] [a,b,c]):Rep M x a/\Rep M y b/\Rep M z c:=⟨h.2 0 _ _ rfl rfl,h.2 1 _ _ rfl rfl,h.2 2 _ _ rfl rfl⟩
theorem oZ{M:bF}{xs ys:List AC}{vs us:List Value}(h:gP M xs vs)(h':gP M ys us):gP M (xs++ys) (vs++us):=by
 refine⟨by simp[h.1,h'.1],fun j x v hx hv=>?_⟩
 by_cases c:j<xs.length
 ·rw[aO c]at hx
  rw[aO (by rw[<-h.1];exact c)]at hv
  exact h.2 j x v hx hv
 ·rw[be (by omega)]at hx
  rw[be (by rw[<-h.1];omega),<-h.1]at hv
  exact h'.2 _ x v hx hv
theorem wB{fn:Func}(h:fn.name= "maps.clone")(ho:fn.origin= ""):Extern.find fn=some Extern.MapsClone.clone/\Extern.findNext fn=none:=by
 unfold Extern.find Extern.findNext
 rw[h,ho]
 exact⟨rfl,rfl⟩
theorem yo{t:TypeId}{name:String}{f:FuncId}(h:ux P t name=some f){u:Value}{k:Nat}:(method (k+Made.depth) t u name).run P w=.ok (f,u) w:=by
 obtain⟨d,hd⟩:∃d,k+Made.depth=d+1:=by
  have:0<Made.depth:=by decide
  exact⟨k+Made.depth - 1,by omega⟩
 rw[hd]
 simp only[ux]at h
 split at h
 ·simp at h
 ·rename_i i d0 hnp hi hu
  split at h
  ·rename_i m hm
   split at h
   ·rename_i hp
    split at h
    ·rename_i g hf
     simp at h;subst h
     have hti:(typeInfo t).run P w=.ok i w:=by simp[typeInfo,program,hi,Sem.run]
     have huu:(underlying t).run P w=.ok d0 w:=by simp[underlying,program,hu,Sem.run]
     have hpl:m.path.toList=[]:=by simpa using hp
     have hrec:∀wr,(receiverAt t (.val u) false wr).run P w=.ok u w:=fun wr=>by
      unfold receiverAt
      simp only[Sem.run_bind,huu,Result.andThen_ok]
      cases d0<;>first|rfl|exact absurd rfl (hnp _ _)
     unfold method
     simp[hti,hm,hpl,follow,hf,hrec,Result.andThen]
    ·simp at h
   ·simp at h
  ·simp at h
 ·simp at h
theorem xg{o:Oper}{c:vu}{zas:List aG}(hres:gO P o.op=some (.callX c zas)){a:Act}{E:aG->AC}(hE:∀x xa,eF x=some xa->Rep M (E xa) (a.eval x))(s:Sim M H w)
{dr:Bool}{K:(Nat->Prop)->AC->aj->Prop}(hrun:(EOp.callX c zas).run P E H dr K){next:Act->World->Prop}{Q:Exit->Act->World->Prop}
(hnext:∀FP r v M' H' w',K FP r H'->Rep M' r v->Sim M' H' w'->bC M H w M' H' w'->next (a.put o.dst v) w'):o.wp P a w next Q:=by
 obtain⟨Hf,R,hsub,hx,-,hk⟩:=hrun
 have hsf:=s.sub hsub
 have fin:∀{r:AC} {v:Value} {M':bF} {H':aj} {w':World},R r H'->Rep M' r v->Sim M' H' w'->bC M Hf w M' H' w'->next (a.put o.dst v) w':=by
  intro r v M' H' w' h4 h1 h2 h3
  obtain⟨f1,f2⟩:=s.frame hsub h2 h3
  refine hnext _ _ _ _ _ _ (hk r H' h4 fun b hb hn=>?_) h1 f1 f2
  rcases h3.fresh b hb with h|h
  ·exact absurd hn h
  ·exact s.free h
 obtain⟨dst,op,ty,pos,after,guard⟩:=o
 cases op<;>simp only[gO]at hres<;>try(simp at hres;done)
 case lookup t x i ok=>
  split at hres<;>simp at hres
  rename_i z as' hz has
  obtain⟨rfl,rfl⟩:=hres
  obtain⟨kt,et,zv,hm,hkt,hzv,hzr⟩:=qw hz
  have hargs:=ix hE _ _ has
  unfold mg at hx
  split at hx<;>try(first|exact hx.elim|simp_all;done)
  rename_i z' ok' r k heq hl
  simp only[vu.lookup.injEq]at heq
  obtain⟨rfl,rfl⟩:=heq
  rw[hl]at hargs
  obtain⟨h1,h2⟩:=zX hargs
  obtain⟨f,hf,hR⟩:=hx
  obtain⟨v,hv,hrep⟩:=pY hm hkt hzv hzr (hsf.obj r _ hf) k ok
  have hex:(execOp a.eval ⟨dst,.lookup t x i ok,ty,pos,after,guard⟩).run P w=.ok (.value v) w:=by
   simp only[execOp,vT h1,ku h2,hv,Sem.run_bind,Result.andThen_ok,Sem.run_pure]
  simp only[Oper.wp,hex,Oper.upon_value]
  exact fin hR hrep hsf (.refl _ _ _)
 case mapUpdate t m k v=>
  split at hres<;>simp at hres
  rename_i z as' hz has
  obtain⟨rfl,rfl⟩:=hres
  obtain⟨kt,et,zv,hm,hkt,hzv,hzr⟩:=qw hz
  have hargs:=ix hE _ _ has
  unfold mg at hx
  split at hx<;>try(first|exact hx.elim|simp_all;done)
  rename_i r k' y _ hl
  rw[hl]at hargs
  obtain⟨h1,h2,h3⟩:=vU hargs
  obtain⟨f,y',hle,hf,hR⟩:=hx
  obtain⟨w',hv,s',t'⟩:=ue hm hkt hsf hf k' (hle _ _ h3)
  have hex:(execOp a.eval ⟨dst,.mapUpdate t m k v,ty,pos,after,guard⟩).run P w=.ok .skip w':=by
   simp only[execOp,vT h1,ku h2,hv,Sem.run_bind,Result.andThen_ok,Sem.run_pure]
  simp only[Oper.wp,hex,Oper.upon_skip]
  exact fin hR (.tup rfl (by simp)) s' t'
 case buildSlice=>repeat' split at hres
                  all_goals simp at hres
 case store=>repeat' split at hres
             all_goals simp at hres
 case makeMap t r=>
  cases r with
  |some r=>simp at hres
  |none=>
   simp only[]at hres
   split at hres
   case h_2=>simp at hres
   simp only[Option.some.injEq,EOp.callX.injEq]at hres
   obtain⟨rfl,rfl⟩:=hres
   simp only[bB,mg]at hx
   obtain⟨s',t'⟩:=hsf.newMap (es:=#[]) (n:=0) (f:=fun _=>none) ⟨by simp,by simp,by simp,by simp⟩
   have hex:(execOp a.eval ⟨dst,.makeMap t none,ty,pos,after,guard⟩).run P w=.ok (.value (.map (some w.heap.size))) (w.alloc (.map #[] 0)):=by
    simp[execOp,Instr.makeMap,newObj,Sem.run,Result.andThen]
   simp only[Oper.wp,hex,Oper.upon_value]
   exact fin (hx _ (hsf.free (aA _))) .mp s' t'
 case call c=>
  obtain⟨callee,args,argTypes⟩:=c
  cases callee with
  |invoke r m=>
   simp only[gO,a7,EOp.callX.injEq]at hres
   obtain⟨as',has,rfl,rfl⟩:=hres
   have hargs:=ix hE _ _ has
   unfold mg at hx
   split at hx<;>try(first|exact hx.elim|simp_all;done)
   rename_i name t y xs hc hl
   simp only[vu.invoke.injEq]at hc
   subst hc
   rw[hl]at hargs
   obtain⟨g,hm,hg,hC⟩:=hx
   simp only[iz]at hg
   split at hg
   ·rename_i fn hfn
    simp only[aw,bne_iff_ne,ne_eq]at hg
    obtain⟨hb,hnm⟩:=hg
    have hbn':fn.body≠none:=by intro h;simp[h]at hb
    have hval:=hargs.2 0 _ _ rfl rfl
    generalize hfv:a.eval r=fv at hval
    cases hval with
    |@iface _ _ u hu=>
    have hrest:gP M (y::xs) (u::args.toList.map a.eval):=⟨by simpa using hargs.1,fun j x v hx hv=>by
     cases j with
     |zero=>simp at hx hv;subst hx hv;exact hu
     |succ j=>exact hargs.2 (j+1) x v (by simpa using hx) (by simpa using hv)⟩
    have hC':=hC M w _ hsf hrest
    have hmeth:(method (P.types.size+Made.depth) t u m).run P w=.ok (g,u) w:=yo hm
    have hex:(execOp a.eval ⟨dst,.call ⟨.invoke r m,args,argTypes⟩,ty,pos,after,guard⟩).run P w=.ok (.enter g (u::args.toList.map a.eval).toArray) w:=by
     have he:(#[Value.iface t u]++args.map a.eval).extract 1 (#[Value.iface t u]++args.map a.eval).size=args.map a.eval:=by
      apply eW.1;simp[cy]
     have h0:(#[Value.iface t u]++args.map a.eval)[0]?=some (.iface t u):=by rw[<-dy];simp
     have he2:#[u]++args.map a.eval=(u::args.toList.map a.eval).toArray:=by apply eW.1;simp
     simp only[execOp,resolve,hfv,Sem.run_bind,Sem.run_pure,Result.andThen_ok,invoke,he,h0]
     simp[callMethod,hmeth,callFunc,program,hfn,hnm,hbn',Sem.run,he2,Result.andThen]
    simp only[Oper.wp,hex,Oper.upon_enter]
    refine hC'.mono fun e w' h=>?_
    obtain⟨r,v,M',H',rfl,h1,h2,h3,h4⟩:=h
    exact fin h4 h1 h2 h3
   ·simp at hg
  |builtin b=>
   cases b<;>simp only[gO]at hres<;>try(simp at hres;done)
   repeat' split at hres
   all_goals simp at hres
  |value f=>
   cases f with
   |tmp t=>
    simp only[gO,a7,EOp.callX.injEq]at hres
    obtain⟨as',has,rfl,rfl⟩:=hres
    have hargs:=ix hE _ _ has
    unfold mg at hx
    split at hx<;>try(first|exact hx.elim|simp_all;done)
    rename_i g first cap xs _ hl
    rw[hl]at hargs
    obtain⟨hg,hC⟩:=hx
    simp only[iz]at hg
    split at hg
    ·rename_i fn hfn
     simp only[aw,bne_iff_ne,ne_eq]at hg
     obtain⟨hb,hnm⟩:=hg
     have hbn':fn.body≠none:=by intro h;simp[h]at hb
     have hval:=hargs.2 0 _ _ rfl rfl
     generalize hfv:a.eval (.tmp t)=fv at hval
     cases hval with
     |@fn _ _ _ vs us l1 r1 l2 r2=>
     have hrest:gP M xs (args.toList.map a.eval):=⟨by simpa using hargs.1,fun j x v hx hv=>hargs.2 (j+1) x v (by simpa using hx) (by simpa using hv)⟩
     have hall:gP M (first++xs++cap) (vs.toList++args.toList.map a.eval++us.toList):=
      oZ (oZ ⟨by simpa using l1,fun j x v hx hv=>r1 j x v hx (by simpa using hv)⟩ hrest) ⟨by simpa using l2,fun j x v hx hv=>r2 j x v hx (by simpa using hv)⟩
     have hC':=hC M w _ hsf hall
     have hex:(execOp a.eval ⟨dst,.call ⟨.value (.tmp t),args,argTypes⟩,ty,pos,after,guard⟩).run P w=.ok (.enter g (vs.toList++args.toList.map a.eval++us.toList).toArray) w:=by
      have ha:vs++args.map a.eval++us=(vs.toList++args.toList.map a.eval++us.toList).toArray:=by simp
      simp[execOp,resolve,hfv,Deferred.ofValue,invoke,callFunc,program,hfn,hnm,hbn',Sem.run]
     simp only[Oper.wp,hex,Oper.upon_enter]
     refine hC'.mono fun e w' h=>?_
     obtain⟨r,v,M',H',rfl,h1,h2,h3,h4⟩:=h
     exact fin h4 h1 h2 h3
    ·simp at hg
   |func f=>
    simp only[gO]at hres
    split at hres
    ·simp at hres
    ·split at hres
     ·rename_i hcl
      simp only[a7,EOp.callX.injEq]at hres
      obtain⟨as',has,rfl,rfl⟩:=hres
      have hargs:=ix hE _ _ has
      unfold mg at hx
      split at hx<;>try(first|exact hx.elim|simp_all;done)
      rename_i t r _ hl
      rw[hl]at hargs
      obtain⟨g,hf,hR⟩:=hx
      simp only[xJ]at hcl
      split at hcl
      ·rename_i fn hfn
       simp only[aw,beq_iff_eq]at hcl
       obtain⟨⟨hb,hnm⟩,ho⟩:=hcl
       obtain⟨c1,c2⟩:=wB hnm ho
       have hbn:fn.body=none:=by simpa using hb
       have hlen:=hargs.1
       obtain⟨v0,hv0⟩:∃v0,args.toList.map a.eval=[v0]:=by
        cases hq:args.toList.map a.eval with
        |nil=>rw[hq]at hlen;simp at hlen
        |cons v0 q=>cases q with
         |nil=>exact⟨v0,rfl⟩
         |cons _ _=>rw[hq]at hlen;simp at hlen
       have hargs':args.map a.eval=#[v0]:=by apply eW.1;simpa using hv0
       rw[hv0]at hargs
       have h0:=hargs.2 0 _ _ rfl rfl
       cases h0 with
       |@iface _ _ v h0=>
       have:=vT h0
       subst this
       obtain⟨es,cl,hw,hm',-⟩:=hsf.obj r _ hf
       obtain⟨s',t'⟩:=hsf.newMap (es:=es) (n:=cl) hm'
       have hc:(Extern.MapsClone.clone #[.iface t (.map (some r))]).run P w=.ok (.iface t (.map (some w.heap.size))) (w.alloc (.map es cl)):=by
        show Sem.run P (do
         let .map entries clock <-getObj r|stuck "maps.clone: a map expected"
         Pure.pure (Value.iface t (.map (some (<-newObj (.map entries clock)))))) w=_
        simp[run_getObj_map hw,newObj,Sem.run,Result.andThen]
       have hex:(execOp a.eval ⟨dst,.call ⟨.value (.func f),args,argTypes⟩,ty,pos,after,guard⟩).run P w=.ok (.value (.iface t (.map (some w.heap.size)))) (w.alloc (.map es cl)):=by
        simp[execOp,resolve,Act.eval,Deferred.ofValue,invoke,callFunc,program,hfn,hnm,hbn,c1,c2,hargs',hc,Sem.run,mark,Result.andThen]
       simp only[Oper.wp,hex,Oper.upon_value]
       exact fin (hR _ (hsf.free (aA _))) (.iface .mp) s' t'
      ·simp at hcl
     ·simp at hres
   |_=>simp[gO]at hres
end
section
variable {P:Program}{w:World}{M:bF}{H:aj}
theorem pX(t:TypeId)(v:Value):(newVar t v).run P w=.ok ⟨w.heap.size,0,none⟩ (w.alloc (.cells v.cells t)):=by
 simp[newVar,newRow]
theorem oo(z:List Value)(n:Nat):((ax n (z.map AC.lit)).flatten)=((ax n z).flatten).map .lit:=by
 induction n with
 |zero=>simp
 |succ n ih=>rw[List.replicate_succ,List.replicate_succ,av,av,ih,bL]
theorem lE(z:List Value)(hz:0<z.length)(n:Nat):((ax n z).flatten).length=n*z.length/\
 ∀k,k<n*z.length->((ax n z).flatten)[k]?=z[k % z.length]?:=by
 have hl:((ax n z).flatten).length=n*z.length:=by simp
 refine⟨hl,?_⟩
 induction n with
 |zero=>simp
 |succ n ih=>
  intro k hk
  simp only[List.replicate_succ,av]
  by_cases c:k<z.length
  ·rw[aO c,Nat.mod_eq_of_lt c]
  ·rw[cB]at hk
   rw[be (by omega),ih (by simp) _ (by omega)]
   congr 1
   rw[Nat.mod_eq_sub_mod (show z.length<=k by omega)]
theorem EOp.sound{o:Oper}{e:EOp}(hres:gO P o.op=some e){a:Act}{E:aG->AC}(hE:∀x xa,eF x=some xa->Rep M (E xa) (a.eval x))(s:Sim M H w)
{dr:Bool}{K:(Nat->Prop)->AC->aj->Prop}(hrun:e.run P E H dr K){next:Act->World->Prop}{Q:Exit->Act->World->Prop}
(hnext:∀FP r v M' H' w',K FP r H'->Rep M' r v->Sim M' H' w'->bC M H w M' H' w'->next (a.put o.dst v) w'):o.wp P a w next Q:=by
 by_cases hX:∃c zas,e=.callX c zas
 ·obtain⟨c,zas,rfl⟩:=hX
  exact xg hres hE s hrun hnext
 obtain⟨dst,op,ty,pos,after,guard⟩:=o
 have hY:=fun h=>hX (resE_X hres h)
 cases op<;>simp only[gO]at hres<;>try(simp at hres;done)
 case lookup=>exact(hY (.inl ⟨_,_,_,_,rfl⟩)).elim
 case mapUpdate=>exact(hY (.inr (.inl ⟨_,_,_,_,rfl⟩))).elim
 case makeMap=>exact(hY (.inr (.inr ⟨_,_,rfl⟩))).elim
 case box t x=>
  simp only[a7]at hres;obtain⟨xa,hx,rfl⟩:=hres
  have hr:=hE _ _ hx
  simp only[EOp.run]at hrun
  split at hrun
  ·rename_i cs hcs
   obtain⟨c1,c2,c3⟩:=nK hr hcs
   obtain⟨s',t'⟩:=s.newCells (a.eval x).cells t (w.alloc (.cells (a.eval x).cells t)) rfl ⟨rfl,rfl⟩ c3 c1 c2
   simp only[Oper.wp,execOp,Instr.box,Sem.run_bind,pX,Result.andThen_ok,Sem.run_pure,Oper.upon_value]
   exact hnext _ _ _ _ _ _ (hrun _ (s.free (aA _))) .ptr s' t'
  ·exact hrun.elim
 case alloc t=>
  simp only[a7]at hres;obtain⟨z,hz,rfl⟩:=hres
  obtain⟨i,zv,hi,hzv,hzl,hzs,hzo⟩:=km hz
  simp only[EOp.run]at hrun
  have hzz:(zeroValue t).run P w=.ok zv w:=by simp[zeroValue,typeInfo,program,hi,hzv,Sem.run]
  have hnew:Sim M (H.set w.heap.size (im (rT t z))) (w.alloc (.cells zv.cells t))/\bC M H w M (H.set w.heap.size (im (rT t z))) (w.alloc (.cells zv.cells t)):=by
   have hz':im (rT t z)=.cells (z.map .lit)\/im (rT t z)=.typed t (z.map .lit):=by
    unfold rT
    split
    ·right;simp[im]
    ·left
     cases z with
     |nil=>rfl
     |cons v r=>cases v<;>first|rfl|(have:=hzo _ fA;simp[okv]at this)
   rcases hz' with hz'|hz'<;>rw[hz']
   ·exact s.newCells zv.cells t (w.alloc (.cells zv.cells t)) rfl ⟨rfl,rfl⟩ (cs:=z.map .lit) (by simp[AC.one]) (by rw[<-hzl];simp)
     (fun j x v hx hv=>lP hzo j x v hx (by rw[<-hzl];simpa using hv))
   ·exact s.newTyped zv.cells t (w.alloc (.cells zv.cells t)) rfl ⟨rfl,rfl⟩ (cs:=z.map .lit) (by rw[<-hzl];simp)
     (fun j x v hx hv=>lP hzo j x v hx (by rw[<-hzl];simpa using hv))
  obtain⟨s',t'⟩:=hnew
  have hrr:(Instr.alloc t true (.tuple #[])).run P w=.ok (.pointer (some ⟨w.heap.size,0,none⟩)) (w.alloc (.cells zv.cells t)):=by
   simp only[Instr.alloc,Sem.run_bind,hzz,Result.andThen_ok,pX,Sem.run_pure]
  simp only[Oper.wp,execOp,hrr,Sem.run_bind,Result.andThen_ok,Sem.run_pure,Oper.upon_value]
  exact hnext _ _ _ _ _ _ (hrun _ (s.free (aA _))) .ptr s' t'
 case buildSlice t len parts=>
  split at hres
  ·rename_i el hu
   split at hres
   ·rename_i z hz
    split at hres
    ·rename_i hc
     simp only[a7]at hres;obtain⟨xp,hxp,rfl⟩:=hres
     obtain⟨i,zv,hi,hzv,hzl,hzs,hzo⟩:=km hz
     have hsz:z.length=i.size:=by rw[<-hzl];simpa using hzs
     simp only[EOp.run]at hrun
     split at hrun
     ·rename_i cs hcs
      obtain⟨hf1,hf2⟩:=lE z hc.2 len
      rw[oo]at hcs
      have hone:∀x∈(ax len z).flatten,okv x:=by
       intro x hx
       obtain⟨l,hl,hx⟩:=List.mem_flatten.1 hx
       rw[List.eq_of_mem_replicate hl]at hx
       exact hzo x hx
      have hlen:=rK _ _ _ hcs
      simp only[ao,hf1]at hlen
      obtain⟨us,h1,h2,h3,h4⟩:=qM hE (pl:=fun i=>some (i*z.length,z.length)) (place:=fun j=>some (j*i.size,i.size)) (fun j q h=>by rw[<-hsz];exact h) parts.toList xp
       (((ax len z).flatten).map .lit) ((ax len z).flatten).toArray cs hxp (by simp) (fun j x v hx hv=>lP hone j x v hx (by simpa using hv)) (fun x hx=>by obtain⟨v,-,rfl⟩:=aZ.1 hx;rfl) hcs
      have hzz:(zeroValue el).run P w=.ok zv w:=by simp[zeroValue,typeInfo,program,hi,hzv,Sem.run]
      have huu:(underlying t).run P w=.ok (.slice el) w:=by simp[underlying,program,hu,Sem.run]
      have hss:(sizeOf el).run P w=.ok i.size w:=by simp[sizeOf,typeInfo,program,hi,Sem.run]
      have hinit:∀zc:Array Value,(len*i.size=0\/zc=zv.cells)->((Array.range (len*i.size)).map (zc[· % zc.size]!))=((ax len z).flatten).toArray:=by
       intro zc hzc
       have hsize:((Array.range (len*i.size)).map (zc[· % zc.size]!)).size=((ax len z).flatten).toArray.size:=by
        simp only[Array.size_map,Array.size_range,j5,hf1,hsz]
       refine Array.ext hsize fun k h1 h2=>?_
       have hk:k<len*z.length:=by simpa[hsz]using h1
       have hz':zc=zv.cells:=hzc.resolve_left (by rw[<-hsz];omega)
       subst hz'
       have hm:k % zv.cells.size<zv.cells.size:=Nat.mod_lt _ (by omega)
       have e1:=hf2 k hk
       have e2:z.length=zv.cells.size:=by omega
       have e3:z[k % z.length]?=some zv.cells[k % zv.cells.size]:=by
        rw[e2,<-hzl,dy,de hm]
       rw[e3]at e1
       have e4:=(aN.1 e1).2
       simp only[Array.getElem_map,Array.getElem_range,List.getElem_toArray]
       rw[getElem!_pos zv.cells _ hm]
       exact e4.symm
      have hlim:¬len*i.size>2^24:=by rw[<-hsz];omega
      have hrr:(Instr.buildSlice t len (parts.map fun(i,x)=>(i,a.eval x))).run P w=.ok (.slice (some ⟨w.heap.size,0,none⟩) len len) (w.alloc (.cells us el)):=by
       by_cases h0:len*i.size=0
       ·have hi':=hinit #[] (.inl h0)
        simp only[Array.size_empty]at hi'
        simp only[Instr.buildSlice,Sem.run_bind,huu,Result.andThen_ok,hss,Sem.run_ite,if_neg hlim,if_pos h0,Sem.run_pure,Array.toList_map]
        simp only[Array.size_empty,hi',h1]
        simp[newRow]
       ·have hi':=hinit _ (.inr rfl)
        simp only[Instr.buildSlice,Sem.run_bind,huu,Result.andThen_ok,hss,Sem.run_ite,if_neg hlim,if_neg h0,hzz,Sem.run_pure,Array.toList_map]
        simp only[hi',h1]
        simp[newRow]
      have hus:us.size=len*z.length:=by omega
      obtain⟨s',t'⟩:=s.newTail us el (w.alloc (.cells us el)) rfl ⟨rfl,rfl⟩ (n:=len*z.length) (by omega)
      rw[hus]at s' t'
      simp only[Oper.wp,execOp,hrr,Sem.run_bind,Result.andThen_ok,Sem.run_pure,Oper.upon_value]
      obtain⟨hc1,hc2⟩:=yN z.length len cs (by omega)
      refine hnext _ _ _ _ _ _ (hrun _ (s.free (aA _))) ?_ s' t'
      have hL:LIM=2^40:=rfl
      have hlenle:len<=2^24:=cg (Nat.le_mul_of_pos_right _ hc.2) hc.1
      have hq:=oT (M:=M.frz w.heap.size 0 (len*z.length) us) (b:=w.heap.size) (cap:=len) (sz:=z.length) (es:=bg z.length len cs) (fun i j=>us.getD (i*z.length+j) undef)
       (by omega) (by omega) (fun e he=>by
        obtain⟨k,hk⟩:=jx.1 he
        exact⟨(hc2 k e hk).1,fun x hx=>h4 x ((hc2 k e hk).2.1 x hx)⟩) ?_
      ·rw[hc1]at hq;exact hq
      ·intro i j e x he hx
       have hi':i<len:=by have:=(aN.1 he).1;omega
       have hj':j<z.length:=by have:=(aN.1 hx).1;have:=(hc2 i e he).1;omega
       have hlt:=ff hi' hj'
       have hu':us[i*z.length+j]?=some (us.getD (i*z.length+j) undef):=by simp[Array.getD,show i*z.length+j<us.size by omega]
       refine⟨?_,(h3 _ x _ ((hc2 i e he).2.2 j x hx) hu').mono t'.le⟩
       unfold bF.frz
       rw[if_pos ⟨rfl,gN _,hlt⟩];exact hu'
     ·exact hrun.elim
    ·simp at hres
   ·simp at hres
  ·simp at hres
 case store t ad x=>
  split at hres
  ·rename_i i aa xa hi ha hx
   simp at hres;subst hres
   have hra:=hE _ _ ha
   have hrx:=hE _ _ hx
   simp only[EOp.run]at hrun
   split at hrun
   ·rename_i r off xs hea hxs
    split at hrun
    ·rename_i cs hget
     obtain⟨hl,ho,hk⟩:=hrun
     rw[hea]at hra
     have e:=hra.ptr_inv
     obtain⟨c1,c2,c3⟩:=nK hrx hxs
     obtain⟨vs,el,hb1,hb2,hb3,hb4,hb5⟩:=s.obj _ _ hget
     have h1:∀v∈(a.eval x).cells.toList,v.oneCell'=true:=by
      intro v hv
      obtain⟨k,hk⟩:=jx.1 hv
      have hlt:k<xs.length:=by have:=(aN.1 hk).1;simp at this;omega
      have hx':=a6 hlt
      exact(c2 k _ v hx' (by simpa using hk)).one (c3 _ (aY hx'))
     have hst:=run_storeCells_at P r off el (a.eval x).cells.toList 0 vs w hb1 (by simp;omega) h1
     simp only[Nat.add_zero]at hst
     generalize harr:(vs.toList.take off++(a.eval x).cells.toList++vs.toList.drop (off+(a.eval x).cells.toList.length)).toArray=arr at hst
     have hself:=setRow_heap w r vs arr el (0,0) hb1
     have harr':arr.toList=bx vs.toList off (a.eval x).cells.toList:=by rw[<-harr];simp[bx]
     have hasz:arr.size=vs.size:=by rw[<-kF,harr',eZ _ _ _ (by simp;omega)];simp
     have hlen:(bx cs off xs).length=cs.length:=eZ _ _ _ (by omega)
     obtain⟨s',t'⟩:=s.setRow hget arr (fun k v hkv=>by rw[hb5 k]at hkv;simp at hkv) hb1 (o':=.cells (bx cs off xs))
      ⟨arr,el,hself,nv hb2 c3,by omega,fun j y v hy hv=>by
       rw[<-dy,harr']at hv
       exact nw (vs:=vs.toList) (us:=(a.eval x).cells.toList) (by simpa using hb3) (by simpa using c1) (fun j x v hx hv=>hb4 j x v hx (by simpa using hv)) (fun j x v hx hv=>c2 j x v hx (by simpa using hv)) (by omega) j y v hy hv,hb5⟩
     have hrr:(Instr.storeAt t (a.eval ad) (a.eval x)).run P w=.ok () (w.setRow r arr):=by
      have:¬(a.eval x).cells.size≠i.size:=by omega
      simp only[Instr.storeAt,e,Instr.sureAddr,storeVar,sizeOf,typeInfo,program,Sem.run_bind,Sem.run_pure,Result.andThen_ok,Sem.run,hi,this,if_false,hst]
     simp only[Oper.wp,execOp,hrr,Sem.run_bind,Result.andThen_ok,Sem.run_pure,Oper.upon_skip]
     exact hnext _ _ _ _ _ _ hk (.tup rfl (by simp)) s' t'
    ·exact hrun.elim
   ·exact hrun.elim
  ·simp at hres
 case call c=>
  obtain⟨callee,args,argTypes⟩:=c
  cases callee with
  |invoke r m=>
   simp only[gO,a7]at hres
   obtain⟨zas,-,rfl⟩:=hres
   exact(hX ⟨_,_,rfl⟩).elim
  |builtin b=>
   cases b<;>simp only[gO]at hres<;>try(simp at hres;done)
   split at hres
   ·rename_i sx x t u hx ht
    have ea:args=#[sx,x]:=by apply eW.1;simpa using hx
    have et:argTypes=#[t,u]:=by apply eW.1;simpa using ht
    subst ea et
    split at hres
    ·rename_i htu
     subst htu
     split at hres
     ·rename_i el sa xa hu hsa hxa
      split at hres
      ·rename_i z i hz hi
       split at hres
       ·rename_i hc
        simp at hres;subst hres
        obtain⟨v,w',hrr,hn⟩:=t9 (ty:=ty) hu hz hi hc.1 hc.2 s (hE _ _ hsa) (hE _ _ hxa) hrun (next:=fun v w'=>next (a.put dst v) w') hnext
        have:(execOp a.eval ⟨dst,.call ⟨.builtin .append,#[sx,x],#[t,t]⟩,ty,pos,after,guard⟩).run P w=.ok (.value v) w':=by
         simp[execOp,resolve,invoke,builtin,hrr]
        simp only[Oper.wp,this,Oper.upon_value]
        exact hn
       ·simp at hres
      ·simp at hres
     ·simp at hres
    ·simp at hres
   ·simp at hres
  |value f=>
   cases f with
   |func f=>
    simp only[gO]at hres
    split at hres
    ·rename_i hg
     simp only[a7]at hres;obtain⟨zas,has,rfl⟩:=hres
     simp only[iz]at hg
     split at hg
     ·rename_i fn hfn
      simp only[aw,bne_iff_ne,ne_eq]at hg
      obtain⟨hb,hnm⟩:=hg
      obtain⟨Hf,R,hsub,hcalls,-,hk⟩:=hrun
      have hargs:=ix hE args.toList zas has
      have hsf:=s.sub hsub
      have hC:=hcalls M w (args.toList.map a.eval) hsf hargs
      have hex:(execOp a.eval ⟨dst,.call ⟨.value (.func f),args,argTypes⟩,ty,pos,after,guard⟩).run P w=.ok (.enter f (args.toList.map a.eval).toArray) w:=by
       have hbn:True:=trivial
       have hbn':fn.body≠none:=by intro h;simp[h]at hb
       have hargs':(args.map a.eval)=(args.toList.map a.eval).toArray:=by rw[<-Array.toList_map,Array.toArray_toList]
       simp[execOp,resolve,Deferred.ofValue,invoke,callFunc,program,Act.eval,hfn,hnm,hbn',Sem.run,hargs']
      simp only[Oper.wp,hex,Oper.upon_enter]
      refine hC.mono fun e w' h=>?_
      obtain⟨r,v,M',H',rfl,h1,h2,h3,h4⟩:=h
      obtain⟨f1,f2⟩:=s.frame hsub h2 h3
      refine hnext _ _ _ _ _ _ (hk r H' h4 fun b hb hn=>?_) h1 f1 f2
      rcases h3.fresh b hb with h|h
      ·exact absurd hn h
      ·exact s.free h
     ·simp at hg
    ·split at hres
     ·simp only[a7]at hres
      obtain⟨zas,-,rfl⟩:=hres
      exact(hX ⟨_,_,rfl⟩).elim
     ·simp at hres
   |tmp t=>
    simp only[gO,a7]at hres
    obtain⟨zas,-,rfl⟩:=hres
    exact(hX ⟨_,_,rfl⟩).elim
   |_=>simp[gO]at hres
theorem wi{o:Oper}{sz len:Nat}{z:List Value}{parts:List (Nat×Nat×aG)}(hres:gO P o.op=some (.buildSlice sz len z parts)){a:Act}{E:aG->AC}
(hE:∀x xa,eF x=some xa->Rep M (E xa) (a.eval x))(s:Sim M H w){cs:List AC}(hv:gX ((ax len (z.map AC.lit)).flatten) (parts.map fun p=>(p.1,p.2.1,E p.2.2))=some cs)
{next:Act->World->Prop}{Q:Exit->Act->World->Prop}
(hnext:∀v M' w',Rep M' (.sl sz none (bg sz len cs)) v->Sim M' H w'->bC M H w M' H w'->next (a.put o.dst v) w'):o.wp P a w next Q:=by
 refine EOp.sound (dr:=false) hres hE s (K:=fun FP r H'=>∃b n m,H.get b=none/\r=.sl sz (some (b,n,m)) (bg sz len cs)/\H'=H.set b (.tail n m)) ?_ ?_
 ·simp only[EOp.run,hv]
  exact fun b hb=>⟨b,_,_,hb,rfl,rfl⟩
 ·rintro FP r v M' H' w' ⟨b,n,m,hb,rfl,rfl⟩ hr hs ht
  have hsub:H.sub (H.set b (.tail n m)):=by
   intro c q hc
   rw[ae _ _ (by rintro rfl;rw[hb]at hc;simp at hc)];exact hc
  refine hnext v M' w' ?_ (hs.sub hsub) (ht.weaken hsub)
  cases hr with
  |sl vs a b c d e f=>exact .sl vs a b c d e (by simp)
end
inductive XOp where
 |pure(p:POp)
 |load(l:LOp)
 |eff(e:EOp)
 |lits(sz len:Nat)(zero:List Value)(parts:List (Nat×Nat×aG))
 deriving Inhabited
def xk:XOp->XOp
 |.eff (.append a b c d)=>.eff (.appendM a b c d)
 |x=>x
def EOp.isA:EOp->Bool
 |.box _|.alloc _|.buildSlice ..|.append ..=>true
 |_=>false
def EOp.isF:EOp->Bool
 |.box _|.alloc _|.buildSlice ..=>true
 |_=>false
structure aJ where
 id:Nat
 dst:Option Nat
 guard:Option (Nat×Bool)
 op:XOp
 inc:List Nat
 deriving Inhabited
def aJ.toM(x:aJ):aJ:={x with op:=xk x.op}
abbrev Lds:=List (Nat×Nat)
abbrev Fps:=List (Nat×(Nat->Prop))
def jw:List Nat->Fps->Option Nat->Prop
 |[],_,_=>True
 |_,_,none=>True
 |inc,fps,some b=>∀f∈fps,f.1∈inc->¬f.2 b
def dQ:List Nat->Lds->(Nat->Prop)->Prop
 |[],_,_=>True
 |inc,lds,FP=>∀l∈lds,l.1∈inc->¬FP l.2
def oS(id:Nat):Option Nat->Lds->Lds
 |none,l=>l
 |some b,l=>(id,b)::l
def dt(E:Env):Option (Nat×Bool)->Option Bool
 |none=>some true
 |some (n,want)=>match E n with
  |.lit (.bool b)=>some (b==want)
  |.tup []=>some false
  |_=>none
def aJ.act(P:Program)(dr:Bool)(x:aJ)(E:Env)(H:aj)(lds:Lds)(fps:Fps)(K:AC->aj->Lds->Fps->Prop):Prop:=
 match dt E x.guard with
 |none=>False
 |some false=>K (.tup []) H lds fps
 |some true=>
  match x.op with
  |.pure p=>match p.val (aG.ev E)with
   |some r=>K r H lds fps
   |none=>False
  |.load l=>match l.val H (aG.ev E)with
   |some (r,ob)=>jw x.inc fps ob/\K r H (oS x.id ob lds) fps
   |none=>False
  |.eff e=>if e.isA then e.run P (aG.ev E) H dr fun _ r H'=>K r H' lds fps
   else e.run P (aG.ev E) H dr fun FP r H'=>dQ x.inc lds FP/\K r H' lds ((x.id,fun b=>FP b\/H.get b=none)::fps)
  |.lits sz len z parts=>match gX ((ax len (z.map AC.lit)).flatten) (parts.map fun p=>(p.1,p.2.1,aG.ev E p.2.2))with
   |some cs=>K (.sl sz none (bg sz len cs)) H lds fps
   |none=>False
def bp(P:Program)(dr:Bool)(K:Env->aj->Prop):List aJ->Env->aj->Lds->Fps->Prop
 |[],E,H,_,_=>K E H
 |x::xs,E,H,lds,fps=>x.act P dr E H lds fps fun r H' lds' fps'=>bp P dr K xs (E.put x.dst r) H' lds' fps'
def aG.uses:aG->List Nat
 |.slot n=>[n]
 |_=>[]
def sV:Option aG->List Nat
 |some x=>x.uses
 |none=>[]
def POp.uses:POp->List Nat
 |.move x|.field _ _ x|.fieldAddr _ x|.extract x _|.lenSl x|.lenStr x|.not x|.neg x|.conv _ x|.convStr x|.mkIface _ x|.nilCheck x|.isNil _ x=>x.uses
 |.assertT _ z x=>z.uses++x.uses
 |.isNil0 _ _ x|.assert1 _ x=>x.uses
 |.minI x y=>x.uses++y.uses
 |.mkFn _ zas cs=>zas.flatMap (·.uses)++cs.flatMap (·.uses)
 |.pick c a b=>c.uses++a.uses++b.uses
 |.build _ ps=>ps.flatMap fun p=>p.2.2.uses
 |.indexAddr _ x i|.strIndex x i|.bin _ x i|.eqBool _ x i=>x.uses++i.uses
 |.slice _ x lo hi|.strSlice x lo hi=>x.uses++sV lo++sV hi
def LOp.uses:LOp->List Nat
 |.load _ a=>a.uses
 |.bytesToStr x=>x.uses
def EOp.uses:EOp->List Nat
 |.box x=>x.uses
 |.alloc _=>[]
 |.buildSlice _ _ _ ps=>ps.flatMap fun p=>p.2.2.uses
 |.store _ a x=>a.uses++x.uses
 |.append _ _ s y=>s.uses++y.uses
 |.appendM _ _ s y=>s.uses++y.uses
 |.call _ args|.callX _ args=>args.flatMap (·.uses)
def XOp.uses:XOp->List Nat
 |.pure p=>p.uses
 |.load l=>l.uses
 |.eff e=>e.uses
 |.lits _ _ _ ps=>ps.flatMap fun p=>p.2.2.uses
def aJ.uses(x:aJ):List Nat:=(match x.guard with|some (n,_)=>[n]|none=>[])++x.op.uses
def XOp.isP:XOp->Bool
 |.pure _|.lits ..=>true
 |_=>false
def o7:XOp->Bool
 |.eff (.appendM ..)=>true
 |_=>false
def kx(x y:aJ):Bool:=match x.op,y.op with
 |.eff e,.eff e'=>(e.isA&&e'.isA)||(!e.isA&&e'.isF)||(o7 (.eff e)&&e'.isA)
 |.eff e,.load _|.load _,.eff e=>e.isA||(x.inc.contains y.id&&y.inc.contains x.id)
 |_,_=>true
def kK(x y:aJ):Bool:=
 (match x.dst with
  |some d=>!y.uses.contains d&&y.dst !=some d
  |none=>true)&&
 (match y.dst with
  |some d=>!x.uses.contains d
  |none=>true)&&kx x y
theorem ba{E E':Env}{x:aG}(h:∀n∈x.uses,E n=E' n):x.ev E=x.ev E':=by
 cases x<;>simp_all [aG.uses,aG.ev]
theorem mM{E E':Env}{x:Option aG}(h:∀n∈sV x,E n=E' n):l9 (aG.ev E) x=l9 (aG.ev E') x/\∀n,lA (aG.ev E) n x=lA (aG.ev E') n x:=by
 cases x with
 |none=>exact⟨rfl,fun _=>rfl⟩
 |some x=>
  have:=ba (x:=x) h
  exact⟨by simp only[l9,this],fun n=>by simp only[lA,this]⟩
theorem lR{E E':Env}{ps:List (Nat×Nat×aG)}(h:∀n∈ps.flatMap fun p=>p.2.2.uses,E n=E' n):
 (ps.map fun p=>(p.1,p.2.1,aG.ev E p.2.2))=ps.map fun p=>(p.1,p.2.1,aG.ev E' p.2.2):=by
 apply eJ
 intro p hp
 rw[ba fun n hn=>h n (List.mem_flatMap.2 ⟨p,hp,hn⟩)]
theorem POp.val_congr{E E':Env}{p:POp}(h:∀n∈p.uses,E n=E' n):p.val (aG.ev E)=p.val (aG.ev E'):=by
 cases p<;>simp only[POp.uses,aE]at h<;>simp only[POp.val]
 case pick c a b=>rw[ba (x:=c) fun n hn=>h n (.inl (.inl hn)),ba (x:=a) fun n hn=>h n (.inl (.inr hn)),ba (x:=b) fun n hn=>h n (.inr hn)]
 case build z ps=>rw[lR h]
 case indexAddr sz x i=>rw[ba (x:=x) fun n hn=>h n (.inl hn),ba (x:=i) fun n hn=>h n (.inr hn)]
 case strIndex x i=>rw[ba (x:=x) fun n hn=>h n (.inl hn),ba (x:=i) fun n hn=>h n (.inr hn)]
 case bin op x i=>rw[ba (x:=x) fun n hn=>h n (.inl hn),ba (x:=i) fun n hn=>h n (.inr hn)]
 case assertT t z x=>rw[ba (x:=z) fun n hn=>h n (.inl hn),ba (x:=x) fun n hn=>h n (.inr hn)]
 case minI x i=>rw[ba (x:=x) fun n hn=>h n (.inl hn),ba (x:=i) fun n hn=>h n (.inr hn)]
 case mkFn f zas cs=>
  rw[eJ (l:=zas) fun x hx=>ba fun n hn=>h n (.inl (List.mem_flatMap.2 ⟨x,hx,hn⟩)),
   eJ (l:=cs) fun x hx=>ba fun n hn=>h n (.inr (List.mem_flatMap.2 ⟨x,hx,hn⟩))]
 case eqBool q x i=>rw[ba (x:=x) fun n hn=>h n (.inl hn),ba (x:=i) fun n hn=>h n (.inr hn)]
 case slice sz x lo hi=>
  rw[ba (x:=x) fun n hn=>h n (.inl (.inl hn)),(mM (x:=lo) fun n hn=>h n (.inl (.inr hn))).1]
  simp only[(mM (x:=hi) fun n hn=>h n (.inr hn)).2]
 case strSlice x lo hi=>
  rw[ba (x:=x) fun n hn=>h n (.inl (.inl hn)),(mM (x:=lo) fun n hn=>h n (.inl (.inr hn))).1]
  simp only[(mM (x:=hi) fun n hn=>h n (.inr hn)).2]
 all_goals rw[ba h]
theorem LOp.val_congr{E E':Env}{H:aj}{l:LOp}(h:∀n∈l.uses,E n=E' n):l.val H (aG.ev E)=l.val H (aG.ev E'):=by
 cases l<;>simp only[LOp.uses]at h<;>simp only[LOp.val,ba h]
theorem nj{P:Program}{E E':Env}{H:aj}{dr:Bool}{K:(Nat->Prop)->AC->aj->Prop}{e:EOp}(h:∀n∈e.uses,E n=E' n):
 e.run P (aG.ev E) H dr K=e.run P (aG.ev E') H dr K:=by
 cases e<;>simp only[EOp.uses,aE]at h<;>simp only[EOp.run]
 case box x=>rw[ba h]
 case buildSlice sz len z ps=>rw[lR h]
 case appendM n b a x=>rw[ba (x:=a) fun n hn=>h n (.inl hn),ba (x:=x) fun n hn=>h n (.inr hn)]
 case store n a x=>rw[ba (x:=a) fun n hn=>h n (.inl hn),ba (x:=x) fun n hn=>h n (.inr hn)]
 case append sz b s y=>rw[ba (x:=s) fun n hn=>h n (.inl hn),ba (x:=y) fun n hn=>h n (.inr hn)]
 case call f args=>
  have:args.map (aG.ev E)=args.map (aG.ev E'):=eJ fun x hx=>ba fun n hn=>h n (List.mem_flatMap.2 ⟨x,hx,hn⟩)
  rw[this]
 case callX f args=>
  have:args.map (aG.ev E)=args.map (aG.ev E'):=eJ fun x hx=>ba fun n hn=>h n (List.mem_flatMap.2 ⟨x,hx,hn⟩)
  rw[this]
theorem ru{E E':Env}{g:Option (Nat×Bool)}(h:∀n,(g.map (·.1))=some n->E n=E' n):dt E g=dt E' g:=by
 cases g with
 |none=>rfl
 |some q=>simp only[dt,h q.1 rfl]
theorem lB{P:Program}{dr:Bool}{x:aJ}{E E':Env}{H:aj}{lds:Lds}{fps:Fps}{K:AC->aj->Lds->Fps->Prop}
(h:∀n∈x.uses,E n=E' n):x.act P dr E H lds fps K=x.act P dr E' H lds fps K:=by
 simp only[aJ.uses,aE]at h
 unfold aJ.act
 rw[ru (g:=x.guard) (fun n hn=>h n (.inl (by cases hg:x.guard<;>simp_all)))]
 split
 ·rfl
 ·rfl
 ·cases hop:x.op<;>simp only[hop,XOp.uses]at h<;>simp only[]
  ·rw[POp.val_congr fun n hn=>h n (.inr hn)]
  ·rw[LOp.val_congr fun n hn=>h n (.inr hn)]
  ·split
   ·rw[nj fun n hn=>h n (.inr hn)]
   ·rw[nj fun n hn=>h n (.inr hn)]
  ·rw[lR fun n hn=>h n (.inr hn)]
theorem zk{H:aj}{sz:Nat}{ys:List (List AC)}{K K':(Nat->Prop)->AC->aj->Prop}(h:∀FP r H',K FP r H'->K' FP r H'){x:AC}(hr:kj H sz ys K x):kj H sz ys K' x:=by
 unfold kj at hr
 split at hr
 ·exact⟨hr.1,fun e=>h _ _ _ (hr.2.1 e),fun e=>(hr.2.2 e).imp (fun q b m hb hm=>h _ _ _ (q b m hb hm)) (fun q b c cs h1 h2 h3 h4=>h _ _ _ (q b c cs h1 h2 h3 h4))⟩
 ·exact⟨hr.1,hr.2.1,hr.2.2.1,hr.2.2.2.imp (fun q b m hb hm=>h _ _ _ (q b m hb hm)) (fun q=>⟨q.1,q.2.1,fun b c cs h1 h2 h3 h4=>h _ _ _ (q.2.2 b c cs h1 h2 h3 h4)⟩)⟩
 ·obtain⟨cs,h1,h2,h3,h4,h5⟩:=hr
  exact⟨cs,h1,h2,h3,h4,fun b c cs' a1 a2 a3 a4=>h _ _ _ (h5 b c cs' a1 a2 a3 a4)⟩
 ·exact hr.elim
theorem dc{P:Program}{E:aG->AC}{H:aj}{dr:Bool}{K K':(Nat->Prop)->AC->aj->Prop}{e:EOp}(h:∀FP r H',K FP r H'->K' FP r H')
(hr:e.run P E H dr K):e.run P E H dr K':=by
 cases e<;>simp only[EOp.run]at hr⊢
 case box x=>split at hr;· exact fun b hb=>h _ _ _ (hr b hb)
             ·exact hr
 case alloc z=>exact fun b hb=>h _ _ _ (hr b hb)
 case buildSlice=>split at hr;· exact fun b hb=>h _ _ _ (hr b hb)
                  ·exact hr
 case store=>
  split at hr
  ·split at hr
   ·exact⟨hr.1,hr.2.1,h _ _ _ hr.2.2⟩
   ·exact hr
  ·exact hr
 case append=>
  split at hr
  ·split at hr
   ·exact⟨hr.1,fun e=>h _ _ _ (hr.2.1 e),fun e b m hb hm=>h _ _ _ (hr.2.2 e b m hb hm)⟩
   ·exact⟨hr.1,hr.2.1,hr.2.2.1,fun b m hb hm=>h _ _ _ (hr.2.2.2 b m hb hm)⟩
   ·exact hr
  ·exact hr
 case appendM=>
  split at hr
  ·exact⟨hr.1,zk h hr.2⟩
  ·exact hr.elim
 case call=>
  obtain⟨Hf,R,h1,h2,h3,h4⟩:=hr
  exact⟨Hf,R,h1,h2,h3,fun r H' a b=>h _ _ _ (h4 r H' a b)⟩
 case callX=>
  obtain⟨Hf,R,h1,h2,h3,h4⟩:=hr
  exact⟨Hf,R,h1,h2,h3,fun r H' a b=>h _ _ _ (h4 r H' a b)⟩
def oB(FP:Nat->Prop)(H H':aj):Prop:=∀b,¬FP b->H.get b≠none->∀cs,(H'.get b).bind cz.rd=some cs↔(H.get b).bind cz.rd=some cs
theorem oB.set{FP:Nat->Prop}{H:aj}{b:Nat}{o:cz}(h:H.get b=none\/FP b):oB FP H (H.set b o):=by
 intro c hc hn cs
 rw[ae]
 rintro rfl
 exact h.elim hn hc
theorem wP{H:aj}{sz:Nat}{ys:List (List AC)}{K:(Nat->Prop)->AC->aj->Prop}{x:AC}(hr:kj H sz ys K x):kj H sz ys (fun FP r H'=>K FP r H'/\oB FP H H') x:=by
 unfold kj at hr
 split at hr
 ·exact⟨hr.1,fun e=>⟨hr.2.1 e,fun _ _ _ _=>dz⟩,fun e=>(hr.2.2 e).imp (fun q b m hb hm=>⟨q b m hb hm,.set (.inl hb)⟩) (fun q b c cs h1 h2 h3 h4=>⟨q b c cs h1 h2 h3 h4,.set (.inl h1)⟩)⟩
 ·refine⟨hr.1,hr.2.1,hr.2.2.1,hr.2.2.2.imp (fun q b m hb hm=>⟨q b m hb hm,?_⟩)
   (fun q=>⟨q.1,q.2.1,fun b c cs h1 h2 h3 h4=>⟨q.2.2 b c cs h1 h2 h3 h4,.set (h1.symm.imp id id)⟩⟩)⟩
  rename_i b0 n0 m0 es0
  have ht:=hr.2.2.1
  intro c hc hn cs
  rw[aK]
  split
  ·rename_i e
   subst e
   rcases hb with rfl|hb
   ·rw[ht];simp[cz.rd]
   ·exact absurd hb hn
  ·rfl
 ·obtain⟨cs,h1,h2,h3,h4,h5⟩:=hr
  exact⟨cs,h1,h2,h3,h4,fun b c cs' a1 a2 a3 a4=>⟨h5 b c cs' a1 a2 a3 a4,.set (a1.symm.imp id id)⟩⟩
 ·exact hr.elim
theorem ni{P:Program}{E:aG->AC}{H:aj}{dr:Bool}{K:(Nat->Prop)->AC->aj->Prop}{e:EOp}(ha:e.isA=false)
(hr:e.run P E H dr K):e.run P E H dr fun FP r H'=>K FP r H'/\oB FP H H':=by
 cases e<;>simp only[EOp.isA,reduceCtorEq]at ha<;>simp only[EOp.run]at hr⊢
 case store=>
  split at hr
  ·rename_i r off xs hea hxs
   split at hr
   ·rename_i cs hget
    refine⟨hr.1,hr.2.1,hr.2.2,fun c hc hn cs=>?_⟩
    rw[ae _ _ hc]
   ·exact hr
  ·exact hr
 case appendM=>
  split at hr
  ·exact⟨hr.1,wP hr.2⟩
  ·exact hr.elim
 case call=>
  obtain⟨Hf,R,h1,h2,h3,h4⟩:=hr
  refine⟨Hf,R,h1,h2,h3,fun r H' a b=>⟨h4 r H' a b,fun c hc hn cs=>?_⟩⟩
  have hcf:Hf.get c=none:=by simpa using hc
  have hc':H'.get c=none:=by
   rcases bV (H'.get c)with e|⟨o,e⟩
   ·exact e
   ·exact absurd (b c (by simp[e]) hcf) hn
  rw[bz,hcf,hc'];simp
 case callX=>
  obtain⟨Hf,R,h1,h2,h3,h4⟩:=hr
  refine⟨Hf,R,h1,h2,h3,fun r H' a b=>⟨h4 r H' a b,fun c hc hn cs=>?_⟩⟩
  have hcf:Hf.get c=none:=by simpa using hc
  have hc':H'.get c=none:=by
   rcases bV (H'.get c)with e|⟨o,e⟩
   ·exact e
   ·exact absurd (b c (by simp[e]) hcf) hn
  rw[bz,hcf,hc'];simp
theorem uN{ys:List (List AC)}{sz:Nat}(hs:∀e∈ys,e.length=sz):ys.flatten.length=ys.length*sz:=dB hs
theorem zj{H:aj}{sz:Nat}{ys:List (List AC)}{K:(Nat->Prop)->AC->aj->Prop}{x:AC}(hs:∀e∈ys,e.length=sz)(hr:kj H sz ys K x):∃FP r H',K FP r H':=by
 have hf:=uN hs
 unfold kj at hr
 split at hr
 ·by_cases hy:ys=[]
  ·exact⟨_,_,_,hr.2.1 hy⟩
  ·obtain⟨b,hb⟩:=H.exists_free
   rcases hr.2.2 hy with q|q
   ·exact⟨_,_,_,q b _ hb (aA _)⟩
   ·exact⟨_,_,_,q b _ ys.flatten hb (aA _) hf (by rw[<-hf,aW])⟩
 ·obtain⟨rfl,h1,h2,q|⟨rfl,rfl,q⟩⟩:=hr
  ·exact⟨_,_,_,q _ _ (.inl rfl) (aA _)⟩
  ·exact⟨_,_,_,q _ _ ys.flatten (.inl rfl) (aA _) hf (by rw[<-hf,aW])⟩
 ·rename_i b n c
  obtain⟨cs,h1,h2,h3,h4,h5⟩:=hr
  have hn:n*sz<=c*sz:=bu _ h3
  have hl:(cs.take (n*sz)++ys.flatten).length=(n+ys.length)*sz:=by
   simp only[bv,bI,hf,cB];omega
  exact⟨_,_,_,h5 b _ (cs.take (n*sz)++ys.flatten) (.inl rfl) (aA _) hl (by rw[<-hl,aW])⟩
 ·exact hr.elim
theorem l7{P:Program}{E:aG->AC}{H:aj}{K:(Nat->Prop)->AC->aj->Prop}{e:EOp}(ha:e.isA=false)
(hr:e.run P E H true K):∃FP r H',K FP r H':=by
 cases e<;>simp only[EOp.isA,reduceCtorEq]at ha<;>simp only[EOp.run]at hr
 case store=>
  split at hr
  ·split at hr
   ·exact⟨_,_,_,hr.2.2⟩
   ·exact hr.elim
  ·exact hr.elim
 case appendM=>
  split at hr
  ·exact zj hr.1 hr.2
  ·exact hr.elim
 case call=>
  obtain⟨Hf,R,h1,h2,h3,h4⟩:=hr
  obtain⟨N,hN⟩:=H.fin
  obtain⟨r,H',h5,h6⟩:=h3 trivial N
  exact⟨_,_,_,h4 r H' h5 fun b hb hn=>hN b (h6 b hb hn)⟩
 case callX=>
  obtain⟨Hf,R,h1,h2,h3,h4⟩:=hr
  obtain⟨N,hN⟩:=H.fin
  obtain⟨r,H',h5,h6⟩:=h3 trivial N
  exact⟨_,_,_,h4 r H' h5 fun b hb hn=>hN b (h6 b hb hn)⟩
def EOp.S0(E:aG->AC):EOp->Prop
 |.box x=>((E x).cells?).isSome=true
 |.alloc _=>True
 |.buildSlice sz len zero parts=>(gX ((ax len (zero.map AC.lit)).flatten) (parts.map fun p=>(p.1,p.2.1,E p.2.2))).isSome=true
 |.append sz _ s y=>match iM sz (E y)with
  |some ys=>match E s with
   |.lit (.slice none 0 0)=>ys.length<=2^32
   |.sl sz' (some _) es=>sz=sz'/\es.length+ys.length<=2^32
   |_=>False
  |none=>False
 |_=>False
def EOp.tok(E:aG->AC):EOp->Option (Nat×Nat×Nat)
 |.append _ _ s _=>match E s with
  |.sl _ (some t) _=>some t
  |_=>none
 |_=>none
def EOp.out0(E:aG->AC)(r:AC)(u:Option (Nat×cz)):EOp->Prop
 |.box x=>∃cs b,(E x).cells?=some cs/\r=.ptr b 0/\u=some (b,.cells cs)
 |.alloc zero=>∃b,r=.ptr b 0/\u=some (b,im zero)
 |.buildSlice sz len zero parts=>∃cs b,gX ((ax len (zero.map AC.lit)).flatten) (parts.map fun p=>(p.1,p.2.1,E p.2.2))=some cs/\
  r=.sl sz (some (b,len*sz,len*sz)) (bg sz len cs)/\u=some (b,.tail (len*sz) (len*sz))
 |.append sz _ s y=>match iM sz (E y)with
  |some ys=>match E s with
   |.lit (.slice none 0 0)=>(ys=[]/\r=.lit (.slice none 0 0)/\u=none)\/
    (ys≠[]/\∃b m,ys.length*sz<=m/\r=.sl sz (some (b,ys.length*sz,m)) ys/\u=some (b,.tail (ys.length*sz) m))
   |.sl _ (some _) es=>∃b m,(es.length+ys.length)*sz<=m/\r=.sl sz (some (b,(es.length+ys.length)*sz,m)) (es++ys)/\u=some (b,.tail ((es.length+ys.length)*sz) m)
   |_=>False
  |none=>False
 |_=>False
def aj.upd(H:aj):Option (Nat×cz)->aj
 |none=>H
 |some (b,o)=>H.set b o
def pj(H:aj)(t:Option (Nat×Nat×Nat))(u:Option (Nat×cz)):Prop:=∀b o,u=some (b,o)->H.get b=none\/∃n m,t=some (b,n,m)
theorem dO{P:Program}{E:aG->AC}{H:aj}{dr:Bool}{K:(Nat->Prop)->AC->aj->Prop}{e:EOp}(ha:e.isA=true):
 e.run P E H dr K↔(e.S0 E/\(∀b n m,e.tok E=some (b,n,m)->H.get b=some (.tail n m))/\∀r u,e.out0 E r u->pj H (e.tok E) u->K (fun _=>False) r (H.upd u)):=by
 cases e<;>simp only[EOp.isA,reduceCtorEq,aq]at ha<;>simp only[EOp.run,EOp.S0,EOp.tok,EOp.out0,pj]
 case box x=>
  cases hc:(E x).cells? with
  |none=>simp
  |some cs=>
   simp only[Option.isSome_some,true_and,reduceCtorEq,false_imp_iff,implies_true,exists_false,or_false,Option.some.injEq]
   constructor
   ·rintro h r u ⟨cs',b,rfl,rfl,rfl⟩ hm;exact h b (hm b _ rfl)
   ·intro h b hb;exact h _ _ ⟨_,_,rfl,rfl,rfl⟩ (fun b' o e=>by simp at e;rw[<-e.1];exact hb)
 case alloc z=>
  simp only[true_and,reduceCtorEq,false_imp_iff,implies_true,exists_false,or_false]
  constructor
  ·rintro h r u ⟨b,rfl,rfl⟩ hm;exact h b (hm b _ rfl)
  ·intro h b hb;exact h _ _ ⟨_,rfl,rfl⟩ (fun b' o e=>by simp at e;rw[<-e.1];exact hb)
 case buildSlice sz len z ps=>
  split
  ·rename_i cs hc
   simp only[hc,Option.isSome_some,true_and,reduceCtorEq,false_imp_iff,implies_true,exists_false,or_false,Option.some.injEq]
   constructor
   ·rintro h r u ⟨cs',b,rfl,rfl,rfl⟩ hm;exact h b (hm b _ rfl)
   ·intro h b hb;exact h _ _ ⟨_,_,rfl,rfl,rfl⟩ (fun b' o e=>by simp at e;rw[<-e.1];exact hb)
  ·rename_i hc;simp[hc]
 case append sz bytes s y=>
  cases hys:iM sz (E y)with
  |none=>simp
  |some ys=>
   simp only[]
   split
   ·rename_i he
    simp only[he,reduceCtorEq,false_imp_iff,implies_true,exists_false,or_false,true_and]
    constructor
    ·rintro⟨h0,h1,h2⟩
     refine⟨h0,?_⟩
     rintro r u (⟨e,rfl,rfl⟩|⟨e,b,m,hm,rfl,rfl⟩) hu
     ·exact h1 e
     ·exact h2 e b m (hu b _ rfl) hm
    ·rintro⟨h0,h1⟩
     refine⟨h0,fun e=>h1 _ _ (.inl ⟨e,rfl,rfl⟩) (by simp),fun e b m hb hm=>h1 _ _ (.inr ⟨e,b,m,hm,rfl,rfl⟩) (fun b' o e=>by simp at e;rw[<-e.1];exact hb)⟩
   ·rename_i sz' b n m es he
    simp only[he,Option.some.injEq,Prod.mk.injEq]
    constructor
    ·rintro⟨rfl,h0,h1,h2⟩
     refine⟨⟨rfl,h0⟩,?_,?_⟩
     ·rintro b' n' m' ⟨rfl,rfl,rfl⟩;exact h1
     ·rintro r u ⟨b',m',hm,rfl,rfl⟩ hu
      refine h2 b' m' ?_ hm
      rcases hu b' _ rfl with q|⟨n',m'',q⟩
      ·exact .inr q
      ·exact .inl q.1.symm
    ·rintro⟨⟨rfl,h0⟩,h1,h2⟩
     refine⟨rfl,h0,h1 b n m ⟨rfl,rfl,rfl⟩,fun b' m' hb hm=>h2 _ _ ⟨b',m',hm,rfl,rfl⟩ (fun b'' o e=>?_)⟩
     simp at e
     rcases hb with rfl|hb
     ·exact .inr ⟨n,m,by rw[<-e.1];exact⟨rfl,rfl,rfl⟩⟩
     ·exact .inl (by rw[<-e.1];exact hb)
   ·rename_i h1 h2
    constructor
    ·exact False.elim
    ·rintro⟨h,-⟩
     split at h
     ·rename_i he;exact absurd he h1
     ·rename_i he;exact absurd he (h2 _ _ _ _ _)
     ·exact h
theorem jE{E:aG->AC}{e:EOp}(ha:e.isA=true)(hs:e.S0 E)(H:aj)(c:Nat):∃r u,e.out0 E r u/\∀b o,u=some (b,o)->H.get b=none/\b≠c:=by
 obtain⟨N,hN⟩:=H.fin
 have hb:=hN (N+c+1) (by omega)
 have hne:N+c+1≠c:=by omega
 generalize N+c+1=b at hb hne
 cases e<;>simp only[EOp.isA,reduceCtorEq,aq]at ha<;>simp only[EOp.S0]at hs<;>simp only[EOp.out0]
 case box x=>
  obtain⟨cs,hc⟩:=Option.isSome_iff_exists.1 hs
  exact⟨_,_,⟨cs,b,hc,rfl,rfl⟩,fun b' o e=>by simp at e;rw[<-e.1];exact⟨hb,hne⟩⟩
 case alloc z=>exact⟨_,_,⟨b,rfl,rfl⟩,fun b' o e=>by simp at e;rw[<-e.1];exact⟨hb,hne⟩⟩
 case buildSlice=>
  obtain⟨cs,hc⟩:=Option.isSome_iff_exists.1 hs
  exact⟨_,_,⟨cs,b,hc,rfl,rfl⟩,fun b' o e=>by simp at e;rw[<-e.1];exact⟨hb,hne⟩⟩
 case append sz bytes s y=>
  cases hys:iM sz (E y)with
  |none=>simp[hys]at hs
  |some ys=>
   simp only[hys]at hs⊢
   split at hs
   ·by_cases e:ys=[]
    ·exact⟨_,_,.inl ⟨e,rfl,rfl⟩,by simp⟩
    ·exact⟨_,_,.inr ⟨e,b,_,aA _,rfl,rfl⟩,fun b' o e=>by simp at e;rw[<-e.1];exact⟨hb,hne⟩⟩
   ·exact⟨_,_,⟨b,_,aA _,rfl,rfl⟩,fun b' o e=>by simp at e;rw[<-e.1];exact⟨hb,hne⟩⟩
   ·exact hs.elim
theorem vB{E:aG->AC}{e:EOp}(ha:e.isA=true)(hs:e.S0 E){b n m:Nat}(ht:e.tok E=some (b,n,m)):
 ∃n',∀m',n'<=m'->∃r,e.out0 E r (some (b,.tail n' m')):=by
 cases e<;>simp only[EOp.tok,reduceCtorEq]at ht
 case append sz bytes s y=>
  simp only[EOp.S0]at hs
  cases hys:iM sz (E y)with
  |none=>simp[hys]at hs
  |some ys=>
   simp only[hys]at hs
   split at ht
   ·rename_i sz' t es he
    simp only[he]at hs
    simp only[Option.some.injEq]at ht
    subst ht
    refine⟨(es.length+ys.length)*sz,fun m' hm=>⟨.sl sz (some (b,(es.length+ys.length)*sz,m')) (es++ys),?_⟩⟩
    simp only[EOp.out0,hys,he]
    exact⟨b,m',hm,rfl,rfl⟩
   ·simp at ht
theorem oC{E:aG->AC}{e:EOp}(h:e.isF=true):e.isA=true/\e.tok E=none:=by
 cases e<;>simp_all [EOp.isF,EOp.isA,EOp.tok]
theorem rX{H:aj}{e:EOp}{E:aG->AC}(hT:∀b n m,e.tok E=some (b,n,m)->H.get b=some (.tail n m)){u:Option (Nat×cz)}(hu:pj H (e.tok E) u){c:Nat}{cs:List AC}
(hc:(H.get c).bind cz.rd=some cs):((H.upd u).get c).bind cz.rd=some cs:=by
 cases u with
 |none=>exact hc
 |some q=>
  obtain⟨b,o⟩:=q
  simp only[aj.upd]
  rw[ae _ _ ?_]
  ·exact hc
  ·rintro rfl
   rcases hu _ _ rfl with h|⟨n,m,h⟩
   ·rw[h]at hc;simp at hc
   ·rw[hT _ _ _ h]at hc;simp[cz.rd]at hc
theorem zY{H:aj}{b off:Nat}{g:Option Nat}{cs:List AC}{r:AC}(h:(H.get b).bind cz.rd=some cs)(hp:fH g cs off=some r):
 (match H.get b with|some (.cells cs)=>(fH g cs off).map (·,some b)|some (.const _ cs)=>(fH g cs off).map (·,some b)|_=>none)=some (r,some b):=by
 cases hg:H.get b with
 |none=>rw[hg]at h;simp at h
 |some o=>cases o<;>rw[hg]at h<;>simp_all [cz.rd]
theorem it{E:aG->AC}{H H':aj}{l:LOp}{r:AC}{ob:Option Nat}(h:l.val H E=some (r,ob))
(hb:∀b,ob=some b->∀cs,(H.get b).bind cz.rd=some cs->(H'.get b).bind cz.rd=some cs):l.val H' E=some (r,ob):=by
 cases l<;>simp only[LOp.val]at h⊢
 case bytesToStr=>exact h
 case load=>
  split at h
  ·rename_i b off he
   split at h
   ·rename_i cs hg
    simp only[a7,Prod.mk.injEq]at h
    obtain⟨r',hp,rfl,rfl⟩:=h
    exact zY (hb b rfl cs (by simp[hg,cz.rd])) hp
   ·rename_i o cs hg
    simp only[a7,Prod.mk.injEq]at h
    obtain⟨r',hp,rfl,rfl⟩:=h
    exact zY (hb b rfl cs (by simp[hg,cz.rd])) hp
   ·simp at h
  ·exact h
  ·simp at h
theorem fK{P:Program}{dr:Bool}{x:aJ}{E:Env}{H:aj}{lds:Lds}{fps:Fps}{K K':AC->aj->Lds->Fps->Prop}
(h:∀r H' l f,K r H' l f->K' r H' l f)(hr:x.act P dr E H lds fps K):x.act P dr E H lds fps K':=by
 unfold aJ.act at hr⊢
 split at hr
 ·exact hr
 ·exact h _ _ _ _ hr
 ·cases hop:x.op<;>simp only[hop]at hr⊢
  ·split at hr
   ·exact h _ _ _ _ hr
   ·exact hr
  ·split at hr
   ·exact⟨hr.1,h _ _ _ _ hr.2⟩
   ·exact hr
  ·split at hr
   ·rename_i ha;rw[if_pos ha];exact dc (fun FP r H' q=>h _ _ _ _ q) hr
   ·rename_i ha;rw[if_neg ha];exact dc (fun FP r H' q=>⟨q.1,h _ _ _ _ q.2⟩) hr
  ·split at hr
   ·exact h _ _ _ _ hr
   ·exact hr
structure Mode(H:aj)(own:Option (Nat×cz))(Out:(Nat->Prop)->AC->Option (Nat×cz)->Prop):Prop where
 has:∀b ob,own=some (b,ob)->H.get b=some ob
 free:∀bt,∃FP r u,Out FP r u/\∀b' o,u=some (b',o)->b'≠bt/\H.get b'=none
 turn:∀b n m,own=some (b,.tail n m)->∃FP r o,Out FP r (some (b,o))/\o≠.tail n m
def vn(H:aj)(own:Option (Nat×cz))(u:Option (Nat×cz)):Prop:=∀b' o,u=some (b',o)->(∃ob,own=some (b',ob))\/H.get b'=none
theorem aj.exists_free2(H:aj)(c:Nat):∃b,b≠c/\H.get b=none:=by
 obtain⟨N,h⟩:=H.fin
 exact⟨N+c+1,by omega,h _ (by omega)⟩
theorem zl{H:aj}{sz:Nat}{ys:List (List AC)}{K:(Nat->Prop)->AC->aj->Prop}{x:AC}(hs:∀e∈ys,e.length=sz)(hr:kj H sz ys K x):
 ∃own Out,Mode H own Out/\(∀FP r u,Out FP r u->vn H own u->K FP r (H.upd u))/\
  ∀(H2:aj) (K2:(Nat->Prop)->AC->aj->Prop),(∀b ob,own=some (b,ob)->H2.get b=some ob)->(∀FP r u,Out FP r u->vn H2 own u->K2 FP r (H2.upd u))->kj H2 sz ys K2 x:=by
 have hf:=uN hs
 unfold kj at hr
 split at hr
 ·obtain⟨hl,h0,h1⟩:=hr
  by_cases hy:ys=[]
  ·refine⟨none,fun FP r u=>FP=(fun _=>False)/\r=.lit (.slice none 0 0)/\u=none,⟨by simp,fun bt=>⟨_,_,none,⟨rfl,rfl,rfl⟩,by simp⟩,by simp⟩,?_,?_⟩
   ·rintro FP r u ⟨rfl,rfl,rfl⟩ -;exact h0 hy
   ·intro H2 K2 _ hk
    exact⟨hl,fun _=>hk _ _ none ⟨rfl,rfl,rfl⟩ (by simp[vn]),fun e=>absurd hy e⟩
  ·rcases h1 hy with q|q
   ·refine⟨none,fun FP r u=>∃b m,ys.length*sz<=m/\FP=(fun _=>False)/\r=.sl sz (some (b,ys.length*sz,m)) ys/\u=some (b,.tail (ys.length*sz) m),⟨by simp,fun bt=>?_,by simp⟩,?_,?_⟩
    ·obtain⟨b,hb,hn⟩:=H.exists_free2 bt
     exact⟨_,_,_,⟨b,_,aA _,rfl,rfl,rfl⟩,by rintro b' o e;simp at e;rw[<-e.1];exact⟨hb,hn⟩⟩
    ·rintro FP r u ⟨b,m,hm,rfl,rfl,rfl⟩ hu
     exact q b m ((hu b _ rfl).resolve_left (by simp)) hm
    ·intro H2 K2 _ hk
     exact⟨hl,fun e=>absurd e hy,fun _=>.inl fun b m hb hm=>hk _ _ _ ⟨b,m,hm,rfl,rfl,rfl⟩ (by rintro b' o e;simp at e;rw[<-e.1];exact .inr hb)⟩
   ·refine⟨none,fun FP r u=>∃b c cs,ys.length<=c/\cs.length=c*sz/\cs.take (ys.length*sz)=ys.flatten/\FP=(fun _=>False)/\r=.lit (.slice (some ⟨b,0,none⟩) ys.length c)/\u=some (b,.cells cs),⟨by simp,fun bt=>?_,by simp⟩,?_,?_⟩
    ·obtain⟨b,hb,hn⟩:=H.exists_free2 bt
     exact⟨_,_,_,⟨b,_,ys.flatten,aA _,hf,by rw[<-hf,aW],rfl,rfl,rfl⟩,by rintro b' o e;simp at e;rw[<-e.1];exact⟨hb,hn⟩⟩
    ·rintro FP r u ⟨b,c,cs,h1,h2,h3,rfl,rfl,rfl⟩ hu
     exact q b c cs ((hu b _ rfl).resolve_left (by simp)) h1 h2 h3
    ·intro H2 K2 _ hk
     exact⟨hl,fun e=>absurd e hy,fun _=>.inr fun b c cs hb h1 h2 h3=>hk _ _ _ ⟨b,c,cs,h1,h2,h3,rfl,rfl,rfl⟩ (by rintro b' o e;simp at e;rw[<-e.1];exact .inr hb)⟩
 ·rename_i sz' b n m es
  obtain⟨rfl,hl,hg,q|⟨rfl,rfl,q⟩⟩:=hr
  ·refine⟨some (b,.tail n m),fun FP r u=>∃b' m',(es.length+ys.length)*sz<=m'/\FP=(fun _=>False)/\r=.sl sz (some (b',(es.length+ys.length)*sz,m')) (es++ys)/\u=some (b',.tail ((es.length+ys.length)*sz) m'),
    ⟨by rintro b' ob e;simp at e;obtain⟨rfl,rfl⟩:=e;exact hg,fun bt=>?_,?_⟩,?_,?_⟩
   ·obtain⟨c,hc,hn⟩:=H.exists_free2 bt
    exact⟨_,_,_,⟨c,_,aA _,rfl,rfl,rfl⟩,by rintro b' o e;simp at e;rw[<-e.1];exact⟨hc,hn⟩⟩
   ·rintro b' n' m' e
    simp at e;obtain⟨rfl,rfl,rfl⟩:=e
    exact⟨_,_,_,⟨b,(es.length+ys.length)*sz+m+1,by omega,rfl,rfl,rfl⟩,by simp;omega⟩
   ·rintro FP r u ⟨b',m',hm,rfl,rfl,rfl⟩ hu
    exact q b' m' ((hu b' _ rfl).imp (fun⟨ob,e⟩=>by simp at e;exact e.1.symm) id) hm
   ·intro H2 K2 h2 hk
    exact⟨rfl,hl,h2 b _ rfl,.inl fun b' m' hb hm=>hk _ _ _ ⟨b',m',hm,rfl,rfl,rfl⟩ (by rintro b2 o e;simp at e;rw[<-e.1];exact hb.imp (fun e=>by rw[e];exact⟨_,rfl⟩) id)⟩
  ·refine⟨some (b,.tail n 0),fun FP r u=>∃b' c cs,ys.length<=c/\cs.length=c*sz/\cs.take (ys.length*sz)=ys.flatten/\FP=(·=b)/\r=.lit (.slice (some ⟨b',0,none⟩) ys.length c)/\u=some (b',.cells cs),
    ⟨by rintro b' ob e;simp at e;obtain⟨rfl,rfl⟩:=e;exact hg,fun bt=>?_,?_⟩,?_,?_⟩
   ·obtain⟨c,hc,hn⟩:=H.exists_free2 bt
    exact⟨_,_,_,⟨c,_,ys.flatten,aA _,hf,by rw[<-hf,aW],rfl,rfl,rfl⟩,by rintro b' o e;simp at e;rw[<-e.1];exact⟨hc,hn⟩⟩
   ·rintro b' n' m' e
    simp at e;obtain⟨rfl,rfl,rfl⟩:=e
    exact⟨_,_,_,⟨b,_,ys.flatten,aA _,hf,by rw[<-hf,aW],rfl,rfl,rfl⟩,by simp⟩
   ·rintro FP r u ⟨b',c,cs,h1,h2,h3,rfl,rfl,rfl⟩ hu
    exact q b' c cs ((hu b' _ rfl).imp (fun⟨ob,e⟩=>by simp at e;exact e.1.symm) id) h1 h2 h3
   ·intro H2 K2 h2 hk
    exact⟨rfl,hl,h2 b _ rfl,.inr ⟨rfl,rfl,fun b' c cs hb h1 h2 h3=>hk _ _ _ ⟨b',c,cs,h1,h2,h3,rfl,rfl,rfl⟩ (by rintro b2 o e;simp at e;rw[<-e.1];exact hb.imp (fun e=>by rw[e];exact⟨_,rfl⟩) id)⟩⟩
 ·rename_i b n c
  obtain⟨cs,h1,h2,h3,h4,q⟩:=hr
  have hn:n*sz<=c*sz:=bu _ h3
  have hl:(cs.take (n*sz)++ys.flatten).length=(n+ys.length)*sz:=by
   simp only[bv,bI,hf,cB];omega
  refine⟨some (b,.cells cs),fun FP r u=>∃b' c' cs',n+ys.length<=c'/\cs'.length=c'*sz/\cs'.take ((n+ys.length)*sz)=cs.take (n*sz)++ys.flatten/\FP=(·=b)/\r=.lit (.slice (some ⟨b',0,none⟩) (n+ys.length) c')/\u=some (b',.cells cs'),
   ⟨by rintro b' ob e;simp at e;obtain⟨rfl,rfl⟩:=e;exact h1,fun bt=>?_,by simp⟩,?_,?_⟩
  ·obtain⟨c2,hc,hn⟩:=H.exists_free2 bt
   exact⟨_,_,_,⟨c2,_,cs.take (n*sz)++ys.flatten,aA _,hl,by rw[<-hl,aW],rfl,rfl,rfl⟩,by rintro b' o e;simp at e;rw[<-e.1];exact⟨hc,hn⟩⟩
  ·rintro FP r u ⟨b',c',cs',a1,a2,a3,rfl,rfl,rfl⟩ hu
   exact q b' c' cs' ((hu b' _ rfl).imp (fun⟨ob,e⟩=>by simp at e;exact e.1.symm) id) a1 a2 a3
  ·intro H2 K2 hh hk
   exact⟨cs,hh b _ rfl,h2,h3,h4,fun b' c' cs' hb a1 a2 a3=>hk _ _ _ ⟨b',c',cs',a1,a2,a3,rfl,rfl,rfl⟩ (by rintro b2 o e;simp at e;rw[<-e.1];exact hb.imp (fun e=>by rw[e];exact⟨_,rfl⟩) id)⟩
 ·exact hr.elim
theorem rR{H:aj}{b c:Nat}{o q:cz}(h:b≠c):(H.set b o).set c q=(H.set c q).set b o:=by
 apply aj.ext;intro k
 simp only[aK]
 split
 ·rename_i e;subst e;rw[if_neg (Ne.symm h)]
 ·rfl
theorem yj{P:Program}{E:aG->AC}{sz by':Nat}{s y:aG}{e':EOp}(ha':e'.isA=true){H:aj}{K:(Nat->Prop)->AC->AC->aj->Prop}
(h:(EOp.appendM sz by' s y).run P E H true fun FP r H1=>e'.run P E H1 true fun _ q H2=>K FP r q H2):
 e'.run P E H true fun _ q H1=>(EOp.appendM sz by' s y).run P E H1 true fun FP r H2=>K FP r q H2:=by
 rw[EOp.run]at h
 split at h
 case h_2=>exact h.elim
 rename_i ys hy
 obtain⟨hs,hr⟩:=h
 obtain⟨own,Out,hm,hk,hback⟩:=zl hs hr
 have he:=fun FP r u (ho:Out FP r u) (hu:vn H own u)=>(dO ha').1 (hk FP r u ho hu)
 have htok:∀b n m,e'.tok E=some (b,n,m)->H.get b=some (.tail n m)/\∀ob,own≠some (b,ob):=by
  intro b n m ht
  obtain⟨FP,r,u,ho,hu⟩:=hm.free b
  have h1:=(he FP r u ho (fun b' o e=>.inr (hu b' o e).2)).2.1 b n m ht
  have hb:H.get b=some (.tail n m):=by
   cases u with
   |none=>exact h1
   |some p=>
    obtain⟨c,o⟩:=p
    simp only[aj.upd]at h1
    rwa[ae _ _ (Ne.symm (hu c o rfl).1)]at h1
  refine⟨hb,fun ob hob=>?_⟩
  have hh:=hm.has b ob hob
  rw[hb]at hh;simp at hh;subst hh
  obtain⟨FP',r',o,ho',hne⟩:=hm.turn b n m hob
  have h2:=(he FP' r' _ ho' (by rintro b' o' e;simp at e;left;rw[<-e.1];exact⟨_,hob⟩)).2.1 b n m ht
  simp only[aj.upd,ai,Option.some.injEq]at h2
  exact hne h2
 have hS:e'.S0 E:=by
  obtain⟨FP,r,u,ho,hu⟩:=hm.free 0
  exact(he FP r u ho (fun b' o e=>.inr (hu b' o e).2)).1
 rw[dO ha']
 refine⟨hS,fun b n m ht=>(htok b n m ht).1,fun q v hv hmv=>?_⟩
 have hapart:∀c o',v=some (c,o')->(∀ob,own≠some (c,ob))/\∀cs,H.get c≠some (.cells cs):=by
  intro c o' e
  rcases hmv c o' e with h1|⟨n,m,h1⟩
  ·exact⟨fun ob hob=>by have:=hm.has c ob hob;rw[h1]at this;simp at this,fun cs hc=>by rw[h1]at hc;simp at hc⟩
  ·obtain⟨a1,a2⟩:=htok c n m h1
   exact⟨a2,fun cs hc=>by rw[a1]at hc;simp at hc⟩
 have hsame:∀b cs,H.get b=some (.cells cs)->(H.upd v).get b=some (.cells cs):=by
  intro b cs hb
  cases v with
  |none=>exact hb
  |some p=>
   obtain⟨c,o'⟩:=p
   simp only[aj.upd]
   rw[ae _ _ (by rintro rfl;exact(hapart b o' rfl).2 cs hb)];exact hb
 have hy2:gT (H.upd v) sz (E y)=some ys:=by
  unfold gT at hy⊢
  split at hy
  ·split at hy
   ·rename_i h0;rw[if_pos h0];exact hy
   rename_i h0
   rw[if_neg h0]
   split at hy
   ·rename_i cs hg
    rw[hsame _ _ hg];exact hy
   ·simp at hy
  ·exact hy
 rw[EOp.run,hy2]
 refine⟨hs,hback _ _ (fun b ob hob=>?_) fun FP r u ho hu2=>?_⟩
 ·have hg:=hm.has b ob hob
  cases v with
  |none=>exact hg
  |some p=>
   obtain⟨c,o'⟩:=p
   simp only[aj.upd]
   rw[ae _ _ (by rintro rfl;exact(hapart b o' rfl).1 ob hob)];exact hg
 ·have hu:vn H own u:=by
   intro b' o e
   rcases hu2 b' o e with h1|h1
   ·exact .inl h1
   ·right
    cases v with
    |none=>exact h1
    |some p=>
     obtain⟨c,o'⟩:=p
     simp only[aj.upd,aK]at h1
     split at h1
     ·simp at h1
     ·exact h1
  have hne:∀b' o c o',u=some (b',o)->v=some (c,o')->b'≠c:=by
   rintro b' o c o' eu ev rfl
   rcases hu2 b' o eu with⟨ob,h1⟩|h1
   ·exact(hapart b' o' ev).1 ob h1
   ·subst ev
    simp only[aj.upd,ai]at h1
    simp at h1
  have:=(he FP r u ho hu).2.2 q v hv (fun c o' ev=>by
   rcases hmv c o' ev with h1|h1
   ·left
    cases u with
    |none=>exact h1
    |some p=>
     obtain⟨b',o⟩:=p
     simp only[aj.upd]
     rw[ae _ _ (Ne.symm (hne b' o c o' rfl ev))];exact h1
   ·exact .inr h1)
  cases u with
  |none=>exact this
  |some p=>
   obtain⟨b',o⟩:=p
   cases v with
   |none=>exact this
   |some p'=>
    obtain⟨c,o'⟩:=p'
    simp only[aj.upd]at this⊢
    rwa[rR (hne b' o c o' rfl rfl)]at this
def kq(l l':Lds):Prop:=∀z,z∈l↔z∈l'
theorem wC{inc:List Nat}{l l':Lds}(h:kq l l')(FP:Nat->Prop):dQ inc l FP↔dQ inc l' FP:=by
 cases inc with
 |nil=>exact dz
 |cons a r=>exact⟨fun q z hz=>q z ((h z).2 hz),fun q z hz=>q z ((h z).1 hz)⟩
theorem s8{inc:List Nat}{f:Fps}{ob:Option Nat}{z:Nat×(Nat->Prop)}:jw inc (z::f) ob↔(jw inc f ob/\∀b,ob=some b->z.1∈inc->¬z.2 b):=by
 cases inc with
 |nil=>simp[jw]
 |cons a r=>cases ob with
  |none=>simp[jw]
  |some b=>simp only[jw,bi,forall_eq_or_imp]
           constructor
           ·rintro⟨h1,h2⟩;exact⟨h2,fun c hc hi=>by simp at hc;subst hc;exact h1 (by simpa using hi)⟩
           ·rintro⟨h1,h2⟩;exact⟨fun hi=>h2 b rfl (by simpa using hi),h1⟩
theorem s9{inc:List Nat}{l:Lds}{FP:Nat->Prop}{id:Nat}{ob:Option Nat}:dQ inc (oS id ob l) FP↔(dQ inc l FP/\∀b,ob=some b->id∈inc->¬FP b):=by
 cases ob with
 |none=>simp[oS]
 |some c=>cases inc with
  |nil=>simp[dQ]
  |cons a r=>simp only[dQ,oS,bi,forall_eq_or_imp]
             constructor
             ·rintro⟨h1,h2⟩;exact⟨h2,fun b hb hi=>by simp at hb;subst hb;exact h1 (by simpa using hi)⟩
             ·rintro⟨h1,h2⟩;exact⟨fun hi=>h2 c rfl (by simpa using hi),h1⟩
theorem yO{inc:List Nat}{f f':Fps}(h:∀z∈f',∃y∈f,y.1=z.1/\∀b,z.2 b->y.2 b){ob:Option Nat}(hc:jw inc f ob):jw inc f' ob:=by
 cases inc with
 |nil=>trivial
 |cons a r=>cases ob with
  |none=>trivial
  |some b=>exact fun z hz hi hb=>let⟨y,hy,e,hyz⟩:=h z hz;hc y hy (e▸hi) (hyz b hb)
theorem kq.refl(l:Lds):kq l l:=fun _=>dz
def leF(f f':Fps):Prop:=∀z∈f',∃y∈f,y.1=z.1/\∀b,z.2 b->y.2 b
theorem leF.refl(f:Fps):leF f f:=fun z hz=>⟨z,hz,rfl,fun _ h=>h⟩
theorem leF.cons{f f':Fps}(h:leF f f'){id:Nat}{p q:Nat->Prop}(hpq:∀b,q b->p b):leF ((id,p)::f) ((id,q)::f'):=by
 intro z hz
 rcases bi.1 hz with rfl|hz
 ·exact⟨(id,p),by simp,rfl,hpq⟩
 ·obtain⟨y,hy,e⟩:=h z hz;exact⟨y,by simp[hy],e⟩
def Inv(K:AC->aj->Lds->Fps->Prop):Prop:=∀r H l l' f f',kq l l'->leF f f'->K r H l f->K r H l' f'
theorem kq.cons{l l':Lds}(h:kq l l')(x):kq (x::l) (x::l'):=fun z=>by simp[h z]
theorem kq.addL{l l':Lds}(h:kq l l')(id:Nat)(ob:Option Nat):kq (oS id ob l) (oS id ob l'):=by
 cases ob with
 |none=>exact h
 |some b=>exact h.cons _
theorem rf{P:Program}{dr:Bool}{x:aJ}{E:Env}{H:aj}{l l':Lds}{f f':Fps}{K:AC->aj->Lds->Fps->Prop}(hK:Inv K)
(hl:kq l l')(hf:leF f f')(h:x.act P dr E H l f K):x.act P dr E H l' f' K:=by
 unfold aJ.act at h⊢
 split at h
 ·exact h
 ·exact hK _ _ _ _ _ _ hl hf h
 ·cases hop:x.op<;>simp only[hop]at h⊢
  ·split at h
   ·exact hK _ _ _ _ _ _ hl hf h
   ·exact h
  ·split at h
   ·exact⟨yO hf h.1,hK _ _ _ _ _ _ (hl.addL _ _) hf h.2⟩
   ·exact h
  ·split at h
   ·rename_i ha;rw[if_pos ha];exact dc (fun FP r H' q=>hK _ _ _ _ _ _ hl hf q) h
   ·rename_i ha;rw[if_neg ha];exact dc (fun FP r H' q=>⟨(wC hl _).1 q.1,hK _ _ _ _ _ _ hl (hf.cons fun _ h=>h) q.2⟩) h
  ·split at h
   ·exact hK _ _ _ _ _ _ hl hf h
   ·exact h
theorem zV{P:Program}{dr:Bool}{K:Env->aj->Prop}:∀(xs:List aJ) {E:Env} {H:aj} {l l':Lds} {f f':Fps},kq l l'->leF f f'->
 bp P dr K xs E H l f->bp P dr K xs E H l' f':=by
 intro xs
 induction xs with
 |nil=>intro E H l l' f f' _ _ h;exact h
 |cons x xs ih=>
  intro E H l l' f f' hl hf h
  exact rf (fun r H l l' f f' a b c=>ih a b c) hl hf h
inductive View(P:Program)(x:aJ)(E:Env):Type where
 |val (r:AC) (h:∀dr H l f (K:AC->aj->Lds->Fps->Prop),x.act P dr E H l f K=K r H l f)
 |no (h:∀dr H l f (K:AC->aj->Lds->Fps->Prop),x.act P dr E H l f K=False)
 |load (o:LOp) (ho:x.op=.load o) (h:∀dr H l f (K:AC->aj->Lds->Fps->Prop),x.act P dr E H l f K=match o.val H (aG.ev E)with
  |some (r,ob)=>jw x.inc f ob/\K r H (oS x.id ob l) f
  |none=>False)
 |mk (e:EOp) (he:x.op=.eff e) (ha:e.isA=true) (h:∀dr H l f (K:AC->aj->Lds->Fps->Prop),x.act P dr E H l f K=e.run P (aG.ev E) H dr fun _ r H'=>K r H' l f)
 |eff (e:EOp) (he:x.op=.eff e) (ha:e.isA=false) (h:∀dr H l f (K:AC->aj->Lds->Fps->Prop),x.act P dr E H l f K=
  e.run P (aG.ev E) H dr fun FP r H'=>dQ x.inc l FP/\K r H' l ((x.id,fun b=>FP b\/H.get b=none)::f))
def view(P:Program)(x:aJ)(E:Env):View P x E:=
 match hg:dt E x.guard with
 |none=>.no (by intros;simp only[aJ.act,hg])
 |some false=>.val (.tup []) (by intros;simp only[aJ.act,hg])
 |some true=>match hop:x.op with
  |.pure p=>match hp:p.val (aG.ev E)with
   |some r=>.val r (by intros;simp only[aJ.act,hg,hop,hp])
   |none=>.no (by intros;simp only[aJ.act,hg,hop,hp])
  |.load o=>.load o hop (by intros;simp only[aJ.act,hg,hop]<;>rfl)
  |.eff e=>match ha:e.isA with
   |true=>.mk e hop ha (by intros;simp only[aJ.act,hg,hop,ha,if_true])
   |false=>.eff e hop ha (by intros;simp only[aJ.act,hg,hop,ha,aq,if_false])
  |.lits sz len z parts=>match hp:gX ((ax len (z.map AC.lit)).flatten) (parts.map fun p=>(p.1,p.2.1,aG.ev E p.2.2))with
   |some cs=>.val (.sl sz none (bg sz len cs)) (by intros;simp only[aJ.act,hg,hop,hp])
   |none=>.no (by intros;simp only[aJ.act,hg,hop,hp])
theorem Al{o:LOp}{H:aj}{E:aG->AC}{q:AC}{ob:Option Nat}(h:o.val H E=some (q,ob)):∀b,ob=some b->∃cs,(H.get b).bind cz.rd=some cs:=by
 intro b hb
 subst hb
 cases o<;>simp only[LOp.val]at h
 case load=>
  split at h
  ·split at h
   ·rename_i hg
    simp only[a7,Prod.mk.injEq,Option.some.injEq]at h
    obtain⟨_,_,_,rfl⟩:=h
    exact⟨_,by rw[hg];rfl⟩
   ·rename_i hg
    simp only[a7,Prod.mk.injEq,Option.some.injEq]at h
    obtain⟨_,_,_,rfl⟩:=h
    exact⟨_,by rw[hg];rfl⟩
   ·simp at h
  ·simp at h
  ·simp at h
 case bytesToStr=>
  split at h<;>simp at h
theorem load_at(o:LOp)(E:aG->AC):∃c,∀H H':aj,(∀cs,(H'.get c).bind cz.rd=some cs->(H.get c).bind cz.rd=some cs)->∀q ob,o.val H' E=some (q,ob)->o.val H E=some (q,ob):=by
 cases o with
 |bytesToStr x=>exact⟨0,fun H H' _ q ob h=>h⟩
 |load g a=>
  refine⟨(match E a with|.ptr r _=>r|_=>0),fun H H' hh q ob h=>?_⟩
  refine it h fun b hb cs hcs=>?_
  subst hb
  simp only[LOp.val]at h
  split at h
  ·rename_i r off he
   rw[he]at hh
   split at h
   ·simp only[a7,Prod.mk.injEq,Option.some.injEq]at h
    obtain⟨_,_,_,rfl⟩:=h
    exact hh cs hcs
   ·simp only[a7,Prod.mk.injEq,Option.some.injEq]at h
    obtain⟨_,_,_,rfl⟩:=h
    exact hh cs hcs
   ·simp at h
  ·simp at h
  ·simp at h
theorem fg{H:aj}{b c:Nat}{o q:cz}(h:b≠c):(H.set b o).set c q=(H.set c q).set b o:=by
 apply aj.ext;intro k
 simp only[aK]
 split
 ·rename_i e;subst e;rw[if_neg (Ne.symm h)]
 ·rfl
theorem zA{H:aj}{u v:Option (Nat×cz)}(h:∀b o c q,u=some (b,o)->v=some (c,q)->b≠c):(H.upd u).upd v=(H.upd v).upd u:=by
 cases u with
 |none=>rfl
 |some u=>cases v with
  |none=>rfl
  |some v=>exact fg (h _ _ _ _ rfl rfl)
theorem swap_mk{P:Program}{E:aG->AC}{e e':EOp}(ha:e.isA=true)(ha':e'.isA=true){H:aj}{K:AC->AC->aj->Prop}
(h:e.run P E H true fun _ r H1=>e'.run P E H1 true fun _ q H2=>K r q H2):e'.run P E H true fun _ q H1=>e.run P E H1 true fun _ r H2=>K r q H2:=by
 rw[dO ha]at h
 obtain⟨hs,ht,hk⟩:=h
 have hk:∀r u,e.out0 E r u->pj H (e.tok E) u->(e'.S0 E/\(∀b n m,e'.tok E=some (b,n,m)->(H.upd u).get b=some (.tail n m))/\
  ∀q v,e'.out0 E q v->pj (H.upd u) (e'.tok E) v->K r q ((H.upd u).upd v)):=fun r u a b=>(dO ha').1 (hk r u a b)
 have hs':e'.S0 E:=by
  obtain⟨r,u,ho,hu⟩:=jE ha hs H 0
  exact(hk r u ho fun b o e=>.inl (hu b o e).1).1
 have ht':∀b n m,e'.tok E=some (b,n,m)->H.get b=some (.tail n m):=by
  intro b n m hb
  obtain⟨r,u,ho,hu⟩:=jE ha hs H b
  have:=(hk r u ho fun b o e=>.inl (hu b o e).1).2.1 b n m hb
  cases u with
  |none=>exact this
  |some q=>
   obtain⟨c,o⟩:=q
   rwa[aj.upd,ae _ _ (Ne.symm (hu c o rfl).2)]at this
 have hne:∀b n m b' n' m',e.tok E=some (b,n,m)->e'.tok E=some (b',n',m')->b≠b':=by
  rintro b n m b' n' m' hb hb' rfl
  obtain⟨k,hk'⟩:=vB ha hs hb
  have one:∀m1,k<=m1->m'=m1:=by
   intro m1 hm1
   obtain⟨r,hr⟩:=hk' m1 hm1
   have:=(hk r _ hr fun b' o e=>.inr ⟨n,m,by simp at e;rw[<-e.1];exact hb⟩).2.1 b n' m' hb'
   rw[aj.upd,ai]at this
   simp at this;exact this.2.symm
  have h1:=one k (aA _)
  have h2:=one (k+1) (by omega)
  omega
 rw[dO ha']
 refine⟨hs',ht',fun q v hov hv=>?_⟩
 rw[dO ha]
 have hvb:∀c o,v=some (c,o)->H.get c=none\/∃n m,e'.tok E=some (c,n,m):=hv
 have htv:∀b n m,e.tok E=some (b,n,m)->(H.upd v).get b=some (.tail n m):=by
  intro b n m hb
  have hH:=ht b n m hb
  cases v with
  |none=>exact hH
  |some p=>
   obtain⟨c,o⟩:=p
   rw[aj.upd,ae _ _ ?_]
   ·exact hH
   ·rintro rfl
    rcases hvb _ _ rfl with h|⟨n',m',h⟩
    ·rw[hH]at h;simp at h
    ·exact hne _ _ _ _ _ _ hb h rfl
 refine⟨hs,htv,fun r u hou hu=>?_⟩
 have hdis:∀b o c p,u=some (b,o)->v=some (c,p)->b≠c:=by
  rintro b o c p rfl rfl rfl
  rcases hu b o rfl with h|⟨n,m,h⟩
  ·simp[aj.upd]at h
  ·rcases hvb _ _ rfl with h'|⟨n',m',h'⟩
   ·rw[ht _ _ _ h]at h';simp at h'
   ·exact hne _ _ _ _ _ _ h h' rfl
 have huH:pj H (e.tok E) u:=by
  intro b o e1
  rcases hu b o e1 with h|h
  ·left
   cases v with
   |none=>exact h
   |some p=>
    obtain⟨c,o'⟩:=p
    rwa[aj.upd,ae _ _ (hdis _ _ _ _ e1 rfl)]at h
  ·exact .inr h
 rw[zA (H:=H) (u:=v) (v:=u) (fun b o c p e1 e2=>(hdis _ _ _ _ e2 e1).symm)]
 refine(hk r u hou huH).2.2 q v hov fun c o e1=>?_
 rcases hvb c o e1 with h|h
 ·left
  cases u with
  |none=>exact h
  |some p=>
   obtain⟨b,o'⟩:=p
   rw[aj.upd,ae _ _ (Ne.symm (hdis _ _ _ _ rfl e1))];exact h
 ·exact .inr h
theorem na{H Hf H':aj}{b:Nat}{o:cz}(hb:H'.get b=none)(hf:Hf.get b=none):(H.set b o).swap Hf H'=(H.swap Hf H').set b o:=by
 apply aj.ext;intro k
 simp only[bz,aK]
 split
 ·rename_i h
  split
  ·rename_i e;subst e;rw[hb]at h;simp at h
  ·rfl
 ·split
  ·split
   ·rename_i e;subst e;simp_all
   ·rfl
  ·rfl
theorem uc{P:Program}{E:aG->AC}{e e':EOp}(hM:o7 (.eff e)=false)(ha:e.isA=false)(hf:e'.isF=true){H:aj}{K:(Nat->Prop)->AC->AC->aj->Prop}
(h:e.run P E H true fun FP r H1=>e'.run P E H1 true fun _ q H2=>K FP r q H2):e'.run P E H true fun _ q H1=>e.run P E H1 true fun FP r H2=>K FP r q H2:=by
 obtain⟨ha',htok⟩:=oC (E:=E) hf
 have hs':e'.S0 E:=by
  obtain⟨FP,r,H1,h1⟩:=l7 ha h
  exact((dO ha').1 h1).1
 rw[dO ha']
 refine⟨hs',by simp[htok],fun q u ho hu=>?_⟩
 have h:e.run P E H true fun FP r H1=>(pj H1 (e'.tok E) u->K FP r q (H1.upd u)):=
  dc (fun FP r H1 h1 hm=>((dO ha').1 h1).2.2 q u ho hm) h
 cases u with
 |none=>exact dc (fun FP r H1 h1=>h1 (by simp[pj])) h
 |some p=>
  obtain⟨b,o⟩:=p
  have hb:H.get b=none:=by
   rcases hu b o rfl with h|⟨n,m,h⟩
   ·exact h
   ·rw[htok]at h;simp at h
  cases e<;>simp only[EOp.isA,reduceCtorEq]at ha<;>simp only[EOp.run,aj.upd]at h⊢
  case appendM=>simp[o7]at hM
  case store n a x=>
   split at h
   ·rename_i r off xs hea hxs
    split at h
    ·rename_i cs hget
     have hrb:r≠b:=by rintro rfl;rw[hb]at hget;simp at hget
     rw[ae _ _ hrb,hget]
     simp only[]
     refine⟨h.1,h.2.1,?_⟩
     rw[fg (Ne.symm hrb)]
     refine h.2.2 fun b' o' e1=>?_
     simp at e1
     left;rw[<-e1.1,ae _ _ (Ne.symm hrb)];exact hb
    ·exact h.elim
   ·exact h.elim
  case call f args=>
   obtain⟨Hf,R,h1,h2,h3,h4⟩:=h
   have hfb:Hf.get b=none:=by
    rcases bV (Hf.get b)with e1|⟨o',e1⟩
    ·exact e1
    ·rw[h1 b o' e1]at hb;simp at hb
   refine⟨Hf,R,fun c q' hc=>?_,h2,h3,fun r H' hr hd=>?_⟩
   ·rw[ae _ _ (by rintro rfl;rw[hfb]at hc;simp at hc)];exact h1 c q' hc
   ·have hb':H'.get b=none:=by
     rcases bV (H'.get b)with e1|⟨o',e1⟩
     ·exact e1
     ·have:=hd b (by simp[e1]) hfb
      simp at this
    rw[na hb' hfb]
    refine h4 r H' hr (fun c hc hcf=>?_) fun b' o' e1=>?_
    ·have:=hd c hc hcf
     rwa[ae _ _ (by rintro rfl;exact hc hb')]at this
    ·simp at e1
     left;rw[<-e1.1,bz,hb',hfb];simpa using hb
  case callX f args=>
   obtain⟨Hf,R,h1,h2,h3,h4⟩:=h
   have hfb:Hf.get b=none:=by
    rcases bV (Hf.get b)with e1|⟨o',e1⟩
    ·exact e1
    ·rw[h1 b o' e1]at hb;simp at hb
   refine⟨Hf,R,fun c q' hc=>?_,h2,h3,fun r H' hr hd=>?_⟩
   ·rw[ae _ _ (by rintro rfl;rw[hfb]at hc;simp at hc)];exact h1 c q' hc
   ·have hb':H'.get b=none:=by
     rcases bV (H'.get b)with e1|⟨o',e1⟩
     ·exact e1
     ·have:=hd b (by simp[e1]) hfb
      simp at this
    rw[na hb' hfb]
    refine h4 r H' hr (fun c hc hcf=>?_) fun b' o' e1=>?_
    ·have:=hd c hc hcf
     rwa[ae _ _ (by rintro rfl;exact hc hb')]at this
    ·simp at e1
     left;rw[<-e1.1,bz,hb',hfb];simpa using hb
theorem Bm{P:Program}{x y:aJ}(hc:kx x y=true){E:Env}{H:aj}{l:Lds}{f:Fps}{K:AC->AC->aj->Lds->Fps->Prop}
(hK:∀r q H l l' f f',kq l l'->leF f f'->K r q H l f->K r q H l' f')(h:x.act P true E H l f fun r H1 l1 f1=>y.act P true E H1 l1 f1 fun q H2 l2 f2=>K r q H2 l2 f2):
 y.act P true E H l f fun q H1 l1 f1=>x.act P true E H1 l1 f1 fun r H2 l2 f2=>K r q H2 l2 f2:=by
 cases view P x E with
 |no hx=>rw[hx]at h;exact h.elim
 |val r hx=>
  rw[hx]at h
  exact fK (fun q H2 l2 f2 hk=>by rw[hx];exact hk) h
 |load o ho hx=>
  rw[hx]at h
  split at h
  case h_2=>exact h.elim
  rename_i r ob hv
  obtain⟨hch,h⟩:=h
  cases view P y E with
  |no hy=>rw[hy]at h;exact h.elim
  |val q hy=>rw[hy]at h⊢;rw[hx];simp only[hv];exact⟨hch,h⟩
  |load o' ho' hy=>
   rw[hy]at h⊢
   split at h
   ·rename_i q ob' hv'
    obtain⟨hch',h⟩:=h
    simp only[hx,hv]
    refine⟨hch',hch,hK r q _ _ _ _ _ (fun z=>?_) (leF.refl _) h⟩
    cases ob<;>cases ob'<;>simp[oS,or_left_comm]
   ·exact h.elim
  |mk e he ha hy=>
   rw[hy]at h⊢
   rw[dO ha]at h⊢
   refine⟨h.1,h.2.1,fun q u hu hm=>?_⟩
   rw[hx]
   have hv':o.val (H.upd u) (aG.ev E)=some (r,ob):=it hv fun b hb cs hcs=>rX h.2.1 hm hcs
   simp only[hv']
   exact⟨hch,h.2.2 q u hu hm⟩
  |eff e he ha hy=>
   rw[hy]at h⊢
   refine dc ?_ (ni ha h)
   rintro FP q H' ⟨⟨hce,hk⟩,hfr⟩
   rw[s9]at hce
   have hFP:∀b,ob=some b->¬FP b:=by
    intro b hb
    simp only[kx,ho,he,ha,dG,aw,List.contains_iff_mem]at hc
    exact hce.2 b hb hc.2
   have hv':o.val H' (aG.ev E)=some (r,ob):=it hv fun b hb cs hcs=>(hfr b (hFP b hb) (by rintro e;rw[e]at hcs;simp at hcs) cs).2 hcs
   refine⟨hce.1,?_⟩
   rw[hx];simp only[hv']
   refine⟨s8.2 ⟨hch,fun b hb _=>?_⟩,hk⟩
   rintro(h1|h1)
   ·exact hFP b hb h1
   ·obtain⟨cs,hcs⟩:=Al hv b hb
    rw[h1]at hcs;simp at hcs
 |mk e he ha hx=>
  rw[hx]at h
  cases view P y E with
  |no hy=>
   have h2:=(dO ha).1 h
   obtain⟨r,u,ho,hu⟩:=jE ha h2.1 H 0
   have:=h2.2.2 r u ho fun b o e=>.inl (hu b o e).1
   rw[hy]at this;exact this.elim
  |val q hy=>
   rw[hy,hx]
   refine dc ?_ h
   intro FP r H' h2
   rw[hy]at h2;exact h2
  |mk e' he' ha' hy=>
   rw[hy]
   have h2:e.run P (aG.ev E) H true fun _ r H1=>e'.run P (aG.ev E) H1 true fun _ q H2=>K r q H2 l f:=dc (fun FP r H1 h1=>by rw[hy]at h1;exact h1) h
   refine dc (fun FP q H1 h1=>?_) (swap_mk ha ha' h2)
   rw[hx];exact h1
  |eff e' he' ha' hy=>simp[kx,he,he',ha,ha']at hc
  |load o ho hy=>
   obtain⟨c,hc'⟩:=load_at o (aG.ev E)
   have h2:=(dO ha).1 h
   obtain⟨r0,u0,ho0,hu0⟩:=jE ha h2.1 H c
   have hk0:=h2.2.2 r0 u0 ho0 fun b o e=>.inl (hu0 b o e).1
   rw[hy]at hk0
   split at hk0
   case h_2=>exact hk0.elim
   rename_i q ob hv0
   have hv:o.val H (aG.ev E)=some (q,ob):=by
    refine hc' H _ (fun cs hcs=>?_) q ob hv0
    cases u0 with
    |none=>exact hcs
    |some p=>
     obtain⟨b,o'⟩:=p
     rwa[aj.upd,ae _ _ (Ne.symm (hu0 b o' rfl).2)]at hcs
   rw[hy];simp only[hv]
   refine⟨hk0.1,?_⟩
   rw[hx,dO ha]
   refine⟨h2.1,h2.2.1,fun r u hu hm=>?_⟩
   have hk:=h2.2.2 r u hu hm
   have hv':o.val (H.upd u) (aG.ev E)=some (q,ob):=it hv fun b hb cs hcs=>rX h2.2.1 hm hcs
   rw[hy]at hk
   simp only[hv']at hk
   exact hk.2
 |eff e he ha hx=>
  rw[hx]at h
  cases view P y E with
  |no hy=>
   obtain⟨FP,r,H',_,hk⟩:=l7 ha h
   rw[hy]at hk;exact hk.elim
  |val q hy=>
   rw[hy,hx]
   refine dc ?_ h
   rintro FP r H' ⟨h1,h2⟩
   rw[hy]at h2
   exact⟨h1,h2⟩
  |eff e' he' ha' hy=>
   simp only[kx,he,he',ha,ha',aL,Bool.not_false,bT,dG,aM,dE]at hc
   have:=(oC (E:=aG.ev E) hc).1
   rw[ha']at this;simp at this
  |mk e' he' ha' hy=>
   simp only[kx,he,he',ha,ha',aL,Bool.not_false,bT,dG]at hc
   rw[hy]
   have h2:e.run P (aG.ev E) H true fun FP r H1=>e'.run P (aG.ev E) H1 true fun _ q H2=>(dQ x.inc l FP/\K r q H2 l ((x.id,fun b=>FP b\/H.get b=none)::f)):=by
    refine dc (fun FP r H1 h1=>?_) h
    obtain⟨h1,h1'⟩:=h1
    rw[hy]at h1'
    exact dc (fun _ q H2 h3=>⟨h1,h3⟩) h1'
   have h3:e'.run P (aG.ev E) H true fun _ q H1=>e.run P (aG.ev E) H1 true fun FP r H2=>(dQ x.inc l FP/\K r q H2 l ((x.id,fun b=>FP b\/H.get b=none)::f)):=by
    cases hM:o7 (.eff e)with
    |false=>exact uc hM ha (by simpa[hM]using hc) h2
    |true=>
     cases e<;>simp[o7]at hM
     exact yj ha' h2
   rw[dO ha']at h3⊢
   refine⟨h3.1,h3.2.1,fun q u hu hm=>?_⟩
   rw[hx]
   refine dc (fun FP r H2 h4=>⟨h4.1,hK r q _ _ _ _ _ (kq.refl _) (leF.cons (leF.refl _) fun b hb=>?_) h4.2⟩) (h3.2.2 q u hu hm)
   rcases hb with hb|hb
   ·exact .inl hb
   ·right
    cases u with
    |none=>exact hb
    |some p=>
     obtain⟨c,o⟩:=p
     rw[aj.upd,aK]at hb
     split at hb
     ·simp at hb
     ·exact hb
  |load o ho hy=>
   have hcls:y.id∈x.inc/\x.id∈y.inc:=by
    simpa only[kx,ho,he,ha,dG,aw,List.contains_iff_mem]using hc
   have key:∀FP r H',(dQ x.inc l FP/\y.act P true E H' l ((x.id,fun b=>FP b\/H.get b=none)::f) fun q H2 l2 f2=>K r q H2 l2 f2)/\oB FP H H'->
    ∃q ob,o.val H (aG.ev E)=some (q,ob)/\jw y.inc f ob/\dQ x.inc (oS y.id ob l) FP/\K r q H' (oS y.id ob l) ((x.id,fun b=>FP b\/H.get b=none)::f):=by
    rintro FP r H' ⟨⟨hce,hk⟩,hfr⟩
    rw[hy]at hk
    split at hk
    case h_2=>exact hk.elim
    rename_i q ob hv
    obtain⟨hch,hk⟩:=hk
    obtain⟨hch1,hch2⟩:=s8.1 hch
    have hFP:∀b,ob=some b->¬FP b:=fun b hb h=>hch2 b hb hcls.2 (.inl h)
    refine⟨q,ob,it hv fun b hb cs hcs=>?_,hch1,s9.2 ⟨hce,fun b hb _=>hFP b hb⟩,hk⟩
    exact(hfr b (hFP b hb) (fun h=>hch2 b hb hcls.2 (.inr h)) cs).1 hcs
   have h:=ni ha h
   obtain⟨FP0,r0,H0,hk0⟩:=l7 ha h
   obtain⟨q,ob,hv,hch,-,-⟩:=key _ _ _ hk0
   rw[hy];simp only[hv]
   refine⟨hch,?_⟩
   rw[hx]
   refine dc ?_ h
   intro FP r H' hk
   obtain⟨q',ob',hv',-,h1,h2⟩:=key _ _ _ hk
   rw[hv]at hv'
   simp only[Option.some.injEq,Prod.mk.injEq]at hv'
   obtain⟨rfl,rfl⟩:=hv'
   exact⟨h1,h2⟩
theorem tI(E:Env){d d':Option Nat}(x y:AC)(h:∀n,d=some n->d'≠some n):(E.put d x).put d' y=(E.put d' y).put d x:=by
 cases d with
 |none=>rfl
 |some a=>cases d' with
  |none=>rfl
  |some b=>
   have hne:b≠a:=fun e=>h a rfl (by rw[e])
   funext n
   simp only[Env.put]
   split
   ·rename_i e;subst e;rw[if_neg hne]
   ·rfl
theorem rn{E:Env}{d:Option Nat}{x:AC}{n:Nat}(h:d≠some n):(E.put d x) n=E n:=by
 cases d with
 |none=>rfl
 |some a=>simp only[Env.put];rw[if_neg];rintro rfl;exact h rfl
theorem wt{x y:aJ}(h:kK x y=true):(∀n∈y.uses,x.dst≠some n)/\(∀n,x.dst=some n->y.dst≠some n)/\(∀n∈x.uses,y.dst≠some n)/\kx x y=true:=by
 simp only[kK,aw]at h
 obtain⟨⟨h1,h2⟩,h3⟩:=h
 refine⟨fun n hn e=>?_,fun n e=>?_,fun n hn e=>?_,h3⟩
 ·rw[e]at h1;simp at h1;exact h1.1 hn
 ·rw[e]at h1;simp at h1;exact h1.2
 ·rw[e]at h2;simp at h2;exact h2 hn
theorem yv{P:Program}{x y:aJ}(hi:kK x y=true){K:Env->aj->Prop}{xs:List aJ}{E:Env}{H:aj}{l:Lds}{f:Fps}
(h:bp P true K (x::y::xs) E H l f):bp P true K (y::x::xs) E H l f:=by
 obtain⟨h1,h2,h3,h4⟩:=wt hi
 simp only[bp]at h⊢
 have e1:∀r,∀n∈y.uses,(E.put x.dst r) n=E n:=fun r n hn=>rn (h1 n hn)
 have e2:∀q,∀n∈x.uses,(E.put y.dst q) n=E n:=fun q n hn=>rn (h3 n hn)
 have h':=Bm (P:=P) h4 (E:=E) (H:=H) (l:=l) (f:=f) (K:=fun r q H2 l2 f2=>bp P true K xs ((E.put x.dst r).put y.dst q) H2 l2 f2)
  (fun r q H l l' f f' a b c=>zV xs a b c)
  (fK (fun r H1 l1 f1 hk=>by rw[lB (e1 r)]at hk;exact hk) h)
 refine fK (fun q H1 l1 f1 hk=>?_) h'
 rw[lB (e2 q)]
 refine fK (fun r H2 l2 f2 hk'=>?_) hk
 rw[<-tI E r q h2]
 exact hk'
structure ce(N:Nat)(M:bF)(E:Env)(a:Act):Prop where
 size:a.tmps.size=N
 rep:∀n,Rep M (E n) (a.tmps.getD n undef)
theorem ce.mono{N:Nat}{M M':bF}{E:Env}{a:Act}(h:ce N M E a)(hl:M.le M'):ce N M' E a:=⟨h.size,fun n=>(h.rep n).mono hl⟩
theorem ce.put{N:Nat}{M:bF}{E:Env}{a:Act}(h:ce N M E a){d:Option Nat}(hd:∀n,d=some n->n<N){x:AC}{v:Value}(hx:Rep M x v):
 ce N M (E.put d x) (a.put d v):=by
 cases d with
 |none=>exact h
 |some d=>
  have hlt:=hd d rfl
  refine⟨by simp[Act.put,h.size],fun n=>?_⟩
  simp only[Env.put,Act.put]
  by_cases e:n=d
  ·subst e
   have:n<(a.tmps.setIfInBounds n v).size:=by simp[h.size,hlt]
   simp[Array.getD,h.size,hlt,hx]
  ·rw[if_neg e]
   have:=h.rep n
   simp only[gH,Array.getElem?_setIfInBounds_ne (Ne.symm e)]at this⊢
   exact this
theorem ce.arg{N:Nat}{M:bF}{E:Env}{a:Act}(h:ce N M E a)(x:Operand)(xa:aG)(hx:eF x=some xa):Rep M (xa.ev E) (a.eval x):=xV hx h.rep
def oY(P:Program)(op:Op):Option XOp:=match x9 P op with
 |some p=>some (.pure p)
 |none=>match resL P op with
  |some l=>some (.load l)
  |none=>(gO P op).map .eff
def litUse(ops:Array Oper)(d:Nat):Bool:=ops.any fun o=>match o.op with
 |.indexAddr _ (.tmp t) _=>t==d
 |.convert _ _ (.tmp t)=>t==d
 |.call {callee:=.builtin .append,args,..}=>match args.toList with
  |[_,.tmp t]=>t==d
  |_=>false
 |_=>false
def lK(ops:Array Oper)(dst:Option Nat):XOp->XOp
 |.eff (.buildSlice sz len z ps)=>match dst with
  |some d=>if litUse ops d then .lits sz len z ps else .eff (.buildSlice sz len z ps)
  |none=>.eff (.buildSlice sz len z ps)
 |x=>x
def ltN(N:Nat):Option Nat->Bool
 |some d=>decide (d<N)
 |none=>true
def ltG(N:Nat):Option (Nat×Bool)->Bool
 |some (d,_)=>decide (d<N)
 |none=>true
def pM(ops:Array Oper):Option (Nat×Bool)->Option (Option (Nat×Bool))
 |none=>some none
 |some (j,want)=>((ops[j]?).bind (·.dst)).map fun d=>some (d,want)
def ed(P:Program)(N:Nat)(ops:Array Oper)(i:Nat)(inc:List Nat):Option aJ:=match ops[i]? with
 |some o=>match oY P o.op,pM ops o.guard with
  |some x,some g=>if ltN N o.dst&&ltG N g then some ⟨i,o.dst,g,lK ops o.dst x,inc⟩else none
  |_,_=>none
 |none=>none
section
variable {P:Program}{ops:Array Oper}{N:Nat}{Q:Exit->Act->World->Prop}
theorem jh{o:Oper}{g:Option (Nat×Bool)}(hg:pM ops o.guard=some g)(hgN:ltG N g=true)
{M:bF}{E:Env}{a:Act}(hE:ce N M E a){b:Bool}(hw:dt E g=some b):Region.wanted o (yielded ops a.tmps)=b:=by
 unfold Region.wanted
 cases ho:o.guard with
 |none=>rw[ho]at hg;simp[pM]at hg;subst hg;simp[dt]at hw;simp[hw]
 |some q=>
  obtain⟨j,want⟩:=q
  rw[ho]at hg
  simp only[pM,a7]at hg
  obtain⟨d,hd,rfl⟩:=hg
  simp only[ltG,decide_eq_true_eq]at hgN
  have hr:=hE.rep d
  have hget:a.tmps[d]?=some (a.tmps.getD d undef):=by simp[Array.getD,hE.size,hgN]
  simp only[dt]at hw
  simp only[yielded,hd,Option.bind_some,hget]
  split at hw
  ·rename_i c hc
   rw[hc]at hr
   obtain⟨e,-⟩:=hr.lit_inv
   simp at hw;subst hw
   rw[e];cases c<;>cases want<;>rfl
  ·rename_i hc
   rw[hc]at hr
   obtain⟨vs,e,-⟩:=hr.tup_inv
   simp at hw;subst hw
   rw[e];simp
  ·simp at hw
theorem pS{i:Nat}{inc:List Nat}{x:aJ}(hx:ed P N ops i inc=some x){M:bF}{E:Env}{H:aj}{a:Act}{w:World}(hE:ce N M E a)(s:Sim M H w)
{dr:Bool}{l:Lds}{f:Fps}{K:AC->aj->Lds->Fps->Prop}(hst:x.act P dr E H l f K){next:Act->World->Prop}
(hnext:∀r H' l' f' M' a' w',K r H' l' f'->ce N M' (E.put x.dst r) a'->Sim M' H' w'->bC M H w M' H' w'->a'.defers=a.defers->next a' w'):
 wpOp P ops Q i next a w:=by
 simp only[ed]at hx
 split at hx
 ·rename_i o ho
  split at hx
  ·rename_i xo g hxo hg
   split at hx
   ·rename_i hc
    simp only[aw]at hc
    simp at hx;subst hx
    have hd:∀n,o.dst=some n->n<N:=by intro n hn;have:=hc.1;rw[hn]at this;simpa[ltN]using this
    simp only[aJ.act]at hst
    unfold wpOp
    simp only[ho]
    split at hst
    ·exact hst.elim
    ·rename_i hw
     rw[jh hg hc.2 hE hw]
     simp only[aq,if_false]
     refine hnext _ _ _ _ M _ w hst (hE.put hd (.tup rfl (by simp))) s (bC.refl _ _ _) ?_
     cases o.dst<;>rfl
    ·rename_i hw
     rw[jh hg hc.2 hE hw]
     simp only[if_true]
     left
     have hdef:∀v,(a.put o.dst v).defers=a.defers:=fun v=>by cases o.dst<;>rfl
     simp only[oY]at hxo
     split at hxo
     ·rename_i p hp
      simp at hxo;subst hxo
      simp only[lK]at hst
      split at hst
      ·rename_i r hv
       obtain⟨v,h1,h2⟩:=wU (P:=P) (w:=w) hp (fun x xa hx=>hE.arg x xa hx) (fun _=>rfl) hv
       simp only[Oper.wp,h1,Oper.upon_value]
       exact hnext _ _ _ _ M _ w hst (hE.put hd h2) s (bC.refl _ _ _) (hdef v)
      ·exact hst.elim
     ·split at hxo
      ·rename_i lo hl
       simp at hxo;subst hxo
       simp only[lK]at hst
       split at hst
       ·rename_i r ob hv
        obtain⟨v,h1,h2⟩:=LOp.sound (P:=P) hl (fun x xa hx=>hE.arg x xa hx) s hv
        simp only[Oper.wp,h1,Oper.upon_value]
        exact hnext _ _ _ _ M _ w hst.2 (hE.put hd h2) s (bC.refl _ _ _) (hdef v)
       ·exact hst.elim
      ·simp only[a7]at hxo
       obtain⟨e,he,rfl⟩:=hxo
       have plain:(lK ops o.dst (.eff e)=.eff e)->o.wp P a w next Q:=by
        intro ht
        rw[ht]at hst
        simp only at hst
        split at hst
        ·refine EOp.sound (P:=P) he (fun x xa hx=>hE.arg x xa hx) s hst fun FP r v M' H' w' hk hr hs ht=>?_
         exact hnext _ _ _ _ M' _ w' hk ((hE.mono ht.le).put hd hr) hs ht (hdef v)
        ·refine EOp.sound (P:=P) he (fun x xa hx=>hE.arg x xa hx) s hst fun FP r v M' H' w' hk hr hs ht=>?_
         exact hnext _ _ _ _ M' _ w' hk.2 ((hE.mono ht.le).put hd hr) hs ht (hdef v)
       cases e with
       |buildSlice sz len z ps=>
        by_cases hl:lK ops o.dst (.eff (.buildSlice sz len z ps))=.lits sz len z ps
        ·rw[hl]at hst
         simp only at hst
         split at hst
         ·rename_i cs hcs
          refine wi he (fun x xa hx=>hE.arg x xa hx) s hcs fun v M' w' hr hs ht=>?_
          exact hnext _ _ _ _ M' _ w' hst ((hE.mono ht.le).put hd hr) hs ht (hdef v)
         ·exact hst.elim
        ·refine plain ?_
         simp only[lK]at hl⊢
         split
         ·rename_i d hdd
          simp only[hdd]at hl
          split
          ·rename_i h;rw[if_pos h]at hl;exact absurd rfl hl
          ·rfl
         ·rfl
       |_=>exact plain rfl
   ·simp at hx
  ·simp at hx
 ·simp at hx
def kE(P:Program)(N:Nat)(K:Env->aj->Prop)(M:bF)(H:aj)(w:World)(a:Act)(a':Act)(w':World):Prop:=
 ∃E' H' M',K E' H'/\ce N M' E' a'/\Sim M' H' w'/\bC M H w M' H' w'/\a'.defers=a.defers
theorem sQ{ops:Array Oper}{d:Option Nat}{x:XOp}{sz b:Nat}{s y:aG}(h:lK ops d x=.eff (.append sz b s y)):x=.eff (.append sz b s y):=by
 unfold lK at h
 repeat' (split at h)
 all_goals first|exact h|simp at h
theorem zF{x:aJ}(h:∀a b c d,x.op≠.eff (.append a b c d)):x.toM=x:=by
 obtain⟨i,d,g,op,inc⟩:=x
 simp only[aJ.toM,aJ.mk.injEq,true_and,and_true]
 unfold xk
 split
 ·exact absurd rfl (h _ _ _ _)
 ·rfl
theorem lL{i:Nat}{inc:List Nat}{x:aJ}(hx:ed P N ops i inc=some x){M:bF}{E:Env}{H:aj}{a:Act}{w:World}(hE:ce N M E a)(s:Sim M H w)
{dr:Bool}{l:Lds}{f:Fps}{K:AC->aj->Lds->Fps->Prop}(hst:x.toM.act P dr E H l f K){next:Act->World->Prop}
(hnext:∀r H' l' f' M' a' w',K r H' l' f'->ce N M' (E.put x.dst r) a'->Sim M' H' w'->bC M H w M' H' w'->a'.defers=a.defers->next a' w'):
 wpOp P ops Q i next a w:=by
 by_cases hap:∀q b c d,x.op≠.eff (.append q b c d)
 ·rw[zF hap]at hst
  exact pS hx hE s hst hnext
 ·simp only[ne_eq,Classical.not_forall,Classical.not_not]at hap
  obtain⟨sz,bb,sa,ya,hop⟩:=hap
  simp only[ed]at hx
  split at hx
  ·rename_i o ho
   split at hx
   ·rename_i xo g hxo hg
    split at hx
    ·rename_i hc
     simp only[aw]at hc
     simp at hx;subst hx
     have hlit:=sQ hop
     subst hlit
     have hd:∀n,o.dst=some n->n<N:=by intro n hn;have:=hc.1;rw[hn]at this;simpa[ltN]using this
     have hop':lK ops o.dst (.eff (.append sz bb sa ya))=.eff (.append sz bb sa ya):=hop
     simp only[aJ.toM,hop',xk,aJ.act]at hst
     unfold wpOp
     simp only[ho]
     split at hst
     ·exact hst.elim
     ·rename_i hw
      rw[jh hg hc.2 hE hw]
      simp only[aq,if_false]
      refine hnext _ _ _ _ M _ w hst (hE.put hd (.tup rfl (by simp))) s (bC.refl _ _ _) ?_
      cases o.dst<;>rfl
     ·rename_i hw
      rw[jh hg hc.2 hE hw]
      simp only[if_true]
      left
      have hdef:∀v,(a.put o.dst v).defers=a.defers:=fun v=>by cases o.dst<;>rfl
      simp only[oY]at hxo
      split at hxo
      ·simp at hxo
      ·split at hxo
       ·simp at hxo
       ·simp only[a7]at hxo
        obtain⟨e,he,hee⟩:=hxo
        simp at hee;subst hee
        simp only[EOp.isA,aq,if_false]at hst
        refine tA (P:=P) he (fun x xa hx=>hE.arg x xa hx) s hst fun FP r v M' H' w' hk hr hs ht=>?_
        exact hnext _ _ _ _ M' _ w' hk.2 ((hE.mono ht.le).put hd hr) hs ht (hdef v)
    ·simp at hx
   ·simp at hx
  ·simp at hx
theorem kp{i:Nat}{inc:List Nat}{x:aJ}(hx:∃x0,ed P N ops i inc=some x0/\(x=x0\/x=x0.toM)){M:bF}{E:Env}{H:aj}{a:Act}{w:World}(hE:ce N M E a)(s:Sim M H w)
{dr:Bool}{l:Lds}{f:Fps}{K:AC->aj->Lds->Fps->Prop}(hst:x.act P dr E H l f K){next:Act->World->Prop}
(hnext:∀r H' l' f' M' a' w',K r H' l' f'->ce N M' (E.put x.dst r) a'->Sim M' H' w'->bC M H w M' H' w'->a'.defers=a.defers->next a' w'):
 wpOp P ops Q i next a w:=by
 obtain⟨x0,h0,rfl|rfl⟩:=hx
 ·exact pS h0 hE s hst hnext
 ·exact lL h0 hE s hst hnext
theorem sT{dr:Bool}{K:Env->aj->Prop}:∀(xs:List aJ),(∀x∈xs,ed P N ops x.id x.inc=some x)->∀{M:bF} {E:Env} {H:aj} {a:Act} {w:World} {l:Lds} {f:Fps},
 ce N M E a->Sim M H w->bp P dr K (xs.map aJ.toM) E H l f->(∀a' w',kE P N K M H w a a' w'->Q .normal a' w')->wpOps P ops Q (xs.map (·.id)) a w:=by
 intro xs
 induction xs with
 |nil=>intro _ M E H a w l f hE s h hq;exact hq a w ⟨E,H,M,h,hE,s,bC.refl _ _ _,rfl⟩
 |cons x xs ih=>
  intro hres M E H a w l f hE s h hq
  rw[aU,wpOps_cons]
  simp only[aU,bp]at h
  refine lL (hres x (by simp)) hE s h fun r H' l' f' M' a' w' hk hE' s' t' hd'=>?_
  refine ih (fun y hy=>hres y (by simp[hy])) hE' s' hk fun a'' w'' hp=>hq a'' w'' ?_
  obtain⟨E'',H'',M'',p1,p2,p3,p4,p5⟩:=hp
  exact⟨E'',H'',M'',p1,p2,p3,t'.trans p4,p5.trans hd'⟩
theorem jQ{K:Env->aj->Prop}{x:aJ}{post:List aJ}:∀(pre:List aJ),(∀y∈pre,kK y x=true)->∀{E:Env} {H:aj} {l:Lds} {f:Fps},
 bp P true K (pre++x::post) E H l f->bp P true K (x::(pre++post)) E H l f:=by
 intro pre
 induction pre with
 |nil=>intro _ E H l f h;exact h
 |cons y pre ih=>
  intro hi E H l f h
  have h':bp P true K (y::x::(pre++post)) E H l f:=by
   simp only[cq,bp]at h⊢
   refine fK (fun r H' l' f' hk=>?_) h
   have:=ih (fun z hz=>hi z (by simp[hz])) hk
   simpa only[bp]using this
  exact yv (hi y (by simp)) h'
def dX(ops:Array Oper)(i:Nat):List Nat:=match ops[i]? with
 |some o=>(o.after.toList.filter fun e=>Region.binds .any e).map (·.on)
 |none=>[]
def upT(T:Nat->Nat)(ps:List Nat)(m:Nat):Nat:=ps.foldl (fun m p=>m|||(1<<<p)|||T p) m
theorem zB{T:Nat->Nat}{j:Nat}:∀{ps:List Nat} {m:Nat},(upT T ps m).testBit j=true->m.testBit j=true\/∃p∈ps,p=j\/(T p).testBit j=true:=by
 intro ps
 induction ps with
 |nil=>intro m h;exact .inl h
 |cons q ps ih=>
  intro m h
  rcases ih (m:=m|||(1<<<q)|||T q) h with h|⟨p,hp,h⟩
  ·simp only[Nat.testBit_or,dh,Nat.one_shiftLeft,Nat.testBit_two_pow,decide_eq_true_eq]at h
   rcases h with(h|h)|h
   ·exact .inl h
   ·exact .inr ⟨q,by simp,.inl h⟩
   ·exact .inr ⟨q,by simp,.inr h⟩
  ·exact .inr ⟨p,by simp[hp],h⟩
def mJ(ops:Array Oper)(T:Nat->Nat)(n:Nat):Bool:=
 (dC n).all fun i=>(dX ops i).all (fun p=>decide (p<i))&&(T i|||upT T (dX ops i) 0)==upT T (dX ops i) 0
def qk(xs:List aJ)(T:Nat->Nat):Bool:=match xs with
 |[]=>true
 |x::r=>(r.all fun y=>(T y.id).testBit x.id||kK x y)&&qk r T
theorem mc{T:Nat->Nat}{n:Nat}(h:mJ ops T n=true){listed:Array Bool}
(hd:∀i,listed.getD i false=true->∀p∈dX ops i,listed.getD p false=true):
 ∀i,i<n->(∀p∈dX ops i,listed.getD p false=true)->∀j,(T i).testBit j=true->listed.getD j false=true:=by
 intro i
 induction i using Nat.strongRecOn with
 |_ i ih=>
  intro hi hp j hj
  have:=(aS.1 h) i (fk.2 hi)
  simp only[aw,beq_iff_eq]at this
  have hj':(upT T (dX ops i) 0).testBit j=true:=by rw[<-this.2,Nat.testBit_or,hj];rfl
  rcases zB hj' with h0|⟨p,hp1,hp2⟩
  ·simp at h0
  have hlp:=hp p hp1
  have hlt:p<i:=by simpa using(aS.1 this.1) p hp1
  rcases hp2 with rfl|hp2
  ·exact hlp
  ·exact ih p hlt (by omega) (hd p hlp) j hp2
theorem vY{T:Nat->Nat}:∀{xs:List aJ},qk xs T=true->∀{pre post:List aJ} {x:aJ},List.Sublist (pre++x::post) xs->∀y∈pre,(T x.id).testBit y.id=true\/kK y x=true:=by
 intro xs
 induction xs with
 |nil=>intro _ pre post x hs y hy;simp at hs
 |cons z xs ih=>
  intro h pre post x hs y hy
  simp only[qk,aw]at h
  cases pre with
  |nil=>simp at hy
  |cons q pre=>
   cases hs with
   |cons _ hs=>exact ih h.2 (pre:=q::pre) hs y hy
   |cons_cons _ hs=>
    rcases bi.1 hy with rfl|hy
    ·have hx:x∈xs:=hs.subset (by simp)
     have:=(aS.1 h.1) x hx
     simpa only[dh]using this
    ·exact ih h.2 hs y hy
def left(listed:Array Bool)(xs:List aJ):List aJ:=xs.filter fun x=>!listed.getD x.id false
theorem pd{i:Nat}{listed:Array Bool}(h:i∈Region.ready .any ops listed):listed.getD i true=false/\∀p∈dX ops i,listed.getD p false=true:=by
 obtain⟨h0,o,ho,h1⟩:=mem_ready.1 h
 refine⟨h0,fun p hp=>?_⟩
 simp only[dX,ho,aZ,eR]at hp
 obtain⟨e,⟨he,hb⟩,rfl⟩:=hp
 exact h1 e (by simpa using he) hb
theorem oE{xs:List aJ}{x:aJ}(h:x∈xs):∃pre post,xs=pre++x::post:=List.append_of_mem h
theorem vV{xs:List aJ}(hids:xs.map (·.id)=dC ops.size)(hres:∀x∈xs,∃x0,ed P N ops x.id x.inc=some x0/\(x=x0\/x=x0.toM)){T:Nat->Nat}
(hT:mJ ops T ops.size=true)(hp:qk xs T=true){K:Env->aj->Prop}:
 ∀(fuel:Nat) (listed:Array Bool),listed.size=ops.size->(left listed xs).length<=fuel->(∀i,listed.getD i false=true->∀p∈dX ops i,listed.getD p false=true)->
  ∀{M:bF} {E:Env} {H:aj} {a:Act} {w:World} {l:Lds} {f:Fps},ce N M E a->Sim M H w->bp P true K (left listed xs) E H l f->
   (∀a' w',kE P N K M H w a a' w'->Q .normal a' w')->wpAny P .any ops Q fuel listed a w:=by
 have hnodup:(xs.map (·.id)).Nodup:=hids▸List.nodup_range
 have hidlt:∀x∈xs,x.id<ops.size:=fun x hx=>fk.1 (hids▸bZ hx)
 have hsome:∀(listed:Array Bool),listed.size=ops.size->(∀i,listed.getD i false=true->∀p∈dX ops i,listed.getD p false=true)->
  Region.ready .any ops listed=[]->left listed xs=[]:=by
  intro listed hsz hd hr
  cases hl:left listed xs with
  |nil=>rfl
  |cons x rest=>
   exfalso
   have hx:x∈left listed xs:=by rw[hl];simp
   obtain⟨hx1,hx2⟩:=eR.1 hx
   have hlt:=hidlt x hx1
   have hno:x.id∉Region.ready .any ops listed:=by rw[hr];simp
   apply hno
   obtain⟨o,ho⟩:∃o,ops[x.id]?=some o:=⟨ops[x.id],de hlt⟩
   have hunl:listed.getD x.id false=false:=by simpa using hx2
   have hunl':listed.getD x.id true=false:=by
    have:x.id<listed.size:=by omega
    simp only[Array.getD,this,dif_pos]at hunl⊢;exact hunl
   refine mem_ready.2 ⟨hunl',o,ho,fun e he hb=>?_⟩
   have hpm:e.on∈dX ops x.id:=by
    simp only[dX,ho,aZ,eR]
    exact⟨e,⟨by simpa using he,hb⟩,rfl⟩
   have hlt':e.on<x.id:=by
    have:=(aS.1 hT) x.id (fk.2 hlt)
    simp only[aw]at this
    simpa using(aS.1 this.1) _ hpm
   rcases hc:listed.getD e.on false with _|_
   ·exfalso
    obtain⟨pre,post,hsplit⟩:=oE hx1
    have hyx:∃y∈pre,y.id=e.on:=by
     have hmem:e.on∈(xs.map (·.id)).take x.id:=by
      rw[hids,List.take_range];exact fk.2 (by omega)
     have hpre:pre.map (·.id)=(xs.map (·.id)).take x.id:=by
      have hlen:pre.length=x.id:=by
       have h1:(xs.map (·.id))[pre.length]?=some x.id:=by rw[hsplit];simp
       rw[hids]at h1
       have:=aN.1 h1
       obtain⟨q1,q2⟩:=this
       simpa using q2
      rw[hsplit];simp[hlen]
     rw[<-hpre]at hmem
     obtain⟨y,hy,he⟩:=aZ.1 hmem
     exact⟨y,hy,he⟩
    obtain⟨y,hy,hye⟩:=hyx
    have hxl:left listed xs=left listed pre++x::left listed post:=by
     rw[hsplit];simp only[left,List.filter_append,List.filter_cons,hx2,if_true]
    rw[hxl]at hl
    have hyl:y∈left listed pre:=eR.2 ⟨hy,by simp only[hye,hc,Bool.not_false]⟩
    cases hlp:left listed pre with
    |nil=>rw[hlp]at hyl;simp at hyl
    |cons z zs=>
     rw[hlp]at hl
     simp at hl
     have hzx:z=x:=hl.1
     have hz:z∈left listed pre:=by rw[hlp];simp
     have hzp:z∈pre:=(eR.1 hz).1
     rw[hsplit]at hnodup
     simp only[bL,aU]at hnodup
     have:=(fP.1 hnodup).2.2 z.id (bZ hzp) x.id (by simp)
     exact this (by rw[hzx])
   ·rfl
 intro fuel
 induction fuel with
 |zero=>
  intro listed hsz hfuel hd M E H a w l f hE s h hq
  have hl:left listed xs=[]:=bn (by omega)
  refine⟨?_,?_⟩
  ·cases hr:Region.ready .any ops listed with
   |nil=>rfl
   |cons i is=>
    exfalso
    have hi:i∈Region.ready .any ops listed:=by rw[hr];simp
    obtain⟨h0,o,ho,-⟩:=mem_ready.1 hi
    have hlt:=(cS.1 ho).1
    have:i∈xs.map (·.id):=by rw[hids];exact fk.2 hlt
    obtain⟨x,hx,rfl⟩:=aZ.1 this
    have hunl:listed.getD x.id false=false:=by
     have hs:x.id<listed.size:=by omega
     simp only[Array.getD,hs,dif_pos]at h0⊢;exact h0
    have:x∈left listed xs:=eR.2 ⟨hx,by simp only[hunl,Bool.not_false]⟩
    rw[hl]at this;simp at this
  ·rw[hl]at h
   exact hq a w ⟨E,H,M,h,hE,s,bC.refl _ _ _,rfl⟩
 |succ fuel ih=>
  intro listed hsz hfuel hd M E H a w l f hE s h hq
  refine⟨fun hr=>?_,fun i hi=>?_⟩
  ·rw[hsome listed hsz hd hr]at h
   exact hq a w ⟨E,H,M,h,hE,s,bC.refl _ _ _,rfl⟩
  ·obtain⟨h0,hpr⟩:=pd hi
   obtain⟨-,o,ho,-⟩:=mem_ready.1 hi
   have hlt:=(cS.1 ho).1
   have:i∈xs.map (·.id):=by rw[hids];exact fk.2 hlt
   obtain⟨x,hx,rfl⟩:=aZ.1 this
   have hunl:listed.getD x.id false=false:=by
    have hs:x.id<listed.size:=by omega
    simp only[Array.getD,hs,dif_pos]at h0⊢;exact h0
   have hxl:x∈left listed xs:=eR.2 ⟨hx,by simp only[hunl,Bool.not_false]⟩
   obtain⟨pre,post,hsplit⟩:=oE hxl
   have hTl:=mc hT hd x.id hlt hpr
   have hind:∀y∈pre,kK y x=true:=by
    intro y hy
    have hsub:List.Sublist (pre++x::post) xs:=hsplit▸List.filter_sublist
    rcases vY hp hsub y hy with h1|h1
    ·exfalso
     have hyl:y∈left listed xs:=by rw[hsplit];simp[hy]
     have:=(eR.1 hyl).2
     rw[hTl _ h1]at this;simp at this
    ·exact h1
   rw[hsplit]at h
   have h':=jQ pre hind h
   simp only[bp]at h'
   refine kp (hres x hx) hE s h' fun r H' l' f' M' a' w' hk hE' s' t' hd'=>?_
   have hleft:left (listed.setIfInBounds x.id true) xs=pre++post:=by
    have h1:left (listed.setIfInBounds x.id true) xs=(left listed xs).filter fun y=>y.id !=x.id:=by
     simp only[left,List.filter_filter]
     apply List.filter_congr
     intro y hy
     by_cases e:y.id=x.id
     ·have:x.id<listed.size:=by omega
      simp[e,this]
     ·rw[getD_set_ne false (Ne.symm e)];simp[e]
    rw[h1,hsplit]
    have hnd:((pre++x::post).map (·.id)).Nodup:=by
     have:=(hsplit▸List.filter_sublist:List.Sublist (pre++x::post) xs)
     exact(this.map (·.id)).nodup hnodup
    simp only[bL,aU,fP,List.nodup_cons]at hnd
    obtain⟨n1,⟨n2,n3⟩,n4⟩:=hnd
    rw[List.filter_append,List.filter_cons]
    simp only[bne_self_eq_false,aq,if_false]
    rw[List.filter_eq_self.2,List.filter_eq_self.2]
    ·intro y hy
     have:y.id≠x.id:=fun e=>n2 (e▸bZ hy)
     simpa using this
    ·intro y hy
     have:y.id≠x.id:=n4 _ (bZ hy) _ (by simp)
     simpa using this
   refine ih (listed.setIfInBounds x.id true) (by simp[hsz]) ?_ ?_ hE' s' (by rw[hleft];exact hk) fun a'' w'' hpost=>hq a'' w'' ?_
   ·have:(left listed xs).length=(pre++x::post).length:=by rw[hsplit]
    rw[hleft];simp at this⊢;omega
   ·intro j hj p hpj
    by_cases e:j=x.id
    ·subst e;exact getD_set_true (hpr p hpj)
    ·rw[getD_set_ne false (Ne.symm e)]at hj
     exact getD_set_true (hd j hj p hpj)
   ·obtain⟨E'',H'',M'',p1,p2,p3,p4,p5⟩:=hpost
    exact⟨E'',H'',M'',p1,p2,p3,t'.trans p4,p5.trans hd'⟩
end
section
variable {P:Program}{ops:Array Oper}{N:Nat}{Q:Exit->Act->World->Prop}
structure Lst(P:Program)(N:Nat)(ops:Array Oper)(listed:Array Bool)(zs:List aJ):Prop where
 nodup:(zs.map (·.id)).Nodup
 un:∀x∈zs,listed.getD x.id false=false
 cov:∀i,i<ops.size->listed.getD i false=false->∃x∈zs,x.id=i
 lt:∀x∈zs,x.id<ops.size
 res:∀x∈zs,∃x0,ed P N ops x.id x.inc=some x0/\(x=x0\/x=x0.toM)
 ord:∀pre x post,zs=pre++x::post->∀p∈dX ops x.id,listed.getD p false=true\/∃y∈pre,y.id=p
def Pr(T:Nat->Nat)(ex:Nat->Nat->Prop)(zs:List aJ):Prop:=∀pre x post,zs=pre++x::post->∀y∈pre,(T x.id).testBit y.id=true\/kK y x=true\/ex y.id x.id
theorem pT{α:Type}{pre post p1 p2:List α}{x z:α}(h:pre++post=p1++z::p2):
 (∃c,pre=p1++z::c/\pre++x::post=p1++z::(c++x::post))\/(∃c,p1=pre++c/\pre++x::post=(pre++x::c)++z::p2):=by
 rcases List.append_eq_append_iff.1 h with⟨c,h1,h2⟩|⟨c,h1,h2⟩
 ·exact .inr ⟨c,h1,by rw[h2];simp⟩
 ·cases c with
  |nil=>exact .inr ⟨[],by simpa using h1.symm,by simp at h1 h2;subst h1;rw[<-h2];simp⟩
  |cons q c=>
   simp at h2
   obtain⟨rfl,h2⟩:=h2
   exact .inl ⟨c,h1,by rw[h1];simp⟩
theorem Pr.next{T:Nat->Nat}{ex:Nat->Nat->Prop}{pre post:List aJ}{x:aJ}(h:Pr T ex (pre++x::post)):Pr T ex (pre++post):=by
 intro p1 z p2 hz y hy
 rcases pT (x:=x) hz with⟨c,h1,h2⟩|⟨c,h1,h2⟩
 ·exact h p1 z _ h2 y hy
 ·refine h _ z p2 h2 y ?_
  rw[h1]at hy
  rcases aE.1 hy with h|h<;>simp[h]
theorem Lst.next{listed:Array Bool}{pre post:List aJ}{x:aJ}(hsz:listed.size=ops.size)(h:Lst P N ops listed (pre++x::post)):Lst P N ops (listed.setIfInBounds x.id true) (pre++post):=by
 have hnd:=h.nodup
 simp only[bL,aU,fP,List.nodup_cons]at hnd
 obtain⟨n1,⟨n2,n3⟩,n4⟩:=hnd
 have hne:∀y∈pre++post,y.id≠x.id:=by
  intro y hy e
  rcases aE.1 hy with hy|hy
  ·exact n4 _ (bZ hy) _ (by simp) e
  ·exact n2 (e▸bZ hy)
 have hsub:∀y∈pre++post,y∈pre++x::post:=fun y hy=>by rcases aE.1 hy with h|h<;>simp[h]
 refine⟨?_,fun y hy=>by rw[getD_set_ne false (Ne.symm (hne y hy))];exact h.un y (hsub y hy),fun i hi hl=>?_,fun y hy=>h.lt y (hsub y hy),fun y hy=>h.res y (hsub y hy),?_⟩
 ·rw[bL,fP]
  exact⟨n1,n3,fun a ha b hb=>n4 a ha b (by simp[hb])⟩
 ·by_cases e:i=x.id
  ·subst e
   have:x.id<listed.size:=by omega
   simp[this]at hl
  ·rw[getD_set_ne false (Ne.symm e)]at hl
   obtain⟨y,hy,rfl⟩:=h.cov i hi hl
   refine⟨y,?_,rfl⟩
   rcases aE.1 hy with hy|hy
   ·simp[hy]
   ·rcases bi.1 hy with rfl|hy
    ·exact absurd rfl e
    ·simp[hy]
 ·intro p1 z p2 hz p hp
  have hx:x.id<listed.size:=by have:=h.lt x (by simp);omega
  have up:listed.getD p false=true->(listed.setIfInBounds x.id true).getD p false=true:=fun hp=>getD_set_true hp
  rcases pT (x:=x) hz with⟨c,h1,h2⟩|⟨c,h1,h2⟩
  ·rcases h.ord p1 z _ h2 p hp with h|h
   ·exact .inl (up h)
   ·exact .inr h
  ·rcases h.ord _ z p2 h2 p hp with h|⟨y,hy,e⟩
   ·exact .inl (up h)
   ·rcases aE.1 hy with hy|hy
    ·exact .inr ⟨y,by rw[h1];simp[hy],e⟩
    ·rcases bi.1 hy with rfl|hy
     ·left;subst e;simp[hx]
     ·exact .inr ⟨y,by rw[h1];simp[hy],e⟩
theorem Lst.none_ready{listed:Array Bool}{zs:List aJ}(hsz:listed.size=ops.size)(h:Lst P N ops listed zs)(hr:Region.ready .any ops listed=[]):zs=[]:=by
 cases zs with
 |nil=>rfl
 |cons x rest=>
  exfalso
  have hlt:=h.lt x (by simp)
  have hno:x.id∉Region.ready .any ops listed:=by rw[hr];simp
  apply hno
  obtain⟨o,ho⟩:∃o,ops[x.id]?=some o:=⟨ops[x.id],de hlt⟩
  have hunl:=h.un x (by simp)
  have hunl':listed.getD x.id true=false:=by
   have:x.id<listed.size:=by omega
   simp only[Array.getD,this,dif_pos]at hunl⊢;exact hunl
  refine mem_ready.2 ⟨hunl',o,ho,fun e he hb=>?_⟩
  have hpm:e.on∈dX ops x.id:=by
   simp only[dX,ho,aZ,eR]
   exact⟨e,⟨by simpa using he,hb⟩,rfl⟩
  rcases h.ord [] x rest rfl _ hpm with h1|⟨y,hy,-⟩
  ·exact h1
  ·simp at hy
theorem Lst.find{listed:Array Bool}{zs:List aJ}(hsz:listed.size=ops.size)(h:Lst P N ops listed zs){i:Nat}(hi:i∈Region.ready .any ops listed):
 ∃pre x post,zs=pre++x::post/\x.id=i/\∀p∈dX ops i,listed.getD p false=true:=by
 obtain⟨h0,hpr⟩:=pd hi
 obtain⟨-,o,ho,-⟩:=mem_ready.1 hi
 have hlt:=(cS.1 ho).1
 have hunl:listed.getD i false=false:=by
  have hs:i<listed.size:=by omega
  simp only[Array.getD,hs,dif_pos]at h0⊢;exact h0
 obtain⟨x,hx,rfl⟩:=h.cov i hlt hunl
 obtain⟨pre,post,hs⟩:=oE hx
 exact⟨pre,x,post,hs,rfl,hpr⟩
theorem md{listed:Array Bool}{i:Nat}(hd:∀i,listed.getD i false=true->∀p∈dX ops i,listed.getD p false=true)(hpr:∀p∈dX ops i,listed.getD p false=true):
 ∀j,(listed.setIfInBounds i true).getD j false=true->∀p∈dX ops j,(listed.setIfInBounds i true).getD p false=true:=by
 intro j hj p hpj
 by_cases e:j=i
 ·subst e;exact getD_set_true (hpr p hpj)
 ·rw[getD_set_ne false (Ne.symm e)]at hj
  exact getD_set_true (hd j hj p hpj)
theorem uj{T:Nat->Nat}(hT:mJ ops T ops.size=true){K:Env->aj->Prop}:
 ∀(fuel:Nat) (listed:Array Bool) (zs:List aJ),listed.size=ops.size->zs.length<=fuel->(∀i,listed.getD i false=true->∀p∈dX ops i,listed.getD p false=true)->
  Lst P N ops listed zs->Pr T (fun _ _=>False) zs->
  ∀{M:bF} {E:Env} {H:aj} {a:Act} {w:World} {l:Lds} {f:Fps},ce N M E a->Sim M H w->bp P true K zs E H l f->
   (∀a' w',kE P N K M H w a a' w'->Q .normal a' w')->wpAny P .any ops Q fuel listed a w:=by
 intro fuel
 induction fuel with
 |zero=>
  intro listed zs hsz hfuel hd hL hP M E H a w l f hE s h hq
  have hl:zs=[]:=bn (by omega)
  subst hl
  refine⟨?_,hq a w ⟨E,H,M,h,hE,s,bC.refl _ _ _,rfl⟩⟩
  cases hr:Region.ready .any ops listed with
  |nil=>rfl
  |cons i is=>
   exfalso
   obtain⟨pre,x,post,hs,-⟩:=hL.find hsz (i:=i) (by rw[hr];simp)
   simp at hs
 |succ fuel ih=>
  intro listed zs hsz hfuel hd hL hP M E H a w l f hE s h hq
  refine⟨fun hr=>?_,fun i hi=>?_⟩
  ·rw[hL.none_ready hsz hr]at h
   exact hq a w ⟨E,H,M,h,hE,s,bC.refl _ _ _,rfl⟩
  ·obtain⟨pre,x,post,rfl,rfl,hpr⟩:=hL.find hsz hi
   have hTl:=mc hT hd x.id (hL.lt x (by simp)) hpr
   have hind:∀y∈pre,kK y x=true:=by
    intro y hy
    rcases hP pre x post rfl y hy with h1|h1|h1
    ·have:=hTl _ h1
     rw[hL.un y (by simp[hy])]at this;simp at this
    ·exact h1
    ·exact h1.elim
   have h':=jQ pre hind h
   simp only[bp]at h'
   refine kp (hL.res x (by simp)) hE s h' fun r H' l' f' M' a' w' hk hE' s' t' hd'=>?_
   refine ih (listed.setIfInBounds x.id true) (pre++post) (by simp[hsz]) (by simp at hfuel⊢;omega) (md hd hpr) (hL.next hsz) hP.next hE' s' hk fun a'' w'' hpost=>hq a'' w'' ?_
   obtain⟨E'',H'',M'',p1,p2,p3,p4,p5⟩:=hpost
   exact⟨E'',H'',M'',p1,p2,p3,t'.trans p4,p5.trans hd'⟩
theorem act_and{x:aJ}(hx:x.op.isP=true){dr:Bool}{E:Env}{H:aj}{l l':Lds}{f f':Fps}{K K':AC->aj->Lds->Fps->Prop}(h:x.act P dr E H l f K)(h':x.act P dr E H l' f' K'):
 x.act P dr E H l f (fun r H1 l1 f1=>K r H1 l1 f1/\K' r H1 l' f'):=by
 unfold aJ.act at h h'⊢
 split at h
 ·exact h
 ·rename_i hw;simp only[hw]at h';exact⟨h,h'⟩
 ·rename_i hw
  cases hop:x.op<;>simp only[hop]at h h'⊢
  ·split at h
   ·simp_all
   ·exact h
  ·simp[hop,XOp.isP]at hx
  ·simp[hop,XOp.isP]at hx
  ·split at h
   ·simp_all
   ·exact h
theorem uk{T:Nat->Nat}(hT:mJ ops T ops.size=true){K:Env->aj->Prop}{ia ib:Nat}(hab:ia≠ib):
 ∀(fuel:Nat) (listed:Array Bool) (zs ys:List aJ),listed.size=ops.size->zs.length<=fuel->ys.length<=fuel->(∀i,listed.getD i false=true->∀p∈dX ops i,listed.getD p false=true)->
  listed.getD ia false=false->listed.getD ib false=false->
  (∀x∈zs,x.op.isP=true\/x.id=ia\/x.id=ib\/(T x.id).testBit ia=true\/(T x.id).testBit ib=true)->(∀x∈ys,∃z∈zs,x=z)->
  Lst P N ops listed zs->Lst P N ops listed ys->Pr T (fun y x=>y=ia/\x=ib) zs->Pr T (fun y x=>y=ib/\x=ia) ys->
  ∀{M:bF} {E:Env} {H:aj} {a:Act} {w:World},ce N M E a->Sim M H w->bp P true K zs E H [] []->bp P true K ys E H [] []->
   (∀a' w',kE P N K M H w a a' w'->Q .normal a' w')->wpAny P .any ops Q fuel listed a w:=by
 intro fuel
 induction fuel with
 |zero=>
  intro listed zs ys hsz hfuel hfuel2 hd la lb hpure hsub hL hL2 hP hP2 M E H a w hE s h h2 hq
  have hl:zs=[]:=bn (by omega)
  subst hl
  refine⟨?_,hq a w ⟨E,H,M,h,hE,s,bC.refl _ _ _,rfl⟩⟩
  cases hr:Region.ready .any ops listed with
  |nil=>rfl
  |cons i is=>
   exfalso
   obtain⟨pre,x,post,hs,-⟩:=hL.find hsz (i:=i) (by rw[hr];simp)
   simp at hs
 |succ fuel ih=>
  intro listed zs ys hsz hfuel hfuel2 hd la lb hpure hsub hL hL2 hP hP2 M E H a w hE s h h2 hq
  refine⟨fun hr=>?_,fun i hi=>?_⟩
  ·rw[hL.none_ready hsz hr]at h
   exact hq a w ⟨E,H,M,h,hE,s,bC.refl _ _ _,rfl⟩
  ·obtain⟨pre,x,post,rfl,hxi,hpr⟩:=hL.find hsz hi
   obtain⟨pre2,x2,post2,rfl,hxi2,-⟩:=hL2.find hsz hi
   have hx2:x2=x:=by
    obtain⟨z,hz,e⟩:=hsub x2 (by simp)
    rw[e]
    have hnd:=hL.nodup
    have hzid:z.id=x.id:=by rw[<-e,hxi2,hxi]
    simp only[bL,aU,fP,List.nodup_cons]at hnd
    obtain⟨n1,⟨n2,n3⟩,n4⟩:=hnd
    rcases aE.1 hz with hz|hz
    ·exact absurd hzid (n4 _ (bZ hz) _ (by simp))
    ·rcases bi.1 hz with h|hz
     ·exact h
     ·exact absurd (hzid▸bZ hz) n2
   subst hx2
   subst hxi
   have hTl:=mc hT hd x2.id (hL.lt x2 (by simp)) hpr
   have hind:x2.id≠ib->∀y∈pre,kK y x2=true:=by
    intro hb y hy
    rcases hP pre x2 post rfl y hy with h1|h1|h1
    ·have:=hTl _ h1
     rw[hL.un y (by simp[hy])]at this;simp at this
    ·exact h1
    ·exact absurd h1.2 hb
   have hind2:x2.id≠ia->∀y∈pre2,kK y x2=true:=by
    intro ha y hy
    rcases hP2 pre2 x2 post2 rfl y hy with h1|h1|h1
    ·have:=hTl _ h1
     rw[hL2.un y (by simp[hy])]at this;simp at this
    ·exact h1
    ·exact absurd h1.2 ha
   have hun:=hL.un x2 (by simp)
   have one:∀(p q:List aJ) (c d:Nat),c=x2.id->Lst P N ops listed (p++x2::q)->Pr T (fun y x=>y=c/\x=d) (p++x2::q)->(∀y∈p,kK y x2=true)->(p++x2::q).length<=fuel+1->bp P true K (p++x2::q) E H [] []->wpOp P ops Q x2.id (wpAny P .any ops Q fuel (listed.setIfInBounds x2.id true)) a w:=by
    intro p q c d hc hL hP hi hlen h
    have h':=jQ p hi h
    simp only[bp]at h'
    refine kp (hL.res x2 (by simp)) hE s h' fun r H' l' f' M' a' w' hk hE' s' t' hd'=>?_
    refine uj hT fuel (listed.setIfInBounds x2.id true) (p++q) (by simp[hsz]) (by simp at hlen⊢;omega) (md hd hpr) (hL.next hsz) (fun p1 z p2 hz y hy=>?_) hE' s' hk fun a'' w'' hpost=>hq a'' w'' ?_
    ·rcases hP.next p1 z p2 hz y hy with h|h|h
     ·exact .inl h
     ·exact .inr (.inl h)
     ·exfalso
      have hun':=(hL.next hsz).un y (by rw[hz];simp[hy])
      have hs:x2.id<listed.size:=by have:=hL.lt x2 (by simp);omega
      rw[h.1,hc]at hun'
      simp[hs]at hun'
    ·obtain⟨E'',H'',M'',p1,p2,p3,p4,p5⟩:=hpost
     exact⟨E'',H'',M'',p1,p2,p3,t'.trans p4,p5.trans hd'⟩
   by_cases ea:x2.id=ia
   ·exact one pre post ia ib ea.symm hL hP (hind (by rw[ea];exact hab)) hfuel h
   ·by_cases eb:x2.id=ib
    ·exact one pre2 post2 ib ia eb.symm hL2 hP2 (hind2 ea) hfuel2 h2
    ·have hpx:x2.op.isP=true:=by
      rcases hpure x2 (by simp)with h|h|h|h|h
      ·exact h
      ·exact absurd h ea
      ·exact absurd h eb
      ·have:=hTl _ h;rw[la]at this;simp at this
      ·have:=hTl _ h;rw[lb]at this;simp at this
     have h':=jQ pre (hind eb) h
     have h2':=jQ pre2 (hind2 ea) h2
     simp only[bp]at h' h2'
     have hboth:=act_and hpx h' h2'
     refine kp (hL.res x2 (by simp)) hE s (K:=fun r H1 l1 f1=>(l1=[]/\f1=[])/\bp P true K (pre++post) (E.put x2.dst r) H1 [] []/\bp P true K (pre2++post2) (E.put x2.dst r) H1 [] []) (l:=[]) (f:=[]) (dr:=true) ?_ fun r H' l' f' M' a' w' hk hE' s' t' hd'=>?_
     ·revert hboth
      generalize hp:x2.op=o at hpx
      unfold aJ.act
      intro hboth
      split at hboth
      ·exact hboth
      ·exact⟨⟨rfl,rfl⟩,hboth⟩
      ·rw[hp]at hboth⊢
       cases o<;>simp[XOp.isP]at hpx
       ·simp only[]at hboth⊢
        split at hboth
        ·exact⟨by simp,hboth⟩
        ·exact hboth
       ·simp only[]at hboth⊢
        split at hboth
        ·exact⟨by simp,hboth⟩
        ·exact hboth
     ·obtain⟨-,hk1,hk2⟩:=hk
      have hne:∀j,j≠x2.id->listed.getD j false=false->(listed.setIfInBounds x2.id true).getD j false=false:=fun j hj h=>by rw[getD_set_ne false (Ne.symm hj)];exact h
      refine ih (listed.setIfInBounds x2.id true) (pre++post) (pre2++post2) (by simp[hsz]) (by simp at hfuel⊢;omega) (by simp at hfuel2⊢;omega) (md hd hpr) (hne _ (Ne.symm ea) la) (hne _ (Ne.symm eb) lb)
       (fun y hy=>hpure y (by rcases aE.1 hy with h|h<;>simp[h])) (fun y hy=>?_) (hL.next hsz) (hL2.next hsz) hP.next hP2.next hE' s' hk1 hk2 fun a'' w'' hpost=>hq a'' w'' ?_
      ·have hy2:y∈pre2++x2::post2:=by rcases aE.1 hy with h|h<;>simp[h]
       obtain⟨z,hz,rfl⟩:=hsub y hy2
       have hyn:y.id≠x2.id:=by
        have h1:=(hL2.next hsz).un y hy
        intro e
        have hs:x2.id<listed.size:=by have:=hL.lt x2 (by simp);omega
        rw[e]at h1;simp[hs]at h1
       refine⟨y,?_,rfl⟩
       rcases aE.1 hz with h|h
       ·simp[h]
       ·rcases bi.1 h with rfl|h
        ·exact absurd rfl hyn
        ·simp[h]
      ·obtain⟨E'',H'',M'',p1,p2,p3,p4,p5⟩:=hpost
       exact⟨E'',H'',M'',p1,p2,p3,t'.trans p4,p5.trans hd'⟩
def Ah(ops:Array Oper):List Nat->List aJ->Bool
 |_,[]=>true
 |seen,x::r=>(dX ops x.id).all (fun p=>seen.contains p)&&Ah ops (x.id::seen) r
def td:List Nat->Bool
 |[]=>true
 |x::r=>!r.contains x&&td r
def qj(a b:Nat)(xs:List aJ)(T:Nat->Nat):Bool:=match xs with
 |[]=>true
 |x::r=>(r.all fun y=>(T y.id).testBit x.id||kK x y||(x.id==a&&y.id==b))&&qj a b r T
theorem oL:∀{zs:List aJ} {seen:List Nat},Ah ops seen zs=true->∀pre x post,zs=pre++x::post->∀p∈dX ops x.id,p∈seen\/∃y∈pre,y.id=p
 |[],seen,_,pre,x,post,hz,p,hp=>by simp at hz
 |z::zs,seen,h,pre,x,post,hz,p,hp=>by
  simp only[Ah,aw,aS]at h
  cases pre with
  |nil=>
   simp at hz
   obtain⟨rfl,rfl⟩:=hz
   left;simpa using h.1 p hp
  |cons q pre=>
   simp at hz
   obtain⟨rfl,rfl⟩:=hz
   rcases oL h.2 pre x post rfl p hp with h1|⟨y,hy,e⟩
   ·rcases bi.1 h1 with h1|h1
    ·exact .inr ⟨z,by simp,h1.symm⟩
    ·exact .inl h1
   ·exact .inr ⟨y,by simp[hy],e⟩
theorem pe:∀{l:List Nat},td l=true->l.Nodup
 |[],_=>by simp
 |x::r,h=>by
  simp only[td,aw]at h
  exact List.nodup_cons.2 ⟨by simpa using h.1,pe h.2⟩
theorem lS{T:Nat->Nat}{a b:Nat}:∀{zs:List aJ},qj a b zs T=true->Pr T (fun y x=>y=a/\x=b) zs
 |[],_,pre,x,post,hz,y,hy=>by simp at hz
 |z::zs,h,pre,x,post,hz,y,hy=>by
  simp only[qj,aw,aS]at h
  cases pre with
  |nil=>simp at hy
  |cons q pre=>
   simp at hz
   obtain⟨rfl,rfl⟩:=hz
   rcases bi.1 hy with rfl|hy
   ·have:=h.1 x (by simp)
    simp only[dh,aw,beq_iff_eq]at this
    rcases this with(h|h)|h
    ·exact .inl h
    ·exact .inr (.inl h)
    ·exact .inr (.inr h)
   ·exact lS h.2 pre x post rfl y hy
def twinOf(zs:List aJ):Option (Nat×Nat):=zs.findSome? fun y=>match y.op,y.inc with
 |.load _,[a]=>if(zs.any fun z=>match z.op with
  |.eff (.call _ [.slot d,.const _])=>y.dst==some d
  |_=>false)&&(zs.any fun z=>z.id==a&&z.inc==[y.id]&&match z.op with
  |.eff (.call _ [_])=>true
  |_=>false)then some (a,y.id)else none
 |_,_=>none
def clr(a b:Nat)(x:aJ):aJ:=if x.id==a||x.id==b then {x with inc:=[]}else x
def vL(a b:Nat)(zs:List aJ):List aJ:=zs.flatMap fun x=>if x.id==a then []else if x.id==b then x::zs.filter (fun y=>y.id==a)else [x]
theorem clr_id(a b:Nat)(x:aJ):(clr a b x).id=x.id:=by unfold clr;split<;>rfl
theorem uh{i:Nat}{inc:List Nat}{x:aJ}(h:ed P N ops i inc=some x)(inc':List Nat):ed P N ops i inc'=some {x with inc:=inc'}:=by
 unfold ed at h⊢
 split at h
 ·split at h
  ·split at h
   ·rename_i h1;simp only[h1,if_true];simp at h;subst h;rfl
   ·simp at h
  ·simp at h
 ·simp at h
theorem clr_res{a b:Nat}{x:aJ}(h:∃x0,ed P N ops x.id x.inc=some x0/\(x=x0\/x=x0.toM)):∃x0,ed P N ops (clr a b x).id (clr a b x).inc=some x0/\(clr a b x=x0\/clr a b x=x0.toM):=by
 obtain⟨x0,h0,h1⟩:=h
 unfold clr
 split
 ·refine⟨{x0 with inc:=[]},uh h0 [],?_⟩
  rcases h1 with rfl|rfl
  ·exact .inl rfl
  ·exact .inr rfl
 ·exact⟨x0,h0,h1⟩
theorem vK{a b:Nat}{zs:List aJ}:∀x∈vL a b zs,∃z∈zs,x=z:=by
 intro x hx
 simp only[vL,List.mem_flatMap]at hx
 obtain⟨z,hz,hx⟩:=hx
 split at hx
 ·simp at hx
 ·split at hx
  ·rcases bi.1 hx with rfl|hx
   ·exact⟨_,hz,rfl⟩
   ·exact⟨_,(eR.1 hx).1,rfl⟩
  ·simp at hx;exact⟨_,hz,hx⟩
def wb(ops:Array Oper)(T:Nat->Nat)(a b:Nat)(xs ys:List aJ):Bool:=
 mJ ops T ops.size&&(qj a b xs T&&(qj b a ys T&&(Ah ops [] xs&&(Ah ops [] ys&&(td (ys.map (·.id))&&(((dC ops.size).all fun i=>ys.any fun y=>y.id==i)&&(decide (ys.length<=ops.size)&&
 ((xs.all fun x=>x.op.isP||x.id==a||x.id==b||(T x.id).testBit a||(T x.id).testBit b)&&a !=b))))))))
theorem sX{T:Nat->Nat}{a b:Nat}{xs ys:List aJ}(hok:wb ops T a b xs ys=true)(hids:xs.map (·.id)=dC ops.size)(hres:∀x∈xs,∃x0,ed P N ops x.id x.inc=some x0/\(x=x0\/x=x0.toM))
(hsub:∀x∈ys,∃z∈xs,x=z){K:Env->aj->Prop}{M:bF}{E:Env}{H:aj}{ac:Act}{w:World}(hE:ce N M E ac)(s:Sim M H w)(h1:bp P true K xs E H [] [])(h2:bp P true K ys E H [] [])
(hq:∀a' w',kE P N K M H w ac a' w'->Q .normal a' w'):wpAny P .any ops Q ops.size (ft ops.size false) ac w:=by
 simp only[wb,aw,aS,iP,beq_iff_eq,decide_eq_true_eq,bne_iff_ne,dh]at hok
 obtain⟨c1,c2,c3,c4,c5,c6,c7,c8,c9,c10⟩:=hok
 have hf:∀i,(ft ops.size false).getD i false=false:=by intro i;by_cases hi:i<ops.size<;>simp[hi]
 have hlt:∀x∈xs,x.id<ops.size:=fun x hx=>fk.1 (hids▸bZ hx)
 have L1:Lst P N ops (ft ops.size false) xs:=by
  refine⟨hids▸List.nodup_range,fun x _=>hf _,fun i hi _=>?_,hlt,hres,fun pre x post hz p hp=>?_⟩
  ·have:i∈xs.map (·.id):=by rw[hids];exact fk.2 hi
   obtain⟨x,hx,e⟩:=aZ.1 this
   exact⟨x,hx,e⟩
  ·rcases oL c4 pre x post hz p hp with h|h
   ·simp at h
   ·exact .inr h
 have L2:Lst P N ops (ft ops.size false) ys:=by
  refine⟨pe c6,fun x _=>hf _,fun i hi _=>c7 i (fk.2 hi),fun x hx=>?_,fun x hx=>?_,fun pre x post hz p hp=>?_⟩
  ·obtain⟨z,hz,rfl⟩:=hsub x hx;exact hlt _ hz
  ·obtain⟨z,hz,rfl⟩:=hsub x hx;exact hres _ hz
  ·rcases oL c5 pre x post hz p hp with h|h
   ·simp at h
   ·exact .inr h
 refine uk c1 c10 ops.size _ xs ys (by simp) (by rw[<-ao (f:=fun x=>x.id),hids];simp) c8 (fun i hi=>by rw[hf]at hi;simp at hi) (hf _) (hf _) (fun x hx=>?_) hsub L1 L2 (lS c2) (lS c3) hE s h1 h2 hq
 have:=c9 x hx
 rcases this with(((h|h)|h)|h)|h
 ·exact .inl h
 ·exact .inr (.inl h)
 ·exact .inr (.inr (.inl h))
 ·exact .inr (.inr (.inr (.inl h)))
 ·exact .inr (.inr (.inr (.inr h)))
end
inductive aT where
 |skip
 |region(drawn:Bool)(xs:List aJ)
 |region2(a b:Nat)(xs ys:List aJ)
 |seq(a b:aT)
 |cond(c:aG)(a b:aT)
 |block(id:Nat)(c:aT)
 |loop(c:aT)
 |exit(id:Nat)
 |ret
 deriving Inhabited
inductive cE where
 |normal
 |exit(id:Nat)
 |ret
def cE.then(K':Env->aj->Prop)(K:cE->Env->aj->Prop):cE->Env->aj->Prop
 |.normal=>K'
 |e=>K e
def cE.inBlock(id:Nat)(K:cE->Env->aj->Prop):cE->Env->aj->Prop
 |.exit i=>if i=id then K .normal else K (.exit i)
 |e=>K e
def HWk(H H':aj):Prop:=(∀M w,Sim M H w->Sim M H' w)/\∀b,H'.get b≠none->H.get b≠none
theorem HWk.of_sub{H H':aj}(h:H'.sub H):HWk H H':=⟨fun _ _ s=>s.sub h,fun b hb=>by
 obtain⟨o,ho⟩:=aI.1 hb
 simp[h b o ho]⟩
theorem bC.wk{M M':bF}{H H' H'':aj}{w w':World}(t:bC M H w M' H' w')(h:HWk H' H''):bC M H w M' H'' w':=
 ⟨t.le,t.size,t.same,fun b hb=>t.fresh b (h.2 b hb),t.io⟩
def aT.wp(P:Program):aT->(cE->Env->aj->Prop)->Env->aj->Prop
 |.skip,K,E,H=>K .normal E H
 |.region d xs,K,E,H=>bp P d (K .normal) xs E H [] []
 |.region2 _ _ xs ys,K,E,H=>bp P true (K .normal) xs E H [] []/\bp P true (K .normal) ys E H [] []
 |.seq a b,K,E,H=>a.wp P (cE.then (b.wp P K) K) E H
 |.cond c a b,K,E,H=>∃t,c.ev E=.lit (.bool t)/\(t=true->a.wp P K E H)/\(t=false->b.wp P K E H)
 |.block id c,K,E,H=>c.wp P (cE.inBlock id K) E H
 |.loop c,K,E,H=>∃I:Nat->Env->aj->Prop,(∃n,I n E H)/\∀n E H,I n E H->c.wp P (cE.then (fun E' H'=>∃m,m<n/\∃H'',HWk H' H''/\I m E' H'') K) E H
 |.exit id,K,E,H=>K (.exit id) E H
 |.ret,K,E,H=>K .ret E H
def clsOf(P:Program)(op:Op):Nat:=match oY P op with
 |some (.load _)=>1
 |some (.eff (.append ..))=>4
 |some (.eff e)=>if e.isA then 3 else 2
 |_=>0
def transN(ops:Array Oper)(n:Nat):Nat:=
 (dC n).foldl (fun acc i=>acc|||(upT (fun p=>(acc>>>(n*p)) % 2^n) (dX ops i) 0)<<<(n*i)) 0
def yx(ops:Array Oper)(n:Nat)(i:Nat):Nat:=(transN ops n>>>(n*i)) % 2^n
def lr(cls:List Nat)(c:Nat):Nat:=(cls.zipIdx).foldl (fun m p=>if p.1==c then m|||(1<<<p.2)else m) 0
def incOf(T:Nat->Nat)(m1 m2:Nat)(n i:Nat):List Nat:=
 if m1.testBit i then(dC n).filter fun j=>m2.testBit j&&!(T i).testBit j&&!(T j).testBit i
 else if m2.testBit i then(dC n).filter fun j=>m1.testBit j&&!(T i).testBit j&&!(T j).testBit i
 else []
def mw(P:Program)(N:Nat)(ops:Array Oper)(inc:Nat->List Nat):List Nat->Option (List aJ)
 |[]=>some []
 |i::is=>match ed P N ops i (inc i),mw P N ops inc is with
  |some x,some xs=>some (x::xs)
  |_,_=>none
def mayM(T:Nat->Nat)(m01 m34:Nat)(n i:Nat):Bool:=(dC n).all fun j=>j==i||m01.testBit j||(T i).testBit j||(T j).testBit i||(decide (i<j)&&m34.testBit j)
def uT(T:Nat->Nat)(cls:List Nat)(n:Nat):Nat:=
 (dC n).foldl (fun m i=>if(lr cls 4).testBit i&&mayM T (lr cls 0|||lr cls 1) (lr cls 3|||lr cls 4) n i then m|||(1<<<i)else m) 0
def nU(m:Nat->Bool)(x:aJ):aJ:=match x.op with
 |.eff (.append ..)=>if m x.id then x.toM else x
 |_=>x
theorem tZ(m:Nat->Bool)(x:aJ):nU m x=x\/nU m x=x.toM:=by
 unfold nU
 split
 ·split
  ·exact .inr rfl
  ·exact .inl rfl
 ·exact .inl rfl
def tell(zs:List aJ):aT:=match twinOf zs with
 |some (a,b)=>.region2 a b (zs.map (clr a b)) (vL a b (zs.map (clr a b)))
 |none=>.region true zs
def cM(P:Program)(N:Nat)(ops:Array Oper):Bool->Option aT
 |false=>(mw P N ops (fun _=>[]) (dC ops.size)).map fun xs=>.region false (xs.map aJ.toM)
 |true=>
  let cls:=ops.toList.map fun o=>clsOf P o.op
  let cm:=uT (yx ops ops.size) cls ops.size
  (mw P N ops (incOf (yx ops ops.size) (lr cls 1) (lr cls 2|||cm) ops.size) (dC ops.size)).map fun xs=>tell (xs.map (nU fun i=>cm.testBit i))
def gD(P:Program):Code->aT->Bool
 |.region _ ops true,x=>match x with
  |.region true xs=>mJ ops (yx ops ops.size) ops.size&&qk xs (yx ops ops.size)&&P.follows .mixedOrders
  |.region2 a b xs ys=>wb ops (yx ops ops.size) a b xs ys&&P.follows .mixedOrders
  |_=>false
 |.seq a b,x=>match x with
  |.seq x y=>gD P a x&&gD P b y
  |_=>false
 |.cond _ a b,x=>match x with
  |.cond _ x y=>gD P a x&&gD P b y
  |_=>false
 |.block _ c,x=>match x with
  |.block _ x=>gD P c x
  |_=>false
 |.loop c,x=>match x with
  |.loop x=>gD P c x
  |_=>false
 |_,_=>true
def ee(P:Program)(N:Nat):Code->Option aT
 |.skip=>some .skip
 |.label _=>some .skip
 |.region _ ops d=>cM P N ops d
 |.seq a b=>match ee P N a,ee P N b with
  |some x,some y=>some (.seq x y)
  |_,_=>none
 |.cond c a b=>match eF c,ee P N a,ee P N b with
  |some c,some x,some y=>some (.cond c x y)
  |_,_,_=>none
 |.block id c=>(ee P N c).map (.block id)
 |.loop c=>(ee P N c).map .loop
 |.exit id=>some (.exit id)
 |.ret=>some .ret
 |_=>none
section
variable {P:Program}{N:Nat}
theorem j9{ops:Array Oper}{inc:Nat->List Nat}:∀{is:List Nat} {xs:List aJ},mw P N ops inc is=some xs->
 xs.map (·.id)=is/\∀x∈xs,ed P N ops x.id x.inc=some x:=by
 intro is
 induction is with
 |nil=>intro xs h;simp[mw]at h;subst h;simp
 |cons i is ih=>
  intro xs h
  simp only[mw]at h
  split at h
  ·rename_i x xs' hx hxs
   simp at h;subst h
   obtain⟨h1,h2⟩:=ih hxs
   have hid:x.id=i/\x.inc=inc i:=by
    have hx':=hx
    simp only[ed]at hx'
    split at hx'
    ·split at hx'
     ·split at hx'
      ·simp at hx';subst hx';exact⟨rfl,rfl⟩
      ·simp at hx'
     ·simp at hx'
    ·simp at hx'
   refine⟨by simp[h1,hid.1],fun y hy=>?_⟩
   rcases bi.1 hy with rfl|hy
   ·rw[hid.1,hid.2];exact hx
   ·exact h2 y hy
  ·simp at h
def dI:Exit->Option cE
 |.normal=>some .normal
 |.exit id=>some (.exit id)
 |.ret=>some .ret
 |_=>none
def rt(N:Nat)(K:cE->Env->aj->Prop)(M:bF)(H:aj)(w:World)(a:Act)(e:Exit)(a':Act)(w':World):Prop:=
 ∃xe E' H' M',dI e=some xe/\K xe E' H'/\ce N M' E' a'/\Sim M' H' w'/\bC M H w M' H' w'/\a'.defers=a.defers
theorem oI{dr:Bool}{K K':Env->aj->Prop}(h:∀E H,K E H->K' E H):∀(xs:List aJ) {E:Env} {H:aj} {l:Lds} {f:Fps},bp P dr K xs E H l f->bp P dr K' xs E H l f:=by
 intro xs
 induction xs with
 |nil=>intro E H l f hr;exact h _ _ hr
 |cons x xs ih=>intro E H l f hr;exact fK (fun r H' l' f' q=>ih q) hr
theorem pG{id:Nat}{ops:Array Oper}{d:Bool}{xc:aT}(h:cM P N ops d=some xc)(hok:gD P (.region id ops d) xc=true){K:cE->Env->aj->Prop}{M:bF}{E:Env}{H:aj}{a:Act}{w:World}
(hE:ce N M E a)(s:Sim M H w)(hw:xc.wp P K E H):(Code.region id ops d).wp P (rt N K M H w a) a w:=by
 cases d with
 |false=>
  simp only[cM,a7]at h
  obtain⟨xs,hxs,rfl⟩:=h
  obtain⟨h1,h2⟩:=j9 hxs
  refine wp_region ?_
  rw[<-h1]
  refine sT xs h2 hE s hw fun a' w' hp=>?_
  obtain⟨E',H',M',p1,p2,p3,p4,p5⟩:=hp
  exact⟨.normal,E',H',M',rfl,p1,p2,p3,p4,p5⟩
 |true=>
  simp only[cM,a7]at h
  obtain⟨xs,hxs,rfl⟩:=h
  ·have hto:∀(m:Nat->Bool) (x:aJ),(nU m x).id=x.id/\(nU m x).inc=x.inc:=by
    intro m x
    rcases tZ m x with e|e<;>rw[e]<;>exact⟨rfl,rfl⟩
   obtain⟨h1',h2'⟩:=j9 hxs
   generalize hm:(fun i=>(uT (yx ops ops.size) (ops.toList.map fun o=>clsOf P o.op) ops.size).testBit i)=m at*
   have h1:(xs.map (nU m)).map (·.id)=dC ops.size:=by
    rw[<-h1',List.map_map];exact eJ fun x _=>(hto m x).1
   have h2:∀x∈xs.map (nU m),∃x0,ed P N ops x.id x.inc=some x0/\(x=x0\/x=x0.toM):=by
    intro x hx
    obtain⟨y,hy,rfl⟩:=aZ.1 hx
    rw[(hto m y).1,(hto m y).2]
    exact⟨y,h2' y hy,tZ m y⟩
   generalize xs.map (nU m)=xs at*
   have s':Sim M H {w with drawn:=w.drawn+1}:=Sim.heap (w:=w) (w':={w with drawn:=w.drawn+1}) rfl s
   unfold tell at hok hw
   split at hok
   ·rename_i ia ib htw
    rw[htw]at hw
    simp only[gD,aw]at hok
    refine wp_region_any hok.2 ?_
    refine sX (K:=K .normal) hok.1 ?_ ?_ vK hE s' hw.1 hw.2 fun a' w' hp=>?_
    ·rw[<-h1,List.map_map];exact eJ fun x _=>clr_id _ _ x
    ·intro x hx
     obtain⟨y,hy,rfl⟩:=aZ.1 hx
     exact clr_res (h2 y hy)
    ·obtain⟨E',H',M',p1,p2,p3,p4,p5⟩:=hp
     exact⟨.normal,E',H',M',rfl,p1,p2,p3,(bC.heap (w:=w) (w':={w with drawn:=w.drawn+1}) rfl ⟨rfl,rfl⟩).trans p4,p5⟩
   ·rename_i htw
    rw[htw]at hw
    have hc:=hok
    simp only[gD,aw]at hc
    refine wp_region_any hc.2 ?_
    have hl:left (ft ops.size false) xs=xs:=by
     simp only[left]
     apply List.filter_eq_self.2
     intro x hx
     have hlt:x.id<ops.size:=fk.1 (h1▸bZ hx)
     simp[hlt]
    refine vV h1 h2 hc.1.1 hc.1.2 (K:=K .normal) ops.size _ (by simp) (by rw[hl,<-ao (f:=fun x=>x.id),h1];simp) ?_ hE s' (by rw[hl];exact hw) fun a' w' hp=>?_
    ·intro i hi
     exfalso
     by_cases hlt:i<ops.size<;>simp[hlt]at hi
    ·obtain⟨E',H',M',p1,p2,p3,p4,p5⟩:=hp
     exact⟨.normal,E',H',M',rfl,p1,p2,p3,(bC.heap (w:=w) (w':={w with drawn:=w.drawn+1}) rfl ⟨rfl,rfl⟩).trans p4,p5⟩
theorem qP{p:Nat->Prop}(h:∃n,p n):∃n,p n/\∀m,p m->n<=m:=by
 obtain⟨n,hn⟩:=h
 induction n using Nat.strongRecOn with
 |_ n ih=>
  by_cases hm:∃m,m<n/\p m
  ·obtain⟨m,h1,h2⟩:=hm;exact ih m h1 h2
  ·exact⟨n,hn,fun m hp=>Nat.le_of_not_lt fun hlt=>hm ⟨m,hlt,hp⟩⟩
noncomputable def uA(p:Nat->Prop):Nat:=by
 classical exact if h:∃n,p n then Classical.choose (qP h)else 0
theorem qz{p:Nat->Prop}(h:∃n,p n):p (uA p)/\∀m,p m->uA p<=m:=by
 unfold uA
 rw[dif_pos h]
 exact Classical.choose_spec (qP h)
theorem aT.sound(c:Code):∀{xc:aT},ee P N c=some xc->gD P c xc=true->∀{K:cE->Env->aj->Prop} {M:bF} {E:Env} {H:aj} {a:Act} {w:World},
 ce N M E a->Sim M H w->xc.wp P K E H->c.wp P (rt N K M H w a) a w:=by
 induction c with
 |skip=>
  intro xc h hok K M E H a w hE s hw
  simp[ee]at h;subst h
  exact wp_skip ⟨.normal,E,H,M,rfl,hw,hE,s,bC.refl _ _ _,rfl⟩
 |label l=>
  intro xc h hok K M E H a w hE s hw
  simp[ee]at h;subst h
  exact wp_label ⟨.normal,E,H,M,rfl,hw,hE,s,bC.refl _ _ _,rfl⟩
 |exit id=>
  intro xc h hok K M E H a w hE s hw
  simp[ee]at h;subst h
  exact wp_exit ⟨.exit id,E,H,M,rfl,hw,hE,s,bC.refl _ _ _,rfl⟩
 |ret=>
  intro xc h hok K M E H a w hE s hw
  simp[ee]at h;subst h
  exact wp_ret ⟨.ret,E,H,M,rfl,hw,hE,s,bC.refl _ _ _,rfl⟩
 |region id ops d=>
  intro xc h hok K M E H a w hE s hw
  exact pG h hok hE s hw
 |seq x y ihx ihy=>
  intro xc h hok K M E H a w hE s hw
  simp only[ee]at h
  split at h
  ·rename_i xx xy hx hy
   simp at h;subst h
   simp only[gD,aw]at hok
   refine wp_seq (wp_mono (ihx hx hok.1 hE s hw) ?_)
   rintro e a' w' ⟨xe,E',H',M',he,hk,hE',s',t',hd⟩
   cases e with
   |normal=>
    simp[dI]at he;subst he
    refine wp_mono (ihy hy hok.2 hE' s' hk) ?_
    rintro e a'' w'' ⟨xe,E'',H'',M'',he,hk,hE'',s'',t'',hd''⟩
    exact⟨xe,E'',H'',M'',he,hk,hE'',s'',t'.trans t'',hd''.trans hd⟩
   |exit id=>simp[dI]at he;subst he;exact⟨_,E',H',M',rfl,hk,hE',s',t',hd⟩
   |ret=>simp[dI]at he;subst he;exact⟨_,E',H',M',rfl,hk,hE',s',t',hd⟩
   |goto l=>simp[dI]at he
   |panic ch=>simp[dI]at he
   |outgrown=>simp[dI]at he
  ·simp at h
 |cond c x y ihx ihy=>
  intro xc h hok K M E H a w hE s hw
  simp only[ee]at h
  split at h
  ·rename_i xa xx xy hc hx hy
   simp at h;subst h
   simp only[gD,aw]at hok
   obtain⟨t,ht,h1,h2⟩:=hw
   have hr:=hE.arg _ _ hc
   rw[ht]at hr
   obtain⟨e,-⟩:=hr.lit_inv
   refine wp_cond e ?_
   cases t
   ·exact ihy hy hok.2 hE s (h2 rfl)
   ·exact ihx hx hok.1 hE s (h1 rfl)
  ·simp at h
 |block id c ih=>
  intro xc h hok K M E H a w hE s hw
  simp only[ee,a7]at h
  obtain⟨x,hx,rfl⟩:=h
  refine wp_block (wp_mono (ih hx (by simpa only[gD]using hok) hE s hw) ?_)
  rintro e a' w' ⟨xe,E',H',M',he,hk,hE',s',t',hd⟩
  cases e with
  |normal=>simp[dI]at he;subst he;exact⟨_,E',H',M',rfl,hk,hE',s',t',hd⟩
  |exit i=>
   simp[dI]at he;subst he
   simp only[Exit.inBlock]
   simp only[cE.inBlock]at hk
   split
   ·rename_i e;rw[if_pos e]at hk;exact⟨_,E',H',M',rfl,hk,hE',s',t',hd⟩
   ·rename_i e;rw[if_neg e]at hk;exact⟨_,E',H',M',rfl,hk,hE',s',t',hd⟩
  |ret=>simp[dI]at he;subst he;exact⟨_,E',H',M',rfl,hk,hE',s',t',hd⟩
  |goto l=>simp[dI]at he
  |panic ch=>simp[dI]at he
  |outgrown=>simp[dI]at he
 |loop c ih=>
  intro xc h hok K M E H a w hE s hw
  simp only[ee,a7]at h
  obtain⟨x,hx,rfl⟩:=h
  obtain⟨I,⟨n0,h0⟩,hround⟩:=hw
  let J:Nat->Act->World->Prop:=fun n a' w'=>∃E' H' M',I n E' H'/\ce N M' E' a'/\Sim M' H' w'/\bC M H w M' H' w'/\a'.defers=a.defers
  refine wp_loop (fun a' w'=>∃n,J n a' w') (fun a' w'=>uA fun n=>J n a' w') ⟨n0,E,H,M,h0,hE,s,bC.refl _ _ _,rfl⟩ ?_
  intro a1 w1 hJ
  have hmin:=(qz hJ).1
  generalize hn:(uA fun n=>J n a1 w1)=n at hmin
  obtain⟨E1,H1,M1,i1,e1,s1,t1,d1⟩:=hmin
  refine wp_mono (ih hx (by simpa only[gD]using hok) e1 s1 (hround n E1 H1 i1)) ?_
  rintro e a' w' ⟨xe,E',H',M',he,hk,hE',s',t',hd⟩
  cases e with
  |normal=>
   simp[dI]at he;subst he
   obtain⟨m,hm,H'',hsub,hi⟩:=hk
   have hJm:J m a' w':=⟨E',H'',M',hi,hE',hsub.1 _ _ s',(t1.trans t').wk hsub,hd.trans d1⟩
   refine⟨⟨m,hJm⟩,?_⟩
   exact Nat.lt_of_le_of_lt ((qz ⟨m,hJm⟩).2 m hJm) hm
  |exit id=>simp[dI]at he;subst he;exact⟨_,E',H',M',rfl,hk,hE',s',t1.trans t',hd.trans d1⟩
  |ret=>simp[dI]at he;subst he;exact⟨_,E',H',M',rfl,hk,hE',s',t1.trans t',hd.trans d1⟩
  |goto l=>simp[dI]at he
  |panic ch=>simp[dI]at he
  |outgrown=>simp[dI]at he
 |scope c ih=>intro xc h;simp[ee]at h
 |goto l=>intro xc h;simp[ee]at h
 |refuse y=>intro xc h;simp[ee]at h
 |rangeFunc f ps x y ihx ihy=>intro xc h;simp[ee]at h
inductive jq where
 |slot(t:Nat)
 |cell(t:Nat)(g:Option Nat)
 deriving Inhabited
structure bh where
 ntmps:Nat
 results:List jq
 body:aT
 deriving Inhabited
def j8(P:Program):List ResultVar->Option (List jq)
 |[]=>some []
 |.tmp t::r=>(j8 P r).map (.slot t::·)
 |.cell t ty::r=>match wS P ty with
  |some g=>(j8 P r).map (.cell t g::·)
  |none=>none
def my(P:Program)(fn:Func):Option bh:=match fn.body with
 |some c=>match ee P fn.ntmps c,j8 P fn.results.toList with
  |some x,some rs=>some ⟨fn.ntmps,rs,x⟩
  |_,_=>none
 |none=>none
def sY(P:Program)(fn:Func)(x:bh):Bool:=match fn.body with
 |some c=>gD P c x.body
 |none=>false
def lq(xs:List AC):Env:=fun n=>(xs[n]?).getD (.tup [])
def jq.val(E:Env)(H:aj):jq->Option AC
 |.slot t=>some (E t)
 |.cell t g=>match E t with
  |.ptr r off=>match H.get r with
   |some (.cells cs)=>fH g cs off
   |_=>none
  |_=>none
def iH(E:Env)(H:aj):List jq->Option (List AC)
 |[]=>some []
 |x::r=>match x.val E H,iH E H r with
  |some a,some zas=>some (a::zas)
  |_,_=>none
def lh(E:Env)(H:aj)(rs:List jq):Option AC:=match iH E H rs with
 |some [a]=>some a
 |some zas=>some (.tup zas)
 |none=>none
def bh.post(rs:List jq)(R:AC->aj->Prop):cE->Env->aj->Prop
 |.exit _=>fun _ _=>False
 |_=>fun E H=>∃q,lh E H rs=some q/\∃r H',mV q H r H'/\R r H'
def yy(tmps:Array Value):ResultVar->Sem Value
 |.tmp t=>pure (tmps.getD t undef)
 |.cell b t=>do loadVar t (<-asAddr (tmps.getD b undef))
theorem vS(fn:Func)(tmps:Array Value):results fn tmps=(fn.results.mapM (yy tmps)>>=fun vs=>pure (if h:vs.size=1 then vs[0]else .tuple vs)):=by
 unfold results
 congr 1
theorem jd{fn:Func}{rs:List jq}(h:j8 P fn.results.toList=some rs){N:Nat}{M:bF}{E:Env}{H:aj}{a:Act}{w:World}(hE:ce N M E a)(s:Sim M H w)
{q:AC}(hq:lh E H rs=some q):∃v,(results fn a.tmps).run P w=.ok v w/\Rep M q v:=by
 have key:∀(l:List ResultVar) (rs:List jq) (zas:List AC),j8 P l=some rs->iH E H rs=some zas->
  ∃vs:List Value,(l.mapM (yy a.tmps)).run P w=.ok vs w/\gP M zas vs:=by
  intro l
  induction l with
  |nil=>
   intro rs zas h ha
   simp[j8]at h;subst h
   simp[iH]at ha;subst ha
   exact⟨[],by simp,gP.nil M⟩
  |cons x l ih=>
   intro rs zas h ha
   have one:∀(y:jq) (r:List jq),iH E H (y::r)=some zas->(∀b,y.val E H=some b->∃v,(yy a.tmps x).run P w=.ok v w/\Rep M b v)->j8 P l=some r->
    ∃vs:List Value,((x::l).mapM (yy a.tmps)).run P w=.ok vs w/\gP M zas vs:=by
    intro y r ha hy hr
    simp only[iH]at ha
    split at ha
    ·rename_i b bs hb hbs
     simp at ha;subst ha
     obtain⟨v,h1,h2⟩:=hy b hb
     obtain⟨vs,h3,h4⟩:=ih r bs hr hbs
     refine⟨v::vs,?_,gP.cons h2 h4⟩
     rw[List.mapM_cons,Sem.run_bind,h1]
     simp only[Result.andThen_ok,Sem.run_bind,h3]
     rfl
    ·simp at ha
   cases x with
   |tmp t=>
    simp only[j8,a7]at h
    obtain⟨r,hr,rfl⟩:=h
    refine one _ _ ha (fun b hb=>?_) hr
    simp[jq.val]at hb;subst hb
    exact⟨_,by simp only[yy,Sem.run_pure],hE.rep t⟩
   |cell t ty=>
    simp only[j8]at h
    split at h
    ·rename_i g hg
     simp only[a7]at h
     obtain⟨r,hr,rfl⟩:=h
     refine one _ _ ha (fun b hb=>?_) hr
     simp only[jq.val]at hb
     split at hb
     ·rename_i rr off he
      split at hb
      ·rename_i cs hget
       have hp:=(he▸hE.rep t).ptr_inv
       obtain⟨f,h1,h2⟩:=(s.obj _ _ hget).cells_get
       obtain⟨v,e1,e2⟩:=m7 (P:=P) (w:=w) hg f h1 h2 hb
       simp only[bY]at e1
       exact⟨v,by simp only[yy,hp,asAddr,Sem.run_bind,Sem.run_pure,Result.andThen_ok,e1],e2⟩
      ·simp at hb
     ·simp at hb
    ·simp at h
 simp only[lh]at hq
 cases hv:iH E H rs with
 |none=>simp[hv]at hq
 |some zas=>
  obtain⟨vs,h1,h2⟩:=key _ _ _ h hv
  refine⟨if h:vs.toArray.size=1 then vs.toArray[0]else .tuple vs.toArray,?_,?_⟩
  ·rw[vS,Sem.run_bind,Array.mapM_eq_mapM_toList,Sem.run_map,h1]
   rfl
  ·rw[hv]at hq
   obtain⟨hl,hr⟩:=h2
   match zas,vs,hl with
   |[],[],_=>simp at hq;subst hq;exact .tup rfl (by simp)
   |[x],[v],_=>simp at hq;subst hq;simpa using hr 0 x v rfl rfl
   |x::y::zas,v::u::vs,hl=>
    simp at hq;subst hq
    rw[dif_neg (by simp)]
    exact .tup (by simpa using hl) (fun j a b ha hb=>hr j a b ha (by simpa using hb))
theorem zo{f:FuncId}{fn:Func}{xf:bh}(hf:P.funcs[f]?=some fn)(hx:my P fn=some xf)(hok:sY P fn xf=true){xs:List AC}(hlen:xs.length<=xf.ntmps){H:aj}{R:AC->aj->Prop}
(h:xf.body.wp P (bh.post xf.results R) (lq xs) H):ACalls P f xs H R:=by
 intro M w vs s hr
 simp only[my]at hx
 split at hx
 ·rename_i c hb
  split at hx
  ·rename_i x rs hc hrs
   simp at hx;subst hx
   simp only at hlen
   have hlv:=hr.1
   refine calls_of_wp hf hb ?_
   have hE:ce fn.ntmps M (lq xs) {tmps:=vs.toArray++ft (fn.ntmps - vs.toArray.size) undef,defers:=[]}:=by
    refine⟨by simp;omega,fun n=>?_⟩
    simp only[lq]
    by_cases c:n<xs.length
    ·have c':n<vs.length:=hr.1▸c
     rw[a6 c]
     have:(vs.toArray++ft (fn.ntmps - vs.toArray.size) undef).getD n undef=vs[n]:=by
      rw[gH,kh (by simpa using c')];simp[c']
     rw[this]
     exact hr.2 n _ _ (a6 c) (a6 c')
    ·rw[fx (by omega)]
     have:(vs.toArray++ft (fn.ntmps - vs.toArray.size) undef).getD n undef=undef:=by
      rw[gH,Array.getElem?_append_right (by simp;omega),Array.getElem?_replicate]
      split<;>rfl
     rw[this]
     exact .tup rfl (by simp)
   refine wp_mono (aT.sound c hc (by simpa only[sY,hb]using hok) hE s h) ?_
   rintro e a' w' ⟨xe,E',H',M',he,hk,hE',s',t',hd⟩
   have fin:(∃q,lh E' H' rs=some q/\∃r H'',mV q H' r H''/\R r H'')->a'.defers=[]/\∃v,(results fn a'.tmps).run P w'=.ok v w'/\
    ∃r v' M' H',Ending.returned v=.returned v'/\Rep M' r v'/\Sim M' H' w'/\bC M H w M' H' w'/\R r H':=by
    rintro⟨q,hq,r,H'',hv,hR⟩
    obtain⟨v,h1,h2⟩:=jd (P:=P) hrs hE' s' hq
    obtain⟨M'',s'',t'',h3⟩:=hv M' w' v s' h2
    exact⟨hd,v,h1,r,v,M'',H'',rfl,h3,s'',t'.trans t'',hR⟩
   cases e with
   |normal=>simp[dI]at he;subst he;exact fin hk
   |ret=>simp[dI]at he;subst he;exact fin hk
   |exit id=>simp[dI]at he;subst he;exact hk.elim
   |goto l=>simp[dI]at he
   |panic ch=>simp[dI]at he
   |outgrown=>simp[dI]at he
  ·simp at hx
 ·simp at hx
end
@[reducible] def I(n:Int):AC:=.lit (.int .i64 n)
@[reducible] def S(s:ByteArray):AC:=.lit (.string s)
@[reducible] def B(b:Bool):AC:=.lit (.bool b)
def bl(l:List Nat):ByteArray:=⟨(l.map UInt8.ofNat).toArray⟩
@[reducible] def NIL:AC:=.lit (.slice none 0 0)
inductive Ty where
 |mk(kids:List Ty)
 deriving Inhabited
def Ty.kids:Ty->List Ty|.mk k=>k
structure Pl where
 name:ByteArray
 path:List Int
 deriving Inhabited
inductive Ex where
 |mk(kind num:Int)(place:Pl)(kids:List Ex)
 deriving Inhabited
def Ex.kind:Ex->Int|.mk k _ _ _=>k
def Ex.num:Ex->Int|.mk _ n _ _=>n
def Ex.place:Ex->Pl|.mk _ _ p _=>p
def Ex.kids:Ex->List Ex|.mk _ _ _ k=>k
structure Ag where
 lent:Bool
 place:Pl
 expr:Ex
 deriving Inhabited
inductive St where
 |mk(kind:Int)(name:ByteArray)(place other:Pl)(expr:Ex)(fn:ByteArray)(args:List Ag)(thn els:List St)
 deriving Inhabited
def St.kind:St->Int|.mk k ..=>k
def St.name:St->ByteArray|.mk _ n ..=>n
def St.place:St->Pl|.mk _ _ p ..=>p
def St.other:St->Pl|.mk _ _ _ p ..=>p
def St.expr:St->Ex|.mk _ _ _ _ e ..=>e
def St.fn:St->ByteArray|.mk _ _ _ _ _ f ..=>f
def St.args:St->List Ag|.mk _ _ _ _ _ _ a _ _=>a
def St.thn:St->List St|.mk _ _ _ _ _ _ _ t _=>t
def St.els:St->List St|.mk _ _ _ _ _ _ _ _ e=>e
structure Pa where
 name:ByteArray
 lent:Bool
 type:Ty
 deriving Inhabited
structure Fu where
 name:ByteArray
 params:List Pa
 lent:Bool
 type:Ty
 body:List St
 says:Ex
 gives:Pl
 deriving Inhabited
abbrev Pg:=List Fu
mutual
def Ty.enc:Ty->List AC
 |.mk ks=>[.sl 1 none (Ty.encs ks)]
def Ty.encs:List Ty->List (List AC)
 |[]=>[]
 |t::ts=>t.enc::Ty.encs ts
end
def au(p:List Int):AC:=.sl 1 none (p.map fun i=>[I i])
def Pl.enc(p:Pl):List AC:=[S p.name,au p.path]
mutual
def Ex.enc:Ex->List AC
 |.mk k n p ks=>[I k,I n,S p.name,au p.path,.sl 5 none (Ex.encs ks)]
def Ex.encs:List Ex->List (List AC)
 |[]=>[]
 |e::es=>e.enc::Ex.encs es
end
def Ag.enc(a:Ag):List AC:=[B a.lent,S a.place.name,au a.place.path]++a.expr.enc
mutual
def St.enc:St->List AC
 |.mk k n p o e f zas t l=>[I k,S n,S p.name,au p.path,S o.name,au o.path]++e.enc++[S f,.sl 8 none (zas.map Ag.enc),.sl 15 none (St.encs t),.sl 15 none (St.encs l)]
def St.encs:List St->List (List AC)
 |[]=>[]
 |s::ss=>s.enc::St.encs ss
end
def Pa.enc(p:Pa):List AC:=[S p.name,B p.lent]++p.type.enc
def Fu.enc(f:Fu):List AC:=[S f.name,.sl 3 none (f.params.map Pa.enc),B f.lent]++f.type.enc++[.sl 15 none (St.encs f.body)]++f.says.enc++f.gives.enc
def Pg.enc(p:Pg):List AC:=[.sl 12 none (p.map Fu.enc)]
theorem Ty.encs_map(ts:List Ty):Ty.encs ts=ts.map Ty.enc:=by induction ts<;>simp_all [Ty.encs]
theorem Ex.encs_map(ts:List Ex):Ex.encs ts=ts.map Ex.enc:=by induction ts<;>simp_all [Ex.encs]
theorem St.encs_map(ts:List St):St.encs ts=ts.map St.enc:=by induction ts<;>simp_all [St.encs]
end Go.Xl
