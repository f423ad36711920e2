/- FnLendOver: a part of the proof. -/
import Derived.Test.YtnmpniphpccgjaaGreatDoorProg
import Derived.KernelRfl
import Derived.Test.YtnmpniphpccgjaaGreatDoorCards
import Derived.Test.YtnmpniphpccgjaaGreatDoorTie
import Derived.WalkKit
import Derived.ProofKit
import Derived.OpenShut
import Derived.OpenVars
import Derived.LaidMore
import Derived.Stop.Joined
import Derived.SevenTiedAt
import Derived.Test.YtnmpniphpccgjaaGreatDoorX5
set_option linter.unusedVariables false
set_option linter.unusedSimpArgs false
namespace Go.Xl
open _root_.Bool renaming and_true -> fY
open _root_.List renaming all_eq_true -> aV, getElem?_cons_zero -> a7, getElem?_eq_getElem -> aw, getElem?_eq_some_iff -> aT, getElem?_map -> cG, getElem?_take_of_lt -> dF, getElem_mem -> ax, mem_map -> aY
open _root_.Nat renaming reduceEqDiff -> rE, reduceAdd -> rA, reduceLeDiff -> rL, le_refl -> aD
open _root_.Option renaming map_eq_some_iff -> a9, map_some -> bK
open Go.Proofs
open Go.Proofs
def ids:Ids:=⟨⟩
theorem lib:Lib Tryz.prog ids:=⟨rfl⟩
theorem tys:Tys ids:=by constructor<;>decide
theorem BL:ny Tryz.prog 59:=⟨Tryz.f59,_,_,_,_,_,_,_,_,_,_,_,_,Tryz.func59,rfl,rfl,rfl,by kernel_rfl,by kernel_rfl,by kernel_rfl,by kernel_rfl,by kernel_rfl⟩
theorem atBack:mu Tryz.prog 75:=⟨Tryz.f75,_,_,_,_,_,_,_,_,_,_,Tryz.func75,rfl,rfl,rfl,by kernel_rfl,by kernel_rfl,by kernel_rfl,by kernel_rfl⟩
theorem atEnds:xQ Tryz.prog ids:=⟨Tryz.f60,_,_,_,_,_,_,_,_,_,_,_,_,_,_,_,Tryz.func60,rfl,rfl,rfl,by kernel_rfl,by kernel_rfl,by kernel_rfl,by kernel_rfl,by kernel_rfl,by kernel_rfl,by kernel_rfl,by kernel_rfl⟩
theorem collect(er:bZ):eF Tryz.prog ids er:=xD lib BL atEnds atBack (by kernel_rfl) (by kernel_rfl)
end Go.Xl
namespace Go.Proofs.YtnmpniphpccgjaaGreatDoor
open _root_.Bool renaming and_true -> fY
open _root_.List renaming all_eq_true -> aV, getElem?_cons_zero -> a7, getElem?_eq_getElem -> aw, getElem?_eq_some_iff -> aT, getElem?_map -> cG, getElem?_take_of_lt -> dF, getElem_mem -> ax, mem_map -> aY
open _root_.Nat renaming reduceEqDiff -> rE, reduceAdd -> rA, reduceLeDiff -> rL, le_refl -> aD
open _root_.Option renaming map_eq_some_iff -> a9, map_some -> bK
open Go.ChangeShapes Go.WideShapes Go.ChangeAt Go.WideElems Go.RowKit Go.Xl
theorem Bj:Fits Tryz.prog 7 y7.1:=lib.a Tryz.func7 y7
def BU(w:World)(a:Option Addr)(len cap:Nat)(zs:List Int):Prop:=
 (a=none/\len=0/\cap=0/\zs=[])\/
 ∃x,a=some x/\len<=cap/\cap<=maxLen/\zs.length=cap/\(∀i,i<zs.length->w.cell? (x.add i)=some (.int .u8 (zs.getD i 0)))/\∀n∈zs,(Lit.int .u8 n).wf=true
structure nu(w w':World):Prop where
 os:w'.os=w.os
 output:w'.output=w.output
 size:w.heap.size<=w'.heap.size
 block:∀k,k<w.heap.size->w'.heap[k]?=w.heap[k]?
theorem nu.refl(w:World):nu w w:=⟨rfl,rfl,aD _,fun _ _=>rfl⟩
theorem nu.frame{W w':World}(h:nu W w')(may:MemPlace->Prop):W.keptBut w' may:=by
 refine⟨h.os,h.output,fun i hi=>?_⟩
 rw[h.block i hi]
 split<;>simp_all
theorem nu.same{W w':World}(h:nu W w'){p:MemPlace}(hp:p.block<W.heap.size):W.sameAt w' p:=by
 cases p with
 |cell b o=>exact World.cell?_of_block (w:=W) (h.block b hp)
 |map b=>exact h.block b hp
theorem nu.trod{H:Type}{enc:TypeId×Value->H}{P:Program}{t:TypeId}(hl:laidOutB P=true)(hr:P.readableRec t=true)(hrow:t<P.types.size){W W':World}{v:Value}{d:DataW H}{ps:List MemPlace}
(h:DataW.Trod enc P W 0 (fun _=>true) true t v d ps)(hb:nu W W')(hlt:∀x∈ps,x.block<W.heap.size):DataW.Trod enc P W' 0 (fun b=>decide (b<W.heap.size)) true t v d ps:=
 WideElems.Trod_stays hl hr hrow h (fun x hx=>hb.same (hlt x hx)) (fun x hx=>by simpa using hlt x hx)
def qh(w:World):bY:=fun b o=>w.cell? ⟨b,o,none⟩
theorem nu.below{W w':World}(h:nu W w'):Below W.heap.size W {w' with tape:=W.tape}:=⟨h.os,rfl,h.output,h.size,h.block⟩
theorem nu.vars{H:Type}{enc:TypeId×Value->H}{P:Program}(hl:laidOutB P=true){W w':World}(h:nu W w'){ns:List String}{gs:List (DataW H)}{ps:List MemPlace}(hv:varsRowed P ns=true)
(ht:DataW.TrodVars enc P W (fun _=>true) ns gs ps):DataW.TrodVars enc P w' (fun b=>decide (b<W.heap.size)) ns gs ps:=
 DataW.TrodVars.of_heap (w:={w' with tape:=W.tape}) (w':=w') rfl (h.below.trodVars hl hv ht)
def pB(W:World)(g:Nat):Prop:=∃v u el fr,W.heap[g]?=some (.cells #[.iface u v] el fr)/\∃X:AC,∀M,Rep M X v
theorem ptr_rep{v:Value}{a:Addr}(h:v.cells.toList=[.pointer (some a)]):∃X:AC,∀M,Rep M X v:=by
 cases v with
 |agg cs=>
  obtain rfl:cs=#[.pointer (some a)]:=by cases cs;simp_all [Value.cells]
  refine⟨.agg [.lit (.pointer (some a))],fun M=>.agg (by simp[AC.one]) rfl fun j x v hx hv=>?_⟩
  cases j with
  |zero=>simp at hx hv;subst hx hv;exact .lit trivial
  |succ j=>simp at hx
 |pointer b=>exact⟨.lit (.pointer b),fun M=>.lit trivial⟩
 |_=>simp[Value.cells]at h
theorem err_of{W:World}{n:String}{g:Nat}{t:TypeId}{it}(hg:Tryz.prog.globalNamed n=some g)(hu:Tryz.prog.underlying t=some (.interface it)){cs:Array Value}{fuel:Nat}{nm:String}{d:DataW Unit}{p:List MemPlace}
(hv:W.var? Tryz.prog n=some cs)(htr:DataW.trod (fun _=>()) Tryz.prog W 0 (fun _=>true) false fuel t cs.toList=some (.iface nm (.ptr d),p)):pB W g:=by
 have hW:∃el fr,W.heap[g]?=some (.cells cs el fr):=by
  simp only[World.var?,hg,Option.bind_some]at hv
  split at hv
  ·rename_i c el fr h;simp at hv;subst hv;exact⟨el,fr,h⟩
  ·simp at hv
 obtain⟨el,fr,hW⟩:=hW
 cases fuel with
 |zero=>simp[DataW.trod]at htr
 |succ k=>
  unfold DataW.trod at htr
  rw[hu]at htr
  split at htr<;>try(simp_all;done)
  rename_i u v _ hcs
  have hcs':cs=#[.iface u v]:=by cases cs;simp_all
  subst hcs'
  split at htr
  ·simp at htr
  ·simp only[a9,Prod.mk.injEq,DataW.iface.injEq]at htr
   obtain⟨⟨x1,x2⟩,hin,⟨-,rfl⟩,-⟩:=htr
   refine⟨v,u,el,fr,hW,?_⟩
   have hptr:∃a,v.cells.toList=[.pointer (some a)]:=by
    cases k with
    |zero=>simp[DataW.trod]at hin
    |succ k=>
     unfold DataW.trod at hin
     split at hin<;>try(simp_all;done)
     ·simp only at hin
      split at hin
      ·simp[Option.bind_eq_some_iff]at hin
      ·simp at hin
     ·split at hin<;>simp at hin
     ·split at hin
      ·split at hin
       ·simp only[Option.bind_eq_some_iff]at hin
        obtain⟨_,-,hin⟩:=hin
        split at hin<;>simp at hin
       ·simp at hin
      ·simp at hin
   obtain⟨a,ha⟩:=hptr
   exact ptr_rep ha
  ·simp at htr
theorem rep_row{w:World}{a:Option Addr}{len cap:Nat}{zs:List Int}(h:BU w a len cap zs)(hl:len<=2^20):∃bs:List UInt8,Rep (qh w) (.sl 1 none (fI bs)) (.slice a len cap):=by
 by_cases h0:len=0
 ·subst h0;exact⟨[],.sl0⟩
 rcases h with⟨-,h,-⟩|⟨x,rfl,hlc,hcm,hz,hcell,hwf⟩
 ·exact absurd h h0
 obtain⟨b,off,sp⟩:=x
 have hsp:sp=none:=by
  have:=hcell 0 (by omega)
  cases sp with
  |none=>rfl
  |some s=>simp[World.cell?,Addr.add]at this;split at this<;>simp at this
 subst hsp
 have hby:∀i (h:i<zs.length),0<=zs[i]/\zs[i]<=255:=fun i h=>by
  have:=hwf _ (ax h)
  simp[Lit.wf,IntKind.min,IntKind.max,IntKind.bits,IntKind.signed]at this
  omega
 have hlen:(fI ((zs.take len).map fun n=>UInt8.ofNat n.toNat)).length=len:=by simp[fI];omega
 have get:∀(i j:Nat) (e:List AC) (x:AC),(fI ((zs.take len).map fun n=>UInt8.ofNat n.toNat))[i]?=some e->e[j]?=some x->i<len/\j=0/\x=.lit (.int .u8 (zs.getD i 0)):=by
  intro i j e x he hx
  have hi:i<len:=by rw[<-hlen];exact(aT.1 he).1
  have hi2:i<zs.length:=by omega
  simp only[fI,cG,dF hi,aw hi2,bK,Option.some.injEq]at he
  subst he
  have hj:j=0:=by
   cases j with
   |zero=>rfl
   |succ j=>simp at hx
  subst hj
  simp only[a7,Option.some.injEq]at hx
  subst hx
  refine⟨hi,rfl,?_⟩
  have hb:=hby i hi2
  have:((UInt8.ofNat zs[i].toNat).toNat:Int)=zs[i]:=by rw[UInt8.toNat_ofNat'];omega
  rw[this,List.getD_eq_getElem?_getD,aw hi2];rfl
 refine⟨(zs.take len).map fun n=>UInt8.ofNat n.toNat,?_⟩
 have key:=Rep.sl (M:=qh w) (sz:=1) (tok:=none) (es:=fI ((zs.take len).map fun n=>UInt8.ofNat n.toNat)) (b:=b) (off:=off) (cap:=cap) (fun i _=>.int .u8 (zs.getD i 0)) (by rw[hlen];simp[LIM];omega) (by rw[hlen];exact hlc)
  (fun e he=>by simp only[fI,aY]at he;obtain⟨_,_,rfl⟩:=he;exact⟨rfl,by simp[AC.one]⟩)
  (fun i j e x he hx=>by
   obtain⟨hi,rfl,-⟩:=get i j e x he hx
   have:=hcell i (by omega)
   rw[Addr.add_lit]at this
   simpa[qh]using this)
  (fun i j e x he hx=>by
   obtain⟨hi,rfl,rfl⟩:=get i j e x he hx
   have hb:=hby i (by omega)
   have hi2:i<zs.length:=by omega
   have hg:zs.getD i 0=zs[i]:=by rw[List.getD_eq_getElem?_getD,aw hi2];rfl
   exact .lit (by simp only[okv,IntKind.min,IntKind.max,IntKind.bits,IntKind.signed,hg];simp;omega))
  (fun t h=>by simp at h)
 rw[hlen]at key
 exact key
def te:List (String×DataW Unit):=[("loop.example/handfast/impl.errCheckName",Rows.laid_loop_example_handfast_impl_errCheckName),("loop.example/handfast/impl.errCheckType",Rows.laid_loop_example_handfast_impl_errCheckType),("loop.example/handfast/impl.errCheckLoan",Rows.laid_loop_example_handfast_impl_errCheckLoan),("loop.example/handfast/impl.errCheckOut",Rows.laid_loop_example_handfast_impl_errCheckOut)]
theorem tT{W:World}{n:String}(g:Nat)(t:TypeId){it}(hg:Tryz.prog.globalNamed n=some g)(ht:(Tryz.prog.globals[g]?).map (·.type)=some t)(hu:Tryz.prog.underlying t=some (.interface it)){d:DataW Unit}{nm:String}{d':DataW Unit}(hd:d=.iface nm (.ptr d'))
{r:List (String×DataW Unit)}{ps:List MemPlace}(h:DataW.LaidVars Tryz.prog W ((n,d)::r) ps):pB W g/\∃q,DataW.LaidVars Tryz.prog W r q:=by
 obtain⟨g',t',cs,f,p,q,a1,a2,a3,a4,a5,-⟩:=h
 obtain rfl:g'=g:=Option.some.inj (a1.symm.trans hg)
 obtain rfl:t'=t:=Option.some.inj (a2.symm.trans ht)
 subst hd
 exact⟨err_of a1 hu a3 a4,q,a5⟩
theorem errs_of{W:World}(h:laidMetH Tryz.prog te W):pB W 0/\pB W 1/\pB W 2/\pB W 4:=by
 have h0:(te.filter fun x=>x.2.handleName?.isSome)=[]:=by kernel_rfl
 unfold laidMetH at h
 rw[h0]at h
 obtain⟨ps,hl,-,-⟩:=h
 obtain⟨e0,q0,hl⟩:=tT 0 107 (by kernel_rfl) (by kernel_rfl) Tryz.underlying107 rfl hl
 obtain⟨e1,q1,hl⟩:=tT 1 107 (by kernel_rfl) (by kernel_rfl) Tryz.underlying107 rfl hl
 obtain⟨e2,q2,hl⟩:=tT 2 107 (by kernel_rfl) (by kernel_rfl) Tryz.underlying107 rfl hl
 obtain⟨e4,q4,hl⟩:=tT 4 107 (by kernel_rfl) (by kernel_rfl) Tryz.underlying107 rfl hl
 exact⟨e0,e1,e2,e4⟩
theorem qF{W:World}{g:Nat}{v:Value}{u:TypeId}{el:TypeId}{fr:Nat×Nat}(h:W.heap[g]?=some (.cells #[.iface u v] el fr)){X:AC}(hX:∀M,Rep M X v):iD (qh W) W g (.const (.cells #[.iface u v] el fr) [.iface u X]):=by
 refine⟨h,fun _=>.iface u v,by simp[AC.one],fun j hj=>?_,fun j x hx=>?_⟩
 ·have:j=0:=by simpa using hj
  subst this
  simp[qh,fH,h]
 ·cases j with
  |zero=>simp at hx;subst hx;exact .iface (hX _)
  |succ j=>simp at hx
theorem Av{W:World}(h:pB W 0/\pB W 1/\pB W 2/\pB W 4):∃(er:bZ) (H:aj),Sim (qh W) H W/\eW ids er H/\(∀b,H.get b≠none->b=0\/b=1\/b=2\/b=4)/\
 W.heap[0]?=some (er.o 2)/\W.heap[1]?=some (er.o 3)/\W.heap[2]?=some (er.o 4)/\W.heap[4]?=some (er.o 5):=by
 obtain⟨⟨v0,u0,l0,r0,h0,X0,q0⟩,⟨v1,u1,l1,r1,h1,X1,q1⟩,⟨v2,u2,l2,r2,h2,X2,q2⟩,⟨v4,u4,l4,r4,h4,X4,q4⟩⟩:=h
 refine⟨⟨fun c=>if c=2 then .cells #[.iface u0 v0] l0 r0 else if c=3 then .cells #[.iface u1 v1] l1 r1 else if c=4 then .cells #[.iface u2 v2] l2 r2 else .cells #[.iface u4 v4] l4 r4,
  fun c=>if c=2 then u0 else if c=3 then u1 else if c=4 then u2 else u4,fun c=>if c=2 then X0 else if c=3 then X1 else if c=4 then X2 else X4⟩,
  (((aj.empty.set 0 (.const (.cells #[.iface u0 v0] l0 r0) [.iface u0 X0])).set 1 (.const (.cells #[.iface u1 v1] l1 r1) [.iface u1 X1])).set 2 (.const (.cells #[.iface u2 v2] l2 r2) [.iface u2 X2])).set 4 (.const (.cells #[.iface u4 v4] l4 r4) [.iface u4 X4]),
  ⟨fun _ _ _ h=>h,fun b o hb=>?_⟩,fun c hc=>?_,fun b hb=>?_,h0,h1,h2,h4⟩
 ·simp only[aN,nv]at hb
  split at hb
  ·rename_i e;subst e;simp at hb;subst hb;exact qF h4 q4
  split at hb
  ·rename_i e;subst e;simp at hb;subst hb;exact qF h2 q2
  split at hb
  ·rename_i e;subst e;simp at hb;subst hb;exact qF h1 q1
  split at hb
  ·rename_i e;subst e;simp at hb;subst hb;exact qF h0 q0
  ·simp at hb
 ·rcases hc with rfl|rfl|rfl|rfl<;>rfl
 ·simp only[aN,nv]at hb
  split at hb
  ·rename_i e;exact .inr (.inr (.inr e))
  split at hb
  ·rename_i e;exact .inr (.inr (.inl e))
  split at hb
  ·rename_i e;exact .inr (.inl e)
  split at hb
  ·rename_i e;exact .inl e
  ·simp at hb
theorem late_of{W W':World}{er:bZ}{H H':aj}{M':bY}(hb:∀b,H.get b≠none->b=0\/b=1\/b=2\/b=4)(h0:W.heap[0]?=some (er.o 2))(h1:W.heap[1]?=some (er.o 3))(h2:W.heap[2]?=some (er.o 4))(h4:W.heap[4]?=some (er.o 5))
(s:Sim M' H' W')(t:bO (qh W) H W M' H' W')(he:eW ids er H'):nu W W':=by
 have e0:=(s.obj _ _ (he 2 (.inl rfl))).1
 have e1:=(s.obj _ _ (he 3 (.inr (.inl rfl)))).1
 have e2:=(s.obj _ _ (he 4 (.inr (.inr (.inl rfl))))).1
 have e4:=(s.obj _ _ (he 5 (.inr (.inr (.inr rfl))))).1
 refine⟨t.io.1,t.io.2,t.size,fun k hk=>?_⟩
 cases hg:H.get k with
 |none=>exact(t.same k hk hg).1
 |some o=>
  rcases hb k (by rw[hg];simp)with rfl|rfl|rfl|rfl
  ·rw[h0];exact e0
  ·rw[h1];exact e1
  ·rw[h2];exact e2
  ·rw[h4];exact e4
theorem walk(W:World)(hE:pB W 0/\pB W 1/\pB W 2/\pB W 4)(a0:Option Addr)(len0 cap0:Nat)(z0:List Int)(h0:BU W a0 len0 cap0 z0):
 Calls Tryz.prog 7 #[.slice a0 len0 cap0] W fun e W'=>e=.returned (.bool true)/\nu W W':=by
 by_cases b0:(len0:Int)>1048576
 ·go_enter Tryz.func7,Tryz.ntmps7
  go_wp2
  go_ret
  exact⟨rfl,nu.refl _⟩
 obtain⟨l0,r0⟩:=rep_row h0 (by omega)
 obtain⟨er,H,s,he,hb,k0,k1,k2,k4⟩:=Av hE
 refine(ue lib tys (collect er) Bj l0 H he (qh W) W _ s (ic.cons r0 (ic.nil _))).mono ?_
 rintro e W' ⟨r,v,M',H',rfl,hr,s',t,rfl,he'⟩
 obtain⟨rfl,-⟩:=hr.lit_inv
 exact⟨rfl,late_of hb k0 k1 k2 k4 s' t he'⟩
theorem own:ownKnob Tryz.prog.godebug=none:=by kernel_rfl
theorem yq:laidOutB Tryz.prog=true:=by kernel_rfl
theorem Bq(os:Os)(args:Array Value):laidMetH Tryz.prog te ((World.doorLaid Tryz.prog 400 os).forCall (fun _ _=>0) ⟨#[],args,[]⟩).memory:=
 laidMetH_of_parts3 (fuel:=8) (laidMet_of_run' 8 (by kernel_rfl) (by kernel_rfl)) (by kernel_rfl) (by kernel_rfl)
set_option maxRecDepth 100000 in
theorem lifted (os:Os) (started:os.Started) (H:Type) (enc:TypeId×Value->H):
 ReturnsInHanded {} Tryz.checked os 7 .any (fun w args=>(Rows.fnLendOverSpec.pre enc Tryz.prog Tryz.f7 [] false w args/\laidMetH Tryz.prog te w)/\sizedMet enc Tryz.prog Tryz.f7 (OpenSpec.ofChange Rows.fnLendOverSpec) false w args)
  (Rows.fnLendOverSpec.post enc Tryz.prog Tryz.f7 false true false false):=by
 refine returnsInHanded_of_change_and (C:=Tryz.checked) (X:=fun w _=>laidMetH Tryz.prog te w) (fun _ _ _ hh h=>h.of_heap hh) own started (by kernel_rfl) Tryz.func7
  (ChangeSpec.witness_shaped (enc:=enc) (C:=Tryz.checked) (os:=os) (X:=fun w _=>laidMetH Tryz.prog te w) false (World.doorLaid Tryz.prog 400 os) #[.slice none 0 0] 8 rfl (World.shaped_of_RefB (by kernel_rfl) (by kernel_rfl)) (by kernel_rfl) (by kernel_rfl) (by kernel_rfl) (Bq os _)) ?_
 intro W base args ds gs before hval0 hW _ _ hL _
 have hval:∀(j:Nat) t v,Tryz.f7.params[j]?=some t->args[j]?=some v->Value.okWide Tryz.prog W .any base t v:=hval0
 have hW':=hW
 obtain⟨p,q,hA0,hV,rfl,hfz,hnd⟩:=hW
 have hA:DataW.TrodAll enc Tryz.prog W 0 (fun _=>true) true Tryz.f7.params.toList args.toList ds p:=hA0
 rw[Tryz.params7]at hA hval
 obtain⟨v0,vs0,d0,ds0,p0,q0,hargs,rfl,rfl,h0,r0⟩:=trodAll_cons hA
 obtain⟨rfl,rfl,rfl⟩:=trodAll_nil r0
 obtain rfl:args=#[v0]:=by cases args;simp_all
 have hV0:=hV
 obtain⟨g1,g2,g3,g4,rfl⟩:∃g1 g2 g3 g4,gs=[g1,g2,g3,g4]:=by
  match gs,hV with
  |[a,b,c,d],_=>exact⟨a,b,c,d,rfl⟩
  |[],h=>exact h.elim
  |[_],⟨_,_,_,_,_,_,_,_,_,_,h,_⟩=>exact h.elim
  |[_,_],⟨_,_,_,_,_,_,_,_,_,_,⟨_,_,_,_,_,_,_,_,_,_,h,_⟩,_⟩=>exact h.elim
  |[_,_,_],⟨_,_,_,_,_,_,_,_,_,_,⟨_,_,_,_,_,_,_,_,_,_,⟨_,_,_,_,_,_,_,_,_,_,h,_⟩,_⟩,_⟩=>exact h.elim
  |_::_::_::_::_::_,⟨_,_,_,_,_,_,_,_,_,_,⟨_,_,_,_,_,_,_,_,_,_,⟨_,_,_,_,_,_,_,_,_,_,⟨_,_,_,_,_,_,_,_,_,_,h,_⟩,_⟩,_⟩,_⟩=>exact h.elim
 obtain⟨a0,len0,cap0,rfl⟩:=okWide_slice Tryz.underlying22 (hval 0 22 v0 rfl rfl)
 have k0:=h0
 have lt0:∀x∈p0,x.block<W.heap.size:=by obtain⟨m,hm⟩:=k0;exact DataW.trod_lt m _ _ _ hm
 obtain⟨z0,w0⟩:∃zs,BU W a0 len0 cap0 zs:=by
  obtain⟨fuel,hf⟩:=h0
  rcases open_ints Tryz.underlying22 Tryz.underlying5 (by kernel_rfl) hf with⟨hcs,_⟩|⟨x,l,c,zs,hcs,_,hl,hm,hz,_,hcell,hwz⟩
  ·simp[Value.cells]at hcs
   obtain⟨rfl,rfl,rfl⟩:=hcs
   exact⟨[],.inl ⟨rfl,rfl,rfl,rfl⟩⟩
  ·simp[Value.cells]at hcs
   obtain⟨rfl,rfl,rfl⟩:=hcs
   exact⟨zs,.inr ⟨_,rfl,hl,hm,by simpa using hz,hcell,hwz⟩⟩
 clear hA0 hval0
 refine(walk W (errs_of hL) a0 len0 cap0 z0 w0).mono fun e W' ⟨he,bel⟩=>?_
 subst he
 exact⟨_,rfl,_,_,_,[],_,_,hW',trodAll_mk1 (shut_bool Tryz.underlying4 _),(trodAll_cons_mk (nu.trod yq (by kernel_rfl) (of_decide_eq_true (by kernel_rfl)) k0 bel lt0) trodAll_mk0),nu.vars yq bel (by kernel_rfl) hV0,bel.frame _,fun h=>by cases h⟩
theorem f1:(Rows.fnLendOverRow.inPlace==Tryz.prog.inPlace 7)=true:=by kernel_rfl
theorem f2:(Rows.fnLendOverRow.unfollowed==Tryz.prog.unfollowed 7)=true:=by kernel_rfl
theorem f3:(Rows.fnLendOverRow.recurses==Tryz.prog.recurses 7)=true:=by kernel_rfl
theorem f4:(Rows.fnLendOverRow.named==Tryz.prog.varsNamed 7)=true:=by kernel_rfl
theorem closed:joinedFacts Tryz.prog 7 Tryz.f7 Rows.fnLendOverSpec Rows.fnLendOverRow=true:=by
 simp only[joinedFacts,f1,f2,f3,f4,fY]
 kernel_rfl
theorem yV:Rows.FnLendOverSaid:=
 OpenClaim.holds_of_wide 7 Tryz.f7 rfl rfl rfl rfl rfl rfl rfl ⟨rfl,rfl,rfl,rfl,rfl⟩ rfl rfl rfl rfl rfl (by kernel_rfl) Tryz.func7 closed
  (of_decide_eq_true (by kernel_rfl)) (by unfold Func.isWrapper;first|(rw[if_pos (by decide+kernel)];kernel_rfl)|(rw[if_neg (by decide+kernel)];exact⟨rfl,rfl⟩))
  (fun os started H enc _=>lifted os started H enc)
theorem vo:Rows.FnLendOverCardSaid:=
 Claim7.holds_tied_plain_at .later [] [.sentinel,.sentinel,.sentinel,.sentinel] true (true, "65d79d9ca41d052337de861cb5df7f65b8e4928653d82c7aeb6d0251da678422") true
  yV (fun _ h=>by cases h) (by kernel_rfl) (fun _ h=>by cases h) fnLendOver_row_tie rfl ⟨rfl,rfl⟩ (by kernel_rfl) rfl
  (fun f fn hf hfn=>by
   obtain rfl:f=7:=Option.some.inj ((show Tryz.prog.funcNamed "loop.example/handfast/laws.FnLendOver" =some 7 by kernel_rfl).symm.trans hf)|>.symm
   obtain rfl:fn=Tryz.f7:=(Option.some.inj (Tryz.func7.symm.trans hfn)).symm
   exact⟨by kernel_rfl,fun j t ht=>by
    rw[Tryz.params7]at ht
    have hm:t∈[22]:=by simpa using Array.mem_of_getElem? ht
    have hall:([22].all fun u=>!Tryz.prog.wantsStandIn u)=true:=by kernel_rfl
    exact(show Tryz.prog.wantsStandIn t=false by simpa using aV.1 hall t hm)⟩)
  (by kernel_rfl)
#print axioms vo
end Go.Proofs.YtnmpniphpccgjaaGreatDoor
