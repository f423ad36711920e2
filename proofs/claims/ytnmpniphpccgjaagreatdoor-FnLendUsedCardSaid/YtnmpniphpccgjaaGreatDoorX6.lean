/- FnLendUsed: a part of the proof. -/
import Derived.Test.YtnmpniphpccgjaaGreatDoorProg
import Derived.KernelRfl
import Derived.Test.YtnmpniphpccgjaaGreatDoorCards
import Derived.Test.YtnmpniphpccgjaaGreatDoorTie
import Derived.WalkKit
import Derived.ProofKit
import Derived.OpenShut
import Derived.OpenVars
import Derived.LaidMore
import Derived.Stop.Joined
import Derived.SevenTiedAt
import Derived.Test.YtnmpniphpccgjaaGreatDoorX5
set_option linter.unusedVariables false
set_option linter.unusedSimpArgs false
namespace Go.Xl
open _root_.Array renaming getElem?_eq_getElem -> dI
open _root_.Bool renaming and_true -> gG
open _root_.List renaming all_eq_true -> aV, getElem?_cons_zero -> a7, getElem?_eq_getElem -> ay, getElem?_eq_some_iff -> aQ, getElem?_map -> cO, getElem?_take_of_lt -> dQ, getElem_mem -> az, mem_map -> aW
open _root_.Nat renaming reduceEqDiff -> rE, reduceAdd -> rA, reduceLeDiff -> rL, le_refl -> aC
open _root_.Option renaming map_some -> bJ
open Go.Proofs
open Go.Proofs
def ids:Ids:=⟨⟩
theorem lib:Lib Tryz.prog ids:=⟨rfl⟩
theorem tys:Tys ids:=by constructor<;>decide
theorem Dz:oe Tryz.prog 59:=⟨Tryz.f59,_,_,_,_,_,_,_,_,_,_,_,_,Tryz.func59,rfl,rfl,rfl,by kernel_rfl,by kernel_rfl,by kernel_rfl,by kernel_rfl,by kernel_rfl⟩
theorem atBack:mO Tryz.prog 75:=⟨Tryz.f75,_,_,_,_,_,_,_,_,_,_,Tryz.func75,rfl,rfl,rfl,by kernel_rfl,by kernel_rfl,by kernel_rfl,by kernel_rfl⟩
theorem atEnds:zl Tryz.prog ids:=⟨Tryz.f60,_,_,_,_,_,_,_,_,_,_,_,_,_,_,_,Tryz.func60,rfl,rfl,rfl,by kernel_rfl,by kernel_rfl,by kernel_rfl,by kernel_rfl,by kernel_rfl,by kernel_rfl,by kernel_rfl,by kernel_rfl⟩
theorem collect(er:bV):eB Tryz.prog ids er:=yW lib Dz atEnds atBack (by kernel_rfl) (by kernel_rfl)
end Go.Xl
namespace Go.Proofs.YtnmpniphpccgjaaGreatDoor
open _root_.Array renaming getElem?_eq_getElem -> dI
open _root_.Bool renaming and_true -> gG
open _root_.List renaming all_eq_true -> aV, getElem?_cons_zero -> a7, getElem?_eq_getElem -> ay, getElem?_eq_some_iff -> aQ, getElem?_map -> cO, getElem?_take_of_lt -> dQ, getElem_mem -> az, mem_map -> aW
open _root_.Nat renaming reduceEqDiff -> rE, reduceAdd -> rA, reduceLeDiff -> rL, le_refl -> aC
open _root_.Option renaming map_some -> bJ
open Go.ChangeShapes Go.WideShapes Go.ChangeAt Go.WideElems Go.RowKit Go.Xl
theorem CG:Fits Tryz.prog 10 y10.1:=lib.a Tryz.func10 y10
def DB(w:World)(a:Option Addr)(len cap:Nat)(zs:List Int):Prop:=
 (a=none/\len=0/\cap=0/\zs=[])\/
 ∃x,a=some x/\len<=cap/\cap<=maxLen/\zs.length=cap/\(∀i,i<zs.length->w.cell? (x.add i)=some (.int .u8 (zs.getD i 0)))/\∀n∈zs,(Lit.int .u8 n).wf=true
structure od(w w':World):Prop where
 os:w'.os=w.os
 output:w'.output=w.output
 size:w.heap.size<=w'.heap.size
 block:∀k,k<w.heap.size->w'.heap[k]?=w.heap[k]?
theorem od.refl(w:World):od w w:=⟨rfl,rfl,aC _,fun _ _=>rfl⟩
theorem od.frame{W w':World}(h:od W w')(may:MemPlace->Prop):W.keptBut w' may:=by
 refine⟨h.os,h.output,fun i hi=>?_⟩
 rw[h.block i hi]
 split<;>simp_all
theorem od.same{W w':World}(h:od W w'){p:MemPlace}(hp:p.block<W.heap.size):W.sameAt w' p:=by
 cases p with
 |cell b o=>exact World.cell?_of_block (w:=W) (h.block b hp)
 |map b=>exact h.block b hp
theorem B6{H:Type}{enc:TypeId×Value->H}{P:Program}{t:TypeId}(hl:laidOutB P=true)(hr:P.readableRec t=true)(hrow:t<P.types.size){W W':World}{v:Value}{d:DataW H}{ps:List MemPlace}
(h:DataW.Trod enc P W 0 (fun _=>true) true t v d ps)(hb:od W W')(hlt:∀x∈ps,x.block<W.heap.size):DataW.Trod enc P W' 0 (fun b=>decide (b<W.heap.size)) true t v d ps:=
 WideElems.Trod_stays hl hr hrow h (fun x hx=>hb.same (hlt x hx)) (fun x hx=>by simpa using hlt x hx)
theorem od.below{W w':World}(h:od W w'):Below W.heap.size W {w' with tape:=W.tape}:=⟨h.os,rfl,h.output,h.size,h.block⟩
theorem od.vars{H:Type}{enc:TypeId×Value->H}{P:Program}(hl:laidOutB P=true){W w':World}(h:od W w'){ns:List String}{gs:List (DataW H)}{ps:List MemPlace}(hv:varsRowed P ns=true)
(ht:DataW.TrodVars enc P W (fun _=>true) ns gs ps):DataW.TrodVars enc P w' (fun b=>decide (b<W.heap.size)) ns gs ps:=
 DataW.TrodVars.of_heap (w:={w' with tape:=W.tape}) (w':=w') rfl (h.below.trodVars hl hv ht)
theorem rep_row{w:World}{a:Option Addr}{len cap:Nat}{zs:List Int}(h:DB w a len cap zs)(hl:len<=2^20):∃bs:List UInt8,Rep (qT w) (.sl 1 none (fS bs)) (.slice a len cap):=by
 by_cases h0:len=0
 ·subst h0;exact⟨[],.sl0⟩
 rcases h with⟨-,h,-⟩|⟨x,rfl,hlc,hcm,hz,hcell,hwf⟩
 ·exact absurd h h0
 obtain⟨b,off,sp⟩:=x
 have hsp:sp=none:=by
  have:=hcell 0 (by omega)
  cases sp with
  |none=>rfl
  |some s=>simp[World.cell?,Addr.add]at this;split at this<;>simp at this
 subst hsp
 have hby:∀i (h:i<zs.length),0<=zs[i]/\zs[i]<=255:=fun i h=>by
  have:=hwf _ (az h)
  simp[Lit.wf,IntKind.min,IntKind.max,IntKind.bits,IntKind.signed]at this
  omega
 have hlen:(fS ((zs.take len).map fun n=>UInt8.ofNat n.toNat)).length=len:=by simp[fS];omega
 have get:∀(i j:Nat) (e:List AC) (x:AC),(fS ((zs.take len).map fun n=>UInt8.ofNat n.toNat))[i]?=some e->e[j]?=some x->i<len/\j=0/\x=.lit (.int .u8 (zs.getD i 0)):=by
  intro i j e x he hx
  have hi:i<len:=by rw[<-hlen];exact(aQ.1 he).1
  have hi2:i<zs.length:=by omega
  simp only[fS,cO,dQ hi,ay hi2,bJ,Option.some.injEq]at he
  subst he
  have hj:j=0:=by
   cases j with
   |zero=>rfl
   |succ j=>simp at hx
  subst hj
  simp only[a7,Option.some.injEq]at hx
  subst hx
  refine⟨hi,rfl,?_⟩
  have hb:=hby i hi2
  have:((UInt8.ofNat zs[i].toNat).toNat:Int)=zs[i]:=by rw[UInt8.toNat_ofNat'];omega
  rw[this,List.getD_eq_getElem?_getD,ay hi2];rfl
 refine⟨(zs.take len).map fun n=>UInt8.ofNat n.toNat,?_⟩
 have key:=Rep.sl (M:=qT w) (sz:=1) (tok:=none) (es:=fS ((zs.take len).map fun n=>UInt8.ofNat n.toNat)) (b:=b) (off:=off) (cap:=cap) (fun i _=>.int .u8 (zs.getD i 0)) (by rw[hlen];simp[LIM];omega) (by rw[hlen];exact hlc)
  (fun e he=>by simp only[fS,aW]at he;obtain⟨_,_,rfl⟩:=he;exact⟨rfl,by simp[AC.one]⟩)
  (fun i j e x he hx=>by
   obtain⟨hi,rfl,-⟩:=get i j e x he hx
   have:=hcell i (by omega)
   rw[Addr.add_lit]at this
   simpa[qT]using this)
  (fun i j e x he hx=>by
   obtain⟨hi,rfl,rfl⟩:=get i j e x he hx
   have hb:=hby i (by omega)
   have hi2:i<zs.length:=by omega
   have hg:zs.getD i 0=zs[i]:=by rw[List.getD_eq_getElem?_getD,ay hi2];rfl
   exact .lit (by simp only[okv,IntKind.min,IntKind.max,IntKind.bits,IntKind.signed,hg];simp;omega))
  (fun t h=>by simp at h)
 rw[hlen]at key
 exact key
theorem asIs{W:World}{a:Int->Addr}(h:xN W a):AsIs Tryz.prog ids (vf W a) (kn W a):=⟨D0,D1 h,asis_is h⟩
theorem errsAt{W:World}{a:Int->Addr}(h:xN W a):fy ids (vf W a) (kn W a):=yB h
theorem late_of{W W':World}{a:Int->Addr}{M':bU}{H':aj}(s:Sim M' H' W')(t:bK (qT W) (kn W a) W M' H' W')(h:(kn W a).sub H'):od W W':=by
 refine⟨t.io.1,t.io.2,t.size,fun k hk=>?_⟩
 obtain⟨X,hX⟩:=ou (a:=a) (dI hk)
 exact(s.obj _ _ (h _ _ hX)).1.trans (dI hk).symm
theorem walk(W:World)(hE:∃a,xN W a)(a0:Option Addr)(len0 cap0:Nat)(z0:List Int)(h0:DB W a0 len0 cap0 z0):
 Calls Tryz.prog 10 #[.slice a0 len0 cap0] W fun e W'=>e=.returned (.bool true)/\od W W':=by
 by_cases b0:(len0:Int)>1048576
 ·go_enter Tryz.func10,Tryz.ntmps10
  go_wp2
  go_ret
  exact⟨rfl,od.refl _⟩
 obtain⟨l0,r0⟩:=rep_row h0 (by omega)
 obtain⟨a,hE⟩:=hE
 refine(vt lib tys (collect _) CG l0 (kn W a) (asIs hE) (errsAt hE) (qT W) W _ (yd hE) (il.cons r0 (il.nil _))).mono ?_
 rintro e W' ⟨r,v,M',H',rfl,hr,s',t,rfl,he'⟩
 obtain⟨rfl,-⟩:=hr.lit_inv
 exact⟨rfl,late_of s' t he'⟩
theorem own:ownKnob Tryz.prog.godebug=none:=by kernel_rfl
theorem zI:laidOutB Tryz.prog=true:=by kernel_rfl
theorem CN(os:Os)(args:Array Value):laidMetH Tryz.prog qV ((World.doorLaid Tryz.prog 400 os).forCall (fun _ _=>0) ⟨#[],args,[]⟩).memory:=
 laidMetH_of_parts3 (fuel:=8) (laidMet_of_run' 8 (by kernel_rfl) (by kernel_rfl)) (by kernel_rfl) (by kernel_rfl)
set_option maxRecDepth 100000 in
theorem lifted (os:Os) (started:os.Started) (H:Type) (enc:TypeId×Value->H):
 ReturnsInHanded {} Tryz.checked os 10 .any (fun w args=>(Rows.fnLendUsedSpec.pre enc Tryz.prog Tryz.f10 [] false w args/\laidMetH Tryz.prog qV w)/\sizedMet enc Tryz.prog Tryz.f10 (OpenSpec.ofChange Rows.fnLendUsedSpec) false w args)
  (Rows.fnLendUsedSpec.post enc Tryz.prog Tryz.f10 false true false false):=by
 refine returnsInHanded_of_change_and (C:=Tryz.checked) (X:=fun w _=>laidMetH Tryz.prog qV w) (fun _ _ _ hh h=>h.of_heap hh) own started (by kernel_rfl) Tryz.func10
  (ChangeSpec.witness_shaped (enc:=enc) (C:=Tryz.checked) (os:=os) (X:=fun w _=>laidMetH Tryz.prog qV w) false (World.doorLaid Tryz.prog 400 os) #[.slice none 0 0] 8 rfl (World.shaped_of_RefB (by kernel_rfl) (by kernel_rfl)) (by kernel_rfl) (by kernel_rfl) (by kernel_rfl) (CN os _)) ?_
 intro W base args ds gs before hval0 hW _ _ hL _
 have hval:∀(j:Nat) t v,Tryz.f10.params[j]?=some t->args[j]?=some v->Value.okWide Tryz.prog W .any base t v:=hval0
 have hW':=hW
 obtain⟨p,q,hA0,hV,rfl,hfz,hnd⟩:=hW
 have hA:DataW.TrodAll enc Tryz.prog W 0 (fun _=>true) true Tryz.f10.params.toList args.toList ds p:=hA0
 rw[Tryz.params10]at hA hval
 obtain⟨v0,vs0,d0,ds0,p0,q0,hargs,rfl,rfl,h0,r0⟩:=trodAll_cons hA
 obtain⟨rfl,rfl,rfl⟩:=trodAll_nil r0
 obtain rfl:args=#[v0]:=by cases args;simp_all
 have hV0:=hV
 obtain⟨g1,g2,g3,g4,rfl⟩:∃g1 g2 g3 g4,gs=[g1,g2,g3,g4]:=by
  match gs,hV with
  |[a,b,c,d],_=>exact⟨a,b,c,d,rfl⟩
  |[],h=>exact h.elim
  |[_],⟨_,_,_,_,_,_,_,_,_,_,h,_⟩=>exact h.elim
  |[_,_],⟨_,_,_,_,_,_,_,_,_,_,⟨_,_,_,_,_,_,_,_,_,_,h,_⟩,_⟩=>exact h.elim
  |[_,_,_],⟨_,_,_,_,_,_,_,_,_,_,⟨_,_,_,_,_,_,_,_,_,_,⟨_,_,_,_,_,_,_,_,_,_,h,_⟩,_⟩,_⟩=>exact h.elim
  |_::_::_::_::_::_,⟨_,_,_,_,_,_,_,_,_,_,⟨_,_,_,_,_,_,_,_,_,_,⟨_,_,_,_,_,_,_,_,_,_,⟨_,_,_,_,_,_,_,_,_,_,h,_⟩,_⟩,_⟩,_⟩=>exact h.elim
 obtain⟨a0,len0,cap0,rfl⟩:=okWide_slice Tryz.underlying22 (hval 0 22 v0 rfl rfl)
 have k0:=h0
 have lt0:∀x∈p0,x.block<W.heap.size:=by obtain⟨m,hm⟩:=k0;exact DataW.trod_lt m _ _ _ hm
 obtain⟨z0,w0⟩:∃zs,DB W a0 len0 cap0 zs:=by
  obtain⟨fuel,hf⟩:=h0
  rcases open_ints Tryz.underlying22 Tryz.underlying5 (by kernel_rfl) hf with⟨hcs,_⟩|⟨x,l,c,zs,hcs,_,hl,hm,hz,_,hcell,hwz⟩
  ·simp[Value.cells]at hcs
   obtain⟨rfl,rfl,rfl⟩:=hcs
   exact⟨[],.inl ⟨rfl,rfl,rfl,rfl⟩⟩
  ·simp[Value.cells]at hcs
   obtain⟨rfl,rfl,rfl⟩:=hcs
   exact⟨zs,.inr ⟨_,rfl,hl,hm,by simpa using hz,hcell,hwz⟩⟩
 clear hA0 hval0
 refine(walk W (errs_of hL) a0 len0 cap0 z0 w0).mono fun e W' ⟨he,bel⟩=>?_
 subst he
 exact⟨_,rfl,_,_,_,[],_,_,hW',trodAll_mk1 (shut_bool Tryz.underlying4 _),(trodAll_cons_mk (B6 zI (by kernel_rfl) (of_decide_eq_true (by kernel_rfl)) k0 bel lt0) trodAll_mk0),od.vars zI bel (by kernel_rfl) hV0,bel.frame _,fun h=>by cases h⟩
theorem f1:(Rows.fnLendUsedRow.inPlace==Tryz.prog.inPlace 10)=true:=by kernel_rfl
theorem f2:(Rows.fnLendUsedRow.unfollowed==Tryz.prog.unfollowed 10)=true:=by kernel_rfl
theorem f3:(Rows.fnLendUsedRow.recurses==Tryz.prog.recurses 10)=true:=by kernel_rfl
theorem f4:(Rows.fnLendUsedRow.named==Tryz.prog.varsNamed 10)=true:=by kernel_rfl
theorem closed:joinedFacts Tryz.prog 10 Tryz.f10 Rows.fnLendUsedSpec Rows.fnLendUsedRow=true:=by
 simp only[joinedFacts,f1,f2,f3,f4,gG]
 kernel_rfl
theorem A7:Rows.FnLendUsedSaid:=
 OpenClaim.holds_of_wide 10 Tryz.f10 rfl rfl rfl rfl rfl rfl rfl ⟨rfl,rfl,rfl,rfl,rfl⟩ rfl rfl rfl rfl rfl (by kernel_rfl) Tryz.func10 closed
  (of_decide_eq_true (by kernel_rfl)) (by unfold Func.isWrapper;first|(rw[if_pos (by decide+kernel)];kernel_rfl)|(rw[if_neg (by decide+kernel)];exact⟨rfl,rfl⟩))
  (fun os started H enc _=>lifted os started H enc)
theorem wM:Rows.FnLendUsedCardSaid:=
 Claim7.holds_tied_plain_at .later [] [.handle,.sentinel,.sentinel,.sentinel,.sentinel] true (true, "65d79d9ca41d052337de861cb5df7f65b8e4928653d82c7aeb6d0251da678422") true
  A7 (fun _ h=>by cases h) (by kernel_rfl) (fun _ h=>by cases h) fnLendUsed_row_tie rfl ⟨rfl,rfl⟩ (by kernel_rfl) rfl
  (fun f fn hf hfn=>by
   obtain rfl:f=10:=Option.some.inj ((show Tryz.prog.funcNamed "loop.example/handfast/laws.FnLendUsed" =some 10 by kernel_rfl).symm.trans hf)|>.symm
   obtain rfl:fn=Tryz.f10:=(Option.some.inj (Tryz.func10.symm.trans hfn)).symm
   exact⟨by kernel_rfl,fun j t ht=>by
    rw[Tryz.params10]at ht
    have hm:t∈[22]:=by simpa using Array.mem_of_getElem? ht
    have hall:([22].all fun u=>!Tryz.prog.wantsStandIn u)=true:=by kernel_rfl
    exact(show Tryz.prog.wantsStandIn t=false by simpa using aV.1 hall t hm)⟩)
  (by kernel_rfl)
#print axioms wM
end Go.Proofs.YtnmpniphpccgjaaGreatDoor
