/- FnCheckCut: a part of the proof. -/
import Derived.Test.YtghekniakencpaaGreatDoorProg
import Derived.KernelRfl
import Derived.Test.YtghekniakencpaaGreatDoorCards
import Derived.Test.YtghekniakencpaaGreatDoorTie
import Derived.WalkKit
import Derived.ProofKit
import Derived.OpenShut
import Derived.OpenVars
import Derived.LaidMore
import Derived.Stop.Joined
import Derived.SevenTiedAt
import Derived.Test.YtghekniakencpaaGreatDoorX5
set_option linter.unusedVariables false
set_option linter.unusedSimpArgs false
namespace Go.Xl
open _root_.Array renaming getElem?_eq_getElem -> di
open _root_.Bool renaming and_true -> fI
open _root_.List renaming all_eq_true -> aN, getElem?_cons_zero -> a9, getElem?_eq_getElem -> a6, getElem?_eq_some_iff -> aQ, getElem?_map -> cw, getElem?_take_of_lt -> dw, getElem_mem -> az, mem_map -> aZ
open _root_.Nat renaming reduceEqDiff -> rE, reduceAdd -> rA, reduceLeDiff -> rL, le_refl -> aA
open _root_.Option renaming map_some -> bY
open Go.Proofs
open Go.Proofs
def ids:Ids:=⟨⟩
theorem lib:Lib Tryz.prog ids:=⟨rfl⟩
theorem tys:Tys ids:=by constructor<;>decide
theorem BC:mD Tryz.prog 236:=⟨Tryz.f236,_,_,_,_,_,_,_,_,_,_,_,_,Tryz.func236,rfl,rfl,rfl,by kernel_rfl,by kernel_rfl,by kernel_rfl,by kernel_rfl,by kernel_rfl⟩
theorem atBack:lI Tryz.prog 253:=⟨Tryz.f253,_,_,_,_,_,_,_,_,_,_,Tryz.func253,rfl,rfl,rfl,by kernel_rfl,by kernel_rfl,by kernel_rfl,by kernel_rfl⟩
theorem atEnds:x8 Tryz.prog ids:=⟨Tryz.f237,_,_,_,_,_,_,_,_,_,_,_,_,_,_,_,Tryz.func237,rfl,rfl,rfl,by kernel_rfl,by kernel_rfl,by kernel_rfl,by kernel_rfl,by kernel_rfl,by kernel_rfl,by kernel_rfl,by kernel_rfl⟩
theorem collect(er:bL):eG Tryz.prog ids er:=xm lib BC atEnds atBack (by kernel_rfl) (by kernel_rfl)
end Go.Xl
namespace Go.Proofs.YtghekniakencpaaGreatDoor
open _root_.Array renaming getElem?_eq_getElem -> di
open _root_.Bool renaming and_true -> fI
open _root_.List renaming all_eq_true -> aN, getElem?_cons_zero -> a9, getElem?_eq_getElem -> a6, getElem?_eq_some_iff -> aQ, getElem?_map -> cw, getElem?_take_of_lt -> dw, getElem_mem -> az, mem_map -> aZ
open _root_.Nat renaming reduceEqDiff -> rE, reduceAdd -> rA, reduceLeDiff -> rL, le_refl -> aA
open _root_.Option renaming map_some -> bY
open Go.ChangeShapes Go.WideShapes Go.ChangeAt Go.WideElems Go.RowKit Go.Xl
theorem AZ:Fits Tryz.prog 6 y6.1:=lib.a Tryz.func6 y6
def BN(w:World)(a:Option Addr)(len cap:Nat)(zs:List Int):Prop:=
 (a=none/\len=0/\cap=0/\zs=[])\/
 ∃x,a=some x/\len<=cap/\cap<=maxLen/\zs.length=cap/\(∀i,i<zs.length->w.cell? (x.add i)=some (.int .u8 (zs.getD i 0)))/\∀n∈zs,(Lit.int .u8 n).wf=true
structure mC(w w':World):Prop where
 os:w'.os=w.os
 output:w'.output=w.output
 size:w.heap.size<=w'.heap.size
 block:∀k,k<w.heap.size->w'.heap[k]?=w.heap[k]?
theorem mC.refl(w:World):mC w w:=⟨rfl,rfl,aA _,fun _ _=>rfl⟩
theorem mC.frame{W w':World}(h:mC W w')(may:MemPlace->Prop):W.keptBut w' may:=by
 refine⟨h.os,h.output,fun i hi=>?_⟩
 rw[h.block i hi]
 split<;>simp_all
theorem mC.same{W w':World}(h:mC W w'){p:MemPlace}(hp:p.block<W.heap.size):W.sameAt w' p:=by
 cases p with
 |cell b o=>exact World.cell?_of_block (w:=W) (h.block b hp)
 |map b=>exact h.block b hp
theorem zL{H:Type}{enc:TypeId×Value->H}{P:Program}{t:TypeId}(hl:laidOutB P=true)(hr:P.readableRec t=true)(hrow:t<P.types.size){W W':World}{v:Value}{d:DataW H}{ps:List MemPlace}
(h:DataW.Trod enc P W 0 (fun _=>true) true t v d ps)(hb:mC W W')(hlt:∀x∈ps,x.block<W.heap.size):DataW.Trod enc P W' 0 (fun b=>decide (b<W.heap.size)) true t v d ps:=
 WideElems.Trod_stays hl hr hrow h (fun x hx=>hb.same (hlt x hx)) (fun x hx=>by simpa using hlt x hx)
theorem mC.below{W w':World}(h:mC W w'):Below W.heap.size W {w' with tape:=W.tape}:=⟨h.os,rfl,h.output,h.size,h.block⟩
theorem mC.vars{H:Type}{enc:TypeId×Value->H}{P:Program}(hl:laidOutB P=true){W w':World}(h:mC W w'){ns:List String}{gs:List (DataW H)}{ps:List MemPlace}(hv:varsRowed P ns=true)
(ht:DataW.TrodVars enc P W (fun _=>true) ns gs ps):DataW.TrodVars enc P w' (fun b=>decide (b<W.heap.size)) ns gs ps:=
 DataW.TrodVars.of_heap (w:={w' with tape:=W.tape}) (w':=w') rfl (h.below.trodVars hl hv ht)
theorem rep_row{w:World}{a:Option Addr}{len cap:Nat}{zs:List Int}(h:BN w a len cap zs)(hl:len<=2^20):∃bs:List UInt8,Rep (pA w) (.sl 1 none (fu bs)) (.slice a len cap):=by
 by_cases h0:len=0
 ·subst h0;exact⟨[],.sl0⟩
 rcases h with⟨-,h,-⟩|⟨x,rfl,hlc,hcm,hz,hcell,hwf⟩
 ·exact absurd h h0
 obtain⟨b,off,sp⟩:=x
 have hsp:sp=none:=by
  have:=hcell 0 (by omega)
  cases sp with
  |none=>rfl
  |some s=>simp[World.cell?,Addr.add]at this;split at this<;>simp at this
 subst hsp
 have hby:∀i (h:i<zs.length),0<=zs[i]/\zs[i]<=255:=fun i h=>by
  have:=hwf _ (az h)
  simp[Lit.wf,IntKind.min,IntKind.max,IntKind.bits,IntKind.signed]at this
  omega
 have hlen:(fu ((zs.take len).map fun n=>UInt8.ofNat n.toNat)).length=len:=by simp[fu];omega
 have get:∀(i j:Nat) (e:List AC) (x:AC),(fu ((zs.take len).map fun n=>UInt8.ofNat n.toNat))[i]?=some e->e[j]?=some x->i<len/\j=0/\x=.lit (.int .u8 (zs.getD i 0)):=by
  intro i j e x he hx
  have hi:i<len:=by rw[<-hlen];exact(aQ.1 he).1
  have hi2:i<zs.length:=by omega
  simp only[fu,cw,dw hi,a6 hi2,bY,Option.some.injEq]at he
  subst he
  have hj:j=0:=by
   cases j with
   |zero=>rfl
   |succ j=>simp at hx
  subst hj
  simp only[a9,Option.some.injEq]at hx
  subst hx
  refine⟨hi,rfl,?_⟩
  have hb:=hby i hi2
  have:((UInt8.ofNat zs[i].toNat).toNat:Int)=zs[i]:=by rw[UInt8.toNat_ofNat'];omega
  rw[this,List.getD_eq_getElem?_getD,a6 hi2];rfl
 refine⟨(zs.take len).map fun n=>UInt8.ofNat n.toNat,?_⟩
 have key:=Rep.sl (M:=pA w) (sz:=1) (tok:=none) (es:=fu ((zs.take len).map fun n=>UInt8.ofNat n.toNat)) (b:=b) (off:=off) (cap:=cap) (fun i _=>.int .u8 (zs.getD i 0)) (by rw[hlen];simp[LIM];omega) (by rw[hlen];exact hlc)
  (fun e he=>by simp only[fu,aZ]at he;obtain⟨_,_,rfl⟩:=he;exact⟨rfl,by simp[AC.one]⟩)
  (fun i j e x he hx=>by
   obtain⟨hi,rfl,-⟩:=get i j e x he hx
   have:=hcell i (by omega)
   rw[Addr.add_lit]at this
   simpa[pA]using this)
  (fun i j e x he hx=>by
   obtain⟨hi,rfl,rfl⟩:=get i j e x he hx
   have hb:=hby i (by omega)
   have hi2:i<zs.length:=by omega
   have hg:zs.getD i 0=zs[i]:=by rw[List.getD_eq_getElem?_getD,a6 hi2];rfl
   exact .lit (by simp only[okv,IntKind.min,IntKind.max,IntKind.bits,IntKind.signed,hg];simp;omega))
  (fun t h=>by simp at h)
 rw[hlen]at key
 exact key
theorem asIs{W:World}{a:Int->Addr}(h:vV W a):BS Tryz.prog ids (tD W a) (j5 W a):=⟨BD,BE h,asis_is h⟩
theorem errsAt{W:World}{a:Int->Addr}(h:vV W a):iK ids (tD W a) (j5 W a):=wP h
theorem late_of{W W':World}{a:Int->Addr}{M':bI}{H':aj}(s:Sim M' H' W')(t:bE (pA W) (j5 W a) W M' H' W')(h:(j5 W a).sub H'):mC W W':=by
 refine⟨t.io.1,t.io.2,t.size,fun k hk=>?_⟩
 obtain⟨X,hX⟩:=mS (a:=a) (di hk)
 exact(s.obj _ _ (h _ _ hX)).1.trans (di hk).symm
theorem walk(W:World)(hE:∃a,vV W a)(a0:Option Addr)(len0 cap0:Nat)(z0:List Int)(h0:BN W a0 len0 cap0 z0):
 Calls Tryz.prog 6 #[.slice a0 len0 cap0] W fun e W'=>e=.returned (.bool true)/\mC W W':=by
 by_cases b0:(len0:Int)>1048576
 ·go_enter Tryz.func6,Tryz.ntmps6
  go_wp2
  go_ret
  exact⟨rfl,mC.refl _⟩
 obtain⟨l0,r0⟩:=rep_row h0 (by omega)
 obtain⟨a,hE⟩:=hE
 refine(tM lib tys (collect _) AZ l0 (j5 W a) (asIs hE) (errsAt hE) (pA W) W _ (wn hE) (gU.cons r0 (gU.nil _))).mono ?_
 rintro e W' ⟨r,v,M',H',rfl,hr,s',t,rfl,he'⟩
 obtain⟨rfl,-⟩:=hr.lit_inv
 exact⟨rfl,late_of s' t he'⟩
theorem own:ownKnob Tryz.prog.godebug=none:=by kernel_rfl
theorem xX:laidOutB Tryz.prog=true:=by kernel_rfl
theorem Bh(os:Os)(args:Array Value):laidMetH Tryz.prog pC ((World.doorLaid Tryz.prog 400 os).forCall (fun _ _=>0) ⟨#[],args,[]⟩).memory:=
 laidMetH_of_parts3 (fuel:=8) (laidMet_of_run' 8 (by kernel_rfl) (by kernel_rfl)) (by kernel_rfl) (by kernel_rfl)
set_option maxRecDepth 100000 in
theorem lifted (os:Os) (started:os.Started) (H:Type) (enc:TypeId×Value->H):
 ReturnsInHanded {} Tryz.checked os 6 .any (fun w args=>(Rows.fnCheckCutSpec.pre enc Tryz.prog Tryz.f6 [] false w args/\laidMetH Tryz.prog pC w)/\sizedMet enc Tryz.prog Tryz.f6 (OpenSpec.ofChange Rows.fnCheckCutSpec) false w args)
  (Rows.fnCheckCutSpec.post enc Tryz.prog Tryz.f6 false true false false):=by
 refine returnsInHanded_of_change_and (C:=Tryz.checked) (X:=fun w _=>laidMetH Tryz.prog pC w) (fun _ _ _ hh h=>h.of_heap hh) own started (by kernel_rfl) Tryz.func6
  (ChangeSpec.witness_shaped (enc:=enc) (C:=Tryz.checked) (os:=os) (X:=fun w _=>laidMetH Tryz.prog pC w) false (World.doorLaid Tryz.prog 400 os) #[.slice none 0 0] 8 rfl (World.shaped_of_RefB (by kernel_rfl) (by kernel_rfl)) (by kernel_rfl) (by kernel_rfl) (by kernel_rfl) (Bh os _)) ?_
 intro W base args ds gs before hval0 hW _ _ hL _
 have hval:∀(j:Nat) t v,Tryz.f6.params[j]?=some t->args[j]?=some v->Value.okWide Tryz.prog W .any base t v:=hval0
 have hW':=hW
 obtain⟨p,q,hA0,hV,rfl,hfz,hnd⟩:=hW
 have hA:DataW.TrodAll enc Tryz.prog W 0 (fun _=>true) true Tryz.f6.params.toList args.toList ds p:=hA0
 rw[Tryz.params6]at hA hval
 obtain⟨v0,vs0,d0,ds0,p0,q0,hargs,rfl,rfl,h0,r0⟩:=trodAll_cons hA
 obtain⟨rfl,rfl,rfl⟩:=trodAll_nil r0
 obtain rfl:args=#[v0]:=by cases args;simp_all
 have hV0:=hV
 obtain⟨g1,g2,g3,g4,rfl⟩:∃g1 g2 g3 g4,gs=[g1,g2,g3,g4]:=by
  match gs,hV with
  |[a,b,c,d],_=>exact⟨a,b,c,d,rfl⟩
  |[],h=>exact h.elim
  |[_],⟨_,_,_,_,_,_,_,_,_,_,h,_⟩=>exact h.elim
  |[_,_],⟨_,_,_,_,_,_,_,_,_,_,⟨_,_,_,_,_,_,_,_,_,_,h,_⟩,_⟩=>exact h.elim
  |[_,_,_],⟨_,_,_,_,_,_,_,_,_,_,⟨_,_,_,_,_,_,_,_,_,_,⟨_,_,_,_,_,_,_,_,_,_,h,_⟩,_⟩,_⟩=>exact h.elim
  |_::_::_::_::_::_,⟨_,_,_,_,_,_,_,_,_,_,⟨_,_,_,_,_,_,_,_,_,_,⟨_,_,_,_,_,_,_,_,_,_,⟨_,_,_,_,_,_,_,_,_,_,h,_⟩,_⟩,_⟩,_⟩=>exact h.elim
 obtain⟨a0,len0,cap0,rfl⟩:=okWide_slice Tryz.underlying22 (hval 0 22 v0 rfl rfl)
 have k0:=h0
 have lt0:∀x∈p0,x.block<W.heap.size:=by obtain⟨m,hm⟩:=k0;exact DataW.trod_lt m _ _ _ hm
 obtain⟨z0,w0⟩:∃zs,BN W a0 len0 cap0 zs:=by
  obtain⟨fuel,hf⟩:=h0
  rcases open_ints Tryz.underlying22 Tryz.underlying5 (by kernel_rfl) hf with⟨hcs,_⟩|⟨x,l,c,zs,hcs,_,hl,hm,hz,_,hcell,hwz⟩
  ·simp[Value.cells]at hcs
   obtain⟨rfl,rfl,rfl⟩:=hcs
   exact⟨[],.inl ⟨rfl,rfl,rfl,rfl⟩⟩
  ·simp[Value.cells]at hcs
   obtain⟨rfl,rfl,rfl⟩:=hcs
   exact⟨zs,.inr ⟨_,rfl,hl,hm,by simpa using hz,hcell,hwz⟩⟩
 clear hA0 hval0
 refine(walk W (errs_of hL) a0 len0 cap0 z0 w0).mono fun e W' ⟨he,bel⟩=>?_
 subst he
 exact⟨_,rfl,_,_,_,[],_,_,hW',trodAll_mk1 (shut_bool Tryz.underlying4 _),(trodAll_cons_mk (zL xX (by kernel_rfl) (of_decide_eq_true (by kernel_rfl)) k0 bel lt0) trodAll_mk0),mC.vars xX bel (by kernel_rfl) hV0,bel.frame _,fun h=>by cases h⟩
theorem f1:(Rows.fnCheckCutRow.inPlace==Tryz.prog.inPlace 6)=true:=by kernel_rfl
theorem f2:(Rows.fnCheckCutRow.unfollowed==Tryz.prog.unfollowed 6)=true:=by kernel_rfl
theorem f3:(Rows.fnCheckCutRow.recurses==Tryz.prog.recurses 6)=true:=by kernel_rfl
theorem f4:(Rows.fnCheckCutRow.named==Tryz.prog.varsNamed 6)=true:=by kernel_rfl
theorem closed:joinedFacts Tryz.prog 6 Tryz.f6 Rows.fnCheckCutSpec Rows.fnCheckCutRow=true:=by
 simp only[joinedFacts,f1,f2,f3,f4,fI]
 kernel_rfl
theorem yL:Rows.FnCheckCutSaid:=
 OpenClaim.holds_of_wide 6 Tryz.f6 rfl rfl rfl rfl rfl rfl rfl ⟨rfl,rfl,rfl,rfl,rfl⟩ rfl rfl rfl rfl rfl (by kernel_rfl) Tryz.func6 closed
  (of_decide_eq_true (by kernel_rfl)) (by unfold Func.isWrapper;first|(rw[if_pos (by decide+kernel)];kernel_rfl)|(rw[if_neg (by decide+kernel)];exact⟨rfl,rfl⟩))
  (fun os started H enc _=>lifted os started H enc)
theorem uZ:Rows.FnCheckCutCardSaid:=
 Claim7.holds_tied_plain_at .later [] [.handle,.sentinel,.sentinel,.sentinel,.sentinel] true (true, "a3c3065d0daae64e3866cb99e1a04ac66bcbd52d8b5ede612574047559fb51e3") true
  yL (fun _ h=>by cases h) (by kernel_rfl) (fun _ h=>by cases h) fnCheckCut_row_tie rfl ⟨rfl,rfl⟩ (by kernel_rfl) rfl
  (fun f fn hf hfn=>by
   obtain rfl:f=6:=Option.some.inj ((show Tryz.prog.funcNamed "loop.example/handfast/laws.FnCheckCut" =some 6 by kernel_rfl).symm.trans hf)|>.symm
   obtain rfl:fn=Tryz.f6:=(Option.some.inj (Tryz.func6.symm.trans hfn)).symm
   exact⟨by kernel_rfl,fun j t ht=>by
    rw[Tryz.params6]at ht
    have hm:t∈[22]:=by simpa using Array.mem_of_getElem? ht
    have hall:([22].all fun u=>!Tryz.prog.wantsStandIn u)=true:=by kernel_rfl
    exact(show Tryz.prog.wantsStandIn t=false by simpa using aN.1 hall t hm)⟩)
  (by kernel_rfl)
#print axioms uZ
end Go.Proofs.YtghekniakencpaaGreatDoor
