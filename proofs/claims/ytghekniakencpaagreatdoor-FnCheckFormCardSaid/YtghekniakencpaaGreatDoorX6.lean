/- FnCheckForm: a part of the proof. -/
import Derived.Test.YtghekniakencpaaGreatDoorProg
import Derived.KernelRfl
import Derived.Test.YtghekniakencpaaGreatDoorCards
import Derived.Test.YtghekniakencpaaGreatDoorTie
import Derived.WalkKit
import Derived.ProofKit
import Derived.OpenShut
import Derived.OpenVars
import Derived.LaidMore
import Derived.Stop.Joined
import Derived.SevenTiedAt
import Derived.Test.YtghekniakencpaaGreatDoorX5
set_option linter.unusedVariables false
set_option linter.unusedSimpArgs false
namespace Go.Xl
open _root_.Array renaming getElem?_eq_getElem -> de
open _root_.Bool renaming and_true -> fC
open _root_.List renaming all_eq_true -> aS, getElem?_cons_zero -> a9, getElem?_eq_getElem -> a6, getElem?_eq_some_iff -> aN, getElem?_map -> co, getElem?_take_of_lt -> dq, getElem_mem -> az, mem_map -> aZ
open _root_.Nat renaming reduceEqDiff -> rE, reduceAdd -> rA, reduceLeDiff -> rL, le_refl -> aA
open _root_.Option renaming map_some -> bW
open Go.Proofs
open Go.Proofs
def ids:Ids:=⟨⟩
theorem lib:Lib Tryz.prog ids:=⟨rfl⟩
theorem tys:Tys ids:=by constructor<;>decide
theorem Bi:ml Tryz.prog 236:=⟨Tryz.f236,_,_,_,_,_,_,_,_,_,_,_,_,Tryz.func236,rfl,rfl,rfl,by kernel_rfl,by kernel_rfl,by kernel_rfl,by kernel_rfl,by kernel_rfl⟩
theorem atBack:l8 Tryz.prog 253:=⟨Tryz.f253,_,_,_,_,_,_,_,_,_,_,Tryz.func253,rfl,rfl,rfl,by kernel_rfl,by kernel_rfl,by kernel_rfl,by kernel_rfl⟩
theorem atEnds:wY Tryz.prog ids:=⟨Tryz.f237,_,_,_,_,_,_,_,_,_,_,_,_,_,_,_,Tryz.func237,rfl,rfl,rfl,by kernel_rfl,by kernel_rfl,by kernel_rfl,by kernel_rfl,by kernel_rfl,by kernel_rfl,by kernel_rfl,by kernel_rfl⟩
theorem collect(er:bK):eB Tryz.prog ids er:=wN lib Bi atEnds atBack (by kernel_rfl) (by kernel_rfl)
end Go.Xl
namespace Go.Proofs.YtghekniakencpaaGreatDoor
open _root_.Array renaming getElem?_eq_getElem -> de
open _root_.Bool renaming and_true -> fC
open _root_.List renaming all_eq_true -> aS, getElem?_cons_zero -> a9, getElem?_eq_getElem -> a6, getElem?_eq_some_iff -> aN, getElem?_map -> co, getElem?_take_of_lt -> dq, getElem_mem -> az, mem_map -> aZ
open _root_.Nat renaming reduceEqDiff -> rE, reduceAdd -> rA, reduceLeDiff -> rL, le_refl -> aA
open _root_.Option renaming map_some -> bW
open Go.ChangeShapes Go.WideShapes Go.ChangeAt Go.WideElems Go.RowKit Go.Xl
theorem A7:Fits Tryz.prog 8 y8.1:=lib.a Tryz.func8 y8
def Bt(w:World)(a:Option Addr)(len cap:Nat)(zs:List Int):Prop:=
 (a=none/\len=0/\cap=0/\zs=[])\/
 ∃x,a=some x/\len<=cap/\cap<=maxLen/\zs.length=cap/\(∀i,i<zs.length->w.cell? (x.add i)=some (.int .u8 (zs.getD i 0)))/\∀n∈zs,(Lit.int .u8 n).wf=true
structure mj(w w':World):Prop where
 os:w'.os=w.os
 output:w'.output=w.output
 size:w.heap.size<=w'.heap.size
 block:∀k,k<w.heap.size->w'.heap[k]?=w.heap[k]?
theorem mj.refl(w:World):mj w w:=⟨rfl,rfl,aA _,fun _ _=>rfl⟩
theorem mj.frame{W w':World}(h:mj W w')(may:MemPlace->Prop):W.keptBut w' may:=by
 refine⟨h.os,h.output,fun i hi=>?_⟩
 rw[h.block i hi]
 split<;>simp_all
theorem mj.same{W w':World}(h:mj W w'){p:MemPlace}(hp:p.block<W.heap.size):W.sameAt w' p:=by
 cases p with
 |cell b o=>exact World.cell?_of_block (w:=W) (h.block b hp)
 |map b=>exact h.block b hp
theorem zq{H:Type}{enc:TypeId×Value->H}{P:Program}{t:TypeId}(hl:laidOutB P=true)(hr:P.readableRec t=true)(hrow:t<P.types.size){W W':World}{v:Value}{d:DataW H}{ps:List MemPlace}
(h:DataW.Trod enc P W 0 (fun _=>true) true t v d ps)(hb:mj W W')(hlt:∀x∈ps,x.block<W.heap.size):DataW.Trod enc P W' 0 (fun b=>decide (b<W.heap.size)) true t v d ps:=
 WideElems.Trod_stays hl hr hrow h (fun x hx=>hb.same (hlt x hx)) (fun x hx=>by simpa using hlt x hx)
theorem mj.below{W w':World}(h:mj W w'):Below W.heap.size W {w' with tape:=W.tape}:=⟨h.os,rfl,h.output,h.size,h.block⟩
theorem mj.vars{H:Type}{enc:TypeId×Value->H}{P:Program}(hl:laidOutB P=true){W w':World}(h:mj W w'){ns:List String}{gs:List (DataW H)}{ps:List MemPlace}(hv:varsRowed P ns=true)
(ht:DataW.TrodVars enc P W (fun _=>true) ns gs ps):DataW.TrodVars enc P w' (fun b=>decide (b<W.heap.size)) ns gs ps:=
 DataW.TrodVars.of_heap (w:={w' with tape:=W.tape}) (w':=w') rfl (h.below.trodVars hl hv ht)
theorem rep_row{w:World}{a:Option Addr}{len cap:Nat}{zs:List Int}(h:Bt w a len cap zs)(hl:len<=2^20):∃bs:List UInt8,Rep (ph w) (.sl 1 none (fj bs)) (.slice a len cap):=by
 by_cases h0:len=0
 ·subst h0;exact⟨[],.sl0⟩
 rcases h with⟨-,h,-⟩|⟨x,rfl,hlc,hcm,hz,hcell,hwf⟩
 ·exact absurd h h0
 obtain⟨b,off,sp⟩:=x
 have hsp:sp=none:=by
  have:=hcell 0 (by omega)
  cases sp with
  |none=>rfl
  |some s=>simp[World.cell?,Addr.add]at this;split at this<;>simp at this
 subst hsp
 have hby:∀i (h:i<zs.length),0<=zs[i]/\zs[i]<=255:=fun i h=>by
  have:=hwf _ (az h)
  simp[Lit.wf,IntKind.min,IntKind.max,IntKind.bits,IntKind.signed]at this
  omega
 have hlen:(fj ((zs.take len).map fun n=>UInt8.ofNat n.toNat)).length=len:=by simp[fj];omega
 have get:∀(i j:Nat) (e:List AC) (x:AC),(fj ((zs.take len).map fun n=>UInt8.ofNat n.toNat))[i]?=some e->e[j]?=some x->i<len/\j=0/\x=.lit (.int .u8 (zs.getD i 0)):=by
  intro i j e x he hx
  have hi:i<len:=by rw[<-hlen];exact(aN.1 he).1
  have hi2:i<zs.length:=by omega
  simp only[fj,co,dq hi,a6 hi2,bW,Option.some.injEq]at he
  subst he
  have hj:j=0:=by
   cases j with
   |zero=>rfl
   |succ j=>simp at hx
  subst hj
  simp only[a9,Option.some.injEq]at hx
  subst hx
  refine⟨hi,rfl,?_⟩
  have hb:=hby i hi2
  have:((UInt8.ofNat zs[i].toNat).toNat:Int)=zs[i]:=by rw[UInt8.toNat_ofNat'];omega
  rw[this,List.getD_eq_getElem?_getD,a6 hi2];rfl
 refine⟨(zs.take len).map fun n=>UInt8.ofNat n.toNat,?_⟩
 have key:=Rep.sl (M:=ph w) (sz:=1) (tok:=none) (es:=fj ((zs.take len).map fun n=>UInt8.ofNat n.toNat)) (b:=b) (off:=off) (cap:=cap) (fun i _=>.int .u8 (zs.getD i 0)) (by rw[hlen];simp[LIM];omega) (by rw[hlen];exact hlc)
  (fun e he=>by simp only[fj,aZ]at he;obtain⟨_,_,rfl⟩:=he;exact⟨rfl,by simp[AC.one]⟩)
  (fun i j e x he hx=>by
   obtain⟨hi,rfl,-⟩:=get i j e x he hx
   have:=hcell i (by omega)
   rw[Addr.add_lit]at this
   simpa[ph]using this)
  (fun i j e x he hx=>by
   obtain⟨hi,rfl,rfl⟩:=get i j e x he hx
   have hb:=hby i (by omega)
   have hi2:i<zs.length:=by omega
   have hg:zs.getD i 0=zs[i]:=by rw[List.getD_eq_getElem?_getD,a6 hi2];rfl
   exact .lit (by simp only[okv,IntKind.min,IntKind.max,IntKind.bits,IntKind.signed,hg];simp;omega))
  (fun t h=>by simp at h)
 rw[hlen]at key
 exact key
def qA:List (String×DataW Unit):=("math/bits.deBruijn32tab",Rows.laid_math_bits_deBruijn32tab)::("math/bits.deBruijn64tab",Rows.laid_math_bits_deBruijn64tab)::("internal/strconv.uint64pow10",Rows.laid_internal_strconv_uint64pow10)::qB
theorem errs_q{W:World}(h:laidMetH Tryz.prog qA W):∃a,tH W a:=by
 have h0:(qA.filter fun x=>x.2.handleName?.isSome)=(qB.filter fun x=>x.2.handleName?.isSome):=by kernel_rfl
 have h1:(qA.filter fun x=>x.2.handleName?.isNone)=("math/bits.deBruijn32tab",Rows.laid_math_bits_deBruijn32tab)::("math/bits.deBruijn64tab",Rows.laid_math_bits_deBruijn64tab)::("internal/strconv.uint64pow10",Rows.laid_internal_strconv_uint64pow10)::qB.filter fun x=>x.2.handleName?.isNone:=by kernel_rfl
 unfold laidMetH at h
 rw[h0,h1]at h
 exact errs_of (by unfold laidMetH;exact⟨h.1.tail.tail.tail,h.2⟩)
theorem asIs{W:World}{a:Int->Addr}(h:tH W a):By Tryz.prog ids (tq W a) (ju W a):=⟨Bj,Bk h,asis_is h⟩
theorem errsAt{W:World}{a:Int->Addr}(h:tH W a):iA ids (tq W a) (ju W a):=wv h
theorem late_of{W W':World}{a:Int->Addr}{M':bF}{H':aj}(s:Sim M' H' W')(t:bC (ph W) (ju W a) W M' H' W')(h:(ju W a).sub H'):mj W W':=by
 refine⟨t.io.1,t.io.2,t.size,fun k hk=>?_⟩
 obtain⟨X,hX⟩:=mB (a:=a) (de hk)
 exact(s.obj _ _ (h _ _ hX)).1.trans (de hk).symm
theorem walk(W:World)(hE:∃a,tH W a)(a0:Option Addr)(len0 cap0:Nat)(z0:List Int)(h0:Bt W a0 len0 cap0 z0):
 Calls Tryz.prog 8 #[.slice a0 len0 cap0] W fun e W'=>e=.returned (.bool true)/\mj W W':=by
 by_cases b0:(len0:Int)>1048576
 ·go_enter Tryz.func8,Tryz.ntmps8
  go_wp2
  go_ret
  exact⟨rfl,mj.refl _⟩
 obtain⟨l0,r0⟩:=rep_row h0 (by omega)
 obtain⟨a,hE⟩:=hE
 refine(rI lib tys (collect _) A7 l0 (ju W a) (asIs hE) (errsAt hE) (ph W) W _ (vO hE) (gP.cons r0 (gP.nil _))).mono ?_
 rintro e W' ⟨r,v,M',H',rfl,hr,s',t,rfl,he'⟩
 obtain⟨rfl,-⟩:=hr.lit_inv
 exact⟨rfl,late_of s' t he'⟩
theorem own:ownKnob Tryz.prog.godebug=none:=by kernel_rfl
theorem xD:laidOutB Tryz.prog=true:=by kernel_rfl
theorem AE(os:Os)(args:Array Value):laidMetH Tryz.prog qA ((World.doorLaid Tryz.prog 400 os).forCall (fun _ _=>0) ⟨#[],args,[]⟩).memory:=
 laidMetH_of_parts3 (fuel:=8) (laidMet_of_run' 8 (by kernel_rfl) (by kernel_rfl)) (by kernel_rfl) (by kernel_rfl)
set_option maxRecDepth 100000 in
theorem lifted (os:Os) (started:os.Started) (H:Type) (enc:TypeId×Value->H):
 ReturnsInHanded {} Tryz.checked os 8 .any (fun w args=>(Rows.fnCheckFormSpec.pre enc Tryz.prog Tryz.f8 [] false w args/\laidMetH Tryz.prog qA w)/\sizedMet enc Tryz.prog Tryz.f8 (OpenSpec.ofChange Rows.fnCheckFormSpec) false w args)
  (Rows.fnCheckFormSpec.post enc Tryz.prog Tryz.f8 false true false false):=by
 refine returnsInHanded_of_change_and (C:=Tryz.checked) (X:=fun w _=>laidMetH Tryz.prog qA w) (fun _ _ _ hh h=>h.of_heap hh) own started (by kernel_rfl) Tryz.func8
  (ChangeSpec.witness_shaped (enc:=enc) (C:=Tryz.checked) (os:=os) (X:=fun w _=>laidMetH Tryz.prog qA w) false (World.doorLaid Tryz.prog 400 os) #[.slice none 0 0] 8 rfl (World.shaped_of_RefB (by kernel_rfl) (by kernel_rfl)) (by kernel_rfl) (by kernel_rfl) (by kernel_rfl) (AE os _)) ?_
 intro W base args ds gs before hval0 hW _ _ hL _
 have hval:∀(j:Nat) t v,Tryz.f8.params[j]?=some t->args[j]?=some v->Value.okWide Tryz.prog W .any base t v:=hval0
 have hW':=hW
 obtain⟨p,q,hA0,hV,rfl,hfz,hnd⟩:=hW
 have hA:DataW.TrodAll enc Tryz.prog W 0 (fun _=>true) true Tryz.f8.params.toList args.toList ds p:=hA0
 rw[Tryz.params8]at hA hval
 obtain⟨v0,vs0,d0,ds0,p0,q0,hargs,rfl,rfl,h0,r0⟩:=trodAll_cons hA
 obtain⟨rfl,rfl,rfl⟩:=trodAll_nil r0
 obtain rfl:args=#[v0]:=by cases args;simp_all
 have hV0:=hV
 obtain⟨g1,g2,g3,g4,rfl⟩:∃g1 g2 g3 g4,gs=[g1,g2,g3,g4]:=by
  match gs,hV with
  |[a,b,c,d],_=>exact⟨a,b,c,d,rfl⟩
  |[],h=>exact h.elim
  |[_],⟨_,_,_,_,_,_,_,_,_,_,h,_⟩=>exact h.elim
  |[_,_],⟨_,_,_,_,_,_,_,_,_,_,⟨_,_,_,_,_,_,_,_,_,_,h,_⟩,_⟩=>exact h.elim
  |[_,_,_],⟨_,_,_,_,_,_,_,_,_,_,⟨_,_,_,_,_,_,_,_,_,_,⟨_,_,_,_,_,_,_,_,_,_,h,_⟩,_⟩,_⟩=>exact h.elim
  |_::_::_::_::_::_,⟨_,_,_,_,_,_,_,_,_,_,⟨_,_,_,_,_,_,_,_,_,_,⟨_,_,_,_,_,_,_,_,_,_,⟨_,_,_,_,_,_,_,_,_,_,h,_⟩,_⟩,_⟩,_⟩=>exact h.elim
 obtain⟨a0,len0,cap0,rfl⟩:=okWide_slice Tryz.underlying22 (hval 0 22 v0 rfl rfl)
 have k0:=h0
 have lt0:∀x∈p0,x.block<W.heap.size:=by obtain⟨m,hm⟩:=k0;exact DataW.trod_lt m _ _ _ hm
 obtain⟨z0,w0⟩:∃zs,Bt W a0 len0 cap0 zs:=by
  obtain⟨fuel,hf⟩:=h0
  rcases open_ints Tryz.underlying22 Tryz.underlying5 (by kernel_rfl) hf with⟨hcs,_⟩|⟨x,l,c,zs,hcs,_,hl,hm,hz,_,hcell,hwz⟩
  ·simp[Value.cells]at hcs
   obtain⟨rfl,rfl,rfl⟩:=hcs
   exact⟨[],.inl ⟨rfl,rfl,rfl,rfl⟩⟩
  ·simp[Value.cells]at hcs
   obtain⟨rfl,rfl,rfl⟩:=hcs
   exact⟨zs,.inr ⟨_,rfl,hl,hm,by simpa using hz,hcell,hwz⟩⟩
 clear hA0 hval0
 refine(walk W (errs_q hL) a0 len0 cap0 z0 w0).mono fun e W' ⟨he,bel⟩=>?_
 subst he
 exact⟨_,rfl,_,_,_,[],_,_,hW',trodAll_mk1 (shut_bool Tryz.underlying4 _),(trodAll_cons_mk (zq xD (by kernel_rfl) (of_decide_eq_true (by kernel_rfl)) k0 bel lt0) trodAll_mk0),mj.vars xD bel (by kernel_rfl) hV0,bel.frame _,fun h=>by cases h⟩
theorem f1:(Rows.fnCheckFormRow.inPlace==Tryz.prog.inPlace 8)=true:=by kernel_rfl
theorem f2:(Rows.fnCheckFormRow.unfollowed==Tryz.prog.unfollowed 8)=true:=by kernel_rfl
theorem f3:(Rows.fnCheckFormRow.recurses==Tryz.prog.recurses 8)=true:=by kernel_rfl
theorem f4:(Rows.fnCheckFormRow.named==Tryz.prog.varsNamed 8)=true:=by kernel_rfl
theorem closed:joinedFacts Tryz.prog 8 Tryz.f8 Rows.fnCheckFormSpec Rows.fnCheckFormRow=true:=by
 simp only[joinedFacts,f1,f2,f3,f4,fC]
 kernel_rfl
theorem yw:Rows.FnCheckFormSaid:=
 OpenClaim.holds_of_wide 8 Tryz.f8 rfl rfl rfl rfl rfl rfl rfl ⟨rfl,rfl,rfl,rfl,rfl⟩ rfl rfl rfl rfl rfl (by kernel_rfl) Tryz.func8 closed
  (of_decide_eq_true (by kernel_rfl)) (by unfold Func.isWrapper;first|(rw[if_pos (by decide+kernel)];kernel_rfl)|(rw[if_neg (by decide+kernel)];exact⟨rfl,rfl⟩))
  (fun os started H enc _=>lifted os started H enc)
theorem uK:Rows.FnCheckFormCardSaid:=
 Claim7.holds_tied_plain_at .later [] [.data,.data,.data,.handle,.sentinel,.sentinel,.sentinel,.sentinel] true (true, "a3c3065d0daae64e3866cb99e1a04ac66bcbd52d8b5ede612574047559fb51e3") true
  yw (fun _ h=>by cases h) (by kernel_rfl) (fun _ h=>by cases h) fnCheckForm_row_tie rfl ⟨rfl,rfl⟩ (by kernel_rfl) rfl
  (fun f fn hf hfn=>by
   obtain rfl:f=8:=Option.some.inj ((show Tryz.prog.funcNamed "loop.example/handfast/laws.FnCheckForm" =some 8 by kernel_rfl).symm.trans hf)|>.symm
   obtain rfl:fn=Tryz.f8:=(Option.some.inj (Tryz.func8.symm.trans hfn)).symm
   exact⟨by kernel_rfl,fun j t ht=>by
    rw[Tryz.params8]at ht
    have hm:t∈[22]:=by simpa using Array.mem_of_getElem? ht
    have hall:([22].all fun u=>!Tryz.prog.wantsStandIn u)=true:=by kernel_rfl
    exact(show Tryz.prog.wantsStandIn t=false by simpa using aS.1 hall t hm)⟩)
  (by kernel_rfl)
#print axioms uK
end Go.Proofs.YtghekniakencpaaGreatDoor
