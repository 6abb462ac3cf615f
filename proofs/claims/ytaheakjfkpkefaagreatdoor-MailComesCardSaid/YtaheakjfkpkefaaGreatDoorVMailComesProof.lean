/- MailComes: for every list of parties and every mail the law returns true, and what came in uL as it did. The listed variables are as the program lays them. -/
import Derived.Test.YtaheakjfkpkefaaGreatDoorVMl12
import Derived.Test.YtaheakjfkpkefaaGreatDoorVJfMailComes
import Derived.ShutString
import Derived.ChangeOld
import Derived.Below
set_option maxHeartbeats 16000000
set_option maxRecDepth 100000
namespace Go.Proofs.YtaheakjfkpkefaaGreatDoor.mailComes
open Go.ChangeShapes Go.WideShapes Go.ChangeAt Go.RowKit
theorem own : ownKnob Tryz.prog.godebug=none:=by kernel_rfl
theorem dP : laidOutB Tryz.prog=true:=by kernel_rfl
theorem mY {W:World} (hL:laidMetH Tryz.prog Rows.mailComesRow.laid W):Laid W utfL:=
 kB (l:=Rows.mailComesRow.laid) (by rw [Go.MakeChecks.laidMetH_plain _ _ _ (by kernel_rfl)] at hL;exact hL) (List.mem_of_getElem? (i:=6) rfl) (List.mem_of_getElem? (i:=3) rfl)
theorem oN (H:Type) (enc:TypeId × Value→H) (W:World) (base:Nat) (args:Array Value) (ds gs:List (DataW H)) (before:List MemPlace)
 (hval0:∀(j:Nat) t v,Tryz.f5.params[j]?=some t→args[j]?=some v→Value.okWide Tryz.prog W .any base t v)
 (hW:DataW.Whole enc Tryz.prog Tryz.f5.params.toList Rows.mailComesSpec.vars false W args.toList ds gs before)
 (hsz0:(DataW.weightsEach Tryz.prog (Tryz.f5.params.toList++Rows.mailComesSpec.plain.varTypes Tryz.prog) (ds++gs)).all (·≤reachBytes)=true)
 (hL:laidMetH Tryz.prog Rows.mailComesRow.laid W) :
 Calls Tryz.prog 5 args W λe W'=>∃v,e=.returned v∧Rows.mailComesSpec.post enc Tryz.prog Tryz.f5 false true false false W args v W':=by
 have hval:=hval0;have hsz:=hsz0;have hW':=hW;have hLL:=hL;obtain ⟨p,q,hA0,hV,rfl,hfz,hnd⟩:=hW;have hA:DataW.TrodAll enc Tryz.prog W 0 (λ_=>true) true Tryz.f5.params.toList args.toList ds p:=hA0;rw [Tryz.params5] at hA hval hsz
 obtain ⟨v0,vs0,d0,ds0,p0,q0,hargs,rfl,rfl,h0,r0⟩:=trodAll_cons hA;obtain ⟨v1,vs1,d1,ds1,p1,q1,rfl,rfl,rfl,h1,r1⟩:=trodAll_cons r0;obtain ⟨rfl,rfl,rfl⟩:=trodAll_nil r1;obtain rfl:args = #[v0,v1]:=by cases args;simp_all
 obtain ⟨rfl,rfl⟩:=trodVars_none hV;obtain ⟨a0,len0,cap0,rfl⟩:=okWide_slice Tryz.underlying22 (hval 0 22 v0 X X);have k0:=h0;have lt0:∀x∈p0,x.block<W.heap.size:=by obtain ⟨m,hm⟩:=k0;exact DataW.trod_lt m _ _ _ hm
 obtain ⟨l,rfl,hoP,hrP,hnP⟩:∃l:List Pq,l.length=len0∧(∀b∈l,PqOk W b)∧Rd W a0 (l.length*10) (AD Pq.cells l)∧l.length≤reachBytes:=by
  obtain ⟨fuel,hf⟩:=h0;exact xB hf (Sized.of hsz (j:=0) X X)
 have k1:=h1;have lt1:∀x∈p1,x.block<W.heap.size:=by obtain ⟨m,hm⟩:=k1;exact DataW.trod_lt m _ _ _ hm
 obtain ⟨q,rfl,hq⟩:=tG (hval 1 26 v1 X X) h1 (Sized.of hsz (j:=1) X X)
 clear hA0 hval0
 have hU:=mY hL;rw [Go.MakeChecks.laidMetH_plain _ _ _ (by kernel_rfl)] at hL
 have hY:Lay0 W:=sY hL hU (List.mem_of_getElem? (i:=5) X) (List.mem_of_getElem? (i:=4) X);refine (TB a0 cap0 l q W ⟨hrP,hoP,hnP⟩ hq hY).mono λe W' ⟨he,hf⟩=>?_
 subst he;have bel:=hf.below;exact ⟨_,X,_,_,_,[],_,[],hW',trodAll_mk1 (shut_bool Tryz.underlying4 _),(trodAll_cons_mk (Below.trod dP (by kernel_rfl) (odt (by kernel_rfl)) k0 bel lt0) (trodAll_cons_mk (Below.trod dP (by kernel_rfl) (odt (by kernel_rfl)) k1 bel lt1) trodAll_mk0)),X,bel.frame _,λh=>by cases h⟩
def wit : Array Value := #[.slice none 0 0,.agg #[.string ⟨#[]⟩,.string ⟨#[]⟩,.slice none 0 0,.int .i64 0]]
noncomputable def QA (os:Os):World:=World.laidAll Tryz.prog os Rows.mailComesRow.laid
theorem mZ (os:Os):laidMet Tryz.prog Rows.mailComesRow.laid ((QA os).forCall (λ_ _=>0) ⟨#[],wit,[]⟩).memory:=
 laidMet_laidAll _ (by kernel_rfl) (by kernel_rfl)
def z6 {H:Type}:List (DataW H):=[.nil,.agg [.lit (.string []),.lit (.string []),.nil,.lit (.int .i64 0)]]
theorem uL (os:Os) {H:Type} (enc:TypeId × Value→H):∃places,DataW.whole enc Tryz.prog ((QA os).forCall (λ_ _=>0) ⟨#[],wit,[]⟩).memory Tryz.f5.params.toList Rows.mailComesSpec.vars false wit.toList 8=some (z6,[],places):=
 ⟨[],by kernel_rfl⟩
theorem wT (os:Os) (started:os.Started) (H:Type) (enc:TypeId × Value→H) (F:Stop.Interp) :
 ReturnsInHanded {} Tryz.checked os 5 .any ((OpenSpec.ofChange Rows.mailComesSpec).preRow enc Tryz.prog Tryz.f5 Rows.mailComesRow.domain false Rows.mailComesRow.laid) (((OpenSpec.ofChange Rows.mailComesSpec).at F).post enc Tryz.prog Tryz.f5 false true false false):=by
 obtain ⟨places,hx⟩:=uL os enc
 refine returnsInHanded_of_row (C:=Tryz.checked) (s:=(OpenSpec.ofChange Rows.mailComesSpec)) own started (by kernel_rfl) Tryz.func5
  (XK (enc:=enc) (C:=Tryz.checked) false (QA os) wit (World.laidAll_os _ _ _) (by kernel_rfl) (by kernel_rfl) (by kernel_rfl)
   (OpenSpec.preRow_of_cond 8 hx (by kernel_rfl) (λk hk=>by cases hk) (by kernel_rfl) (mZ os))) ?_
 intro W base args ds gs before hval hW _ hcond hsz hL _ _;exact oN H enc W base args ds gs before hval hW hsz hL
theorem zD : Rows.MailComesSaid:=
 OpenClaim.holds_of_cond 5 Tryz.f5 rfl rfl rfl rfl rfl rfl rfl ⟨rfl,rfl,rfl,rfl,rfl⟩ rfl rfl rfl rfl rfl (by kernel_rfl) Tryz.func5 xS
  (odt (by kernel_rfl)) (by unfold Func.isWrapper;first|(rw [if_pos (by decide +kernel)];kernel_rfl)|(rw [if_neg (by decide +kernel)];exact ⟨rfl,rfl⟩))
  (λos started H enc _ F=>by rw [OpenClaim.pre_eq_preRow];exact wT os started H enc F)
theorem plain (f : FuncId) (fn : Func) (hf : Tryz.pinned.checked.prog.funcNamed "tollgate/tollgatelaw23.MailComes" = some f) (hfn : Tryz.pinned.checked.prog.funcs[f]? = some fn) :
 true=Tryz.pinned.checked.prog.looks []∧∀(j:Nat) t,fn.params[j]?=some t→Tryz.pinned.checked.prog.wantsStandIn t=false:=by
 obtain rfl : f = 5 := Option.some.inj ((show Tryz.prog.funcNamed "tollgate/tollgatelaw23.MailComes" = some 5 by kernel_rfl).symm.trans hf) |>.symm
 obtain rfl:fn=Tryz.f5:=(Option.some.inj (Tryz.func5.symm.trans hfn)).symm;refine ⟨by kernel_rfl,λj t ht=>?_⟩;rw [Tryz.params5] at ht
 match j with
 | 0=>obtain rfl:22=t:=Option.some.inj ht;show Tryz.prog.wantsStandIn 22=false;kernel_rfl
 | 1=>obtain rfl:26=t:=Option.some.inj ht;show Tryz.prog.wantsStandIn 26=false;kernel_rfl
 | j+2=>simp at ht
theorem card : Rows.MailComesCardSaid:=
 Claim7.holds_tied_plain_at .later [] _ _ _ _ zD (λ_ h=>by cases h) (by kernel_rfl) (λ_ h=>by cases h) mailComes_row_tie rfl ⟨rfl,rfl⟩ (by kernel_rfl) rfl plain (by kernel_rfl)
#print axioms card
end Go.Proofs.YtaheakjfkpkefaaGreatDoor.mailComes
