/- MailFinds: for every list of parties and every mail the law returns true, and what came in a0m as it did. The listed variables are as the program lays them. -/
import Derived.Test.YtppmdnmjepkfaaaGreatDoorYR23b
import Derived.Test.YtppmdnmjepkfaaaGreatDoorYJfMailFinds
import Derived.ShutString
import Derived.ChangeOld
import Derived.Below
set_option maxHeartbeats 16000000
set_option maxRecDepth 100000
namespace Go.Proofs.YtppmdnmjepkfaaaGreatDoor.mailFinds
open Go.ChangeShapes Go.WideShapes Go.ChangeAt Go.RowKit
theorem own : ownKnob Tryz.prog.godebug=none:=by kernel_rfl
theorem lM : laidOutB Tryz.prog=true:=by kernel_rfl
theorem tF {W:World} (hL:laidMetH Tryz.prog Rows.mailFindsRow.laid W):Laid W utfL:=
 pU (l:=Rows.mailFindsRow.laid) (by rw [Go.MakeChecks.laidMetH_plain _ _ _ (by kernel_rfl)] at hL;exact hL) (Ac (i:=6) rfl) (Ac (i:=3) rfl)
theorem uR (H:Type) (enc:Ly × Kv→H) (W:Kw) (base:Nat) (args:Array Kv) (ds gs:List (DataW H)) (before:List MemPlace)
 (hval0:∀(j:Nat) t v,Tryz.f3.params[j]?=some t→args[j]?=some v→Value.okWide Tryz.prog W .any base t v)
 (hW:DataW.Whole enc Tryz.prog Tryz.f3.params.toList Rows.mailFindsSpec.vars false W args.toList ds gs before)
 (hsz0:(DataW.weightsEach Tryz.prog (Tryz.f3.params.toList++Rows.mailFindsSpec.plain.varTypes Tryz.prog) (ds++gs)).all (·≤reachBytes)=true)
 (hL:laidMetH Tryz.prog Rows.mailFindsRow.laid W) :
 Calls Tryz.prog 3 args W λe W'=>∃v,e=.returned v∧Rows.mailFindsSpec.post enc Tryz.prog Tryz.f3 false true false false W args v W':=by
 have hval:=hval0;have hsz:=hsz0;have hW':=hW;have hLL:=hL;obtain ⟨p,q,hA0,hV,rfl,hfz,hnd⟩:=hW;have hA:DataW.TrodAll enc Tryz.prog W 0 (λ_=>true) true Tryz.f3.params.toList args.toList ds p:=hA0;rw [Tryz.params3] at hA hval hsz
 obtain ⟨v0,vs0,d0,ds0,p0,q0,hargs,rfl,rfl,h0,r0⟩:=trodAll_cons hA;obtain ⟨v1,vs1,d1,ds1,p1,q1,rfl,rfl,rfl,h1,r1⟩:=trodAll_cons r0;obtain ⟨rfl,rfl,rfl⟩:=trodAll_nil r1;obtain rfl:args = #[v0,v1]:=by cases args;simp_all
 obtain ⟨rfl,rfl⟩:=trodVars_none hV;obtain ⟨a0,len0,cap0,rfl⟩:=okWide_slice Tryz.underlying22 (hval 0 22 v0 X X);have k0:=h0;have lt0:∀x∈p0,x.block<W.heap.size:=by obtain ⟨m,hm⟩:=k0;exact DataW.trod_lt m _ _ _ hm
 obtain ⟨l,rfl,hoP,hrP,hnP⟩:∃l:List Pq,l.length=len0∧(∀b∈l,PqOk W b)∧Rd W a0 (l.length*10) (AE Pq.cells l)∧l.length≤reachBytes:=by
  obtain ⟨fuel,hf⟩:=h0;exact a1L hf (Sized.of hsz (j:=0) X X)
 have k1:=h1;have lt1:∀x∈p1,x.block<W.heap.size:=by obtain ⟨m,hm⟩:=k1;exact DataW.trod_lt m _ _ _ hm
 obtain ⟨q,rfl,hq⟩:=zM (hval 1 25 v1 X X) h1 (Sized.of hsz (j:=1) X X)
 clear hA0 hval0
 have hU:=tF hL;rw [Go.MakeChecks.laidMetH_plain _ _ _ (by kernel_rfl)] at hL
 have hY:Lay0 W:=z6 hL hU (Ac (i:=5) X) (Ac (i:=4) X);refine (WW a0 cap0 l q W ⟨hrP,hoP,hnP⟩ hq hY).mono λe W' ⟨he,hf⟩=>?_
 subst he;have bel:=hf.below;exact ⟨_,X,_,_,_,[],_,[],hW',trodAll_mk1 (shut_bool Tryz.underlying4 _),(trodAll_cons_mk (Below.trod lM (by kernel_rfl) (odt (by kernel_rfl)) k0 bel lt0) (trodAll_cons_mk (Below.trod lM (by kernel_rfl) (odt (by kernel_rfl)) k1 bel lt1) trodAll_mk0)),X,bel.frame _,λh=>by cases h⟩
def wit : Array Kv := #[.slice none 0 0,.agg #[.string ⟨#[]⟩,.string ⟨#[]⟩,.slice none 0 0,.int .i64 0]]
noncomputable def SZ (os:Os):World:=World.laidAll Tryz.prog os Rows.mailFindsRow.laid
theorem tG (os:Os):laidMet Tryz.prog Rows.mailFindsRow.laid ((SZ os).forCall (λ_ _=>0) ⟨#[],wit,[]⟩).memory:=
 laidMet_laidAll _ (by kernel_rfl) (by kernel_rfl)
def a2L {H:Type}:List (DataW H):=[.nil,.agg [.lit (.string []),.lit (.string []),.nil,.lit (.int .i64 0)]]
theorem a0m (os:Os) {H:Type} (enc:TypeId × Value→H):∃places,DataW.whole enc Tryz.prog ((SZ os).forCall (λ_ _=>0) ⟨#[],wit,[]⟩).memory Tryz.f3.params.toList Rows.mailFindsSpec.vars false wit.toList 8=some (a2L,[],places):=
 ⟨[],by kernel_rfl⟩
theorem a1D (os:Os) (started:os.Started) (H:Type) (enc:Ly × Kv→H) (F:Stop.Interp) :
 ReturnsInHanded {} Tryz.checked os 3 .any ((OpenSpec.ofChange Rows.mailFindsSpec).preRow enc Tryz.prog Tryz.f3 Rows.mailFindsRow.domain false Rows.mailFindsRow.laid) (((OpenSpec.ofChange Rows.mailFindsSpec).at F).post enc Tryz.prog Tryz.f3 false true false false):=by
 obtain ⟨places,hx⟩:=a0m os enc
 refine returnsInHanded_of_row (C:=Tryz.checked) (s:=(OpenSpec.ofChange Rows.mailFindsSpec)) own started (by kernel_rfl) Tryz.func3
  (cO (enc:=enc) (C:=Tryz.checked) false (SZ os) wit (World.laidAll_os _ _ _) (by kernel_rfl) (by kernel_rfl) (by kernel_rfl)
   (OpenSpec.preRow_of_cond 8 hx (by kernel_rfl) (λk hk=>by cases hk) (by kernel_rfl) (tG os))) ?_
 intro W base args ds gs before hval hW _ hcond hsz hL _ _;exact uR H enc W base args ds gs before hval hW hsz hL
theorem a30 : Rows.MailFindsSaid:=
 OpenClaim.holds_of_cond 3 Tryz.f3 rfl rfl rfl rfl rfl rfl rfl ⟨rfl,rfl,rfl,rfl,rfl⟩ rfl rfl rfl rfl rfl (by kernel_rfl) Tryz.func3 a1Y
  (odt (by kernel_rfl)) (by unfold Func.isWrapper;first|(rw [if_pos (by decide +kernel)];kernel_rfl)|(rw [if_neg (by decide +kernel)];exact ⟨rfl,rfl⟩))
  (λos started H enc _ F=>by rw [OpenClaim.pre_eq_preRow];exact a1D os started H enc F)
theorem plain (f : FuncId) (fn : Func) (hf : Tryz.pinned.checked.prog.funcNamed "tollgate/tollgatelaw23.MailFinds" = some f) (hfn : Tryz.pinned.checked.prog.funcs[f]? = some fn) :
 true=Tryz.pinned.checked.prog.looks []∧∀(j:Nat) t,fn.params[j]?=some t→Tryz.pinned.checked.prog.wantsStandIn t=false:=by
 obtain rfl : f = 3 := Option.some.inj ((show Tryz.prog.funcNamed "tollgate/tollgatelaw23.MailFinds" = some 3 by kernel_rfl).symm.trans hf) |>.symm
 obtain rfl:fn=Tryz.f3:=(Bs (Tryz.func3.symm.trans hfn)).symm;refine ⟨by kernel_rfl,λj t ht=>?_⟩;rw [Tryz.params3] at ht
 match j with
 | 0=>obtain rfl:22=t:=Bs ht;show Tryz.prog.wantsStandIn 22=false;kernel_rfl
 | 1=>obtain rfl:25=t:=Bs ht;show Tryz.prog.wantsStandIn 25=false;kernel_rfl
 | j+2=>simp at ht
theorem card : Rows.MailFindsCardSaid:=
 Claim7.holds_tied_plain_at .later [] _ _ _ _ a30 (λ_ h=>by cases h) (by kernel_rfl) (λ_ h=>by cases h) mailFinds_row_tie rfl ⟨rfl,rfl⟩ (by kernel_rfl) rfl plain (by kernel_rfl)
#print axioms card
end Go.Proofs.YtppmdnmjepkfaaaGreatDoor.mailFinds
