/- MailKeeps: for every list of mails, every mail, every list of parties and every clock the law returns true, and what came in a19 as it did. The listed variables are as the program lays them. -/
import Derived.Test.YtppmdnmjepkfaaaGreatDoorYMk2
import Derived.Test.YtppmdnmjepkfaaaGreatDoorYJfMailKeeps
import Derived.ShutString
import Derived.ChangeOld
import Derived.Below
set_option maxHeartbeats 16000000
set_option maxRecDepth 100000
namespace Go.Proofs.YtppmdnmjepkfaaaGreatDoor.mailKeeps
open Go.ChangeShapes Go.WideShapes Go.ChangeAt Go.RowKit
open Option renaming some→G,none→zx
open Bool renaming true→zz,false→zy
open Go renaming Calls→zt,reachBytes→zu
theorem own : ownKnob Tryz.prog.godebug=zx:=zr
theorem bT : laidOutB Tryz.prog=zz:=zr
theorem uO {W:World} (hL:laidMetH Tryz.prog Rows.mailKeepsRow.laid W):Laid W utfL:=
 qX (l:=Rows.mailKeepsRow.laid) (by rw [Go.MakeChecks.laidMetH_plain _ _ _ zr] at hL;exact hL) (Ah (i:=6) rfl) (Ah (i:=3) rfl)
theorem wM (H:Type) (enc:Ly × Kv→H) (W:Kw) (base:Nat) (args:Array Kv) (ds gs:List (DataW H)) (before:List MemPlace)
 (hval0:∀(j:Nat) t v,Tryz.f4.params[j]?=G t→args[j]?=G v→Value.okWide Tryz.prog W .any base t v)
 (hW:DataW.Whole enc Tryz.prog Tryz.f4.params.toList Rows.mailKeepsSpec.vars zy W args.toList ds gs before)
 (hsz0:(DataW.weightsEach Tryz.prog (Tryz.f4.params.toList++Rows.mailKeepsSpec.plain.varTypes Tryz.prog) (ds++gs)).all (·≤zu)=zz)
 (hL:laidMetH Tryz.prog Rows.mailKeepsRow.laid W) :
 zt Tryz.prog 4 args W λe W'=>∃v,e=.returned v∧Rows.mailKeepsSpec.post enc Tryz.prog Tryz.f4 zy zz zy zy W args v W':=by
 have hval:=hval0;have hsz:=hsz0;have hW':=hW;have hLL:=hL;obtain ⟨p,q,hA0,hV,rfl,hfz,hnd⟩:=hW;have hA:DataW.TrodAll enc Tryz.prog W 0 (λ_=>zz) zz Tryz.f4.params.toList args.toList ds p:=hA0;rw [Tryz.params4] at hA hval hsz
 obtain ⟨v0,vs0,d0,ds0,p0,q0,hargs,rfl,rfl,h0,r0⟩:=trodAll_cons hA;obtain ⟨v1,vs1,d1,ds1,p1,q1,rfl,rfl,rfl,h1,r1⟩:=trodAll_cons r0;obtain ⟨v2,vs2,d2,ds2,p2,q2,rfl,rfl,rfl,h2,r2⟩:=trodAll_cons r1;obtain ⟨v3,vs3,d3,ds3,p3,q3,rfl,rfl,rfl,h3,r3⟩:=trodAll_cons r2;obtain ⟨rfl,rfl,rfl⟩:=trodAll_nil r3;obtain rfl:args = #[v0,v1,v2,v3]:=by cases args;simp_all
 obtain ⟨rfl,rfl⟩:=trodVars_none hV;obtain ⟨a0,len0,cap0,rfl⟩:=okWide_slice Tryz.underlying52 (hval 0 52 v0 X X);have k0:=h0;have lt0:∀x∈p0,x.block<W.heap.size:=by obtain ⟨m,hm⟩:=k0;exact DataW.trod_lt m _ _ _ hm
 obtain ⟨ms,rfl,hoM,hrM⟩:∃l:List Mq,l.length=len0∧(∀b∈l,MqB W b)∧Rd W a0 (l.length*4) (AF Mq.cells l):=by
  obtain ⟨fuel,hf⟩:=h0;exact p8 hf (Sized.of hsz (j:=0) X X)
 have k1:=h1;have lt1:∀x∈p1,x.block<W.heap.size:=by obtain ⟨m,hm⟩:=k1;exact DataW.trod_lt m _ _ _ hm
 obtain ⟨q,rfl,hq⟩:=vB (hval 1 25 v1 X X) h1 (Sized.of hsz (j:=1) X X);obtain ⟨a2,len2,cap2,rfl⟩:=okWide_slice Tryz.underlying22 (hval 2 22 v2 X X);have k2:=h2;have lt2:∀x∈p2,x.block<W.heap.size:=by obtain ⟨m,hm⟩:=k2;exact DataW.trod_lt m _ _ _ hm
 obtain ⟨l,rfl,hoP,hrP,hnP⟩:∃l:List Pq,l.length=len2∧(∀b∈l,PqOk W b)∧Rd W a2 (l.length*10) (AF Pq.cells l)∧l.length≤zu:=by
  obtain ⟨fuel,hf⟩:=h2;exact a2x hf (Sized.of hsz (j:=2) X X)
 obtain ⟨a3,rfl,rfl,rfl,w3⟩:=open_int Tryz.underlying3 (hval 3 3 v3 X X) h3
 clear hA0 hval0
 have hU:=uO hL;rw [Go.MakeChecks.laidMetH_plain _ _ _ zr] at hL
 have hY:Lay0 W:=a0g hL hU (Ah (i:=5) X) (Ah (i:=4) X);refine (X7 a0 cap0 ms q a2 cap2 l a3 W hrM hoM hq ⟨hrP,hoP,hnP⟩ hY).mono λe W' ⟨he,hf⟩=>?_
 subst he;have bel:=hf.below;exact ⟨_,X,_,_,_,[],_,[],hW',trodAll_mk1 (shut_bool Tryz.underlying4 _),(trodAll_cons_mk (Below.trod bT zr (odt zr) k0 bel lt0) (trodAll_cons_mk (Below.trod bT zr (odt zr) k1 bel lt1) (trodAll_cons_mk (Below.trod bT zr (odt zr) k2 bel lt2) (trodAll_cons_mk (shut_int Tryz.underlying3 w3) trodAll_mk0)))),X,bel.frame _,λh=>by cases h⟩
def wit : Array Kv := #[.slice zx 0 0,.agg #[.string ⟨#[]⟩,.string ⟨#[]⟩,.slice zx 0 0,.int .i64 0],.slice zx 0 0,.int .i64 0]
noncomputable def TQ (os:Os):World:=World.laidAll Tryz.prog os Rows.mailKeepsRow.laid
theorem uP (os:Os):laidMet Tryz.prog Rows.mailKeepsRow.laid ((TQ os).forCall (λ_ _=>0) ⟨#[],wit,[]⟩).memory:=
 laidMet_laidAll _ zr zr
def a3y {H:Type}:List (DataW H):=[.nil,.agg [.lit (.string []),.lit (.string []),.nil,.lit (.int .i64 0)],.nil,.lit (.int .i64 0)]
theorem a19 (os:Os) {H:Type} (enc:TypeId × Value→H):∃places,DataW.whole enc Tryz.prog ((TQ os).forCall (λ_ _=>0) ⟨#[],wit,[]⟩).memory Tryz.f4.params.toList Rows.mailKeepsSpec.vars zy wit.toList 8=G (a3y,[],places):=
 ⟨[],zr⟩
theorem a2p (os:Os) (started:os.Started) (H:Type) (enc:Ly × Kv→H) (F:Stop.Interp) :
 ReturnsInHanded {} Tryz.checked os 4 .any ((OpenSpec.ofChange Rows.mailKeepsSpec).preRow enc Tryz.prog Tryz.f4 Rows.mailKeepsRow.domain zy Rows.mailKeepsRow.laid) (((OpenSpec.ofChange Rows.mailKeepsSpec).at F).post enc Tryz.prog Tryz.f4 zy zz zy zy):=by
 obtain ⟨places,hx⟩:=a19 os enc
 refine returnsInHanded_of_row (C:=Tryz.checked) (s:=(OpenSpec.ofChange Rows.mailKeepsSpec)) own started zr Tryz.func4
  (dH (enc:=enc) (C:=Tryz.checked) zy (TQ os) wit (World.laidAll_os _ _ _) zr zr zr
   (OpenSpec.preRow_of_cond 8 hx zr (λk hk=>by cases hk) zr (uP os))) ?_
 intro W base args ds gs before hval hW _ hcond hsz hL _ _;exact wM H enc W base args ds gs before hval hW hsz hL
theorem a3N : Rows.MailKeepsSaid:=
 OpenClaim.holds_of_cond 4 Tryz.f4 rfl rfl rfl rfl rfl rfl rfl ⟨rfl,rfl,rfl,rfl,rfl⟩ rfl rfl rfl rfl rfl zr Tryz.func4 a2K
  (odt zr) (by unfold Func.isWrapper;first|(rw [Ac (by decide +kernel)];kernel_rfl)|(rw [Ae (by decide +kernel)];exact ⟨rfl,rfl⟩))
  (λos started H enc _ F=>by rw [OpenClaim.pre_eq_preRow];exact a2p os started H enc F)
theorem plain (f : FuncId) (fn : Func) (hf : Tryz.pinned.checked.prog.funcNamed "tollgate/tollgatelaw23.MailKeeps" = some f) (hfn : Tryz.pinned.checked.prog.funcs[f]? = some fn) :
 zz=Tryz.pinned.checked.prog.looks []∧∀(j:Nat) t,fn.params[j]?=G t→Tryz.pinned.checked.prog.wantsStandIn t=zy:=by
 obtain rfl : f = 4 := Option.some.inj ((show Tryz.prog.funcNamed "tollgate/tollgatelaw23.MailKeeps" = some 4 by kernel_rfl).symm.trans hf) |>.symm
 obtain rfl:fn=Tryz.f4:=(Bz (Tryz.func4.symm.trans hfn)).symm;refine ⟨zr,λj t ht=>?_⟩;rw [Tryz.params4] at ht
 match j with
 | 0=>obtain rfl:52=t:=Bz ht;show Tryz.prog.wantsStandIn 52=zy;kernel_rfl
 | 1=>obtain rfl:25=t:=Bz ht;show Tryz.prog.wantsStandIn 25=zy;kernel_rfl
 | 2=>obtain rfl:22=t:=Bz ht;show Tryz.prog.wantsStandIn 22=zy;kernel_rfl
 | 3=>obtain rfl:3=t:=Bz ht;show Tryz.prog.wantsStandIn 3=zy;kernel_rfl
 | j+4=>simp at ht
theorem card : Rows.MailKeepsCardSaid:=
 Claim7.holds_tied_plain_at .later [] _ _ _ _ a3N (λ_ h=>by cases h) zr (λ_ h=>by cases h) mailKeeps_row_tie rfl ⟨rfl,rfl⟩ zr rfl plain zr
#print axioms card
end Go.Proofs.YtppmdnmjepkfaaaGreatDoor.mailKeeps
