/- Lemmas. -/
import Derived.Test.YtaheakjfkpkefaaGreatDoorVMv5
set_option maxHeartbeats 16000000
set_option maxRecDepth 100000
namespace Go.Proofs.YtaheakjfkpkefaaGreatDoor
open Go.RowKit
open Tryz
def Tk.same (a b:Tk):Bool:=decide (a.id=b.id)&&(decide (a.loc=b.loc)&&(decide (a.on=b.on)&&(decide (a.born=b.born)&&(decide (a.tries=b.tries)&&(decide (a.worker=b.worker)&&(decide (a.until_=b.until_)&&(decide ((a.inc.toNat:Int)=(b.inc.toNat:Int))&&(decide (a.err=b.err)))))))))
theorem kH : prog.eqGuardType prog.depth 56=false:=by kernel_rfl
theorem qU : prog.stoodInHeld 56=false:=by kernel_rfl
theorem fG : prog.underlying 56=some (.struct (prog.fieldsOf 56)):=by kernel_rfl
theorem vM {w:World} (a b:Tk):(Op.equalIn 10000 56 (.agg a.cells.toArray) (.agg b.cells.toArray)).run prog w=.ok (a.same b) w:=by
 have s_:∀(u v:List UInt8),(Op.equalIn 9999 9 (str u) (str v)).run prog w=.ok (decide (u=v)) w:=λu v=>by
  have:=run_equalIn_string (P:=prog) w 9998 9 ⟨u.toArray⟩ ⟨v.toArray⟩ underlying9
  unfold str;rw [this,ByteArray.toList_eq,ByteArray.toList_eq]
  by_cases huv:u=v<;>simp [huv]
 have i_:∀(t:Nat) (k:IntKind) (u v:Int),prog.underlying t=some (.int k)→(Op.equalIn 9999 t (.int k u) (.int k v)).run prog w=.ok (decide (u=v)) w:=λt k u v ht=>by
  have:=run_equalIn_int (P:=prog) w 9998 t k k u v ht
  rw [this];by_cases huv:u=v<;>simp [huv]
 rw [run_equalIn_struct w 9999 56 _ _ fG qU];have hl:(prog.fieldsOf 56).toList=(match prog.underlying 56 with|some (.struct fs)=>fs.toList|_=>[]):=by unfold Program.fieldsOf;rw [underlying56]
 rw [hl,underlying56]
 simp only
 have E_:=isAgg51 w;have N_:=isAgg3 w;have S_:=isAgg9 w;have U_:=isAgg5 w;rw [BC (a:=AC a.id) (b:=AC b.id) B3 (B8 N_ rfl) (B8 N_ rfl) (i_ _ _ _ _ underlying3)];refine E5 ?_;rw [BC (a:=str a.loc) (b:=str b.loc) B3 (B8 S_ rfl) (B8 S_ rfl) (s_ _ _)];refine E5 ?_;rw [BC (a:=str a.on) (b:=str b.on) B3 (B8 S_ rfl) (B8 S_ rfl) (s_ _ _)];refine E5 ?_;rw [BC (a:=AC a.born) (b:=AC b.born) B3 (B8 N_ rfl) (B8 N_ rfl) (i_ _ _ _ _ underlying3)];refine E5 ?_;rw [BC (a:=AC a.tries) (b:=AC b.tries) B3 (B8 N_ rfl) (B8 N_ rfl) (i_ _ _ _ _ underlying3)];refine E5 ?_;rw [BC (a:=str a.worker) (b:=str b.worker) B3 (B8 S_ rfl) (B8 S_ rfl) (s_ _ _)];refine E5 ?_;rw [BC (a:=AC a.until_) (b:=AC b.until_) B3 (B8 N_ rfl) (B8 N_ rfl) (i_ _ _ _ _ underlying3)];refine E5 ?_;rw [BC (a:=.int .u8 (a.inc.toNat:Int)) (b:=.int .u8 (b.inc.toNat:Int)) B3 (B8 U_ rfl) (B8 U_ rfl) (i_ _ _ _ _ underlying5)];refine E5 ?_;rw [BC (a:=AC a.err) (b:=AC b.err) B3 (B8 E_ rfl) (B8 E_ rfl) (i_ _ _ _ _ underlying51),LK]
 cases (decide (a.err=b.err))<;>rfl
theorem PX {e:Env} {w:World} {o:Oper} {t':Nat} {x y:Operand} {a b:Tk} (ho:o.op=.binOp .eql 56 x y t') (hx:ev e x=some (.agg a.cells.toArray)) (hy:ev e y=some (.agg b.cells.toArray)):Y prog e o w (.bool (a.same b)):=λρ h=>by
 have h1:ρ x=.agg a.cells.toArray:=h _ _ hx;have h2:ρ y=.agg b.cells.toArray:=h _ _ hy;have hg:=run_eqGuard_agg (P:=prog) w .eql 56 x y a.cells.toArray b.cells.toArray kH;unfold execOp;simp only [ho,h1,h2,Sem.run_bind,hg,Result.andThen_ok,run_eql_struct,vM a b]
 rfl
theorem OM (a0:Int) (a1:List UInt8) (a3:Int):prog.built 56 [(0,AC a0),(1,str a1),(3,AC a3)]=some #[AC a0,str a1,str [],AC a3,AC 0,str [],AC 0,.int .u8 0,AC 0]:=by kernel_rfl
theorem KX (a0:Int) (a2:List UInt8):prog.built 56 [(0,AC a0),(2,str a2)]=some #[AC a0,str [],str a2,AC 0,AC 0,str [],AC 0,.int .u8 0,AC 0]:=by kernel_rfl
theorem B4 : (prog.info? 56).map (·.size)=some 9:=by kernel_rfl
theorem EM : (prog.info? 56).map (·.zero)=some (some (.agg #[AC 0,str [],str [],AC 0,AC 0,str [],AC 0,.int .u8 0,AC 0])):=by kernel_rfl
def ET (m:Md) (c:CrA) (t:Tk):Bool:=(if (decide (t.loc=[]))=true then (if ((decide (((c.atf ((c.flf t.on).tg)).kind.toNat:Int)=(5:Int)))&&(decide ((1:Int)<(((c.outs ((c.atf ((c.flf t.on).tg)).id)).length:Nat):Int))))=true then (((c.isF t.on)&&(((decide (((c.atf ((c.flf t.on).tg)).kind.toNat:Int)=(5:Int)))&&(decide ((1:Int)<(((c.outs ((c.atf ((c.flf t.on).tg)).id)).length:Nat):Int)))) || (decide (((c.atf ((c.flf t.on).tg)).kind.toNat:Int)=(6:Int)))))&&(Tk.same t (⟨t.id,[],t.on,0,0,[],0,1,91⟩:Tk))) else (((c.isF t.on)&&(((decide (((c.atf ((c.flf t.on).tg)).kind.toNat:Int)=(5:Int)))&&(decide ((1:Int)<(((c.outs ((c.atf ((c.flf t.on).tg)).id)).length:Nat):Int)))) || (decide (((c.atf ((c.flf t.on).tg)).kind.toNat:Int)=(6:Int)))))&&(Tk.same t (⟨t.id,[],t.on,0,0,[],0,0,0⟩:Tk)))) else (if (decide (((c.atf t.loc).kind.toNat:Int)=(4:Int)))=true then (if (decide (t.tries=(0:Int)))=true then ((((c.isA t.loc)&&(Tk.same t (⟨t.id,t.loc,[],t.born,t.tries,[],0,2,0⟩:Tk)))&&(decide ((0:Int)≤t.tries)))&&(decide (t.tries≤(100:Int)))) else ((((c.isA t.loc)&&(Tk.same t (⟨t.id,t.loc,[],t.born,t.tries,t.worker,t.until_,0,0⟩:Tk)))&&(decide ((0:Int)≤t.tries)))&&(decide (t.tries≤(100:Int))))) else (if (decide (((c.atf t.loc).kind.toNat:Int)=(8:Int)))=true then (((c.isA t.loc)&&(Tk.same t (⟨t.id,t.loc,[],t.born,0,[],0,0,0⟩:Tk)))&&(!(TL m t.loc).2)) else (((c.isA t.loc)&&(Tk.same t (⟨t.id,t.loc,[],t.born,0,[],0,0,0⟩:Tk)))&&((decide (((c.atf t.loc).kind.toNat:Int)=(3:Int))) || (decide (((c.atf t.loc).kind.toNat:Int)=(7:Int))))))))
theorem SU (m:Md) (gc:Nat) (c:CrA) (F:List Nat) (t:Tk) (w:World) (ho:MdOk m) (hC:CourseN w m gc c F) :
 Calls prog 31 #[pg gc,.agg t.cells.toArray] w (BI w (.bool (ET m c t))):=by
 refine BH func31 ntmps31 X λM=>srg (CC M X X λg3 w1 hg3 M=>AJ X (sx_seq (AE X (AU M 0 X X X (ya X (CX X X X) (nq ?_))))))
 refine AF X (λh17=>?_) (λh17=>?_)
 ·refine sx_seq (GP M 13 CH λM=>oc 0 13 X X M (oc 1 13 X X M (oc 2 13 X X M (ol 3 13 X X X M (λ_ M=>(Blk.c ((hC.fr0 M.fr).blk) 6 X)) (oc 4 13 X X M (ol 5 13 X X X M (λ_ M=>(M.cell 0 X X)) (oa 6 13 X X M (λ_ M=>DM X X X underlying86 underlying9 EN ((hC.fr0 M.fr).L) (hC.getL _) (hC.isL _)) (oc 7 13 X X M (oc 8 13 X X M (oc 9 13 X X M (fon M 10 5 X X EN λg5 w2 hg5 M=>fop M 11 0 X X X CM X (·.drop 1) λw3 M=>oc 12 13 X X (M.drop 1) (fdn ?_))))))))))));refine qx_seq (sx_seq (GP M 9 CH λM=>oc 0 9 X X M (oc 1 9 X X M (oc 2 9 X X M (ol 3 9 X X X M (λ_ M=>(Blk.c ((hC.fr0 M.fr).blk) 5 X)) (oc 4 9 X X M (ol 5 9 X X X M (λ_ M=>(M.cell 0 X X)) (oa 6 9 X X M (λ_ M=>BK X X X underlying85 underlying9 AT ((hC.fr0 M.fr).A) (hC.getA _)) (fon M 7 7 X X AT λg7 w4 hg7 M=>fop M 8 0 X X X AQ X (·.drop 1) λw5 M=>fdn (qx_seq (sx_seq (E8 CH gkr ?_))))))))))));have M:=M.drew;refine sb X (EB M 0 X X X (sa X (C9 X X X) (sb X (fvs 10 [7,6,3] [(48,.bool ((decide (((c.atf ((c.flf t.on).tg)).kind.toNat:Int)=5))&&(decide (1<((c.outs ((c.atf ((c.flf t.on).tg)).id)).length:Int)))))] ?_ (λk38=>?_)))))
  ·refine sb X (EX (qx_seq (AE X (AU M 2 X X X (yb X (AU M 2 X X X (ya X (AY (parts:=[(0,_),(2,_)]) X X (KX _ _)) (CI M X EM λg9 w6 hg9 M=>BD M 0 X X B4 X λw7 M=>nq ?_))))))));refine sx_seq (srg (AJ X (AF X (λh54=>?_) (λh54=>?_))))
   ·refine sx_region (yb X (gp1 M 0 X X X KE λw8 M=>yb X (gp1 M 0 X X X L4 λw9 M=>nq (AE X (yb X (fvm M 7 [9,3] [(65,.bool ((c.isF t.on)&&(((decide (((c.atf ((c.flf t.on).tg)).kind.toNat:Int)=5))&&(decide (1<((c.outs ((c.atf ((c.flf t.on).tg)).id)).length:Int)))) || (decide (((c.atf ((c.flf t.on).tg)).kind.toNat:Int)=6)))))] ?_ (λk58=>?_)))))))
    ·intro w10 M;refine yb X (fvm M 4 [] [(70,.bool (((c.isF t.on)&&(((decide (((c.atf ((c.flf t.on).tg)).kind.toNat:Int)=5))&&(decide (1<((c.outs ((c.atf ((c.flf t.on).tg)).id)).length:Int)))) || (decide (((c.atf ((c.flf t.on).tg)).kind.toNat:Int)=6))))&&(Tk.same t (⟨t.id,[],t.on,0,0,[],0,1,91⟩:Tk))))] ?_ (λk66=>?_))
     ·intro w11 M;exact yb X (gnr (qx_then_ret (gr1 X ⟨by rw [ET,if_pos h17,if_pos h54],M.fr⟩)))
     refine AI (d:=66) X (λh66=>?_) (λh66=>?_)
     ·exact yd X (AK (xs:=Tk.cells t) X X (M.rdBlk 3 X X) underlying56 X B4) (yd X (AK (xs:=[AC t.id,str [],str t.on,AC 0,AC 0,str [],AC 0,.int .u8 1,AC 91]) X X (M.rdBlk 0 X X) underlying56 X B4) (yd X (PX (a:=t) (b:=(⟨t.id,[],t.on,0,0,[],0,1,91⟩:Tk)) X X X) (yb X (k66 M ⟨(by rw [h66];rfl),trivial⟩))))
     ·exact yo X (yo X (yo X (yb X (k66 M ⟨(by rw [h66];rfl),trivial⟩))))
    refine AI (d:=58) X (λh58=>?_) (λh58=>?_)
    ·refine gyq X (gyq X (fvm M 4 [58,9,3] [(64,.bool (((decide (((c.atf ((c.flf t.on).tg)).kind.toNat:Int)=5))&&(decide (1<((c.outs ((c.atf ((c.flf t.on).tg)).id)).length:Int)))) || (decide (((c.atf ((c.flf t.on).tg)).kind.toNat:Int)=6))))] ?_ (λk60=>?_)))
     ·intro w12 M;exact yb X (k58 M ⟨X,X,(by rw [h58];rfl),trivial⟩)
     refine AI (d:=60) X (λh60=>?_) (λh60=>?_)
     ·exact yo X (yo X (yo X (gyq X (k60 M ⟨X,X,X,(by rw [h60];rfl),trivial⟩))))
     ·exact gyq X (CE M 1 X X X (yd X (C9 X X X) (gyq X (k60 M ⟨X,X,X,(by rw [h60];rfl),trivial⟩))))
    ·exact yo X (yo X (BY X X X X X (BY X X X X X (BY X X X X X (yo X (yb X (k58 M ⟨X,X,(by rw [h58];rfl),trivial⟩)))))))
   ·have h54p:=((CV h54).imp (λz=>(odf z)) (λz=>(odf z)));refine sx_skip (qx_seq (AE X (yb X (fvm M 7 [9,3] [(65,.bool ((c.isF t.on)&&(((decide (((c.atf ((c.flf t.on).tg)).kind.toNat:Int)=5))&&(decide (1<((c.outs ((c.atf ((c.flf t.on).tg)).id)).length:Int)))) || (decide (((c.atf ((c.flf t.on).tg)).kind.toNat:Int)=6)))))] ?_ (λk58=>?_)))))
    ·intro w13 M;refine yb X (fvm M 4 [] [(70,.bool (((c.isF t.on)&&(((decide (((c.atf ((c.flf t.on).tg)).kind.toNat:Int)=5))&&(decide (1<((c.outs ((c.atf ((c.flf t.on).tg)).id)).length:Int)))) || (decide (((c.atf ((c.flf t.on).tg)).kind.toNat:Int)=6))))&&(Tk.same t (⟨t.id,[],t.on,0,0,[],0,0,0⟩:Tk))))] ?_ (λk66=>?_))
     ·intro w14 M;exact yb X (gnr (qx_then_ret (gr1 X ⟨by rw [ET,if_pos h17,AM h54],M.fr⟩)))
     refine AI (d:=66) X (λh66=>?_) (λh66=>?_)
     ·exact yd X (AK (xs:=Tk.cells t) X X (M.rdBlk 3 X X) underlying56 X B4) (yd X (AK (xs:=[AC t.id,str [],str t.on,AC 0,AC 0,str [],AC 0,.int .u8 0,AC 0]) X X (M.rdBlk 0 X X) underlying56 X B4) (yd X (PX (a:=t) (b:=(⟨t.id,[],t.on,0,0,[],0,0,0⟩:Tk)) X X X) (yb X (k66 M ⟨(by rw [h66];rfl),trivial⟩))))
     ·exact yo X (yo X (yo X (yb X (k66 M ⟨(by rw [h66];rfl),trivial⟩))))
    refine AI (d:=58) X (λh58=>?_) (λh58=>?_)
    ·refine gyq X (gyq X (fvm M 4 [58,9,3] [(64,.bool (((decide (((c.atf ((c.flf t.on).tg)).kind.toNat:Int)=5))&&(decide (1<((c.outs ((c.atf ((c.flf t.on).tg)).id)).length:Int)))) || (decide (((c.atf ((c.flf t.on).tg)).kind.toNat:Int)=6))))] ?_ (λk60=>?_)))
     ·intro w15 M;exact yb X (k58 M ⟨X,X,(by rw [h58];rfl),trivial⟩)
     refine AI (d:=60) X (λh60=>?_) (λh60=>?_)
     ·exact yo X (yo X (yo X (gyq X (k60 M ⟨X,X,X,(by rw [h60];rfl),trivial⟩))))
     ·exact gyq X (CE M 1 X X X (yd X (C9 X X X) (gyq X (k60 M ⟨X,X,X,(by rw [h60];rfl),trivial⟩))))
    ·exact yo X (yo X (BY X X X X X (BY X X X X X (BY X X X X X (yo X (yb X (k58 M ⟨X,X,(by rw [h58];rfl),trivial⟩)))))))
  refine DG (d:=38) X (λh38=>?_) (λh38=>?_)
  ·exact gsg X (yp X) (gsg X (yp X) (gsg X (yp X) (gsg X (BF X X (sc X) (Blk.c ((hC.fr0 M.fr).blk) 8 X)) (gsg X (yp X) (gsg X (BF X X (sc X) (M.cell 0 X X)) (gsg X (BK X X X underlying87 underlying9 D4 ((hC.fr0 M.fr).O) (hC.getO _)) (gsg X (FM X X (sl X)) (gsg X (GU X X X) (sb X (k38 _ ⟨X,X,X,(by rw [h38];rfl),trivial⟩))))))))))
  ·iterate 9 refine DD X X X X X X ?_
   exact sb X (k38 _ ⟨X,X,X,(by rw [h38];rfl),trivial⟩)
 ·refine sx_skip (qx_seq (sx_seq (GP M 13 CH λM=>oc 0 13 X X M (oc 1 13 X X M (oc 2 13 X X M (ol 3 13 X X X M (λ_ M=>(Blk.c ((hC.fr0 M.fr).blk) 5 X)) (oc 4 13 X X M (ol 5 13 X X X M (λ_ M=>(M.cell 0 X X)) (oa 6 13 X X M (λ_ M=>DM X X X underlying85 underlying9 AT ((hC.fr0 M.fr).A) (hC.getA _) (hC.isA _)) (oc 7 13 X X M (oc 8 13 X X M (oc 9 13 X X M (fon M 10 10 X X AT λg10 w16 hg10 M=>fop M 11 0 X X X AQ X (·.drop 1) λw17 M=>?_)))))))))))));refine oc 12 13 X X (M.drop 1) (fdn (qx_seq (AE X (AU M 1 X X X (yb X (AU M 1 X X X (yb X (AU M 1 X X X (ya X (AY (parts:=[(0,_),(1,_),(3,_)]) X X (OM _ _ _)) (CI M X EM λg12 w18 hg12 M=>BD M 0 X X B4 X λw19 M=>?_))))))))));refine nq (sx_seq (AE X (AU M 1 X X X (nq (sx_block (srg (BZ X X (AJ X ?_))))))));refine AF X (λh90=>?_) (λh90=>?_)
  ·refine sx_seq (EH 12 (λw'=>Mem w AR [As.blk g10 95 (El.cells (c.atf t.loc)),As.blk g3 56 (Tk.cells t)] w') CH ?_);have M:=M.drew;refine oc 0 12 X X (M.pk [1,2]) (ol 1 12 X X X (M.pk [1,2]) (λ_ M=>(M.cell 1 X X)) (oc 2 12 X X (M.pk [1,2]) (ol 3 12 X X X (M.pk [1,2]) (λ_ M=>(M.cell 1 X X)) (oc 4 12 X X (M.pk [1,2]) (ol 5 12 X X X (M.pk [1,2]) (λ_ M=>(M.cell 1 X X)) (oc 6 12 X X (M.pk [1,2]) (B2 7 none gkr X (wn_none X) X X (λρ hρ=>CU 3 _ _ X g12 4 56 _ (AC t.tries) (hρ _ _ X) (hρ _ _ X) X (M.blk 0 X) GI (CO X) X) ?_)))))));rintro _ w20 ⟨rfl,hbw20,hfw20⟩
   replace M:Mem w AR (List.set _ 0 (As.blk g12 56 [AC t.id,str t.loc,str [],AC t.born,AC t.tries,str [],AC 0,.int .u8 0,AC 0])) w20:=M.putB 0 rfl hbw20 hfw20
   refine ⟨λ_=>(M.pk [1,2]),oc 8 12 X X (M.pk [1,2]) (B2 9 none gkr X (wn_none X) X X (λρ hρ=>CU 9 _ _ X g12 5 56 _ (str t.worker) (hρ _ _ X) (hρ _ _ X) X (M.blk 0 X) FR (CO X) X) ?_)⟩;rintro _ w21 ⟨rfl,hbw21,hfw21⟩
   replace M:Mem w AR (List.set _ 0 (As.blk g12 56 [AC t.id,str t.loc,str [],AC t.born,AC t.tries,str t.worker,AC 0,.int .u8 0,AC 0])) w21:=M.putB 0 rfl hbw21 hfw21
   refine ⟨λ_=>(M.pk [1,2]),oc 10 12 X X (M.pk [1,2]) (B2 11 none gkr X (wn_none X) X X (λρ hρ=>CU 3 _ _ X g12 6 56 _ (AC t.until_) (hρ _ _ X) (hρ _ _ X) X (M.blk 0 X) GI (CO X) X) ?_)⟩;rintro _ w22 ⟨rfl,hbw22,hfw22⟩
   replace M:Mem w AR (List.set _ 0 (As.blk g12 56 [AC t.id,str t.loc,str [],AC t.born,AC t.tries,str t.worker,AC t.until_,.int .u8 0,AC 0])) w22:=M.putB 0 rfl hbw22 hfw22
   refine ⟨λ_=>(M.pk [1,2]),fdn (qx_seq (sx_seq (AE X (AU M 2 X X X (BZ X X (nq (AF X (λh103=>?_) (λh103=>?_))))))))⟩
   ·refine sx_region (yb X (gp1 M 0 X X X KE λw23 M=>yb X (gp1 M 0 X X X FR λw24 M=>yb X (gp1 M 0 X X X GI λw25 M=>nq (AE X (yb X ?_))))));refine fvm M 4 [12,11,10,4,3] [(112,.bool ((c.isA t.loc)&&(Tk.same t (⟨t.id,t.loc,[],t.born,t.tries,[],0,2,0⟩:Tk))))] ?_ (λk108=>?_)
    ·intro w26 M;refine yb X (fvm M 4 [12,11,10,4,3] [(117,.bool (((c.isA t.loc)&&(Tk.same t (⟨t.id,t.loc,[],t.born,t.tries,[],0,2,0⟩:Tk)))&&(decide ((0:Int)≤t.tries))))] ?_ (λk113=>?_))
     ·intro w27 M;refine yb X (fvm M 4 [12,11,10,4,3] [(122,.bool ((((c.isA t.loc)&&(Tk.same t (⟨t.id,t.loc,[],t.born,t.tries,[],0,2,0⟩:Tk)))&&(decide ((0:Int)≤t.tries)))&&(decide (t.tries≤(100:Int)))))] ?_ (λk118=>?_))
      ·intro w28 M;exact yb X (gnr (qx_block_ret (qx_then_ret (gr1 X ⟨by rw [ET,AM h17,if_pos h90,if_pos h103],M.fr⟩))))
      refine AI (d:=118) X (λh118=>?_) (λh118=>?_)
      ·exact gyq X (CE M 2 X X X (yd X (GH X X X) (yb X (k118 M ⟨X,X,X,X,X,(by rw [h118];rfl),trivial⟩))))
      ·exact yo X (yo X (yo X (yb X (k118 M ⟨X,X,X,X,X,(by rw [h118];rfl),trivial⟩))))
     refine AI (d:=113) X (λh113=>?_) (λh113=>?_)
     ·exact gyq X (CE M 2 X X X (yd X (GV X X X) (yb X (k113 M ⟨X,X,X,X,X,(by rw [h113];rfl),trivial⟩))))
     ·exact yo X (yo X (yo X (yb X (k113 M ⟨X,X,X,X,X,(by rw [h113];rfl),trivial⟩))))
    refine AI (d:=108) X (λh108=>?_) (λh108=>?_)
    ·exact yd X (AK (xs:=Tk.cells t) X X (M.rdBlk 2 X X) underlying56 X B4) (yd X (AK (xs:=[AC t.id,str t.loc,str [],AC t.born,AC t.tries,str [],AC 0,.int .u8 2,AC 0]) X X (M.rdBlk 0 X X) underlying56 X B4) (yd X (PX (a:=t) (b:=(⟨t.id,t.loc,[],t.born,t.tries,[],0,2,0⟩:Tk)) X X X) (yb X (k108 M ⟨X,X,X,X,X,(by rw [h108];rfl),trivial⟩))))
    ·exact yo X (yo X (yo X (yb X (k108 M ⟨X,X,X,X,X,(by rw [h108];rfl),trivial⟩))))
   ·refine sx_skip (qx_seq (AE X (yb X (fvm M 4 [12,11,10,4,3] [(112,.bool ((c.isA t.loc)&&(Tk.same t (⟨t.id,t.loc,[],t.born,t.tries,t.worker,t.until_,0,0⟩:Tk))))] ?_ (λk108=>?_)))))
    ·intro w29 M;refine yb X (fvm M 4 [12,11,10,4,3] [(117,.bool (((c.isA t.loc)&&(Tk.same t (⟨t.id,t.loc,[],t.born,t.tries,t.worker,t.until_,0,0⟩:Tk)))&&(decide ((0:Int)≤t.tries))))] ?_ (λk113=>?_))
     ·intro w30 M;refine yb X (fvm M 4 [12,11,10,4,3] [(122,.bool ((((c.isA t.loc)&&(Tk.same t (⟨t.id,t.loc,[],t.born,t.tries,t.worker,t.until_,0,0⟩:Tk)))&&(decide ((0:Int)≤t.tries)))&&(decide (t.tries≤(100:Int)))))] ?_ (λk118=>?_))
      ·intro w31 M;exact yb X (gnr (qx_block_ret (qx_then_ret (gr1 X ⟨by rw [ET,AM h17,if_pos h90,AM h103],M.fr⟩))))
      refine AI (d:=118) X (λh118=>?_) (λh118=>?_)
      ·exact gyq X (CE M 2 X X X (yd X (GH X X X) (yb X (k118 M ⟨X,X,X,X,X,(by rw [h118];rfl),trivial⟩))))
      ·exact yo X (yo X (yo X (yb X (k118 M ⟨X,X,X,X,X,(by rw [h118];rfl),trivial⟩))))
     refine AI (d:=113) X (λh113=>?_) (λh113=>?_)
     ·exact gyq X (CE M 2 X X X (yd X (GV X X X) (yb X (k113 M ⟨X,X,X,X,X,(by rw [h113];rfl),trivial⟩))))
     ·exact yo X (yo X (yo X (yb X (k113 M ⟨X,X,X,X,X,(by rw [h113];rfl),trivial⟩))))
    refine AI (d:=108) X (λh108=>?_) (λh108=>?_)
    ·exact yd X (AK (xs:=Tk.cells t) X X (M.rdBlk 2 X X) underlying56 X B4) (yd X (AK (xs:=[AC t.id,str t.loc,str [],AC t.born,AC t.tries,str t.worker,AC t.until_,.int .u8 0,AC 0]) X X (M.rdBlk 0 X X) underlying56 X B4) (yd X (PX (a:=t) (b:=(⟨t.id,t.loc,[],t.born,t.tries,t.worker,t.until_,0,0⟩:Tk)) X X X) (yb X (k108 M ⟨X,X,X,X,X,(by rw [h108];rfl),trivial⟩))))
    ·exact yo X (yo X (yo X (yb X (k108 M ⟨X,X,X,X,X,(by rw [h108];rfl),trivial⟩))))
  ·refine srg (BZ X X (AJ X (AF X (λh123=>?_) (λh123=>?_))))
   ·refine sx_seq (GP M 12 CH λM=>oc 0 12 X X M (oc 1 12 X X M (oc 2 12 X X M (oa 3 12 X X M (λ_ M=>AK (xs:=[str m.id,str m.nm,.slice c.a.V m.vars.length c.a.vc,.slice c.a.E m.els.length c.a.ec,.slice c.a.F m.fls.length c.a.fc]) X X (DZ ((hC.fr0 M.fr).blk) 0 5 X X) underlying62 X BN) (oc 4 12 X X M (ol 5 12 X X X M (λ_ M=>(M.cell 2 X X)) (BQ 6 (some 132) gkr X (wn_none X) X X (AG X X call60) (nS m c.a t.loc _ ho (hC.fr0 M.fr).md.md) ?_)))))));rintro _ w32 ⟨rfl,hfw32⟩;refine ⟨_,X,λ_=>M.step hfw32,?_⟩;have M:=M.step hfw32;refine oc 7 12 X X M (oc 8 12 X X M (oc 9 12 X X M (oc 10 12 X X M (oc 11 12 X X M (fdn (qx_seq (AE X (yb X (fvm M 4 [14,12,11,10,4,3] [(140,.bool ((c.isA t.loc)&&(Tk.same t (⟨t.id,t.loc,[],t.born,0,[],0,0,0⟩:Tk))))] ?_ (λk136=>?_))))))))))
    ·intro w33 M;refine yb X (fvm M 3 [12,11,10,4,3] [(144,.bool (((c.isA t.loc)&&(Tk.same t (⟨t.id,t.loc,[],t.born,0,[],0,0,0⟩:Tk)))&&(!(TL m t.loc).2)))] ?_ (λk141=>?_))
     ·intro w34 M;exact yb X (gnr (qx_block_ret (qx_then_ret (gr1 X ⟨by rw [ET,AM h17,AM h90,if_pos h123],M.fr⟩))))
     refine AI (d:=141) X (λh141=>?_) (λh141=>?_)
     ·exact gyq X (gyq X (yb X (k141 M ⟨X,X,X,X,X,(by rw [h141];rfl),trivial⟩)))
     ·exact yo X (yo X (yb X (k141 M ⟨X,X,X,X,X,(by rw [h141];rfl),trivial⟩)))
    refine AI (d:=136) X (λh136=>?_) (λh136=>?_)
    ·exact yd X (AK (xs:=Tk.cells t) X X (M.rdBlk 2 X X) underlying56 X B4) (yd X (AK (xs:=[AC t.id,str t.loc,str [],AC t.born,AC 0,str [],AC 0,.int .u8 0,AC 0]) X X (M.rdBlk 0 X X) underlying56 X B4) (yd X (PX (a:=t) (b:=(⟨t.id,t.loc,[],t.born,0,[],0,0,0⟩:Tk)) X X X) (yb X (k136 M ⟨X,X,X,X,X,X,(by rw [h136];rfl),trivial⟩))))
    ·exact yo X (yo X (yo X (yb X (k136 M ⟨X,X,X,X,X,X,(by rw [h136];rfl),trivial⟩))))
   ·refine sx_skip (qx_block_normal (qx_seq (AE X (yb X (fvm M 4 [10,4] [(150,.bool ((c.isA t.loc)&&(Tk.same t (⟨t.id,t.loc,[],t.born,0,[],0,0,0⟩:Tk))))] ?_ (λk146=>?_))))))
    ·intro w35 M;refine yb X (fvm M 9 [4] [(160,.bool (((c.isA t.loc)&&(Tk.same t (⟨t.id,t.loc,[],t.born,0,[],0,0,0⟩:Tk)))&&((decide (((c.atf t.loc).kind.toNat:Int)=3)) || (decide (((c.atf t.loc).kind.toNat:Int)=7)))))] ?_ (λk151=>?_))
     ·intro w36 M;exact yb X (gnr (gr1 X ⟨by rw [ET,AM h17,AM h90,AM h123],M.fr⟩))
     refine AI (d:=151) X (λh151=>?_) (λh151=>?_)
     ·refine gyq X (CE M 1 X X X (yd X (C9 X X X) (gyq X (fvm M 4 [151,4] [(159,.bool ((decide (((c.atf t.loc).kind.toNat:Int)=3)) || (decide (((c.atf t.loc).kind.toNat:Int)=7))))] ?_ (λk155=>?_)))))
      ·intro w37 M;exact yb X (k151 M ⟨X,(by rw [h151];rfl),trivial⟩)
      refine AI (d:=155) X (λh155=>?_) (λh155=>?_)
      ·exact yo X (yo X (yo X (gyq X (k155 M ⟨X,X,(by rw [h155];rfl),trivial⟩))))
      ·exact gyq X (CE M 1 X X X (yd X (C9 X X X) (gyq X (k155 M ⟨X,X,(by rw [h155];rfl),trivial⟩))))
     ·iterate 4 refine yo X ?_
      exact BY X X X X X (BY X X X X X (BY X X X X X (yo X (yb X (k151 M ⟨X,(by rw [h151];rfl),trivial⟩)))))
    refine AI (d:=146) X (λh146=>?_) (λh146=>?_)
    ·exact yd X (AK (xs:=Tk.cells t) X X (M.rdBlk 2 X X) underlying56 X B4) (yd X (AK (xs:=[AC t.id,str t.loc,str [],AC t.born,AC 0,str [],AC 0,.int .u8 0,AC 0]) X X (M.rdBlk 0 X X) underlying56 X B4) (yd X (PX (a:=t) (b:=(⟨t.id,t.loc,[],t.born,0,[],0,0,0⟩:Tk)) X X X) (yb X (k146 M ⟨X,X,(by rw [h146];rfl),trivial⟩))))
    ·exact yo X (yo X (yo X (yb X (k146 M ⟨X,X,(by rw [h146];rfl),trivial⟩))))
end Go.Proofs.YtaheakjfkpkefaaGreatDoor
