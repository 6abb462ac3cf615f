/- Lemmas. -/
import Derived.Test.YtppmdnmjepkfaaaGreatDoorYMv5
import Derived.ArgAppend
set_option maxHeartbeats 16000000
set_option maxRecDepth 100000
namespace Go.Proofs.YtppmdnmjepkfaaaGreatDoor
open Go.RowKit
open Tryz
def Tk.same (a b:Tk):Bool:=decide (a.id=b.id)&&(decide (a.loc=b.loc)&&(decide (a.on=b.on)&&(decide (a.born=b.born)&&(decide (a.tries=b.tries)&&(decide (a.worker=b.worker)&&(decide (a.until_=b.until_)&&(decide ((a.inc.toNat:Int)=(b.inc.toNat:Int))&&(decide (a.err=b.err)))))))))
theorem cV : prog.eqGuardType prog.depth 75=false:=by kernel_rfl
theorem wN : prog.stoodInHeld 75=false:=by kernel_rfl
theorem mK : prog.underlying 75=some (.struct (prog.fieldsOf 75)):=by kernel_rfl
theorem qC {w:Kw} (a b:Tk):(Op.equalIn 10000 75 (.agg a.cells.toArray) (.agg b.cells.toArray)).run prog w=.ok (a.same b) w:=by
 have s_:∀(u v:Kz),(Op.equalIn 9999 9 (str u) (str v)).run prog w=.ok (decide (u=v)) w:=λu v=>by
  have:=run_equalIn_string (P:=prog) w 9998 9 ⟨u.toArray⟩ ⟨v.toArray⟩ Aa
  unfold str;rw [this,ByteArray.toList_eq,ByteArray.toList_eq]
  by_cases huv:u=v<;>simp [huv]
 have i_:∀(t:Nat) (k:IntKind) (u v:Int),prog.underlying t=some (.int k)→(Op.equalIn 9999 t (.int k u) (.int k v)).run prog w=.ok (decide (u=v)) w:=λt k u v ht=>by
  have:=run_equalIn_int (P:=prog) w 9998 t k k u v ht
  rw [this];by_cases huv:u=v<;>simp [huv]
 rw [run_equalIn_struct w 9999 75 _ _ mK wN];have hl:(prog.fieldsOf 75).toList=(match prog.underlying 75 with|some (.struct fs)=>fs.toList|_=>[]):=by unfold Program.fieldsOf;rw [Bm]
 rw [hl,Bm]
 simp only
 have E_:=isAgg54 w;have N_:=isAgg3 w;have S_:=isAgg9 w;have U_:=isAgg5 w;rw [BF (a:=AA a.id) (b:=AA b.id) AV (BB N_ rfl) (BB N_ rfl) (i_ _ _ _ _ Bg)];refine FA ?_;rw [BF (a:=str a.loc) (b:=str b.loc) AV (BB S_ rfl) (BB S_ rfl) (s_ _ _)];refine FA ?_;rw [BF (a:=str a.on) (b:=str b.on) AV (BB S_ rfl) (BB S_ rfl) (s_ _ _)];refine FA ?_;rw [BF (a:=AA a.born) (b:=AA b.born) AV (BB N_ rfl) (BB N_ rfl) (i_ _ _ _ _ Bg)];refine FA ?_;rw [BF (a:=AA a.tries) (b:=AA b.tries) AV (BB N_ rfl) (BB N_ rfl) (i_ _ _ _ _ Bg)];refine FA ?_;rw [BF (a:=str a.worker) (b:=str b.worker) AV (BB S_ rfl) (BB S_ rfl) (s_ _ _)];refine FA ?_;rw [BF (a:=AA a.until_) (b:=AA b.until_) AV (BB N_ rfl) (BB N_ rfl) (i_ _ _ _ _ Bg)];refine FA ?_;rw [BF (a:=.int .u8 (a.inc.toNat:Int)) (b:=.int .u8 (b.inc.toNat:Int)) AV (BB U_ rfl) (BB U_ rfl) (i_ _ _ _ _ Bi)];refine FA ?_;rw [BF (a:=AA a.err) (b:=AA b.err) AV (BB E_ rfl) (BB E_ rfl) (i_ _ _ _ _ underlying54),NR]
 cases (decide (a.err=b.err))<;>rfl
theorem SJ {e:Env} {w:Kw} {o:Oper} {t':Nat} {x y:Lz} {a b:Tk} (ho:o.op=.binOp .eql 75 x y t') (hx:ev e x=some (.agg a.cells.toArray)) (hy:ev e y=some (.agg b.cells.toArray)):Y prog e o w (.bool (a.same b)):=λρ h=>by
 have h1:ρ x=.agg a.cells.toArray:=h _ _ hx;have h2:ρ y=.agg b.cells.toArray:=h _ _ hy;have hg:=run_eqGuard_agg (P:=prog) w .eql 75 x y a.cells.toArray b.cells.toArray cV;unfold execOp;simp only [ho,h1,h2,Sem.run_bind,hg,Result.andThen_ok,run_eql_struct,qC a b]
 rfl
theorem QR (a0:Int) (a1:Kz) (a3:Int):prog.built 75 [(0,AA a0),(1,str a1),(3,AA a3)]=some #[AA a0,str a1,str [],AA a3,AA 0,str [],AA 0,.int .u8 0,AA 0]:=by kernel_rfl
theorem TN (a0:Int) (a2:Kz):prog.built 75 [(0,AA a0),(2,str a2)]=some #[AA a0,str [],str a2,AA 0,AA 0,str [],AA 0,.int .u8 0,AA 0]:=by kernel_rfl
theorem BA : (prog.info? 75).map (·.size)=some 9:=by kernel_rfl
theorem HR : (prog.info? 75).map (·.zero)=some (some (.agg #[AA 0,str [],str [],AA 0,AA 0,str [],AA 0,.int .u8 0,AA 0])):=by kernel_rfl
def HK (m:Md) (c:CrA) (t:Tk):Bool:=(if (decide (t.loc=[]))=true then (if ((decide (((c.atf ((c.flf t.on).tg)).kind.toNat:Int)=(5:Int)))&&(decide ((1:Int)<(((c.outs ((c.atf ((c.flf t.on).tg)).id)).length:Nat):Int))))=true then (((c.isF t.on)&&(((decide (((c.atf ((c.flf t.on).tg)).kind.toNat:Int)=(5:Int)))&&(decide ((1:Int)<(((c.outs ((c.atf ((c.flf t.on).tg)).id)).length:Nat):Int)))) || (decide (((c.atf ((c.flf t.on).tg)).kind.toNat:Int)=(6:Int)))))&&(Tk.same t (⟨t.id,[],t.on,0,0,[],0,1,91⟩:Tk))) else (((c.isF t.on)&&(((decide (((c.atf ((c.flf t.on).tg)).kind.toNat:Int)=(5:Int)))&&(decide ((1:Int)<(((c.outs ((c.atf ((c.flf t.on).tg)).id)).length:Nat):Int)))) || (decide (((c.atf ((c.flf t.on).tg)).kind.toNat:Int)=(6:Int)))))&&(Tk.same t (⟨t.id,[],t.on,0,0,[],0,0,0⟩:Tk)))) else (if (decide (((c.atf t.loc).kind.toNat:Int)=(4:Int)))=true then (if (decide (t.tries=(0:Int)))=true then ((((c.isA t.loc)&&(Tk.same t (⟨t.id,t.loc,[],t.born,t.tries,[],0,2,0⟩:Tk)))&&(decide ((0:Int)≤t.tries)))&&(decide (t.tries≤(100:Int)))) else ((((c.isA t.loc)&&(Tk.same t (⟨t.id,t.loc,[],t.born,t.tries,t.worker,t.until_,0,0⟩:Tk)))&&(decide ((0:Int)≤t.tries)))&&(decide (t.tries≤(100:Int))))) else (if (decide (((c.atf t.loc).kind.toNat:Int)=(8:Int)))=true then (((c.isA t.loc)&&(Tk.same t (⟨t.id,t.loc,[],t.born,0,[],0,0,0⟩:Tk)))&&(!(PX m t.loc).2)) else (((c.isA t.loc)&&(Tk.same t (⟨t.id,t.loc,[],t.born,0,[],0,0,0⟩:Tk)))&&((decide (((c.atf t.loc).kind.toNat:Int)=(3:Int))) || (decide (((c.atf t.loc).kind.toNat:Int)=(7:Int))))))))
theorem WQ (m:Md) (gc:Nat) (c:CrA) (F:List Nat) (t:Tk) (w:Kw) (ho:MdOk m) (hC:CourseN w m gc c F) :
 Calls prog 109 #[pg gc,.agg t.cells.toArray] w (BS w (.bool (HK m c t))):=by
 refine BR func109 ntmps109 X λM=>W ?_
 refine CO M X X λg3 w1 hg3 M=>W ?_
 refine AB X (λh17=>?_) (λh17=>?_)
 ·refine sx_seq (J2 M 13 CA λM=>oc 0 13 X X M (oc 1 13 X X M (oc 2 13 X X M (ol 3 13 X X X M (λ_ M=>(Blk.c ((hC.fr0 M.fr).blk) 6 X)) (oc 4 13 X X M (ol 5 13 X X X M (λ_ M=>(M.cell 0 X X)) (oa 6 13 X X M (λ_ M=>EM X X X Ik Aa DS ((hC.fr0 M.fr).L) (hC.getL _) (hC.isL _)) (oc 7 13 X X M (oc 8 13 X X M (oc 9 13 X X M (fon M 10 5 X X DS λg5 w2 hg5 M=>fop M 11 0 X X X BU X (·.drop 1) λw3 M=>oc 12 13 X X (M.drop 1) (fdn ?_))))))))))));refine W ?_;refine J2 M 9 CA λM=>oc 0 9 X X M (oc 1 9 X X M (oc 2 9 X X M (ol 3 9 X X X M (λ_ M=>(Blk.c ((hC.fr0 M.fr).blk) 5 X)) (oc 4 9 X X M (ol 5 9 X X X M (λ_ M=>(M.cell 0 X X)) (oa 6 9 X X M (λ_ M=>CD X X X Cx Aa AP ((hC.fr0 M.fr).A) (hC.getA _)) (fon M 7 7 X X AP λg7 w4 hg7 M=>fop M 8 0 X X X AJ X (·.drop 1) λw5 M=>fdn (W ?_))))))))
  refine CS CA gkr ?_;have M:=M.drew;refine W ?_;refine fvs 10 [7,6,3] [(48,.bool ((decide (((c.atf ((c.flf t.on).tg)).kind.toNat:Int)=5))&&(decide (1<((c.outs ((c.atf ((c.flf t.on).tg)).id)).length:Int)))))] ?_ (λk38=>?_)
  ·refine W ?_;refine ya X (B7 (parts:=[(0,_),(2,_)]) X X (TN _ _)) (CI M X HR λg9 w6 hg9 M=>BY M 0 X X BA X λw7 M=>W ?_);refine AB X (λh54=>?_) (λh54=>?_)
   ·refine W ?_;refine gp1 M 0 X X X VW λw8 M=>yb X (gp1 M 0 X X X ND λw9 M=>W ?_)
    refine fvm M 7 [9,3] [(65,.bool ((c.isF t.on)&&(((decide (((c.atf ((c.flf t.on).tg)).kind.toNat:Int)=5))&&(decide (1<((c.outs ((c.atf ((c.flf t.on).tg)).id)).length:Int)))) || (decide (((c.atf ((c.flf t.on).tg)).kind.toNat:Int)=6)))))] ?_ (λk58=>?_)
    ·intro w10 M;refine yb X (fvm M 4 [] [(70,.bool (((c.isF t.on)&&(((decide (((c.atf ((c.flf t.on).tg)).kind.toNat:Int)=5))&&(decide (1<((c.outs ((c.atf ((c.flf t.on).tg)).id)).length:Int)))) || (decide (((c.atf ((c.flf t.on).tg)).kind.toNat:Int)=6))))&&(Tk.same t (⟨t.id,[],t.on,0,0,[],0,1,91⟩:Tk))))] ?_ (λk66=>?_))
     ·intro w11 M;refine W ?_;exact gr1 X ⟨by rw [HK,if_pos h17,if_pos h54],M.fr⟩
     refine A1 (d:=66) X (λh66=>?_) (λh66=>?_)
     ·exact yd X (AI (xs:=Tk.cells t) X X (M.rdBlk 3 X X) Bm X BA) (yd X (AI (xs:=[AA t.id,str [],str t.on,AA 0,AA 0,str [],AA 0,.int .u8 1,AA 91]) X X (M.rdBlk 0 X X) Bm X BA) (yd X (SJ (a:=t) (b:=(⟨t.id,[],t.on,0,0,[],0,1,91⟩:Tk)) X X X) (yb X (k66 M))))
     refine T4 ?_;exact k66 M
    refine A1 (d:=58) X (λh58=>?_) (λh58=>?_)
    ·refine W ?_;refine fvm M 4 [58,9,3] [(64,.bool (((decide (((c.atf ((c.flf t.on).tg)).kind.toNat:Int)=5))&&(decide (1<((c.outs ((c.atf ((c.flf t.on).tg)).id)).length:Int)))) || (decide (((c.atf ((c.flf t.on).tg)).kind.toNat:Int)=6))))] ?_ (λk60=>?_)
     ·intro w12 M;exact yb X (k58 M)
     refine A1 (d:=60) X (λh60=>?_) (λh60=>?_)
     ·refine T4 ?_;exact k60 M
     refine T4 ?_;exact k60 M
    refine T7 ?_;exact k58 M
   have h54p:=bd h54;refine W ?_;refine fvm M 7 [9,3] [(65,.bool ((c.isF t.on)&&(((decide (((c.atf ((c.flf t.on).tg)).kind.toNat:Int)=5))&&(decide (1<((c.outs ((c.atf ((c.flf t.on).tg)).id)).length:Int)))) || (decide (((c.atf ((c.flf t.on).tg)).kind.toNat:Int)=6)))))] ?_ (λk58=>?_)
   ·intro w13 M;refine yb X (fvm M 4 [] [(70,.bool (((c.isF t.on)&&(((decide (((c.atf ((c.flf t.on).tg)).kind.toNat:Int)=5))&&(decide (1<((c.outs ((c.atf ((c.flf t.on).tg)).id)).length:Int)))) || (decide (((c.atf ((c.flf t.on).tg)).kind.toNat:Int)=6))))&&(Tk.same t (⟨t.id,[],t.on,0,0,[],0,0,0⟩:Tk))))] ?_ (λk66=>?_))
    ·intro w14 M;refine W ?_;exact gr1 X ⟨by rw [HK,if_pos h17,AM h54],M.fr⟩
    refine A1 (d:=66) X (λh66=>?_) (λh66=>?_)
    ·exact yd X (AI (xs:=Tk.cells t) X X (M.rdBlk 3 X X) Bm X BA) (yd X (AI (xs:=[AA t.id,str [],str t.on,AA 0,AA 0,str [],AA 0,.int .u8 0,AA 0]) X X (M.rdBlk 0 X X) Bm X BA) (yd X (SJ (a:=t) (b:=(⟨t.id,[],t.on,0,0,[],0,0,0⟩:Tk)) X X X) (yb X (k66 M))))
    refine T4 ?_;exact k66 M
   refine A1 (d:=58) X (λh58=>?_) (λh58=>?_)
   ·refine W ?_;refine fvm M 4 [58,9,3] [(64,.bool (((decide (((c.atf ((c.flf t.on).tg)).kind.toNat:Int)=5))&&(decide (1<((c.outs ((c.atf ((c.flf t.on).tg)).id)).length:Int)))) || (decide (((c.atf ((c.flf t.on).tg)).kind.toNat:Int)=6))))] ?_ (λk60=>?_)
    ·intro w15 M;exact yb X (k58 M)
    refine A1 (d:=60) X (λh60=>?_) (λh60=>?_)
    ·refine T4 ?_;exact k60 M
    refine T4 ?_;exact k60 M
   refine T7 ?_;exact k58 M
  refine C1 (d:=38) X (λh38=>?_) (λh38=>?_)
  ·refine T3 ?_;refine gsg X (B2 X X (sc X) (Blk.c ((hC.fr0 M.fr).blk) 8 X)) (W ?_);refine gsg X (CD X X X Gg Aa J3 ((hC.fr0 M.fr).O) (hC.getO _)) (T3 ?_);exact k38 _ ⟨X,X,X,(by rw [h38];rfl),trivial⟩
  refine T10 ?_;exact k38 _ ⟨X,X,X,(by rw [h38];rfl),trivial⟩
 refine W ?_;refine J2 M 13 CA λM=>oc 0 13 X X M (oc 1 13 X X M (oc 2 13 X X M (ol 3 13 X X X M (λ_ M=>(Blk.c ((hC.fr0 M.fr).blk) 5 X)) (oc 4 13 X X M (ol 5 13 X X X M (λ_ M=>(M.cell 0 X X)) (oa 6 13 X X M (λ_ M=>EM X X X Cx Aa AP ((hC.fr0 M.fr).A) (hC.getA _) (hC.isA _)) (oc 7 13 X X M (oc 8 13 X X M (oc 9 13 X X M (fon M 10 10 X X AP λg10 w16 hg10 M=>fop M 11 0 X X X AJ X (·.drop 1) λw17 M=>oc 12 13 X X (M.drop 1) (fdn (W ?_))))))))))))
 refine ya X (B7 (parts:=[(0,_),(1,_),(3,_)]) X X (QR _ _ _)) (CI M X HR λg12 w18 hg12 M=>BY M 0 X X BA X λw19 M=>W ?_);refine AB X (λh90=>?_) (λh90=>?_)
 ·refine sx_seq (EC 12 (λw'=>Mem w AR [As.blk g10 106 (El.cells (c.atf t.loc)),As.blk g3 75 (Tk.cells t)] w') CA ?_);have M:=M.drew;refine oc 0 12 X X (M.pk [1,2]) (ol 1 12 X X X (M.pk [1,2]) (λ_ M=>(M.cell 1 X X)) (oc 2 12 X X (M.pk [1,2]) (ol 3 12 X X X (M.pk [1,2]) (λ_ M=>(M.cell 1 X X)) (oc 4 12 X X (M.pk [1,2]) (ol 5 12 X X X (M.pk [1,2]) (λ_ M=>(M.cell 1 X X)) (oc 6 12 X X (M.pk [1,2]) (B5 7 none gkr X kw X X (λρ hρ=>DW 3 _ _ X g12 4 75 _ (AA t.tries) (hρ _ _ X) (hρ _ _ X) X (M.blk 0 X) FU (CF X) X) ?_)))))));rintro _ w20 ⟨rfl,hbw20,hfw20⟩
  replace M:Mem w AR (List.set _ 0 (As.blk g12 75 [AA t.id,str t.loc,str [],AA t.born,AA t.tries,str [],AA 0,.int .u8 0,AA 0])) w20:=M.putB 0 rfl hbw20 hfw20
  refine ⟨λ_=>(M.pk [1,2]),oc 8 12 X X (M.pk [1,2]) (B5 9 none gkr X kw X X (λρ hρ=>DW 9 _ _ X g12 5 75 _ (str t.worker) (hρ _ _ X) (hρ _ _ X) X (M.blk 0 X) GW (CF X) X) ?_)⟩;rintro _ w21 ⟨rfl,hbw21,hfw21⟩
  replace M:Mem w AR (List.set _ 0 (As.blk g12 75 [AA t.id,str t.loc,str [],AA t.born,AA t.tries,str t.worker,AA 0,.int .u8 0,AA 0])) w21:=M.putB 0 rfl hbw21 hfw21
  refine ⟨λ_=>(M.pk [1,2]),oc 10 12 X X (M.pk [1,2]) (B5 11 none gkr X kw X X (λρ hρ=>DW 3 _ _ X g12 6 75 _ (AA t.until_) (hρ _ _ X) (hρ _ _ X) X (M.blk 0 X) FU (CF X) X) ?_)⟩;rintro _ w22 ⟨rfl,hbw22,hfw22⟩
  replace M:Mem w AR (List.set _ 0 (As.blk g12 75 [AA t.id,str t.loc,str [],AA t.born,AA t.tries,str t.worker,AA t.until_,.int .u8 0,AA 0])) w22:=M.putB 0 rfl hbw22 hfw22
  refine ⟨λ_=>(M.pk [1,2]),fdn (W ?_)⟩;refine AB X (λh103=>?_) (λh103=>?_)
  ·refine W ?_;refine gp1 M 0 X X X VW λw23 M=>yb X (gp1 M 0 X X X GW λw24 M=>yb X (gp1 M 0 X X X FU λw25 M=>W ?_))
   refine fvm M 4 [12,11,10,4,3] [(112,.bool ((c.isA t.loc)&&(Tk.same t (⟨t.id,t.loc,[],t.born,t.tries,[],0,2,0⟩:Tk))))] ?_ (λk108=>?_)
   ·intro w26 M;refine yb X (fvm M 4 [12,11,10,4,3] [(117,.bool (((c.isA t.loc)&&(Tk.same t (⟨t.id,t.loc,[],t.born,t.tries,[],0,2,0⟩:Tk)))&&(decide ((0:Int)≤t.tries))))] ?_ (λk113=>?_))
    ·intro w27 M;refine yb X (fvm M 4 [12,11,10,4,3] [(122,.bool ((((c.isA t.loc)&&(Tk.same t (⟨t.id,t.loc,[],t.born,t.tries,[],0,2,0⟩:Tk)))&&(decide ((0:Int)≤t.tries)))&&(decide (t.tries≤(100:Int)))))] ?_ (λk118=>?_))
     ·intro w28 M;refine W ?_;exact gr1 X ⟨by rw [HK,AM h17,if_pos h90,if_pos h103],M.fr⟩
     refine A1 (d:=118) X (λh118=>?_) (λh118=>?_)
     ·refine T4 ?_;exact k118 M
     refine T4 ?_;exact k118 M
    refine A1 (d:=113) X (λh113=>?_) (λh113=>?_)
    ·refine T4 ?_;exact k113 M
    refine T4 ?_;exact k113 M
   refine A1 (d:=108) X (λh108=>?_) (λh108=>?_)
   ·exact yd X (AI (xs:=Tk.cells t) X X (M.rdBlk 2 X X) Bm X BA) (yd X (AI (xs:=[AA t.id,str t.loc,str [],AA t.born,AA t.tries,str [],AA 0,.int .u8 2,AA 0]) X X (M.rdBlk 0 X X) Bm X BA) (yd X (SJ (a:=t) (b:=(⟨t.id,t.loc,[],t.born,t.tries,[],0,2,0⟩:Tk)) X X X) (yb X (k108 M))))
   refine T4 ?_;exact k108 M
  refine W ?_;refine fvm M 4 [12,11,10,4,3] [(112,.bool ((c.isA t.loc)&&(Tk.same t (⟨t.id,t.loc,[],t.born,t.tries,t.worker,t.until_,0,0⟩:Tk))))] ?_ (λk108=>?_)
  ·intro w29 M;refine yb X (fvm M 4 [12,11,10,4,3] [(117,.bool (((c.isA t.loc)&&(Tk.same t (⟨t.id,t.loc,[],t.born,t.tries,t.worker,t.until_,0,0⟩:Tk)))&&(decide ((0:Int)≤t.tries))))] ?_ (λk113=>?_))
   ·intro w30 M;refine yb X (fvm M 4 [12,11,10,4,3] [(122,.bool ((((c.isA t.loc)&&(Tk.same t (⟨t.id,t.loc,[],t.born,t.tries,t.worker,t.until_,0,0⟩:Tk)))&&(decide ((0:Int)≤t.tries)))&&(decide (t.tries≤(100:Int)))))] ?_ (λk118=>?_))
    ·intro w31 M;refine W ?_;exact gr1 X ⟨by rw [HK,AM h17,if_pos h90,AM h103],M.fr⟩
    refine A1 (d:=118) X (λh118=>?_) (λh118=>?_)
    ·refine T4 ?_;exact k118 M
    refine T4 ?_;exact k118 M
   refine A1 (d:=113) X (λh113=>?_) (λh113=>?_)
   ·refine T4 ?_;exact k113 M
   refine T4 ?_;exact k113 M
  refine A1 (d:=108) X (λh108=>?_) (λh108=>?_)
  ·exact yd X (AI (xs:=Tk.cells t) X X (M.rdBlk 2 X X) Bm X BA) (yd X (AI (xs:=[AA t.id,str t.loc,str [],AA t.born,AA t.tries,str t.worker,AA t.until_,.int .u8 0,AA 0]) X X (M.rdBlk 0 X X) Bm X BA) (yd X (SJ (a:=t) (b:=(⟨t.id,t.loc,[],t.born,t.tries,t.worker,t.until_,0,0⟩:Tk)) X X X) (yb X (k108 M))))
  refine T4 ?_;exact k108 M
 refine W ?_;refine AB X (λh123=>?_) (λh123=>?_)
 ·refine sx_seq (J2 M 12 CA λM=>oc 0 12 X X M (oc 1 12 X X M (oc 2 12 X X M (oa 3 12 X X M (λ_ M=>AI (xs:=[str m.id,str m.nm,.slice c.a.V m.vars.length c.a.vc,.slice c.a.E m.els.length c.a.ec,.slice c.a.F m.fls.length c.a.fc]) X X (DR ((hC.fr0 M.fr).blk) 0 5 X X) Al X AN) (oc 4 12 X X M (ol 5 12 X X X M (λ_ M=>(M.cell 2 X X)) (BC 6 (some 132) gkr X kw X X (AD X X call171) (u1 m c.a t.loc _ ho (hC.fr0 M.fr).md.md) ?_)))))));rintro _ w32 ⟨rfl,hfw32⟩;refine ⟨_,X,λ_=>M.step hfw32,?_⟩;have M:=M.step hfw32;refine oc 7 12 X X M (oc 8 12 X X M (oc 9 12 X X M (oc 10 12 X X M (oc 11 12 X X M (fdn (W ?_))))));refine fvm M 4 [14,12,11,10,4,3] [(140,.bool ((c.isA t.loc)&&(Tk.same t (⟨t.id,t.loc,[],t.born,0,[],0,0,0⟩:Tk))))] ?_ (λk136=>?_)
  ·intro w33 M;refine yb X (fvm M 3 [12,11,10,4,3] [(144,.bool (((c.isA t.loc)&&(Tk.same t (⟨t.id,t.loc,[],t.born,0,[],0,0,0⟩:Tk)))&&(!(PX m t.loc).2)))] ?_ (λk141=>?_))
   ·intro w34 M;refine W ?_;exact gr1 X ⟨by rw [HK,AM h17,AM h90,if_pos h123],M.fr⟩
   refine A1 (d:=141) X (λh141=>?_) (λh141=>?_)
   ·refine T3 ?_;exact k141 M
   refine T3 ?_;exact k141 M
  refine A1 (d:=136) X (λh136=>?_) (λh136=>?_)
  ·exact yd X (AI (xs:=Tk.cells t) X X (M.rdBlk 2 X X) Bm X BA) (yd X (AI (xs:=[AA t.id,str t.loc,str [],AA t.born,AA 0,str [],AA 0,.int .u8 0,AA 0]) X X (M.rdBlk 0 X X) Bm X BA) (yd X (SJ (a:=t) (b:=(⟨t.id,t.loc,[],t.born,0,[],0,0,0⟩:Tk)) X X X) (yb X (k136 M))))
  refine T4 ?_;exact k136 M
 refine W ?_;refine fvm M 4 [10,4] [(150,.bool ((c.isA t.loc)&&(Tk.same t (⟨t.id,t.loc,[],t.born,0,[],0,0,0⟩:Tk))))] ?_ (λk146=>?_)
 ·intro w35 M;refine yb X (fvm M 9 [4] [(160,.bool (((c.isA t.loc)&&(Tk.same t (⟨t.id,t.loc,[],t.born,0,[],0,0,0⟩:Tk)))&&((decide (((c.atf t.loc).kind.toNat:Int)=3)) || (decide (((c.atf t.loc).kind.toNat:Int)=7)))))] ?_ (λk151=>?_))
  ·intro w36 M;refine W ?_;exact gr1 X ⟨by rw [HK,AM h17,AM h90,AM h123],M.fr⟩
  refine A1 (d:=151) X (λh151=>?_) (λh151=>?_)
  ·refine W ?_;refine fvm M 4 [151,4] [(159,.bool ((decide (((c.atf t.loc).kind.toNat:Int)=3)) || (decide (((c.atf t.loc).kind.toNat:Int)=7))))] ?_ (λk155=>?_)
   ·intro w37 M;exact yb X (k151 M)
   refine A1 (d:=155) X (λh155=>?_) (λh155=>?_)
   ·refine T4 ?_;exact k155 M
   refine T4 ?_;exact k155 M
  refine T9 ?_;exact k151 M
 refine A1 (d:=146) X (λh146=>?_) (λh146=>?_)
 ·exact yd X (AI (xs:=Tk.cells t) X X (M.rdBlk 2 X X) Bm X BA) (yd X (AI (xs:=[AA t.id,str t.loc,str [],AA t.born,AA 0,str [],AA 0,.int .u8 0,AA 0]) X X (M.rdBlk 0 X X) Bm X BA) (yd X (SJ (a:=t) (b:=(⟨t.id,t.loc,[],t.born,0,[],0,0,0⟩:Tk)) X X X) (yb X (k146 M))))
 refine T4 ?_;exact k146 M
theorem a0C {e:Env} {w:Kw} {o:Oper} {x:Lz} {b:Fl} (ho:o.op=.field 110 x 2) (hx:ev e x=some (.agg b.cells.toArray)):Y prog e o w (str b.tg):=λρ h=>by
 unfold execOp
 simp [ho,h _ _ hx,Instr.field,run_underlying underlying110,asAgg,part,isAgg9,Fl.cells]
theorem GQ (m:Md) (id:Kz):(D7 m id).length≤m.els.length:=by unfold D7;rw [Bp];exact Ef _ _
def aX (c:CrA) (t:Tk):List Kz:=
 if ((decide (((c.atf t.loc).kind.toNat:Int)=(3:Int))) || (decide (((c.atf t.loc).kind.toNat:Int)=(8:Int))))=true then [t.loc]
 else if (decide (((c.atf t.loc).kind.toNat:Int)=(7:Int)))=true then (c.outs t.loc).map (λk=>(c.flf k).tg)
 else []
def EI (m:Md) (c:CrA) (t:Tk):List Kz:=
 if (decide (t.loc=[]))=true then [] else aX c t++([t.loc]++AY m.els t.loc).flatMap (D7 m)
theorem vZ (m:Md) (gc:Nat) (c:CrA) (F:List Nat) (t:Tk) (w:Kw) (ho:MdOk m) (hC:CourseN w m gc c F) :
 Calls prog 110 #[pg gc,.agg t.cells.toArray] w λe w'=>∃A c',e=.returned (.slice A (EI m c t).length c')∧w'.ownsRow w.heap.size 9 1 (.slice A (EI m c t).length c') (EI m c t).length (AE BG (EI m c t))∧Fr0 w w':=by
 have hne:=ho.nels;have hnf:=ho.nfls;have hol:=hC.lenO t.loc;have har:=OW m.els t.loc;have hAL:([t.loc]++(AY m.els t.loc)).length≤65:=by rw [Ah,Af,Aq];omega
 refine BR func110 ntmps110 X λM=>W ?_
 refine CO M X X λg3 w1 hg3 M=>W ?_
 refine AB X (λh12=>?_) (λh12=>?_)
 ·refine W ?_;refine gr1 X ?_;have hv0:EI m c t=[]:=if_pos h12;rw [hv0];exact ⟨none,0,X,World.ownsRow_nil _ _ _ _,M.fr⟩
 have h12p:=odf h12;refine W ?_;refine CS CA gkr ?_;have M:=M.drew;refine T3 ?_;refine sd X X (Blk.c ((hC.fr0 M.fr).blk) 5 X) (W ?_);refine sa X (CD X X X Cx Aa AP ((hC.fr0 M.fr).A) (hC.getA _)) (sa X (VH (b:=(c.atf t.loc)) X X) (W ?_));refine K5 [(0,pg gc),(3,pg g3),(5,.slice none 0 0),(20,.int .u8 ((c.atf t.loc).kind.toNat:Int)),(21,.bool ((decide (((c.atf t.loc).kind.toNat:Int)=3)) || (decide (((c.atf t.loc).kind.toNat:Int)=8))))] (λw'=>Mem w AR [As.blk g3 75 (Tk.cells t)] w') ?_ (λk21=>?_)
 ·intro w2 M;refine qx_seq (AB X (λh21=>?_) (λh21=>?_))
  ·have h21p:=bd h21;refine W ?_;refine CV M kw X X [str t.loc] ([str t.loc]) X X X X Az CG X X (GT X) X λg27 w3 hg27 M=>?_
   have M:=M.nilOwn 9 1;refine CN (len':=[t.loc].length) (xs':=AE BG [t.loc]) M 0 kw X X X X X X (M.rdBlk 1 X X) Az C0 X AV (BW X) (Ab _) (Ab _) DC (by unfold maxLen;first|omega|(simp only [Ah,Af,Aq];omega)) (by simp) (by first|exact (B3 _ _ _).symm|simp [AE,BG]) λA28 c28 w4 M=>W ?_
   refine W4 (λ(A63:Ky) (c63:Nat) (A64:Ky) (c64:Nat)=>[(0,pg gc),(5,.slice A28 ([t.loc].length) c28),(64,.slice A64 (([t.loc]++(AY m.els t.loc)).length) c64),(65,AA (([t.loc]++(AY m.els t.loc)).length:Int)),(66,AA 0)]) (λ(A63:Ky) (c63:Nat) (A64:Ky) (c64:Nat)=>λw'=>Mem w AR [As.own w.heap.size 9 1 (.slice A63 (AY m.els t.loc).length c63) ((AY m.els t.loc).length) (AE BG (AY m.els t.loc)),As.own w.heap.size 9 1 (.slice A64 (([t.loc]++(AY m.els t.loc)).length) c64) (([t.loc]++(AY m.els t.loc)).length) (AE BG ([t.loc]++(AY m.els t.loc))),As.own w.heap.size 9 1 (.slice A28 ([t.loc].length) c28) ([t.loc].length) (AE BG [t.loc]),As.blk g27 9 [str t.loc],As.blk g3 75 (Tk.cells t)] w') ?_ (λkr14=>?_)
   ·intro A63 c63 A64 c64 w5 M;refine W ?_;refine flp [65,64,0] (λze e wr mz=>∃(q:Nat) (acc2:List Kz) (A6:Ky) (c6:Nat),e=(5,.slice A6 acc2.length c6)::(66,AA (q:Int))::ze∧Mem w AR [As.own w.heap.size 9 1 (.slice A63 (AY m.els t.loc).length c63) ((AY m.els t.loc).length) (AE BG (AY m.els t.loc)),As.own w.heap.size 9 1 (.slice A64 (([t.loc]++(AY m.els t.loc)).length) c64) (([t.loc]++(AY m.els t.loc)).length) (AE BG ([t.loc]++(AY m.els t.loc))),As.own w.heap.size 9 1 (.slice A6 acc2.length c6) acc2.length (AE BG acc2),As.blk g27 9 [str t.loc],As.blk g3 75 (Tk.cells t)] wr∧(q≤([t.loc]++(AY m.els t.loc)).length)∧(acc2=[t.loc]++(([t.loc]++(AY m.els t.loc)).take q).flatMap (D7 m))∧(acc2.length≤400+q*200)∧mz=([t.loc]++(AY m.els t.loc)).length-q) ⟨0,[t.loc],A28,c28,X,M,Ae _,by rw [Et,Eo,Bv],by simp only [Af,Aq];omega,rfl⟩ ?_;rintro _ w6 _ ⟨q,acc2,A6,c6,rfl,M,hq,hv,hl2,rfl⟩;refine W ?_;refine AB X (λh67=>?_) (λh67=>?_)
    ·have h67p:=odt h67;refine W ?_;obtain ⟨z,hz⟩:=EP (l:=[t.loc]++(AY m.els t.loc)) (i:=q) A0;obtain ⟨b_z,o_z,hA_z⟩:=E3 (k:=1) A0 (M.rdOwn 1 X) hz;refine ya X (AK q hA_z X X X (sl X) A0) (yl X X (BD DI (M.rdOwn 1 X) hA_z hz 0 X) (W ?_));refine ya X (AI (xs:=[str m.id,str m.nm,.slice c.a.V m.vars.length c.a.vc,.slice c.a.E m.els.length c.a.ec,.slice c.a.F m.fls.length c.a.fc]) X X (DR ((hC.fr0 M.fr).blk) 0 5 X X) Al X AN) (yb X (MF M 76 X (AD X X call173) (OS m c.a z _ ho (hC.fr0 M.fr).md.md) λA76 c76 w7 M=>?_));have hL76:=M.ownLen 0 X;have hbl:=GQ m z;refine CN (len':=(acc2++(D7 m z)).length) (xs':=AE BG (acc2++(D7 m z))) M 3 kw X X X X X X (M.rdOwn 0 X) Az C0 X AV (DB FP) (Ab _) (Ab _) DC (by unfold maxLen;first|omega|(simp only [Ah,Af,Aq];omega)) (by simp) (by first|exact (B3 _ _ _).symm|simp [AE,BG]) λA77 c77 w8 M=>W ?_
     refine fag ⟨q+1,acc2++(D7 m z),A77,c77,X,(M.pk [1,2,3,4,5]),?_,?_,?_,X⟩
     ·omega
     ·rw [hv,AS hz,Dy,By];simp
     have hbz:=GQ m z;rw [Ah];omega
    have h67p:=odf h67;refine W ?_;have hqE:q=([t.loc]++(AY m.els t.loc)).length:=by omega
    rw [hqE,Ba] at hv
    refine W ?_;refine gr1 X ?_;have hvp:EI m c t=acc2:=by rw [EI,AM h12,hv,aX,if_pos h21]<;>rfl
    rw [hvp];exact ⟨_,_,X,M.own 2 X,M.fr⟩
   refine J2 M 13 CA λM=>oc 0 13 X X M (ol 1 13 X X X M (λ_ M=>(M.cell 2 X X)) (oc 3 13 X X M (oc 4 13 X X M (oc 5 13 X X M (oa 6 13 X X M (λ_ M=>AI (xs:=[str m.id,str m.nm,.slice c.a.V m.vars.length c.a.vc,.slice c.a.E m.els.length c.a.ec,.slice c.a.F m.fls.length c.a.fc]) X X (DR ((hC.fr0 M.fr).blk) 0 5 X X) Al X AN) (oc 7 13 X X M (ol 8 13 X X X M (λ_ M=>(M.cell 2 X X)) (oc 12 13 X X M (G3 (rs:=[2,9]) gkr (by simp) λiz hiz=>?_)))))))))
   simp only [Ak,Ax,or_false] at hiz
   rcases hiz with rfl|rfl
   ·refine E0 (some 56) X kw X X (λρ hρ=>DA [str t.loc] _ hρ X X X X Az CG AV AV (GT X)) ?_;rintro _ w9 ⟨g56,rfl,hg56,hq56,hb56,hfw9⟩
    replace hb56:Blk w9 g56 9 ([str t.loc]):=hb56
    refine ⟨λ_=>M.step hfw9,?_⟩;have M:=M.push hfw9 _ hb56 (CU hg56 hq56)
    replace M:Mem w AR (As.blk g56 9 ([str t.loc])::_) w9:=M
    refine BC 9 (some 63) gkr X kw X X (AD X X call172) (K1 m c.a t.loc _ ho (hC.fr0 M.fr).md.md) ?_;rintro _ w10 ⟨A63,c63,rfl,how10,hfw10⟩;refine ⟨_,X,λ_=>(M.drop 1).step hfw10,?_⟩;have M:=M.pushOwn hfw10 (Ab _) how10;have hL63:=M.ownLen 0 X;have M:=M.blkOwn 1 (size:=1) (n:=1) X X (by unfold maxLen;omega);refine B5 10 (some 64) gkr X kw X X (λρ hρ=>DL _ _ _ X w.heap.size _ _ _ _ Az C0 X AV _ _ _ (hρ _ _ X) (M.own 1 X) _ _ _ _ (hρ _ _ X) (M.rdOwn 0 X) (DB FP) (by unfold maxLen;first|omega|(simp only [Ah,Af,Aq];omega)) DC M.fr.size) ?_;rintro v64 w11 ⟨ho64,hgr64,hvb64⟩
    replace ho64:World.ownsRow w11 w.heap.size 9 1 v64 (([t.loc]++(AY m.els t.loc)).length) (AE BG ([t.loc]++(AY m.els t.loc))):=by rw [show (([t.loc]++(AY m.els t.loc)).length)=1+(AY m.els t.loc).length from by first|(simp only [Ah,Af,Aq];omega)|simp only [Ah,Af,Aq],show (AE BG ([t.loc]++(AY m.els t.loc)))=(AE BG [t.loc])++(AE BG (AY m.els t.loc)) from by first|exact B3 _ _ _|simp [AE,BG]];exact ho64
    have M:=M.appOwn 1 X ho64 hgr64 hvb64;obtain ⟨A64,c64,rfl,_⟩:=E8 ho64;exact ⟨λ_=>(M.drop 2),oa 11 13 X X (M.drop 2) (λ_ M=>I7 X X (sl X)) (fdn (kr14 A63 c63 A64 c64 _ _ M ⟨X,X,X,X,X,trivial⟩))⟩
   refine HU (some 63) X kw X X (AD X X call172) (K1 m c.a t.loc _ ho (hC.fr0 M.fr).md.md) ?_;rintro _ w12 ⟨A63,c63,rfl,how12,hfw12⟩;refine ⟨_,X,λ_=>M.step hfw12,?_⟩;have M:=M.pushOwn hfw12 (Ab _) how12;have hL63:=M.ownLen 0 X;refine B5 2 (some 56) gkr X kw X X (λρ hρ=>DA [str t.loc] _ hρ X X X X Az CG AV AV (GT X)) ?_;rintro _ w13 ⟨g56,rfl,hg56,hq56,hb56,hfw13⟩
   replace hb56:Blk w13 g56 9 ([str t.loc]):=hb56
   refine ⟨λ_=>(M.drop 1).step hfw13,?_⟩;have M:=M.push hfw13 _ hb56 (CU hg56 hq56)
   replace M:Mem w AR (As.blk g56 9 ([str t.loc])::_) w13:=M
   have M:=M.blkOwn 0 (size:=1) (n:=1) X X (by unfold maxLen;omega);refine B5 10 (some 64) gkr X kw X X (λρ hρ=>DL _ _ _ X w.heap.size _ _ _ _ Az C0 X AV _ _ _ (hρ _ _ X) (M.own 0 X) _ _ _ _ (hρ _ _ X) (M.rdOwn 1 X) (DB FP) (by unfold maxLen;first|omega|(simp only [Ah,Af,Aq];omega)) DC M.fr.size) ?_;rintro v64 w14 ⟨ho64,hgr64,hvb64⟩
   replace ho64:World.ownsRow w14 w.heap.size 9 1 v64 (([t.loc]++(AY m.els t.loc)).length) (AE BG ([t.loc]++(AY m.els t.loc))):=by rw [show (([t.loc]++(AY m.els t.loc)).length)=1+(AY m.els t.loc).length from by first|(simp only [Ah,Af,Aq];omega)|simp only [Ah,Af,Aq],show (AE BG ([t.loc]++(AY m.els t.loc)))=(AE BG [t.loc])++(AE BG (AY m.els t.loc)) from by first|exact B3 _ _ _|simp [AE,BG]];exact ho64
   have M:=M.appOwn 0 X ho64 hgr64 hvb64;obtain ⟨A64,c64,rfl,_⟩:=E8 ho64;exact ⟨λ_=>(M.drop 2),oa 11 13 X X (M.drop 2) (λ_ M=>I7 X X (sl X)) (fdn (kr14 A63 c63 A64 c64 _ _ (M.pk [1,0,2,3,4]) ⟨X,X,X,X,X,trivial⟩))⟩
  have h21p:=bd h21;refine W ?_;refine AB X (λh29=>?_) (λh29=>?_)
  ·have h29p:=odt h29;refine sx_seq (CS CA gkr ?_);have M:=M.drew;refine T3 ?_;refine sd X X (Blk.c ((hC.fr0 M.fr).blk) 8 X) (W ?_);refine sa X (CD X X X Gg Aa J3 ((hC.fr0 M.fr).O) (hC.getO _)) (W ?_);have M:=M.nilOwn 9 1;refine flp [38,37,3,0] (λze e wr mz=>∃(j:Nat) (acc:List Kz) (A5:Ky) (c5:Nat),e=(5,.slice A5 acc.length c5)::(39,AA (j:Int))::ze∧Mem w AR [As.own w.heap.size 9 1 (.slice A5 acc.length c5) acc.length (AE BG acc),As.blk g3 75 (Tk.cells t)] wr∧(j≤(c.outs t.loc).length)∧(acc=((c.outs t.loc).take j).map (λk=>(c.flf k).tg)∧acc.length=j)∧mz=(c.outs t.loc).length-j) ⟨0,[],none,0,X,M,Ae _,⟨X,X⟩,X⟩ ?_;rintro _ w15 _ ⟨j,acc,A5,c5,rfl,M,hj,hacc,rfl⟩;refine W ?_;refine AB X (λh40=>?_) (λh40=>?_)
   ·have h40p:=odt h40;refine W ?_;obtain ⟨k,_,_,hk,hA_k⟩:=ex5 (l:=(c.outs t.loc)) (k:=1) (i:=j) ((hC.fr0 M.fr).rdO _);refine ya X (AK j hA_k X X X (sl X) A0) (yl X X (BD DI ((hC.fr0 M.fr).rdO _) hA_k hk 0 X) (T8 ?_));refine yl X X (Blk.c ((hC.fr0 M.fr).blk) 6 X) (yb X (ya X (CD X X X Ik Aa DS ((hC.fr0 M.fr).L) (hC.getL _)) (ya X (a0C (b:=(c.flf k)) X X) (CV M kw X X [str ((c.flf k).tg)] ([str ((c.flf k).tg)]) X X X X Az CG X X (GT X) X λg51 w16 hg51 M=>CN (len':=(acc++[(c.flf k).tg]).length) (xs':=AE BG (acc++[(c.flf k).tg])) M 1 kw X X X X X X (M.rdBlk 0 X X) Az C0 X AV (BW X) (Ab _) (Ab _) DC (by unfold maxLen;first|omega|(simp only [Ah,Af,Aq];omega)) (by simp) (by first|exact (B3 _ _ _).symm|simp [AE,BG]) λA52 c52 w17 M=>W ?_))));refine fag ⟨j+1,acc++[(c.flf k).tg],A52,c52,X,(M.pk [1,2]),?_,?_,X⟩
    ·omega
    exact ⟨by rw [hacc.1,AS hk,Ck];rfl,by rw [Ah,hacc.2];rfl⟩
   have h40p:=odf h40;refine W ?_;have hjE:j=(c.outs t.loc).length:=by omega
   have hal:acc.length≤400:=by rw [hacc.2,hjE];omega
   have hac:=hacc.1;rw [hjE,Ba] at hac
   refine W ?_;refine W4 (λ(A63:Ky) (c63:Nat) (A64:Ky) (c64:Nat)=>[(0,pg gc),(5,.slice A5 acc.length c5),(64,.slice A64 (([t.loc]++(AY m.els t.loc)).length) c64),(65,AA (([t.loc]++(AY m.els t.loc)).length:Int)),(66,AA 0)]) (λ(A63:Ky) (c63:Nat) (A64:Ky) (c64:Nat)=>λw'=>Mem w AR [As.own w.heap.size 9 1 (.slice A63 (AY m.els t.loc).length c63) ((AY m.els t.loc).length) (AE BG (AY m.els t.loc)),As.own w.heap.size 9 1 (.slice A64 (([t.loc]++(AY m.els t.loc)).length) c64) (([t.loc]++(AY m.els t.loc)).length) (AE BG ([t.loc]++(AY m.els t.loc))),As.own w.heap.size 9 1 (.slice A5 acc.length c5) acc.length (AE BG acc),As.blk g3 75 (Tk.cells t)] w') ?_ (λkr14=>?_)
   ·intro A63 c63 A64 c64 w18 M;refine W ?_;refine flp [65,64,0] (λze e wr mz=>∃(q:Nat) (acc2:List Kz) (A6:Ky) (c6:Nat),e=(5,.slice A6 acc2.length c6)::(66,AA (q:Int))::ze∧Mem w AR [As.own w.heap.size 9 1 (.slice A63 (AY m.els t.loc).length c63) ((AY m.els t.loc).length) (AE BG (AY m.els t.loc)),As.own w.heap.size 9 1 (.slice A64 (([t.loc]++(AY m.els t.loc)).length) c64) (([t.loc]++(AY m.els t.loc)).length) (AE BG ([t.loc]++(AY m.els t.loc))),As.own w.heap.size 9 1 (.slice A6 acc2.length c6) acc2.length (AE BG acc2),As.blk g3 75 (Tk.cells t)] wr∧(q≤([t.loc]++(AY m.els t.loc)).length)∧(acc2=acc++(([t.loc]++(AY m.els t.loc)).take q).flatMap (D7 m))∧(acc2.length≤400+q*200)∧mz=([t.loc]++(AY m.els t.loc)).length-q) ⟨0,acc,A5,c5,X,M,Ae _,by rw [Et,Eo,Bv],by omega,rfl⟩ ?_;rintro _ w19 _ ⟨q,acc2,A6,c6,rfl,M,hq,hv,hl2,rfl⟩;refine W ?_;refine AB X (λh67=>?_) (λh67=>?_)
    ·have h67p:=odt h67;refine W ?_;obtain ⟨z,hz⟩:=EP (l:=[t.loc]++(AY m.els t.loc)) (i:=q) A0;obtain ⟨b_z,o_z,hA_z⟩:=E3 (k:=1) A0 (M.rdOwn 1 X) hz;refine ya X (AK q hA_z X X X (sl X) A0) (yl X X (BD DI (M.rdOwn 1 X) hA_z hz 0 X) (W ?_));refine ya X (AI (xs:=[str m.id,str m.nm,.slice c.a.V m.vars.length c.a.vc,.slice c.a.E m.els.length c.a.ec,.slice c.a.F m.fls.length c.a.fc]) X X (DR ((hC.fr0 M.fr).blk) 0 5 X X) Al X AN) (yb X (MF M 76 X (AD X X call173) (OS m c.a z _ ho (hC.fr0 M.fr).md.md) λA76 c76 w20 M=>?_));have hL76:=M.ownLen 0 X;have hbl:=GQ m z;refine CN (len':=(acc2++(D7 m z)).length) (xs':=AE BG (acc2++(D7 m z))) M 3 kw X X X X X X (M.rdOwn 0 X) Az C0 X AV (DB FP) (Ab _) (Ab _) DC (by unfold maxLen;first|omega|(simp only [Ah,Af,Aq];omega)) (by simp) (by first|exact (B3 _ _ _).symm|simp [AE,BG]) λA77 c77 w21 M=>W ?_
     refine fag ⟨q+1,acc2++(D7 m z),A77,c77,X,(M.pk [1,2,3,4]),?_,?_,?_,X⟩
     ·omega
     ·rw [hv,AS hz,Dy,By];simp
     have hbz:=GQ m z;rw [Ah];omega
    have h67p:=odf h67;refine W ?_;have hqE:q=([t.loc]++(AY m.els t.loc)).length:=by omega
    rw [hqE,Ba] at hv
    refine W ?_;refine gr1 X ?_;have hvp:EI m c t=acc2:=by rw [EI,AM h12,hv,aX,AM h21,if_pos h29,←hac]<;>rfl
    rw [hvp];exact ⟨_,_,X,M.own 2 X,M.fr⟩
   refine J2 M 13 CA λM=>oc 0 13 X X M (ol 1 13 X X X M (λ_ M=>(M.cell 1 X X)) (oc 3 13 X X M (oc 4 13 X X M (oc 5 13 X X M (oa 6 13 X X M (λ_ M=>AI (xs:=[str m.id,str m.nm,.slice c.a.V m.vars.length c.a.vc,.slice c.a.E m.els.length c.a.ec,.slice c.a.F m.fls.length c.a.fc]) X X (DR ((hC.fr0 M.fr).blk) 0 5 X X) Al X AN) (oc 7 13 X X M (ol 8 13 X X X M (λ_ M=>(M.cell 1 X X)) (oc 12 13 X X M (G3 (rs:=[2,9]) gkr (by simp) λiz hiz=>?_)))))))))
   simp only [Ak,Ax,or_false] at hiz
   rcases hiz with rfl|rfl
   ·refine E0 (some 56) X kw X X (λρ hρ=>DA [str t.loc] _ hρ X X X X Az CG AV AV (GT X)) ?_;rintro _ w22 ⟨g56,rfl,hg56,hq56,hb56,hfw22⟩
    replace hb56:Blk w22 g56 9 ([str t.loc]):=hb56
    refine ⟨λ_=>M.step hfw22,?_⟩;have M:=M.push hfw22 _ hb56 (CU hg56 hq56)
    replace M:Mem w AR (As.blk g56 9 ([str t.loc])::_) w22:=M
    refine BC 9 (some 63) gkr X kw X X (AD X X call172) (K1 m c.a t.loc _ ho (hC.fr0 M.fr).md.md) ?_;rintro _ w23 ⟨A63,c63,rfl,how23,hfw23⟩;refine ⟨_,X,λ_=>(M.drop 1).step hfw23,?_⟩;have M:=M.pushOwn hfw23 (Ab _) how23;have hL63:=M.ownLen 0 X;have M:=M.blkOwn 1 (size:=1) (n:=1) X X (by unfold maxLen;omega);refine B5 10 (some 64) gkr X kw X X (λρ hρ=>DL _ _ _ X w.heap.size _ _ _ _ Az C0 X AV _ _ _ (hρ _ _ X) (M.own 1 X) _ _ _ _ (hρ _ _ X) (M.rdOwn 0 X) (DB FP) (by unfold maxLen;first|omega|(simp only [Ah,Af,Aq];omega)) DC M.fr.size) ?_;rintro v64 w24 ⟨ho64,hgr64,hvb64⟩
    replace ho64:World.ownsRow w24 w.heap.size 9 1 v64 (([t.loc]++(AY m.els t.loc)).length) (AE BG ([t.loc]++(AY m.els t.loc))):=by rw [show (([t.loc]++(AY m.els t.loc)).length)=1+(AY m.els t.loc).length from by first|(simp only [Ah,Af,Aq];omega)|simp only [Ah,Af,Aq],show (AE BG ([t.loc]++(AY m.els t.loc)))=(AE BG [t.loc])++(AE BG (AY m.els t.loc)) from by first|exact B3 _ _ _|simp [AE,BG]];exact ho64
    have M:=M.appOwn 1 X ho64 hgr64 hvb64;obtain ⟨A64,c64,rfl,_⟩:=E8 ho64;exact ⟨λ_=>(M.drop 2),oa 11 13 X X (M.drop 2) (λ_ M=>I7 X X (sl X)) (fdn (kr14 A63 c63 A64 c64 _ _ M ⟨X,X,X,X,X,trivial⟩))⟩
   refine HU (some 63) X kw X X (AD X X call172) (K1 m c.a t.loc _ ho (hC.fr0 M.fr).md.md) ?_;rintro _ w25 ⟨A63,c63,rfl,how25,hfw25⟩;refine ⟨_,X,λ_=>M.step hfw25,?_⟩;have M:=M.pushOwn hfw25 (Ab _) how25;have hL63:=M.ownLen 0 X;refine B5 2 (some 56) gkr X kw X X (λρ hρ=>DA [str t.loc] _ hρ X X X X Az CG AV AV (GT X)) ?_;rintro _ w26 ⟨g56,rfl,hg56,hq56,hb56,hfw26⟩
   replace hb56:Blk w26 g56 9 ([str t.loc]):=hb56
   refine ⟨λ_=>(M.drop 1).step hfw26,?_⟩;have M:=M.push hfw26 _ hb56 (CU hg56 hq56)
   replace M:Mem w AR (As.blk g56 9 ([str t.loc])::_) w26:=M
   have M:=M.blkOwn 0 (size:=1) (n:=1) X X (by unfold maxLen;omega);refine B5 10 (some 64) gkr X kw X X (λρ hρ=>DL _ _ _ X w.heap.size _ _ _ _ Az C0 X AV _ _ _ (hρ _ _ X) (M.own 0 X) _ _ _ _ (hρ _ _ X) (M.rdOwn 1 X) (DB FP) (by unfold maxLen;first|omega|(simp only [Ah,Af,Aq];omega)) DC M.fr.size) ?_;rintro v64 w27 ⟨ho64,hgr64,hvb64⟩
   replace ho64:World.ownsRow w27 w.heap.size 9 1 v64 (([t.loc]++(AY m.els t.loc)).length) (AE BG ([t.loc]++(AY m.els t.loc))):=by rw [show (([t.loc]++(AY m.els t.loc)).length)=1+(AY m.els t.loc).length from by first|(simp only [Ah,Af,Aq];omega)|simp only [Ah,Af,Aq],show (AE BG ([t.loc]++(AY m.els t.loc)))=(AE BG [t.loc])++(AE BG (AY m.els t.loc)) from by first|exact B3 _ _ _|simp [AE,BG]];exact ho64
   have M:=M.appOwn 0 X ho64 hgr64 hvb64;obtain ⟨A64,c64,rfl,_⟩:=E8 ho64;exact ⟨λ_=>(M.drop 2),oa 11 13 X X (M.drop 2) (λ_ M=>I7 X X (sl X)) (fdn (kr14 A63 c63 A64 c64 _ _ (M.pk [1,0,2,3]) ⟨X,X,X,X,X,trivial⟩))⟩
  have h29p:=odf h29;refine W ?_;refine W4 (λ(A63:Ky) (c63:Nat) (A64:Ky) (c64:Nat)=>[(0,pg gc),(5,.slice none 0 0),(64,.slice A64 (([t.loc]++(AY m.els t.loc)).length) c64),(65,AA (([t.loc]++(AY m.els t.loc)).length:Int)),(66,AA 0)]) (λ(A63:Ky) (c63:Nat) (A64:Ky) (c64:Nat)=>λw'=>Mem w AR [As.own w.heap.size 9 1 (.slice A63 (AY m.els t.loc).length c63) ((AY m.els t.loc).length) (AE BG (AY m.els t.loc)),As.own w.heap.size 9 1 (.slice A64 (([t.loc]++(AY m.els t.loc)).length) c64) (([t.loc]++(AY m.els t.loc)).length) (AE BG ([t.loc]++(AY m.els t.loc))),As.blk g3 75 (Tk.cells t)] w') ?_ (λkr14=>?_)
  ·intro A63 c63 A64 c64 w28 M;refine W ?_;have M:=M.nilOwn 9 1;refine flp [65,64,0] (λze e wr mz=>∃(q:Nat) (acc2:List Kz) (A6:Ky) (c6:Nat),e=(5,.slice A6 acc2.length c6)::(66,AA (q:Int))::ze∧Mem w AR [As.own w.heap.size 9 1 (.slice A6 acc2.length c6) acc2.length (AE BG acc2),As.own w.heap.size 9 1 (.slice A63 (AY m.els t.loc).length c63) ((AY m.els t.loc).length) (AE BG (AY m.els t.loc)),As.own w.heap.size 9 1 (.slice A64 (([t.loc]++(AY m.els t.loc)).length) c64) (([t.loc]++(AY m.els t.loc)).length) (AE BG ([t.loc]++(AY m.els t.loc))),As.blk g3 75 (Tk.cells t)] wr∧(q≤([t.loc]++(AY m.els t.loc)).length)∧(acc2=[]++(([t.loc]++(AY m.els t.loc)).take q).flatMap (D7 m))∧(acc2.length≤400+q*200)∧mz=([t.loc]++(AY m.els t.loc)).length-q) ⟨0,[],none,0,X,M,Ae _,by rw [Et,Eo,Bv],by simp only [Aq];omega,rfl⟩ ?_;rintro _ w29 _ ⟨q,acc2,A6,c6,rfl,M,hq,hv,hl2,rfl⟩;refine W ?_;refine AB X (λh67=>?_) (λh67=>?_)
   ·have h67p:=odt h67;refine W ?_;obtain ⟨z,_,_,hz,hA_z⟩:=ex5 (l:=[t.loc]++(AY m.els t.loc)) (k:=1) (i:=q) (M.rdOwn 2 X);refine ya X (AK q hA_z X X X (sl X) A0) (yl X X (BD DI (M.rdOwn 2 X) hA_z hz 0 X) (W ?_));refine ya X (AI (xs:=[str m.id,str m.nm,.slice c.a.V m.vars.length c.a.vc,.slice c.a.E m.els.length c.a.ec,.slice c.a.F m.fls.length c.a.fc]) X X (DR ((hC.fr0 M.fr).blk) 0 5 X X) Al X AN) (yb X (MF M 76 X (AD X X call173) (OS m c.a z _ ho (hC.fr0 M.fr).md.md) λA76 c76 w30 M=>?_));have hL76:=M.ownLen 0 X;have hbl:=GQ m z;refine CN (len':=(acc2++(D7 m z)).length) (xs':=AE BG (acc2++(D7 m z))) M 1 kw X X X X X X (M.rdOwn 0 X) Az C0 X AV (DB FP) (Ab _) (Ab _) DC (by unfold maxLen;first|omega|(simp only [Ah,Af,Aq];omega)) (by simp) (by first|exact (B3 _ _ _).symm|simp [AE,BG]) λA77 c77 w31 M=>W ?_
    refine fag ⟨q+1,acc2++(D7 m z),A77,c77,X,(M.pk [1,2,3,4]),?_,?_,?_,X⟩
    ·omega
    ·rw [hv,AS hz,Dy,By];simp
    have hbz:=GQ m z;rw [Ah];omega
   have h67p:=odf h67;refine W ?_;have hqE:q=([t.loc]++(AY m.els t.loc)).length:=by omega
   rw [hqE,Ba] at hv
   refine W ?_;refine gr1 X ?_;have hvp:EI m c t=acc2:=by rw [EI,AM h12,hv,aX,AM h21,AM h29]<;>rfl
   rw [hvp];exact ⟨_,_,X,M.own 0 X,M.fr⟩
  refine J2 M 13 CA λM=>oc 0 13 X X M (ol 1 13 X X X M (λ_ M=>(M.cell 0 X X)) (oc 3 13 X X M (oc 4 13 X X M (oc 5 13 X X M (oa 6 13 X X M (λ_ M=>AI (xs:=[str m.id,str m.nm,.slice c.a.V m.vars.length c.a.vc,.slice c.a.E m.els.length c.a.ec,.slice c.a.F m.fls.length c.a.fc]) X X (DR ((hC.fr0 M.fr).blk) 0 5 X X) Al X AN) (oc 7 13 X X M (ol 8 13 X X X M (λ_ M=>(M.cell 0 X X)) (oc 12 13 X X M (G3 (rs:=[2,9]) gkr (by simp) λiz hiz=>?_)))))))))
  simp only [Ak,Ax,or_false] at hiz
  rcases hiz with rfl|rfl
  ·refine E0 (some 56) X kw X X (λρ hρ=>DA [str t.loc] _ hρ X X X X Az CG AV AV (GT X)) ?_;rintro _ w32 ⟨g56,rfl,hg56,hq56,hb56,hfw32⟩
   replace hb56:Blk w32 g56 9 ([str t.loc]):=hb56
   refine ⟨λ_=>M.step hfw32,?_⟩;have M:=M.push hfw32 _ hb56 (CU hg56 hq56)
   replace M:Mem w AR (As.blk g56 9 ([str t.loc])::_) w32:=M
   refine BC 9 (some 63) gkr X kw X X (AD X X call172) (K1 m c.a t.loc _ ho (hC.fr0 M.fr).md.md) ?_;rintro _ w33 ⟨A63,c63,rfl,how33,hfw33⟩;refine ⟨_,X,λ_=>(M.drop 1).step hfw33,?_⟩;have M:=M.pushOwn hfw33 (Ab _) how33;have hL63:=M.ownLen 0 X;have M:=M.blkOwn 1 (size:=1) (n:=1) X X (by unfold maxLen;omega);refine B5 10 (some 64) gkr X kw X X (λρ hρ=>DL _ _ _ X w.heap.size _ _ _ _ Az C0 X AV _ _ _ (hρ _ _ X) (M.own 1 X) _ _ _ _ (hρ _ _ X) (M.rdOwn 0 X) (DB FP) (by unfold maxLen;first|omega|(simp only [Ah,Af,Aq];omega)) DC M.fr.size) ?_;rintro v64 w34 ⟨ho64,hgr64,hvb64⟩
   replace ho64:World.ownsRow w34 w.heap.size 9 1 v64 (([t.loc]++(AY m.els t.loc)).length) (AE BG ([t.loc]++(AY m.els t.loc))):=by rw [show (([t.loc]++(AY m.els t.loc)).length)=1+(AY m.els t.loc).length from by first|(simp only [Ah,Af,Aq];omega)|simp only [Ah,Af,Aq],show (AE BG ([t.loc]++(AY m.els t.loc)))=(AE BG [t.loc])++(AE BG (AY m.els t.loc)) from by first|exact B3 _ _ _|simp [AE,BG]];exact ho64
   have M:=M.appOwn 1 X ho64 hgr64 hvb64;obtain ⟨A64,c64,rfl,_⟩:=E8 ho64;exact ⟨λ_=>(M.drop 2),oa 11 13 X X (M.drop 2) (λ_ M=>I7 X X (sl X)) (fdn (kr14 A63 c63 A64 c64 _ _ M ⟨X,X,X,X,X,trivial⟩))⟩
  refine HU (some 63) X kw X X (AD X X call172) (K1 m c.a t.loc _ ho (hC.fr0 M.fr).md.md) ?_;rintro _ w35 ⟨A63,c63,rfl,how35,hfw35⟩;refine ⟨_,X,λ_=>M.step hfw35,?_⟩;have M:=M.pushOwn hfw35 (Ab _) how35;have hL63:=M.ownLen 0 X;refine B5 2 (some 56) gkr X kw X X (λρ hρ=>DA [str t.loc] _ hρ X X X X Az CG AV AV (GT X)) ?_;rintro _ w36 ⟨g56,rfl,hg56,hq56,hb56,hfw36⟩
  replace hb56:Blk w36 g56 9 ([str t.loc]):=hb56
  refine ⟨λ_=>(M.drop 1).step hfw36,?_⟩;have M:=M.push hfw36 _ hb56 (CU hg56 hq56)
  replace M:Mem w AR (As.blk g56 9 ([str t.loc])::_) w36:=M
  have M:=M.blkOwn 0 (size:=1) (n:=1) X X (by unfold maxLen;omega);refine B5 10 (some 64) gkr X kw X X (λρ hρ=>DL _ _ _ X w.heap.size _ _ _ _ Az C0 X AV _ _ _ (hρ _ _ X) (M.own 0 X) _ _ _ _ (hρ _ _ X) (M.rdOwn 1 X) (DB FP) (by unfold maxLen;first|omega|(simp only [Ah,Af,Aq];omega)) DC M.fr.size) ?_;rintro v64 w37 ⟨ho64,hgr64,hvb64⟩
  replace ho64:World.ownsRow w37 w.heap.size 9 1 v64 (([t.loc]++(AY m.els t.loc)).length) (AE BG ([t.loc]++(AY m.els t.loc))):=by rw [show (([t.loc]++(AY m.els t.loc)).length)=1+(AY m.els t.loc).length from by first|(simp only [Ah,Af,Aq];omega)|simp only [Ah,Af,Aq],show (AE BG ([t.loc]++(AY m.els t.loc)))=(AE BG [t.loc])++(AE BG (AY m.els t.loc)) from by first|exact B3 _ _ _|simp [AE,BG]];exact ho64
  have M:=M.appOwn 0 X ho64 hgr64 hvb64;obtain ⟨A64,c64,rfl,_⟩:=E8 ho64;exact ⟨λ_=>(M.drop 2),oa 11 13 X X (M.drop 2) (λ_ M=>I7 X X (sl X)) (fdn (kr14 A63 c63 A64 c64 _ _ (M.pk [1,0,2]) ⟨X,X,X,X,X,trivial⟩))⟩
 refine AB X (λh21=>?_) (λh21=>?_)
 ·exact sx_skip (k21 _ _ M ⟨X,X,X,X,(by rw [h21];rfl),trivial⟩)
 refine T4 ?_;exact k21 _ _ M ⟨X,X,X,X,(by rw [h21];rfl),trivial⟩
section
theorem fH {m:Md} (l:List Kz):(l.flatMap (D7 m)).length≤l.length*m.els.length:=by
 induction l with
 | nil=>simp
 | cons a r ih=>
  have:=GQ m a
  rw [Fj,Ah,Af,Iy];omega
theorem YP {m:Md} {w:Kw} {gc:Nat} {c:CrA} {F:List Nat} (ho:MdOk m) (hC:CourseN w m gc c F) (t:Tk):(EI m c t).length≤20000:=by
 have h1:(aX c t).length≤400:=by
  have:=hC.lenO t.loc
  have:=ho.nfls
  unfold aX
  repeat' split
  all_goals first
   | (rw [Bp];omega)
   | simp
 have h2:=fH (m:=m) ([t.loc]++AY m.els t.loc);have h3:=OW m.els t.loc;have h4:([t.loc]++AY m.els t.loc).length≤65:=by rw [Ah,Af,Aq];omega
 have h5:=Nat.mul_le_mul h4 ho.nels;unfold EI
 split
 ·simp
 rw [Ah];omega
def VM (c:CrA) (t:Tk) (vars:List Bd):List Kz→Option Int
 | []=>none
 | k::r=>if (!decide ((GR c k t.born vars).2=(0:Int)))=true then some (GR c k t.born vars).2 else VM c t vars r
def D5 (m:Md) (c:CrA) (t:Tk) (vars:List Bd):List Wt × Int:=
 if (!(HK m c t))=true then ([],1)
 else match VM c t vars (EI m c t) with
  | some e=>([],e)
  | none=>((EI m c t).map (λk=>(GR c k t.born vars).1),0)
theorem IF : (prog.info? 80).map (λi=>(i.zero,i.size,i.bytes))=some (some (.agg #[str [],.int .u8 0,str [],str [],AA 0]),5,64):=by kernel_rfl
theorem JI : (prog.info? 80).map (λi=>(i.zero,i.size))=some (some (.agg #[str [],.int .u8 0,str [],str [],AA 0]),5):=by kernel_rfl
theorem pP (m:Md) (gc:Nat) (c:CrA) (F:List Nat) (t:Tk) (V:Ky) (cv:Nat) (vars:List Bd) (w:Kw) (ho:MdOk m) (hC:CourseN w m gc c F) (hvl:vars.length≤4611686018427387904) (hV:Rd w V (vars.length*5) (AE Bd.cells vars)) :
 Calls prog 56 #[pg gc,.slice V vars.length cv,.agg t.cells.toArray] w λe w'=>∃A c',e=.returned (.tuple #[.slice A (D5 m c t vars).1.length c',AA (D5 m c t vars).2])∧w'.ownsRow w.heap.size 80 5 (.slice A (D5 m c t vars).1.length c') (D5 m c t vars).1.length (AE Wt.cells (D5 m c t vars).1)∧Fr0 w w':=by
 have hvL:=YP ho hC t;refine BR func56 ntmps56 X λM=>W ?_
 refine CO M X X λg5 w1 hg5 M=>W ?_
 refine ya X (MO X X X (pt X)) (W ?_);refine CH M 0 X X Bm BA X (CW M 17 X X call109 (WQ m gc c F t _ ho (hC.fr0 M.fr)) λw2 M=>W ?_);refine AB X (λh18=>?_) (λh18=>?_)
 ·refine W ?_;refine AZ X X X ?_;have hwp:D5 m c t vars=([],1):=if_pos h18;rw [hwp];exact ⟨none,0,X,World.ownsRow_nil _ _ _ _,M.fr⟩
 have h18p:=BO h18;refine W ?_;refine CH M 0 X X Bm BA X (MF M 21 X (AD X X call110) (vZ m gc c F t _ ho (hC.fr0 M.fr)) λA21 c21 w3 M=>?_);have hL21:=M.ownLen 0 X;refine W ?_;have M:=M.nilOwn 80 5;refine flp [22,21,5,1,0] (λze e wr mz=>∃(i:Nat) (acc:List Wt) (A8:Ky) (c8:Nat),e=(8,.slice A8 acc.length c8)::(23,AA (i:Int))::ze∧Mem w AR [As.own w.heap.size 80 5 (.slice A8 acc.length c8) acc.length (AE Wt.cells acc),As.own w.heap.size 9 1 (.slice A21 (EI m c t).length c21) ((EI m c t).length) (AE BG (EI m c t)),As.blk g5 75 (Tk.cells t)] wr∧(i≤(EI m c t).length)∧(acc=((EI m c t).take i).map (λk=>(GR c k t.born vars).1)∧acc.length=i)∧(VM c t vars (EI m c t)=VM c t vars ((EI m c t).drop i))∧mz=(EI m c t).length-i) ⟨0,[],none,0,X,M,Ae _,⟨X,X⟩,X,X⟩ ?_;rintro _ w4 _ ⟨i,acc,A8,c8,rfl,M,hi,hacc,hE,rfl⟩;refine W ?_;refine AB X (λh24=>?_) (λh24=>?_)
 ·have h24p:=odt h24;refine W ?_;obtain ⟨k,_,_,hk,hA_k⟩:=ex5 (l:=(EI m c t)) (k:=1) (i:=i) (M.rdOwn 1 X);refine ya X (AK i hA_k X X X (sl X) A0) (yl X X (BD DI (M.rdOwn 1 X) hA_k hk 0 X) (W ?_));refine CW M 33 X X call111 (vY m gc c F k t.born V cv vars _ (hC.fr0 M.fr) hvl (hV.fr0 M.fr)) λw5 M=>W ?_
  refine CI M X K9 λg11 w6 hg11 M=>BY M 0 X X C9 X λw7 M=>W ?_
  refine AB X (λh37=>?_) (λh37=>?_)
  ·refine W ?_;refine AZ X X X ?_;have hwp:D5 m c t vars=([],(GR c k t.born vars).2):=by rw [D5,AM h18,hE,AG hk,VM,if_pos h37]
   rw [hwp];exact ⟨none,0,X,World.ownsRow_nil _ _ _ _,M.fr⟩
  have h37p:=(odt (BO h37));refine W ?_;refine CH M 0 X X Cy C9 X (CV M kw X X [.agg (Wt.cells ((GR c k t.born vars).1)).toArray] (Wt.cells ((GR c k t.born vars).1)) X X X X Eh JI X X (GT X) X λg41 w8 hg41 M=>CN (len':=(acc++[((GR c k t.born vars).1)]).length) (xs':=AE Wt.cells (acc++[((GR c k t.born vars).1)])) M 2 kw X X X X X X (M.rdBlk 0 X X) Eh IF X AV (BW X) (Ab _) (Ab _) DC (by unfold maxLen;first|omega|(simp only [Ah,Af,Aq];omega)) (by simp) (by first|exact (B3 _ _ _).symm|simp [AE]) λA42 c42 w9 M=>W ?_);refine fag ⟨i+1,acc++[((GR c k t.born vars).1)],A42,c42,X,(M.pk [2,3,4]),?_,?_,?_,X⟩
  ·omega
  ·exact ⟨by rw [hacc.1,AS hk,Ck];rfl,by rw [Ah,hacc.2];rfl⟩
  rw [hE,AG hk,VM,AM h37]
 have h24p:=odf h24;refine W ?_;have hiE:i=(EI m c t).length:=by omega
 have hac:=hacc.1;rw [hiE,Ba] at hac
 have hLe:VM c t vars (EI m c t)=none:=by rw [hE,hiE,Am];rfl
 refine W ?_;refine AZ X X X ?_;have hwp:D5 m c t vars=(acc,0):=by rw [D5,AM h18,hLe,hac]
 rw [hwp];exact ⟨_,_,X,M.own 0 X,M.fr⟩
def OA (t:Tk) (k:Int):Bool:=(((decide ((0:Int)≤t.born))&&(decide (t.born≤k)))&&(((decide (t.worker=[]))&&(decide (t.until_=(0:Int)))) || (((B6 t.worker)&&(decide ((0:Int)≤t.until_)))&&(decide (t.until_≤(k+(1048576:Int)))))))
theorem cX (gc:Nat) (t:Tk) (k:Int) (w:Kw) (hw:(t.worker.length:Int)<4611686018427387904) (hk:0≤k∧k≤1099511627776) :
 Calls prog 166 #[pg gc,.agg t.cells.toArray,AA k] w (BS w (.bool (OA t k))):=by
 refine BR func166 ntmps166 X λM=>W ?_
 refine CO M X X λg4 w1 hg4 M=>W ?_
 refine fvm M 4 [4,2] [(15,.bool ((decide (t.worker=[]))&&(decide (t.until_=(0:Int)))))] ?_ (λk11=>?_)
 ·intro w2 M;refine yb X (fvm M 16 [4,2] [(32,.bool (((decide (t.worker=[]))&&(decide (t.until_=(0:Int)))) || (((B6 t.worker)&&(decide ((0:Int)≤t.until_)))&&(decide (t.until_≤(k+(1048576:Int)))))))] ?_ (λk16=>?_))
  ·intro w3 M;refine W ?_;refine fvm M 5 [7] [(41,.bool ((decide ((0:Int)≤t.born))&&(decide (t.born≤k))))] ?_ (λk36=>?_)
   ·intro w4 M;refine yb X (fvm M 2 [] [(44,.bool (((decide ((0:Int)≤t.born))&&(decide (t.born≤k)))&&(((decide (t.worker=[]))&&(decide (t.until_=(0:Int)))) || (((B6 t.worker)&&(decide ((0:Int)≤t.until_)))&&(decide (t.until_≤(k+(1048576:Int))))))))] ?_ (λk42=>?_))
    ·intro w5 M;refine W ?_;exact gr1 X ⟨by rw [OA],M.fr⟩
    refine A1 (d:=42) X (λh42=>?_) (λh42=>?_)
    ·refine T2 ?_;exact k42 M
    refine T2 ?_;exact k42 M
   refine A1 (d:=36) X (λh36=>?_) (λh36=>?_)
   ·refine T5 ?_;exact k36 M
   refine T5 ?_;exact k36 M
  refine A1 (d:=16) X (λh16=>?_) (λh16=>?_)
  ·refine T16 ?_;exact k16 M
  refine W ?_;refine sxl_call (some 19) kw X X (AD X X call37) (EN _ _ (by first|assumption|omega)) ?_;rintro _ w6 ⟨rfl,hfw6⟩;refine cq ?_;have M:=M.step hfw6;refine gyq X (fvm M 4 [16,4,2] [(24,.bool ((B6 t.worker)&&(decide ((0:Int)≤t.until_))))] ?_ (λk20=>?_))
  ·intro w7 M;refine gyq X (fvm M 6 [16,4,2] [(31,.bool (((B6 t.worker)&&(decide ((0:Int)≤t.until_)))&&(decide (t.until_≤(k+(1048576:Int))))))] ?_ (λk25=>?_))
   ·intro w8 M;exact yb X (k16 M)
   refine A1 (d:=25) X (λh25=>?_) (λh25=>?_)
   ·refine T6 ?_;exact k25 M
   refine T6 ?_;exact k25 M
  refine A1 (d:=20) X (λh20=>?_) (λh20=>?_)
  ·refine T4 ?_;exact k20 M
  refine T4 ?_;exact k20 M
 refine A1 (d:=11) X (λh11=>?_) (λh11=>?_)
 ·refine T4 ?_;exact k11 M
 refine T4 ?_;exact k11 M
def VP (a b:Bd):Bool:=(((decide (a.name=b.name))&&(decide ((a.v.kind.toNat:Int)=(b.v.kind.toNat:Int))))&&(decide ((chk a.v)=(0:Int))))
theorem pS (a b:Bd) (w:Kw) (hb:(a.v.text.length:Int)<4611686018427387904) (hY:Lay0 w) :
 Calls prog 205 #[.agg a.cells.toArray,.agg b.cells.toArray] w (BS w (.bool (VP a b))):=by
 refine BR func205 ntmps205 X λM=>W ?_
 refine CO M X X λg2 w1 hg2 M=>CO M X X λg3 w2 hg3 M=>W ?_
 refine fvm M 8 [4,2] [(18,.bool ((decide (a.name=b.name))&&(decide ((a.v.kind.toNat:Int)=(b.v.kind.toNat:Int)))))] ?_ (λk10=>?_)
 ·intro w3 M;refine yb X (fvm M 5 [4] [(24,.bool (((decide (a.name=b.name))&&(decide ((a.v.kind.toNat:Int)=(b.v.kind.toNat:Int))))&&(decide ((chk a.v)=(0:Int)))))] ?_ (λk19=>?_))
  ·intro w4 M;refine W ?_;exact gr1 X ⟨by rw [VP],M.fr⟩
  refine A1 (d:=19) X (λh19=>?_) (λh19=>?_)
  ·refine gyq X (yd X (AI (xs:=[.int .u8 (a.v.kind.toNat:Int),AA a.v.int,.bool a.v.bool,str a.v.text]) X X (DR (M.blk 1 X) 1 4 X X) Br X BQ) (sxl_call (some 22) kw X X (AD X X call38) (JS a.v _ hb (hY.fr0 M.fr).utf) ?_));rintro _ w5 ⟨rfl,hfw5⟩;refine cq ?_;have M:=M.step hfw5;refine T2 ?_;exact k19 M
  refine T5 ?_;exact k19 M
 refine A1 (d:=10) X (λh10=>?_) (λh10=>?_)
 ·refine T8 ?_;exact k10 M
 refine T8 ?_;exact k10 M
def IQ : List Bd→List Bd→Bool
 | [],[]=>true
 | a::r,b::s=>VP a b&&IQ r s
 | _,_=>false
theorem SL : ∀{l k:List Bd},l.length≠k.length→IQ l k=false
 | [],[],h=>absurd rfl h
 | [],_::_,_=>rfl
 | _::_,[],_=>rfl
 | a::r,b::s,h=>by
  rw [IQ,SL (l:=r) (k:=s) (λhh=>h (by simp [hh])),Ed]
theorem zZ (l1 l2:List Bd) (A B:Ky) (c d:Nat) (w:Kw) (hok:BdOk l1) (hA:Rd w A (l1.length*5) (AE Bd.cells l1)) (hB:Rd w B (l2.length*5) (AE Bd.cells l2)) (hY:Lay0 w) :
 Calls prog 204 #[.slice A l1.length c,.slice B l2.length d,.func (.func 205) #[] #[]] w (BS w (.bool (IQ l1 l2))):=by
 have hl:=hok.len;refine BR func204 ntmps204 X λM=>W ?_
 refine AB X (λh14=>?_) (λh14=>?_)
 ·have h14p:=(odf (CJ h14));refine W ?_;exact gr1 X ⟨by rw [SL A0],M.fr⟩
 have h14p:=(odt (BO h14));refine W ?_;refine EF M [16,15,2,1] (λze zF e wr mz=>∃(i:Nat),e=(17,AA (i:Int))::ze∧zF wr∧(i≤l1.length)∧(IQ l1 l2=IQ (l1.drop i) (l2.drop i))∧mz=l1.length-i) ⟨0,X,M,Ae _,X,X⟩ ?_;rintro _ w1 _ ⟨i,rfl,M,hi,hE,rfl⟩;refine W ?_;refine AB X (λh18=>?_) (λh18=>?_)
 ·have h18p:=odt h18;refine W ?_;obtain ⟨x,_,_,hx,hA_x⟩:=ex5 (i:=i) (hA.fr0 M.fr);refine ya X (AK i hA_x X X X (sl X) A0) (ya X (AI X X (BM Bd.len (hA.fr0 M.fr) hA_x hx) Dj X FJ) (CI M X TS λg8 w2 hg8 M=>yb X (BY M 0 X X FJ X λw3 M=>W ?_)));obtain ⟨y,_,_,hy,hA_y⟩:=ex5 (i:=i) (hB.fr0 M.fr);refine ya X (AK i hA_y X X X (sl X) A0) (ya X (AI X X (BM Bd.len (hB.fr0 M.fr) hA_y hy) Dj X FJ) (CI M X TS λg9 w4 hg9 M=>BY M 0 X X FJ X λw5 M=>W ?_));refine CH M 1 X X Dj FJ X (CH M 0 X X Dj FJ X (PN M 29 X (C5 X X X call205) (pS x y _ (hok.text x (Ac hx)) (hY.fr0 M.fr)) λw6 M=>W ?_));refine AB X (λh30=>?_) (λh30=>?_)
  ·refine W ?_;exact gr1 X ⟨by rw [hE,AG hx,AG hy,IQ,CJ h30];rfl,M.fr⟩
  have h30p:=BO h30;refine W ?_;refine fag ⟨i+1,X,(M.pick [] AV),?_,?_,X⟩
  ·omega
  rw [hE,AG hx,AG hy,IQ,BO h30];rfl
 have h18p:=odf h18;refine W ?_;refine gr1 X ?_;obtain rfl:i=l1.length:=by omega
 exact ⟨by rw [hE,Am,Eq A0];rfl,M.fr⟩
theorem wB (m:Md) (gc:Nat) (c:CrA) (F:List Nat) (l:List Bd) (A:Ky) (cap:Nat) (w:Kw) (hC:CourseN w m gc c F) (hok:BdOk l) (hA:Rd w A (l.length*5) (AE Bd.cells l)) (hY:Lay0 w) :
 Calls prog 165 #[pg gc,.slice A l.length cap] w (BS w (.bool (IQ l m.vars))):=by
 refine BR func165 ntmps165 X λM=>T12 ?_
 refine yl X X (Blk.c ((hC.fr0 M.fr).blk) 2 X) (CW M 11 X X call204 (zZ l m.vars A c.a.V cap c.a.vc _ hok (hA.fr0 M.fr) ((hC.fr0 M.fr).md.md.vars) (hY.fr0 M.fr)) λw1 M=>W ?_);exact gr1 X ⟨X,M.fr⟩
section
section
variable {P:Lw} {e:Env} {w:Kw} {o:Oper} {ρ:Lz→Kv}
theorem pD {t len cap sz el:Nat} {A:Ky} (k:Nat) {x i:Lz} (ho:o.op=.slice t x none (some i) none) (hx:ev e x=some (.slice A len cap)) (hi:ev e i=some (AA (k:Int))) (ht:EZ P t=some (el,sz)) (h:k≤cap):Y P e o w (.slice A k cap):=by
 have:=m5 (w:=w) ho hx hi ht A0
 rwa [Es] at this
end
end
theorem Tk.cells_one (t:Tk):∀u∈t.cells,u.oneCell'=true:=BW rfl
theorem X6 : (prog.info? 75).map (λi=>(i.zero,i.size,i.bytes))=some (some (.agg #[AA 0,str [],str [],AA 0,AA 0,str [],AA 0,.int .u8 0,AA 0]),9,96):=by kernel_rfl
section
section
variable {P:Lw} {Q:Exit→Act→Kw→Prop} {n:Nat} {e:Env} {w w0:Kw} {S:Nat→Prop} {L:List As} {ops:Array Oper} {o:Oper} {rest:List Oper}
end
end
section
section
variable {w0 w w':Kw} {S:Nat→Prop} {Ls:List As} {gc vn vc gx:Nat} {V:Ky} {F F':List Nat}
end
end
section
section
variable {P:Lw} {Q:Exit→Act→Kw→Prop} {n:Nat} {e:Env} {w w0:Kw} {S:Nat→Prop} {L:List As} {ops:Array Oper} {o:Oper} {rest:List Oper}
end
def As.crs (m:Md) (p:Ky) (er:Int) (c:CrA) (F:List Nat):As:=⟨F,λw=>er=0→∃gc,p=some ⟨gc,0,Option.none⟩∧CourseN w m gc c F,λh hb he=>by
 obtain ⟨gc,h1,h2⟩:=hb he;exact ⟨gc,h1,h2.keep h⟩⟩
end
end
end Go.Proofs.YtppmdnmjepkfaaaGreatDoor
