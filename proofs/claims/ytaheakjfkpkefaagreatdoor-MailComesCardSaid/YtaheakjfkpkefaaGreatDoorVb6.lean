/- Lemmas. -/
import Derived.Test.YtaheakjfkpkefaaGreatDoorVb5
set_option maxHeartbeats 16000000
set_option maxRecDepth 100000
namespace Go.Proofs.YtaheakjfkpkefaaGreatDoor
open Go.RowKit
open Tryz
def VV (s:List UInt8) (gx:Nat) (w:World) (r:Xn × Lx):Ending→World→Prop:=λe w'=>∃A F,e=.returned (.agg (r.1.cells A).toArray)∧r.1.AtL 112 w' A F∧(∀k∈F,w.heap.size≤k∧k<w'.heap.size)∧Blk w' gx 168 (Lx.cells s r.2)∧Fr (λk=>k=gx) w w'
structure PE (s:List UInt8) (w:World) (gx c5 c6 c7 c8 c9 c10:Nat):Prop where
 b5:Blk w c5 164 [.pointer (some ⟨gx,0,none⟩)]
 b6:Blk w c6 169 [.func (.func 86) #[] #[.pointer (some ⟨c5,0,none⟩),.pointer (some ⟨c10,0,none⟩),.pointer (some ⟨c6,0,none⟩)]]
 b7:Blk w c7 170 [.func (.func 81) #[] #[.pointer (some ⟨c5,0,none⟩),.pointer (some ⟨c6,0,none⟩)]]
 b8:Blk w c8 172 [.func (.func 82) #[] #[.pointer (some ⟨c5,0,none⟩)]]
 b9:Blk w c9 172 [.func (.func 84) #[] #[.pointer (some ⟨c5,0,none⟩),.pointer (some ⟨c6,0,none⟩)]]
 b10:Blk w c10 169 [.func (.func 85) #[] #[.pointer (some ⟨c5,0,none⟩),.pointer (some ⟨c7,0,none⟩),.pointer (some ⟨c9,0,none⟩),.pointer (some ⟨c8,0,none⟩)]]
 n:¬c5=gx∧¬c6=gx∧¬c7=gx∧¬c8=gx∧¬c9=gx∧¬c10=gx
 g:nGlob≤gx
 len:s.length≤256
theorem PE.fr {s:List UInt8} {w w':World} {gx c5 c6 c7 c8 c9 c10:Nat} (h:PE s w gx c5 c6 c7 c8 c9 c10) (hf:Fr (λk=>k=gx) w w'):PE s w' gx c5 c6 c7 c8 c9 c10:=
 ⟨h.b5.fr hf h.n.1,h.b6.fr hf h.n.2.1,h.b7.fr hf h.n.2.2.1,h.b8.fr hf h.n.2.2.2.1,h.b9.fr hf h.n.2.2.2.2.1,h.b10.fr hf h.n.2.2.2.2.2,h.n,h.g,h.len⟩
structure FromOK (s:List UInt8) (gx c5 c6 c7 c8 c9 c10:Nat) (f:Nat) (fr:Nat→Lx→Xn × Lx):Prop where
 I:FrI s f fr
 call:∀(line:Nat) (x:Lx) (w:World),line≤7→Blk w gx 168 (Lx.cells s x)→LxI s x→lxM s x≤f→PE s w gx c5 c6 c7 c8 c9 c10→Lay0 w →
  Calls prog 86 #[.int .i64 (line:Int),.pointer (some ⟨c5,0,none⟩),.pointer (some ⟨c10,0,none⟩),.pointer (some ⟨c6,0,none⟩)] w (VV s gx w (fr line x))
theorem KU (a0:Int) (A3:Option Addr) (n3 c3:Nat):prog.built 112 [(0,.int .u8 a0),(3,.slice A3 n3 c3)]=some #[.int .u8 a0,.int .u8 0,AC 0,.bool false,str [],str [],.slice A3 n3 c3]:=by kernel_rfl
theorem NZ : (prog.info? 112).map (λi=>(i.zero,i.size))=some (some (.agg #[.int .u8 0,.int .u8 0,AC 0,.bool false,str [],str [],.slice none 0 0]),7):=by kernel_rfl
theorem CW : (prog.info? 112).map (·.zero)=some (some (.agg #[.int .u8 0,.int .u8 0,AC 0,.bool false,str [],str [],.slice none 0 0])):=by kernel_rfl
theorem V8 {s:List UInt8} {gx c5 c6 c7 c8 c9 c10:Nat} {f:Nat} {fr:Nat→Lx→Xn × Lx} (hF:FromOK s gx c5 c6 c7 c8 c9 c10 f fr) (op:UInt8) (line:Nat) (hl:line≤7) (x:Lx) (w:World) (hb:Blk w gx 168 (Lx.cells s x)) (hx:LxI s x) (he:x.e=0) (hs:¬x.say=[]) (hm:lxM s x≤f+1) (hE:PE s w gx c5 c6 c7 c8 c9 c10) (hY:Lay0 w) :
 Calls prog 81 #[.int .u8 (op.toNat:Int),AC (line:Int),pg c5,pg c6] w (VV s gx w (LN s fr op line x)):=by
 have hGx:∀k,k=gx→nGlob≤k:=λ_ e=>e▸hE.g
 have hst:=KM hx he hs;refine sx_enter (vs:=[_,_,_,_]) func81 X ntmps81 X ?_;have M:Mem w (λk=>k=gx) [As.blk gx 168 (Lx.cells s x)] w:=Mem.one hb;refine srg (CI M X CW λg6 w1 hg6 M=>EV (yl X X (Blk.c ((hE.fr M.fr).b5) 0 X) (cl 8 X (AG X X call80) (HB s x _ _ (M.blk 1 X) hx.at_ hE.len (hY.fr M.fr hGx) hE.g) ?_)));rintro _ w2 ⟨rfl,hbw2,hfw2⟩;have M:=M.putB 1 X hbw2 hfw2;refine ⟨_,X,nq (AE X (yl X X (Blk.c ((hE.fr M.fr).b6) 0 X) (yb X (cl 12 X (BJ X X X call86) (hF.call line (BP s x) _ AA (M.blk 1 X) ED AA (hE.fr M.fr) (hY.fr M.fr hGx)) ?_))))⟩;rintro _ w3 ⟨A12,F12,rfl,hat12,hnw12,hbw3,hfw3⟩;have M:=M.putPush 1 X hbw3 hfw3 (As.xn 112 (fr line (BP s x)).1 A12 F12) hat12 hnw12;have hI12:=hF.I.I line (BP s x) ED AA;refine ⟨_,X,?_⟩;have hm12:=hF.I.m line (BP s x) ED AA;refine CN M (wn_none X) X X [.agg (Xn.cells ((fr line (BP s x)).1) A12).toArray] (Xn.cells ((fr line (BP s x)).1) A12) X X X X underlying110 NZ X X (FP X) X λg13 w4 hg13 M=>ya X (AY (parts:=[(0,_),(3,_)]) X X (KU _ _ _ _)) (BD M 2 X X AO X λw5 M=>gnr (E3 X X (M.rdBlk 2 X X) underlying112 X AO ?_))
 obtain ⟨ha,hn⟩:=Mem.un (op:=op) (M.pk [0,1,3]);exact ⟨_,_,X,ha,hn,M.blk 3 X,M.fr⟩
theorem m3 {s:List UInt8} {gx c5 c6 c7 c8 c9 c10:Nat}  (x:Lx) (w:World) (hb:Blk w gx 168 (Lx.cells s x)) (hx:LxI s x) (hE:PE s w gx c5 c6 c7 c8 c9 c10) (hY:Lay0 w) :
 Calls prog 82 #[pg c5] w (VV s gx w (PT s x)):=by
 have hGx:∀k,k=gx→nGlob≤k:=λ_ e=>e▸hE.g
 have hc:x.nd.cells none=[.int .u8 (x.nd.op.toNat:Int),.int .u8 (x.nd.vl.kind.toNat:Int),AC x.nd.vl.int,.bool x.nd.vl.bool,str x.nd.vl.text,str x.nd.nm,.slice none 0 0]:=by unfold Xn.cells;rw [Xn.nk_leaf hx.leaf]
 refine sx_enter (vs:=[_]) func82 X ntmps82 X ?_;have M:Mem w (λk=>k=gx) [As.blk gx 168 (Lx.cells s x)] w:=Mem.one hb;refine srg (CI M X CW λg1 w1 hg1 M=>EV (yl X X (Blk.c ((hE.fr M.fr).b5) 0 X) (AV X X (yb X (ya X (AK (xs:=[.int .u8 (x.nd.op.toNat:Int),.int .u8 (x.nd.vl.kind.toNat:Int),AC x.nd.vl.int,.bool x.nd.vl.bool,str x.nd.vl.text,str x.nd.nm,.slice none 0 0]) X X (DZ (M.blk 1 X) 2 7 X X) underlying112 X AO) (CI M X CW λg2 w2 hg2 M=>BD M 0 X X AO X ?_))))));intro w3 M;refine nq (sx_seq (AE X (AU M 0 X X X (BZ X X (nq (AF X (λh10=>?_) (λh10=>?_)))))))
 ·have h10p:=(odt h10);refine CY 6 CH gkr ?_;have M:=M.drew;refine sd X X (Blk.c ((hE.fr M.fr).b5) 0 X) (sd X X (Blk.c ((hE.fr M.fr).b5) 0 X) (sb X (sb X (sb X (EB M 2 X X X (C8 (cl 17 X (AG X X call83) (FA s x _ _ _ _ (M.blk 2 X)) ?_)))))));rintro _ w4 ⟨rfl,hbw4,hfw4⟩;have M:=M.putB 2 X hbw4 hfw4;refine ⟨_,X,EV (yl X X (Blk.c ((hE.fr M.fr).b5) 0 X) (cl 19 X (AG X X call80) (HB s (x.fail 4 x.tat) _ _ (M.blk 2 X) (hx.fail _ _).at_ hE.len (hY.fr M.fr hGx) hE.g) ?_))⟩;rintro _ w5 ⟨rfl,hbw5,hfw5⟩;have M:=M.putB 2 X hbw5 hfw5;exact ⟨_,X,EV (CB M 0 X X underlying112 AO X (BD M 1 X X AO X λw6 M=>gnr (E3 X X (M.rdBlk 1 X X) underlying112 X AO ⟨none,[],congrArg (λz=>Ending.returned (.agg z)) (congrArg List.toArray hc.symm),Xn.AtL.leaf hx.leaf,(λk hk=>absurd hk (by simp)),by rw [PT,if_pos h10p];exact M.blk 2 rfl,M.fr⟩)))⟩
 ·have h10p:=(odf h10);refine sx_skip (qx_seq (srg (yl X X (Blk.c ((hE.fr M.fr).b5) 0 X) (cl 19 X (AG X X call80) (HB s x _ _ (M.blk 2 X) hx.at_ hE.len (hY.fr M.fr hGx) hE.g) ?_))));rintro _ w7 ⟨rfl,hbw7,hfw7⟩;have M:=M.putB 2 X hbw7 hfw7;exact ⟨_,X,EV (CB M 0 X X underlying112 AO X (BD M 1 X X AO X λw8 M=>gnr (E3 X X (M.rdBlk 1 X X) underlying112 X AO ⟨none,[],congrArg (λz=>Ending.returned (.agg z)) (congrArg List.toArray hc.symm),Xn.AtL.leaf hx.leaf,(λk hk=>absurd hk (by simp)),by rw [PT,if_neg h10p];exact M.blk 2 rfl,M.fr⟩)))⟩
theorem WN {s:List UInt8} {gx c5 c6 c7 c8 c9 c10:Nat} {f:Nat} {fr:Nat→Lx→Xn × Lx} (hF:FromOK s gx c5 c6 c7 c8 c9 c10 f fr)  (x:Lx) (w:World) (hb:Blk w gx 168 (Lx.cells s x)) (hx:LxI s x) (he:x.e=0) (hs:¬x.say=[]) (hm:lxM s x≤f+1) (hE:PE s w gx c5 c6 c7 c8 c9 c10) (hY:Lay0 w) :
 Calls prog 84 #[pg c5,pg c6] w (VV s gx w (GD s fr x)):=by
 have hGx:∀k,k=gx→nGlob≤k:=λ_ e=>e▸hE.g
 have hst:=KM hx he hs;refine sx_enter (vs:=[_,_]) func84 X ntmps84 X ?_;have M:Mem w (λk=>k=gx) [As.blk gx 168 (Lx.cells s x)] w:=Mem.one hb;refine srg (CI M X CW λg2 w1 hg2 M=>EV (yl X X (Blk.c ((hE.fr M.fr).b5) 0 X) (cl 5 X (AG X X call80) (HB s x _ _ (M.blk 1 X) hx.at_ hE.len (hY.fr M.fr hGx) hE.g) ?_)));rintro _ w2 ⟨rfl,hbw2,hfw2⟩;have M:=M.putB 1 X hbw2 hfw2;refine ⟨_,X,EV (yl X X (Blk.c ((hE.fr M.fr).b6) 0 X) (cl 7 X (BJ X X X call86) (hF.call 1 (BP s x) _ AA (M.blk 1 X) ED AA (hE.fr M.fr) (hY.fr M.fr hGx)) ?_))⟩;rintro _ w3 ⟨A7,F7,rfl,hat7,hnw7,hbw3,hfw3⟩;have M:=M.putPush 1 X hbw3 hfw3 (As.xn 112 (fr 1 (BP s x)).1 A7 F7) hat7 hnw7;have hI7:=hF.I.I 1 (BP s x) ED AA;refine ⟨_,X,?_⟩;have hm7:=hF.I.m 1 (BP s x) ED AA;refine CI M X CW λg3 w4 hg3 M=>BD M 0 X X AO X λw5 M=>nq (sx_seq (srg (yl X X (Blk.c ((hE.fr M.fr).b5) 0 X) (AV X X (yb X (AU M 3 X X X (ya X (GT X X X) (sxl_nil ?_))))))))
 refine qx_seq (AF X (λh13=>?_) (λh13=>?_))
 ·have h13p:=(odf (C5 h13));refine CY 6 CH gkr ?_;have M:=M.drew;refine sd X X (Blk.c ((hE.fr M.fr).b5) 0 X) (sd X X (Blk.c ((hE.fr M.fr).b5) 0 X) (sb X (sb X (sb X (EB M 3 X X X (C8 (cl 20 X (AG X X call83) (FA s ((fr 1 (BP s x)).2) _ _ _ _ (M.blk 3 X)) ?_)))))));rintro _ w6 ⟨rfl,hbw6,hfw6⟩;have M:=M.putB 3 X hbw6 hfw6;refine ⟨_,X,EV (yl X X (Blk.c ((hE.fr M.fr).b5) 0 X) (cl 22 X (AG X X call80) (HB s (((fr 1 (BP s x)).2).fail 4 ((fr 1 (BP s x)).2.tat)) _ _ (M.blk 3 X) (hI7.fail _ _).at_ hE.len (hY.fr M.fr hGx) hE.g) ?_))⟩;rintro _ w7 ⟨rfl,hbw7,hfw7⟩;have M:=M.putB 3 X hbw7 hfw7;exact ⟨_,X,EV (CB M 0 X X underlying112 AO X (BD M 2 X X AO X λw8 M=>gnr (E3 X X (M.rdBlk 2 X X) underlying112 X AO ⟨_,_,X,M.ok 1 _ X,M.newOf 1 3 X X B3,by rw [GD,if_pos h13p];exact M.blk 3 rfl,M.fr⟩)))⟩
 ·have h13p:=(odt (BL h13));refine sx_skip (qx_seq (srg (yl X X (Blk.c ((hE.fr M.fr).b5) 0 X) (cl 22 X (AG X X call80) (HB s ((fr 1 (BP s x)).2) _ _ (M.blk 3 X) hI7.at_ hE.len (hY.fr M.fr hGx) hE.g) ?_))));rintro _ w9 ⟨rfl,hbw9,hfw9⟩;have M:=M.putB 3 X hbw9 hfw9;exact ⟨_,X,EV (CB M 0 X X underlying112 AO X (BD M 2 X X AO X λw10 M=>gnr (E3 X X (M.rdBlk 2 X X) underlying112 X AO ⟨_,_,X,M.ok 1 _ X,M.newOf 1 3 X X B3,by rw [GD,if_neg (λz=>z h13p)];exact M.blk 3 rfl,M.fr⟩)))⟩
theorem gM {s:List UInt8} {gx c5 c6 c7 c8 c9 c10:Nat} {f:Nat} {fr:Nat→Lx→Xn × Lx} (hF:FromOK s gx c5 c6 c7 c8 c9 c10 f fr) (line:Nat) (hl:line≤7) (x:Lx) (w:World) (hb:Blk w gx 168 (Lx.cells s x)) (hx:LxI s x) (he:x.e=0) (hm:lxM s x≤f+1) (hE:PE s w gx c5 c6 c7 c8 c9 c10) (hY:Lay0 w) :
 Calls prog 85 #[AC (line:Int),pg c5,pg c7,pg c9,pg c8] w (VV s gx w (DT s fr line x)):=by
 have hGx:∀k,k=gx→nGlob≤k:=λ_ e=>e▸hE.g
 refine sx_enter (vs:=[_,_,_,_,_]) func85 X ntmps85 X ?_;have M:Mem w (λk=>k=gx) [As.blk gx 168 (Lx.cells s x)] w:=Mem.one hb;refine srg (CI M X CW λg6 w1 hg6 M=>nq (sx_seq (sx_block (srg (yl X X (Blk.c ((hE.fr M.fr).b5) 0 X) (AV X X (yb X (AU M 1 X X X (ya X (CX X X X) ?_)))))))));refine yb X (fvm M 3 [6,4,3,2,1] [(17,.bool ((decide (x.say=[110,111,116]))&&(decide ((line:Int)≤3))))] ?_ (λk14=>?_))
 ·intro w2 M;refine AJ X (AF X (λh7=>?_) (λh7=>?_))
  ·have h7p:=(And.intro (odt (BR h7).1) (odt (BR h7).2));refine srg (yl X X (Blk.c ((hE.fr M.fr).b7) 0 X) (cl 19 X (BJ X X X call81) (V8 hF 3 3 B3 x _ (M.blk 1 X) hx he (by rw [h7p.1];decide) hm (hE.fr M.fr) (hY.fr M.fr hGx)) ?_));rintro _ w3 ⟨A19,F19,rfl,hat19,hnw19,hbw3,hfw3⟩;have M:=M.putPush 1 X hbw3 hfw3 (As.xn 112 (LN s fr 3 3 x).1 A19 F19) hat19 hnw19;have hI19:=(S4 hF.I hx he (by rw [h7p.1];decide) hm 3 3).1;refine ⟨_,X,BD M 1 X X AO X λw4 M=>gnr (qx_block_ret (qx_then_ret (E3 X X (M.rdBlk 1 X X) underlying112 X AO ?_)))⟩;have hfp:DT s fr line x=LN s fr 3 3 x:=by unfold DT;exact if_pos ⟨h7p.1,by omega⟩
   rw [hfp];exact ⟨_,_,X,M.ok 0 _ X,M.newOf 0 2 X X B3,M.blk 2 X,M.fr⟩
  ·have h7p:=((CV h7).imp (λz=>(odf z)) (λz=>(odf z)));have h7n:¬(x.say=[110,111,116]∧line≤3):=λz=>h7p.elim (λq=>q z.1) (λq=>q AA)
   refine srg (yl X X (Blk.c ((hE.fr M.fr).b5) 0 X) (AV X X (yb X (AU M 1 X X X (ya X (CX X X X) (AJ X (AF X (λh20=>?_) (λh20=>?_))))))))
   ·have h20p:=(odt h20);refine srg (yl X X (Blk.c ((hE.fr M.fr).b7) 0 X) (cl 28 X (BJ X X X call81) (V8 hF 4 7 B3 x _ (M.blk 1 X) hx he (by rw [h20p];decide) hm (hE.fr M.fr) (hY.fr M.fr hGx)) ?_));rintro _ w5 ⟨A28,F28,rfl,hat28,hnw28,hbw5,hfw5⟩;have M:=M.putPush 1 X hbw5 hfw5 (As.xn 112 (LN s fr 4 7 x).1 A28 F28) hat28 hnw28;have hI28:=(S4 hF.I hx he (by rw [h20p];decide) hm 4 7).1;refine ⟨_,X,BD M 1 X X AO X λw6 M=>gnr (qx_block_ret (qx_then_ret (E3 X X (M.rdBlk 1 X X) underlying112 X AO ?_)))⟩;have hfp:DT s fr line x=LN s fr 4 7 x:=by unfold DT;rw [if_neg (λz=>h7n z),if_pos h20p]
    rw [hfp];exact ⟨_,_,X,M.ok 0 _ X,M.newOf 0 2 X X B3,M.blk 2 X,M.fr⟩
   ·have h20p:=(odf h20);refine srg (yl X X (Blk.c ((hE.fr M.fr).b5) 0 X) (AV X X (yb X (AU M 1 X X X (ya X (CX X X X) (AJ X (AF X (λh29=>?_) (λh29=>?_))))))))
    ·have h29p:=(odt h29);refine srg (yl X X (Blk.c ((hE.fr M.fr).b9) 0 X) (cl 37 X (BJ X X X call84) (WN hF x _ (M.blk 1 X) hx he (by rw [h29p];decide) hm (hE.fr M.fr) (hY.fr M.fr hGx)) ?_));rintro _ w7 ⟨A37,F37,rfl,hat37,hnw37,hbw7,hfw7⟩;have M:=M.putPush 1 X hbw7 hfw7 (As.xn 112 (GD s fr x).1 A37 F37) hat37 hnw37;have hI37:=(UC hF.I hx he (by rw [h29p];decide) hm).1;refine ⟨_,X,BD M 1 X X AO X λw8 M=>gnr (qx_block_ret (qx_then_ret (E3 X X (M.rdBlk 1 X X) underlying112 X AO ?_)))⟩;have hfp:DT s fr line x=GD s fr x:=by unfold DT;rw [if_neg (λz=>h7n z),if_neg h20p,if_pos h29p]
     rw [hfp];exact ⟨_,_,X,M.ok 0 _ X,M.newOf 0 2 X X B3,M.blk 2 X,M.fr⟩
    ·have h29p:=(odf h29);refine sx_skip (qx_block_normal (qx_seq (srg (yl X X (Blk.c ((hE.fr M.fr).b8) 0 X) (cl 39 X (BJ X X X call82) (m3 x _ (M.blk 1 X) hx (hE.fr M.fr) (hY.fr M.fr hGx)) ?_)))));rintro _ w9 ⟨A39,F39,rfl,hat39,hnw39,hbw9,hfw9⟩;have M:=M.putPush 1 X hbw9 hfw9 (As.xn 112 (PT s x).1 A39 F39) hat39 hnw39;have hI39:=(pW hx).1;refine ⟨_,X,BD M 1 X X AO X λw10 M=>gnr (E3 X X (M.rdBlk 1 X X) underlying112 X AO ?_)⟩;have hfp:DT s fr line x=PT s x:=by unfold DT;rw [if_neg (λz=>h7n z),if_neg h20p,if_neg h29p]
     rw [hfp];exact ⟨_,_,X,M.ok 0 _ X,M.newOf 0 2 X X B3,M.blk 2 X,M.fr⟩
 refine AI (d:=14) X (λh14=>?_) (λh14=>?_)
 ·exact gyq X (yd X (GH X X X) (yb X (k14 M ⟨X,X,X,X,X,(by rw [h14];rfl),trivial⟩)))
 ·exact yo X (yo X (yb X (k14 M ⟨X,X,X,X,X,(by rw [h14];rfl),trivial⟩)))
section
section
variable {P:Program} {ops:Array Oper} {Q:Exit→Act→World→Prop} {S:World→Prop} {t n f:Nat} {listed:Array Bool} {e:Env} {w:World}
theorem yZ {o:Oper} {d:Nat} {v:Value} (i:Nat) (hr:Region.ready .any ops listed=[i]) (ho:ops[i]?=some o) (hw:Wn ops e o) (hd:o.dst=some d) (hn:Nat.blt d n=true) (hy:Y P e o w v) (hS:i<t→S w)
 (k:SxO P ops Q t S n f (listed.setIfInBounds i true) ((d,v)::e) w):SxO P ops Q t S n (f+1) listed e w:=
 B2 i (some d) hr ho hw hd hn (R:=λu w'=>u=v∧w'=w) (λρ hρ=>⟨v,w,.inl (hy ρ hρ),rfl,rfl⟩) λu w' ⟨h1,h2⟩=>by subst h1;subst h2;exact ⟨hS,k⟩
end
theorem Mem.bin {w0 w:World} {S:Nat→Prop} {L:List As} {t g:Nat} {op:UInt8} {a b:Xn} {B C:Option Addr} {F F':List Nat} (M:Mem w0 S (As.blk g t (a.cells B++b.cells C)::As.xn t a B F::As.xn t b C F'::L) w):Mem w0 S (As.xn t (.bin op a b) (some ⟨g,0,none⟩) (g::(F++F'))::L) w:=by
 have get:∀(i:Nat) (c:As),L[i]?=some c→(As.blk g t (a.cells B++b.cells C)::As.xn t a B F::As.xn t b C F'::L)[i+3]?=some c:=λi c h=>h
 have fp:∀k,k∈(As.xn t (.bin op a b) (some ⟨g,0,none⟩) (g::(F++F'))).fp→∃(i:Nat) (c:As),i<3∧(As.blk g t (a.cells B++b.cells C)::As.xn t a B F::As.xn t b C F'::L)[i]?=some c∧k∈c.fp:=λk hk=>by
  rcases List.mem_cons.1 (show k∈g::(F++F') from hk) with rfl|hk
  ·exact ⟨0,_,by decide,rfl,by simp [As.blk]⟩
  ·rcases List.mem_append.1 hk with hk|hk
   ·exact ⟨1,_,by decide,rfl,hk⟩
   ·exact ⟨2,_,by decide,rfl,hk⟩
 refine ⟨M.fr,?_,?_,?_⟩
 ·intro i c hi
  cases i with
  | zero=>
   simp only [List.getElem?_cons_zero,Option.some.injEq] at hi;subst hi
   exact ⟨g,B,C,F,F',X,X,M.blk 0 X,M.ok 1 _ X,M.ok 2 _ X⟩
  | succ i=>exact M.ok (i+3) c (get i c (by simpa using hi))
 ·intro i c hi k hk
  cases i with
  | zero=>
   simp only [List.getElem?_cons_zero,Option.some.injEq] at hi;subst hi
   obtain ⟨j,d,_,h1,h2⟩:=fp k hk;exact M.lt j d h1 k h2
  | succ i=>exact M.lt (i+3) c (get i c (by simpa using hi)) k hk
 ·intro i j c d hi hj hne k hk hk'
  cases i with
  | zero=>
   cases j with
   | zero=>exact hne rfl
   | succ j=>
    simp only [List.getElem?_cons_zero,Option.some.injEq] at hi;subst hi
    obtain ⟨q,d',hq,h1,h2⟩:=fp k hk;exact M.apart q (j+3) d' d h1 (get j d (by simpa using hj)) AA k h2 hk'
  | succ i=>
   cases j with
   | zero=>
    simp only [List.getElem?_cons_zero,Option.some.injEq] at hj;subst hj
    obtain ⟨q,d',hq,h1,h2⟩:=fp k hk';exact M.apart (i+3) q c d' (get i c (by simpa using hi)) h1 AA k hk h2
   | succ j=>exact M.apart (i+3) (j+3) c d (get i c (by simpa using hi)) (get j d (by simpa using hj)) AA k hk hk'
theorem dM {s:List UInt8} {x:Lx} (h:LxI s x) (he:x.e=0):0<lxM s x:=by
 have:=h.at_;have:=h.tat
 unfold lxM;rw [if_pos he];omega
theorem m1 (k:List UInt8):((B7 k).getD (0,0)).2≤6:=rV k
theorem tP {s:List UInt8} {f line:Nat} {x:Lx} (h:¬x.e=0):D1 s (f+1) line x=(.zero,x):=by rw [D1,if_pos h]
theorem nT {s:List UInt8} {f line:Nat} {x:Lx} {fr:Nat→Lx→Xn × Lx} (h:x.e=0) (hfr:fr=D1 s (f+1)):D1 s (f+1+1) line x=GM s fr (f+1) line (DT s fr line x).1 (DT s fr line x).2:=by
 subst hfr;rw [D1,if_neg (λz=>z h)]
section
variable {s:List UInt8} {fr:Nat→Lx→Xn × Lx} {line k:Nat} {n:Xn} {y:Lx}
theorem i6 (h:¬y.e=0):GM s fr k line n y=(n,y):=by
 cases k with
 | zero=>rfl
 | succ k=>rw [GM,if_pos h]
theorem fS (h:((!(B7 y.say).isSome) || (decide (((((B7 y.say).getD (0,0)).2:Nat):Int)<(line:Int))))=false):¬y.say=[]:=Y6 λz=>by
 have:=BL (C6 h).1
 cases hs:B7 y.say with
 | none=>rw [hs] at this;cases this
 | some v=>rw [hs] at z;cases z
theorem bE (he:y.e=0) (h:((!(B7 y.say).isSome) || (decide (((((B7 y.say).getD (0,0)).2:Nat):Int)<(line:Int))))=true):GM s fr (k+1) line n y=(n,y):=by
 rw [GM,if_neg (λz=>z he),if_pos];rcases E1 h with h|h
 ·left
  have:=C5 h
  cases hs:B7 y.say with
  | none=>rfl
  | some v=>rw [hs] at this;cases this
 ·right
  have:=odt h
  unfold RF;omega
theorem TC (he:y.e=0) (h:((!(B7 y.say).isSome) || (decide (((((B7 y.say).getD (0,0)).2:Nat):Int)<(line:Int))))=false):GM s fr (k+1) line n y=GM s fr k line (.bin ((B7 y.say).getD (0,0)).1 n (MF s fr y).1) (MF s fr y).2:=by
 rw [GM,if_neg (λz=>z he),if_neg];intro z;rcases z with z|z
 ·have:=BL (C6 h).1
  cases hs:B7 y.say with
  | none=>rw [hs] at this;cases this
  | some v=>rw [hs] at z;cases z
 ·have:=odf (C6 h).2
  unfold RF at z;omega
theorem i7 (he:y.e=0) (h:((!(B7 y.say).isSome) || (decide (((((B7 y.say).getD (0,0)).2:Nat):Int)<(line:Int))))=false)
 (h2:((decide (((((B7 y.say).getD (0,0)).2:Nat):Int)=4))&&(decide (((((B7 (fr (((B7 y.say).getD (0,0)).2+1) (BP s y)).2.say).getD (0,0)).2:Nat):Int)=4)))=true):GM s fr (k+1) line n y=GM s fr k line (.bin ((B7 y.say).getD (0,0)).1 n (fr (((B7 y.say).getD (0,0)).2+1) (BP s y)).1) ((fr (((B7 y.say).getD (0,0)).2+1) (BP s y)).2.fail 4 (fr (((B7 y.say).getD (0,0)).2+1) (BP s y)).2.tat):=by
 rw [TC he h];have h3:=odt (BR h2).1;have h4:=odt (BR h2).2;unfold MF RF
 simp only
 rw [if_pos ⟨by omega,by omega⟩]
theorem mV (he:y.e=0) (h:((!(B7 y.say).isSome) || (decide (((((B7 y.say).getD (0,0)).2:Nat):Int)<(line:Int))))=false)
 (h2:((decide (((((B7 y.say).getD (0,0)).2:Nat):Int)=4))&&(decide (((((B7 (fr (((B7 y.say).getD (0,0)).2+1) (BP s y)).2.say).getD (0,0)).2:Nat):Int)=4)))=false):GM s fr (k+1) line n y=GM s fr k line (.bin ((B7 y.say).getD (0,0)).1 n (fr (((B7 y.say).getD (0,0)).2+1) (BP s y)).1) (fr (((B7 y.say).getD (0,0)).2+1) (BP s y)).2:=by
 rw [TC he h];have h3:=(CV h2).imp odf odf;unfold MF RF
 simp only
 rw [if_neg AA]
end
theorem IU  : prog.built 112 []=some #[.int .u8 0,.int .u8 0,AC 0,.bool false,str [],str [],.slice none 0 0]:=by kernel_rfl
theorem YM {s:List UInt8} {gx c5 c6 c7 c8 c9 c10:Nat} {f:Nat} (h:∀f',f=f'+1→FromOK s gx c5 c6 c7 c8 c9 c10 f' (D1 s (f'+1))) (line:Nat) (hl:line≤7) (x:Lx) (w:World) (hb:Blk w gx 168 (Lx.cells s x)) (hx:LxI s x) (hm:lxM s x≤f) (hE:PE s w gx c5 c6 c7 c8 c9 c10) (hY:Lay0 w) :
 Calls prog 86 #[AC (line:Int),pg c5,pg c10,pg c6] w (VV s gx w (D1 s (f+1) line x)):=by
 have hGx:∀k,k=gx→nGlob≤k:=λ_ e=>e▸hE.g
 refine sx_enter (vs:=[_,_,_,_]) func86 X ntmps86 X ?_;have M:Mem w (λk=>k=gx) [As.blk gx 168 (Lx.cells s x)] w:=Mem.one hb;refine srg (CI M X CW λg5 w1 hg5 M=>nq (sx_seq (srg (yl X X (Blk.c ((hE.fr M.fr).b5) 0 X) (AV X X (AU M 1 X X X (CT X X (nq ?_))))))));refine AF X (λh14=>?_) (λh14=>?_)
 ·have h14p:=(odf (C5 h14));refine srg (ya X (AY (parts:=[]) X X (IU)) (BD M 0 X X AO X λw2 M=>gnr (qx_then_ret (E3 X X (M.rdBlk 0 X X) underlying112 X AO ?_))));rw [tP h14p];exact ⟨none,[],X,⟨X,X⟩,(λk hk=>absurd hk (by simp)),M.blk 1 X,M.fr⟩
 ·have h14p:=(odt (BL h14));obtain ⟨f',rfl⟩:∃f',f=f'+1:=⟨f-1,by have:=dM hx h14p;omega⟩
  have hF:=h f' X;obtain ⟨fr,hfr⟩:∃fr,fr=D1 s (f'+1):=⟨_,X⟩
  rw [←hfr] at hF
  refine sx_skip (qx_seq (srg (yl X X (Blk.c ((hE.fr M.fr).b10) 0 X) (yb X (cl 18 X (BJ X X X call85) (gM hF line AA x _ (M.blk 1 X) hx h14p AA (hE.fr M.fr) (hY.fr M.fr hGx)) ?_)))));rintro _ w3 ⟨A18,F18,rfl,hat18,hnw18,hbw3,hfw3⟩;have M:=M.putPush 1 X hbw3 hfw3 (As.xn 112 (DT s fr line x).1 A18 F18) hat18 hnw18;have hI18:=(X2 hF.I hx h14p AA line).1;refine ⟨_,X,?_⟩;have hm18:=(X2 hF.I hx h14p AA line).2;have hfp:=nT (line:=line) h14p hfr;refine CI M X CW λg6 w4 hg6 M=>BD M 0 X X AO X λw5 M=>nq (sx_seq (sx_block (flp [6,5,3,1,0] (λze e wr mz=>∃(n:Xn) (A:Option Addr) (F:List Nat) (y:Lx) (k:Nat),e=ze∧Mem w (λk=>k=gx) [As.blk g6 112 (Xn.cells n A),As.xn 112 n A F,As.blk g5 112 [.int .u8 0,.int .u8 0,AC 0,.bool false,str [],str [],.slice none 0 0],As.blk gx 168 (Lx.cells s y)] wr∧(LxI s y)∧(lxM s y≤k∧k≤f'+1)∧(D1 s (f'+1+1) line x=GM s fr k line n y)∧mz=2*k) ⟨(DT s fr line x).1,A18,F18,(DT s fr line x).2,(f'+1),X,M,hI18,⟨by omega,Nat.le_refl _⟩,hfp,X⟩ ?_)))
  rintro _ w6 _ ⟨n,A,F,y,k,rfl,M,hyI,hk,heq,rfl⟩;refine sx_seq (srg (yl X X (Blk.c ((hE.fr M.fr).b5) 0 X) (AV X X (AU M 3 X X X (BZ X X (nq (AF X (λh23=>?_) (λh23=>?_))))))))
  ·have h23p:=(odt h23);obtain ⟨j,rfl⟩:∃j,k=j+1:=⟨k-1,by have:=dM hyI h23p;omega⟩
   refine sx_skip (qx_seq (sx_block (sx_seq (P3 (λ(g7:Nat) (g25:Nat)=>[(0,AC (line:Int)),(1,pg c5),(3,pg c6),(5,pg g5),(6,pg g6),(7,pg g7),(8,.bool ((B7 y.say).isSome))]) (λ(g7:Nat) (g25:Nat)=>λw'=>Mem w (λk=>k=gx) [As.blk g7 174 [.int .u8 (((B7 y.say).getD (0,0)).1.toNat:Int),AC ((((B7 y.say).getD (0,0)).2:Nat):Int)],As.mp g25 ES,As.blk g6 112 (Xn.cells n A),As.xn 112 n A F,As.blk g5 112 [.int .u8 0,.int .u8 0,AC 0,.bool false,str [],str [],.slice none 0 0],As.blk gx 168 (Lx.cells s y)] w') ?_ (λkr5=>?_)))))
   ·intro g7 g25 w7 M;refine qx_seq (sx_seq (AE X (AV X X (fvm M 5 [7,6,5,3,1,0] [(41,.bool ((!(B7 y.say).isSome) || (decide (((((B7 y.say).getD (0,0)).2:Nat):Int)<(line:Int)))))] ?_ (λk36=>?_)))))
    ·intro w8 M;refine nq (AF X (λh41=>?_) (λh41=>?_))
     ·have h41p:=((E1 h41).imp (λz=>(C5 z)) (λz=>(odt z)));refine srg (CB M 2 X X underlying112 AO X (BD M 4 X X AO X λw9 M=>gnr (qx_then_ret (qx_block_ret (qx_then_ret (qx_block_ret (qx_then_ret (E3 X X (M.rdBlk 4 X X) underlying112 X AO ?_))))))));rw [heq.trans (bE h23p h41)];exact ⟨_,_,X,M.ok 3 _ X,M.newOf 3 5 X X B3,M.blk 5 X,M.fr⟩
     ·have h41p:=(And.intro (BL (C6 h41).1) (odf (C6 h41).2));have hpr:=m1 y.say;have hst:=KM hyI h23p (fS h41);refine sx_skip (qx_seq (srg (yl X X (Blk.c ((hE.fr M.fr).b5) 0 X) (cl 44 X (AG X X call80) (HB s y _ _ (M.blk 5 X) hyI.at_ hE.len (hY.fr M.fr hGx) hE.g) ?_))));rintro _ w10 ⟨rfl,hbw10,hfw10⟩;have M:=M.putB 5 X hbw10 hfw10;refine ⟨_,X,nq (sx_seq (EH 10 (λw'=>Mem w (λk=>k=gx) [As.blk g7 174 [.int .u8 (((B7 y.say).getD (0,0)).1.toNat:Int),AC ((((B7 y.say).getD (0,0)).2:Nat):Int)],As.mp g25 ES,As.blk g6 112 (Xn.cells n A),As.xn 112 n A F,As.blk g5 112 [.int .u8 0,.int .u8 0,AC 0,.bool false,str [],str [],.slice none 0 0]] w') CH ?_))⟩;have M:=M.drew;refine oc 0 10 X X (M.pk [0,1,2,3,4]) (ol 1 10 X X X (M.pk [0,1,2,3,4]) (λ_ M=>(M.cell 0 X X)) (oa 2 10 X X (M.pk [0,1,2,3,4]) (λ_ M=>AK (xs:=Xn.cells n A) X X (M.rdBlk 2 X X) underlying112 X AO) (ol 3 10 X X X (M.pk [0,1,2,3,4]) (λ_ M=>(Blk.c ((hE.fr M.fr).b6) 0 X)) (oc 4 10 X X (M.pk [0,1,2,3,4]) (ol 5 10 X X X (M.pk [0,1,2,3,4]) (λ_ M=>(M.cell 0 X X)) (oa 6 10 X X (M.pk [0,1,2,3,4]) (λ_ M=>GE X X X AA) (BQ 7 (some 52) gkr X (wn_none X) X X (BJ X X X call86) (hF.call ((((B7 y.say).getD (0,0)).2)+1) (BP s y) _ AA (M.blk 5 X) ED AA (hE.fr M.fr) (hY.fr M.fr hGx)) ?_)))))));rintro _ w11 ⟨A52,F52,rfl,hat52,hnw52,hbw11,hfw11⟩;have M:=M.putPush 5 X hbw11 hfw11 (As.xn 112 (fr ((((B7 y.say).getD (0,0)).2)+1) (BP s y)).1 A52 F52) hat52 hnw52;have hI52:=hF.I.I ((((B7 y.say).getD (0,0)).2)+1) (BP s y) ED AA;refine ⟨_,X,λ_=>(M.pk [1,2,3,4,5]),?_⟩;have hm52:=hF.I.m ((((B7 y.say).getD (0,0)).2)+1) (BP s y) ED AA;refine B2 8 (some 53) gkr X (wn_none X) X X (λρ hρ=>D3 [.agg (Xn.cells n A).toArray,.agg (Xn.cells ((fr ((((B7 y.say).getD (0,0)).2)+1) (BP s y)).1) A52).toArray] _ hρ X X X X underlying110 NZ B3 B3 (by intro v hv;simp only [List.mem_cons,List.not_mem_nil,or_false] at hv;rcases hv with rfl|rfl<;>rfl)) ?_;rintro _ w12 ⟨g53,rfl,hg53,hq53,hb53,hfw12⟩
      replace hb53:Blk w12 g53 112 ((Xn.cells n A)++(Xn.cells ((fr ((((B7 y.say).getD (0,0)).2)+1) (BP s y)).1) A52)):=hb53
      refine ⟨λ_=>(M.pk [1,2,3,4,5]).step hfw12,?_⟩;have M:=M.push hfw12 _ hb53 (DO hg53 hq53)
      replace M:Mem w (λk=>k=gx) (As.blk g53 112 ((Xn.cells n A)++(Xn.cells ((fr ((((B7 y.say).getD (0,0)).2)+1) (BP s y)).1) A52))::_) w12:=M
      refine oa 9 10 X X (M.pk [2,3,4,5,6]) (λ_ M=>AY (parts:=[(0,_),(3,_)]) X X (KU _ _ _ _)) (B2 10 none gkr X (wn_none X) X X (λρ hρ=>BO 112 _ _ X g6 0 112 _ ([.int .u8 (((B7 y.say).getD (0,0)).1.toNat:Int),.int .u8 0,AC 0,.bool false,str [],str [],.slice (some ⟨g53,0,none⟩) 2 2]) (hρ _ _ X) (hρ _ _ X) (M.blk 4 X) AO (HX X) (CL X)) ?_);rintro _ w13 ⟨rfl,hbw13,hfw13⟩
      replace M:Mem w (λk=>k=gx) (List.set _ 4 (As.blk g6 112 [.int .u8 (((B7 y.say).getD (0,0)).1.toNat:Int),.int .u8 0,AC 0,.bool false,str [],str [],.slice (some ⟨g53,0,none⟩) 2 2])) w13:=M.putB 4 rfl hbw13 hfw13
      refine ⟨λh=>absurd h B3,fdn (qx_seq (sx_seq (P3 (λ(g9:Nat) (g55:Nat)=>[(0,AC (line:Int)),(1,pg c5),(3,pg c6),(5,pg g5),(6,pg g6),(7,pg g7),(9,pg g9)]) (λ(g9:Nat) (g55:Nat)=>λw'=>Mem w (λk=>k=gx) [As.blk g9 174 [.int .u8 (((B7 ((fr ((((B7 y.say).getD (0,0)).2)+1) (BP s y)).2.say)).getD (0,0)).1.toNat:Int),AC ((((B7 ((fr ((((B7 y.say).getD (0,0)).2)+1) (BP s y)).2.say)).getD (0,0)).2:Nat):Int)],As.mp g55 ES,As.blk g53 112 ((Xn.cells n A)++(Xn.cells ((fr ((((B7 y.say).getD (0,0)).2)+1) (BP s y)).1) A52)),As.xn 112 ((fr ((((B7 y.say).getD (0,0)).2)+1) (BP s y)).1) A52 F52,As.blk g7 174 [.int .u8 (((B7 y.say).getD (0,0)).1.toNat:Int),AC ((((B7 y.say).getD (0,0)).2:Nat):Int)],As.mp g25 ES,As.blk g6 112 [.int .u8 (((B7 y.say).getD (0,0)).1.toNat:Int),.int .u8 0,AC 0,.bool false,str [],str [],.slice (some ⟨g53,0,none⟩) 2 2],As.xn 112 n A F,As.blk g5 112 [.int .u8 0,.int .u8 0,AC 0,.bool false,str [],str [],.slice none 0 0],As.blk gx 168 (Lx.cells s ((fr ((((B7 y.say).getD (0,0)).2)+1) (BP s y)).2))] w') ?_ (λkr10=>?_))))⟩
      ·intro g9 g55 w14 M;refine qx_seq (AE X (AU M 4 X X X (BZ X X (yb X (fvm M 4 [6,5,3,1,0] [(69,.bool ((decide (((((B7 y.say).getD (0,0)).2:Nat):Int)=4))&&(decide (((((B7 ((fr ((((B7 y.say).getD (0,0)).2)+1) (BP s y)).2.say)).getD (0,0)).2:Nat):Int)=4))))] ?_ (λk65=>?_))))))
       ·intro w15 M;refine nq (AF X (λh69=>?_) (λh69=>?_))
        ·have h69p:=(And.intro (odt (BR h69).1) (odt (BR h69).2));refine CY 6 CH gkr ?_;have M:=M.drew;refine sd X X (Blk.c ((hE.fr M.fr).b5) 0 X) (sd X X (Blk.c ((hE.fr M.fr).b5) 0 X) (sb X (sb X (sb X (EB M 9 X X X (C8 (cl 76 X (AG X X call83) (FA s ((fr ((((B7 y.say).getD (0,0)).2)+1) (BP s y)).2) _ _ _ _ (M.blk 9 X)) ?_)))))));rintro _ w16 ⟨rfl,hbw16,hfw16⟩;have M:=M.putB 9 X hbw16 hfw16;refine ⟨_,X,sxl_nil (qx_block_normal ?_)⟩;have M:=Mem.bin (op:=((B7 y.say).getD (0,0)).1) (M.pk [2,7,3,6,8,9]);refine fag ⟨(Xn.bin ((B7 y.say).getD (0,0)).1 n (fr (((B7 y.say).getD (0,0)).2+1) (BP s y)).1),(some ⟨g53,0,none⟩),(g53::(F++F52)),(((fr ((((B7 y.say).getD (0,0)).2)+1) (BP s y)).2).fail 4 ((fr ((((B7 y.say).getD (0,0)).2)+1) (BP s y)).2.tat)),j,X,(M.pk [1,0,2,3]),?_,?_,?_,X⟩
         ·exact hI52.fail _ _
         ·rw [PI B3];exact ⟨Nat.zero_le _,by omega⟩
         ·exact heq.trans (i7 h23p h41 h69)
        ·have h69p:=((CV h69).imp (λz=>(odf z)) (λz=>(odf z)));refine sx_skip (qx_block_normal ?_);have M:=Mem.bin (op:=((B7 y.say).getD (0,0)).1) (M.pk [2,7,3,6,8,9]);refine fag ⟨(Xn.bin ((B7 y.say).getD (0,0)).1 n (fr (((B7 y.say).getD (0,0)).2+1) (BP s y)).1),(some ⟨g53,0,none⟩),(g53::(F++F52)),((fr ((((B7 y.say).getD (0,0)).2)+1) (BP s y)).2),j,X,(M.pk [1,0,2,3]),?_,?_,?_,X⟩
         ·exact hI52
         ·exact ⟨by omega,by omega⟩
         ·exact heq.trans (mV h23p h41 h69)
       refine AI (d:=65) X (λh65=>?_) (λh65=>?_)
       ·exact gyq X (CE M 0 X X X (yd X (C9 X X X) (yb X (k65 M ⟨X,X,X,X,X,(by rw [h65];rfl),trivial⟩))))
       ·exact yo X (yo X (yo X (yb X (k65 M ⟨X,X,X,X,X,(by rw [h65];rfl),trivial⟩))))
      refine GP M 9 CH λM=>ol 1 9 X X X M (λ_ M=>(Blk.c ((hE.fr M.fr).b5) 0 X)) (oc 2 9 X X M (oc 3 9 X X M (oc 4 9 X X M (ol 5 9 X X X M (λ_ M=>(M.cell 7 X X)) (GQ (rs:=[0,7]) gkr (by simp) λiz hiz=>?_)))))
      simp only [List.mem_cons,List.not_mem_nil,or_false] at hiz
      rcases hiz with rfl|rfl
      ·refine JR (some 55) X (wn_none X) X X (AG X X call87) (IA _) ?_;rintro _ w17 ⟨g55,rfl,hMw17,hgw17,hfw17⟩;refine ⟨_,X,λ_=>M.step hfw17,?_⟩;have M:=M.push hfw17 (As.mp g55 ES) hMw17 (MN hgw17 hMw17.lt);refine GQ (rs:=[6,7]) gkr (by simp) λiz hiz=>?_
       simp only [List.mem_cons,List.not_mem_nil,or_false] at hiz
       rcases hiz with rfl|rfl
       ·refine EA (some 61) X (wn_none X) X X (eF (BK X X X underlying176 underlying9 C1 (M.mp 0 X) (EK _))) ?_;rintro _ _ ⟨rfl,rfl⟩;refine ⟨λ_=>(M.drop 1),B2 7 (some 9) gkr X (wn_none X) X X (λρ hρ=>C7 174 X _ [.int .u8 0,AC 0] C1 X) ?_⟩;rintro _ w18 ⟨g9,rfl,hg9,hq9,hb9,hfw18⟩;refine ⟨λ_=>(M.drop 1).step hfw18,?_⟩;have M:=M.push hfw18 _ hb9 (DO hg9 hq9)
        replace M:Mem w (λk=>k=gx) (As.blk g9 174 [.int .u8 0,AC 0]::_) w18:=M
        exact fop M 8 0 X X X DL X (·.drop 2) λw19 M=>fdn (kr10 g9 g55 _ _ M ⟨X,X,X,X,X,X,X,trivial⟩)
       ·refine EA (some 9) X (wn_none X) X X (λρ hρ=>C7 174 X _ [.int .u8 0,AC 0] C1 X) ?_;rintro _ w20 ⟨g9,rfl,hg9,hq9,hb9,hfw20⟩;refine ⟨λ_=>(M.drop 1).step hfw20,?_⟩;have M:=M.push hfw20 _ hb9 (DO hg9 hq9)
        replace M:Mem w (λk=>k=gx) (As.blk g9 174 [.int .u8 0,AC 0]::_) w20:=M
        exact DC 6 gkr X (wn_none X) X X (BK X X X underlying176 underlying9 C1 (M.mp 1 X) (EK _)) (M.drop 2) (fop M 8 0 X X X DL X (·.drop 2) λw21 M=>fdn (kr10 g9 g55 _ _ M ⟨X,X,X,X,X,X,X,trivial⟩))
      ·refine EA (some 9) X (wn_none X) X X (λρ hρ=>C7 174 X _ [.int .u8 0,AC 0] C1 X) ?_;rintro _ w22 ⟨g9,rfl,hg9,hq9,hb9,hfw22⟩;refine ⟨λ_=>M.step hfw22,?_⟩;have M:=M.push hfw22 _ hb9 (DO hg9 hq9)
       replace M:Mem w (λk=>k=gx) (As.blk g9 174 [.int .u8 0,AC 0]::_) w22:=M
       refine BQ 0 (some 55) gkr X (wn_none X) X X (AG X X call87) (IA _) ?_;rintro _ w23 ⟨g55,rfl,hMw23,hgw23,hfw23⟩;refine ⟨_,X,λ_=>(M.drop 1).step hfw23,?_⟩;have M:=M.push hfw23 (As.mp g55 ES) hMw23 (MN hgw23 hMw23.lt);exact DC 6 gkr X (wn_none X) X X (BK X X X underlying176 underlying9 C1 (M.mp 0 X) (EK _)) (M.drop 2) (fop M 8 1 X X X DL X (·.drop 2) λw24 M=>fdn (kr10 g9 g55 _ _ (M.pk [1,0,2,3,4,5,6,7,8,9]) ⟨X,X,X,X,X,X,X,trivial⟩))
    refine AI (d:=36) X (λh36=>?_) (λh36=>?_)
    ·iterate 4 refine yo X ?_
     exact yb X (k36 M ⟨X,X,X,X,X,X,(by rw [h36];rfl),trivial⟩)
    ·exact gyq X (CE M 0 X X X (gyq X (yd X (E0 X X X) (yb X (k36 M ⟨X,X,X,X,X,X,(by rw [h36];rfl),trivial⟩)))))
   refine GP M 13 CH λM=>ol 1 13 X X X M (λ_ M=>(Blk.c ((hE.fr M.fr).b5) 0 X)) (oc 2 13 X X M (oc 3 13 X X M (oc 4 13 X X M (ol 5 13 X X X M (λ_ M=>(M.cell 3 X X)) (GQ (rs:=[0,10]) gkr (by simp) λiz hiz=>?_)))))
   simp only [List.mem_cons,List.not_mem_nil,or_false] at hiz
   rcases hiz with rfl|rfl
   ·refine JR (some 25) X (wn_none X) X X (AG X X call87) (IA _) ?_;rintro _ w25 ⟨g25,rfl,hMw25,hgw25,hfw25⟩;refine ⟨_,X,λ_=>M.step hfw25,?_⟩;have M:=M.push hfw25 (As.mp g25 ES) hMw25 (MN hgw25 hMw25.lt);refine GQ (rs:=[6,10]) gkr (by simp) λiz hiz=>?_
    simp only [List.mem_cons,List.not_mem_nil,or_false] at hiz
    rcases hiz with rfl|rfl
    ·refine EA (some 31) X (wn_none X) X X (eF (DM X X X underlying176 underlying9 C1 (M.mp 0 X) (EK _) (HI _))) ?_;rintro _ _ ⟨rfl,rfl⟩;refine ⟨λ_=>(M.drop 1),oc 7 13 X X (M.drop 1) (oc 8 13 X X (M.drop 1) (oc 9 13 X X (M.drop 1) (B2 10 (some 7) gkr X (wn_none X) X X (λρ hρ=>C7 174 X _ [.int .u8 0,AC 0] C1 X) ?_)))⟩;rintro _ w26 ⟨g7,rfl,hg7,hq7,hb7,hfw26⟩;refine ⟨λ_=>(M.drop 1).step hfw26,?_⟩;have M:=M.push hfw26 _ hb7 (DO hg7 hq7)
     replace M:Mem w (λk=>k=gx) (As.blk g7 174 [.int .u8 0,AC 0]::_) w26:=M
     exact fop M 11 0 X X X DL X (·.drop 2) λw27 M=>oc 12 13 X X (M.drop 2) (fdn (kr5 g7 g25 _ _ M ⟨X,X,X,X,X,X,X,trivial⟩))
    ·refine EA (some 7) X (wn_none X) X X (λρ hρ=>C7 174 X _ [.int .u8 0,AC 0] C1 X) ?_;rintro _ w28 ⟨g7,rfl,hg7,hq7,hb7,hfw28⟩;refine ⟨λ_=>(M.drop 1).step hfw28,?_⟩;have M:=M.push hfw28 _ hb7 (DO hg7 hq7)
     replace M:Mem w (λk=>k=gx) (As.blk g7 174 [.int .u8 0,AC 0]::_) w28:=M
     exact DC 6 gkr X (wn_none X) X X (DM X X X underlying176 underlying9 C1 (M.mp 1 X) (EK _) (HI _)) (M.drop 2) (oc 7 13 X X (M.drop 2) (oc 8 13 X X (M.drop 2) (oc 9 13 X X (M.drop 2) (fop M 11 0 X X X DL X (·.drop 2) λw29 M=>oc 12 13 X X (M.drop 2) (fdn (kr5 g7 g25 _ _ M ⟨X,X,X,X,X,X,X,trivial⟩))))))
   ·refine EA (some 7) X (wn_none X) X X (λρ hρ=>C7 174 X _ [.int .u8 0,AC 0] C1 X) ?_;rintro _ w30 ⟨g7,rfl,hg7,hq7,hb7,hfw30⟩;refine ⟨λ_=>M.step hfw30,?_⟩;have M:=M.push hfw30 _ hb7 (DO hg7 hq7)
    replace M:Mem w (λk=>k=gx) (As.blk g7 174 [.int .u8 0,AC 0]::_) w30:=M
    refine BQ 0 (some 25) gkr X (wn_none X) X X (AG X X call87) (IA _) ?_;rintro _ w31 ⟨g25,rfl,hMw31,hgw31,hfw31⟩;refine ⟨_,X,λ_=>(M.drop 1).step hfw31,?_⟩;have M:=M.push hfw31 (As.mp g25 ES) hMw31 (MN hgw31 hMw31.lt);exact DC 6 gkr X (wn_none X) X X (DM X X X underlying176 underlying9 C1 (M.mp 0 X) (EK _) (HI _)) (M.drop 2) (oc 7 13 X X (M.drop 2) (oc 8 13 X X (M.drop 2) (oc 9 13 X X (M.drop 2) (fop M 11 1 X X X DL X (·.drop 2) λw32 M=>oc 12 13 X X (M.drop 2) (fdn (kr5 g7 g25 _ _ (M.pk [1,0,2,3,4,5]) ⟨X,X,X,X,X,X,X,trivial⟩))))))
  ·have h23p:=(odf h23);refine sx_exit (qx_then_exit (qx_then_exit (qx_block_hit (qx_seq (srg (CB M 0 X X underlying112 AO X (BD M 2 X X AO X λw33 M=>gnr (E3 X X (M.rdBlk 2 X X) underlying112 X AO ?_))))))));rw [heq.trans (i6 h23p)];exact ⟨_,_,X,M.ok 1 _ X,M.newOf 1 3 X X B3,M.blk 3 X,M.fr⟩
theorem nU (s:List UInt8) (gx c5 c6 c7 c8 c9 c10:Nat):∀f:Nat,FromOK s gx c5 c6 c7 c8 c9 c10 f (D1 s (f+1))
 | 0=>⟨WZ s 0,λline x w hl hb hx hm hE hY=>YM (f:=0) (λ_ h=>by cases h) line hl x w hb hx hm hE hY⟩
 | f+1=>⟨WZ s (f+1),λline x w hl hb hx hm hE hY=>YM (f:=f+1) (λf' h=>by cases h;exact nU s gx c5 c6 c7 c8 c9 c10 f) line hl x w hb hx hm hE hY⟩
end
section
theorem Mem.neBlk {w0 w:World} {S:Nat→Prop} {L:List As} (M:Mem w0 S L w) (i j:Nat) {a b t u:Nat} {cs ds:List Value} (hi:L[i]?=some (As.blk a t cs)) (hj:L[j]?=some (As.blk b u ds)) (h:i≠j):¬a=b:=λe=>
 M.apart i j _ _ hi hj h a (by simp [As.blk]) (by simp [As.blk,e])
theorem yO (s:List UInt8):LxI s lx0:=⟨Nat.zero_le _,Nat.le_refl _,λh=>absurd rfl h,rfl⟩
theorem dN (s:List UInt8) (x:Lx):lxM s x≤s.length+1:=by unfold lxM;split<;>omega
theorem YJ {s:List UInt8} (h:(256:Int)<(s.length:Int)):CQ s=(.zero,0,3):=if_pos AA
section
variable {s:List UInt8} (h:¬(256:Int)<((s.length:Nat):Int))
include h
theorem WM (h1:(D1 s 258 1 (BP s lx0)).2.fin=false) (h2:¬((D1 s 258 1 (BP s lx0)).2.fail 4 (D1 s 258 1 (BP s lx0)).2.tat).e=0) :
 CQ s=(.zero,((D1 s 258 1 (BP s lx0)).2.fail 4 (D1 s 258 1 (BP s lx0)).2.tat).wh,((D1 s 258 1 (BP s lx0)).2.fail 4 (D1 s 258 1 (BP s lx0)).2.tat).e):=by
 unfold CQ;rw [if_neg AA];simp only [h1,if_true,if_neg h2]
theorem WL (h1:(D1 s 258 1 (BP s lx0)).2.fin=false) (h2:((D1 s 258 1 (BP s lx0)).2.fail 4 (D1 s 258 1 (BP s lx0)).2.tat).e=0):CQ s=((D1 s 258 1 (BP s lx0)).1,0,0):=by
 unfold CQ;rw [if_neg AA];simp only [h1,if_true,if_pos h2]
theorem YL (h1:(D1 s 258 1 (BP s lx0)).2.fin=true) (h2:¬(D1 s 258 1 (BP s lx0)).2.e=0):CQ s=(.zero,(D1 s 258 1 (BP s lx0)).2.wh,(D1 s 258 1 (BP s lx0)).2.e):=by
 unfold CQ;rw [if_neg AA];simp only [h1,Bool.true_eq_false,if_false,if_neg h2]
theorem YK (h1:(D1 s 258 1 (BP s lx0)).2.fin=true) (h2:(D1 s 258 1 (BP s lx0)).2.e=0):CQ s=((D1 s 258 1 (BP s lx0)).1,0,0):=by
 unfold CQ;rw [if_neg AA];simp only [h1,Bool.true_eq_false,if_false,if_pos h2]
end
theorem RL (a0:List UInt8):prog.built 168 [(0,str a0)]=some #[str a0,AC 0,.int .u8 0,.int .u8 0,AC 0,.bool false,str [],str [],.slice none 0 0,str [],AC 0,.bool false,AC 0,AC 0]:=by kernel_rfl
theorem JP : (prog.info? 172).map (·.size)=some 1:=by kernel_rfl
theorem HT : (prog.info? 169).map (·.size)=some 1:=by kernel_rfl
theorem IQ : (prog.info? 170).map (·.size)=some 1:=by kernel_rfl
theorem RD : (prog.info? 164).map (·.size)=some 1:=by kernel_rfl
theorem JL : (prog.info? 172).map (·.zero)=some (some (.nilFunc)):=by kernel_rfl
theorem HR : (prog.info? 169).map (·.zero)=some (some (.nilFunc)):=by kernel_rfl
theorem IP : (prog.info? 170).map (·.zero)=some (some (.nilFunc)):=by kernel_rfl
theorem RC : (prog.info? 164).map (·.zero)=some (some (.pointer none)):=by kernel_rfl
theorem YI (s:List UInt8) (w:World) (hs:s.length≤4611686018427387904) (hY:Lay0 w) :
 Calls prog 42 #[str s] w λe w'=>∃A F,e=.returned (.tuple #[.agg ((CQ s).1.cells A).toArray,AC (((CQ s).2.1:Nat):Int),AC (CQ s).2.2])∧(CQ s).1.AtL 112 w' A F∧(∀k∈F,w.heap.size≤k∧k<w'.heap.size)∧Fr0 w w':=by
 have hGx:∀k,AR k→nGlob≤k:=λ_ h=>h.elim
 refine BH func42 ntmps42 X λM=>srg (CI M X CW λg2 w1 hg2 M=>yb X (AJ X (sx_seq (AE X (ya X (FU X X underlying9) (IM X X (sxl_nil ?_)))))))
 refine qx_seq (AF X (λh14=>?_) (λh14=>?_))
 ·have h14p:=(odt h14);refine srg (ya X (AY (parts:=[]) X X (IU)) (BD M 0 X X AO X λw2 M=>AV X X (gnr (qx_then_ret (MJ X X (M.rdBlk 0 X X) underlying112 X AO X X ?_)))));rw [YJ h14p];exact ⟨none,[],X,⟨X,X⟩,(λk hk=>absurd hk (by simp)),M.fr⟩
 ·have h14p:=(odf h14);refine sx_skip (qx_seq (AE X (ya X (AY (parts:=[(0,_)]) X X (RL _)) (CC M X X λgx w3 hgx M=>?_))));have hnx:nGlob≤gx:=Nat.le_trans hY.size (M.new0 0 X gx (by simp [As.blk])).1;refine EI M (wn_none X) X X 164 X [.pointer none] RC X λg5 w4 hg5 M=>gp1 M 0 X X X RD λw5 M=>EV (AU M 0 X X X (cl 20 X (AG X X call80) (HB s lx0 _ _ (M.blk 1 X) (yO s).at_ AA (hY.fr M.fr hGx) hnx) ?_))
  rintro _ w6 ⟨rfl,hbw6,hfw6⟩;have M:=M.putB 1 X hbw6 hfw6;refine ⟨_,X,EV (EI M (wn_none X) X X 169 X [.nilFunc] HR X λg6 w7 hg6 M=>EV (ya X (CP (us:=[]) (vs:=[pg g5,pg g6]) X X X) (EI M (wn_none X) X X 170 X [.nilFunc] IP X λg7 w8 hg7 M=>E7 (cs':=[.func (.func 81) #[] #[pg g5,pg g6]]) M 0 (wn_none X) X X X X X X X IQ (CO X) X λw9 M=>?_)))⟩;refine EV (ya X (CP (us:=[]) (vs:=[pg g5]) X X X) (EI M (wn_none X) X X 172 X [.nilFunc] JL X λg8 w10 hg8 M=>E7 (cs':=[.func (.func 82) #[] #[pg g5]]) M 0 (wn_none X) X X X X X X X JP (CO X) X λw11 M=>EV (ya X (CP (us:=[]) (vs:=[pg g5,pg g6]) X X X) (EI M (wn_none X) X X 172 X [.nilFunc] JL X λg9 w12 hg9 M=>?_))));refine E7 (cs':=[.func (.func 84) #[] #[pg g5,pg g6]]) M 0 (wn_none X) X X X X X X X JP (CO X) X λw13 M=>EV (ya X (CP (us:=[]) (vs:=[pg g5,pg g7,pg g9,pg g8]) X X X) (EI M (wn_none X) X X 169 X [.nilFunc] HR X λg10 w14 hg10 M=>E7 (cs':=[.func (.func 85) #[] #[pg g5,pg g7,pg g9,pg g8]]) M 0 (wn_none X) X X X X X X X HT (CO X) X λw15 M=>EV (ya X (CP (us:=[]) (vs:=[pg g5,pg g10,pg g6]) X X X) ?_)))
  refine E7 (cs':=[.func (.func 86) #[] #[pg g5,pg g10,pg g6]]) M 4 (wn_none X) X X X X X X X HT (CO X) X λw16 M=>EV (AU M 4 X X X (cl 27 X (BJ X X X call86) ((nU s gx g5 g6 g7 g8 g9 g10 257).call 1 (BP s lx0) _ B3 (M.blk 6 X) ED (Nat.le_trans (dN _ _) AA) ⟨M.blk 5 X,M.blk 4 X,M.blk 3 X,M.blk 2 X,M.blk 1 X,M.blk 0 X,⟨M.neBlk 5 6 X X B3,M.neBlk 4 6 X X B3,M.neBlk 3 6 X X B3,M.neBlk 2 6 X X B3,M.neBlk 1 6 X X B3,M.neBlk 0 6 X X B3⟩,hnx,by omega⟩ (hY.fr M.fr hGx)) ?_))
  rintro _ w17 ⟨A27,F27,rfl,hat27,hnw27,hbw17,hfw17⟩;have M:=M.putPush 6 X hbw17 hfw17 (As.xn 112 (D1 s 258 1 (BP s lx0)).1 A27 F27) hat27 hnw27;have hI27:=(WZ s 257).I 1 (BP s lx0) ED (Nat.le_trans (dN _ _) AA);refine ⟨_,X,CI M X CW λg11 w18 hg11 M=>BD M 0 X X AO X λw19 M=>nq (sx_seq (srg (AU M 7 X X X (AV X X (yb X (AU M 8 X X X (yb X ?_)))))))⟩;refine nq (AF X (λh33=>?_) (λh33=>?_))
  ·have h33p:=(C5 h33);refine CY 6 CH gkr ?_;have M:=M.drew;refine EB M 7 X X X (EB M 7 X X X (sb X (sb X (sb X (EB M 8 X X X (C8 (cl 40 X (AG X X call83) (FA s ((D1 s 258 1 (BP s lx0)).2) _ _ _ _ (M.blk 8 X)) ?_)))))));rintro _ w20 ⟨rfl,hbw20,hfw20⟩;have M:=M.putB 8 X hbw20 hfw20;refine ⟨_,X,nq (sx_seq (srg (AU M 7 X X X (AV X X (AU M 8 X X X (CT X X (nq (AF X (λh45=>?_) (λh45=>?_)))))))))⟩
   ·have h45p:=(odf (C5 h45));refine sx_seq (EH 12 (λw'=>Mem w AR [As.blk g11 112 (Xn.cells ((D1 s 258 1 (BP s lx0)).1) A27),As.xn 112 ((D1 s 258 1 (BP s lx0)).1) A27 F27,As.blk g10 169 [.func (.func 85) #[] #[pg g5,pg g7,pg g9,pg g8]],As.blk g9 172 [.func (.func 84) #[] #[pg g5,pg g6]],As.blk g8 172 [.func (.func 82) #[] #[pg g5]],As.blk g7 170 [.func (.func 81) #[] #[pg g5,pg g6]],As.blk g6 169 [.func (.func 86) #[] #[pg g5,pg g10,pg g6]],As.blk g5 164 [pg gx],As.blk gx 168 (Lx.cells s (((D1 s 258 1 (BP s lx0)).2).fail 4 ((D1 s 258 1 (BP s lx0)).2.tat)))] w') CH ?_);have M:=M.drew;refine oa 0 12 X X (M.pk [0,1,2,3,4,5,6,7,8]) (λ_ M=>AY (parts:=[]) X X (IU)) (ol 1 12 X X X (M.pk [0,1,2,3,4,5,6,7,8]) (λ_ M=>(M.cell 7 X X)) (oc 2 12 X X (M.pk [0,1,2,3,4,5,6,7,8]) (oc 3 12 X X (M.pk [0,1,2,3,4,5,6,7,8]) (ol 4 12 X X X (M.pk [0,1,2,3,4,5,6,7,8]) (λ_ M=>(M.cell 8 X X)) (ol 5 12 X X X (M.pk [0,1,2,3,4,5,6,7,8]) (λ_ M=>(M.cell 7 X X)) (oc 6 12 X X (M.pk [0,1,2,3,4,5,6,7,8]) (oc 7 12 X X (M.pk [0,1,2,3,4,5,6,7,8]) (ol 8 12 X X X (M.pk [0,1,2,3,4,5,6,7,8]) (λ_ M=>(M.cell 8 X X)) (B2 9 none gkr X (wn_none X) X X (λρ hρ=>BO 112 _ _ X g2 0 112 _ ([.int .u8 0,.int .u8 0,AC 0,.bool false,str [],str [],.slice none 0 0]) (hρ _ _ X) (hρ _ _ X) (M.blk 9 X) AO (HX X) (CL X)) ?_)))))))));rintro _ w21 ⟨rfl,hbw21,hfw21⟩
    replace M:Mem w AR (List.set _ 9 (As.blk g2 112 [.int .u8 0,.int .u8 0,AC 0,.bool false,str [],str [],.slice none 0 0])) w21:=M.putB 9 rfl hbw21 hfw21
    refine ⟨λ_=>(M.pk [0,1,2,3,4,5,6,7,8]),oc 10 12 X X (M.pk [0,1,2,3,4,5,6,7,8]) (oc 11 12 X X (M.pk [0,1,2,3,4,5,6,7,8]) (fdn (qx_seq (sx_ret (qx_then_ret (MJ X X (M.rdBlk 9 X X) underlying112 X AO X X ?_))))))⟩;rw [WM h14p h33p h45p];exact ⟨none,[],X,⟨X,X⟩,(λk hk=>absurd hk (by simp)),M.fr⟩
   ·have h45p:=(odt (BL h45));refine sx_skip (qx_seq (srg (CB M 0 X X underlying112 AO X (BD M 9 X X AO X λw22 M=>AV X X (gnr (MJ X X (M.rdBlk 9 X X) underlying112 X AO X X ?_))))));rw [WL h14p h33p h45p];exact ⟨_,_,X,M.ok 1 _ X,M.new0 1 X,M.fr⟩
  ·have h33p:=(BL h33);refine sx_skip (qx_seq (sx_seq (srg (AU M 7 X X X (AV X X (AU M 8 X X X (CT X X (nq (AF X (λh45=>?_) (λh45=>?_))))))))))
   ·have h45p:=(odf (C5 h45));refine sx_seq (EH 12 (λw'=>Mem w AR [As.blk g11 112 (Xn.cells ((D1 s 258 1 (BP s lx0)).1) A27),As.xn 112 ((D1 s 258 1 (BP s lx0)).1) A27 F27,As.blk g10 169 [.func (.func 85) #[] #[pg g5,pg g7,pg g9,pg g8]],As.blk g9 172 [.func (.func 84) #[] #[pg g5,pg g6]],As.blk g8 172 [.func (.func 82) #[] #[pg g5]],As.blk g7 170 [.func (.func 81) #[] #[pg g5,pg g6]],As.blk g6 169 [.func (.func 86) #[] #[pg g5,pg g10,pg g6]],As.blk g5 164 [pg gx],As.blk gx 168 (Lx.cells s ((D1 s 258 1 (BP s lx0)).2))] w') CH ?_);have M:=M.drew;refine oa 0 12 X X (M.pk [0,1,2,3,4,5,6,7,8]) (λ_ M=>AY (parts:=[]) X X (IU)) (ol 1 12 X X X (M.pk [0,1,2,3,4,5,6,7,8]) (λ_ M=>(M.cell 7 X X)) (oc 2 12 X X (M.pk [0,1,2,3,4,5,6,7,8]) (oc 3 12 X X (M.pk [0,1,2,3,4,5,6,7,8]) (ol 4 12 X X X (M.pk [0,1,2,3,4,5,6,7,8]) (λ_ M=>(M.cell 8 X X)) (ol 5 12 X X X (M.pk [0,1,2,3,4,5,6,7,8]) (λ_ M=>(M.cell 7 X X)) (oc 6 12 X X (M.pk [0,1,2,3,4,5,6,7,8]) (oc 7 12 X X (M.pk [0,1,2,3,4,5,6,7,8]) (ol 8 12 X X X (M.pk [0,1,2,3,4,5,6,7,8]) (λ_ M=>(M.cell 8 X X)) (B2 9 none gkr X (wn_none X) X X (λρ hρ=>BO 112 _ _ X g2 0 112 _ ([.int .u8 0,.int .u8 0,AC 0,.bool false,str [],str [],.slice none 0 0]) (hρ _ _ X) (hρ _ _ X) (M.blk 9 X) AO (HX X) (CL X)) ?_)))))))));rintro _ w23 ⟨rfl,hbw23,hfw23⟩
    replace M:Mem w AR (List.set _ 9 (As.blk g2 112 [.int .u8 0,.int .u8 0,AC 0,.bool false,str [],str [],.slice none 0 0])) w23:=M.putB 9 rfl hbw23 hfw23
    refine ⟨λ_=>(M.pk [0,1,2,3,4,5,6,7,8]),oc 10 12 X X (M.pk [0,1,2,3,4,5,6,7,8]) (oc 11 12 X X (M.pk [0,1,2,3,4,5,6,7,8]) (fdn (qx_seq (sx_ret (qx_then_ret (MJ X X (M.rdBlk 9 X X) underlying112 X AO X X ?_))))))⟩;rw [YL h14p h33p h45p];exact ⟨none,[],X,⟨X,X⟩,(λk hk=>absurd hk (by simp)),M.fr⟩
   ·have h45p:=(odt (BL h45));refine sx_skip (qx_seq (srg (CB M 0 X X underlying112 AO X (BD M 9 X X AO X λw24 M=>AV X X (gnr (MJ X X (M.rdBlk 9 X X) underlying112 X AO X X ?_))))));rw [YK h14p h33p h45p];exact ⟨_,_,X,M.ok 1 _ X,M.new0 1 X,M.fr⟩
end
section
theorem pZ {e:Env} {w:World} {o:Oper} {t':Nat} {x y:Operand} {a b:Vl} (ho:o.op=.binOp .neq 100 x y t') (hx:ev e x=some (.agg a.cells.toArray)) (hy:ev e y=some (.agg b.cells.toArray)):Y prog e o w (.bool (!(a.same b))):=λρ h=>by
 have h1:ρ x=.agg a.cells.toArray:=h _ _ hx;have h2:ρ y=.agg b.cells.toArray:=h _ _ hy;have hg:=run_eqGuard_agg (P:=prog) w .neq 100 x y a.cells.toArray b.cells.toArray QZ
 have hrun:(Op.equalIn 10000 100 (.agg a.cells.toArray) (.agg b.cells.toArray)).run prog w=.ok (a.same b) w:=by
  rw [run_equalIn_struct w 9999 100 _ _ OV SE];have hl:(prog.fieldsOf 100).toList=(match prog.underlying 100 with|some (.struct fs)=>fs.toList|_=>[]):=by unfold Program.fieldsOf;rw [underlying100]
  rw [hl,underlying100]
  simp only
  rw [BC (a:=.int .u8 (a.kind.toNat:Int)) (b:=.int .u8 (b.kind.toNat:Int)) B3 (B8 (isAgg5 w) rfl) (B8 (isAgg5 w) rfl) (run_equalIn_int w 9998 5 _ _ _ _ underlying5),
   BC (a:=AC a.int) (b:=AC b.int) B3 (B8 (isAgg2 w) rfl) (B8 (isAgg2 w) rfl) (run_equalIn_int w 9998 2 _ _ _ _ underlying2),
   BC (a:=.bool a.bool) (b:=.bool b.bool) B3 (B8 (isAgg4 w) rfl) (B8 (isAgg4 w) rfl) (run_equalIn_bool' w 9998 4 _ _ underlying4),
   BC (a:=str a.text) (b:=str b.text) B3 (B8 (isAgg9 w) rfl) (B8 (isAgg9 w) rfl) (run_equalIn_string w 9998 9 _ _ underlying9)]
  have ht:((⟨a.text.toArray⟩:ByteArray).toList==(⟨b.text.toArray⟩:ByteArray).toList)=decide (a.text=b.text):=by
   rw [ByteArray.toList_eq,ByteArray.toList_eq]
   by_cases h:a.text=b.text<;>simp [h]
  rw [ht];simp only [Op.eqFields,Sem.run_pure];unfold Vl.same
  by_cases h1:(a.kind.toNat:Int)=b.kind.toNat<;>by_cases h2:a.int=b.int<;>by_cases h3:a.bool=b.bool<;>by_cases h4:a.text=b.text<;>simp [h1,h2,h3,h4]
 unfold execOp;simp only [ho,h1,h2,Sem.run_bind,hg,Result.andThen_ok,run_neq_struct,hrun]
 rfl
def Xn.sm (k:Nat):Xn→Prop
 | .zero=>True
 | .lit v=>v.text.length≤k
 | .var s=>s.length≤k
 | .un _ a=>a.sm k
 | .bin _ a b=>a.sm k∧b.sm k
theorem Xn.sm_vl {k:Nat}:∀{n:Xn},n.sm k→n.vl.text.length≤k
 | .zero,_=>Nat.zero_le _
 | .lit _,h=>h
 | .var _,_=>Nat.zero_le _
 | .un _ _,_=>Nat.zero_le _
 | .bin _ _ _,_=>Nat.zero_le _
theorem Xn.sm_nm {k:Nat}:∀{n:Xn},n.sm k→n.nm.length≤k
 | .zero,_=>Nat.zero_le _
 | .lit _,_=>Nat.zero_le _
 | .var _,h=>h
 | .un _ _,_=>Nat.zero_le _
 | .bin _ _ _,_=>Nat.zero_le _
theorem wB {m:Nat}:∀(l b:List UInt8) {b':List UInt8} {n:Nat},l.length≤m→qt b l=some (b',n)→b'.length≤b.length+l.length:=by
 induction m with
 | zero=>
  intro l b b' n hl h
  cases l with
  | nil=>cases h
  | cons c r=>simp at hl
 | succ m ih=>
  intro l b b' n hl h
  match l,h with
  | [c],h=>
   by_cases hc:(c.toNat:Int)=39
   ·rw [show qt b [c]=if (c.toNat:Int)=39 then some (b,0) else none from rfl,if_pos hc] at h
    cases h;simp
   ·rw [show qt b [c]=if (c.toNat:Int)=39 then some (b,0) else none from rfl,if_neg hc] at h
    cases h
  | c::d::r,h=>
   simp only [List.length_cons] at hl
   by_cases hc:(c.toNat:Int)=39
   ·by_cases hd:(d.toNat:Int)=39
    ·rw [qt,if_pos hc,if_pos hd] at h
     have:=ih r (b++[d]) AA h
     simp only [List.length_append,List.length_cons,List.length_nil] at this ⊢;omega
    ·rw [qt,if_pos hc,if_neg hd] at h
     cases h;simp
   ·rw [qt,if_neg hc] at h
    have:=ih (d::r) (b++[c]) (by simp only [List.length_cons];omega) h
    simp only [List.length_append,List.length_cons,List.length_nil] at this ⊢;omega
theorem kI {k:Nat} {l:List UInt8} {x:Lx} (hl:l.length≤k) (h:x.nd.sm k):(I9 l x).nd.sm k:=by
 unfold I9
 split
 ·rename_i b n hq
  split
  ·have:=wB (m:=l.tail.length) l.tail [] (Nat.le_refl _) hq
   simp only [List.length_tail,List.length_nil] at this
   show b.length≤k
   omega
  ·rw [E6];exact h
 ·rw [E6];exact h
theorem sD {k:Nat} {t:List UInt8} {x:Lx} (h:x.nd.sm k):(NO t x).nd.sm k:=by
 unfold NO
 split
 ·rw [E6];exact h
 ·split<;>exact Nat.zero_le _
theorem jS {k:Nat} {t:List UInt8} {x:Lx} (hl:t.length≤k) (h:x.nd.sm k):(IK t x).nd.sm k:=by
 unfold IK
 repeat' split
 all_goals first
  | exact Nat.zero_le _
  | exact h
  | (rw [E6];exact h)
  | exact hl
theorem mG {s r:List UInt8} {x:Lx} (hr:r.length≤s.length):(IB s r x).nd.sm s.length:=by
 unfold IB
 split
 ·trivial
 ·split
  ·exact sD (x:=⟨_,.zero,_,_,_,_,_⟩) trivial
  ·split
   ·exact jS (x:=⟨_,.zero,_,_,_,_,_⟩) (by rw [List.length_take];omega) trivial
   ·split
    ·exact kI (x:=⟨_,.zero,_,_,_,_,_⟩) hr trivial
    ·split
     ·show (Lx.fail _ _ _).nd.sm s.length
      rw [E6];trivial
     ·trivial
theorem J7 {s:List UInt8} {x:Lx}:(BP s x).nd.sm s.length:=mG (KQ _ _)
def FrS (s:List UInt8) (fr:Nat→Lx→Xn × Lx):Prop:=∀(line:Nat) (x:Lx),x.nd.sm s.length→(fr line x).1.sm s.length∧(fr line x).2.nd.sm s.length
section
variable {s:List UInt8} {fr:Nat→Lx→Xn × Lx}
theorem o1 (h:FrS s fr) {line:Nat} {x:Lx} (hx:x.nd.sm s.length):(DT s fr line x).1.sm s.length∧(DT s fr line x).2.nd.sm s.length:=by
 unfold DT
 split
 ·exact h _ _ J7
 ·split
  ·exact h _ _ J7
  ·split
   ·exact ⟨(h _ _ J7).1,J7⟩
   ·exact ⟨hx,J7⟩
theorem dO (h:FrS s fr) (line:Nat):∀(k:Nat) (n:Xn) (x:Lx),n.sm s.length→x.nd.sm s.length→(GM s fr k line n x).1.sm s.length∧(GM s fr k line n x).2.nd.sm s.length
 | 0,_,_,hn,hx=>⟨hn,hx⟩
 | k+1,n,x,hn,hx=>by
  unfold GM
  split
  ·exact ⟨hn,hx⟩
  ·split
   ·exact ⟨hn,hx⟩
   ·have h1:=h (RF x.say+1) (BP s x) J7;refine dO h line k _ _ ⟨hn,h1.1⟩ ?_;unfold MF
    simp only
    split
    ·rw [E6];exact h1.2
    ·exact h1.2
theorem WY (s:List UInt8):∀f:Nat,FrS s (D1 s f)
 | 0=>λ_ _ hx=>⟨trivial,hx⟩
 | f+1=>λline x hx=>by
  unfold D1
  split
  ·exact ⟨trivial,hx⟩
  ·have h1:=o1 (WY s f) (line:=line) hx;exact dO (WY s f) line f _ _ h1.1 h1.2
end
theorem gL (s:List UInt8):(CQ s).1.sm s.length:=by
 unfold CQ
 split
 ·trivial
 ·simp only
  repeat' split
  all_goals first
   | exact (WY s 258 1 _ J7).1
   | trivial
def Xn.kids : Xn→List Xn
 | .un _ a=>[a]
 | .bin _ a b=>[a,b]
 | _=>[]
theorem Xn.ind {C:Xn→Prop} (h:∀n:Xn,(∀a∈n.kids,C a)→C n):∀n:Xn,C n
 | .zero=>h _ (λ_ hh=>by cases hh)
 | .lit _=>h _ (λ_ hh=>by cases hh)
 | .var _=>h _ (λ_ hh=>by cases hh)
 | .un o a=>
  have ha:=Xn.ind h a
  h (.un o a) (λx hx=>by simp only [Xn.kids,List.mem_singleton] at hx;subst hx;exact ha)
 | .bin o a b=>
  have ha:=Xn.ind h a;have hb:=Xn.ind h b
  h (.bin o a b) (λx hx=>by
   simp only [Xn.kids,List.mem_cons,List.not_mem_nil,or_false] at hx
   rcases hx with rfl|rfl
   ·exact ha
   ·exact hb)
theorem Xn.sm_kid {k:Nat}:∀{n a:Xn},n.sm k→a∈n.kids→a.sm k
 | .un _ _,_,h,hx=>by simp only [Xn.kids,List.mem_singleton] at hx;subst hx;exact h
 | .bin _ _ _,_,h,hx=>by
  simp only [Xn.kids,List.mem_cons,List.not_mem_nil,or_false] at hx
  rcases hx with rfl|rfl
  ·exact h.1
  ·exact h.2
def ndC (q:Xn × Option Addr):List Value:=q.1.cells q.2
theorem sO (q:Xn × Option Addr):(ndC q).length=7:=rfl
theorem Xn.AtL.kids {t:TypeId} {w:World}:∀{n:Xn} {A:Option Addr} {F:List Nat},n.AtL t w A F→∃L:List (Xn × Option Addr),L.map Prod.fst=n.kids∧L.length=n.nk∧Rd w A (L.length*7) (AD ndC L)∧∀q∈L,∃F',q.1.AtL t w q.2 F'
 | .zero,_,_,h=>⟨[],rfl,rfl,by rw [h.1];exact Rd.nil,λ_ hh=>by cases hh⟩
 | .lit _,_,_,h=>⟨[],rfl,rfl,by rw [h.1];exact Rd.nil,λ_ hh=>by cases hh⟩
 | .var _,_,_,h=>⟨[],rfl,rfl,by rw [h.1];exact Rd.nil,λ_ hh=>by cases hh⟩
 | .un _ a,_,_,⟨g,B,F',h1,_,h3,h4⟩=>⟨[(a,B)],rfl,rfl,by rw [h1];exact Rd.ofBlk h3 rfl,λq hq=>by
  simp only [List.mem_singleton] at hq;subst hq;exact ⟨_,h4⟩⟩
 | .bin _ a b,_,_,⟨g,B,C,F',F'',h1,_,h3,h4,h5⟩=>⟨[(a,B),(b,C)],rfl,rfl,by rw [h1];exact Rd.ofBlk h3 rfl,λq hq=>by
  simp only [List.mem_cons,List.not_mem_nil,or_false] at hq
  rcases hq with rfl|rfl
  ·exact ⟨_,h4⟩
  ·exact ⟨_,h5⟩⟩
theorem Xn.AtL.fr0 {t:TypeId} {w w':World} {n:Xn} {A:Option Addr} {F:List Nat} (h:n.AtL t w A F) (hf:Fr0 w w'):n.AtL t w' A F:=h.keep (λg _ hg=>hf.block g hg (λhh=>hh))
theorem Xn.nk_le (n:Xn):n.nk≤2:=by cases n<;>simp [Xn.nk]
theorem G7 {w w':World} {L:List (Nat × List Value)} (h:Laid w L) (hf:Fr0 w w'):Laid w' L:=λp hp=>by
 obtain ⟨el,fz,h1⟩:=h p hp;exact ⟨el,fz,(hf.block _ (Array.getElem?_eq_some_iff.1 h1).1 (λhh=>hh)).trans h1⟩
def U9 (b:UInt8):List Value:=[.int .u8 (b.toNat:Int)]
theorem VS (b:UInt8):(U9 b).length=1:=rfl
end
end Go.Proofs.YtaheakjfkpkefaaGreatDoor
