/- Lemmas. -/
import Derived.Sort.OwnSortedInts
import Derived.Test.YtaheakjfkpkefaaGreatDoorVMw3
import Derived.Scope
set_option maxHeartbeats 16000000
set_option maxRecDepth 100000
namespace Go.Proofs.YtaheakjfkpkefaaGreatDoor
open Go.RowKit
section
section
variable {P:Program} {Q:Exit→Act→World→Prop} {n:Nat} {e:Env} {w w0:World} {S:Nat→Prop} {L:List As} {ops:Array Oper} {o:Oper} {rest:List Oper}
theorem m5 {w:World} {base size n c:Nat} {el:TypeId} {A:Option Addr} {xs:List Value} (h:w.ownsRow base el size (.slice A n c) n xs) (h0:0<n):∃g,A=some ⟨g,0,none⟩:=by
 rcases h.2 with ⟨_,h1⟩|⟨g,cap,cur,h1,_⟩
 ·omega
 ·injection h1 with h1;exact ⟨g,h1⟩
theorem kW (M:Mem w0 S L w) (i:Nat) (hw:Wn ops e o) (hd:o.dst=none) {ty base el size m c g off:Nat} {x y:Operand} {A:Option Addr} {v:Value} {xs xs':List Value} (hA:A=some ⟨g,0,none⟩) (ho:o.op=.store ty x y) (hx:ev e x=some (.pointer (some ⟨g,off,none⟩))) (hy:ev e y=some v) (hi:L[i]?=some (As.own base el size (.slice A m c) m xs))
 (hv:v.cells = #[v]) (h1:v.oneCell'=true) (hsz:(P.info? ty).map (·.size)=some 1) (hl:off<m*size) (hcs:xs.set off v=xs')
 (k:∀w',Mem w0 S (L.set i (As.own base el size (.slice A m c) m xs')) w'→SxL P ops Q n rest e w'):SxL P ops Q n (o::rest) e w:=by
 subst hA;have hown:=M.own i hi;have hxl:=hown.1;rcases hown.2 with ⟨_,h0⟩|⟨g',cap,cur,hs,hb,hg,hc,hm,hcz,ht⟩
 ·subst h0;omega
 ·injection hs with hs1 hs2 hs3
  injection hs1 with hs1;injection hs1 with hs1
  subst hs1;have hB:Blk w g el cur.toList:=by show w.heap[g]?=_;rw [hg]
  have hcl:cur.toList.length=cap*size:=by simpa using hcz
  have hle:m*size≤cap*size:=Nat.mul_le_mul_right size hc;refine sxl_does none hw hd X (λρ hρ=>CU ty x y ho g off el cur.toList v (hρ _ _ hx) (hρ _ _ hy) hv hB hsz AA h1) ?_;rintro _ w1 ⟨rfl,hb1,hf⟩;subst hcs;refine k w1 (M.upd i hi (hf.mono λq _ e=>by simp [As.own,Value.ownBlock,e]) (As.own base el size (.slice (some ⟨g,0,none⟩) m c) m (xs.set off v)) ⟨by rw [List.length_set];exact hxl,.inr ⟨g,cap,(cur.toList.set off v).toArray,by rw [hs3],hb,hb1,hc,hm,by simp [hcz],?_⟩⟩ (λg' hg'=>.inl hg'));rw [←ht];exact List.take_set
end
def As.crs (m:Md) (p:Option Addr) (er:Int) (c:CrA) (F:List Nat):As:=⟨F,λw=>er=0→∃gc,p=some ⟨gc,0,Option.none⟩∧CourseN w m gc c F,λh hb he=>by
 obtain ⟨gc,h1,h2⟩:=hb he;exact ⟨gc,h1,h2.keep h⟩⟩
end
section
section
variable {P:Program} {e:Env} {w:World} {o:Oper} {t t':Nat} {a b:Int} {x y:Operand}
theorem uU (ho:o.op=.binOp .sub t x y t') (hx:ev e x=some (AC a)) (hy:ev e y=some (AC b)):Y P e o w (AC ((IntKind.i64).wrap (a-b))):=λρ h=>by
 unfold execOp;simp [ho,h _ _ hx,h _ _ hy,eqGuard_at_int,binOp_sub,Op.intArith]
theorem v8 (ho:o.op=.binOp .mul t x y t') (hx:ev e x=some (AC a)) (hy:ev e y=some (AC b)):Y P e o w (AC ((IntKind.i64).wrap (a*b))):=λρ h=>by
 unfold execOp;simp [ho,h _ _ hx,h _ _ hy,eqGuard_at_int,binOp_mul,Op.intArith]
theorem uX (ho:o.op=.binOp .quo t x y t') (hx:ev e x=some (AC a)) (hy:ev e y=some (AC b)) (hb:¬b=0):Y P e o w (AC ((IntKind.i64).wrap (a.tdiv b))):=λρ h=>by
 unfold execOp;simp [ho,h _ _ hx,h _ _ hy,eqGuard_at_int,binOp_quo,Op.intDiv,hb]
theorem uW (ho:o.op=.binOp .rem t x y t') (hx:ev e x=some (AC a)) (hy:ev e y=some (AC b)) (hb:¬b=0):Y P e o w (AC (a.tmod b)):=λρ h=>by
 unfold execOp;simp [ho,h _ _ hx,h _ _ hy,eqGuard_at_int,binOp_rem,Op.intDiv,hb]
theorem uZ {k:IntKind} (ho:o.op=.unOp .neg t x) (hx:ev e x=some (.int k a)):Y P e o w (.int k (k.wrap (-a))):=λρ h=>by
 unfold execOp;simp [ho,h _ _ hx,Op.unary,Op.intArith]
end
theorem kC (n:Int):0≤(IntKind.u64).wrap n∧(IntKind.u64).wrap n<18446744073709551616:=by
 unfold IntKind.wrap
 constructor
 ·exact Int.emod_nonneg _ B3
 ·exact Int.emod_lt_of_pos _ B3
theorem OY {α:Type} {p:α→Prop} {a b:α} (ha:p a) (hb:p b):∀v∈[a,b],p v:=λv hv=>by
 rcases List.mem_cons.1 hv with rfl|hv
 ·exact ha
 ·obtain rfl:v=b:=by simpa using hv
  exact hb
end
open Tryz
theorem UJ (a b:List UInt8) (w:World):Calls prog 292 #[str a,str b] w λe w'=>e=.returned (.int .i64 (Lib.compareBytes a b))∧Fr0 w w':=
 (Tryz.strings_Compare ⟨a.toArray⟩ ⟨b.toArray⟩ w).mono λ_ _ ⟨h1,h2⟩=>⟨h1,h2▸Fr.refl⟩
theorem GO : (prog.info? 100).map (λi=>(i.zero,i.size))=some (some (.agg #[.int .u8 0,AC 0,.bool false,str []]),4):=by kernel_rfl
theorem dV : (prog.info? 3).map (λi=>(i.zero,i.size))=some (some (AC 0),1):=by kernel_rfl
def IO (b:Bool):Int:=(if b=true then 1 else 0)
theorem UD (b:Bool) (w:World):Calls prog 291 #[.bool b] w (BI w (AC (IO b))):=by
 refine BH func291 ntmps291 X λM=>srg (AJ X (sx_seq (srg (AJ X (AF X (λh3=>?_) (λh3=>?_))))))
 ·exact AE X (gnr (qx_then_ret (gr1 X ⟨by rw [IO,if_pos h3]<;>rfl,M.fr⟩)))
 ·exact sx_skip (qx_seq (AE X (gnr (gr1 X ⟨by rw [IO,AM h3]<;>rfl,M.fr⟩))))
theorem ZV (b:Bool):0≤IO b∧IO b≤1:=by unfold IO;split<;>decide
theorem nG (x:Int) (w:World):Calls prog 295 #[.int .u8 x] w (BI w (.bool (!(decide (x=x))))):=by
 refine BH func295 ntmps295 X λM=>srg (AJ X (AE X (yb X (CT X X (yb X (gnr (gr1 X ?_)))))))
 exact ⟨X,M.fr⟩
def LV (x y:Int):Int:=(if (!(decide (x=x)))=true then (if (!(decide (y=y)))=true then 0 else (-1)) else (if (!(decide (y=y)))=true then 1 else (if (decide (x<y))=true then (-1) else (if (decide (y<x))=true then 1 else 0))))
theorem ZN (x y:Int) (w:World):Calls prog 289 #[.int .u8 x,.int .u8 y] w (BI w (AC (LV x y))):=by
 refine BH func289 ntmps289 X λM=>srg (AJ X (AE X (CD M 8 X X call295 (nG x _) λw1 M=>AJ X (AE X ?_))))
 refine CD M 10 X X call295 (nG y _) λw2 M=>AJ X (sx_seq (srg (AJ X (AF X (λh11=>?_) (λh11=>?_)))))
 ·refine sx_seq (srg (AJ X (AF X (λh12=>?_) (λh12=>?_))))
  ·exact AE X (gnr (qx_then_ret (qx_then_ret (gr1 X ⟨by rw [LV,if_pos h11,if_pos h12]<;>rfl,M.fr⟩))))
  ·exact sx_skip (qx_seq (AE X (gnr (qx_then_ret (gr1 X ⟨by rw [LV,if_pos h11,AM h12]<;>rfl,M.fr⟩)))))
 ·refine sx_skip (qx_seq (sx_seq (srg (AJ X (AF X (λh13=>?_) (λh13=>?_))))))
  ·exact AE X (gnr (qx_then_ret (gr1 X ⟨by rw [LV,AM h11,if_pos h13]<;>rfl,M.fr⟩)))
  ·refine sx_skip (qx_seq (sx_seq (AE X (yb X (BB X X (nq (AF X (λh16=>?_) (λh16=>?_))))))))
   ·exact AE X (gnr (qx_then_ret (gr1 X ⟨by rw [LV,AM h11,AM h13,if_pos h16]<;>rfl,M.fr⟩)))
   ·refine sx_skip (qx_seq (sx_seq (AE X (yb X (IM X X (nq (AF X (λh19=>?_) (λh19=>?_))))))))
    ·exact AE X (gnr (qx_then_ret (gr1 X ⟨by rw [LV,AM h11,AM h13,AM h16,if_pos h19]<;>rfl,M.fr⟩)))
    ·exact sx_skip (qx_seq (AE X (gnr (gr1 X ⟨by rw [LV,AM h11,AM h13,AM h16,AM h19]<;>rfl,M.fr⟩))))
theorem nH (x:Int) (w:World):Calls prog 296 #[AC x] w (BI w (.bool (!(decide (x=x))))):=by
 refine BH func296 ntmps296 X λM=>srg (AJ X (AE X (yb X (CT X X (yb X (gnr (gr1 X ?_)))))))
 exact ⟨X,M.fr⟩
def LW (x y:Int):Int:=(if (!(decide (x=x)))=true then (if (!(decide (y=y)))=true then 0 else (-1)) else (if (!(decide (y=y)))=true then 1 else (if (decide (x<y))=true then (-1) else (if (decide (y<x))=true then 1 else 0))))
theorem ZO (x y:Int) (w:World):Calls prog 290 #[AC x,AC y] w (BI w (AC (LW x y))):=by
 refine BH func290 ntmps290 X λM=>srg (AJ X (AE X (CD M 8 X X call296 (nH x _) λw1 M=>AJ X (AE X ?_))))
 refine CD M 10 X X call296 (nH y _) λw2 M=>AJ X (sx_seq (srg (AJ X (AF X (λh11=>?_) (λh11=>?_)))))
 ·refine sx_seq (srg (AJ X (AF X (λh12=>?_) (λh12=>?_))))
  ·exact AE X (gnr (qx_then_ret (qx_then_ret (gr1 X ⟨by rw [LW,if_pos h11,if_pos h12]<;>rfl,M.fr⟩))))
  ·exact sx_skip (qx_seq (AE X (gnr (qx_then_ret (gr1 X ⟨by rw [LW,if_pos h11,AM h12]<;>rfl,M.fr⟩)))))
 ·refine sx_skip (qx_seq (sx_seq (srg (AJ X (AF X (λh13=>?_) (λh13=>?_))))))
  ·exact AE X (gnr (qx_then_ret (gr1 X ⟨by rw [LW,AM h11,if_pos h13]<;>rfl,M.fr⟩)))
  ·refine sx_skip (qx_seq (sx_seq (AE X (yb X (BB X X (nq (AF X (λh16=>?_) (λh16=>?_))))))))
   ·exact AE X (gnr (qx_then_ret (gr1 X ⟨by rw [LW,AM h11,AM h13,if_pos h16]<;>rfl,M.fr⟩)))
   ·refine sx_skip (qx_seq (sx_seq (AE X (yb X (IM X X (nq (AF X (λh19=>?_) (λh19=>?_))))))))
    ·exact AE X (gnr (qx_then_ret (gr1 X ⟨by rw [LW,AM h11,AM h13,AM h16,if_pos h19]<;>rfl,M.fr⟩)))
    ·exact sx_skip (qx_seq (AE X (gnr (gr1 X ⟨by rw [LW,AM h11,AM h13,AM h16,AM h19]<;>rfl,M.fr⟩))))
def orP : List Int→Int
 | []=>0
 | x::r=>if (!decide (x=(0:Int)))=true then x else orP r
theorem oZ (A:Option Addr) (c:Nat) (l:List Int) (w:World) (hl:l.length≤1048576) (hR:Rd w A (l.length*1) (AD OD l)):Calls prog 288 #[.slice A l.length c] w (BI w (AC (orP l))):=by
 refine BH func288 ntmps288 X λM=>srg (AJ X (srg (AJ X (sx_seq (AE X (DF X X ?_))))))
 refine AJ X (sx_block (JJ M [7,6,3] (λze zF e wr mz=>∃(i:Nat),e=(8,AC (i:Int))::ze∧zF wr∧(i≤l.length)∧(orP l=orP (l.drop i))∧mz=l.length-i) ⟨0,X,M,Nat.zero_le _,X,X⟩ ?_));rintro _ w1 _ ⟨i,rfl,M,hi,hE,rfl⟩;refine srg (BB X X (nq (sx_seq (AF X (λh9=>?_) (λh9=>?_)))))
 ·have h9p:=(odt h9);refine sx_skip (qx_seq (sx_seq (sx_block (srg ?_))));obtain ⟨x,hx⟩:=BM (l:=l) (i:=i) AA;obtain ⟨b_x,o_x,hA_x⟩:=B5 (k:=1) AA (hR.fr0 M.fr) hx;refine ya X (AN i hA_x X X X (sl X) AA) (yl X X (D9 Z0 (hR.fr0 M.fr) hA_x hx 0 X) (AJ X (AE X (yb X (CT X X (nq (AF X (λh14=>?_) (λh14=>?_))))))))
  ·exact AE X (yb X (gnr (qx_block_ret (qx_then_ret (qx_then_ret (qx_block_ret (qx_then_ret (gr1 X ⟨by rw [hE,AZ hx,orP,if_pos h14],M.fr⟩))))))))
  ·have h14p:=(odt (BL h14));refine sx_skip (qx_block_normal (qx_seq (sx_region (BV X X (yb X (sxl_nil (fag ⟨i+1,X,M,?_,?_,X⟩)))))))
   ·omega
   ·rw [hE,AZ hx,orP,AM h14]
 ·have h9p:=(odf h9);refine sx_exit (qx_then_exit (qx_then_exit (qx_block_hit (qx_seq (AE X (yb X (gnr (gr1 X ?_))))))));obtain rfl:i=l.length:=by omega
  exact ⟨by rw [hE,List.drop_length];rfl,M.fr⟩
def jY (a b:Vl):Int:=(orP [(LV (a.kind.toNat:Int) (b.kind.toNat:Int)),(LW a.int b.int),((IO a.bool)-(IO b.bool)),(Lib.compareBytes a.text b.text)])
theorem qN (a b:Vl) (w:World):Calls prog 283 #[.agg a.cells.toArray,.agg b.cells.toArray] w λe w'=>e=.returned (.int .i64 (jY a b))∧Fr0 w w':=by
 have hba:=ZV a.bool;have hbb:=ZV b.bool;refine BH func283 ntmps283 X λM=>srg (CC M X X λg2 w1 hg2 M=>CC M X X λg3 w2 hg3 M=>AJ X (sx_seq (GP M 25 CH λM=>oc 0 25 X X M (ol 1 25 X X X M (λ_ M=>(M.cell 1 X X)) (oc 2 25 X X M (ol 3 25 X X X M (λ_ M=>(M.cell 0 X X)) ?_))))))
 refine oc 5 25 X X M (ol 6 25 X X X M (λ_ M=>(M.cell 1 X X)) (oc 7 25 X X M (ol 8 25 X X X M (λ_ M=>(M.cell 0 X X)) (oc 10 25 X X M (ol 11 25 X X X M (λ_ M=>(M.cell 1 X X)) (oc 13 25 X X M (ol 14 25 X X X M (λ_ M=>(M.cell 0 X X)) (oc 17 25 X X M (ol 18 25 X X X M (λ_ M=>(M.cell 1 X X)) (oc 19 25 X X M (ol 20 25 X X X M (λ_ M=>(M.cell 0 X X)) (BQ 4 (some 9) gkr X (wn_none X) X X (AG X X call289) (ZN (a.kind.toNat:Int) (b.kind.toNat:Int) _) ?_))))))))))));rintro _ w3 ⟨rfl,hfw3⟩;refine ⟨_,X,λ_=>M.step hfw3,?_⟩;have M:=M.step hfw3;refine BQ 9 (some 14) gkr X (wn_none X) X X (AG X X call290) (ZO a.int b.int _) ?_;rintro _ w4 ⟨rfl,hfw4⟩;refine ⟨_,X,λ_=>M.step hfw4,?_⟩;have M:=M.step hfw4;refine BQ 12 (some 17) gkr X (wn_none X) X X (AG X X call291) (UD a.bool _) ?_;rintro _ w5 ⟨rfl,hfw5⟩;refine ⟨_,X,λ_=>M.step hfw5,?_⟩;have M:=M.step hfw5;refine BQ 15 (some 20) gkr X (wn_none X) X X (AG X X call291) (UD b.bool _) ?_;rintro _ w6 ⟨rfl,hfw6⟩;refine ⟨_,X,λ_=>M.step hfw6,?_⟩;have M:=M.step hfw6;refine oa 16 25 X X M (λ_ M=>cC X X X AA) (BQ 21 (some 26) gkr X (wn_none X) X X (AG X X call292) (UJ a.text b.text _) ?_);rintro _ w7 ⟨rfl,hfw7⟩;refine ⟨_,X,λ_=>M.step hfw7,?_⟩;have M:=M.step hfw7;refine B2 22 (some 27) gkr X (wn_none X) X X (λρ hρ=>D3 [.int .i64 (LV (a.kind.toNat:Int) (b.kind.toNat:Int)),.int .i64 (LW a.int b.int),.int .i64 ((IO a.bool)-(IO b.bool)),.int .i64 (Lib.compareBytes a.text b.text)] _ hρ X X X X underlying76 dV B3 B3 (by intro v hv;simp only [List.mem_cons,List.not_mem_nil,or_false] at hv;rcases hv with rfl|rfl|rfl|rfl<;>rfl)) ?_;rintro _ w8 ⟨g27,rfl,hg27,hq27,hb27,hfw8⟩
 replace hb27:Blk w8 g27 3 ([.int .i64 (LV (a.kind.toNat:Int) (b.kind.toNat:Int)),.int .i64 (LW a.int b.int),.int .i64 ((IO a.bool)-(IO b.bool)),.int .i64 (Lib.compareBytes a.text b.text)]):=hb27
 refine ⟨λ_=>M.step hfw8,?_⟩;have M:=M.push hfw8 _ hb27 (DO hg27 hq27)
 replace M:Mem w AR (As.blk g27 3 ([.int .i64 (LV (a.kind.toNat:Int) (b.kind.toNat:Int)),.int .i64 (LW a.int b.int),.int .i64 ((IO a.bool)-(IO b.bool)),.int .i64 (Lib.compareBytes a.text b.text)])::_) w8:=M
 refine BQ 23 (some 28) gkr X (wn_none X) X X (AG X X call288) (oZ (some ⟨g27,0,none⟩) 4 [(LV (a.kind.toNat:Int) (b.kind.toNat:Int)),(LW a.int b.int),((IO a.bool)-(IO b.bool)),(Lib.compareBytes a.text b.text)] _ (by simp) (M.rdBlk 0 X X)) ?_;rintro _ w9 ⟨rfl,hfw9⟩;refine ⟨_,X,λ_=>(M.drop 1).step hfw9,?_⟩;have M:=M.step hfw9;exact oc 24 25 X X (M.drop 1) (fdn (qx_seq (sx_ret (gr1 X ⟨by rw [jY]<;>rfl,M.fr⟩))))
def K1 (a b:Vl):Bool × Int:=(if ((((!decide ((a.kind.toNat:Int)=(b.kind.toNat:Int))) || (decide ((a.kind.toNat:Int)=(2:Int)))) || (!decide ((chk a)=(0:Int)))) || (!decide ((chk b)=(0:Int))))=true then (false,90) else ((decide ((jY a b)<(0:Int))),0))
theorem jX (a b:Vl) (w:World) (ha:a.text.length≤1048576) (hb:b.text.length≤1048576) (hY:Lay0 w):Calls prog 273 #[.agg a.cells.toArray,.agg b.cells.toArray] w (BI w (.tuple #[.bool (K1 a b).1,AC (K1 a b).2])):=by
 refine BH func273 ntmps273 X λM=>srg (CC M X X λg2 w1 hg2 M=>CC M X X λg3 w2 hg3 M=>yb X (AJ X (sx_seq (AE X (AU M 1 X X X ?_)))))
 refine yb X (AU M 0 X X X (CT X X (yb X (fvm M 4 [3,2] [(15,.bool ((!decide ((a.kind.toNat:Int)=(b.kind.toNat:Int))) || (decide ((a.kind.toNat:Int)=2))))] ?_ (λk11=>?_)))))
 ·intro w3 M;refine yb X (fvm M 4 [3,2] [(20,.bool (((!decide ((a.kind.toNat:Int)=(b.kind.toNat:Int))) || (decide ((a.kind.toNat:Int)=2))) || (!decide ((chk a)=(0:Int)))))] ?_ (λk16=>?_))
  ·intro w4 M;refine yb X (fvm M 4 [3,2] [(25,.bool ((((!decide ((a.kind.toNat:Int)=(b.kind.toNat:Int))) || (decide ((a.kind.toNat:Int)=2))) || (!decide ((chk a)=(0:Int)))) || (!decide ((chk b)=(0:Int)))))] ?_ (λk21=>?_))
   ·intro w5 M;refine nq (AF X (λh25=>?_) (λh25=>?_))
    ·have h25p:=((E1 h25).imp (λz=>((E1 z).imp (λz=>((E1 z).imp (λz=>(odf (C5 z))) (λz=>(odt z)))) (λz=>(odf (C5 z))))) (λz=>(odf (C5 z))));exact AE X (yb X (gnr (qx_then_ret (C4 X X X ⟨by rw [K1,if_pos h25]<;>rfl,M.fr⟩))))
    ·exact sx_skip (qx_seq (srg (CB M 1 X X underlying100 AB X (CB M 0 X X underlying100 AB X (CD M 28 X X call283 (qN a b _) λw6 M=>BB X X (AV X X (gnr (C4 X X X ⟨by rw [K1,AM h25]<;>rfl,M.fr⟩))))))))
   refine AI (d:=21) X (λh21=>?_) (λh21=>?_)
   ·exact yo X (yo X (yo X (yb X (k21 M ⟨X,X,(by rw [h21];rfl),trivial⟩))))
   ·refine yd X (AK (xs:=Vl.cells b) X X (M.rdBlk 0 X X) underlying100 X AB) (sxl_call (some 23) (wn_on X X X) X X (AG X X call59) (EJ b _ AA (hY.fr0 M.fr).utf) ?_);rintro _ w7 ⟨rfl,hfw7⟩;refine ⟨_,X,?_⟩;have M:=M.step hfw7;exact yd X (DX X X X) (yb X (k21 M ⟨X,X,(by rw [h21];rfl),trivial⟩))
  refine AI (d:=16) X (λh16=>?_) (λh16=>?_)
  ·exact yo X (yo X (yo X (yb X (k16 M ⟨X,X,(by rw [h16];rfl),trivial⟩))))
  ·refine yd X (AK (xs:=Vl.cells a) X X (M.rdBlk 1 X X) underlying100 X AB) (sxl_call (some 18) (wn_on X X X) X X (AG X X call59) (EJ a _ AA (hY.fr0 M.fr).utf) ?_);rintro _ w8 ⟨rfl,hfw8⟩;refine ⟨_,X,?_⟩;have M:=M.step hfw8;exact yd X (DX X X X) (yb X (k16 M ⟨X,X,(by rw [h16];rfl),trivial⟩))
 refine AI (d:=11) X (λh11=>?_) (λh11=>?_)
 ·exact yo X (yo X (yo X (yb X (k11 M ⟨X,X,(by rw [h11];rfl),trivial⟩))))
 ·exact gyq X (CE M 1 X X X (yd X (C9 X X X) (yb X (k11 M ⟨X,X,(by rw [h11];rfl),trivial⟩))))
def mC (v:Vl):Bool:=(!decide ((v.kind.toNat:Int)=(1:Int))) || (!decide (chk v=(0:Int)))
def IL (l:List Vl):Int:=if l.any mC=true then 90 else 0
theorem SZ (v:Vl) (r:List Vl):IL (v::r)=if mC v=true then 90 else IL r:=by unfold IL;rw [List.any_cons];cases mC v<;>rfl
theorem J6 (A:Option Addr) (c:Nat) (l:List Vl) (w:World) (hl:l.length≤1048576) (ht:∀v∈l,v.text.length≤1048576) (hR:Rd w A (l.length*4) (AD Vl.cells l)) (hY:Lay0 w):Calls prog 275 #[.slice A l.length c] w (BI w (AC (IL l))):=by
 refine BH func275 ntmps275 X λM=>srg (AJ X (sx_seq (AE X (DF X X (AJ X (sx_block (JJ M [6,5] (λze zF e wr mz=>∃(i:Nat),e=(7,AC (i:Int))::ze∧zF wr∧(i≤l.length)∧(IL l=IL (l.drop i))∧mz=l.length-i) ⟨0,X,M,Nat.zero_le _,X,X⟩ ?_)))))))
 rintro _ w1 _ ⟨i,rfl,M,hi,hE,rfl⟩;refine srg (BB X X (nq (sx_seq (AF X (λh8=>?_) (λh8=>?_)))))
 ·have h8p:=(odt h8);refine sx_skip (qx_seq (sx_seq (sx_block (srg ?_))));obtain ⟨x,hx⟩:=BM (l:=l) (i:=i) AA;obtain ⟨b_x,o_x,hA_x⟩:=B5 (k:=4) AA (hR.fr0 M.fr) hx;refine ya X (AN i hA_x X X X (sl X) AA) (ya X (AK X X (B6 Vl.len (hR.fr0 M.fr) hA_x hx) underlying100 X AB) (CI M X BE λg4 w2 hg4 M=>BD M 0 X X AB X λw3 M=>nq (AE X (AU M 0 X X X (CT X X (yb X (fvm M 4 [7,6,5] [(18,.bool ((!decide ((x.kind.toNat:Int)=1)) || (!decide ((chk x)=(0:Int)))))] ?_ (λk14=>?_))))))))
  ·intro w4 M;refine nq (AF X (λh18=>?_) (λh18=>?_))
   ·have h18p:=((E1 h18).imp (λz=>(odf (C5 z))) (λz=>(odf (C5 z))));exact AE X (gnr (qx_block_ret (qx_then_ret (qx_then_ret (qx_block_ret (qx_then_ret (gr1 X ⟨by rw [hE,AZ hx,SZ,if_pos (show mC x=true from h18)],M.fr⟩)))))))
   ·have h18p:=(And.intro (odt (BL (C6 h18).1)) (odt (BL (C6 h18).2)));refine sx_skip (qx_block_normal (qx_seq (sx_region (BV X X (yb X (sxl_nil (fag ⟨i+1,X,(M.pick [] B3),?_,?_,X⟩)))))))
    ·omega
    ·rw [hE,AZ hx,SZ,if_neg (wO (show mC x=false from h18))]
  refine AI (d:=14) X (λh14=>?_) (λh14=>?_)
  ·exact yo X (yo X (yo X (yb X (k14 M ⟨X,X,X,(by rw [h14];rfl),trivial⟩))))
  ·refine yd X (AK (xs:=Vl.cells x) X X (M.rdBlk 0 X X) underlying100 X AB) (sxl_call (some 16) (wn_on X X X) X X (AG X X call59) (EJ x _ (by have:=ht x (List.mem_of_getElem? hx);omega) (hY.fr0 M.fr).utf) ?_);rintro _ w5 ⟨rfl,hfw5⟩;refine ⟨_,X,?_⟩;have M:=M.step hfw5;exact yd X (DX X X X) (yb X (k14 M ⟨X,X,X,(by rw [h14];rfl),trivial⟩))
 ·have h8p:=(odf h8);refine sx_exit (qx_then_exit (qx_then_exit (qx_block_hit (qx_seq (AE X (gnr (gr1 X ?_)))))));obtain rfl:i=l.length:=by omega
  exact ⟨by rw [hE,List.drop_length];rfl,M.fr⟩
def LM (n:Int) (ok:Bool):Vl × Int:=(if (!ok)=true then ((⟨0,0,false,[]⟩:Vl),91) else ((⟨1,n,false,[]⟩:Vl),0))
theorem I1 (n:Int) (ok:Bool) (w:World):Calls prog 276 #[AC n,.bool ok] w (BI w (.tuple #[.agg (Vl.cells (LM n ok).1).toArray,AC (LM n ok).2])):=by
 refine BH func276 ntmps276 X λM=>srg (CI M X BE λg4 w1 hg4 M=>AJ X (sx_seq (AE X (AJ X (AF X (λh7=>?_) (λh7=>?_))))))
 ·exact srg (ya X (AY (parts:=[]) X X (BW)) (BD M 0 X X AB X λw2 M=>yb X (gnr (qx_then_ret (B1 X X (M.rdBlk 0 X X) underlying100 X AB X ⟨by rw [LM,if_pos h7]<;>rfl,M.fr⟩)))))
 ·exact sx_skip (qx_seq (AE X (CD M 10 X X call100 (Q7 n _) λw3 M=>BD M 0 X X AB X λw4 M=>yb X (gnr (B1 X X (M.rdBlk 0 X X) underlying100 X AB X ⟨by rw [LM,AM h7]<;>rfl,M.fr⟩)))))
def SF (a b:Vl):Vl × Int:=(if (!decide ((IL [a,b])=(0:Int)))=true then ((⟨0,0,false,[]⟩:Vl),(IL [a,b])) else (((LM ((IntKind.i64).wrap (a.int+b.int)) ((decide (((IntKind.i64).wrap (a.int+b.int))<a.int))==(decide (b.int<(0:Int))))).1),(LM ((IntKind.i64).wrap (a.int+b.int)) ((decide (((IntKind.i64).wrap (a.int+b.int))<a.int))==(decide (b.int<(0:Int))))).2))
theorem qO (a b:Vl) (w:World) (ha:a.text.length≤1048576) (hb:b.text.length≤1048576) (hY:Lay0 w):Calls prog 274 #[.agg a.cells.toArray,.agg b.cells.toArray] w (BI w (.tuple #[.agg (Vl.cells (SF a b).1).toArray,AC (SF a b).2])):=by
 refine BH func274 ntmps274 X λM=>srg (CC M X X λg2 w1 hg2 M=>CC M X X λg3 w2 hg3 M=>CI M X BE λg4 w3 hg4 M=>AJ X (sx_seq (srg (CB M 2 X X underlying100 AB X ?_))))
 refine CB M 1 X X underlying100 AB X (CN M (wn_none X) X X [.agg (Vl.cells a).toArray,.agg (Vl.cells b).toArray] ([.int .u8 (a.kind.toNat:Int),AC a.int,.bool a.bool,str a.text,.int .u8 (b.kind.toNat:Int),AC b.int,.bool b.bool,str b.text]) X X X X underlying349 GO X X (by intro v hv;simp only [List.mem_cons,List.not_mem_nil,or_false] at hv;rcases hv with rfl|rfl<;>rfl) X λg10 w4 hg10 M=>CD M 11 X X call275 (J6 (some ⟨g10,0,none⟩) 2 [a,b] _ (by simp) (OY C2 C2) (M.rdBlk 0 X X) (hY.fr0 M.fr)) λw5 M=>AJ X (AE X (CT X X (nq (AF X (λh13=>?_) (λh13=>?_))))))
 ·exact srg (ya X (AY (parts:=[]) X X (BW)) (yb X (BD M 1 X X AB X λw6 M=>yb X (gnr (qx_then_ret (B1 X X (M.rdBlk 1 X X) underlying100 X AB X ⟨by rw [SF,if_pos h13]<;>rfl,M.fr⟩))))))
 ·refine sx_skip (qx_seq (AE X (AU M 3 X X X (yb X (AU M 2 X X X (ya X (W3 X X X) (AJ X (AE X (yb X ?_)))))))));refine yb X (AU M 3 X X X (BB X X (yb X (AU M 2 X X X (BB X X (ya X (IV X X X underlying4) (CD M 30 X X call276 (I1 ((IntKind.i64).wrap (a.int+b.int)) ((decide (((IntKind.i64).wrap (a.int+b.int))<a.int))==(decide (b.int<(0:Int)))) _) λw7 M=>AV X X (BD M 1 X X AB X λw8 M=>yb X (gnr ?_)))))))));exact B1 X X (M.rdBlk 1 X X) underlying100 X AB X ⟨by rw [SF,AM h13]<;>rfl,M.fr⟩
def LT (a b:Vl):Vl × Int:=(if (!decide ((IL [a,b])=(0:Int)))=true then ((⟨0,0,false,[]⟩:Vl),(IL [a,b])) else (((LM ((IntKind.i64).wrap (a.int-b.int)) ((decide (a.int<((IntKind.i64).wrap (a.int-b.int))))==(decide (b.int<(0:Int))))).1),(LM ((IntKind.i64).wrap (a.int-b.int)) ((decide (a.int<((IntKind.i64).wrap (a.int-b.int))))==(decide (b.int<(0:Int))))).2))
theorem cN (a b:Vl) (w:World) (ha:a.text.length≤1048576) (hb:b.text.length≤1048576) (hY:Lay0 w):Calls prog 263 #[.agg a.cells.toArray,.agg b.cells.toArray] w (BI w (.tuple #[.agg (Vl.cells (LT a b).1).toArray,AC (LT a b).2])):=by
 refine BH func263 ntmps263 X λM=>srg (CC M X X λg2 w1 hg2 M=>CC M X X λg3 w2 hg3 M=>CI M X BE λg4 w3 hg4 M=>AJ X (sx_seq (srg (CB M 2 X X underlying100 AB X ?_))))
 refine CB M 1 X X underlying100 AB X (CN M (wn_none X) X X [.agg (Vl.cells a).toArray,.agg (Vl.cells b).toArray] ([.int .u8 (a.kind.toNat:Int),AC a.int,.bool a.bool,str a.text,.int .u8 (b.kind.toNat:Int),AC b.int,.bool b.bool,str b.text]) X X X X underlying349 GO X X (by intro v hv;simp only [List.mem_cons,List.not_mem_nil,or_false] at hv;rcases hv with rfl|rfl<;>rfl) X λg10 w4 hg10 M=>CD M 11 X X call275 (J6 (some ⟨g10,0,none⟩) 2 [a,b] _ (by simp) (OY C2 C2) (M.rdBlk 0 X X) (hY.fr0 M.fr)) λw5 M=>AJ X (AE X (CT X X (nq (AF X (λh13=>?_) (λh13=>?_))))))
 ·exact srg (ya X (AY (parts:=[]) X X (BW)) (yb X (BD M 1 X X AB X λw6 M=>yb X (gnr (qx_then_ret (B1 X X (M.rdBlk 1 X X) underlying100 X AB X ⟨by rw [LT,if_pos h13]<;>rfl,M.fr⟩))))))
 ·refine sx_skip (qx_seq (AE X (AU M 3 X X X (yb X (AU M 2 X X X (ya X (uU X X X) (AJ X (AE X (yb X ?_)))))))));refine yb X (AU M 3 X X X (IM X X (yb X (AU M 2 X X X (BB X X (ya X (IV X X X underlying4) (CD M 30 X X call276 (I1 ((IntKind.i64).wrap (a.int-b.int)) ((decide (a.int<((IntKind.i64).wrap (a.int-b.int))))==(decide (b.int<(0:Int)))) _) λw7 M=>AV X X (BD M 1 X X AB X λw8 M=>yb X (gnr ?_)))))))));exact B1 X X (M.rdBlk 1 X X) underlying100 X AB X ⟨by rw [LT,AM h13]<;>rfl,M.fr⟩
def EW (n:Int):Int:=(if (decide (n<(0:Int)))=true then ((IntKind.u64).wrap (-((IntKind.u64).wrap n))) else ((IntKind.u64).wrap n))
theorem XO (n:Int) (w:World):Calls prog 278 #[AC n] w (BI w (.int .u64 (EW n))):=by
 refine BH func278 ntmps278 X λM=>srg (AJ X (sx_seq (AE X (BB X X (nq (AF X (λh4=>?_) (λh4=>?_)))))))
 ·exact AE X (ya X (KC X X underlying2 underlying276 X) (ya X (uZ X X) (yb X (gnr (qx_then_ret (gr1 X ⟨by rw [EW,if_pos h4]<;>rfl,M.fr⟩))))))
 ·exact sx_skip (qx_seq (AE X (ya X (KC X X underlying2 underlying276 X) (yb X (gnr (gr1 X ⟨by rw [EW,AM h4]<;>rfl,M.fr⟩))))))
theorem Y4 (n:Int):0≤EW n∧EW n<18446744073709551616:=by
 unfold EW
 split
 ·exact kC _
 ·exact kC _
def hiP (x y:Int):Int:=((x.toNat*y.toNat / 18446744073709551616:Nat):Int)
def loP (x y:Int):Int:=((x.toNat*y.toNat%18446744073709551616:Nat):Int)
theorem mI (x y:Int) (w:World) (hx:0≤x∧x<18446744073709551616) (hy:0≤y∧y<18446744073709551616):Calls prog 277 #[.int .u64 x,.int .u64 y] w (BI w (.tuple #[.int .u64 (hiP x y),.int .u64 (loP x y)])):=by
 obtain ⟨a,rfl⟩:∃a:Nat,x=(a:Int):=⟨x.toNat,by omega⟩
 obtain ⟨b,rfl⟩:∃b:Nat,y=(b:Int):=⟨y.toNat,by omega⟩
 refine (Tryz.bits_Mul64 a b AA AA w).mono ?_;rintro e w' ⟨rfl,rfl⟩;exact ⟨X,Fr.refl⟩
def UV (a b:Vl):Vl × Int:=(if (!decide ((IL [a,b])=(0:Int)))=true then ((⟨0,0,false,[]⟩:Vl),(IL [a,b])) else (((LM ((IntKind.i64).wrap (a.int*b.int)) ((decide ((hiP (EW a.int) (EW b.int))=(0:Int)))&&(decide ((loP (EW a.int) (EW b.int))≤((if (!((decide (a.int<(0:Int)))==(decide (b.int<(0:Int))))) then 9223372036854775808 else 9223372036854775807:Nat):Int))))).1),(LM ((IntKind.i64).wrap (a.int*b.int)) ((decide ((hiP (EW a.int) (EW b.int))=(0:Int)))&&(decide ((loP (EW a.int) (EW b.int))≤((if (!((decide (a.int<(0:Int)))==(decide (b.int<(0:Int))))) then 9223372036854775808 else 9223372036854775807:Nat):Int))))).2))
theorem qJ (a b:Vl) (w:World) (ha:a.text.length≤1048576) (hb:b.text.length≤1048576) (hY:Lay0 w):Calls prog 264 #[.agg a.cells.toArray,.agg b.cells.toArray] w (BI w (.tuple #[.agg (Vl.cells (UV a b).1).toArray,AC (UV a b).2])):=by
 refine BH func264 ntmps264 X λM=>srg (CC M X X λg2 w1 hg2 M=>CC M X X λg3 w2 hg3 M=>CI M X BE λg4 w3 hg4 M=>AJ X (sx_seq (srg (CB M 2 X X underlying100 AB X ?_))))
 refine CB M 1 X X underlying100 AB X (CN M (wn_none X) X X [.agg (Vl.cells a).toArray,.agg (Vl.cells b).toArray] ([.int .u8 (a.kind.toNat:Int),AC a.int,.bool a.bool,str a.text,.int .u8 (b.kind.toNat:Int),AC b.int,.bool b.bool,str b.text]) X X X X underlying349 GO X X (by intro v hv;simp only [List.mem_cons,List.not_mem_nil,or_false] at hv;rcases hv with rfl|rfl<;>rfl) X λg12 w4 hg12 M=>CD M 13 X X call275 (J6 (some ⟨g12,0,none⟩) 2 [a,b] _ (by simp) (OY C2 C2) (M.rdBlk 0 X X) (hY.fr0 M.fr)) λw5 M=>AJ X (AE X (CT X X (nq (AF X (λh15=>?_) (λh15=>?_))))))
 ·exact srg (ya X (AY (parts:=[]) X X (BW)) (yb X (BD M 1 X X AB X λw6 M=>yb X (gnr (qx_then_ret (B1 X X (M.rdBlk 1 X X) underlying100 X AB X ⟨by rw [UV,if_pos h15]<;>rfl,M.fr⟩))))))
 ·refine sx_skip (qx_seq (sx_seq (GP M 12 CH λM=>oc 0 12 X X M (ol 1 12 X X X M (λ_ M=>(M.cell 3 X X)) (oc 3 12 X X M (ol 4 12 X X X M (λ_ M=>(M.cell 2 X X)) (BQ 2 (some 21) gkr X (wn_none X) X X (AG X X call278) (XO a.int _) ?_)))))));rintro _ w7 ⟨rfl,hfw7⟩;refine ⟨_,X,λ_=>M.step hfw7,?_⟩;have M:=M.step hfw7;refine BQ 5 (some 24) gkr X (wn_none X) X X (AG X X call278) (XO b.int _) ?_;rintro _ w8 ⟨rfl,hfw8⟩;refine ⟨_,X,λ_=>M.step hfw8,?_⟩;have M:=M.step hfw8;refine BQ 6 (some 25) gkr X (wn_none X) X X (AG X X call277) (mI (EW a.int) (EW b.int) _ (Y4 _) (Y4 _)) ?_;rintro _ w9 ⟨rfl,hfw9⟩;refine ⟨_,X,λ_=>M.step hfw9,?_⟩;have M:=M.step hfw9;refine oc 7 12 X X M (oc 8 12 X X M (oc 9 12 X X M (oc 10 12 X X M (oc 11 12 X X M (fdn (qx_seq (srg (AJ X (sx_seq (AE X ?_))))))))));refine AU M 3 X X X (BB X X (yb X (AU M 2 X X X (BB X X (ya X (f6 X X X underlying4) (nq (IR [(2,pg g2),(3,pg g3),(4,pg g4),(7,.int .u64 (hiP (EW a.int) (EW b.int))),(8,.int .u64 (loP (EW a.int) (EW b.int))),(9,.int .u64 ((if (!((decide (a.int<(0:Int)))==(decide (b.int<(0:Int))))) then 9223372036854775808 else 9223372036854775807:Nat):Int))] (λw'=>Mem w AR [As.blk g12 100 [.int .u8 (a.kind.toNat:Int),AC a.int,.bool a.bool,str a.text,.int .u8 (b.kind.toNat:Int),AC b.int,.bool b.bool,str b.text],As.blk g4 100 [.int .u8 0,AC 0,.bool false,str []],As.blk g3 100 (Vl.cells b),As.blk g2 100 (Vl.cells a)] w') ?_ (λk34=>?_))))))))
  ·intro w10 M;refine qx_seq (AE X (AU M 3 X X X (yb X (AU M 2 X X X (ya X (v8 X X X) (yb X (BZ X X (yb X (fvm M 4 [39,4] [(46,.bool ((decide ((hiP (EW a.int) (EW b.int))=(0:Int)))&&(decide ((loP (EW a.int) (EW b.int))≤((if (!((decide (a.int<(0:Int)))==(decide (b.int<(0:Int))))) then 9223372036854775808 else 9223372036854775807:Nat):Int)))))] ?_ (λk42=>?_))))))))))
   ·intro w11 M;exact CD M 47 X X call276 (I1 ((IntKind.i64).wrap (a.int*b.int)) ((decide ((hiP (EW a.int) (EW b.int))=(0:Int)))&&(decide ((loP (EW a.int) (EW b.int))≤((if (!((decide (a.int<(0:Int)))==(decide (b.int<(0:Int))))) then 9223372036854775808 else 9223372036854775807:Nat):Int)))) _) λw12 M=>AV X X (BD M 1 X X AB X λw13 M=>yb X (gnr (B1 X X (M.rdBlk 1 X X) underlying100 X AB X ⟨by rw [UV,AM h15]<;>rfl,M.fr⟩)))
   refine AI (d:=42) X (λh42=>?_) (λh42=>?_)
   ·exact gyq X (gyq X (yd X (GH X X X) (yb X (k42 M ⟨X,X,(by rw [h42];rfl),trivial⟩))))
   ·exact yo X (yo X (yo X (yb X (k42 M ⟨X,X,(by rw [h42];rfl),trivial⟩))))
  refine AF X (λh34=>?_) (λh34=>?_)
  ·exact sx_region (yb X (sxl_nil (k34 _ _ M ⟨X,X,X,X,X,(by rw [h34];rfl),trivial⟩)))
  ·exact sx_skip (k34 _ _ M ⟨X,X,X,X,X,(by rw [h34];rfl),trivial⟩)
def SC (a b:Vl):Vl × Int:=(if (!decide ((IL [a,b])=(0:Int)))=true then ((⟨0,0,false,[]⟩:Vl),(IL [a,b])) else (if ((decide (b.int=(0:Int))) || ((decide (a.int=(-9223372036854775808:Int)))&&(decide (b.int=(-1:Int)))))=true then (((LM 0 false).1),(LM 0 false).2) else (((LM ((IntKind.i64).wrap (a.int.tdiv b.int)) true).1),(LM ((IntKind.i64).wrap (a.int.tdiv b.int)) true).2)))
theorem qM (a b:Vl) (w:World) (ha:a.text.length≤1048576) (hb:b.text.length≤1048576) (hY:Lay0 w):Calls prog 265 #[.agg a.cells.toArray,.agg b.cells.toArray] w (BI w (.tuple #[.agg (Vl.cells (SC a b).1).toArray,AC (SC a b).2])):=by
 refine BH func265 ntmps265 X λM=>srg (CC M X X λg2 w1 hg2 M=>CC M X X λg3 w2 hg3 M=>CI M X BE λg4 w3 hg4 M=>AJ X (sx_seq (srg (CB M 2 X X underlying100 AB X ?_))))
 refine CB M 1 X X underlying100 AB X (CN M (wn_none X) X X [.agg (Vl.cells a).toArray,.agg (Vl.cells b).toArray] ([.int .u8 (a.kind.toNat:Int),AC a.int,.bool a.bool,str a.text,.int .u8 (b.kind.toNat:Int),AC b.int,.bool b.bool,str b.text]) X X X X underlying349 GO X X (by intro v hv;simp only [List.mem_cons,List.not_mem_nil,or_false] at hv;rcases hv with rfl|rfl<;>rfl) X λg9 w4 hg9 M=>CD M 10 X X call275 (J6 (some ⟨g9,0,none⟩) 2 [a,b] _ (by simp) (OY C2 C2) (M.rdBlk 0 X X) (hY.fr0 M.fr)) λw5 M=>AJ X (AE X (CT X X (nq (AF X (λh12=>?_) (λh12=>?_))))))
 ·exact srg (ya X (AY (parts:=[]) X X (BW)) (yb X (BD M 1 X X AB X λw6 M=>yb X (gnr (qx_then_ret (B1 X X (M.rdBlk 1 X X) underlying100 X AB X ⟨by rw [SC,if_pos h12]<;>rfl,M.fr⟩))))))
 ·refine sx_skip (qx_seq (sx_seq (AE X (AU M 2 X X X (BZ X X (yb X (fvm M 9 [4,3,2] [(27,.bool ((decide (b.int=(0:Int))) || ((decide (a.int=(-9223372036854775808:Int)))&&(decide (b.int=(-1:Int))))))] ?_ (λk18=>?_))))))))
  ·intro w7 M;refine nq (AF X (λh27=>?_) (λh27=>?_))
   ·have h27p:=((E1 h27).imp (λz=>(odt z)) (λz=>(And.intro (odt (BR z).1) (odt (BR z).2))));exact srg (CD M 28 X X call276 (I1 0 false _) λw8 M=>AV X X (BD M 1 X X AB X λw9 M=>yb X (gnr (qx_then_ret (B1 X X (M.rdBlk 1 X X) underlying100 X AB X ⟨by rw [SC,AM h12,if_pos h27]<;>rfl,M.fr⟩)))))
   ·have h27p:=(And.intro (odf (C6 h27).1) ((CV (C6 h27).2).imp (λz=>(odf z)) (λz=>(odf z))));refine sx_skip (qx_seq (AE X (AU M 3 X X X (yb X (AU M 2 X X X (ya X (uX X X X (λhz=>by simp [hz] at h27)) (CD M 36 X X call276 (I1 ((IntKind.i64).wrap (a.int.tdiv b.int)) true _) λw10 M=>AV X X (BD M 1 X X AB X λw11 M=>yb X (sxl_nil ?_)))))))));exact qx_seq (sx_ret (B1 X X (M.rdBlk 1 X X) underlying100 X AB X ⟨by rw [SC,AM h12,AM h27]<;>rfl,M.fr⟩))
  refine AI (d:=18) X (λh18=>?_) (λh18=>?_)
  ·iterate 4 refine yo X ?_
   exact BY X X X X X (BY X X X X X (BY X X X X X (yo X (yb X (k18 M ⟨X,X,X,(by rw [h18];rfl),trivial⟩)))))
  ·refine gyq X (CE M 3 X X X (yd X (C9 X X X) (gyq X (fvm M 4 [18,4,3,2] [(26,.bool ((decide (a.int=(-9223372036854775808:Int)))&&(decide (b.int=(-1:Int)))))] ?_ (λk22=>?_)))))
   ·intro w12 M;exact yb X (k18 M ⟨X,X,X,(by rw [h18];rfl),trivial⟩)
   refine AI (d:=22) X (λh22=>?_) (λh22=>?_)
   ·exact gyq X (CE M 2 X X X (yd X (C9 X X X) (gyq X (k22 M ⟨X,X,X,X,(by rw [h22];rfl),trivial⟩))))
   ·exact yo X (yo X (yo X (gyq X (k22 M ⟨X,X,X,X,(by rw [h22];rfl),trivial⟩))))
def SA (a b:Vl):Vl × Int:=(if (!decide ((IL [a,b])=(0:Int)))=true then ((⟨0,0,false,[]⟩:Vl),(IL [a,b])) else (if ((decide (b.int=(0:Int))) || (decide (b.int=(-1:Int))))=true then (((LM 0 (!decide (b.int=(0:Int)))).1),(LM 0 (!decide (b.int=(0:Int)))).2) else (((LM (a.int.tmod b.int) true).1),(LM (a.int.tmod b.int) true).2)))
theorem qK (a b:Vl) (w:World) (ha:a.text.length≤1048576) (hb:b.text.length≤1048576) (hY:Lay0 w):Calls prog 266 #[.agg a.cells.toArray,.agg b.cells.toArray] w (BI w (.tuple #[.agg (Vl.cells (SA a b).1).toArray,AC (SA a b).2])):=by
 refine BH func266 ntmps266 X λM=>srg (CC M X X λg2 w1 hg2 M=>CC M X X λg3 w2 hg3 M=>CI M X BE λg4 w3 hg4 M=>AJ X (sx_seq (srg (CB M 2 X X underlying100 AB X ?_))))
 refine CB M 1 X X underlying100 AB X (CN M (wn_none X) X X [.agg (Vl.cells a).toArray,.agg (Vl.cells b).toArray] ([.int .u8 (a.kind.toNat:Int),AC a.int,.bool a.bool,str a.text,.int .u8 (b.kind.toNat:Int),AC b.int,.bool b.bool,str b.text]) X X X X underlying349 GO X X (by intro v hv;simp only [List.mem_cons,List.not_mem_nil,or_false] at hv;rcases hv with rfl|rfl<;>rfl) X λg9 w4 hg9 M=>CD M 10 X X call275 (J6 (some ⟨g9,0,none⟩) 2 [a,b] _ (by simp) (OY C2 C2) (M.rdBlk 0 X X) (hY.fr0 M.fr)) λw5 M=>AJ X (AE X (CT X X (nq (AF X (λh12=>?_) (λh12=>?_))))))
 ·exact srg (ya X (AY (parts:=[]) X X (BW)) (yb X (BD M 1 X X AB X λw6 M=>yb X (gnr (qx_then_ret (B1 X X (M.rdBlk 1 X X) underlying100 X AB X ⟨by rw [SA,if_pos h12]<;>rfl,M.fr⟩))))))
 ·refine sx_skip (qx_seq (sx_seq (AE X (AU M 2 X X X (BZ X X (yb X (fvm M 4 [4,3,2] [(22,.bool ((decide (b.int=(0:Int))) || (decide (b.int=(-1:Int)))))] ?_ (λk18=>?_))))))))
  ·intro w7 M;refine nq (AF X (λh22=>?_) (λh22=>?_))
   ·have h22p:=((E1 h22).imp (λz=>(odt z)) (λz=>(odt z)));refine AE X (AU M 2 X X X (CT X X (CD M 26 X X call276 (I1 0 (!decide (b.int=(0:Int))) _) λw8 M=>AV X X (BD M 1 X X AB X λw9 M=>yb X (gnr (qx_then_ret (B1 X X (M.rdBlk 1 X X) underlying100 X AB X ?_)))))));exact ⟨by rw [SA,AM h12,if_pos h22]<;>rfl,M.fr⟩
   ·refine sx_skip (qx_seq (AE X (AU M 3 X X X (yb X (AU M 2 X X X (ya X (uW X X X (λhz=>by simp [hz] at h22)) (CD M 34 X X call276 (I1 (a.int.tmod b.int) true _) λw10 M=>AV X X (BD M 1 X X AB X λw11 M=>yb X (sxl_nil ?_)))))))));exact qx_seq (sx_ret (B1 X X (M.rdBlk 1 X X) underlying100 X AB X ⟨by rw [SA,AM h12,AM h22]<;>rfl,M.fr⟩))
  refine AI (d:=18) X (λh18=>?_) (λh18=>?_)
  ·exact yo X (yo X (yo X (yb X (k18 M ⟨X,X,X,(by rw [h18];rfl),trivial⟩))))
  ·exact gyq X (CE M 2 X X X (yd X (C9 X X X) (yb X (k18 M ⟨X,X,X,(by rw [h18];rfl),trivial⟩))))
theorem qI (a:Vl) (w:World) (ha:a.text.length≤1048576) (hY:Lay0 w):Calls prog 267 #[.agg a.cells.toArray] w (BI w (.tuple #[.agg (Vl.cells (LT ⟨1,0,false,[]⟩ a).1).toArray,AC (LT ⟨1,0,false,[]⟩ a).2])):=by
 refine BH func267 ntmps267 X λM=>srg (CC M X X λg1 w1 hg1 M=>CI M X BE λg2 w2 hg2 M=>AJ X (sx_seq (GP M 5 CH λM=>oa 1 5 X X M (λ_ M=>AK (xs:=Vl.cells a) X X (M.rdBlk 1 X X) underlying100 X AB) (BQ 0 (some 4) gkr X (wn_none X) X X (AG X X call100) (Q7 0 _) ?_))))
 rintro _ w3 ⟨rfl,hfw3⟩;refine ⟨_,X,λ_=>M.step hfw3,?_⟩;have M:=M.step hfw3;refine BQ 2 (some 6) gkr X (wn_none X) X X (AG X X call263) (cN (⟨1,0,false,[]⟩:Vl) a _ C2 C2 (hY.fr0 M.fr)) ?_;rintro _ w4 ⟨rfl,hfw4⟩;refine ⟨_,X,λ_=>M.step hfw4,?_⟩;have M:=M.step hfw4;refine oc 3 5 X X M (oc 4 5 X X M (B2 5 none gkr X (wn_none X) X X (λρ hρ=>BO 100 _ _ X g2 0 100 _ (Vl.cells ((LT (⟨1,0,false,[]⟩:Vl) a).1)) (hρ _ _ X) (hρ _ _ X) (M.blk 0 X) AB (HX X) (CL X)) ?_));rintro _ w5 ⟨rfl,hbw5,hfw5⟩
 replace M:Mem w AR (List.set _ 0 (As.blk g2 100 (Vl.cells ((LT (⟨1,0,false,[]⟩:Vl) a).1)))) w5:=M.putB 0 rfl hbw5 hfw5
 exact ⟨λh=>absurd h B3,fo1 6 X X (yp X) (fdn (qx_seq (sx_ret (B1 X X (M.rdBlk 0 X X) underlying100 X AB X ⟨X,M.fr⟩))))⟩
section
theorem MpU.keep {w w':World} {g:Nat} {L:List (UInt8 × Value)} (h:MpU w g L) (hk:g<w.heap.size→w'.heap[g]?=w.heap[g]?):MpU w' g L:=by
 obtain ⟨es,cl,h1,h2⟩:=h;exact ⟨es,cl,(hk (Array.getElem?_eq_some_iff.1 h1).1).trans h1,h2⟩
def As.mpU (g:Nat) (L:List (UInt8 × Value)):As:=⟨[g],λw=>MpU w g L,λh hb=>hb.keep (h g (by simp))⟩
section
variable {P:Program} {Q:Exit→Act→World→Prop} {n:Nat} {e:Env} {w w0:World} {S:Nat→Prop} {L:List As} {ops:Array Oper} {o:Oper} {rest:List Oper}
theorem XZ (M:Mem w0 S L w) {d t:Nat} (hw:Wn ops e o) (hd:o.dst=some d) (hn:Nat.blt d n=true) (ho:o.op=.makeMap t none)
 (k:∀g w',w.heap.size≤g→Mem w0 S (As.mpU g []::L) w'→SxL P ops Q n rest ((d,.map (some g))::e) w'):SxL P ops Q n (o::rest) e w:=by
 refine sxl_does (some d) hw hd hn (λρ hρ=>bO ho) ?_;rintro _ w1 ⟨g,rfl,h1,h2,hb,hf⟩;exact k g w1 h1 (M.push hf _ hb (λg' hg'=>by simp only [As.mpU,List.mem_singleton] at hg';subst hg';exact ⟨h1,h2⟩))
theorem DP (M:Mem w0 S L w) (i:Nat) (hw:Wn ops e o) (hd:o.dst=none) {t kt el g:Nat} {mp ix x:Operand} {k:UInt8} {v:Value} {K:List (UInt8 × Value)} (ho:o.op=.insert t mp ix x) (hm:ev e mp=some (.map (some g))) (hx:ev e ix=some (ku k)) (hv:ev e x=some v) (hu:P.underlying t=some (.map kt el)) (hk:P.underlying kt=some (.int .u8))
 (hi:L[i]?=some (As.mpU g K)) (c:∀w',Mem w0 S (L.set i (As.mpU g (MO K k v))) w'→SxL P ops Q n rest e w'):SxL P ops Q n (o::rest) e w:=by
 refine sxl_does none hw hd X (λρ hρ=>X6 ho (hρ _ _ hm) (hρ _ _ hx) (hρ _ _ hv) hu hk (M.ok i _ hi:MpU w g K)) ?_;rintro _ w1 ⟨rfl,hf,hb⟩;exact c w1 (M.upd i hi (hf.mono λk _ e=>by simp only [As.mpU,List.mem_singleton];exact e) (As.mpU g _) hb (λg' hg'=>.inl hg'))
end
theorem aA {P:Program} {e:Env} {w:World} {o:Oper} {t kt el:TypeId} {x i:Operand} {g:Nat} {k:UInt8} {L:List (UInt8 × Value)} {z:Value} (ho:o.op=.lookup t x i false) (hx:ev e x=some (.map (some g))) (hi:ev e i=some (ku k)) (hu:P.underlying t=some (.map kt el)) (hd:P.underlying kt=some (.int .u8))
 (hz:(P.info? el).map (·.zero)=some (some z)) (hM:MpU w g L):Y P e o w ((HA L k).getD z):=US ho hx hi hu hd hz hM
theorem KZ {P:Program} {e:Env} {w:World} {o:Oper} {t kt el:TypeId} {x i:Operand} {g:Nat} {k:UInt8} {L:List (UInt8 × Value)} {z:Value} (ho:o.op=.lookup t x i true) (hx:ev e x=some (.map (some g))) (hi:ev e i=some (ku k)) (hu:P.underlying t=some (.map kt el)) (hd:P.underlying kt=some (.int .u8))
 (hz:(P.info? el).map (·.zero)=some (some z)) (hM:MpU w g L):Y P e o w (.tuple #[(HA L k).getD z,.bool (HA L k).isSome]):=US ho hx hi hu hd hz hM
end
theorem MpU.fr0 {w w':World} {g:Nat} {L:List (UInt8 × Value)} (h:MpU w g L) (hf:Fr0 w w'):MpU w' g L:=h.fr hf (λhh=>hh)
theorem o7 {α:Type} {p:Nat→α→Bool}:∀{l:List α} {i:Nat} {b:α},ffN p i l=some b→b∈l
 | [],_,_,h=>by cases h
 | x::r,i,b,h=>by
  unfold ffN at h
  split at h
  ·exact List.mem_cons_of_mem _ (o7 h)
  ·injection h with h
   subst h;exact List.mem_cons_self
theorem iP {vars:List Bd} (hok:BdOk vars) (k:List UInt8):(((MU vars k).getD zeroVl).text.length:Int)<4611686018427387904:=by
 unfold MU
 cases hq:ffN (λ(_:Nat) (b:Bd) => !(decide (b.name=k))) 0 vars with
 | none=>decide
 | some b=>exact hok.text b (o7 hq)
theorem JM : (prog.info? 330).map (·.zero)=some (some (.nilFunc)):=by kernel_rfl
theorem jW (a b:Vl) (w:World):Calls prog 272 #[.agg a.cells.toArray,.agg b.cells.toArray] w (BI w (.bool (a.same b))):=by
 refine BH func272 ntmps272 X λM=>srg (CC M X X λg2 w1 hg2 M=>CC M X X λg3 w2 hg3 M=>AJ X (srg (CB M 1 X X underlying100 AB X (CB M 0 X X underlying100 AB X (ya X (W2 (a:=a) (b:=b) X X X) (yb X ?_))))))
 exact gnr (gr1 X ⟨X,M.fr⟩)
def WA (b:Bool) (er:Int):Vl × Int:=(if (!decide (er=(0:Int)))=true then ((⟨0,0,false,[]⟩:Vl),er) else ((⟨2,0,b,[]⟩:Vl),0))
theorem UX (b:Bool) (er:Int) (w:World):Calls prog 271 #[.bool b,AC er] w (BI w (.tuple #[.agg (Vl.cells (WA b er).1).toArray,AC (WA b er).2])):=by
 refine BH func271 ntmps271 X λM=>srg (CI M X BE λg4 w1 hg4 M=>AJ X (sx_seq (AE X (CT X X (nq (AF X (λh7=>?_) (λh7=>?_)))))))
 ·exact srg (ya X (AY (parts:=[]) X X (BW)) (yb X (BD M 0 X X AB X λw2 M=>yb X (gnr (qx_then_ret (B1 X X (M.rdBlk 0 X X) underlying100 X AB X ⟨by rw [WA,if_pos h7]<;>rfl,M.fr⟩))))))
 ·exact sx_skip (qx_seq (AE X (CD M 11 X X call101 (OZ b _) λw3 M=>BD M 0 X X AB X λw4 M=>yb X (gnr (B1 X X (M.rdBlk 0 X X) underlying100 X AB X ⟨by rw [WA,AM h7]<;>rfl,M.fr⟩)))))
def TQ (a b:Vl) (want:Bool):Vl × Int:=(if (!decide ((a.kind.toNat:Int)=(b.kind.toNat:Int)))=true then ((⟨0,0,false,[]⟩:Vl),90) else (((WA ((Vl.same a b)==want) 0).1),(WA ((Vl.same a b)==want) 0).2))
theorem oE (a b:Vl) (want:Bool) (w:World):Calls prog 255 #[.agg a.cells.toArray,.agg b.cells.toArray,.bool want] w (BI w (.tuple #[.agg (Vl.cells (TQ a b want).1).toArray,AC (TQ a b want).2])):=by
 refine BH func255 ntmps255 X λM=>srg (CC M X X λg3 w1 hg3 M=>CC M X X λg4 w2 hg4 M=>CI M X BE λg6 w3 hg6 M=>AJ X (sx_seq (AE X ?_)))
 refine AU M 2 X X X (yb X (AU M 1 X X X (CT X X (nq (AF X (λh12=>?_) (λh12=>?_))))))
 ·exact srg (ya X (AY (parts:=[]) X X (BW)) (BD M 0 X X AB X λw4 M=>yb X (gnr (qx_then_ret (B1 X X (M.rdBlk 0 X X) underlying100 X AB X ⟨by rw [TQ,if_pos h12]<;>rfl,M.fr⟩)))))
 ·refine sx_skip (qx_seq (srg (CB M 2 X X underlying100 AB X (CB M 1 X X underlying100 AB X (CD M 16 X X call272 (jW a b _) λw5 M=>yb X (ya X (IV X X X underlying4) (CD M 19 X X call271 (UX ((Vl.same a b)==want) 0 _) λw6 M=>AV X X (BD M 0 X X AB X λw7 M=>yb X (sxl_nil ?_)))))))));exact qx_seq (sx_ret (B1 X X (M.rdBlk 0 X X) underlying100 X AB X ⟨by rw [TQ,AM h12]<;>rfl,M.fr⟩))
def NP (a b:Vl) (want:Bool):Vl × Int:=(((WA ((K1 a b).1==want) ((K1 a b).2)).1),(WA ((K1 a b).1==want) ((K1 a b).2)).2)
theorem WP (a b:Vl) (want:Bool) (w:World) (ha:a.text.length≤1048576) (hb:b.text.length≤1048576) (hY:Lay0 w):Calls prog 258 #[.agg a.cells.toArray,.agg b.cells.toArray,.bool want] w (BI w (.tuple #[.agg (Vl.cells (NP a b want).1).toArray,AC (NP a b want).2])):=by
 refine BH func258 ntmps258 X λM=>srg (CC M X X λg3 w1 hg3 M=>CC M X X λg4 w2 hg4 M=>CI M X BE λg6 w3 hg6 M=>AJ X (srg (CB M 2 X X underlying100 AB X (CB M 1 X X underlying100 AB X ?_))))
 refine CD M 13 X X call273 (jX a b _ C2 C2 (hY.fr0 M.fr)) λw4 M=>?_
 iterate 5 refine yb X ?_
 refine nq (AE X (yb X (ya X (IV X X X underlying4) (yb X (CD M 20 X X call271 (UX ((K1 a b).1==want) ((K1 a b).2) _) λw5 M=>AV X X (BD M 0 X X AB X λw6 M=>AJ X ?_))))));exact sx_ret (B1 X X (M.rdBlk 0 X X) underlying100 X AB X ⟨by rw [NP]<;>rfl,M.fr⟩)
def bY (a b:Vl):Vl × Int:=(if ((!decide ((a.kind.toNat:Int)=(3:Int))) || (!decide ((b.kind.toNat:Int)=(3:Int))))=true then (((SF a b).1),(SF a b).2) else (if (!decide ((chk (⟨3,0,false,(a.text++b.text)⟩:Vl))=(0:Int)))=true then ((⟨0,0,false,[]⟩:Vl),91) else ((⟨3,0,false,(a.text++b.text)⟩:Vl),0)))
theorem yA (a b:Vl) (w:World) (ha:a.text.length≤1048576) (hb:b.text.length≤1048576) (hY:Lay0 w):Calls prog 262 #[.agg a.cells.toArray,.agg b.cells.toArray] w (BI w (.tuple #[.agg (Vl.cells (bY a b).1).toArray,AC (bY a b).2])):=by
 refine BH func262 ntmps262 X λM=>srg (CC M X X λg2 w1 hg2 M=>CC M X X λg3 w2 hg3 M=>CI M X BE λg4 w3 hg4 M=>AJ X (sx_seq (AE X ?_)))
 refine AU M 2 X X X (CT X X (yb X (fvm M 4 [4,3,2] [(14,.bool ((!decide ((a.kind.toNat:Int)=3)) || (!decide ((b.kind.toNat:Int)=3))))] ?_ (λk10=>?_))))
 ·intro w4 M;refine nq (AF X (λh14=>?_) (λh14=>?_))
  ·have h14p:=((E1 h14).imp (λz=>(odf (C5 z))) (λz=>(odf (C5 z))));exact srg (CB M 2 X X underlying100 AB X (CB M 1 X X underlying100 AB X (CD M 17 X X call274 (qO a b _ C2 C2 (hY.fr0 M.fr)) λw5 M=>AV X X (BD M 0 X X AB X λw6 M=>yb X (gnr (qx_then_ret (B1 X X (M.rdBlk 0 X X) underlying100 X AB X ⟨by rw [bY,if_pos h14]<;>rfl,M.fr⟩)))))))
  ·have h14p:=(And.intro (odt (BL (C6 h14).1)) (odt (BL (C6 h14).2)));refine sx_skip (qx_seq (AE X (AU M 2 X X X (yb X (AU M 1 X X X (ya X (FV X X X C2) (CD M 25 X X call37 (MC (a.text++b.text) _) λw7 M=>CI M X BE λg6 w8 hg6 M=>BD M 0 X X AB X λw9 M=>nq ?_)))))));refine sx_seq (srg (CB M 0 X X underlying100 AB X (CD M 27 X X call59 (EJ (⟨3,0,false,(a.text++b.text)⟩:Vl) _ (by simp;omega) (hY.fr0 M.fr).utf) λw10 M=>CT X X (nq (AF X (λh28=>?_) (λh28=>?_))))))
   ·exact srg (ya X (AY (parts:=[]) X X (BW)) (BD M 1 X X AB X λw11 M=>yb X (gnr (qx_then_ret (B1 X X (M.rdBlk 1 X X) underlying100 X AB X ⟨by rw [bY,AM h14,if_pos h28]<;>rfl,M.fr⟩)))))
   ·exact sx_skip (qx_seq (srg (CB M 0 X X underlying100 AB X (BD M 1 X X AB X λw12 M=>yb X (gnr (B1 X X (M.rdBlk 1 X X) underlying100 X AB X ⟨by rw [bY,AM h14,AM h28]<;>rfl,M.fr⟩))))))
 refine AI (d:=10) X (λh10=>?_) (λh10=>?_)
 ·exact yo X (yo X (yo X (yb X (k10 M ⟨X,X,X,(by rw [h10];rfl),trivial⟩))))
 ·exact gyq X (CE M 1 X X X (yd X (DX X X X) (yb X (k10 M ⟨X,X,X,(by rw [h10];rfl),trivial⟩))))
theorem pP (a b:Vl) (w:World):Calls prog 254 #[.agg a.cells.toArray,.agg b.cells.toArray] w (BI w (.tuple #[.agg (Vl.cells (TQ a b true).1).toArray,AC (TQ a b true).2])):=by
 refine BH func254 ntmps254 X λM=>srg (CC M X X λg2 w1 hg2 M=>CC M X X λg3 w2 hg3 M=>CI M X BE λg4 w3 hg4 M=>AJ X (srg (CB M 2 X X underlying100 AB X (CB M 1 X X underlying100 AB X ?_))))
 exact CD M 8 X X call255 (oE a b true _) λw4 M=>AV X X (BD M 0 X X AB X λw5 M=>yb X (gnr (B1 X X (M.rdBlk 0 X X) underlying100 X AB X ⟨X,M.fr⟩)))
theorem pO (a b:Vl) (w:World):Calls prog 256 #[.agg a.cells.toArray,.agg b.cells.toArray] w (BI w (.tuple #[.agg (Vl.cells (TQ a b false).1).toArray,AC (TQ a b false).2])):=by
 refine BH func256 ntmps256 X λM=>srg (CC M X X λg2 w1 hg2 M=>CC M X X λg3 w2 hg3 M=>CI M X BE λg4 w3 hg4 M=>AJ X (srg (CB M 2 X X underlying100 AB X (CB M 1 X X underlying100 AB X ?_))))
 exact CD M 8 X X call255 (oE a b false _) λw4 M=>AV X X (BD M 0 X X AB X λw5 M=>yb X (gnr (B1 X X (M.rdBlk 0 X X) underlying100 X AB X ⟨X,M.fr⟩)))
theorem pN (a b:Vl) (w:World) (ha:a.text.length≤1048576) (hb:b.text.length≤1048576) (hY:Lay0 w):Calls prog 257 #[.agg a.cells.toArray,.agg b.cells.toArray] w (BI w (.tuple #[.agg (Vl.cells (NP a b true).1).toArray,AC (NP a b true).2])):=by
 refine BH func257 ntmps257 X λM=>srg (CC M X X λg2 w1 hg2 M=>CC M X X λg3 w2 hg3 M=>CI M X BE λg4 w3 hg4 M=>AJ X (srg (CB M 2 X X underlying100 AB X (CB M 1 X X underlying100 AB X ?_))))
 exact CD M 8 X X call258 (WP a b true _ C2 C2 (hY.fr0 M.fr)) λw4 M=>AV X X (BD M 0 X X AB X λw5 M=>yb X (gnr (B1 X X (M.rdBlk 0 X X) underlying100 X AB X ⟨X,M.fr⟩)))
theorem pM (a b:Vl) (w:World) (ha:a.text.length≤1048576) (hb:b.text.length≤1048576) (hY:Lay0 w):Calls prog 259 #[.agg a.cells.toArray,.agg b.cells.toArray] w (BI w (.tuple #[.agg (Vl.cells (NP a b false).1).toArray,AC (NP a b false).2])):=by
 refine BH func259 ntmps259 X λM=>srg (CC M X X λg2 w1 hg2 M=>CC M X X λg3 w2 hg3 M=>CI M X BE λg4 w3 hg4 M=>AJ X (srg (CB M 2 X X underlying100 AB X (CB M 1 X X underlying100 AB X ?_))))
 exact CD M 8 X X call258 (WP a b false _ C2 C2 (hY.fr0 M.fr)) λw4 M=>AV X X (BD M 0 X X AB X λw5 M=>yb X (gnr (B1 X X (M.rdBlk 0 X X) underlying100 X AB X ⟨X,M.fr⟩)))
theorem pL (a b:Vl) (w:World) (ha:a.text.length≤1048576) (hb:b.text.length≤1048576) (hY:Lay0 w):Calls prog 260 #[.agg a.cells.toArray,.agg b.cells.toArray] w (BI w (.tuple #[.agg (Vl.cells (NP b a true).1).toArray,AC (NP b a true).2])):=by
 refine BH func260 ntmps260 X λM=>srg (CC M X X λg2 w1 hg2 M=>CC M X X λg3 w2 hg3 M=>CI M X BE λg4 w3 hg4 M=>AJ X (srg (CB M 1 X X underlying100 AB X (CB M 2 X X underlying100 AB X ?_))))
 exact CD M 8 X X call258 (WP b a true _ C2 C2 (hY.fr0 M.fr)) λw4 M=>AV X X (BD M 0 X X AB X λw5 M=>yb X (gnr (B1 X X (M.rdBlk 0 X X) underlying100 X AB X ⟨X,M.fr⟩)))
theorem pK (a b:Vl) (w:World) (ha:a.text.length≤1048576) (hb:b.text.length≤1048576) (hY:Lay0 w):Calls prog 261 #[.agg a.cells.toArray,.agg b.cells.toArray] w (BI w (.tuple #[.agg (Vl.cells (NP b a false).1).toArray,AC (NP b a false).2])):=by
 refine BH func261 ntmps261 X λM=>srg (CC M X X λg2 w1 hg2 M=>CC M X X λg3 w2 hg3 M=>CI M X BE λg4 w3 hg4 M=>AJ X (srg (CB M 1 X X underlying100 AB X (CB M 2 X X underlying100 AB X ?_))))
 exact CD M 8 X X call258 (WP b a false _ C2 C2 (hY.fr0 M.fr)) λw4 M=>AV X X (BD M 0 X X AB X λw5 M=>yb X (gnr (B1 X X (M.rdBlk 0 X X) underlying100 X AB X ⟨X,M.fr⟩)))
def N3 : List (UInt8 × Value):=[(7,.func (.func 254) #[] #[]),(8,.func (.func 256) #[] #[]),(9,.func (.func 257) #[] #[]),(12,.func (.func 259) #[] #[]),(11,.func (.func 260) #[] #[]),(10,.func (.func 261) #[] #[]),(13,.func (.func 262) #[] #[]),(14,.func (.func 263) #[] #[]),(15,.func (.func 264) #[] #[]),(16,.func (.func 265) #[] #[]),(17,.func (.func 266) #[] #[])]
def doP (k:UInt8) (a b:Vl):Vl × Int:=if k=7 then TQ a b true else if k=8 then TQ a b false else if k=9 then NP a b true else if k=12 then NP a b false else if k=11 then NP b a true else if k=10 then NP b a false else if k=13 then bY a b else if k=14 then LT a b else if k=15 then UV a b else if k=16 then SC a b else if k=17 then SA a b else (zeroVl,0)
theorem eG (k:UInt8) (h:(HA N3 k).isSome=true):∃fd,(HA N3 k).getD .nilFunc=.func (.func fd) #[] #[]∧(∀(ar:Array Value) (w:World),(callFunc fd ar).run prog w=.ok (.enter fd ar) w)∧∀(a b:Vl) (w:World),a.text.length≤1048576→b.text.length≤1048576→Lay0 w→Calls prog fd #[.agg a.cells.toArray,.agg b.cells.toArray] w (BI w (.tuple #[.agg (Vl.cells (doP k a b).1).toArray,AC (doP k a b).2])):=by
 by_cases h7:k=7
 ·subst h7;exact ⟨254,X,call254,λa b w _ _ _=>pP a b w⟩
 by_cases h8:k=8
 ·subst h8;exact ⟨256,X,call256,λa b w _ _ _=>pO a b w⟩
 by_cases h9:k=9
 ·subst h9;exact ⟨257,X,call257,λa b w ha hb hY=>pN a b w ha hb hY⟩
 by_cases h12:k=12
 ·subst h12;exact ⟨259,X,call259,λa b w ha hb hY=>pM a b w ha hb hY⟩
 by_cases h11:k=11
 ·subst h11;exact ⟨260,X,call260,λa b w ha hb hY=>pL a b w ha hb hY⟩
 by_cases h10:k=10
 ·subst h10;exact ⟨261,X,call261,λa b w ha hb hY=>pK a b w ha hb hY⟩
 by_cases h13:k=13
 ·subst h13;exact ⟨262,X,call262,λa b w ha hb hY=>yA a b w ha hb hY⟩
 by_cases h14:k=14
 ·subst h14;exact ⟨263,X,call263,λa b w ha hb hY=>cN a b w ha hb hY⟩
 by_cases h15:k=15
 ·subst h15;exact ⟨264,X,call264,λa b w ha hb hY=>qJ a b w ha hb hY⟩
 by_cases h16:k=16
 ·subst h16;exact ⟨265,X,call265,λa b w ha hb hY=>qM a b w ha hb hY⟩
 by_cases h17:k=17
 ·subst h17;exact ⟨266,X,call266,λa b w ha hb hY=>qK a b w ha hb hY⟩
 simp [N3,HA,h7,h8,h9,h12,h11,h10,h13,h14,h15,h16,h17] at h
theorem uC (w:World):Calls prog 245 #[] w λe w'=>∃g,e=.returned (.map (some g))∧MpU w' g N3∧(w.heap.size≤g∧g<w'.heap.size)∧Fr0 w w':=by
 refine BH func245 ntmps245 X λM=>srg (AJ X (srg (XZ M (wn_none X) X X X λg1 w1 hg1 M=>DP M 0 (k:=(7:UInt8)) (wn_none X) X X X X X underlying313 underlying5 X λw2 M=>DP M 0 (k:=(8:UInt8)) (wn_none X) X X X X X underlying313 underlying5 X λw3 M=>DP M 0 (k:=(9:UInt8)) (wn_none X) X X X X X underlying313 underlying5 X λw4 M=>?_)))
 refine DP M 0 (k:=(12:UInt8)) (wn_none X) X X X X X underlying313 underlying5 X λw5 M=>DP M 0 (k:=(11:UInt8)) (wn_none X) X X X X X underlying313 underlying5 X λw6 M=>DP M 0 (k:=(10:UInt8)) (wn_none X) X X X X X underlying313 underlying5 X λw7 M=>DP M 0 (k:=(13:UInt8)) (wn_none X) X X X X X underlying313 underlying5 X λw8 M=>DP M 0 (k:=(14:UInt8)) (wn_none X) X X X X X underlying313 underlying5 X λw9 M=>DP M 0 (k:=(15:UInt8)) (wn_none X) X X X X X underlying313 underlying5 X λw10 M=>DP M 0 (k:=(16:UInt8)) (wn_none X) X X X X X underlying313 underlying5 X λw11 M=>DP M 0 (k:=(17:UInt8)) (wn_none X) X X X X X underlying313 underlying5 X λw12 M=>?_
 exact AV X X (gnr (gr1 X ⟨g1,X,(M.ok 0 _ X:MpU _ _ _),M.new0 0 X _ (by simp [As.mpU]),M.fr⟩))
theorem sE (k:List UInt8) (w:World):Calls prog 221 #[str k] w (BI w (.tuple #[])):=by
 exact BH func221 ntmps221 X λM=>sx_skip (qx_ret0 (Or.inr X) X ⟨X,M.fr⟩)
def evW (n:Xn) (vars:List Bd) (ra rb:Vl × Int):Vl × Int:=(if (decide ((n.op.toNat:Int)=(1:Int)))=true then ((⟨n.vl.kind,n.vl.int,n.vl.bool,n.vl.text⟩:Vl),0) else (if (decide ((n.op.toNat:Int)=(2:Int)))=true then (if (!(MU vars n.nm).isSome)=true then ((⟨0,0,false,[]⟩:Vl),100) else (if (!decide ((chk ((MU vars n.nm).getD zeroVl))=(0:Int)))=true then ((⟨0,0,false,[]⟩:Vl),1) else (((MU vars n.nm).getD zeroVl),0))) else (if (!decide (ra.2=(0:Int)))=true then ((⟨0,0,false,[]⟩:Vl),ra.2) else (if (decide ((n.op.toNat:Int)=(4:Int)))=true then (((LT ⟨1,0,false,[]⟩ ra.1).1),(LT ⟨1,0,false,[]⟩ ra.1).2) else (if (decide ((n.op.toNat:Int)=(3:Int)))=true then (if (decide ((n.op.toNat:Int)=(3:Int)))=true then (if (!decide ((ra.1.kind.toNat:Int)=(2:Int)))=true then ((⟨0,0,false,[]⟩:Vl),90) else (if (decide ((n.op.toNat:Int)=(3:Int)))=true then ((⟨2,0,(!ra.1.bool),[]⟩:Vl),0) else (if (ra.1.bool==(decide ((n.op.toNat:Int)=(6:Int))))=true then (ra.1,0) else (if (!decide (rb.2=(0:Int)))=true then ((⟨0,0,false,[]⟩:Vl),rb.2) else (if (HA N3 n.op).isSome=true then (((doP n.op ra.1 rb.1).1),(doP n.op ra.1 rb.1).2) else (if (!decide ((rb.1.kind.toNat:Int)=(2:Int)))=true then ((⟨0,0,false,[]⟩:Vl),90) else (rb.1,0))))))) else (if (!decide (rb.2=(0:Int)))=true then ((⟨0,0,false,[]⟩:Vl),rb.2) else (if (HA N3 n.op).isSome=true then (((doP n.op ra.1 rb.1).1),(doP n.op ra.1 rb.1).2) else (if (!decide ((rb.1.kind.toNat:Int)=(2:Int)))=true then ((⟨0,0,false,[]⟩:Vl),90) else (rb.1,0))))) else (if ((decide ((n.op.toNat:Int)=(5:Int))) || (decide ((n.op.toNat:Int)=(6:Int))))=true then (if (!decide ((ra.1.kind.toNat:Int)=(2:Int)))=true then ((⟨0,0,false,[]⟩:Vl),90) else (if (decide ((n.op.toNat:Int)=(3:Int)))=true then ((⟨2,0,(!ra.1.bool),[]⟩:Vl),0) else (if (ra.1.bool==(decide ((n.op.toNat:Int)=(6:Int))))=true then (ra.1,0) else (if (!decide (rb.2=(0:Int)))=true then ((⟨0,0,false,[]⟩:Vl),rb.2) else (if (HA N3 n.op).isSome=true then (((doP n.op ra.1 rb.1).1),(doP n.op ra.1 rb.1).2) else (if (!decide ((rb.1.kind.toNat:Int)=(2:Int)))=true then ((⟨0,0,false,[]⟩:Vl),90) else (rb.1,0))))))) else (if (!decide (rb.2=(0:Int)))=true then ((⟨0,0,false,[]⟩:Vl),rb.2) else (if (HA N3 n.op).isSome=true then (((doP n.op ra.1 rb.1).1),(doP n.op ra.1 rb.1).2) else (if (!decide ((rb.1.kind.toNat:Int)=(2:Int)))=true then ((⟨0,0,false,[]⟩:Vl),90) else (rb.1,0))))))))))
theorem xJ (n:Xn) (A:Option Addr) (gr gm:Nat) (V:Option Addr) (vc:Nat) (vars:List Bd) (L:List Xq) (ra rb:Vl × Int) (w:World) (hvl:vars.length≤4611686018427387904) (hok:BdOk vars) (hV:Rd w V (vars.length*5) (AD Bd.cells vars)) (hb:Blk w gr 316 [.slice V vars.length vc,.func (.func 221) #[] #[],.map (some gm)]) (hm:MpU w gm N3) (hY:Lay0 w) (hR:Rd w A (L.length*7) (AD Xq.cells L)) (hk1:¬(n.op.toNat:Int)=1→¬(n.op.toNat:Int)=2→0<L.length) (hk2:¬(n.op.toNat:Int)=1→¬(n.op.toNat:Int)=2→¬(n.op.toNat:Int)=3→¬(n.op.toNat:Int)=4→1<L.length) (hSa:ra.2=0→ra.1.text.length≤1048576) (hSb:rb.2=0→rb.1.text.length≤1048576)
 (hT0:∀q,L[0]?=some q→∀W,Fr0 w W→Calls prog 246 #[pg gr,.agg (Xq.cells q).toArray] W λe W'=>e=.returned (.tuple #[.agg (Vl.cells ra.1).toArray,AC ra.2])∧Fr0 W W')
 (hT1:∀q,L[1]?=some q→∀W,Fr0 w W→Calls prog 246 #[pg gr,.agg (Xq.cells q).toArray] W λe W'=>e=.returned (.tuple #[.agg (Vl.cells rb.1).toArray,AC rb.2])∧Fr0 W W') :
 Calls prog 246 #[pg gr,.agg (NX n A L.length).toArray] w (BI w (.tuple #[.agg (Vl.cells (evW n vars ra rb).1).toArray,AC (evW n vars ra rb).2])):=by
 have hfb:=iP hok n.nm;refine BH func246 ntmps246 X λM=>srg (D6 M (wn_none X) X X 112 X X (NX n A L.length) X λg3 w1 hg3 M=>CI M X BE λg4 w2 hg4 M=>AJ X (sx_seq (AE X (AU M 1 X X X (sxl_nil ?_)))))
 refine qx_seq (sx_block (srg (BZ X X (AJ X (AF X (λh15=>?_) (λh15=>?_))))))
 ·exact AE X (ya X (AK (xs:=[.int .u8 (n.vl.kind.toNat:Int),AC n.vl.int,.bool n.vl.bool,str n.vl.text]) X X (DZ (M.blk 1 X) 1 4 X X) underlying100 X AB) (BD M 0 X X AB X λw3 M=>yb X (gnr (qx_block_ret (qx_then_ret (B1 X X (M.rdBlk 0 X X) underlying100 X AB X ⟨by rw [evW,if_pos h15]<;>rfl,M.fr⟩))))))
 ·have h15p:=(odf h15);refine srg (BZ X X (AJ X (AF X (λh19=>?_) (λh19=>?_))))
  ·have h19p:=(odt h19);refine sx_seq (l7 (λ(g6:Nat)=>[(0,pg gr),(3,pg g3),(4,pg g4),(6,pg g6),(7,.bool ((MU vars n.nm).isSome))]) (λ(g6:Nat)=>λw'=>Mem w AR [As.blk g6 100 (Vl.cells ((MU vars n.nm).getD zeroVl)),As.blk g4 100 [.int .u8 0,AC 0,.bool false,str []],As.blk g3 112 (NX n A L.length)] w') ?_ (λkr5=>?_))
   ·intro g6 w4 M;refine qx_seq (sx_seq (sx_block (AE X (yb X (AJ X (AF X (λh31=>?_) (λh31=>?_)))))))
    ·exact srg (ya X (AY (parts:=[]) X X (BW)) (BD M 1 X X AB X λw5 M=>yb X (gnr (qx_block_ret (qx_then_ret (qx_block_ret (qx_then_ret (B1 X X (M.rdBlk 1 X X) underlying100 X AB X ⟨by rw [evW,AM h15,if_pos h19,if_pos h31]<;>rfl,M.fr⟩))))))))
    ·have h31p:=(BL h31);refine srg (CB M 0 X X underlying100 AB X (CD M 37 X X call59 (EJ ((MU vars n.nm).getD zeroVl) _ AA (hY.fr0 M.fr).utf) λw6 M=>CT X X (AJ X (AF X (λh35=>?_) (λh35=>?_)))))
     ·exact srg (ya X (AY (parts:=[]) X X (BW)) (BD M 1 X X AB X λw7 M=>yb X (gnr (qx_block_ret (qx_then_ret (qx_block_ret (qx_then_ret (B1 X X (M.rdBlk 1 X X) underlying100 X AB X ⟨by rw [evW,AM h15,if_pos h19,AM h31,if_pos h35]<;>rfl,M.fr⟩))))))))
     ·refine sx_skip (qx_block_normal (qx_seq (sx_seq (CY 6 CH gkr ?_))));have M:=M.drew;refine sb X (sb X (sb X (sd X X (Blk.c (hb.fr0 M.fr) 1 X) (sb X (EB M 2 X X X (C8 (LZ M 46 X (BJ X X X call221) (sE n.nm _) λw8 M=>EV (CB M 0 X X underlying100 AB X (BD M 1 X X AB X λw9 M=>yb X ?_)))))))));exact gnr (qx_block_ret (qx_then_ret (B1 X X (M.rdBlk 1 X X) underlying100 X AB X ⟨by rw [evW,AM h15,if_pos h19,AM h31,AM h35]<;>rfl,M.fr⟩)))
   refine GP M 12 CH λM=>oc 0 12 X X M (oc 1 12 X X M (oc 2 12 X X M (ol 3 12 X X X M (λ_ M=>(Blk.c (hb.fr0 M.fr) 0 X)) (oc 4 12 X X M (ol 5 12 X X X M (λ_ M=>(M.cell 1 X X)) (GQ (rs:=[6,10]) gkr (by simp) λiz hiz=>?_))))))
   simp only [List.mem_cons,List.not_mem_nil,or_false] at hiz
   rcases hiz with rfl|rfl
   ·refine JR (some 28) X (wn_none X) X X (AG X X call149) (SB V vc vars n.nm _ hvl (hV.fr0 M.fr)) ?_;rintro _ w10 ⟨rfl,hfw10⟩;refine ⟨_,X,λ_=>M.step hfw10,?_⟩;have M:=M.step hfw10;refine oc 7 12 X X M (oc 8 12 X X M (oc 9 12 X X M (B2 10 (some 6) gkr X (wn_none X) X X (λρ hρ=>C7 100 X _ [.int .u8 0,AC 0,.bool false,str []] BE X) ?_)));rintro _ w11 ⟨g6,rfl,hg6,hq6,hb6,hfw11⟩;refine ⟨λ_=>M.step hfw11,?_⟩;have M:=M.push hfw11 _ hb6 (DO hg6 hq6)
    replace M:Mem w AR (As.blk g6 100 [.int .u8 0,AC 0,.bool false,str []]::_) w11:=M
    exact fop M 11 0 X X X AB X (·.drop 1) λw12 M=>fo1 12 X X (yp X) (fdn (kr5 g6 _ _ M ⟨X,X,X,X,X,trivial⟩))
   ·refine EA (some 6) X (wn_none X) X X (λρ hρ=>C7 100 X _ [.int .u8 0,AC 0,.bool false,str []] BE X) ?_;rintro _ w13 ⟨g6,rfl,hg6,hq6,hb6,hfw13⟩;refine ⟨λ_=>M.step hfw13,?_⟩;have M:=M.push hfw13 _ hb6 (DO hg6 hq6)
    replace M:Mem w AR (As.blk g6 100 [.int .u8 0,AC 0,.bool false,str []]::_) w13:=M
    refine BQ 6 (some 28) gkr X (wn_none X) X X (AG X X call149) (SB V vc vars n.nm _ hvl (hV.fr0 M.fr)) ?_;rintro _ w14 ⟨rfl,hfw14⟩;refine ⟨_,X,λ_=>(M.drop 1).step hfw14,?_⟩;have M:=M.step hfw14;exact oc 7 12 X X (M.drop 1) (oc 8 12 X X (M.drop 1) (oc 9 12 X X (M.drop 1) (fop M 11 0 X X X AB X (·.drop 1) λw15 M=>fo1 12 X X (yp X) (fdn (kr5 g6 _ _ M ⟨X,X,X,X,X,trivial⟩)))))
  ·have h19p:=(odf h19);have hL0:=hk1 h15p h19p;refine sx_skip (qx_block_normal (qx_seq (AE X (yb X (AU M 1 X X X ?_)))));obtain ⟨x,hx⟩:=BM (l:=L) (i:=0) AA;obtain ⟨b_x,o_x,hA_x⟩:=B5 (k:=7) AA (hR.fr0 M.fr) hx;refine ya X (AN 0 hA_x X X X (sl X) AA) (ya X (AK X X (B6 Xq.len (hR.fr0 M.fr) hA_x hx) underlying112 X AO) (CD M 54 X X call246 (hT0 x hx _ M.fr) λw16 M=>AV X X (yb X (CI M X BE λg8 w17 hg8 M=>BD M 0 X X AB X λw18 M=>AJ X (sx_seq (srg ?_))))));refine yb X (CT X X (nq (AF X (λh58=>?_) (λh58=>?_))))
   ·have haT:=hSa;exact srg (ya X (AY (parts:=[]) X X (BW)) (yb X (BD M 1 X X AB X λw19 M=>yb X (gnr (qx_then_ret (B1 X X (M.rdBlk 1 X X) underlying100 X AB X ⟨by rw [evW,AM h15,AM h19,if_pos h58]<;>rfl,M.fr⟩))))))
   ·have h58p:=(odt (BL h58));refine sx_skip (qx_seq (sx_seq (AE X (AU M 2 X X X (nq (sx_block (srg (BZ X X (AJ X ?_)))))))));refine AF X (λh63=>?_) (λh63=>?_)
    ·have h63p:=(odt h63);exact srg (CB M 0 X X underlying100 AB X (CD M 66 X X call267 (qI ra.1 _ AA (hY.fr0 M.fr)) λw20 M=>AV X X (BD M 1 X X AB X λw21 M=>yb X (gnr (qx_block_ret (qx_then_ret (B1 X X (M.rdBlk 1 X X) underlying100 X AB X ⟨by rw [evW,AM h15,AM h19,AM h58,if_pos h63]<;>rfl,M.fr⟩)))))))
    ·have h63p:=(odf h63);refine sx_seq (srg (BZ X X (AJ X (AF X (λh69=>?_) (λh69=>?_)))))
     ·have h69p:=(odt h69);refine sx_skip (qx_seq (AF X (λh69b=>?_) (λh69b=>?_)))
      ·have h69bp:=(odt h69b);refine sx_seq (AE X (AU M 0 X X X (CT X X (nq (AF X (λh75=>?_) (λh75=>?_))))))
       ·exact srg (ya X (AY (parts:=[]) X X (BW)) (BD M 1 X X AB X λw22 M=>yb X (gnr (qx_then_ret (qx_block_ret (qx_then_ret (B1 X X (M.rdBlk 1 X X) underlying100 X AB X ⟨by rw [evW,AM h15,AM h19,AM h58,AM h63,if_pos h69,if_pos h69b,if_pos h75]<;>rfl,M.fr⟩)))))))
       ·have h75p:=(odt (BL h75));refine sx_skip (qx_seq (sx_seq (AE X (AU M 2 X X X (BZ X X (nq (AF X (λh79=>?_) (λh79=>?_))))))))
        ·refine AE X (AU M 0 X X X (yb X (CD M 83 X X call101 (OZ (!ra.1.bool) _) λw23 M=>BD M 1 X X AB X λw24 M=>yb X (gnr (qx_then_ret (qx_block_ret (qx_then_ret (B1 X X (M.rdBlk 1 X X) underlying100 X AB X ?_))))))));exact ⟨by rw [evW,AM h15,AM h19,AM h58,AM h63,if_pos h69,if_pos h69b,AM h75,if_pos h79]<;>rfl,M.fr⟩
        ·have h79p:=(odf h79);refine sx_skip (qx_seq (AE X (AU M 0 X X X (yb X (AU M 2 X X X (BZ X X (ya X (IV X X X underlying4) (nq (AF X (λh89=>?_) (λh89=>?_))))))))))
         ·exact srg (CB M 0 X X underlying100 AB X (BD M 1 X X AB X λw25 M=>yb X (gnr (qx_block_ret (qx_then_ret (B1 X X (M.rdBlk 1 X X) underlying100 X AB X ⟨by rw [evW,AM h15,AM h19,AM h58,AM h63,if_pos h69,if_pos h69b,AM h75,AM h79,if_pos h89]<;>rfl,M.fr⟩))))))
         ·have hL1:1<L.length:=hk2 h15p h19p h79p h63p;refine sx_skip (qx_block_normal (qx_seq (AE X (yb X (AU M 2 X X X ?_)))));obtain ⟨y,hy⟩:=BM (l:=L) (i:=1) AA;obtain ⟨b_y,o_y,hA_y⟩:=B5 (k:=7) AA (hR.fr0 M.fr) hy;refine ya X (AN 1 hA_y X X X (sl X) AA) (ya X (AK X X (B6 Xq.len (hR.fr0 M.fr) hA_y hy) underlying112 X AO) (CD M 97 X X call246 (hT1 y hy _ M.fr) λw26 M=>AV X X (yb X (CI M X BE λg10 w27 hg10 M=>BD M 0 X X AB X λw28 M=>AJ X (sx_seq (srg ?_))))));refine yb X (CT X X (nq (AF X (λh101=>?_) (λh101=>?_))))
          ·exact srg (ya X (AY (parts:=[]) X X (BW)) (yb X (BD M 2 X X AB X λw29 M=>yb X (gnr (qx_then_ret (B1 X X (M.rdBlk 2 X X) underlying100 X AB X ⟨by rw [evW,AM h15,AM h19,AM h58,AM h63,if_pos h69,if_pos h69b,AM h75,AM h79,AM h89,if_pos h101]<;>rfl,M.fr⟩))))))
          ·have h101p:=(odt (BL h101));refine sx_skip (qx_seq (sx_seq (E8 CH gkr ?_)));have M:=M.drew;refine sb X (sb X (sb X (sd X X (Blk.c (hb.fr0 M.fr) 2 X) (sb X (EB M 3 X X X (sa X (KZ X X X underlying313 underlying5 JM (hm.fr0 M.fr)) ?_))))));iterate 5 refine sb X ?_
           refine EX (qx_seq (sx_seq (sx_block (AE X (AJ X (AF X (λh114=>?_) (λh114=>?_)))))))
           ·refine AE X (CB M 1 X X underlying100 AB X (CB M 0 X X underlying100 AB X ?_));obtain ⟨fd,hfv,hfn,hfc⟩:=eG n.op h114;have haT:=hSa (by simpa using h58p);have hbT:=hSb (by simpa using h101p);exact LZ M 119 X (BJ X (congrArg some hfv) X hfn) (hfc ra.1 rb.1 _ haT hbT (hY.fr0 M.fr)) λw30 M=>AV X X (BD M 2 X X AB X λw31 M=>yb X (gnr (qx_block_ret (qx_then_ret (B1 X X (M.rdBlk 2 X X) underlying100 X AB X ⟨by rw [evW,AM h15,AM h19,AM h58,AM h63,if_pos h69,if_pos h69b,AM h75,AM h79,AM h89,AM h101,if_pos h114]<;>rfl,M.fr⟩)))))
           ·refine AE X (AU M 0 X X X (CT X X (AJ X (AF X (λh122=>?_) (λh122=>?_)))))
            ·exact srg (ya X (AY (parts:=[]) X X (BW)) (BD M 2 X X AB X λw32 M=>yb X (gnr (qx_block_ret (qx_then_ret (B1 X X (M.rdBlk 2 X X) underlying100 X AB X ⟨by rw [evW,AM h15,AM h19,AM h58,AM h63,if_pos h69,if_pos h69b,AM h75,AM h79,AM h89,AM h101,AM h114,if_pos h122]<;>rfl,M.fr⟩))))))
            ·exact sx_skip (qx_block_normal (qx_seq (srg (CB M 0 X X underlying100 AB X (BD M 2 X X AB X λw33 M=>yb X (gnr (B1 X X (M.rdBlk 2 X X) underlying100 X AB X ⟨by rw [evW,AM h15,AM h19,AM h58,AM h63,if_pos h69,if_pos h69b,AM h75,AM h79,AM h89,AM h101,AM h114,AM h122]<;>rfl,M.fr⟩)))))))
      ·have h69bp:=(odf h69b);have hL1:1<L.length:=by rw [h69b] at h69;cases h69
       refine sx_skip (qx_block_normal (qx_seq (AE X (yb X (AU M 2 X X X ?_)))));obtain ⟨y,hy⟩:=BM (l:=L) (i:=1) AA;obtain ⟨b_y,o_y,hA_y⟩:=B5 (k:=7) AA (hR.fr0 M.fr) hy;refine ya X (AN 1 hA_y X X X (sl X) AA) (ya X (AK X X (B6 Xq.len (hR.fr0 M.fr) hA_y hy) underlying112 X AO) (CD M 97 X X call246 (hT1 y hy _ M.fr) λw34 M=>AV X X (yb X (CI M X BE λg10 w35 hg10 M=>BD M 0 X X AB X λw36 M=>AJ X (sx_seq (srg ?_))))));refine yb X (CT X X (nq (AF X (λh101=>?_) (λh101=>?_))))
       ·exact srg (ya X (AY (parts:=[]) X X (BW)) (yb X (BD M 2 X X AB X λw37 M=>yb X (gnr (qx_then_ret (B1 X X (M.rdBlk 2 X X) underlying100 X AB X ⟨by rw [evW,AM h15,AM h19,AM h58,AM h63,if_pos h69,AM h69b,if_pos h101]<;>rfl,M.fr⟩))))))
       ·have h101p:=(odt (BL h101));refine sx_skip (qx_seq (sx_seq (E8 CH gkr ?_)));have M:=M.drew;refine sb X (sb X (sb X (sd X X (Blk.c (hb.fr0 M.fr) 2 X) (sb X (EB M 3 X X X (sa X (KZ X X X underlying313 underlying5 JM (hm.fr0 M.fr)) ?_))))));iterate 5 refine sb X ?_
        refine EX (qx_seq (sx_seq (sx_block (AE X (AJ X (AF X (λh114=>?_) (λh114=>?_)))))))
        ·refine AE X (CB M 1 X X underlying100 AB X (CB M 0 X X underlying100 AB X ?_));obtain ⟨fd,hfv,hfn,hfc⟩:=eG n.op h114;have haT:=hSa (by simpa using h58p);have hbT:=hSb (by simpa using h101p);exact LZ M 119 X (BJ X (congrArg some hfv) X hfn) (hfc ra.1 rb.1 _ haT hbT (hY.fr0 M.fr)) λw38 M=>AV X X (BD M 2 X X AB X λw39 M=>yb X (gnr (qx_block_ret (qx_then_ret (B1 X X (M.rdBlk 2 X X) underlying100 X AB X ⟨by rw [evW,AM h15,AM h19,AM h58,AM h63,if_pos h69,AM h69b,AM h101,if_pos h114]<;>rfl,M.fr⟩)))))
        ·refine AE X (AU M 0 X X X (CT X X (AJ X (AF X (λh122=>?_) (λh122=>?_)))))
         ·exact srg (ya X (AY (parts:=[]) X X (BW)) (BD M 2 X X AB X λw40 M=>yb X (gnr (qx_block_ret (qx_then_ret (B1 X X (M.rdBlk 2 X X) underlying100 X AB X ⟨by rw [evW,AM h15,AM h19,AM h58,AM h63,if_pos h69,AM h69b,AM h101,AM h114,if_pos h122]<;>rfl,M.fr⟩))))))
         ·exact sx_skip (qx_block_normal (qx_seq (srg (CB M 0 X X underlying100 AB X (BD M 2 X X AB X λw41 M=>yb X (gnr (B1 X X (M.rdBlk 2 X X) underlying100 X AB X ⟨by rw [evW,AM h15,AM h19,AM h58,AM h63,if_pos h69,AM h69b,AM h101,AM h114,AM h122]<;>rfl,M.fr⟩)))))))
     ·have h69p:=(odf h69);refine srg (BZ X X (AJ X (IR [(0,pg gr),(3,pg g3),(4,pg g4),(8,pg g8),(69,.bool ((decide ((n.op.toNat:Int)=5)) || (decide ((n.op.toNat:Int)=6))))] (λw'=>Mem w AR [As.blk g8 100 (Vl.cells ra.1),As.blk g4 100 [.int .u8 0,AC 0,.bool false,str []],As.blk g3 112 (NX n A L.length)] w') ?_ (λk69=>?_))))
      ·intro w42 M;refine qx_seq (AF X (λh69b=>?_) (λh69b=>?_))
       ·have h69bp:=((E1 h69b).imp (λz=>(odt z)) (λz=>(odt z)));refine sx_seq (AE X (AU M 0 X X X (CT X X (nq (AF X (λh75=>?_) (λh75=>?_))))))
        ·exact srg (ya X (AY (parts:=[]) X X (BW)) (BD M 1 X X AB X λw43 M=>yb X (gnr (qx_then_ret (qx_block_ret (qx_then_ret (B1 X X (M.rdBlk 1 X X) underlying100 X AB X ⟨by rw [evW,AM h15,AM h19,AM h58,AM h63,AM h69,if_pos h69b,if_pos h75]<;>rfl,M.fr⟩)))))))
        ·have h75p:=(odt (BL h75));refine sx_skip (qx_seq (sx_seq (AE X (AU M 2 X X X (BZ X X (nq (AF X (λh79=>?_) (λh79=>?_))))))))
         ·refine AE X (AU M 0 X X X (yb X (CD M 83 X X call101 (OZ (!ra.1.bool) _) λw44 M=>BD M 1 X X AB X λw45 M=>yb X (gnr (qx_then_ret (qx_block_ret (qx_then_ret (B1 X X (M.rdBlk 1 X X) underlying100 X AB X ?_))))))));exact ⟨by rw [evW,AM h15,AM h19,AM h58,AM h63,AM h69,if_pos h69b,AM h75,if_pos h79]<;>rfl,M.fr⟩
         ·have h79p:=(odf h79);refine sx_skip (qx_seq (AE X (AU M 0 X X X (yb X (AU M 2 X X X (BZ X X (ya X (IV X X X underlying4) (nq (AF X (λh89=>?_) (λh89=>?_))))))))))
          ·exact srg (CB M 0 X X underlying100 AB X (BD M 1 X X AB X λw46 M=>yb X (gnr (qx_block_ret (qx_then_ret (B1 X X (M.rdBlk 1 X X) underlying100 X AB X ⟨by rw [evW,AM h15,AM h19,AM h58,AM h63,AM h69,if_pos h69b,AM h75,AM h79,if_pos h89]<;>rfl,M.fr⟩))))))
          ·have hL1:1<L.length:=hk2 h15p h19p h79p h63p;refine sx_skip (qx_block_normal (qx_seq (AE X (yb X (AU M 2 X X X ?_)))));obtain ⟨y,hy⟩:=BM (l:=L) (i:=1) AA;obtain ⟨b_y,o_y,hA_y⟩:=B5 (k:=7) AA (hR.fr0 M.fr) hy;refine ya X (AN 1 hA_y X X X (sl X) AA) (ya X (AK X X (B6 Xq.len (hR.fr0 M.fr) hA_y hy) underlying112 X AO) (CD M 97 X X call246 (hT1 y hy _ M.fr) λw47 M=>AV X X (yb X (CI M X BE λg10 w48 hg10 M=>BD M 0 X X AB X λw49 M=>AJ X (sx_seq (srg ?_))))));refine yb X (CT X X (nq (AF X (λh101=>?_) (λh101=>?_))))
           ·exact srg (ya X (AY (parts:=[]) X X (BW)) (yb X (BD M 2 X X AB X λw50 M=>yb X (gnr (qx_then_ret (B1 X X (M.rdBlk 2 X X) underlying100 X AB X ⟨by rw [evW,AM h15,AM h19,AM h58,AM h63,AM h69,if_pos h69b,AM h75,AM h79,AM h89,if_pos h101]<;>rfl,M.fr⟩))))))
           ·have h101p:=(odt (BL h101));refine sx_skip (qx_seq (sx_seq (E8 CH gkr ?_)));have M:=M.drew;refine sb X (sb X (sb X (sd X X (Blk.c (hb.fr0 M.fr) 2 X) (sb X (EB M 3 X X X (sa X (KZ X X X underlying313 underlying5 JM (hm.fr0 M.fr)) ?_))))));iterate 5 refine sb X ?_
            refine EX (qx_seq (sx_seq (sx_block (AE X (AJ X (AF X (λh114=>?_) (λh114=>?_)))))))
            ·refine AE X (CB M 1 X X underlying100 AB X (CB M 0 X X underlying100 AB X ?_));obtain ⟨fd,hfv,hfn,hfc⟩:=eG n.op h114;have haT:=hSa (by simpa using h58p);have hbT:=hSb (by simpa using h101p);exact LZ M 119 X (BJ X (congrArg some hfv) X hfn) (hfc ra.1 rb.1 _ haT hbT (hY.fr0 M.fr)) λw51 M=>AV X X (BD M 2 X X AB X λw52 M=>yb X (gnr (qx_block_ret (qx_then_ret (B1 X X (M.rdBlk 2 X X) underlying100 X AB X ⟨by rw [evW,AM h15,AM h19,AM h58,AM h63,AM h69,if_pos h69b,AM h75,AM h79,AM h89,AM h101,if_pos h114]<;>rfl,M.fr⟩)))))
            ·refine AE X (AU M 0 X X X (CT X X (AJ X (AF X (λh122=>?_) (λh122=>?_)))))
             ·exact srg (ya X (AY (parts:=[]) X X (BW)) (BD M 2 X X AB X λw53 M=>yb X (gnr (qx_block_ret (qx_then_ret (B1 X X (M.rdBlk 2 X X) underlying100 X AB X ⟨by rw [evW,AM h15,AM h19,AM h58,AM h63,AM h69,if_pos h69b,AM h75,AM h79,AM h89,AM h101,AM h114,if_pos h122]<;>rfl,M.fr⟩))))))
             ·exact sx_skip (qx_block_normal (qx_seq (srg (CB M 0 X X underlying100 AB X (BD M 2 X X AB X λw54 M=>yb X (gnr (B1 X X (M.rdBlk 2 X X) underlying100 X AB X ⟨by rw [evW,AM h15,AM h19,AM h58,AM h63,AM h69,if_pos h69b,AM h75,AM h79,AM h89,AM h101,AM h114,AM h122]<;>rfl,M.fr⟩)))))))
       ·have h69bp:=(And.intro (odf (C6 h69b).1) (odf (C6 h69b).2));have hL1:1<L.length:=hk2 h15p h19p h69p h63p;refine sx_skip (qx_block_normal (qx_seq (AE X (yb X (AU M 2 X X X ?_)))));obtain ⟨y,hy⟩:=BM (l:=L) (i:=1) AA;obtain ⟨b_y,o_y,hA_y⟩:=B5 (k:=7) AA (hR.fr0 M.fr) hy;refine ya X (AN 1 hA_y X X X (sl X) AA) (ya X (AK X X (B6 Xq.len (hR.fr0 M.fr) hA_y hy) underlying112 X AO) (CD M 97 X X call246 (hT1 y hy _ M.fr) λw55 M=>AV X X (yb X (CI M X BE λg10 w56 hg10 M=>BD M 0 X X AB X λw57 M=>AJ X (sx_seq (srg ?_))))));refine yb X (CT X X (nq (AF X (λh101=>?_) (λh101=>?_))))
        ·exact srg (ya X (AY (parts:=[]) X X (BW)) (yb X (BD M 2 X X AB X λw58 M=>yb X (gnr (qx_then_ret (B1 X X (M.rdBlk 2 X X) underlying100 X AB X ⟨by rw [evW,AM h15,AM h19,AM h58,AM h63,AM h69,AM h69b,if_pos h101]<;>rfl,M.fr⟩))))))
        ·have h101p:=(odt (BL h101));refine sx_skip (qx_seq (sx_seq (E8 CH gkr ?_)));have M:=M.drew;refine sb X (sb X (sb X (sd X X (Blk.c (hb.fr0 M.fr) 2 X) (sb X (EB M 3 X X X (sa X (KZ X X X underlying313 underlying5 JM (hm.fr0 M.fr)) ?_))))));iterate 5 refine sb X ?_
         refine EX (qx_seq (sx_seq (sx_block (AE X (AJ X (AF X (λh114=>?_) (λh114=>?_)))))))
         ·refine AE X (CB M 1 X X underlying100 AB X (CB M 0 X X underlying100 AB X ?_));obtain ⟨fd,hfv,hfn,hfc⟩:=eG n.op h114;have haT:=hSa (by simpa using h58p);have hbT:=hSb (by simpa using h101p);exact LZ M 119 X (BJ X (congrArg some hfv) X hfn) (hfc ra.1 rb.1 _ haT hbT (hY.fr0 M.fr)) λw59 M=>AV X X (BD M 2 X X AB X λw60 M=>yb X (gnr (qx_block_ret (qx_then_ret (B1 X X (M.rdBlk 2 X X) underlying100 X AB X ⟨by rw [evW,AM h15,AM h19,AM h58,AM h63,AM h69,AM h69b,AM h101,if_pos h114]<;>rfl,M.fr⟩)))))
         ·refine AE X (AU M 0 X X X (CT X X (AJ X (AF X (λh122=>?_) (λh122=>?_)))))
          ·exact srg (ya X (AY (parts:=[]) X X (BW)) (BD M 2 X X AB X λw61 M=>yb X (gnr (qx_block_ret (qx_then_ret (B1 X X (M.rdBlk 2 X X) underlying100 X AB X ⟨by rw [evW,AM h15,AM h19,AM h58,AM h63,AM h69,AM h69b,AM h101,AM h114,if_pos h122]<;>rfl,M.fr⟩))))))
          ·exact sx_skip (qx_block_normal (qx_seq (srg (CB M 0 X X underlying100 AB X (BD M 2 X X AB X λw62 M=>yb X (gnr (B1 X X (M.rdBlk 2 X X) underlying100 X AB X ⟨by rw [evW,AM h15,AM h19,AM h58,AM h63,AM h69,AM h69b,AM h101,AM h114,AM h122]<;>rfl,M.fr⟩)))))))
      refine AF X (λh69b=>?_) (λh69b=>?_)
      ·exact sx_skip (k69 _ _ M ⟨X,X,X,X,(by rw [h69b];rfl),trivial⟩)
      ·exact sx_region (BZ X X (yb X (sxl_nil (k69 _ _ M ⟨X,X,X,X,(by rw [h69b];rfl),trivial⟩))))
def evX (vars:List Bd):Xn→Vl × Int
 | .un o a=>evW (.un o a) vars (evX vars a) (zeroVl,0)
 | .bin o a b=>evW (.bin o a b) vars (evX vars a) (evX vars b)
 | .zero=>evW .zero vars (zeroVl,0) (zeroVl,0)
 | .lit v=>evW (.lit v) vars (zeroVl,0) (zeroVl,0)
 | .var s=>evW (.var s) vars (zeroVl,0) (zeroVl,0)
def evK (vars:List Bd) (n:Xn) (i:Nat):Vl × Int:=match n.kids[i]? with
 | some a=>evX vars a
 | none=>(zeroVl,0)
theorem xK (vars:List Bd) (n:Xn):evX vars n=evW n vars (evK vars n 0) (evK vars n 1):=by cases n<;>rfl
theorem p9 {n:Xn} (h:chkX n=true) (h1:¬(n.op.toNat:Int)=1) (h2:¬(n.op.toNat:Int)=2) (h5:¬(n.op.toNat:Int)=3) (h6:¬(n.op.toNat:Int)=4):1<n.nk:=by
 rw [RZ] at h
 have h3:=eS h;unfold NY at h3
 split at h3
 ·omega
 ·rename_i h4
  have h5:=odf (C6 (Bool.eq_false_iff.2 h4)).1
  split at h3
  ·rename_i h6
   have:=odt h6
   omega
  ·split at h3
   ·rename_i h7
    have:=odt h7
    omega
   ·omega
theorem sm_kid {k:Nat} {n a:Xn} (h:n.sm k) (ha:a∈n.kids):a.sm k:=by
 cases n with
 | zero=>simp [Xn.kids] at ha
 | lit v=>simp [Xn.kids] at ha
 | var s=>simp [Xn.kids] at ha
 | un o b=>
  simp only [Xn.kids,List.mem_singleton] at ha
  subst ha;exact h
 | bin o b c=>
  simp only [Xn.kids,List.mem_cons,List.not_mem_nil,or_false] at ha
  rcases ha with rfl|rfl
  ·exact h.1
  ·exact h.2
theorem XP {v:Vl} (h:chk v=0):v.text.length≤1048576:=by
 unfold chk at h
 split at h
 ·rename_i hv
  unfold vOk at hv
  repeat' split at hv
  all_goals first
   | (simp only [Bool.and_eq_true,decide_eq_true_eq] at hv;obtain ⟨_,h2⟩:=hv;rw [h2];decide)
   | (simp only [Bool.and_eq_true,decide_eq_true_eq] at hv;omega)
   | cases hv
 ·cases h
def Tx (v:Vl × Int):Prop:=v.1.text=[]
theorem K2 {c:Prop} [Decidable c] {x y:Vl × Int} (h1:Tx x) (h2:Tx y):Tx (if c then x else y):=by
 by_cases h:c
 ·rw [if_pos h];exact h1
 ·rw [if_neg h];exact h2
theorem I2 (n:Int) (ok:Bool):Tx (LM n ok):=K2 rfl rfl
theorem UY (b:Bool) (e:Int):Tx (WA b e):=K2 rfl rfl
def Pt (v:Vl × Int):Prop:=v.2=0→v.1.text.length≤1048576
theorem FJ {c:Prop} [Decidable c] {x y:Vl × Int} (h1:c→Pt x) (h2:¬c→Pt y):Pt (if c then x else y):=by
 by_cases h:c
 ·rw [if_pos h];exact h1 h
 ·rw [if_neg h];exact h2 h
theorem GZ {x:Vl × Int} (h:Tx x):Pt x:=λ_=>by rw [h];decide
theorem S9 (a b:Vl):Tx (LT a b):=K2 rfl (I2 _ _)
theorem nd {x:Int} (h:¬(!decide (x=(0:Int)))=true):x=0:=by simpa using h
theorem oI (k:UInt8) (a b:Vl):Pt (doP k a b):=by
 have e:∀x,Tx (TQ a b x):=λx=>K2 X (UY _ _)
 have l:∀a b x,Tx (NP a b x):=λa b x=>UY _ _
 have ad:Tx (SF a b):=K2 X (I2 _ _);have mu:Tx (UV a b):=K2 X (I2 _ _);have di:Tx (SC a b):=K2 X (K2 (I2 _ _) (I2 _ _));have mo:Tx (SA a b):=K2 X (K2 (I2 _ _) (I2 _ _));have av:Pt (bY a b):=FJ (λ_=>GZ ad) (λ_=>FJ (λ_=>GZ X) (λh _=>XP (nd h)));exact FJ (λ_=>GZ (e _)) λ_=>FJ (λ_=>GZ (e _)) λ_=>FJ (λ_=>GZ (l _ _ _)) λ_=>FJ (λ_=>GZ (l _ _ _)) λ_=>FJ (λ_=>GZ (l _ _ _)) λ_=>FJ (λ_=>GZ (l _ _ _)) λ_=>FJ (λ_=>av) λ_=>FJ (λ_=>GZ (S9 _ _)) λ_=>FJ (λ_=>GZ mu) λ_=>FJ (λ_=>GZ di) λ_=>FJ (λ_=>GZ mo) λ_=>GZ X
theorem MY (n:Xn) (vars:List Bd) (ra rb:Vl × Int) (hs:n.vl.text.length≤1048576) (ha:Pt ra) (hb:Pt rb):Pt (evW n vars ra rb):=by
 unfold evW;refine FJ (λ_ _=>hs) (λ_=>FJ (λ_=>FJ (λ_=>GZ X) (λ_=>FJ (λ_=>GZ X) (λh _=>XP (nd h)))) (λ_=>FJ (λ_=>GZ X) (λhra=>?_)));have A:Pt (ra.1,0):=λ_=>ha (nd hra)
 have B:¬(!decide (rb.2=(0:Int)))=true→Pt (rb.1,0):=λh _=>hb (nd h)
 have D:=oI n.op ra.1 rb.1;have S:=GZ (S9 ⟨1,0,false,[]⟩ ra.1)
 repeat' (first
  | exact D
  | exact S
  | refine FJ (λ_=>?_) (λ_=>?_))
 all_goals first
  | exact GZ rfl
  | exact A
  | exact B (by assumption)
theorem oD (vars:List Bd):∀n:Xn,n.sm 1048576→Pt (evX vars n):=by
 have z:Pt (zeroVl,(0:Int)):=GZ X;intro n
 induction n with
 | zero=>intro h;exact MY _ _ _ _ (Xn.sm_vl h) z z
 | lit v=>intro h;exact MY _ _ _ _ (Xn.sm_vl h) z z
 | var s=>intro h;exact MY _ _ _ _ (Xn.sm_vl h) z z
 | un o a ih=>intro h;exact MY _ _ _ _ (Xn.sm_vl h) (ih h) z
 | bin o a b ih1 ih2=>intro h;exact MY _ _ _ _ (Xn.sm_vl h) (ih1 h.1) (ih2 h.2)
theorem ZH {vars:List Bd} {n:Xn} (i:Nat) (hs:n.sm 1048576):Pt (evK vars n i):=by
 unfold evK
 split
 ·rename_i a ha
  exact oD vars a (sm_kid hs (List.mem_of_getElem? ha))
 ·exact GZ X
theorem LL (A0:Option Addr) (n0 c0:Nat) (f1:FuncId) (u1 v1:Array Value) (a2:Option Nat):prog.built 316 [(0,.slice A0 n0 c0),(1,.func (.func f1) u1 v1),(2,.map a2)]=some #[.slice A0 n0 c0,.func (.func f1) u1 v1,.map a2]:=by kernel_rfl
theorem tQ (gr gm:Nat) (vc:Nat) (vars:List Bd) (hvl:vars.length≤4611686018427387904) (hok:BdOk vars):∀(n:Xn) (A:Option Addr) (F:List Nat) (V:Option Addr) (w:World),n.AtL 112 w A F→chkX n=true→n.sm 1048576→Rd w V (vars.length*5) (AD Bd.cells vars)→Blk w gr 316 [.slice V vars.length vc,.func (.func 221) #[] #[],.map (some gm)]→MpU w gm N3→Lay0 w →
 Calls prog 246 #[pg gr,.agg (n.cells A).toArray] w (BI w (.tuple #[.agg (Vl.cells (evX vars n).1).toArray,AC (evX vars n).2])):=by
 refine Xn.ind λn ih A F V w hA hc hs hV hb hm hY=>?_
 obtain ⟨L,hL,hk,hR,hq⟩:=hA.kids;have h1:n.cells A=NX n A L.length:=by rw [hk];rfl
 have hk0:∀(i:Nat) (q:Xq),L[i]?=some q→n.kids[i]?=some q.1:=λi q h=>by rw [←hL,List.getElem?_map,h];rfl
 have hkm:∀(i:Nat) (q:Xq),L[i]?=some q→q.1∈n.kids:=λi q h=>List.mem_of_getElem? (hk0 i q h)
 rw [h1,xK vars n];refine xJ n A gr gm V vc vars L _ _ w hvl hok hV hb hm hY hR (λh3 h4=>by rw [hk];exact eR hc h3 h4) (λh3 h4 h5 h6=>by rw [hk];exact p9 hc h3 h4 h5 h6) (ZH 0 hs) (ZH 1 hs) ?_ ?_
 ·intro q hx W hW;obtain ⟨F',hF'⟩:=hq q (List.mem_of_getElem? hx)
  have:=ih q.1 (hkm 0 q hx) q.2 F' V W (hF'.fr0 hW) (U0 hc (hkm 0 q hx)) (sm_kid hs (hkm 0 q hx)) (hV.fr0 hW) (hb.fr0 hW) (hm.fr0 hW) (hY.fr0 hW)
  rwa [show evK vars n 0=evX vars q.1 by unfold evK;rw [hk0 0 q hx]]
 ·intro q hx W hW;obtain ⟨F',hF'⟩:=hq q (List.mem_of_getElem? hx)
  have:=ih q.1 (hkm 1 q hx) q.2 F' V W (hF'.fr0 hW) (U0 hc (hkm 1 q hx)) (sm_kid hs (hkm 1 q hx)) (hV.fr0 hW) (hb.fr0 hW) (hm.fr0 hW) (hY.fr0 hW)
  rwa [show evK vars n 1=evX vars q.1 by unfold evK;rw [hk0 1 q hx]]
def rkP (n:Xn) (vars:List Bd):Vl × Int:=(if (!(chkX n))=true then ((⟨0,0,false,[]⟩:Vl),1) else (((evX vars n).1),(evX vars n).2))
theorem gD (n:Xn) (A:Option Addr) (F:List Nat) (V:Option Addr) (vc:Nat) (vars:List Bd) (w:World) (hvl:vars.length≤4611686018427387904) (hok:BdOk vars) (hV:Rd w V (vars.length*5) (AD Bd.cells vars)) (hA:n.AtL 112 w A F) (hs:n.sm 1048576) (hY:Lay0 w) :
 Calls prog 220 #[.agg (n.cells A).toArray,.slice V vars.length vc,.func (.func 221) #[] #[]] w (BI w (.tuple #[.agg (Vl.cells (rkP n vars).1).toArray,AC (rkP n vars).2])):=by
 refine BH func220 ntmps220 X λM=>srg (CC M X X λg3 w1 hg3 M=>CI M X BE λg6 w2 hg6 M=>AJ X (sx_seq (srg (CB M 1 X X underlying112 AO X (CD M 10 X X call190 (ZQ n A F _ (hA.fr0 M.fr) hs (hY.fr0 M.fr).utf) λw3 M=>yb X ?_)))))
 refine nq (AF X (λh11=>?_) (λh11=>?_))
 ·exact srg (ya X (AY (parts:=[]) X X (BW)) (BD M 0 X X AB X λw4 M=>yb X (gnr (qx_then_ret (B1 X X (M.rdBlk 0 X X) underlying100 X AB X ⟨by rw [rkP,if_pos h11]<;>rfl,M.fr⟩)))))
 ·have h11p:=(BL h11);refine sx_skip (qx_seq (AE X (yb X (cl 15 X (AG X X call245) (uC _) ?_))));rintro _ w5 ⟨gm,rfl,hm,hnm,hfw5⟩;refine ⟨_,X,?_⟩;have M:=M.push hfw5 (As.mpU gm N3) hm (λg hg=>by simp only [As.mpU,List.mem_singleton] at hg;subst hg;exact hnm);refine ya X (AY (parts:=[(0,_),(1,_),(2,_)]) X X (LL _ _ _ _ _ _ _)) (D6 M (wn_none X) X X 316 X X ([.slice V vars.length vc,.func (.func 221) #[] #[],.map (some gm)]) X λg17 w6 hg17 M=>AJ X (AE X (CB M 3 X X underlying112 AO X (CD M 20 X X call246 (tQ g17 gm vc vars hvl hok n A F V _ (hA.fr0 M.fr) (by simpa using h11) hs (hV.fr0 M.fr) (M.blk 0 X) (M.ok 1 _ X) (hY.fr0 M.fr)) λw7 M=>AV X X (BD M 2 X X AB X λw8 M=>yb X ?_)))));exact gnr (B1 X X (M.rdBlk 2 X X) underlying100 X AB X ⟨by rw [rkP,AM h11]<;>rfl,M.fr⟩)
theorem oB (n:Xn) (A:Option Addr) (F:List Nat) (V:Option Addr) (vc:Nat) (vars:List Bd) (w:World) (hvl:vars.length≤4611686018427387904) (hok:BdOk vars) (hV:Rd w V (vars.length*5) (AD Bd.cells vars)) (hA:n.AtL 112 w A F) (hs:n.sm 1048576) (hY:Lay0 w) :
 Calls prog 201 #[.agg (n.cells A).toArray,.slice V vars.length vc] w (BI w (.tuple #[.agg (Vl.cells (rkP n vars).1).toArray,AC (rkP n vars).2])):=by
 refine BH func201 ntmps201 X λM=>srg (CC M X X λg2 w1 hg2 M=>CI M X BE λg4 w2 hg4 M=>AJ X (srg (CB M 1 X X underlying112 AO X (yb X (CD M 8 X X call220 (gD n A F V vc vars _ hvl hok (hV.fr0 M.fr) (hA.fr0 M.fr) hs (hY.fr0 M.fr)) λw3 M=>yb X ?_)))))
 exact yb X (BD M 0 X X AB X λw4 M=>yb X (gnr (B1 X X (M.rdBlk 0 X X) underlying100 X AB X ⟨X,M.fr⟩)))
def evB (n:Xn) (vars:List Bd):Bool × Int:=(if (!decide ((rkP n vars).2=(0:Int)))=true then (false,(rkP n vars).2) else (if (!decide ((((rkP n vars).1).kind.toNat:Int)=(2:Int)))=true then (false,90) else (((rkP n vars).1).bool,0)))
theorem iV (n:Xn) (A:Option Addr) (F:List Nat) (V:Option Addr) (vc:Nat) (vars:List Bd) (w:World) (hvl:vars.length≤4611686018427387904) (hok:BdOk vars) (hV:Rd w V (vars.length*5) (AD Bd.cells vars)) (hA:n.AtL 112 w A F) (hs:n.sm 1048576) (hY:Lay0 w) :
 Calls prog 182 #[.agg (n.cells A).toArray,.slice V vars.length vc] w (BI w (.tuple #[.bool (evB n vars).1,AC (evB n vars).2])):=by
 refine BH func182 ntmps182 X λM=>srg (CC M X X λg2 w1 hg2 M=>yb X (AJ X (srg (CB M 0 X X underlying112 AO X (yb X (CD M 11 X X call201 (oB n A F V vc vars _ hvl hok (hV.fr0 M.fr) (hA.fr0 M.fr) hs (hY.fr0 M.fr)) λw2 M=>AV X X ?_))))))
 refine yb X (CI M X BE λg6 w3 hg6 M=>BD M 0 X X AB X λw4 M=>AJ X (sx_seq (sx_block (AE X (CT X X (yb X (sxl_nil ?_)))))));refine qx_seq (AF X (λh14=>?_) (λh14=>?_))
 ·exact AE X (AV X X (gnr (qx_block_ret (qx_then_ret (C4 X X X ⟨by rw [evB,if_pos h14]<;>rfl,M.fr⟩)))))
 ·refine AE X (AU M 0 X X X (CT X X (AJ X (AF X (λh18=>?_) (λh18=>?_)))))
  ·exact AE X (yb X (gnr (qx_block_ret (qx_then_ret (C4 X X X ⟨by rw [evB,AM h14,if_pos h18]<;>rfl,M.fr⟩)))))
  ·exact sx_skip (qx_block_normal (qx_seq (AE X (AU M 0 X X X (AV X X (gnr (C4 X X X ⟨by rw [evB,AM h14,AM h18]<;>rfl,M.fr⟩)))))))
open Go.RowKit Go.Sort
theorem NG (zs:List Int):AD OD zs=zs.map (Value.int .i64):=by
 induction zs with
 | nil=>rfl
 | cons z r ih=>rw [List.map_cons,←ih];rfl
def HU (zs:List Int):List Int:=zs.mergeSort λx y=>decide (x≤y)
theorem Q4 (zs:List Int):(HU zs).length=zs.length:=List.length_mergeSort zs
theorem r7 {A:Option Addr} {c n base:Nat} {zs:List Int} (w:World) (hn:zs.length=n) (hown:w.ownsRow base 3 1 (.slice A n c) n (AD OD zs)) (hl:n<4611686018427387904) :
 Calls prog 185 #[.slice A n c] w λe w'=>e=.returned (.tuple #[])∧w'.ownsRow base 3 1 (.slice A n c) n (AD OD (HU zs))∧Fr (λk=>k∈(Value.slice A n c).ownBlock.toList) w w':=by
 subst hn;rcases hown.2 with ⟨hv,h0⟩|⟨g,cap,cur,hv,hb,hg,hc,hm,hs,ht⟩
 ·have hz:zs=[]:=List.length_eq_zero_iff.1 h0;subst hz;refine (Tryz.slices_Sort_int_none A c w).mono ?_;rintro e w' ⟨rfl,rfl⟩;exact ⟨X,by rw [show HU []=[] by simp [HU]];exact hown,Fr.refl⟩
 ·injection hv with hA _ hc'
  subst hA;subst hc';have ht':cur.toList.take zs.length=zs.map (Value.int .i64):=by rw [←NG];simpa using ht
  refine (Tryz.slices_Sort_int g 0 c zs w (Go.holds_of_blockI hg ht') (Array.getElem?_eq_some_iff.1 hg).1 hl).mono ?_;rintro e w' ⟨rfl,n,os,rfl⟩;have h2:=Go.grownBy_sortedI (w:=w) (g:=g) (n:=n) (os:=os) (HU zs).toArray;refine ⟨X,?_,h2.os,h2.tape,h2.output,h2.size,λk hk hn=>h2.block k hk ?_⟩
  ·rw [NG];exact Go.ownsRow_sortedI (Q4 zs) hb hg hc hm hs
  ·intro e;exact hn (by simp [Value.ownBlock,←e])
theorem yT (w:World):w=grow w #[]:=by
 unfold grow
 simp
theorem vZ {A:Option Addr} {c n base:Nat} {zs:List Int} (w:World) (hn:zs.length=n) (hown:w.ownsRow base 3 1 (.slice A n c) n (AD OD zs)) (hl:n<4611686018427387904) :
 Calls prog 186 #[.slice A n c] w λe w'=>e=.returned (.tuple #[])∧w'.ownsRow base 3 1 (.slice A n c) n (AD OD zs.reverse)∧Fr (λk=>k∈(Value.slice A n c).ownBlock.toList) w w':=by
 subst hn;rcases hown.2 with ⟨hv,h0⟩|⟨g,cap,cur,hv,hb,hg,hc,hm,hs,ht⟩
 ·have hz:zs=[]:=List.length_eq_zero_iff.1 h0;subst hz;refine (Tryz.slices_Reverse_int_empty A c w).mono ?_;rintro e w' ⟨rfl,rfl⟩;exact ⟨X,hown,Fr.refl⟩
 ·injection hv with hA _ hc'
  subst hA;subst hc';have ht':cur.toList.take zs.length=zs.map (Value.int .i64):=by rw [←NG];simpa using ht
  refine (Tryz.slices_Reverse_int g 0 c zs w (Go.holds_of_blockI hg ht') AA).mono ?_;rintro e w' ⟨rfl,n,rfl⟩;rw [yT (putRow _ _ _ _ _)];have h2:=Go.grownBy_sortedI (w:=w) (g:=g) (n:=n) (os := #[]) zs.reverse.toArray;refine ⟨X,?_,h2.os,h2.tape,h2.output,h2.size,λk hk hn=>h2.block k hk ?_⟩
  ·rw [NG];exact Go.ownsRow_sortedI (List.length_reverse) hb hg hc hm hs
  ·intro e;exact hn (by simp [Value.ownBlock,←e])
section
def RK (c:CrA) (q:List UInt8):Xn:=match c.cnd q with
 | some s=>(CQ s).1
 | none=>.zero
def j7 (c:CrA) (q:List UInt8):Option Addr:=match c.cnd q with
 | some _=>c.aC q
 | none=>none
theorem tZ (c:CrA) (q:List UInt8):(RK c q).sm 1048576:=by
 unfold RK
 split
 ·exact SX _
 ·trivial
section
variable {w:World} {m:Md} {gc:Nat} {c:CrA} {F:List Nat} (h:CourseN w m gc c F) (q:List UInt8)
include h
theorem xR : ∃F',(RK c q).AtL 112 w (j7 c q) F':=by
 unfold RK j7
 cases hc:c.cnd q with
 | none=>exact ⟨[],Xn.AtL.leaf rfl⟩
 | some s=>obtain ⟨F',h1,_⟩:=h.ndC q s hc;exact ⟨F',h1⟩
theorem tY : (CA c.LC q).getD (.agg (Xn.cells .zero none).toArray)=.agg (Xn.cells (RK c q) (j7 c q)).toArray:=by
 rw [h.getC q];unfold RK j7
 cases c.cnd q<;>rfl
theorem xQ : (CA c.LC q).isSome=(c.cnd q).isSome:=by
 rw [h.getC q];cases c.cnd q<;>rfl
end
def Ar.stopd (a:Ar):Ar:=⟨a.flow,a.order,a.rests,a.at_,true⟩
theorem bK {l:List Ar} {i:Nat} {x:Ar} (hx:l[i]?=some x):(AD Ar.cells l).set (i*5+4) (.bool true)=AD Ar.cells (l.set i x.stopd):=by
 induction l generalizing i with
 | nil=>simp at hx
 | cons a r ih=>
  cases i with
  | zero=>
   simp only [List.getElem?_cons_zero,Option.some.injEq] at hx;subst hx
   rfl
  | succ i=>
   have h1:(AD Ar.cells (a::r))=a.cells++AD Ar.cells r:=by simp [AD]
   have h2:(AD Ar.cells ((a::r).set (i+1) x.stopd))=a.cells++AD Ar.cells (r.set i x.stopd):=by simp [AD]
   rw [h1,h2,List.set_append_right _ _ (by rw [Ar.len];omega),Ar.len,show (i+1)*5+4-5=i*5+4 by omega,ih (by simpa using hx)]
def chF (c:CrA) (vs:List Bd):List (List UInt8)→List UInt8→Option (List UInt8)
 | [],d=>some d
 | q::r,d=>if (!(c.cnd q).isSome)=true then chF c vs r d else if (!decide ((evB (RK c q) vs).2=(0:Int)))=true then none else if (evB (RK c q) vs).1=true then some q else chF c vs r d
def chP (c:CrA) (vs:List Bd) (x:El):Option (List UInt8):=if (decide ((1:Int)<(((c.outs x.id).length:Nat):Int)))=true then chF c vs (c.outs x.id) x.dflt else some (((c.outs x.id)[0]?).getD [])
def Mo.choose (σ:Mo) (c:CrA) (vs:List Bd) (i:Nat) (a:Ar) (x:El):Mo:=match chP c vs x with
 | some q=>⟨σ.on.eraseIdx i++[(⟨q,((σ.came+1:Nat):Int),0,[],false⟩:Ar)],σ.done,σ.fired++[((((x.id++[32])++a.flow)++[32])++q)],σ.came+1⟩
 | none=>⟨σ.on.set i a.stopd,σ.done,σ.fired,σ.came⟩
def jIx (on:List Ar) (f:List UInt8):Int:=ixJ (λ(_:Nat) (b:Ar)=>decide (b.flow=f)) 0 on
def erI (l:List Ar) (k:Int):List Ar:=l.eraseIdx k.toNat
def Mo.join (σ:Mo) (c:CrA) (x:El):Mo:=Mo.puts ⟨((HU ((c.ins x.id).map (jIx σ.on))).reverse).foldl erI σ.on,σ.done,σ.fired++[x.id],σ.came⟩ (c.outs x.id)
def okE : List Int→Nat→Prop
 | [],_=>True
 | k::r,n=>0≤k∧k<(n:Int)∧okE r (n-1)
theorem XC {w:World} {g off:Nat} {u v:Value} (h1:Cell w.heap g off u) (h2:Cell w.heap g off v):v=u:=Option.some.inj ((h2.get w rfl).symm.trans (h1.get w rfl))
theorem lR {w:World} {A:Option Addr} {n k:Nat} {xs:List Value} (h:Rd w A n xs) (hn:n=k):Rd w A k xs:=hn▸h
theorem wH {l:List Ar} {ks:List Int} {j:Nat} {z:Int} (h:okE (ks.drop j) l.length) (hz:ks[j]?=some z):∃kn:Nat,z=(kn:Int)∧kn<l.length:=by
 rw [AZ hz] at h
 exact ⟨z.toNat,by have:=h.1;omega,by have:=h.1;have:=h.2.1;omega⟩
theorem mA {l:List Ar} {ks:List Int} {j kn:Nat} (h:okE (ks.drop j) l.length) (hz:ks[j]?=some (kn:Int)):okE (ks.drop (j+1)) (l.eraseIdx kn).length:=by
 rw [AZ hz] at h
 rw [List.length_eraseIdx_of_lt (by have:=h.2.1;omega)];exact h.2.2
theorem YR : ∀{l:List Int} {n:Nat},l.Pairwise (λa b=>b<a)→(∀x∈l,0≤x∧x<(n:Int))→okE l n
 | [],_,_,_=>trivial
 | k::r,n,hp,hb=>by
  rw [List.pairwise_cons] at hp
  have hk:=hb k List.mem_cons_self;exact ⟨hk.1,hk.2,YR hp.2 λx hx=>⟨(hb x (List.mem_cons_of_mem _ hx)).1,by have:=hp.1 x hx;omega⟩⟩
theorem wY {on:List Ar} {f:List UInt8}:∀(i:Nat),0≤ixJ (λ(_:Nat) (b:Ar)=>decide (b.flow=f)) i on→∃j a,ixJ (λ(_:Nat) (b:Ar)=>decide (b.flow=f)) i on=((i+j:Nat):Int)∧on[j]?=some a∧a.flow=f:=by
 induction on with
 | nil=>intro i h;simp [ixJ] at h
 | cons b r ih=>
  intro i h;unfold ixJ at h ⊢
  by_cases hb:b.flow=f
  ·exact ⟨0,b,by rw [if_pos (by simpa using hb)];rfl,rfl,hb⟩
  ·rw [if_neg (by simpa using hb)] at h ⊢
   obtain ⟨j,a,h1,h2,h3⟩:=ih (i+1) h;exact ⟨j+1,a,by rw [h1];congr 1;omega,by simpa using h2,h3⟩
theorem bH {on:List Ar} {f:List UInt8} (h:0≤jIx on f):∃j a,jIx on f=((j:Nat):Int)∧on[j]?=some a∧a.flow=f:=by
 obtain ⟨j,a,h1,h2,h3⟩:=wY 0 h;exact ⟨j,a,by unfold jIx;rw [h1,Nat.zero_add],h2,h3⟩
theorem sC {on:List Ar} {l:List (List UInt8)} {acc:List Int} (hn:l.Nodup) (ha:acc=l.map (jIx on)) (hb:l.all (λf=>decide (0≤jIx on f))=true):okE (HU acc).reverse on.length:=by
 have hb':∀f∈l,0≤jIx on f:=λf hf=>by simpa using List.all_eq_true.1 hb f hf
 have hm:∀x,x∈(HU acc).reverse↔x∈acc:=λx=>by
  rw [List.mem_reverse];unfold HU;exact (List.mergeSort_perm _ _).mem_iff
 have hnd:acc.Nodup:=by
  rw [ha,List.nodup_iff_pairwise_ne,List.pairwise_map];rw [List.nodup_iff_pairwise_ne] at hn
  refine hn.imp_of_mem λ{f g} hf hg hne he=>?_
  obtain ⟨j,a,h1,h2,h3⟩:=bH (hb' f hf);obtain ⟨j',a',h1',h2',h3'⟩:=bH (hb' g hg)
  have:j=j':=by omega
  subst this;rw [h2] at h2'
  injection h2' with h2'
  exact hne (h3.symm.trans ((congrArg Ar.flow h2').trans h3'))
 refine YR ?_ λx hx=>?_
 ·rw [List.pairwise_reverse];have hs:(HU acc).Pairwise (λa b=>decide (a≤b)=true):=List.pairwise_mergeSort (λa b c=>by simp only [decide_eq_true_eq];omega) (λa b=>by simp only [Bool.or_eq_true,decide_eq_true_eq];omega) acc;have hnd2:(HU acc).Nodup:=(List.mergeSort_perm _ _).nodup_iff.2 hnd;rw [List.nodup_iff_pairwise_ne] at hnd2
  refine (hs.and hnd2).imp λ{a b} h=>?_
  have h1:=odt h.1;have h2:=h.2;omega
 ·rw [hm,ha] at hx
  obtain ⟨f,hf,rfl⟩:=List.mem_map.1 hx;obtain ⟨j,a,h1,h2,_⟩:=bH (hb' f hf)
  have:=(List.getElem?_eq_some_iff.1 h2).1
  omega
theorem n8 {gc vn vc gx:Nat} {V:Option Addr} {c:CrA} {x:El} {on on1 on2 dn:List Ar} {fi fi1:List (List UInt8)} {cm cm1:Nat} {F F':List Nat} {w w':World} {Ls:List As} {acc ks:List Int} (hks:ks=(HU acc).reverse) (hac:acc=(c.ins x.id).map (jIx on)) (h1:fi1=fi++[x.id]) (hE1:on1=ks.foldl erI on) (hE3:(⟨on2,dn,fi1,cm1⟩:Mo)=Mo.puts ⟨on1,dn,fi1,cm⟩ (c.outs x.id))
 (M:Mem w (λk=>k∈F) (As.mo gc V vn vc gx ⟨on2,dn,fi1,cm1⟩ F'::Ls) w'):QV gc V vn vc gx (if true=true then Mo.join ⟨on,dn,fi,cm⟩ c x else ⟨on,dn,fi,cm⟩) F w w':=by
 rw [if_pos rfl,Mo.join];rw [hE3,hE1,hks,hac,h1] at M
 exact GX M
theorem nK : (prog.info? 3).map (λi=>(i.zero,i.size,i.bytes))=some (some (AC 0),1,8):=by kernel_rfl
theorem eY : (prog.info? 9).map (·.zero)=some (some (str [])):=by kernel_rfl
theorem j8 (we:World) (m:Md) (gc:Nat) (c:CrA) (Fc:List Nat) (V:Option Addr) (vc gx:Nat) (vs:List Bd) (σ:Mo) (F:List Nat) (i:Nat) (a:Ar) (x:El) (w:World) (ho:MdOk m) (h1:σ.on.length≤500000) (h2:σ.fired.length≤500000) (h3:σ.came≤500000000) (hne:0<(c.outs x.id).length) (hql:∀q∈(c.outs x.id),q.length≤100000) (hdl:x.dflt.length≤100000) (hal:a.flow.length≤100000) (hvl:vs.length≤4611686018427387904) (hok:BdOk vs) (hV:Rd we V (vs.length*5) (AD Bd.cells vs)) (hY:Lay0 we) (ha:σ.on[i]?=some a) (_hx:x.id.length≤100000) (hC:CourseN we m gc c Fc) (hwe:Fr0 we w) (hFe:∀g∈F,we.heap.size≤g) (hN:MoN w gc V vs.length vc gx σ F) :
 Calls prog 153 #[pg gx,AC (i:Int),.agg x.cells.toArray] w λe w'=>e=.returned (.bool (chP c vs x).isSome)∧QV gc V vs.length vc gx (σ.choose c vs i a x) F w w'∧((chP c vs x).isSome=false→∀u,Cell w.heap gx 2 u→Cell w'.heap gx 2 u):=by
 obtain ⟨on,dn,fi,cm⟩:=σ
 dsimp only at h1 h2 h3 ha
 have hil:i<on.length:=(List.getElem?_eq_some_iff.1 ha).1;have hnf:=ho.nfls;have hol:=hC.lenO x.id;have hAn:=λq=>xR hC q
 refine sx_enter (vs:=[_,_,_]) func153 X ntmps153 X ?_;have M:Mem w (λk=>k∈F) [As.mo gc V vs.length vc gx (⟨on,dn,fi,cm⟩:Mo) F] w:=Mem.oneMo hN;obtain ⟨x1,M⟩:=Mem.openMo M
 replace M:Mem w (λk=>k∈F) [As.blk gx 137 [pg gc,.slice V vs.length vc,.slice x1.A on.length x1.a,.slice x1.B dn.length x1.b,.slice x1.C fi.length x1.c,AC (cm:Int)],As.own 0 139 5 (.slice x1.A on.length x1.a) on.length (AD Ar.cells on),As.own 0 139 5 (.slice x1.B dn.length x1.b) dn.length (AD Ar.cells dn),As.own 0 9 1 (.slice x1.C fi.length x1.c) fi.length (AD C0 fi)] w:=M
 have hc0:=M.cell 0 (off:=2) X X;refine srg (CC M X X λg5 w1 hg5 M=>AJ X (sx_seq (E8 CH gkr ?_)));have M:=M.drew;refine sb X (sb X (sb X (EB M 1 X X X (sb X (sb X (sa X (BF X X (sc X) (Blk.c ((hC.fr0 (BT hwe M.fr hFe)).blk) 8 X)) (sb X (EB M 0 X X X (sa X (BK X X X underlying87 underlying9 D4 ((hC.fr0 (BT hwe M.fr hFe)).O) (hC.getO _)) (sb X (EX (qx_seq (AE X ?_)))))))))))));obtain ⟨z0,hz0⟩:=BM (l:=(c.outs x.id)) (i:=0) AA;obtain ⟨b_z0,o_z0,hA_z0⟩:=B5 (k:=1) AA ((hC.fr0 (BT hwe M.fr hFe)).rdO _) hz0;have hl_z0:=hql z0 (List.mem_of_getElem? hz0);refine ya X (AN 0 hA_z0 X X X (sl X) AA) (ya X (BF X X (sc X) (D9 DQ ((hC.fr0 (BT hwe M.fr hFe)).rdO _) hA_z0 hz0 0 X)) (AJ X (sx_seq (AE X (DF X X (IM X X (nq (AF X (λh30=>?_) (λh30=>?_)))))))))
 ·have h30p:=(odt h30);refine AE X (AU M 0 X X X (AJ X (AE X (DF X X (AJ X (sx_block (JJ M [34,33,8,5,1,0] (λze zF e wr mz=>∃(j:Nat),e=(35,AC (j:Int))::ze∧zF wr∧(j≤(c.outs x.id).length)∧(chF c vs (c.outs x.id) x.dflt=chF c vs ((c.outs x.id).drop j) x.dflt)∧mz=(c.outs x.id).length-j) ⟨0,X,M,Nat.zero_le _,X,X⟩ ?_)))))));rintro _ w2 _ ⟨j,rfl,M,hj,hE,rfl⟩;refine srg (BB X X (nq (sx_seq (AF X (λh36=>?_) (λh36=>?_)))))
  ·have h36p:=(odt h36);refine sx_skip (qx_seq (sx_seq (sx_block (srg ?_))));obtain ⟨q,hq⟩:=BM (l:=(c.outs x.id)) (i:=j) AA;obtain ⟨b_q,o_q,hA_q⟩:=B5 (k:=1) AA ((hC.fr0 (BT hwe M.fr hFe)).rdO _) hq;have hl_q:=hql q (List.mem_of_getElem? hq);refine ya X (AN j hA_q X X X (sl X) AA) (ya X (BF X X (sc X) (D9 DQ ((hC.fr0 (BT hwe M.fr hFe)).rdO _) hA_q hq 0 X)) (AJ X (AE X (AV X X (AU M 1 X X X (AV X X (ya X (BF X X (sc X) (Blk.c ((hC.fr0 (BT hwe M.fr hFe)).blk) 9 X)) (yb X (ya X (DM X X X underlying88 underlying9 CW ((hC.fr0 (BT hwe M.fr hFe)).C) (tY hC _) (xQ hC _)) ?_)))))))));refine AV X X (yb X (CI M X CW λg11 w3 hg11 M=>BD M 0 X X AO X λw4 M=>AJ X (sx_seq (AE X (yb X (sxl_nil ?_))))));refine qx_seq (AF X (λh52=>?_) (λh52=>?_))
   ·have h52p:=(C5 h52);refine sx_exit (qx_then_exit (qx_block_hit (qx_seq (sx_region (BV X X (yb X (sxl_nil (fag ⟨j+1,X,(M.pk [1,2,3,4,5]),?_,?_,X⟩))))))))
    ·omega
    ·first
      | rw [hE,AZ hq,chF,if_pos h52]
      | rw [hE,AZ hq,chF,AM h52,AM h63,AM h71]
   ·have h52p:=(BL h52);refine sx_skip (qx_seq (sx_seq (GP M 11 CH λM=>oa 0 11 X X M (λ_ M=>AK (xs:=Xn.cells (RK c q) (j7 c q)) X X (M.rdBlk 0 X X) underlying112 X AO) (oc 1 11 X X M (oc 2 11 X X M (oc 3 11 X X M (ol 4 11 X X X M (λ_ M=>(M.cell 2 X X)) (BQ 5 (some 59) gkr X (wn_none X) X X (AG X X call182) (iV (RK c q) (j7 c q) _ V vc vs _ hvl hok (hV.fr0 (BT hwe M.fr hFe)) ((hAn q).choose_spec.fr0 (BT hwe M.fr hFe)) (tZ c q) (hY.fr0 (BT hwe M.fr hFe))) ?_))))))));rintro _ w5 ⟨rfl,hfw5⟩;refine ⟨_,X,λ_=>M.step hfw5,?_⟩;have M:=M.step hfw5;refine oc 6 11 X X M (oc 7 11 X X M (oc 8 11 X X M (oc 9 11 X X M (oc 10 11 X X M (fdn (qx_seq (sx_seq (AE X (CT X X (nq (AF X (λh63=>?_) (λh63=>?_))))))))))))
    ·have h63p:=(odf (C5 h63));refine AE X (AV X X (AU M 2 X X X (yb X ?_)));obtain ⟨g69,hA69⟩:=m5 (M.own 3 X) AA;refine ya X (AN i hA69 X X X (sl X) AA) (yb X (kW (xs':=AD Ar.cells (on.set i a.stopd)) M 3 (wn_none X) X hA69 X X X X X X RP AA (by rw [Nat.zero_add];exact bK ha) λw6 M=>nq (AE X (gnr (qx_then_ret (qx_block_ret (qx_then_ret (qx_then_ret ?_))))))));refine qx_block_ret (qx_then_ret (gr1 X ?_));have hE2:chP c vs x=none:=by rw [chP,if_pos h30,hE,AZ hq,chF,AM h52,if_pos h63]
     have hc1:=M.cell 2 (off:=2) X X;obtain ⟨F6,M⟩:=Mem.closeMo (M.pk [2,3,4,5,0,1]) (e1:=by simp);exact ⟨by rw [hE2];rfl,by rw [Mo.choose,hE2];exact GX (M.pk [0]),λ_ u hu=>XC hu hc0▸hc1⟩
    ·have h63p:=(odt (BL h63));refine sx_skip (qx_seq (srg (AJ X (AF X (λh71=>?_) (λh71=>?_)))))
     ·refine AE X (AJ X (sx_exit (FS X (qx_then_exit (qx_then_exit (qx_block_hit (qx_seq (sx_seq (CY 16 CH gkr ?_)))))))));have M:=M.drew;refine sb X (sb X (EB M 1 X X X (sa X (FV X X X C2) (sb X (sb X (sb X (EB M 2 X X X (sb X ?_))))))));obtain ⟨b7_a,o7_a,hA7_a⟩:=B5 (k:=5) AA (M.rdOwn 3 X) ha;refine sa X (AN i hA7_a X X X (sl X) AA) (sb X (sd X X (D9 Ar.len (M.rdOwn 3 X) hA7_a ha 0 X) (sa X (FV X X X C2) (sa X (FV X X X C2) (sb X (sa X (FV X X X C2) (C8 ?_)))))));obtain ⟨F8,M⟩:=Mem.closeMo (M.pk [2,3,4,5,0,1]);refine cl 90 X (AG X X call180) (LG gc V vs.length vc gx (⟨on,dn,fi,cm⟩:Mo) F8 ((((x.id++[32])++a.flow)++[32])++q) _ (by first|omega|(simp;omega)|(simp [List.length_eraseIdx];split<;>omega)) (M.ok 0 _ X)) ?_;rintro _ w7 ⟨rfl,F9,hNw7,hqw7,hfw7⟩;refine ⟨_,X,?_⟩;have M:=M.updMo 0 X (σ':=(⟨on,dn,fi++[((((x.id++[32])++a.flow)++[32])++q)],cm⟩:Mo)) hNw7 hqw7 hfw7;refine nq (AE X (yb X (cl 93 X (AG X X call181) (L3 gc V vs.length vc gx (⟨on,dn,fi++[((((x.id++[32])++a.flow)++[32])++q)],cm⟩:Mo) F9 i _ (by first|omega|(simp;omega)|(simp [List.length_eraseIdx];split<;>omega)) C2 (M.ok 0 _ X)) ?_)));rintro _ w8 ⟨rfl,F10,hNw8,hqw8,hfw8⟩;refine ⟨_,X,?_⟩;have M:=M.updMo 0 X (σ':=(⟨on.eraseIdx i,dn,fi++[((((x.id++[32])++a.flow)++[32])++q)],cm⟩:Mo)) hNw8 hqw8 hfw8;refine nq (AE X (yb X (cl 96 X (AG X X call53) (O9 gc V vs.length vc gx (⟨on.eraseIdx i,dn,fi++[((((x.id++[32])++a.flow)++[32])++q)],cm⟩:Mo) F10 q _ (by first|omega|(simp;omega)|(simp [List.length_eraseIdx];split<;>omega)) (by first|omega|(simp;omega)|(simp [List.length_eraseIdx];split<;>omega)) (M.ok 0 _ X)) ?_)));rintro _ w9 ⟨rfl,F11,hNw9,hqw9,hfw9⟩;refine ⟨_,X,?_⟩;have M:=M.updMo 0 X (σ':=(⟨on.eraseIdx i++[(⟨q,((cm+1:Nat):Int),0,[],false⟩:Ar)],dn,fi++[((((x.id++[32])++a.flow)++[32])++q)],cm+1⟩:Mo)) hNw9 hqw9 hfw9;refine nq (AE X (gnr (gr1 X ?_)));have hE2:chP c vs x=some q:=by rw [chP,if_pos h30,hE,AZ hq,chF,AM h52,AM h63,if_pos h71]
      exact ⟨by rw [hE2];rfl,by rw [Mo.choose,hE2];exact GX (M.pk [0]),λhn=>by rw [hE2] at hn;cases hn⟩
     ·refine sx_skip (qx_block_normal (qx_seq (sx_region (BV X X (yb X (sxl_nil (fag ⟨j+1,X,(M.pk [1,2,3,4,5]),?_,?_,X⟩)))))))
      ·omega
      ·first
        | rw [hE,AZ hq,chF,if_pos h52]
        | rw [hE,AZ hq,chF,AM h52,AM h63,AM h71]
  ·have h36p:=(odf h36);refine sx_exit (qx_then_exit (qx_then_exit (qx_block_hit (qx_seq (sx_seq (CY 16 CH gkr ?_))))));have M:=M.drew;refine sb X (sb X (EB M 0 X X X (sa X (FV X X X C2) (sb X (sb X (sb X (EB M 1 X X X (sb X ?_))))))));obtain ⟨b12_a,o12_a,hA12_a⟩:=B5 (k:=5) AA (M.rdOwn 2 X) ha;refine sa X (AN i hA12_a X X X (sl X) AA) (sb X (sd X X (D9 Ar.len (M.rdOwn 2 X) hA12_a ha 0 X) (sa X (FV X X X C2) (sa X (FV X X X C2) (sb X (sa X (FV X X X C2) (C8 ?_)))))));obtain ⟨F13,M⟩:=Mem.closeMo (M.pk [1,2,3,4,0]);refine cl 90 X (AG X X call180) (LG gc V vs.length vc gx (⟨on,dn,fi,cm⟩:Mo) F13 ((((x.id++[32])++a.flow)++[32])++x.dflt) _ (by first|omega|(simp;omega)|(simp [List.length_eraseIdx];split<;>omega)) (M.ok 0 _ X)) ?_;rintro _ w10 ⟨rfl,F14,hNw10,hqw10,hfw10⟩;refine ⟨_,X,?_⟩;have M:=M.updMo 0 X (σ':=(⟨on,dn,fi++[((((x.id++[32])++a.flow)++[32])++x.dflt)],cm⟩:Mo)) hNw10 hqw10 hfw10;refine nq (AE X (yb X (cl 93 X (AG X X call181) (L3 gc V vs.length vc gx (⟨on,dn,fi++[((((x.id++[32])++a.flow)++[32])++x.dflt)],cm⟩:Mo) F14 i _ (by first|omega|(simp;omega)|(simp [List.length_eraseIdx];split<;>omega)) C2 (M.ok 0 _ X)) ?_)));rintro _ w11 ⟨rfl,F15,hNw11,hqw11,hfw11⟩;refine ⟨_,X,?_⟩;have M:=M.updMo 0 X (σ':=(⟨on.eraseIdx i,dn,fi++[((((x.id++[32])++a.flow)++[32])++x.dflt)],cm⟩:Mo)) hNw11 hqw11 hfw11;refine nq (AE X (yb X (cl 96 X (AG X X call53) (O9 gc V vs.length vc gx (⟨on.eraseIdx i,dn,fi++[((((x.id++[32])++a.flow)++[32])++x.dflt)],cm⟩:Mo) F15 x.dflt _ (by first|omega|(simp;omega)|(simp [List.length_eraseIdx];split<;>omega)) (by first|omega|(simp;omega)|(simp [List.length_eraseIdx];split<;>omega)) (M.ok 0 _ X)) ?_)));rintro _ w12 ⟨rfl,F16,hNw12,hqw12,hfw12⟩;refine ⟨_,X,?_⟩;have M:=M.updMo 0 X (σ':=(⟨on.eraseIdx i++[(⟨x.dflt,((cm+1:Nat):Int),0,[],false⟩:Ar)],dn,fi++[((((x.id++[32])++a.flow)++[32])++x.dflt)],cm+1⟩:Mo)) hNw12 hqw12 hfw12;refine nq (AE X (gnr (gr1 X ?_)));obtain rfl:j=(c.outs x.id).length:=by omega
   have hE2:chP c vs x=some x.dflt:=by rw [chP,if_pos h30,hE,List.drop_length];rfl
   exact ⟨by rw [hE2];rfl,by rw [Mo.choose,hE2];exact GX (M.pk [0]),λhn=>by rw [hE2] at hn;cases hn⟩
 ·have h30p:=(odf h30);refine sx_skip (qx_seq (sx_seq (CY 16 CH gkr ?_)));have M:=M.drew;refine sb X (sb X (EB M 0 X X X (sa X (FV X X X C2) (sb X (sb X (sb X (EB M 1 X X X (sb X ?_))))))));obtain ⟨b17_a,o17_a,hA17_a⟩:=B5 (k:=5) AA (M.rdOwn 2 X) ha;refine sa X (AN i hA17_a X X X (sl X) AA) (sb X (sd X X (D9 Ar.len (M.rdOwn 2 X) hA17_a ha 0 X) (sa X (FV X X X C2) (sa X (FV X X X C2) (sb X (sa X (FV X X X C2) (C8 ?_)))))));obtain ⟨F18,M⟩:=Mem.closeMo (M.pk [1,2,3,4,0]);refine cl 90 X (AG X X call180) (LG gc V vs.length vc gx (⟨on,dn,fi,cm⟩:Mo) F18 ((((x.id++[32])++a.flow)++[32])++z0) _ (by first|omega|(simp;omega)|(simp [List.length_eraseIdx];split<;>omega)) (M.ok 0 _ X)) ?_;rintro _ w13 ⟨rfl,F19,hNw13,hqw13,hfw13⟩;refine ⟨_,X,?_⟩;have M:=M.updMo 0 X (σ':=(⟨on,dn,fi++[((((x.id++[32])++a.flow)++[32])++z0)],cm⟩:Mo)) hNw13 hqw13 hfw13;refine nq (AE X (yb X (cl 93 X (AG X X call181) (L3 gc V vs.length vc gx (⟨on,dn,fi++[((((x.id++[32])++a.flow)++[32])++z0)],cm⟩:Mo) F19 i _ (by first|omega|(simp;omega)|(simp [List.length_eraseIdx];split<;>omega)) C2 (M.ok 0 _ X)) ?_)));rintro _ w14 ⟨rfl,F20,hNw14,hqw14,hfw14⟩;refine ⟨_,X,?_⟩;have M:=M.updMo 0 X (σ':=(⟨on.eraseIdx i,dn,fi++[((((x.id++[32])++a.flow)++[32])++z0)],cm⟩:Mo)) hNw14 hqw14 hfw14;refine nq (AE X (yb X (cl 96 X (AG X X call53) (O9 gc V vs.length vc gx (⟨on.eraseIdx i,dn,fi++[((((x.id++[32])++a.flow)++[32])++z0)],cm⟩:Mo) F20 z0 _ (by first|omega|(simp;omega)|(simp [List.length_eraseIdx];split<;>omega)) (by first|omega|(simp;omega)|(simp [List.length_eraseIdx];split<;>omega)) (M.ok 0 _ X)) ?_)));rintro _ w15 ⟨rfl,F21,hNw15,hqw15,hfw15⟩;refine ⟨_,X,?_⟩;have M:=M.updMo 0 X (σ':=(⟨on.eraseIdx i++[(⟨z0,((cm+1:Nat):Int),0,[],false⟩:Ar)],dn,fi++[((((x.id++[32])++a.flow)++[32])++z0)],cm+1⟩:Mo)) hNw15 hqw15 hfw15;refine nq (AE X (gnr (gr1 X ?_)));have hE2:chP c vs x=some z0:=by rw [chP,AM h30,hz0];rfl
  exact ⟨by rw [hE2];rfl,by rw [Mo.choose,hE2];exact GX (M.pk [0]),λhn=>by rw [hE2] at hn;cases hn⟩
theorem n9 (g9:Nat) (f:List UInt8) (b:Ar) (w:World) (hb:Blk w g9 9 [str f]) :
 Calls prog 184 #[.agg b.cells.toArray,pg g9] w (BI w (.bool (decide (b.flow=f)))):=by
 refine BH func184 ntmps184 X λM=>srg (CC M X X λg2 w1 hg2 M=>AJ X (AE X (AU M 0 X X X (yl X X (Blk.c (hb.fr0 M.fr) 0 X) (ya X (CX X X X) (yb X (sxl_nil ?_)))))))
 exact qx_seq (sx_ret (gr1 X ⟨X,M.fr⟩))
theorem t6 (we:World) (m:Md) (gc:Nat) (c:CrA) (Fc:List Nat) (V:Option Addr) (vn vc gx:Nat) (σ:Mo) (F:List Nat) (i:Nat) (x:El) (w:World) (ho:MdOk m) (hnd:(c.ins x.id).Nodup) (hil:(c.ins x.id).length≤400) (h1:σ.on.length≤500000) (h2:σ.fired.length≤500000) (h3:σ.came≤500000000) (hC:CourseN we m gc c Fc) (hwe:Fr0 we w) (hFe:∀g∈F,we.heap.size≤g) (hN:MoN w gc V vn vc gx σ F) :
 Calls prog 154 #[pg gx,AC (i:Int),.agg x.cells.toArray] w λe w'=>e=.returned (.bool ((c.ins x.id).all (λf=>decide (0≤jIx σ.on f))))∧QV gc V vn vc gx (if (c.ins x.id).all (λf=>decide (0≤jIx σ.on f))=true then σ.join c x else σ) F w w'∧((c.ins x.id).all (λf=>decide (0≤jIx σ.on f))=false→∀u,Cell w.heap gx 2 u→Cell w'.heap gx 2 u):=by
 obtain ⟨on,dn,fi,cm⟩:=σ
 dsimp only at h1 h2 h3
 have hnf:=ho.nfls;have hol:=hC.lenO x.id;refine sx_enter (vs:=[_,_,_]) func154 X ntmps154 X ?_;have M:Mem w (λk=>k∈F) [As.mo gc V vn vc gx (⟨on,dn,fi,cm⟩:Mo) F] w:=Mem.oneMo hN;obtain ⟨x1,M⟩:=Mem.openMo M
 replace M:Mem w (λk=>k∈F) [As.blk gx 137 [pg gc,.slice V vn vc,.slice x1.A on.length x1.a,.slice x1.B dn.length x1.b,.slice x1.C fi.length x1.c,AC (cm:Int)],As.own 0 139 5 (.slice x1.A on.length x1.a) on.length (AD Ar.cells on),As.own 0 139 5 (.slice x1.B dn.length x1.b) dn.length (AD Ar.cells dn),As.own 0 9 1 (.slice x1.C fi.length x1.c) fi.length (AD C0 fi)] w:=M
 have hc0:=M.cell 0 (off:=2) X X;refine srg (CC M X X λg5 w1 hg5 M=>AJ X (srg (AJ X (sx_seq (sx_seq (E8 CH gkr ?_))))));have M:=M.drew;refine sb X (sb X (sb X (EB M 1 X X X (sb X (sb X (sa X (BF X X (sc X) (Blk.c ((hC.fr0 (BT hwe M.fr hFe)).blk) 7 X)) (sb X (EB M 0 X X X (sa X (BK X X X underlying87 underlying9 D4 ((hC.fr0 (BT hwe M.fr hFe)).I) (hC.getI _)) (sa X (FM X X (sl X)) (sb X (EX (qx_seq (sx_block ?_))))))))))))));have M:=M.nilOwn 3 1;refine flp [25,24,5,0] (λze e wr mz=>∃(j:Nat) (acc:List Int) (A7:Option Addr) (c7:Nat),e=(7,.slice A7 acc.length c7)::(26,AC (j:Int))::ze∧Mem w (λk=>k∈F) [As.own w.heap.size 3 1 (.slice A7 acc.length c7) acc.length (AD OD acc),As.blk g5 95 (El.cells x),As.blk gx 137 [pg gc,.slice V vn vc,.slice x1.A on.length x1.a,.slice x1.B dn.length x1.b,.slice x1.C fi.length x1.c,AC (cm:Int)],As.own 0 139 5 (.slice x1.A on.length x1.a) on.length (AD Ar.cells on),As.own 0 139 5 (.slice x1.B dn.length x1.b) dn.length (AD Ar.cells dn),As.own 0 9 1 (.slice x1.C fi.length x1.c) fi.length (AD C0 fi)] wr∧(j≤(c.ins x.id).length)∧(acc=((c.ins x.id).take j).map (jIx on)∧acc.length=j)∧((c.ins x.id).all (λf=>decide (0≤jIx on f))=((c.ins x.id).drop j).all (λf=>decide (0≤jIx on f)))∧mz=(c.ins x.id).length-j) ⟨0,[],none,0,X,M,Nat.zero_le _,⟨X,X⟩,X,X⟩ ?_;rintro _ w2 _ ⟨j,acc,A7,c7,rfl,M,hj,hacc,hpos,rfl⟩;refine srg (BB X X (nq (sx_seq (AF (b:=(decide ((j:Int)<((c.ins x.id).length:Int)))) X (λh27=>?_) (λh27=>?_)))))
 ·have h27p:=(odt h27);refine sx_skip (qx_seq (sx_seq (sx_block (srg ?_))));obtain ⟨f,hf⟩:=BM (l:=(c.ins x.id)) (i:=j) AA;obtain ⟨b_f,o_f,hA_f⟩:=B5 (k:=1) AA ((hC.fr0 (BT hwe M.fr hFe)).rdI _) hf;refine ya X (AN j hA_f X X X (sl X) AA) (ya X (BF X X (sc X) (D9 DQ ((hC.fr0 (BT hwe M.fr hFe)).rdI _) hA_f hf 0 X)) (EI M (wn_none X) X X 9 X [str []] eY X λg9 w3 hg9 M=>E7 (cs':=[str f]) M 0 (wn_none X) X X X X X X X FR (CO X) X λw4 M=>nq (AE X (AV X X (AU M 3 X X X (ya X (CP (us:=[]) (vs:=[pg g9]) X X X) (cl 35 X (AG X X call183) (tM Ar.cells Ar.len x1.A x1.a on AA 184 [pg g9] (λ(_:Nat) (b:Ar)=>decide (b.flow=f)) AR (λ_ _=>True) _ (G5 call184 (λb _ w9 hf9=>n9 g9 f b w9 ((M.blk 0 X).fr0 hf9))) (λ_ hf9=>(M.rdOwn 4 X).fr0 hf9) trivial) ?_)))))));rintro _ w5 ⟨rfl,_,hfw5⟩;refine ⟨_,X,?_⟩;have M:=M.step hfw5;refine AJ X (sx_seq (AE X (BB X X (nq (AF (b:=(decide ((jIx on f)<(0:Int)))) X (λh37=>?_) (λh37=>?_))))))
  ·have h37p:=(odt h37);refine AE X (gnr (qx_then_ret (qx_block_ret (qx_then_ret (qx_then_ret (qx_block_ret (qx_then_ret (gr1 X ?_))))))));have hb:(c.ins x.id).all (λf=>decide (0≤jIx on f))=false:=by rw [hpos,AZ hf,List.all_cons,decide_eq_false (show ¬0≤jIx on f by omega)];rfl
   have hc1:=M.cell 3 (off:=2) X X;obtain ⟨F5,M⟩:=Mem.closeMo (M.pk [3,4,5,6,0,1,2]);exact ⟨by rw [hb],by rw [hb];exact GX (M.pk [0]),λ_ u hu=>XC hu hc0▸hc1⟩
  ·have h37p:=(odf h37);refine sx_skip (qx_seq (sx_region (AV X X (CN M (wn_none X) X X [AC (jIx on f)] ([AC (jIx on f)]) X X X X underlying76 dV X X (FP X) X λg40 w6 hg40 M=>DE (len':=(acc++[(jIx on f)]).length) (xs':=AD OD (acc++[(jIx on f)])) M 2 (wn_none X) X X X X X X (M.rdBlk 0 X X) underlying76 nK X B3 (CL X) (Nat.le_refl _) (Nat.le_refl _) C2 (by unfold maxLen;first|omega|(simp only [List.length_append,List.length_cons,List.length_nil];omega)) (by simp) (by first|exact (B9 _ _ _).symm|simp [AD,OD]) λA41 c41 w7 M=>yb X (sxl_nil (qx_block_normal (qx_seq (sx_region (BV X X (yb X ?_))))))))));refine sxl_nil (fag ⟨j+1,acc++[(jIx on f)],A41,c41,X,(M.pk [2,3,4,5,6,7]),?_,?_,?_,X⟩)
   ·omega
   ·exact ⟨by rw [hacc.1,AP hf,List.map_append];rfl,by rw [List.length_append,hacc.2];rfl⟩
   ·rw [hpos,AZ hf,List.all_cons,decide_eq_true (show 0≤jIx on f by omega)];rfl
 ·have h27p:=(odf h27);refine sx_exit (qx_then_exit (qx_then_exit ?_));obtain rfl:j=(c.ins x.id).length:=by omega
  have hb:(c.ins x.id).all (λf=>decide (0≤jIx on f))=true:=by rw [hpos,List.drop_length];rfl
  have hac:=hacc.1;rw [List.take_length] at hac
  have hacl:=hacc.2;refine qx_block_hit (qx_seq (AE X (yb X (AU M 1 X X X ?_))));obtain ⟨F7,M⟩:=Mem.closeMo (M.pk [2,3,4,5,0,1]);refine cl 46 X (AG X X call180) (LG gc V vn vc gx (⟨on,dn,fi,cm⟩:Mo) F7 x.id _ (by first|omega|(simp;omega)|(simp [List.length_eraseIdx];split<;>omega)) (M.ok 0 _ X)) ?_;rintro _ w8 ⟨rfl,F8,hNw8,hqw8,hfw8⟩;refine ⟨_,X,?_⟩;have M:=M.updMo 0 X (σ':=(⟨on,dn,fi++[x.id],cm⟩:Mo)) hNw8 hqw8 hfw8;refine nq (AE X (cl 48 X (AG X X call185) (r7 (zs:=acc) (n:=acc.length) _ X (M.own 1 X) AA) ?_));rintro _ w9 ⟨rfl,how9,hfw9⟩;refine ⟨_,X,?_⟩;have M:=M.upd 1 X hfw9 (As.own _ 3 1 (.slice A7 acc.length c7) acc.length (AD OD (HU acc))) how9 (λg hg=>.inl hg);refine nq (AE X (cl 50 X (AG X X call186) (vZ (zs:=(HU acc)) (n:=acc.length) _ (Q4 _) (M.own 1 X) AA) ?_));rintro _ w10 ⟨rfl,how10,hfw10⟩;refine ⟨_,X,?_⟩;have M:=M.upd 1 X hfw10 (As.own _ 3 1 (.slice A7 acc.length c7) acc.length (AD OD (List.reverse (HU acc)))) how10 (λg hg=>.inl hg);refine nq (sx_seq (AE X (DF X X (AJ X (sx_block ?_)))));obtain ⟨fi1,hfi1⟩:∃fi1,fi1=fi++[x.id]:=⟨_,X⟩
  rw [←hfi1] at M
  obtain ⟨ks,hks,hkl⟩:∃ks,ks=(HU acc).reverse∧ks.length=acc.length:=⟨_,X,by rw [List.length_reverse,Q4]⟩
  rw [←hks] at M
  refine flp [52,51,5,0] (λze e wr mz=>∃(j2:Nat) (on1:List Ar) (F1:List Nat),e=(53,AC (j2:Int))::ze∧Mem w (λk=>k∈F) [As.mo gc V vn vc gx (⟨on1,dn,fi1,cm⟩:Mo) F1,As.own w.heap.size 3 1 (.slice A7 acc.length c7) acc.length (AD OD ks),As.blk g5 95 (El.cells x)] wr∧(j2≤ks.length)∧(on1=(ks.take j2).foldl erI on)∧(on1.length≤500000)∧(okE (ks.drop j2) on1.length)∧mz=ks.length-j2) ⟨0,on,_,X,M,Nat.zero_le _,X,h1,(hks▸sC hnd hac hb),X⟩ ?_;rintro _ w11 _ ⟨j2,on1,F1,rfl,M,hj2,hE1,hl1,hokE,rfl⟩;refine srg (BB X X (nq (sx_seq (AF (b:=(decide ((j2:Int)<(acc.length:Int)))) X (λh54=>?_) (λh54=>?_)))))
  ·have h54p:=(odt h54);refine sx_skip (qx_seq (sx_seq (sx_block (srg ?_))));obtain ⟨z,hz⟩:=BM (l:=ks) (i:=j2) AA;obtain ⟨kn,rfl,hkn⟩:=wH hokE hz;obtain ⟨b55,o55,hA55⟩:=B5 (k:=1) AA (lR (M.rdOwn 1 X) (by rw [hkl])) hz;refine ya X (AN j2 hA55 X X X (sl X) AA) (yl X X (D9 Z0 (lR (M.rdOwn 1 X) (by rw [hkl])) hA55 hz 0 X) (AJ X (sx_region (AV X X (cl 59 X (AG X X call181) (L3 gc V vn vc gx (⟨on1,dn,fi1,cm⟩:Mo) F1 kn _ (by first|omega|(simp;omega)|(simp [List.length_eraseIdx];split<;>omega)) hkn (M.ok 0 _ X)) ?_)))));rintro _ w12 ⟨rfl,F9,hNw12,hqw12,hfw12⟩;refine ⟨_,X,?_⟩;have M:=M.updMo 0 X (σ':=(⟨on1.eraseIdx kn,dn,fi1,cm⟩:Mo)) hNw12 hqw12 hfw12;refine sxl_nil (qx_block_normal (qx_seq (sx_region (BV X X (yb X (sxl_nil (fag ⟨j2+1,on1.eraseIdx kn,F9,X,M,?_,?_,?_,?_,X⟩)))))))
   ·omega
   ·rw [AP hz,List.foldl_append,←hE1];rfl
   ·rw [List.length_eraseIdx];split<;>omega
   ·exact mA hokE hz
  ·have h54p:=(odf h54);refine sx_exit (qx_then_exit (qx_then_exit ?_));obtain rfl:j2=ks.length:=by omega
   rw [List.take_length] at hE1
   refine qx_block_hit (qx_seq (sx_seq (sx_seq ?_)));obtain ⟨x10,M⟩:=Mem.openMo M
   replace M:Mem w (λk=>k∈F) [As.blk gx 137 [pg gc,.slice V vn vc,.slice x10.A on1.length x10.a,.slice x10.B dn.length x10.b,.slice x10.C fi1.length x10.c,AC (cm:Int)],As.own 0 139 5 (.slice x10.A on1.length x10.a) on1.length (AD Ar.cells on1),As.own 0 139 5 (.slice x10.B dn.length x10.b) dn.length (AD Ar.cells dn),As.own 0 9 1 (.slice x10.C fi1.length x10.c) fi1.length (AD C0 fi1),As.own w.heap.size 3 1 (.slice A7 acc.length c7) acc.length (AD OD ks),As.blk g5 95 (El.cells x)] w11:=M
   refine E8 CH gkr ?_;have M:=M.drew;refine sb X (sb X (sb X (EB M 0 X X X (sb X (sb X (sa X (BF X X (sc X) (Blk.c ((hC.fr0 (BT hwe M.fr hFe)).blk) 8 X)) (sb X (EB M 5 X X X (sa X (BK X X X underlying87 underlying9 D4 ((hC.fr0 (BT hwe M.fr hFe)).O) (hC.getO _)) (sa X (FM X X (sl X)) (sb X (EX (qx_seq (sx_block ?_))))))))))))));obtain ⟨F11,M⟩:=Mem.closeMo (M.pk [0,1,2,3,4,5]);refine flp [71,70,0] (λze e wr mz=>∃(j3:Nat) (on2:List Ar) (cm1:Nat) (F2:List Nat),e=(72,AC (j3:Int))::ze∧Mem w (λk=>k∈F) [As.mo gc V vn vc gx (⟨on2,dn,fi1,cm1⟩:Mo) F2,As.own w.heap.size 3 1 (.slice A7 acc.length c7) acc.length (AD OD ks),As.blk g5 95 (El.cells x)] wr∧(j3≤(c.outs x.id).length)∧((⟨on2,dn,fi1,cm1⟩:Mo)=Mo.puts ⟨on1,dn,fi1,cm⟩ ((c.outs x.id).take j3))∧(on2.length≤500000+j3)∧(cm1≤500000000+j3)∧mz=(c.outs x.id).length-j3) ⟨0,on1,cm,_,X,M,Nat.zero_le _,X,by omega,by omega,rfl⟩ ?_;rintro _ w13 _ ⟨j3,on2,cm1,F2,rfl,M,hj3,hE3,hb1,hb2,rfl⟩;refine srg (BB X X (nq (sx_seq (AF (b:=(decide ((j3:Int)<((c.outs x.id).length:Int)))) X (λh73=>?_) (λh73=>?_)))))
   ·have h73p:=(odt h73);refine sx_skip (qx_seq (sx_seq (sx_block (srg ?_))));obtain ⟨q,hq⟩:=BM (l:=(c.outs x.id)) (i:=j3) AA;obtain ⟨b_q,o_q,hA_q⟩:=B5 (k:=1) AA ((hC.fr0 (BT hwe M.fr hFe)).rdO _) hq;refine ya X (AN j3 hA_q X X X (sl X) AA) (ya X (BF X X (sc X) (D9 DQ ((hC.fr0 (BT hwe M.fr hFe)).rdO _) hA_q hq 0 X)) (AJ X (sx_region (AV X X (cl 78 X (AG X X call53) (O9 gc V vn vc gx (⟨on2,dn,fi1,cm1⟩:Mo) F2 q _ (by first|omega|(simp;omega)|(simp [List.length_eraseIdx];split<;>omega)) (by first|omega|(simp;omega)|(simp [List.length_eraseIdx];split<;>omega)) (M.ok 0 _ X)) ?_)))));rintro _ w14 ⟨rfl,F13,hNw14,hqw14,hfw14⟩;refine ⟨_,X,?_⟩;have M:=M.updMo 0 X (σ':=(⟨on2++[(⟨q,((cm1+1:Nat):Int),0,[],false⟩:Ar)],dn,fi1,cm1+1⟩:Mo)) hNw14 hqw14 hfw14;refine sxl_nil (qx_block_normal (qx_seq (sx_region (BV X X (yb X (sxl_nil (fag ⟨j3+1,on2++[(⟨q,((cm1+1:Nat):Int),0,[],false⟩:Ar)],cm1+1,F13,X,M,?_,?_,?_,?_,X⟩)))))))
    ·omega
    ·rw [AP hq,Mo.puts_snoc,←hE3];rfl
    ·simp;omega
    ·omega
   ·have h73p:=(odf h73);refine sx_exit (qx_then_exit (qx_then_exit ?_));obtain rfl:j3=(c.outs x.id).length:=by omega
    rw [List.take_length] at hE3
    exact qx_block_hit (qx_seq (AE X (gnr (gr1 X ⟨by rw [hb],by rw [hb];exact n8 hks hac hfi1 hE1 hE3 (M.pk [0]),λhn=>by rw [hb] at hn;cases hn⟩))))
end
section
section
variable {P:Program} {Q:Exit→Act→World→Prop} {n:Nat} {e:Env} {w:World}
theorem kZ {c:Code} (h:Sx P c (Exit.noGoto Q) n e w):Sx P (Code.scope c) Q n e w:=⟨λa ha=>wp_scope_straight (h.run a ha)⟩
theorem l6 {l:Nat} (h:QX Q .normal n e w):Sx P (Code.label l) Q n e w:=⟨λa ha=>wp_label (h.run a ha)⟩
theorem PD (h:QX Q .ret n e w):QX (Exit.noGoto Q) .ret n e w:=⟨λa ha=>h.run a ha⟩
end
end
end Go.Proofs.YtaheakjfkpkefaaGreatDoor
