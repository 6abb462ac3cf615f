/- Lemmas. -/
import Derived.Test.YtaheakjfkpkefaaGreatDoorVMv4
set_option maxHeartbeats 16000000
set_option maxRecDepth 100000
namespace Go.Proofs.YtaheakjfkpkefaaGreatDoor
open Go.RowKit
open Tryz
theorem W3 {P:Program} {e:Env} {w:World} {o:Oper} {t t':Nat} {a b:Int} {x y:Operand} (ho:o.op=.binOp .add t x y t') (hx:ev e x=some (AC a)) (hy:ev e y=some (AC b)):Y P e o w (AC ((IntKind.i64).wrap (a+b))):=λρ h=>by
 unfold execOp;simp [ho,h _ _ hx,h _ _ hy,eqGuard_at_int,binOp_add,Op.intArith]
theorem CourseN.fr0 {w w':World} {m:Md} {gc:Nat} {c:CrA} {F:List Nat} (h:CourseN w m gc c F) (hf:Fr0 w w'):CourseN w' m gc c F:=h.keep (λg _ hg=>hf.block g hg (λhh=>hh))
structure Tk where
 id:Int
 loc:List UInt8
 on:List UInt8
 born:Int
 tries:Int
 worker:List UInt8
 until_:Int
 inc:UInt8
 err:Int
structure Wt where
 via:List UInt8
 ev:UInt8
 nm:List UInt8
 key:List UInt8
 due:Int
def Tk.cells (t:Tk):List Value:=[.int .i64 t.id,str t.loc,str t.on,.int .i64 t.born,.int .i64 t.tries,str t.worker,.int .i64 t.until_,.int .u8 (t.inc.toNat:Int),.int .i64 t.err]
def Wt.cells (t:Wt):List Value:=[str t.via,.int .u8 (t.ev.toNat:Int),str t.nm,str t.key,.int .i64 t.due]
theorem Tk.len (t:Tk):t.cells.length=9:=rfl
theorem Wt.len (t:Wt):t.cells.length=5:=rfl
def MU (vars:List Bd) (name:List UInt8):Option Vl:=(ffN (λ(_:Nat) (b:Bd) => !(decide (b.name=name))) 0 vars).map (·.v)
def GF (c:CrA) (via:List UInt8) (born:Int) (vars:List Bd):Wt × Int:=
 if (decide (((c.atf via).ev.toNat:Int)=(1:Int)))=true then (⟨via,(c.atf via).ev,(c.atf via).ref,[],(IntKind.i64).wrap (born+(c.atf via).ticks)⟩,0)
 else if (decide (((c.atf via).ev.toNat:Int)=(2:Int)))=true then
  (if (!((MU vars (c.atf via).key).isSome))=true then (⟨[],0,[],[],0⟩,100)
  else if (!decide ((((MU vars (c.atf via).key).getD zeroVl).kind.toNat:Int)=(3:Int)))=true then (⟨[],0,[],[],0⟩,90)
  else (⟨via,(c.atf via).ev,(c.atf via).ref,((MU vars (c.atf via).key).getD zeroVl).text,0⟩,0))
 else (⟨via,(c.atf via).ev,(c.atf via).ref,[],0⟩,0)
theorem RA  : prog.built 72 []=some #[str [],.int .u8 0,str [],str [],AC 0]:=by kernel_rfl
theorem PS (a0:List UInt8) (a1:Int) (a2:List UInt8):prog.built 72 [(0,str a0),(1,.int .u8 a1),(2,str a2)]=some #[str a0,.int .u8 a1,str a2,str [],AC 0]:=by kernel_rfl
theorem CR : (prog.info? 72).map (·.size)=some 5:=by kernel_rfl
theorem BE : (prog.info? 100).map (·.zero)=some (some (.agg #[.int .u8 0,AC 0,.bool false,str []])):=by kernel_rfl
theorem M6 : (prog.info? 72).map (·.zero)=some (some (.agg #[str [],.int .u8 0,str [],str [],AC 0])):=by kernel_rfl
theorem fB (g3:Nat) (name:List UInt8) (x:Bd) (w:World) (hb:Blk w g3 9 [str name]) :
 Calls prog 179 #[.agg x.cells.toArray,pg g3] w (BI w (.bool (decide (x.name=name)))):=by
 refine BH func179 ntmps179 X λM=>srg (CC M X X λg2 w1 hg2 M=>AJ X (AE X (AU M 0 X X X (yl X X (Blk.c (hb.fr0 M.fr) 0 X) (ya X (CX X X X) (yb X (sxl_nil ?_)))))))
 exact qx_seq (sx_ret (gr1 X ⟨X,M.fr⟩))
theorem SB (A:Option Addr) (cv:Nat) (vars:List Bd) (name:List UInt8) (w:World) (hvl:vars.length≤4611686018427387904) (hV:Rd w A (vars.length*5) (AD Bd.cells vars)) :
 Calls prog 149 #[.slice A vars.length cv,str name] w (BI w (.tuple #[.agg (((MU vars name).getD zeroVl).cells).toArray,.bool (MU vars name).isSome])):=by
 refine BH func149 ntmps149 X λM=>srg (D6 M (wn_none X) X X 9 X X ([str name]) X λg3 w1 hg3 M=>CI M X BE λg4 w2 hg4 M=>AJ X (AE X (ya X (CP (us:=[]) (vs:=[pg g3]) X X X) (cl 9 X (AG X X call159) (RW Bd.cells Bd.len A cv vars hvl 179 [pg g3] (λ(_:Nat) (b:Bd) => !(!(decide (b.name=name)))) AR (λ_ _=>True) _ (G5 call179 (λx _ w9 hf9=>(fB g3 name x w9 ((M.blk 1 X).fr0 hf9)).mono λ_ _ ⟨h1,h2⟩=>⟨by rw [h1,Bool.not_not],h2⟩)) (λ_ hf9=>(hV.fr0 M.fr).fr0 hf9) trivial) ?_))))
 rintro _ w3 ⟨rfl,_,hfw3⟩;refine ⟨_,X,?_⟩;have M:=M.step hfw3;refine AJ X (sx_seq (AE X (BB X X (nq (AF X (λh11=>?_) (λh11=>?_))))))
 ·have h11p:=(odt h11);have hff:=OI (p:=(λ(_:Nat) (b:Bd) => !(decide (b.name=name)))) h11p;exact srg (ya X (AY (parts:=[]) X X (BW)) (BD M 0 X X AB X λw4 M=>yb X (gnr (qx_then_ret (B1 X X (M.rdBlk 0 X X) underlying100 X AB X ⟨by rw [MU,hff];rfl,M.fr⟩)))))
 ·have h11p:=(odf h11);obtain ⟨j,x,hj,hx,hff⟩:=OJ (p:=(λ(_:Nat) (b:Bd) => !(decide (b.name=name)))) h11p;have hjl:j<vars.length:=(List.getElem?_eq_some_iff.1 hx).1;rw [hj];obtain ⟨b_x,o_x,hA_x⟩:=B5 (k:=5) AA (hV.fr0 M.fr) hx;refine sx_skip (qx_seq (AE X (yb X (ya X (AN j hA_x X X X (sl X) AA) (yb X (ya X (AK (xs:=Vl.cells x.v) X X (WJ Bd.len (hV.fr0 M.fr) hA_x hx 1 4 X X) underlying100 X AB) (BD M 0 X X AB X λw5 M=>yb X (gnr (B1 X X (M.rdBlk 0 X X) underlying100 X AB X ?_)))))))));exact ⟨by rw [MU,hff];rfl,M.fr⟩
theorem qH (m:Md) (gc:Nat) (c:CrA) (F:List Nat) (via:List UInt8) (born:Int) (A:Option Addr) (cv:Nat) (vars:List Bd) (w:World) (hC:CourseN w m gc c F) (hvl:vars.length≤4611686018427387904) (hV:Rd w A (vars.length*5) (AD Bd.cells vars)) :
 Calls prog 91 #[pg gc,str via,AC born,.slice A vars.length cv] w (BI w (.tuple #[.agg ((GF c via born vars).1.cells).toArray,AC (GF c via born vars).2])):=by
 refine BH func91 ntmps91 X λM=>srg (CI M X M6 λg8 w1 hg8 M=>AJ X (AE X (AV X X (yl X X (Blk.c ((hC.fr0 M.fr).blk) 5 X) (yb X (ya X (BK X X X underlying85 underlying9 AT ((hC.fr0 M.fr).A) (hC.getA _)) ?_))))))
 refine CI M X AT λg10 w2 hg10 M=>BD M 0 X X AQ X λw3 M=>nq (AE X (yb X (AU M 0 X X X (yb X (AU M 0 X X X (ya X (AY (parts:=[(0,_),(1,_),(2,_)]) X X (PS _ _ _)) (CI M X M6 λg11 w4 hg11 M=>?_)))))))
 refine BD M 0 X X CR X λw5 M=>nq (sx_seq (AE X (AU M 1 X X X (nq (sx_block (srg (BZ X X (yb X ?_))))))))
 refine nq (AF X (λh28=>?_) (λh28=>?_))
 ·refine sx_region (AV X X (AU M 1 X X X (ya X (W3 X X X) (yb X (gp1 M 0 X X X GI λw6 M=>sxl_nil (qx_block_normal (qx_seq (srg (CB M 0 X X underlying72 CR X (BD M 2 X X CR X λw7 M=>?_))))))))));exact yb X (gnr (B1 X X (M.rdBlk 2 X X) underlying72 X CR X ⟨by rw [GF,if_pos h28]<;>rfl,M.fr⟩))
 ·refine srg (BZ X X (AJ X (AF X (λh35=>?_) (λh35=>?_))))
  ·refine AE X (yb X (AU M 1 X X X (CD M 41 X X call149 (SB A cv vars ((c.atf via).key) _ hvl (hV.fr0 M.fr)) λw8 M=>AV X X (yb X (CI M X BE λg12 w9 hg12 M=>BD M 0 X X AB X λw10 M=>AJ X ?_)))));refine sx_seq (sx_block (AE X (yb X (AJ X (AF X (λh44=>?_) (λh44=>?_))))))
   ·exact srg (ya X (AY (parts:=[]) X X (RA)) (BD M 3 X X CR X λw11 M=>yb X (gnr (qx_block_ret (qx_then_ret (qx_block_ret (qx_then_ret (B1 X X (M.rdBlk 3 X X) underlying72 X CR X ⟨by rw [GF,AM h28,if_pos h35,if_pos h44]<;>rfl,M.fr⟩))))))))
   ·refine AE X (AU M 0 X X X (CT X X (AJ X (AF X (λh48=>?_) (λh48=>?_)))))
    ·exact srg (ya X (AY (parts:=[]) X X (RA)) (BD M 3 X X CR X λw12 M=>yb X (gnr (qx_block_ret (qx_then_ret (qx_block_ret (qx_then_ret (B1 X X (M.rdBlk 3 X X) underlying72 X CR X ⟨by rw [GF,AM h28,if_pos h35,AM h44,if_pos h48]<;>rfl,M.fr⟩))))))))
    ·refine sx_skip (qx_block_normal (qx_seq (sx_region (yb X (AU M 0 X X X (yb X (gp1 M 1 X X X FR λw13 M=>sxl_nil (qx_block_normal (qx_seq (srg (ya X (AK (xs:=[str via,.int .u8 ((c.atf via).ev.toNat:Int),str ((c.atf via).ref),str (((MU vars ((c.atf via).key)).getD zeroVl).text),AC 0]) X X (M.rdBlk 1 X X) underlying72 X CR) (BD M 3 X X CR X ?_))))))))))));intro w14 M;exact yb X (gnr (B1 X X (M.rdBlk 3 X X) underlying72 X CR X ⟨by rw [GF,AM h28,if_pos h35,AM h44,AM h48]<;>rfl,M.fr⟩))
  ·exact sx_skip (qx_block_normal (qx_seq (srg (CB M 0 X X underlying72 CR X (BD M 2 X X CR X λw15 M=>yb X (gnr (B1 X X (M.rdBlk 2 X X) underlying72 X CR X ⟨by rw [GF,AM h28,AM h35]<;>rfl,M.fr⟩)))))))
end Go.Proofs.YtaheakjfkpkefaaGreatDoor
