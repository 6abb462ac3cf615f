/- Lemmas that the last text rests on. Condition: each says its own. -/
import Derived.Test.YtaheakjfkpkefaaGreatDoorYSs1
set_option maxHeartbeats 16000000
set_option maxRecDepth 100000
namespace Go.Proofs.YtaheakjfkpkefaaGreatDoor
open Go.RowKit
open Tryz
def Ht.same (a b:Ht):Bool:=decide (a.pl=b.pl) && (decide (a.tok=b.tok) && (decide (a.via=b.via)))
theorem jW : prog.eqGuardType prog.depth 38=false:=by kernel_rfl
theorem oP : prog.stoodInHeld 38=false:=by kernel_rfl
theorem dM : prog.underlying 38=some (.struct (prog.fieldsOf 38)):=by kernel_rfl
theorem rQ {w:World} (a b:Ht):(Op.equalIn 10000 38 (.agg a.cells.toArray) (.agg b.cells.toArray)).run prog w=.ok (a.same b) w:=by
 have s_ : ∀(u v:List UInt8),(Op.equalIn 9999 9 (str u) (str v)).run prog w=.ok (decide (u=v)) w:=λu v=>by
  have:=run_equalIn_string (P:=prog) w 9998 9 ⟨u.toArray⟩ ⟨v.toArray⟩ underlying9
  unfold str
  rw [this,ByteArray.toList_eq,ByteArray.toList_eq]
  by_cases huv:u=v<;>simp [huv]
 have i_ : ∀(t:Nat) (k:IntKind) (u v:Int),prog.underlying t=some (.int k)→(Op.equalIn 9999 t (.int k u) (.int k v)).run prog w=.ok (decide (u=v)) w:=λt k u v ht=>by
  have:=run_equalIn_int (P:=prog) w 9998 t k k u v ht
  rw [this];by_cases huv:u=v<;>simp [huv]
 rw [run_equalIn_struct w 9999 38 _ _ dM oP]
 have hl:(prog.fieldsOf 38).toList=(match prog.underlying 38 with | some (.struct fs)=>fs.toList | _=>[]):=by unfold Program.fieldsOf;rw [underlying38]
 rw [hl,underlying38]
 simp only
 have N_:=isAgg3 w
 have S_:=isAgg9 w
 rw [B4 (a:=AA a.pl) (b:=AA b.pl) AU (AZ N_ rfl) (AZ N_ rfl) (i_ _ _ _ _ underlying3)]
 refine DS ?_
 rw [B4 (a:=AA a.tok) (b:=AA b.tok) AU (AZ N_ rfl) (AZ N_ rfl) (i_ _ _ _ _ underlying3)]
 refine DS ?_
 rw [B4 (a:=str a.via) (b:=str b.via) AU (AZ S_ rfl) (AZ S_ rfl) (s_ _ _),KG]
 cases (decide (a.via=b.via))<;>rfl
theorem XN {e:Env} {w:World} {o:Oper} {t':Nat} {x y:Operand} {a b:Ht} (ho:o.op=.binOp .eql 38 x y t') (hx:ev e x=some (.agg a.cells.toArray)) (hy:ev e y=some (.agg b.cells.toArray)):Y prog e o w (.bool (a.same b)):=λρ h=>by
 have h1:ρ x=.agg a.cells.toArray:=h _ _ hx
 have h2:ρ y=.agg b.cells.toArray:=h _ _ hy
 have hg:=run_eqGuard_agg (P:=prog) w .eql 38 x y a.cells.toArray b.cells.toArray jW
 unfold execOp
 simp only [ho,h1,h2,Sem.run_bind,hg,Result.andThen_ok,run_eql_struct,rQ a b]
 rfl
theorem I1 (a0:List UInt8) (c1_0 c1_1 c1_2 c1_3:Value):prog.built 103 [(0,str a0),(1,.agg #[c1_0,c1_1,c1_2,c1_3])]=some #[str a0,c1_0,c1_1,c1_2,c1_3]:=by kernel_rfl
theorem JI (a0:List UInt8) (a2:Int) (a6:Int) (a7:List UInt8) (a8:List UInt8):prog.built 95 [(0,str a0),(2,.int .u8 a2),(6,.int .u8 a6),(7,str a7),(8,str a8)]=some #[str a0,str [],.int .u8 a2,str [],str [],str [],.int .u8 a6,str a7,str a8,AA 0,AA 0]:=by kernel_rfl
theorem KO (a0:List UInt8) (a1:List UInt8):prog.built 26 [(0,str a0),(1,str a1)]=some #[str a0,str a1,.slice none 0 0,AA 0]:=by kernel_rfl
theorem LN (a0:List UInt8) (A2:Option Addr) (n2 c2:Nat) (A3:Option Addr) (n3 c3:Nat) (A4:Option Addr) (n4 c4:Nat):prog.built 62 [(0,str a0),(2,.slice A2 n2 c2),(3,.slice A3 n3 c3),(4,.slice A4 n4 c4)]=some #[str a0,str [],.slice A2 n2 c2,.slice A3 n3 c3,.slice A4 n4 c4]:=by kernel_rfl
theorem KD : (prog.info? 103).map (λi=>(i.zero,i.size))=some (some (.agg #[str [],.int .u8 0,AA 0,.bool false,str []]),5):=by kernel_rfl
theorem cX (w:World) :
 Calls prog 35 #[] w λe w' => ∃a,e=.returned (.agg (Md.cells mmM a).toArray)∧MdIn w' mmM a∧Fr0 w w':=by
 refine BL func35 ntmps35 rfl λM=>srg (CO M rfl zr_api_Model λg0 w1 hg0 M=>EF (DV M 1 rfl rfl call37 (NF [] _) λw2 M=>ya rfl (AY (parts:=[(0,_),(1,_)]) rfl rfl (I1 _ _ _ _ _)) (CU M (wn_none rfl) rfl rfl [.agg #[str [107],.int .u8 ((⟨3,0,false,[]⟩:Vl).kind.toNat:Int),AA ((⟨3,0,false,[]⟩:Vl).int),.bool ((⟨3,0,false,[]⟩:Vl).bool),str ((⟨3,0,false,[]⟩:Vl).text)]] ([str [107],.int .u8 ((⟨3,0,false,[]⟩:Vl).kind.toNat:Int),AA ((⟨3,0,false,[]⟩:Vl).int),.bool ((⟨3,0,false,[]⟩:Vl).bool),str ((⟨3,0,false,[]⟩:Vl).text)]) rfl rfl rfl rfl underlying24 KD rfl rfl (EZ rfl) rfl λg3 w3 hg3 M=>ya rfl (AY (parts:=[(0,_),(2,_)]) rfl rfl (IT _ _)) (ya rfl (AY (parts:=[(0,_),(2,_),(6,_),(7,_),(8,_)]) rfl rfl (JI _ _ _ _ _)) (ya rfl (AY (parts:=[(0,_),(2,_)]) rfl rfl (IT _ _)) ?_)))))
 exact CU M (wn_none rfl) rfl rfl [.agg #[str [115],str [],.int .u8 1,str [],str [],str [],.int .u8 0,str [],str [],AA 0,AA 0],.agg #[str [99],str [],.int .u8 8,str [],str [],str [],.int .u8 2,str [109],str [107],AA 0,AA 0],.agg #[str [101],str [],.int .u8 2,str [],str [],str [],.int .u8 0,str [],str [],AA 0,AA 0]] ([str [115],str [],.int .u8 1,str [],str [],str [],.int .u8 0,str [],str [],AA 0,AA 0,str [99],str [],.int .u8 8,str [],str [],str [],.int .u8 2,str [109],str [107],AA 0,AA 0,str [101],str [],.int .u8 2,str [],str [],str [],.int .u8 0,str [],str [],AA 0,AA 0]) rfl rfl rfl rfl underlying59 Q2 rfl rfl (by intro v hv;simp only [List.mem_cons,List.not_mem_nil,or_false] at hv;rcases hv with rfl | rfl | rfl<;>rfl) rfl λg7 w4 hg7 M=>ya rfl (AY (parts:=[(0,_),(1,_),(2,_)]) rfl rfl (J7 _ _ _)) (ya rfl (AY (parts:=[(0,_),(1,_),(2,_)]) rfl rfl (J7 _ _ _)) (CU M (wn_none rfl) rfl rfl [.agg #[str [102],str [115],str [99],str []],.agg #[str [103],str [99],str [101],str []]] ([str [102],str [115],str [99],str [],str [103],str [99],str [101],str []]) rfl rfl rfl rfl underlying60 KC rfl rfl (by intro v hv;simp only [List.mem_cons,List.not_mem_nil,or_false] at hv;rcases hv with rfl | rfl<;>rfl) rfl λg10 w5 hg10 M=>ya rfl (AY (parts:=[(0,_),(2,_),(3,_),(4,_)]) rfl rfl (LN _ _ _ _ _ _ _ _ _ _)) (C2 M 3 rfl rfl B6 rfl λw6 M=>gnr (DQ rfl rfl (M.rdBlk 3 rfl rfl) underlying62 rfl B6 ⟨⟨(some ⟨g3,0,none⟩),1,(some ⟨g7,0,none⟩),3,(some ⟨g10,0,none⟩),2⟩,rfl,⟨M.rdBlk 2 rfl rfl,M.rdBlk 1 rfl rfl,M.rdBlk 0 rfl rfl⟩,M.fr⟩))))
theorem sX (a:MdA) (w:World) (hM:MdIn w mmM a) (hY:Lay0 w):Calls prog 16 #[.agg (Md.cells mmM a).toArray] w λe w' => ∃gc c F,e=.returned (.tuple #[pg gc,AA 0])∧CourseN w' mmM gc c F∧Fr0 w w':=
 (rA mmM a w jA hM hY).mono λe w' ⟨h,hf⟩=>by
  rcases h with ⟨_,gc,c,F,h1,h2,_⟩ | ⟨h,_⟩
  ·exact ⟨gc,c,F,h1,h2,hf⟩
  ·rw [YI] at h;cases h
theorem ZY (gc:Nat) (c:CrA) (F:List Nat) (v:List UInt8) (nx:Int) (V:Option Addr) (vc:Nat) (w:World) (hC:CourseN w mmM gc c F) (hv:v.length≤1000) (hnx:nx≤1000) (hb:lU mmM [mmK v] nx 0=true) (hV:Rd w V (1 * 5) (AB Bd.cells [mmK v])) (hY:Lay0 w) :
 Calls prog 36 #[pg gc,.slice V 1 vc,AA nx,AA 0] w λe w' => ∃V1 vc1 T tc a5 A fn fc,e=.returned (.tuple #[.agg #[AA (nx+1),str [112],.int .u8 1,.slice V1 1 vc1,.slice T 1 tc,AA a5,.slice A fn fc],AA 0])∧(∀w2,SM w.heap.size [] w' w2→Rd w2 V1 (1 * 5) (AB Bd.cells [mmK v])∧Rd w2 T (1 * 9) (AB Tk.cells [mmT nx]))∧Fr0 w w':=
 (eS mmM gc c F [mmK v] V vc nx 0 w jA sW hC (jB hv) hV hY mT (o4 v hC) (rD hC.cz v)).mono λe w' ⟨hf,h⟩=>by
  rcases h with ⟨_,h⟩ | ⟨_,x,hx,hk,_,h⟩
  ·rw [hb] at h;cases h
  ·obtain ⟨V1,vc1,T,tc,a5,A,fn,fc,h1,h2⟩:=cY hC.cz hnx hx hk h
   exact ⟨V1,vc1,T,tc,a5,A,fn,fc,h1,h2,hf⟩
theorem jD (w:World) (hY:Lay0 w) :
 Calls prog 15 #[] w λe w' => ∃gc c F V vc T tc V2 vc2 T2 tc2 g,e=.returned (.slice (some ⟨g,0,none⟩) 2 2)∧Pts w' (some ⟨g,0,none⟩) [mmP gc c F [97] 0 V vc T tc,mmP gc c F [98] 3 V2 vc2 T2 tc2]∧Cz mmM c∧Fr0 w w':=by
 have hfw:Fr0 w w:=Fr.refl
 refine BL func15 ntmps15 rfl λM=>srg (AG rfl (srg (cl 7 rfl (AE rfl rfl call35) (cX _) ?_)))
 rintro _ w ⟨sa,rfl,hMi,hfq⟩
 refine ⟨_,rfl,?_⟩
 replace hfq:=M.fr.trans hfq
 replace hfw:=hfw.trans hfq
 replace hY:=hY.fr0 hfq
 have M:=cV w
 refine cl 8 rfl (AE rfl rfl call16) (sX sa _ hMi hY) ?_
 rintro _ w ⟨gc,c,F,rfl,hC,hfq⟩
 refine ⟨_,rfl,?_⟩
 replace hfq:=M.fr.trans hfq
 replace hfw:=hfw.trans hfq
 replace hY:=hY.fr0 hfq
 replace hMi:=hMi.fr0 hfq
 have M:=cV w
 iterate 5 refine yb rfl ?_
 refine nq (sx_seq (AC rfl (FT rfl rfl (nq (sx_false rfl (sx_skip (qx_seq (AC rfl (DV M 15 rfl rfl call37 (NF [97] _) λw1 M=>?_)))))))))
 refine ya rfl (AY (parts:=[(0,_),(1,_)]) rfl rfl (I1 _ _ _ _ _)) (CU M (wn_none rfl) rfl rfl [.agg #[str [107],.int .u8 ((⟨3,0,false,[97]⟩:Vl).kind.toNat:Int),AA ((⟨3,0,false,[97]⟩:Vl).int),.bool ((⟨3,0,false,[97]⟩:Vl).bool),str ((⟨3,0,false,[97]⟩:Vl).text)]] ([str [107],.int .u8 ((⟨3,0,false,[97]⟩:Vl).kind.toNat:Int),AA ((⟨3,0,false,[97]⟩:Vl).int),.bool ((⟨3,0,false,[97]⟩:Vl).bool),str ((⟨3,0,false,[97]⟩:Vl).text)]) rfl rfl rfl rfl underlying24 KD rfl rfl (EZ rfl) rfl λg17 w2 hg17 M=>cl 18 rfl (AE rfl rfl call36) (ZY gc c F [97] 0 (some ⟨g17,0,none⟩) _ _ (hC.fr0 M.fr) AU AU (by rfl) (M.rdBlk 0 rfl rfl) (hY.fr0 M.fr)) ?_)
 rintro _ w3 ⟨V1,vc1,T1,tc1,a51,A1,fn1,fc1,rfl,hres1,hfw3⟩
 refine ⟨_,rfl,?_⟩
 have M:=M.push hfw3 (As.res _ _ [] (λw2=>Rd w2 V1 (1 * 5) (AB Bd.cells [mmK [97]])∧Rd w2 T1 (1 * 9) (AB Tk.cells [mmT 0]))) (λw2 h2=>hres1 w2 (VF h2)) (UP)
 refine AV rfl rfl (yb rfl (CO M rfl HI λg3 w4 hg3 M=>C2 M 0 rfl rfl CD rfl λw5 M=>AG rfl (AC rfl (DV M 23 rfl rfl call37 (NF [98] _) λw6 M=>ya rfl (AY (parts:=[(0,_),(1,_)]) rfl rfl (I1 _ _ _ _ _)) (CU M (wn_none rfl) rfl rfl [.agg #[str [107],.int .u8 ((⟨3,0,false,[98]⟩:Vl).kind.toNat:Int),AA ((⟨3,0,false,[98]⟩:Vl).int),.bool ((⟨3,0,false,[98]⟩:Vl).bool),str ((⟨3,0,false,[98]⟩:Vl).text)]] ([str [107],.int .u8 ((⟨3,0,false,[98]⟩:Vl).kind.toNat:Int),AA ((⟨3,0,false,[98]⟩:Vl).int),.bool ((⟨3,0,false,[98]⟩:Vl).bool),str ((⟨3,0,false,[98]⟩:Vl).text)]) rfl rfl rfl rfl underlying24 KD rfl rfl (EZ rfl) rfl ?_)))))
 intro g25 w7 hg25 M
 refine cl 26 rfl (AE rfl rfl call36) (ZY gc c F [98] 3 (some ⟨g25,0,none⟩) _ _ (hC.fr0 M.fr) AU AU (by rfl) (M.rdBlk 0 rfl rfl) (hY.fr0 M.fr)) ?_
 rintro _ w8 ⟨V2,vc2,T2,tc2,a52,A2,fn2,fc2,rfl,hres2,hfw8⟩
 refine ⟨_,rfl,?_⟩
 have M:=M.push hfw8 (As.res _ _ [] (λw2=>Rd w2 V2 (1 * 5) (AB Bd.cells [mmK [98]])∧Rd w2 T2 (1 * 9) (AB Tk.cells [mmT 3]))) (λw2 h2=>hres2 w2 (VF h2)) (UP)
 refine AV rfl rfl (yb rfl (CO M rfl HI λg4 w9 hg4 M=>C2 M 0 rfl rfl CD rfl λw10 M=>AG rfl (sx_seq (AC rfl (FT rfl rfl (yb rfl ?_))))))
 refine gyq rfl (yd rfl (E1 rfl rfl rfl) (AG rfl (sx_false rfl (sx_skip (qx_seq (AC rfl (yb rfl (ya rfl (AH (xs:=[AA (0+1),str [112],.int .u8 1,.slice V1 1 vc1,.slice T1 1 tc1]) rfl rfl (DK (M.blk 3 rfl) 0 5 rfl rfl) underlying33 rfl CH) (ya rfl (AY (parts:=[(0,_),(1,_)]) rfl rfl (GW _ _ _ _ _ _)) (AV rfl rfl ?_))))))))))
 refine ya rfl (AH (xs:=[AA (3+1),str [112],.int .u8 1,.slice V2 1 vc2,.slice T2 1 tc2]) rfl rfl (DK (M.blk 0 rfl) 0 5 rfl rfl) underlying33 rfl CH) (ya rfl (AY (parts:=[(0,_),(1,_)]) rfl rfl (GW _ _ _ _ _ _)) (CU M (wn_none rfl) rfl rfl [.agg #[pg gc,AA (0+1),str [112],.int .u8 1,.slice V1 1 vc1,.slice T1 1 tc1],.agg #[pg gc,AA (3+1),str [112],.int .u8 1,.slice V2 1 vc2,.slice T2 1 tc2]] ([pg gc,AA (0+1),str [112],.int .u8 1,.slice V1 1 vc1,.slice T1 1 tc1,pg gc,AA (3+1),str [112],.int .u8 1,.slice V2 1 vc2,.slice T2 1 tc2]) rfl rfl rfl rfl underlying29 IM rfl rfl (by intro v hv;simp only [List.mem_cons,List.not_mem_nil,or_false] at hv;rcases hv with rfl | rfl<;>rfl) rfl λg43 w11 hg43 M=>yb rfl (gnr (gr1 rfl ?_))))
 exact ⟨gc,c,F,V1,vc1,T1,tc1,V2,vc2,T2,tc2,g43,rfl,⟨M.rdBlk 0 rfl rfl,λx hx=>by
  have hx:x=mmP gc c F [97] 0 V1 vc1 T1 tc1∨x=mmP gc c F [98] 3 V2 vc2 T2 tc2:=by simpa using hx
  rcases hx with rfl | rfl
  ·have h:=M.resA 5 rfl _ (λ_ _ _=>rfl)
   exact pW (hC.fr0 M.fr) AU h.1 h.2
  ·have h:=M.resA 2 rfl _ (λ_ _ _=>rfl)
   exact pW (hC.fr0 M.fr) AU h.1 h.2,by show 2≤8;omega⟩,hC.cz,hfw.trans M.fr⟩
theorem OW (w:World) (hY:Lay0 w) :
 Calls prog 6 #[] w (BN w (.bool true)):=by
 have hfw:Fr0 w w:=Fr.refl
 refine BL func6 ntmps6 rfl λM=>srg (AG rfl (srg (cl 6 rfl (AE rfl rfl call15) (jD _ hY) ?_)))
 rintro _ w ⟨gc,c,F,V,vc,T,tc,V2,vc2,T2,tc2,g,rfl,hPt,hZ,hfq⟩
 refine ⟨_,rfl,?_⟩
 replace hfq:=M.fr.trans hfq
 replace hfw:=hfw.trans hfq
 replace hY:=hY.fr0 hfq
 have M:=cV w
 refine AG rfl (AC rfl (ya rfl (AY (parts:=[(0,_),(1,_)]) rfl rfl (KO _ _)) (cl 10 rfl (AE rfl rfl call9) (Sf.mfind_ok (some ⟨g,0,none⟩) 2 [mmP gc c F [97] 0 V vc T tc,mmP gc c F [98] 3 V2 vc2 T2 tc2] (mmQ [98]) _ (hPt.fr0 M.fr) (j9 _ [98]) (hY.fr0 M.fr)) ?_)))
 rintro _ w1 ⟨ss10,hs10,rfl,hfw1⟩
 refine ⟨.tuple #[.agg #[AA 1,AA 5,str [99]],.bool true],by rw [(ZX hZ rfl hs10).1];rfl,?_⟩
 have M:=M.step hfw1
 refine AV rfl rfl (yb rfl (CO M rfl DY λg2 w2 hg2 M=>C2 M 0 rfl rfl BQ rfl λw3 M=>AG rfl (AC rfl (ya rfl (AY (parts:=[(0,_),(1,_)]) rfl rfl (KO _ _)) (cl 16 rfl (AE rfl rfl call9) (Sf.mfind_ok (some ⟨g,0,none⟩) 2 [mmP gc c F [97] 0 V vc T tc,mmP gc c F [98] 3 V2 vc2 T2 tc2] (mmQ [122]) _ (hPt.fr0 M.fr) (j9 _ [122]) (hY.fr0 M.fr)) ?_)))))
 rintro _ w4 ⟨ss16,hs16,rfl,hfw4⟩
 refine ⟨.tuple #[.agg #[AA 0,AA 0,str []],.bool false],by rw [(ZX hZ rfl hs16).2];rfl,?_⟩
 have M:=M.step hfw4
 refine AV rfl rfl (yb rfl (CO M rfl DY λg4 w5 hg4 M=>C2 M 0 rfl rfl BQ rfl λw6 M=>AG rfl (AC rfl (DP rfl rfl (C7 rfl rfl (yb rfl ?_))))))
 refine gyq rfl (AV rfl rfl (yd rfl (AH (xs:=[AA 1,AA 5,str [99]]) rfl rfl (M.rdBlk 1 rfl rfl) underlying38 rfl BQ) (yd rfl (AY (parts:=[(0,_),(1,_),(2,_)]) rfl rfl (J6 _ _ _)) (yd rfl (XN (a:=⟨1,5,[99]⟩) (b:=⟨1,5,[99]⟩) rfl rfl rfl) (AV rfl rfl (gyq rfl (gyq rfl (AV rfl rfl (gnr (gr1 rfl ?_))))))))))
 exact ⟨rfl,hfw.trans M.fr⟩
end Go.Proofs.YtaheakjfkpkefaaGreatDoor
