/- Lemmas. -/
import Derived.Test.YtaheakjfkpkefaaGreatDoorVSs1
set_option maxHeartbeats 16000000
set_option maxRecDepth 100000
namespace Go.Proofs.YtaheakjfkpkefaaGreatDoor
open Go.RowKit
open Tryz
def Ht.same (a b:Ht):Bool:=decide (a.pl=b.pl)&&(decide (a.tok=b.tok)&&(decide (a.via=b.via)))
theorem nL : prog.eqGuardType prog.depth 38=false:=by kernel_rfl
theorem tN : prog.stoodInHeld 38=false:=by kernel_rfl
theorem iL : prog.underlying 38=some (.struct (prog.fieldsOf 38)):=by kernel_rfl
theorem xF {w:World} (a b:Ht):(Op.equalIn 10000 38 (.agg a.cells.toArray) (.agg b.cells.toArray)).run prog w=.ok (a.same b) w:=by
 have s_:∀(u v:List UInt8),(Op.equalIn 9999 9 (str u) (str v)).run prog w=.ok (decide (u=v)) w:=λu v=>by
  have:=run_equalIn_string (P:=prog) w 9998 9 ⟨u.toArray⟩ ⟨v.toArray⟩ underlying9
  unfold str;rw [this,ByteArray.toList_eq,ByteArray.toList_eq]
  by_cases huv:u=v<;>simp [huv]
 have i_:∀(t:Nat) (k:IntKind) (u v:Int),prog.underlying t=some (.int k)→(Op.equalIn 9999 t (.int k u) (.int k v)).run prog w=.ok (decide (u=v)) w:=λt k u v ht=>by
  have:=run_equalIn_int (P:=prog) w 9998 t k k u v ht
  rw [this];by_cases huv:u=v<;>simp [huv]
 rw [run_equalIn_struct w 9999 38 _ _ iL tN];have hl:(prog.fieldsOf 38).toList=(match prog.underlying 38 with|some (.struct fs)=>fs.toList|_=>[]):=by unfold Program.fieldsOf;rw [underlying38]
 rw [hl,underlying38]
 simp only
 have N_:=isAgg3 w;have S_:=isAgg9 w;rw [BC (a:=AC a.pl) (b:=AC b.pl) B3 (B8 N_ rfl) (B8 N_ rfl) (i_ _ _ _ _ underlying3)];refine E5 ?_;rw [BC (a:=AC a.tok) (b:=AC b.tok) B3 (B8 N_ rfl) (B8 N_ rfl) (i_ _ _ _ _ underlying3)];refine E5 ?_;rw [BC (a:=str a.via) (b:=str b.via) B3 (B8 S_ rfl) (B8 S_ rfl) (s_ _ _),LK]
 cases (decide (a.via=b.via))<;>rfl
theorem vC {e:Env} {w:World} {o:Oper} {t':Nat} {x y:Operand} {a b:Ht} (ho:o.op=.binOp .eql 38 x y t') (hx:ev e x=some (.agg a.cells.toArray)) (hy:ev e y=some (.agg b.cells.toArray)):Y prog e o w (.bool (a.same b)):=λρ h=>by
 have h1:ρ x=.agg a.cells.toArray:=h _ _ hx;have h2:ρ y=.agg b.cells.toArray:=h _ _ hy;have hg:=run_eqGuard_agg (P:=prog) w .eql 38 x y a.cells.toArray b.cells.toArray nL;unfold execOp;simp only [ho,h1,h2,Sem.run_bind,hg,Result.andThen_ok,run_eql_struct,xF a b]
 rfl
theorem IJ (a0:List UInt8) (c1_0 c1_1 c1_2 c1_3:Value):prog.built 103 [(0,str a0),(1,.agg #[c1_0,c1_1,c1_2,c1_3])]=some #[str a0,c1_0,c1_1,c1_2,c1_3]:=by kernel_rfl
theorem K9 (a0:List UInt8) (a2:Int) (a6:Int) (a7:List UInt8) (a8:List UInt8):prog.built 95 [(0,str a0),(2,.int .u8 a2),(6,.int .u8 a6),(7,str a7),(8,str a8)]=some #[str a0,str [],.int .u8 a2,str [],str [],str [],.int .u8 a6,str a7,str a8,AC 0,AC 0]:=by kernel_rfl
theorem LX (a0:List UInt8) (a1:List UInt8):prog.built 26 [(0,str a0),(1,str a1)]=some #[str a0,str a1,.slice none 0 0,AC 0]:=by kernel_rfl
theorem N2 (a0:List UInt8) (A2:Option Addr) (n2 c2:Nat) (A3:Option Addr) (n3 c3:Nat) (A4:Option Addr) (n4 c4:Nat):prog.built 62 [(0,str a0),(2,.slice A2 n2 c2),(3,.slice A3 n3 c3),(4,.slice A4 n4 c4)]=some #[str a0,str [],.slice A2 n2 c2,.slice A3 n3 c3,.slice A4 n4 c4]:=by kernel_rfl
theorem LB : (prog.info? 103).map (λi=>(i.zero,i.size))=some (some (.agg #[str [],.int .u8 0,AC 0,.bool false,str []]),5):=by kernel_rfl
theorem gW (w:World) :
 Calls prog 35 #[] w λe w'=>∃a,e=.returned (.agg (Md.cells mmM a).toArray)∧MdIn w' mmM a∧Fr0 w w':=by
 refine BH func35 ntmps35 X λM=>srg (CI M X zr_api_Model λg0 w1 hg0 M=>EV (CD M 1 X X call37 (MC [] _) λw2 M=>ya X (AY (parts:=[(0,_),(1,_)]) X X (IJ _ _ _ _ _)) (CN M (wn_none X) X X [.agg #[str [107],.int .u8 ((⟨3,0,false,[]⟩:Vl).kind.toNat:Int),AC ((⟨3,0,false,[]⟩:Vl).int),.bool ((⟨3,0,false,[]⟩:Vl).bool),str ((⟨3,0,false,[]⟩:Vl).text)]] ([str [107],.int .u8 ((⟨3,0,false,[]⟩:Vl).kind.toNat:Int),AC ((⟨3,0,false,[]⟩:Vl).int),.bool ((⟨3,0,false,[]⟩:Vl).bool),str ((⟨3,0,false,[]⟩:Vl).text)]) X X X X underlying24 LB X X (FP X) X λg3 w3 hg3 M=>ya X (AY (parts:=[(0,_),(2,_)]) X X (JI _ _)) (ya X (AY (parts:=[(0,_),(2,_),(6,_),(7,_),(8,_)]) X X (K9 _ _ _ _ _)) (ya X (AY (parts:=[(0,_),(2,_)]) X X (JI _ _)) ?_)))))
 exact CN M (wn_none X) X X [.agg #[str [115],str [],.int .u8 1,str [],str [],str [],.int .u8 0,str [],str [],AC 0,AC 0],.agg #[str [99],str [],.int .u8 8,str [],str [],str [],.int .u8 2,str [109],str [107],AC 0,AC 0],.agg #[str [101],str [],.int .u8 2,str [],str [],str [],.int .u8 0,str [],str [],AC 0,AC 0]] ([str [115],str [],.int .u8 1,str [],str [],str [],.int .u8 0,str [],str [],AC 0,AC 0,str [99],str [],.int .u8 8,str [],str [],str [],.int .u8 2,str [109],str [107],AC 0,AC 0,str [101],str [],.int .u8 2,str [],str [],str [],.int .u8 0,str [],str [],AC 0,AC 0]) X X X X underlying59 RG X X (by intro v hv;simp only [List.mem_cons,List.not_mem_nil,or_false] at hv;rcases hv with rfl|rfl|rfl<;>rfl) X λg7 w4 hg7 M=>ya X (AY (parts:=[(0,_),(1,_),(2,_)]) X X (JZ _ _ _)) (ya X (AY (parts:=[(0,_),(1,_),(2,_)]) X X (JZ _ _ _)) (CN M (wn_none X) X X [.agg #[str [102],str [115],str [99],str []],.agg #[str [103],str [99],str [101],str []]] ([str [102],str [115],str [99],str [],str [103],str [99],str [101],str []]) X X X X underlying60 L9 X X (by intro v hv;simp only [List.mem_cons,List.not_mem_nil,or_false] at hv;rcases hv with rfl|rfl<;>rfl) X λg10 w5 hg10 M=>ya X (AY (parts:=[(0,_),(2,_),(3,_),(4,_)]) X X (N2 _ _ _ _ _ _ _ _ _ _)) (BD M 3 X X BN X λw6 M=>gnr (E3 X X (M.rdBlk 3 X X) underlying62 X BN ⟨⟨(some ⟨g3,0,none⟩),1,(some ⟨g7,0,none⟩),3,(some ⟨g10,0,none⟩),2⟩,X,⟨M.rdBlk 2 X X,M.rdBlk 1 X X,M.rdBlk 0 X X⟩,M.fr⟩))))
theorem yN (a:MdA) (w:World) (hM:MdIn w mmM a) (hY:Lay0 w):Calls prog 16 #[.agg (Md.cells mmM a).toArray] w λe w'=>∃gc c F,e=.returned (.tuple #[pg gc,AC 0])∧CourseN w' mmM gc c F∧Fr0 w w':=
 (wN mmM a w mP hM hY).mono λe w' ⟨h,hf⟩=>by
  rcases h with ⟨_,gc,c,F,h1,h2,_⟩|⟨h,_⟩
  ·exact ⟨gc,c,F,h1,h2,hf⟩
  ·rw [bB] at h;cases h
theorem dL (gc:Nat) (c:CrA) (F:List Nat) (v:List UInt8) (nx:Int) (V:Option Addr) (vc:Nat) (w:World) (hC:CourseN w mmM gc c F) (hv:v.length≤1000) (hnx:nx≤1000) (hb:pT mmM [mmK v] nx 0=true) (hV:Rd w V (1*5) (AD Bd.cells [mmK v])) (hY:Lay0 w) :
 Calls prog 36 #[pg gc,.slice V 1 vc,AC nx,AC 0] w λe w'=>∃V1 vc1 T tc a5 A fn fc,e=.returned (.tuple #[.agg #[AC (nx+1),str [112],.int .u8 1,.slice V1 1 vc1,.slice T 1 tc,AC a5,.slice A fn fc],AC 0])∧(∀w2,N7 w.heap.size [] w' w2→Rd w2 V1 (1*5) (AD Bd.cells [mmK v])∧Rd w2 T (1*9) (AD Tk.cells [mmT nx]))∧Fr0 w w':=
 (jG mmM gc c F [mmK v] V vc nx 0 w mP yM hC (mQ hv) hV hY r8 (sU v hC) (wQ hC.cz v)).mono λe w' ⟨hf,h⟩=>by
  rcases h with ⟨_,h⟩|⟨_,x,hx,hk,_,h⟩
  ·rw [hb] at h;cases h
  ·obtain ⟨V1,vc1,T,tc,a5,A,fn,fc,h1,h2⟩:=gX hC.cz hnx hx hk h;exact ⟨V1,vc1,T,tc,a5,A,fn,fc,h1,h2,hf⟩
theorem mS (w:World) (hY:Lay0 w) :
 Calls prog 15 #[] w λe w'=>∃gc c F V vc T tc V2 vc2 T2 tc2 g,e=.returned (.slice (some ⟨g,0,none⟩) 2 2)∧Pts w' (some ⟨g,0,none⟩) [mmP gc c F [97] 0 V vc T tc,mmP gc c F [98] 3 V2 vc2 T2 tc2]∧Cz mmM c∧Fr0 w w':=by
 have hfw:Fr0 w w:=Fr.refl;refine BH func15 ntmps15 X λM=>srg (AJ X (srg (cl 7 X (AG X X call35) (gW _) ?_)))
 rintro _ w ⟨sa,rfl,hMi,hfq⟩;refine ⟨_,X,?_⟩
 replace hfq:=M.fr.trans hfq
 replace hfw:=hfw.trans hfq
 replace hY:=hY.fr0 hfq
 have M:=sT w;refine cl 8 X (AG X X call16) (yN sa _ hMi hY) ?_;rintro _ w ⟨gc,c,F,rfl,hC,hfq⟩;refine ⟨_,X,?_⟩
 replace hfq:=M.fr.trans hfq
 replace hfw:=hfw.trans hfq
 replace hY:=hY.fr0 hfq
 replace hMi:=hMi.fr0 hfq
 have M:=sT w;iterate 5 refine yb X ?_
 refine nq (sx_seq (AE X (CT X X (nq (sx_false X (sx_skip (qx_seq (AE X (CD M 15 X X call37 (MC [97] _) λw1 M=>?_)))))))));refine ya X (AY (parts:=[(0,_),(1,_)]) X X (IJ _ _ _ _ _)) (CN M (wn_none X) X X [.agg #[str [107],.int .u8 ((⟨3,0,false,[97]⟩:Vl).kind.toNat:Int),AC ((⟨3,0,false,[97]⟩:Vl).int),.bool ((⟨3,0,false,[97]⟩:Vl).bool),str ((⟨3,0,false,[97]⟩:Vl).text)]] ([str [107],.int .u8 ((⟨3,0,false,[97]⟩:Vl).kind.toNat:Int),AC ((⟨3,0,false,[97]⟩:Vl).int),.bool ((⟨3,0,false,[97]⟩:Vl).bool),str ((⟨3,0,false,[97]⟩:Vl).text)]) X X X X underlying24 LB X X (FP X) X λg17 w2 hg17 M=>cl 18 X (AG X X call36) (dL gc c F [97] 0 (some ⟨g17,0,none⟩) _ _ (hC.fr0 M.fr) B3 B3 (by rfl) (M.rdBlk 0 X X) (hY.fr0 M.fr)) ?_);rintro _ w3 ⟨V1,vc1,T1,tc1,a51,A1,fn1,fc1,rfl,hres1,hfw3⟩;refine ⟨_,X,?_⟩;have M:=M.push hfw3 (As.res _ _ [] (λw2=>Rd w2 V1 (1*5) (AD Bd.cells [mmK [97]])∧Rd w2 T1 (1*9) (AD Tk.cells [mmT 0]))) (λw2 h2=>hres1 w2 (S5 h2)) (RR);refine AV X X (yb X (CI M X FQ λg3 w4 hg3 M=>BD M 0 X X BU X λw5 M=>AJ X (AE X (CD M 23 X X call37 (MC [98] _) λw6 M=>ya X (AY (parts:=[(0,_),(1,_)]) X X (IJ _ _ _ _ _)) (CN M (wn_none X) X X [.agg #[str [107],.int .u8 ((⟨3,0,false,[98]⟩:Vl).kind.toNat:Int),AC ((⟨3,0,false,[98]⟩:Vl).int),.bool ((⟨3,0,false,[98]⟩:Vl).bool),str ((⟨3,0,false,[98]⟩:Vl).text)]] ([str [107],.int .u8 ((⟨3,0,false,[98]⟩:Vl).kind.toNat:Int),AC ((⟨3,0,false,[98]⟩:Vl).int),.bool ((⟨3,0,false,[98]⟩:Vl).bool),str ((⟨3,0,false,[98]⟩:Vl).text)]) X X X X underlying24 LB X X (FP X) X ?_)))));intro g25 w7 hg25 M;refine cl 26 X (AG X X call36) (dL gc c F [98] 3 (some ⟨g25,0,none⟩) _ _ (hC.fr0 M.fr) B3 B3 (by rfl) (M.rdBlk 0 X X) (hY.fr0 M.fr)) ?_;rintro _ w8 ⟨V2,vc2,T2,tc2,a52,A2,fn2,fc2,rfl,hres2,hfw8⟩;refine ⟨_,X,?_⟩;have M:=M.push hfw8 (As.res _ _ [] (λw2=>Rd w2 V2 (1*5) (AD Bd.cells [mmK [98]])∧Rd w2 T2 (1*9) (AD Tk.cells [mmT 3]))) (λw2 h2=>hres2 w2 (S5 h2)) (RR);refine AV X X (yb X (CI M X FQ λg4 w9 hg4 M=>BD M 0 X X BU X λw10 M=>AJ X (sx_seq (AE X (CT X X (yb X ?_))))));refine gyq X (yd X (DX X X X) (AJ X (sx_false X (sx_skip (qx_seq (AE X (yb X (ya X (AK (xs:=[AC (0+1),str [112],.int .u8 1,.slice V1 1 vc1,.slice T1 1 tc1]) X X (DZ (M.blk 3 X) 0 5 X X) underlying33 X CF) (ya X (AY (parts:=[(0,_),(1,_)]) X X (HQ _ _ _ _ _ _)) (AV X X ?_))))))))));refine ya X (AK (xs:=[AC (3+1),str [112],.int .u8 1,.slice V2 1 vc2,.slice T2 1 tc2]) X X (DZ (M.blk 0 X) 0 5 X X) underlying33 X CF) (ya X (AY (parts:=[(0,_),(1,_)]) X X (HQ _ _ _ _ _ _)) (CN M (wn_none X) X X [.agg #[pg gc,AC (0+1),str [112],.int .u8 1,.slice V1 1 vc1,.slice T1 1 tc1],.agg #[pg gc,AC (3+1),str [112],.int .u8 1,.slice V2 1 vc2,.slice T2 1 tc2]] ([pg gc,AC (0+1),str [112],.int .u8 1,.slice V1 1 vc1,.slice T1 1 tc1,pg gc,AC (3+1),str [112],.int .u8 1,.slice V2 1 vc2,.slice T2 1 tc2]) X X X X underlying29 MR X X (by intro v hv;simp only [List.mem_cons,List.not_mem_nil,or_false] at hv;rcases hv with rfl|rfl<;>rfl) X λg43 w11 hg43 M=>yb X (gnr (gr1 X ?_))))
 exact ⟨gc,c,F,V1,vc1,T1,tc1,V2,vc2,T2,tc2,g43,X,⟨M.rdBlk 0 X X,λx hx=>by
  have hx:x=mmP gc c F [97] 0 V1 vc1 T1 tc1∨x=mmP gc c F [98] 3 V2 vc2 T2 tc2:=by simpa using hx
  rcases hx with rfl|rfl
  ·have h:=M.resA 5 X _ (λ_ _ _=>X);exact uO (hC.fr0 M.fr) B3 h.1 h.2
  ·have h:=M.resA 2 X _ (λ_ _ _=>X);exact uO (hC.fr0 M.fr) B3 h.1 h.2,by show 2≤8;omega⟩,hC.cz,hfw.trans M.fr⟩
theorem VC (w:World) (hY:Lay0 w) :
 Calls prog 6 #[] w (BI w (.bool true)):=by
 have hfw:Fr0 w w:=Fr.refl;refine BH func6 ntmps6 X λM=>srg (AJ X (srg (cl 6 X (AG X X call15) (mS _ hY) ?_)))
 rintro _ w ⟨gc,c,F,V,vc,T,tc,V2,vc2,T2,tc2,g,rfl,hPt,hZ,hfq⟩;refine ⟨_,X,?_⟩
 replace hfq:=M.fr.trans hfq
 replace hfw:=hfw.trans hfq
 replace hY:=hY.fr0 hfq
 have M:=sT w;refine AJ X (AE X (ya X (AY (parts:=[(0,_),(1,_)]) X X (LX _ _)) (cl 10 X (AG X X call9) (Sf.mfind_ok (some ⟨g,0,none⟩) 2 [mmP gc c F [97] 0 V vc T tc,mmP gc c F [98] 3 V2 vc2 T2 tc2] (mmQ [98]) _ (hPt.fr0 M.fr) (mO _ [98]) (hY.fr0 M.fr)) ?_)));rintro _ w1 ⟨ss10,hs10,rfl,hfw1⟩;refine ⟨.tuple #[.agg #[AC 1,AC 5,str [99]],.bool true],by rw [(dK hZ rfl hs10).1];rfl,?_⟩;have M:=M.step hfw1;refine AV X X (yb X (CI M X G2 λg2 w2 hg2 M=>BD M 0 X X D8 X λw3 M=>AJ X (AE X (ya X (AY (parts:=[(0,_),(1,_)]) X X (LX _ _)) (cl 16 X (AG X X call9) (Sf.mfind_ok (some ⟨g,0,none⟩) 2 [mmP gc c F [97] 0 V vc T tc,mmP gc c F [98] 3 V2 vc2 T2 tc2] (mmQ [122]) _ (hPt.fr0 M.fr) (mO _ [122]) (hY.fr0 M.fr)) ?_)))));rintro _ w4 ⟨ss16,hs16,rfl,hfw4⟩;refine ⟨.tuple #[.agg #[AC 0,AC 0,str []],.bool false],by rw [(dK hZ rfl hs16).2];rfl,?_⟩;have M:=M.step hfw4;refine AV X X (yb X (CI M X G2 λg4 w5 hg4 M=>BD M 0 X X D8 X λw6 M=>AJ X (AE X (DF X X (BZ X X (yb X ?_))))));refine gyq X (AV X X (yd X (AK (xs:=[AC 1,AC 5,str [99]]) X X (M.rdBlk 1 X X) underlying38 X D8) (yd X (AY (parts:=[(0,_),(1,_),(2,_)]) X X (JY _ _ _)) (yd X (vC (a:=⟨1,5,[99]⟩) (b:=⟨1,5,[99]⟩) X X X) (AV X X (gyq X (gyq X (AV X X (gnr (gr1 X ?_))))))))));exact ⟨X,hfw.trans M.fr⟩
end Go.Proofs.YtaheakjfkpkefaaGreatDoor
