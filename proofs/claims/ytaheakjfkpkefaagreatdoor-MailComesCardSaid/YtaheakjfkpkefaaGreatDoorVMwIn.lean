/- Lemmas. -/
import Derived.Test.YtaheakjfkpkefaaGreatDoorVMw10
import Derived.SizedLaws
import Derived.Lib.SmallJoins
import Derived.ChangeArms
set_option maxHeartbeats 16000000
set_option maxRecDepth 100000
namespace Go.Proofs.YtaheakjfkpkefaaGreatDoor
open Go.RowKit
open Tryz
def pU (m:Md) (l:List Bd) (next clock:Int):Bool:=((((!(FN l m.vars)) || (decide (next<(0:Int)))) || (decide ((2147483647:Int)≤next))) || (decide (clock<(0:Int)))) || (decide ((1099511627776:Int)<clock))
def pT (m:Md) (l:List Bd) (next clock:Int):Bool := !(pU m l next clock)
theorem uD {m:Md} {l:List Bd} {next clock:Int} (h:pU m l next clock=false):FN l m.vars=true∧0≤next∧next<2147483647:=by
 unfold pU at h
 simp only [Bool.or_eq_false_iff,decide_eq_false_iff_not,Bool.not_eq_false'] at h
 exact ⟨h.1.1.1.1,by omega,by omega⟩
theorem dR {α:Type} {p:α→Bool} {l:List α} (h:∃x∈l,p x=true):∀i:Nat,∃j x,ixJ (λ(_:Nat)=>p) i l=((i+j:Nat):Int)∧l[j]?=some x∧p x=true:=by
 induction l with
 | nil=>obtain ⟨x,hx,_⟩:=h;cases hx
 | cons b r ih=>
  intro i;unfold ixJ
  by_cases hb:p b=true
  ·exact ⟨0,b,by rw [if_pos hb];rfl,rfl,hb⟩
  ·rw [if_neg hb];obtain ⟨x,hx,hp⟩:=h;rcases List.mem_cons.1 hx with rfl|hx
   ·exact absurd hp hb
   ·obtain ⟨j,a,h1,h2,h3⟩:=ih ⟨x,hx,hp⟩ (i+1);exact ⟨j+1,a,by rw [h1];congr 1;omega,by simpa using h2,h3⟩
theorem pS {m:Md} (R:Rl m):∃j x,ixJ (λ(_:Nat) (x:El)=>(decide ((x.kind.toNat:Int)=1)&&decide (x.inn=[]))) 0 m.els=((j:Nat):Int)∧m.els[j]?=some x∧x.kind.toNat=1∧x.inn=[]:=by
 have h5:=R.five [] List.mem_cons_self;unfold TN at h5
 simp only [Bool.and_eq_true,decide_eq_true_eq] at h5
 have h1:0<cntK 1 m.els []:=by omega
 unfold cntK at h1
 obtain ⟨x,hx⟩:=List.exists_mem_of_length_pos h1;obtain ⟨hx1,hx2⟩:=List.mem_filter.1 hx;simp only [Bool.and_eq_true,decide_eq_true_eq] at hx2
 obtain ⟨j,y,h1,h2,h3⟩:=dR (p:=λx:El=>(decide ((x.kind.toNat:Int)=1)&&decide (x.inn=[]))) ⟨x,hx1,by simp [hx2.1,hx2.2]⟩ 0;simp only [Bool.and_eq_true,decide_eq_true_eq] at h3
 exact ⟨j,y,by rw [h1,Nat.zero_add],h2,by omega,h3.2⟩
theorem M5 (a0:Int) (a1:List UInt8) (A3:Option Addr) (n3 c3:Nat):prog.built 33 [(0,AC a0),(1,str a1),(3,.slice A3 n3 c3)]=some #[AC a0,str a1,.int .u8 0,.slice A3 n3 c3,.slice none 0 0]:=by kernel_rfl
theorem jH (x:El) (w:World) :
 Calls prog 64 #[.agg x.cells.toArray] w (BI w (.bool (decide ((x.kind.toNat:Int)=1)&&decide (x.inn=[])))):=by
 refine BH func64 ntmps64 X λM=>srg (CC M X X λg1 w1 hg1 M=>AJ X (AE X (AU M 0 X X X (BZ X X (yb X (fvm M 4 [2] [(10,.bool ((decide ((x.kind.toNat:Int)=1))&&(decide (x.inn=[]))))] ?_ (λk6=>?_)))))))
 ·intro w2 M;exact yb X (gnr (gr1 X ⟨X,M.fr⟩))
 refine AI (d:=6) X (λh6=>?_) (λh6=>?_)
 ·exact gyq X (CE M 0 X X X (yd X (CX X X X) (yb X (k6 M ⟨X,(by rw [h6];rfl),trivial⟩))))
 ·exact yo X (yo X (yo X (yb X (k6 M ⟨X,(by rw [h6];rfl),trivial⟩))))
theorem jG (m:Md) (gc:Nat) (c:CrA) (F:List Nat) (l:List Bd) (V:Option Addr) (vc:Nat) (next clock:Int) (w:World) (ho:MdOk m) (R:Rl m) (hC:CourseN w m gc c F) (hok:BdOk l) (hV:Rd w V (l.length*5) (AD Bd.cells l)) (hY:Lay0 w) {Q:Nat→Prop} (hS:QU Q) (hps:PV w m gc c V vc l) (hQ:∀x∈m.els,x.kind.toNat=1→∀z,(c.outs x.id)[0]?=some z→∀σ',Rn m c l (L5 [] z [x.id]) σ'→Q (σ'.on++σ'.done).length) :
 Calls prog 36 #[pg gc,.slice V l.length vc,AC next,AC clock] w λe w'=>Fr0 w w'∧((e=.returned (.tuple #[.agg zMvd.toArray,AC 1])∧pT m l next clock=false)∨(pT m l next clock=true∧∃x∈m.els,x.kind.toNat=1∧x.inn=[]∧∀w2,N7 w.heap.size [] w' w2→MvD m c ⟨next+1,m.id,0,l,[]⟩ [] (((c.outs x.id)[0]?).getD []) [x.id] (next+1) clock e w2)):=by
 have Z:=hC.cz;have hne:=ho.nels;refine BH func36 ntmps36 X λM=>srg (CI M X FQ λg8 w1 hg8 M=>AJ X (sx_seq (AE X (ya X (J1 X X X (pt X)) (nq (sx_false X ?_))))))
 refine sx_skip (qx_seq (sx_seq (AE X (yb X (CD M 17 X X call30 (cP m gc c F l V vc _ (hC.fr0 M.fr) hok (hV.fr0 M.fr) (hY.fr0 M.fr)) λw2 M=>AV X X (fvm M 3 [8,3,2,1,0] [(22,.bool ((!(FN l m.vars)) || (decide (next<(0:Int)))))] ?_ (λk19=>?_)))))))
 ·intro w3 M;refine yb X (fvm M 3 [8,3,2,1,0] [(26,.bool (((!(FN l m.vars)) || (decide (next<(0:Int)))) || (decide ((2147483647:Int)≤next))))] ?_ (λk23=>?_))
  ·intro w4 M;refine yb X (fvm M 3 [8,3,2,1,0] [(30,.bool ((((!(FN l m.vars)) || (decide (next<(0:Int)))) || (decide ((2147483647:Int)≤next))) || (decide (clock<(0:Int)))))] ?_ (λk27=>?_))
   ·intro w5 M;refine yb X (fvm M 3 [8,3,2,1,0] [(34,.bool (((((!(FN l m.vars)) || (decide (next<(0:Int)))) || (decide ((2147483647:Int)≤next))) || (decide (clock<(0:Int)))) || (decide ((1099511627776:Int)<clock))))] ?_ (λk31=>?_))
    ·intro w6 M;refine nq (AF X (λh34=>?_) (λh34=>?_))
     ·have h34p:=((E1 h34).imp (λz=>((E1 z).imp (λz=>((E1 z).imp (λz=>((E1 z).imp (λz=>(C5 z)) (λz=>(odt z)))) (λz=>(odt z)))) (λz=>(odt z)))) (λz=>(odt z)));exact srg (ya X (AY (parts:=[]) X X (FT)) (BD M 0 X X BU X λw7 M=>yb X (gnr (qx_then_ret (B1 X X (M.rdBlk 0 X X) underlying50 X BU X ⟨M.fr,.inl ⟨X,by rw [pT,pU,h34];rfl⟩⟩)))))
     ·have h34p:=(And.intro (And.intro (And.intro (And.intro (BL (C6 (C6 (C6 (C6 h34).1).1).1).1) (odf (C6 (C6 (C6 (C6 h34).1).1).1).2)) (odf (C6 (C6 (C6 h34).1).1).2)) (odf (C6 (C6 h34).1).2)) (odf (C6 h34).2));obtain ⟨hvE,hn1,hn2⟩:=uD (m:=m) (l:=l) (next:=next) (clock:=clock) h34;have hvl:l.length≤1000:=by rw [SD hvE];have:=R.lens.2.2;omega
      refine sx_skip (qx_seq (srg ?_));iterate 4 refine yb X ?_
      refine yl X X (Blk.c ((hC.fr0 M.fr).blk) 3 X) (cl 41 X (AG X X call63) (RV El.cells El.len c.a.E c.a.ec m.els AA 64 [] (λ(_:Nat) (x:El)=>(decide ((x.kind.toNat:Int)=1)&&decide (x.inn=[]))) AR (λ_ _=>True) _ (G5 call64 (λx _ w9 _=>jH x w9)) (λ_ hf9=>(hC.fr0 M.fr).md.md.els.fr0 hf9) trivial) ?_);rintro _ w8 ⟨rfl,_,hfw8⟩;refine ⟨_,X,?_⟩;have M:=M.step hfw8;obtain ⟨j,x,hj,hx,hx1,hx2⟩:=pS R;have hxm:x∈m.els:=List.mem_of_getElem? hx;have hjl:j<m.els.length:=(List.getElem?_eq_some_iff.1 hx).1;rw [hj];obtain ⟨b_x,o_x,hA_x⟩:=B5 (k:=11) AA ((hC.fr0 M.fr).md.md.els) hx;have hz0:=I8 R Z hxm AA;refine AJ X (srg ?_);iterate 4 refine yb X ?_
      refine yl X X (Blk.c ((hC.fr0 M.fr).blk) 3 X) (yb X (ya X (AN j hA_x X X X (sl X) AA) (yb X (yl X X (D9 El.len ((hC.fr0 M.fr).md.md.els) hA_x hx 0 X) (AJ X (sx_seq (GP M 26 CH λM=>oc 0 26 X X M (oc 1 26 X X M (oa 2 26 X X M (λ_ M=>GE X X X AA) (oc 3 26 X X M (oc 4 26 X X M (oc 5 26 X X M ?_))))))))))));refine oc 6 26 X X M (ol 7 26 X X X M (λ_ M=>(Blk.c ((hC.fr0 M.fr).blk) 0 X)) (oc 8 26 X X M (oa 9 26 X X M (λ_ M=>AY (parts:=[(0,_),(1,_),(3,_)]) X X (M5 _ _ _ _ _)) (oc 10 26 X X M (oc 11 26 X X M (oc 12 26 X X M (ol 13 26 X X X M (λ_ M=>(Blk.c ((hC.fr0 M.fr).blk) 8 X)) (oc 14 26 X X M (oa 15 26 X X M (λ_ M=>BK X X X underlying87 underlying9 D4 ((hC.fr0 M.fr).O) (hC.getO _)) ?_)))))))));obtain ⟨z,hz⟩:=BM (l:=(c.outs x.id)) (i:=0) AA;obtain ⟨b_z,o_z,hA_z⟩:=B5 (k:=1) AA ((hC.fr0 M.fr).rdO _) hz;refine oa 16 26 X X M (λ_ M=>AN 0 hA_z X X X (sl X) AA) (ol 17 26 X X X M (λ_ M=>(D9 DQ ((hC.fr0 M.fr).rdO _) hA_z hz 0 X)) (oc 18 26 X X M (oc 20 26 X X M (oa 21 26 X X M (λ_ M=>GE X X X AA) (oc 22 26 X X M (B2 19 (some 70) gkr X (wn_none X) X X (λρ hρ=>D3 [str x.id] _ hρ X X X X underlying48 CS B3 B3 (FP X)) ?_))))));rintro _ w9 ⟨g70,rfl,hg70,hq70,hb70,hfw9⟩
      replace hb70:Blk w9 g70 9 ([str x.id]):=hb70
      refine ⟨λ_=>M.step hfw9,?_⟩;have M:=M.push hfw9 _ hb70 (DO hg70 hq70)
      replace M:Mem w AR (As.blk g70 9 ([str x.id])::_) w9:=M
      have M:=M.blkOwn 0 (size:=1) (n:=1) X X (by unfold maxLen;omega);have M:=M.nilOwn 56 9;have M2:=M.pk [1,0,2];refine BQ 23 (some 74) gkr X (wn_none X) X X (AG X X call27) (VE w m gc c F (⟨next+1,m.id,0,l,[]⟩:In) V none none (some ⟨g70,0,none⟩) vc 0 0 1 _ _ [] z [x.id] (next+1) clock _ _ ho R hvl hV hC M.fr M2.new2 (λt ht _=>by cases ht) (JW R Z (List.mem_of_getElem? hz)) (Nat.zero_le _) (by show 1≤2;decide) AA AA M2.self2 hS hps (λ_ hr=>hQ x hxm hx1 _ hz _ hr)) ?_;rintro e9 w10 ⟨hfw10,hres⟩;have M:=M2.swap2 hfw10 hres;obtain ⟨a0,a1,a2,W0,wn,wc,X0,xn,xc,a5,Y0,yn,yc,er,rfl,her⟩:=MvD.shape (hres _ λ_ _ _=>X);refine ⟨_,X,λ_=>(M.drop 1),?_⟩;refine oc 24 26 X X (M.drop 1) (oc 25 26 X X (M.drop 1) (B2 26 none gkr X (wn_none X) X X (λρ hρ=>BO 50 _ _ X g8 0 50 _ ([AC a0,str a1,.int .u8 a2,.slice W0 wn wc,.slice X0 xn xc,AC a5,.slice Y0 yn yc]) (hρ _ _ X) (hρ _ _ X) (M.blk 1 X) BU (HX X) (CL X)) ?_));rintro _ w11 ⟨rfl,hbw11,hfw11⟩
      replace M:Mem w AR (List.set _ 1 (As.blk g8 50 [AC a0,str a1,.int .u8 a2,.slice W0 wn wc,.slice X0 xn xc,AC a5,.slice Y0 yn yc])) w11:=M.putB 1 rfl hbw11 hfw11
      exact ⟨λh=>absurd h B3,fo1 27 X X (yp X) (fdn (qx_seq (sx_ret (B1 X X (M.rdBlk 1 X X) underlying50 X BU X ⟨M.fr,.inr ⟨by rw [pT,pU,h34];rfl,x,hxm,hx1,hx2,by rw [hz];exact M.resA 0 rfl⟩⟩))))⟩
    refine AI (d:=31) X (λh31=>?_) (λh31=>?_)
    ·exact yo X (yo X (yb X (k31 M ⟨X,X,X,X,X,(by rw [h31];rfl),trivial⟩)))
    ·exact gyq X (yd X (GU X X X) (yb X (k31 M ⟨X,X,X,X,X,(by rw [h31];rfl),trivial⟩)))
   refine AI (d:=27) X (λh27=>?_) (λh27=>?_)
   ·exact yo X (yo X (yb X (k27 M ⟨X,X,X,X,X,(by rw [h27];rfl),trivial⟩)))
   ·exact gyq X (yd X (E0 X X X) (yb X (k27 M ⟨X,X,X,X,X,(by rw [h27];rfl),trivial⟩)))
  refine AI (d:=23) X (λh23=>?_) (λh23=>?_)
  ·exact yo X (yo X (yb X (k23 M ⟨X,X,X,X,X,(by rw [h23];rfl),trivial⟩)))
  ·exact gyq X (yd X (GV X X X) (yb X (k23 M ⟨X,X,X,X,X,(by rw [h23];rfl),trivial⟩)))
 refine AI (d:=19) X (λh19=>?_) (λh19=>?_)
 ·exact yo X (yo X (yb X (k19 M ⟨X,X,X,X,X,(by rw [h19];rfl),trivial⟩)))
 ·exact gyq X (yd X (E0 X X X) (yb X (k19 M ⟨X,X,X,X,X,(by rw [h19];rfl),trivial⟩)))
theorem vY {m:Md} {c:CrA} {vs:List Bd} {σ0 τ1:Mo} {a0:Ar} (h0:σ0.on=[a0]) (hP:∀b τ',Pd m c vs σ0 0 a0 (RJ c a0) b τ'→τ'=τ1) (h1:τ1.on=[]) {σ':Mo} (h:Rn m c vs σ0 σ'):σ'=σ0∨σ'=τ1:=by
 induction h with
 | refl=>exact .inl rfl
 | step _ hi hs hp ih=>
  rename_i τ τ' i a b _
  rcases ih with rfl|rfl
  ·rw [h0] at hi
   cases i with
   | succ i=>simp at hi
   | zero=>
    simp only [List.getElem?_cons_zero,Option.some.injEq] at hi
    subst hi;exact .inr (hP b τ' hp)
  ·rw [h1] at hi;cases hi
theorem wM {c:CrA} {on:List Ar} {a:Ar} {x:El} (hx:RJ c a=x) (hs:a.stops=false) (hk:x.kind.toNat≠6):¬Stl c on a:=λh=>by
 rcases h with h|h
 ·rw [hs] at h;cases h
 ·rw [hx] at h;exact hk h.1
structure MdStr (m:Md):Prop where
 id:(m.id.length:Int)<4611686018427387904
 nm:(m.nm.length:Int)<4611686018427387904
 vars:BdOk m.vars
 els:∀x∈m.els,ElOk x
 fls:∀x∈m.fls,FlOk x
theorem JI (a0:List UInt8) (a2:Int):prog.built 95 [(0,str a0),(2,.int .u8 a2)]=some #[str a0,str [],.int .u8 a2,str [],str [],str [],.int .u8 0,str [],str [],AC 0,AC 0]:=by kernel_rfl
theorem JZ (a0:List UInt8) (a1:List UInt8) (a2:List UInt8):prog.built 109 [(0,str a0),(1,str a1),(2,str a2)]=some #[str a0,str a1,str a2,str []]:=by kernel_rfl
theorem RG : (prog.info? 95).map (λi=>(i.zero,i.size))=some (some (.agg #[str [],str [],.int .u8 0,str [],str [],str [],.int .u8 0,str [],str [],AC 0,AC 0]),11):=by kernel_rfl
open Go.ChangeShapes Go.WideShapes Go.ChangeAt Go.RowKit Go.Deep Go.Joins
section
def Sized {H:Type} (P:Program) (t:TypeId) (d:DataW H):Prop:=∀n∈d.weights P t,n≤reachBytes
theorem LR {H:Type} {P:Program} {e:TypeId}:∀{ds:List (DataW H)} {d:DataW H},d∈ds→∀n∈d.weights P e,n∈DataW.weightsAll P e ds
 | d0::ds,d,hd,n,hn=>by
  simp only [DataW.weightsAll,List.mem_append];rcases List.mem_cons.1 hd with rfl|hd
  ·exact .inl hn
  ·exact .inr (LR hd n hn)
section
variable {H:Type} {P:Program} {t e:TypeId}
theorem Sized.of {ts:List TypeId} {ds:List (DataW H)} (h:(DataW.weightsEach P ts ds).all (·≤reachBytes)=true) {j:Nat} {t:TypeId} {d:DataW H} (ht:ts[j]?=some t) (hd:ds[j]?=some d):Sized P t d:=λn hn=>by
 have:=List.all_eq_true.1 h _ (DataW.weights_mem_each ht hd n hn)
 simpa using this
theorem Sized.elem {D sp:List (DataW H)} {d:DataW H} (ht:P.underlying t=some (.slice e)) (h:Sized P t (.slice D sp)) (hd:d∈D):Sized P e d:=λn hn=>h n (by
 simp only [DataW.weights,ht,List.mem_cons,List.mem_append];exact .inr (.inl (LR hd n hn)))
theorem Sized.len {D sp:List (DataW H)} (ht:P.underlying t=some (.slice e)) (hb:0<P.bytesOf e) (h:Sized P t (.slice D sp)):D.length≤reachBytes:=by
 have:=h ((D.length+sp.length)*P.bytesOf e) (by simp [DataW.weights,ht])
 exact Nat.le_trans (Nat.le_trans (Nat.le_add_right _ _) (Nat.le_mul_of_pos_right _ hb)) this
theorem Sized.field {fs:Array Field} {D:List (DataW H)} {j:Nat} {f:Field} {d:DataW H} (ht:P.underlying t=some (.struct fs)) (h:Sized P t (.agg D)) (hf:fs[j]?=some f) (hd:D[j]?=some d):Sized P f.type d:=λn hn=>h n (by
 simp only [DataW.weights,ht];exact DataW.weights_mem_each (j:=j) (by rw [List.getElem?_map,Array.getElem?_toList,hf];rfl) hd n hn)
theorem Sized.text {l:List UInt8} (h:Sized (H:=H) P t (.lit (.string l))):l.length≤reachBytes:=h _ (by simp only [DataW.weights];exact List.mem_singleton.2 rfl)
end
theorem SS : reachBytes<4611686018427387904:=by decide
theorem KY {α β:Type} (f:β→α) (Q:β→Prop):∀(rows:List α),(∀r∈rows,∃p,r=f p∧Q p)→∃l:List β,rows=l.map f∧∀x∈l,Q x
 | [],_=>⟨[],rfl,λ_ h=>by cases h⟩
 | r::rows,h=>by
  obtain ⟨p,hp,hq⟩:=h r (by simp);obtain ⟨l,hl,hl'⟩:=KY f Q rows (λr hr=>h r (by simp [hr]))
  exact ⟨p::l,by rw [hp,hl];rfl,λx hx=>by
   rcases List.mem_cons.1 hx with rfl|hx
   ·exact hq
   ·exact hl' x hx⟩
theorem OL : prog.cellsOf 103=5:=by kernel_rfl
theorem R9 : prog.cellsOf 100=4:=by kernel_rfl
theorem ZS : prog.cellsOf 62=5:=by kernel_rfl
theorem DA : prog.cellsOf 9=1:=by kernel_rfl
theorem PQ : prog.cellsOf 5=1:=by kernel_rfl
theorem bV : prog.cellsOf 4=1:=by kernel_rfl
theorem jA : prog.cellsOf 2=1:=by kernel_rfl
theorem bW : 0<prog.bytesOf 103:=by rw [show prog.bytesOf 103=56 by kernel_rfl];decide
theorem N0 : prog.cellsOf 24=1:=by kernel_rfl
section
variable {H:Type} {enc:TypeId × Value→H} {w:World}
theorem aS {r:List Value} {n:Nat} {x:DataW H × List MemPlace} (h:DataW.trod enc prog w 0 (λ_=>true) true n 100 r=some x) (hz:Sized prog 100 x.1):∃v:Vl,r=v.cells∧v.text.length≤reachBytes:=by
 obtain ⟨y0,y1,y2,y3,m,rfl,hl,h0,h1,h2,h3⟩:=trod_struct4 underlying100 h;rw [R9] at hl
 simp only [PQ,bV,jA,DA] at h0 h1 h2 h3
 obtain ⟨a,ha,_,wa⟩:=DataW.trod_int underlying5 h0;obtain ⟨b,hb,_⟩:=DataW.trod_int underlying2 h1;obtain ⟨c,hc,_⟩:=DataW.trod_bool underlying4 h2;obtain ⟨s,hs,hd,_⟩:=DataW.trod_string underlying9 h3;have hz3:=Sized.field (j:=3) underlying100 hz X X;rw [hd] at hz3
 match r,hl with
 | [r0,r1,r2,r3],_=>
  obtain rfl:r0=_:=by simpa using ha
  obtain rfl:r1=_:=by simpa using hb
  obtain rfl:r2=_:=by simpa using hc
  obtain rfl:r3=_:=by simpa using hs
  exact ⟨⟨UInt8.ofNat a.toNat,b,c,s.data.toList⟩,by rw [XR wa];rfl,hz3.text⟩
theorem gG {r:List Value} {d:DataW H} (h:VU enc prog w 103 r d) (hz:Sized prog 103 d):∃b:Bd,r=b.cells∧b.name.length≤reachBytes∧b.v.text.length≤reachBytes:=by
 obtain ⟨n,p,h⟩:=h;obtain ⟨y0,y1,m,hx,hl,h0,h1⟩:=trod_struct2 underlying103 h;rw [OL] at hl
 simp only [Prod.mk.injEq] at hx
 obtain ⟨rfl,_⟩:=hx;simp only [R9,DA] at h0 h1
 obtain ⟨s,hs,hd,_⟩:=DataW.trod_string underlying9 h0;have hz0:=Sized.field (j:=0) underlying103 hz X X;have hz1:=Sized.field (j:=1) underlying103 hz X X;rw [hd] at hz0
 obtain ⟨v,hv,hvt⟩:=aS h1 hz1
 match r,hl with
 | r0::r',hl=>
  obtain rfl:r0=_:=by simpa using hs
  have hl':r'.length=4:=by simpa using hl
  have e:r'=v.cells:=by
   have e1:(r'.take 4)=v.cells:=hv;rw [List.take_of_length_le AA] at e1
   exact e1
  exact ⟨⟨s.data.toList,v⟩,by rw [e];rfl,hz0.text,hvt⟩
theorem TH {A:Option Addr} {len cap fuel:Nat} {x:DataW H × List MemPlace} (h:DataW.trod enc prog w 0 (λ_=>true) true fuel 24 [.slice A len cap]=some x) (hz:Sized prog 24 x.1) :
 ∃l:List Bd,l.length=len∧BdOk l∧Rd w A (l.length*5) (TM l):=by
 obtain ⟨rows,D,hl,hD,_,hr,_,_,hn,hx,hd⟩:=KH underlying24 OL AA h
 have key:(∀r∈rows,∃b:Bd,r=b.cells∧(b.name.length≤reachBytes∧b.v.text.length≤reachBytes))∧len≤reachBytes:=by
  rcases hd with ⟨_,h0,_⟩|⟨sp,hs,_⟩
  ·have:rows=[]:=List.eq_nil_of_length_eq_zero AA
   subst this;exact ⟨λr hr=>by (cases hr),by omega⟩
  ·rw [hs] at hz
   refine ⟨λr hr=>?_,by rw [←hD];exact hz.len underlying24 bW⟩;obtain ⟨i,hi⟩:=List.getElem?_of_mem hr;obtain ⟨d,hdi,hrd⟩:=hx i r hi;exact gG hrd (hz.elem underlying24 (List.mem_of_getElem? hdi))
 obtain ⟨l,rfl,hq⟩:=KY Bd.cells (λb=>b.name.length≤reachBytes∧b.v.text.length≤reachBytes) rows key.1;rw [List.length_map] at hl
 subst hl;have hlt:=SS;have hlen:=key.2;exact ⟨l,X,⟨by omega,λx hx=>by have:=(hq x hx).1;omega,λx hx=>by have:=(hq x hx).2;omega⟩,hr⟩
end
end
end Go.Proofs.YtaheakjfkpkefaaGreatDoor
