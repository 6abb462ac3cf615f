/- Lemmas. -/
import Derived.Test.YtppmdnmjepkfaaaGreatDoorYb7
set_option maxHeartbeats 16000000
set_option maxRecDepth 100000
namespace Go.Proofs.YtppmdnmjepkfaaaGreatDoor
open Go.RowKit
open Tryz
section
section
section
variable {P:Lw} {ops:Array Oper} {Q:Exit→Act→Kw→Prop} {S:Kw→Prop} {t n f:Nat} {listed:Array Bool} {e:Env} {w:Kw}
theorem a2K {o:Oper} {d:Nat} {v:Kv} (i:Nat) (hr:Region.ready .any ops listed=[i]) (ho:ops[i]?=some o) (hw:Wn ops e o) (hd:o.dst=some d) (hn:Nat.blt d n=true) (hy:Y P e o w v) (hS:i<t→S w)
 (k:SxO P ops Q t S n f (listed.setIfInBounds i true) ((d,v)::e) w):SxO P ops Q t S n (f+1) listed e w:=
 B5 i (some d) hr ho hw hd hn (R:=λu w'=>u=v∧w'=w) (λρ hρ=>⟨v,w,.inl (hy ρ hρ),rfl,rfl⟩) λu w' ⟨h1,h2⟩=>by subst h1;subst h2;exact ⟨hS,k⟩
end
theorem Mem.bin {w0 w:Kw} {S:Nat→Prop} {L:List As} {t g:Nat} {op:UInt8} {a b:Xn} {B C:Ky} {F F':List Nat} (M:Mem w0 S (As.blk g t (a.cells B++b.cells C)::As.xn t a B F::As.xn t b C F'::L) w):Mem w0 S (As.xn t (.bin op a b) (some ⟨g,0,none⟩) (g::(F++F'))::L) w:=by
 have get:∀(i:Nat) (c:As),L[i]?=some c→(As.blk g t (a.cells B++b.cells C)::As.xn t a B F::As.xn t b C F'::L)[i+3]?=some c:=λi c h=>h
 have fp:∀k,k∈(As.xn t (.bin op a b) (some ⟨g,0,none⟩) (g::(F++F'))).fp→∃(i:Nat) (c:As),i<3∧(As.blk g t (a.cells B++b.cells C)::As.xn t a B F::As.xn t b C F'::L)[i]?=some c∧k∈c.fp:=λk hk=>by
  rcases Ak.1 (show k∈g::(F++F') from hk) with rfl|hk
  ·exact ⟨0,_,by decide,rfl,by simp [As.blk]⟩
  rcases Bo.1 hk with hk|hk
  ·exact ⟨1,_,by decide,rfl,hk⟩
  exact ⟨2,_,by decide,rfl,hk⟩
 refine ⟨M.fr,?_,?_,?_⟩
 ·intro i c hi
  cases i with
  | zero=>
   simp only [Ai,Ad] at hi;subst hi
   exact ⟨g,B,C,F,F',X,X,M.blk 0 X,M.ok 1 _ X,M.ok 2 _ X⟩
  | succ i=>exact M.ok (i+3) c (get i c (by simpa using hi))
 ·intro i c hi k hk
  cases i with
  | zero=>
   simp only [Ai,Ad] at hi;subst hi
   obtain ⟨j,d,_,h1,h2⟩:=fp k hk;exact M.lt j d h1 k h2
  | succ i=>exact M.lt (i+3) c (get i c (by simpa using hi)) k hk
 intro i j c d hi hj hne k hk hk'
 cases i with
 | zero=>
  cases j with
  | zero=>exact hne rfl
  | succ j=>
   simp only [Ai,Ad] at hi;subst hi
   obtain ⟨q,d',hq,h1,h2⟩:=fp k hk;exact M.apart q (j+3) d' d h1 (get j d (by simpa using hj)) A0 k h2 hk'
 | succ i=>
  cases j with
  | zero=>
   simp only [Ai,Ad] at hj;subst hj
   obtain ⟨q,d',hq,h1,h2⟩:=fp k hk';exact M.apart (i+3) q c d' (get i c (by simpa using hi)) h1 A0 k hk h2
  | succ j=>exact M.apart (i+3) (j+3) c d (get i c (by simpa using hi)) (get j d (by simpa using hj)) A0 k hk hk'
theorem NO {s:Kz} {x:Lx} (h:LxI s x) (he:x.e=0):0<lxM s x:=by
 have:=h.at_;have:=h.tat
 unfold lxM;rw [if_pos he];omega
theorem sF (k:Kz):((AU k).getD (0,0)).2≤6:=lE k
theorem lV {s:Kz} {f line:Nat} {x:Lx} (h:¬x.e=0):D3 s (f+1) line x=(.zero,x):=by rw [D3,if_pos h]
theorem fE {s:Kz} {f line:Nat} {x:Lx} {fr:Nat→Lx→Xn × Lx} (h:x.e=0) (hfr:fr=D3 s (f+1)):D3 s (f+1+1) line x=ED s fr (f+1) line (BX s fr line x).1 (BX s fr line x).2:=by
 subst hfr;rw [D3,if_neg (λz=>z h)]
section
variable {s:Kz} {fr:Nat→Lx→Xn × Lx} {line k:Nat} {n:Xn} {y:Lx}
theorem EA (h:¬y.e=0):ED s fr k line n y=(n,y):=by
 cases k with
 | zero=>rfl
 | succ k=>rw [ED,if_pos h]
theorem mS (h:((!(AU y.say).isSome) || (decide (((((AU y.say).getD (0,0)).2:Nat):Int)<(line:Int))))=false):¬y.say=[]:=KE λz=>by
 have:=BO (G8 h).1
 cases hs:AU y.say with
 | none=>rw [hs] at this;cases this
 | some v=>rw [hs] at z;cases z
theorem j6 (he:y.e=0) (h:((!(AU y.say).isSome) || (decide (((((AU y.say).getD (0,0)).2:Nat):Int)<(line:Int))))=true):ED s fr (k+1) line n y=(n,y):=by
 rw [ED,if_neg (λz=>z he),if_pos];rcases PM h with h|h
 ·left
  have:=CJ h
  cases hs:AU y.say with
  | none=>rfl
  | some v=>rw [hs] at this;cases this
 right
 have:=odt h
 unfold FL;omega
theorem WX (he:y.e=0) (h:((!(AU y.say).isSome) || (decide (((((AU y.say).getD (0,0)).2:Nat):Int)<(line:Int))))=false):ED s fr (k+1) line n y=ED s fr k line (.bin ((AU y.say).getD (0,0)).1 n (KA s fr y).1) (KA s fr y).2:=by
 rw [ED,if_neg (λz=>z he),if_neg];intro z;rcases z with z|z
 ·have:=BO (G8 h).1
  cases hs:AU y.say with
  | none=>rw [hs] at this;cases this
  | some v=>rw [hs] at z;cases z
 have:=odf (G8 h).2
 unfold FL at z;omega
theorem nW (he:y.e=0) (h:((!(AU y.say).isSome) || (decide (((((AU y.say).getD (0,0)).2:Nat):Int)<(line:Int))))=false)
 (h2:((decide (((((AU y.say).getD (0,0)).2:Nat):Int)=4))&&(decide (((((AU (fr (((AU y.say).getD (0,0)).2+1) (BI s y)).2.say).getD (0,0)).2:Nat):Int)=4)))=true):ED s fr (k+1) line n y=ED s fr k line (.bin ((AU y.say).getD (0,0)).1 n (fr (((AU y.say).getD (0,0)).2+1) (BI s y)).1) ((fr (((AU y.say).getD (0,0)).2+1) (BI s y)).2.fail 4 (fr (((AU y.say).getD (0,0)).2+1) (BI s y)).2.tat):=by
 rw [WX he h];have h3:=odt (EE h2).1;have h4:=odt (EE h2).2;unfold KA FL
 simp only
 rw [if_pos ⟨by omega,by omega⟩]
theorem tC (he:y.e=0) (h:((!(AU y.say).isSome) || (decide (((((AU y.say).getD (0,0)).2:Nat):Int)<(line:Int))))=false)
 (h2:((decide (((((AU y.say).getD (0,0)).2:Nat):Int)=4))&&(decide (((((AU (fr (((AU y.say).getD (0,0)).2+1) (BI s y)).2.say).getD (0,0)).2:Nat):Int)=4)))=false):ED s fr (k+1) line n y=ED s fr k line (.bin ((AU y.say).getD (0,0)).1 n (fr (((AU y.say).getD (0,0)).2+1) (BI s y)).1) (fr (((AU y.say).getD (0,0)).2+1) (BI s y)).2:=by
 rw [WX he h];have h3:=(KQ h2).imp odf odf;unfold KA FL
 simp only
 rw [if_neg A0]
end
theorem KW  : prog.built 113 []=some #[.int .u8 0,.int .u8 0,AA 0,.bool false,str [],str [],.slice none 0 0]:=by kernel_rfl
theorem eG {s:Kz} {gx c5 c6 c7 c8 c9 c10:Nat} {f:Nat} (h:∀f',f=f'+1→FromOK s gx c5 c6 c7 c8 c9 c10 f' (D3 s (f'+1))) (line:Nat) (hl:line≤7) (x:Lx) (w:Kw) (hb:Blk w gx 158 (Lx.cells s x)) (hx:LxI s x) (hm:lxM s x≤f) (hE:PE s w gx c5 c6 c7 c8 c9 c10) (hY:Lay0 w) :
 Calls prog 89 #[AA (line:Int),pg c5,pg c10,pg c6] w (ZZ s gx w (D3 s (f+1) line x)):=by
 have hGx:∀k,k=gx→nGlob≤k:=λ_ e=>e▸hE.g
 refine sx_enter (vs:=[_,_,_,_]) func89 X ntmps89 X ?_;have M:Mem w (λk=>k=gx) [As.blk gx 158 (Lx.cells s x)] w:=Mem.one hb;refine W ?_;refine CI M X DK λg5 w1 hg5 M=>T5 ?_
 refine yl X X (Blk.c ((hE.fr M.fr).b5) 0 X) (W ?_);refine AB X (λh14=>?_) (λh14=>?_)
 ·have h14p:=(odf (CJ h14));refine W ?_;refine ya X (B7 (parts:=[]) X X (KW)) (BY M 0 X X AT X λw2 M=>W ?_);refine CT X X (M.rdBlk 0 X X) Bk X AT ?_;rw [lV h14p];exact ⟨none,[],X,⟨X,X⟩,(λk hk=>absurd hk (by simp)),M.blk 1 X,M.fr⟩
 have h14p:=(odt (BO h14));obtain ⟨f',rfl⟩:∃f',f=f'+1:=⟨f-1,by have:=NO hx h14p;omega⟩
 have hF:=h f' X;obtain ⟨fr,hfr⟩:∃fr,fr=D3 s (f'+1):=⟨_,X⟩
 rw [←hfr] at hF
 refine T4 ?_;refine yl X X (Blk.c ((hE.fr M.fr).b10) 0 X) (yb X (cl 18 X (C5 X X X call88) (nK hF line A0 x _ (M.blk 1 X) hx h14p A0 (hE.fr M.fr) (hY.fr M.fr hGx)) ?_));rintro _ w3 ⟨A18,F18,rfl,hat18,hnw18,hbw3,hfw3⟩;have M:=M.putPush 1 X hbw3 hfw3 (As.xn 113 (BX s fr line x).1 A18 F18) hat18 hnw18;have hI18:=(K7 hF.I hx h14p A0 line).1;refine cq ?_;have hm18:=(K7 hF.I hx h14p A0 line).2;have hfp:=fE (line:=line) h14p hfr;refine CI M X DK λg6 w4 hg6 M=>BY M 0 X X AT X λw5 M=>W ?_
 refine flp [6,5,3,1,0] (λze e wr mz=>∃(n:Xn) (A:Ky) (F:List Nat) (y:Lx) (k:Nat),e=ze∧Mem w (λk=>k=gx) [As.blk g6 113 (Xn.cells n A),As.xn 113 n A F,As.blk g5 113 [.int .u8 0,.int .u8 0,AA 0,.bool false,str [],str [],.slice none 0 0],As.blk gx 158 (Lx.cells s y)] wr∧(LxI s y)∧(lxM s y≤k∧k≤f'+1)∧(D3 s (f'+1+1) line x=ED s fr k line n y)∧mz=2*k) ⟨(BX s fr line x).1,A18,F18,(BX s fr line x).2,(f'+1),X,M,hI18,⟨by omega,Ab _⟩,hfp,X⟩ ?_;rintro _ w6 _ ⟨n,A,F,y,k,rfl,M,hyI,hk,heq,rfl⟩;refine T3 ?_;refine yl X X (Blk.c ((hE.fr M.fr).b5) 0 X) (W ?_);refine AB X (λh23=>?_) (λh23=>?_)
 ·have h23p:=odt h23;obtain ⟨j,rfl⟩:∃j,k=j+1:=⟨k-1,by have:=NO hyI h23p;omega⟩
  refine W ?_;refine RB (λ(g7:Nat) (g25:Nat)=>[(0,AA (line:Int)),(1,pg c5),(3,pg c6),(5,pg g5),(6,pg g6),(7,pg g7),(8,.bool ((AU y.say).isSome))]) (λ(g7:Nat) (g25:Nat)=>λw'=>Mem w (λk=>k=gx) [As.blk g7 164 [.int .u8 (((AU y.say).getD (0,0)).1.toNat:Int),AA ((((AU y.say).getD (0,0)).2:Nat):Int)],As.mp g25 EU,As.blk g6 113 (Xn.cells n A),As.xn 113 n A F,As.blk g5 113 [.int .u8 0,.int .u8 0,AA 0,.bool false,str [],str [],.slice none 0 0],As.blk gx 158 (Lx.cells s y)] w') ?_ (λkr5=>?_)
  ·intro g7 g25 w7 M;refine W ?_;refine fvm M 5 [7,6,5,3,1,0] [(41,.bool ((!(AU y.say).isSome) || (decide (((((AU y.say).getD (0,0)).2:Nat):Int)<(line:Int)))))] ?_ (λk36=>?_)
   ·intro w8 M;refine W ?_;refine AB X (λh41=>?_) (λh41=>?_)
    ·have h41p:=bd h41;refine W ?_;refine CH M 2 X X Bk AT X (BY M 4 X X AT X λw9 M=>W ?_);refine CT X X (M.rdBlk 4 X X) Bk X AT ?_;rw [heq.trans (j6 h23p h41)];exact ⟨_,_,X,M.ok 3 _ X,M.newOf 3 5 X X AV,M.blk 5 X,M.fr⟩
    have h41p:=bd h41;have hpr:=sF y.say;have hst:=HL hyI h23p (mS h41);refine T4 ?_;refine yl X X (Blk.c ((hE.fr M.fr).b5) 0 X) (GL M 5 44 X X (AD X X call83) (IY s y _ _ (M.blk 5 X) hyI.at_ hE.len (hY.fr M.fr hGx) hE.g) λw10 M=>W ?_);refine EC 10 (λw'=>Mem w (λk=>k=gx) [As.blk g7 164 [.int .u8 (((AU y.say).getD (0,0)).1.toNat:Int),AA ((((AU y.say).getD (0,0)).2:Nat):Int)],As.mp g25 EU,As.blk g6 113 (Xn.cells n A),As.xn 113 n A F,As.blk g5 113 [.int .u8 0,.int .u8 0,AA 0,.bool false,str [],str [],.slice none 0 0]] w') CA ?_;have M:=M.drew;refine oc 0 10 X X (M.pk [0,1,2,3,4]) (ol 1 10 X X X (M.pk [0,1,2,3,4]) (λ_ M=>(M.cell 0 X X)) (oa 2 10 X X (M.pk [0,1,2,3,4]) (λ_ M=>AI (xs:=Xn.cells n A) X X (M.rdBlk 2 X X) Bk X AT) (ol 3 10 X X X (M.pk [0,1,2,3,4]) (λ_ M=>(Blk.c ((hE.fr M.fr).b6) 0 X)) (oc 4 10 X X (M.pk [0,1,2,3,4]) (ol 5 10 X X X (M.pk [0,1,2,3,4]) (λ_ M=>(M.cell 0 X X)) (oa 6 10 X X (M.pk [0,1,2,3,4]) (λ_ M=>FS X X X A0) (BC 7 (some 52) gkr X kw X X (C5 X X X call89) (hF.call ((((AU y.say).getD (0,0)).2)+1) (BI s y) _ A0 (M.blk 5 X) DU A0 (hE.fr M.fr) (hY.fr M.fr hGx)) ?_)))))));rintro _ w11 ⟨A52,F52,rfl,hat52,hnw52,hbw11,hfw11⟩;have M:=M.putPush 5 X hbw11 hfw11 (As.xn 113 (fr ((((AU y.say).getD (0,0)).2)+1) (BI s y)).1 A52 F52) hat52 hnw52;have hI52:=hF.I.I ((((AU y.say).getD (0,0)).2)+1) (BI s y) DU A0;refine ⟨_,X,λ_=>(M.pk [1,2,3,4,5]),?_⟩;have hm52:=hF.I.m ((((AU y.say).getD (0,0)).2)+1) (BI s y) DU A0;refine B5 8 (some 53) gkr X kw X X (λρ hρ=>DA [.agg (Xn.cells n A).toArray,.agg (Xn.cells ((fr ((((AU y.say).getD (0,0)).2)+1) (BI s y)).1) A52).toArray] _ hρ X X X X underlying111 PU AV AV (by intro v hv;simp only [Ak,Ax,or_false] at hv;rcases hv with rfl|rfl<;>rfl)) ?_;rintro _ w12 ⟨g53,rfl,hg53,hq53,hb53,hfw12⟩
    replace hb53:Blk w12 g53 113 ((Xn.cells n A)++(Xn.cells ((fr ((((AU y.say).getD (0,0)).2)+1) (BI s y)).1) A52)):=hb53
    refine ⟨λ_=>(M.pk [1,2,3,4,5]).step hfw12,?_⟩;have M:=M.push hfw12 _ hb53 (CU hg53 hq53)
    replace M:Mem w (λk=>k=gx) (As.blk g53 113 ((Xn.cells n A)++(Xn.cells ((fr ((((AU y.say).getD (0,0)).2)+1) (BI s y)).1) A52))::_) w12:=M
    refine oa 9 10 X X (M.pk [2,3,4,5,6]) (λ_ M=>B7 (parts:=[(0,_),(3,_)]) X X (N0 _ _ _ _)) (B5 10 none gkr X kw X X (λρ hρ=>BK 113 _ _ X g6 0 113 _ ([.int .u8 (((AU y.say).getD (0,0)).1.toNat:Int),.int .u8 0,AA 0,.bool false,str [],str [],.slice (some ⟨g53,0,none⟩) 2 2]) (hρ _ _ X) (hρ _ _ X) (M.blk 4 X) AT (CL X) (BW X)) ?_);rintro _ w13 ⟨rfl,hbw13,hfw13⟩
    replace M:Mem w (λk=>k=gx) (List.set _ 4 (As.blk g6 113 [.int .u8 (((AU y.say).getD (0,0)).1.toNat:Int),.int .u8 0,AA 0,.bool false,str [],str [],.slice (some ⟨g53,0,none⟩) 2 2])) w13:=M.putB 4 rfl hbw13 hfw13
    refine ⟨λh=>absurd h AV,fdn (W ?_)⟩;refine RB (λ(g9:Nat) (g55:Nat)=>[(0,AA (line:Int)),(1,pg c5),(3,pg c6),(5,pg g5),(6,pg g6),(7,pg g7),(9,pg g9)]) (λ(g9:Nat) (g55:Nat)=>λw'=>Mem w (λk=>k=gx) [As.blk g9 164 [.int .u8 (((AU ((fr ((((AU y.say).getD (0,0)).2)+1) (BI s y)).2.say)).getD (0,0)).1.toNat:Int),AA ((((AU ((fr ((((AU y.say).getD (0,0)).2)+1) (BI s y)).2.say)).getD (0,0)).2:Nat):Int)],As.mp g55 EU,As.blk g53 113 ((Xn.cells n A)++(Xn.cells ((fr ((((AU y.say).getD (0,0)).2)+1) (BI s y)).1) A52)),As.xn 113 ((fr ((((AU y.say).getD (0,0)).2)+1) (BI s y)).1) A52 F52,As.blk g7 164 [.int .u8 (((AU y.say).getD (0,0)).1.toNat:Int),AA ((((AU y.say).getD (0,0)).2:Nat):Int)],As.mp g25 EU,As.blk g6 113 [.int .u8 (((AU y.say).getD (0,0)).1.toNat:Int),.int .u8 0,AA 0,.bool false,str [],str [],.slice (some ⟨g53,0,none⟩) 2 2],As.xn 113 n A F,As.blk g5 113 [.int .u8 0,.int .u8 0,AA 0,.bool false,str [],str [],.slice none 0 0],As.blk gx 158 (Lx.cells s ((fr ((((AU y.say).getD (0,0)).2)+1) (BI s y)).2))] w') ?_ (λkr10=>?_)
    ·intro g9 g55 w14 M;refine W ?_;refine fvm M 4 [6,5,3,1,0] [(69,.bool ((decide (((((AU y.say).getD (0,0)).2:Nat):Int)=4))&&(decide (((((AU ((fr ((((AU y.say).getD (0,0)).2)+1) (BI s y)).2.say)).getD (0,0)).2:Nat):Int)=4))))] ?_ (λk65=>?_)
     ·intro w15 M;refine W ?_;refine AB X (λh69=>?_) (λh69=>?_)
      ·have h69p:=bd h69;refine EB 6 CA gkr ?_;have M:=M.drew;refine sd X X (Blk.c ((hE.fr M.fr).b5) 0 X) (sd X X (Blk.c ((hE.fr M.fr).b5) 0 X) (T3 ?_));refine bN M 9 X X X (D6 (GL M 9 76 X X (AD X X call86) (GE s ((fr ((((AU y.say).getD (0,0)).2)+1) (BI s y)).2) _ _ _ _ (M.blk 9 X)) λw16 M=>W ?_));have M:=Mem.bin (op:=((AU y.say).getD (0,0)).1) (M.pk [2,7,3,6,8,9]);refine fag ⟨(Xn.bin ((AU y.say).getD (0,0)).1 n (fr (((AU y.say).getD (0,0)).2+1) (BI s y)).1),(some ⟨g53,0,none⟩),(g53::(F++F52)),(((fr ((((AU y.say).getD (0,0)).2)+1) (BI s y)).2).fail 4 ((fr ((((AU y.say).getD (0,0)).2)+1) (BI s y)).2.tat)),j,X,(M.pk [1,0,2,3]),?_,?_,?_,X⟩
       ·exact hI52.fail _ _
       ·rw [RU AV];exact ⟨Ae _,by omega⟩
       exact heq.trans (nW h23p h41 h69)
      have h69p:=bd h69;refine W ?_;have M:=Mem.bin (op:=((AU y.say).getD (0,0)).1) (M.pk [2,7,3,6,8,9]);refine fag ⟨(Xn.bin ((AU y.say).getD (0,0)).1 n (fr (((AU y.say).getD (0,0)).2+1) (BI s y)).1),(some ⟨g53,0,none⟩),(g53::(F++F52)),((fr ((((AU y.say).getD (0,0)).2)+1) (BI s y)).2),j,X,(M.pk [1,0,2,3]),?_,?_,?_,X⟩
      ·exact hI52
      ·exact ⟨by omega,by omega⟩
      exact heq.trans (tC h23p h41 h69)
     refine A1 (d:=65) X (λh65=>?_) (λh65=>?_)
     ·refine T4 ?_;exact k65 M
     refine T4 ?_;exact k65 M
    refine J2 M 9 CA λM=>ol 1 9 X X X M (λ_ M=>(Blk.c ((hE.fr M.fr).b5) 0 X)) (oc 2 9 X X M (oc 3 9 X X M (oc 4 9 X X M (ol 5 9 X X X M (λ_ M=>(M.cell 7 X X)) (G3 (rs:=[0,7]) gkr (by simp) λiz hiz=>?_)))))
    simp only [Ak,Ax,or_false] at hiz
    rcases hiz with rfl|rfl
    ·refine HU (some 55) X kw X X (AD X X call90) (KD _) ?_;rintro _ w17 ⟨g55,rfl,hMw17,hgw17,hfw17⟩;refine ⟨_,X,λ_=>M.step hfw17,?_⟩;have M:=M.push hfw17 (As.mp g55 EU) hMw17 (OI hgw17 hMw17.lt);refine G3 (rs:=[6,7]) gkr (by simp) λiz hiz=>?_
     simp only [Ak,Ax,or_false] at hiz
     rcases hiz with rfl|rfl
     ·refine E0 (some 61) X kw X X (lY (CD X X X Ca Aa C3 (M.mp 0 X) (FZ _))) ?_;rintro _ _ ⟨rfl,rfl⟩;refine ⟨λ_=>(M.drop 1),B5 7 (some 9) gkr X kw X X (λρ hρ=>BN 164 X _ [.int .u8 0,AA 0] C3 X) ?_⟩;rintro _ w18 ⟨g9,rfl,hg9,hq9,hb9,hfw18⟩;refine ⟨λ_=>(M.drop 1).step hfw18,?_⟩;have M:=M.push hfw18 _ hb9 (CU hg9 hq9)
      replace M:Mem w (λk=>k=gx) (As.blk g9 164 [.int .u8 0,AA 0]::_) w18:=M
      exact fop M 8 0 X X X E2 X (·.drop 2) λw19 M=>fdn (kr10 g9 g55 _ _ M ⟨X,X,X,X,X,X,X,trivial⟩)
     refine E0 (some 9) X kw X X (λρ hρ=>BN 164 X _ [.int .u8 0,AA 0] C3 X) ?_;rintro _ w20 ⟨g9,rfl,hg9,hq9,hb9,hfw20⟩;refine ⟨λ_=>(M.drop 1).step hfw20,?_⟩;have M:=M.push hfw20 _ hb9 (CU hg9 hq9)
     replace M:Mem w (λk=>k=gx) (As.blk g9 164 [.int .u8 0,AA 0]::_) w20:=M
     exact DP 6 gkr X kw X X (CD X X X Ca Aa C3 (M.mp 1 X) (FZ _)) (M.drop 2) (fop M 8 0 X X X E2 X (·.drop 2) λw21 M=>fdn (kr10 g9 g55 _ _ M ⟨X,X,X,X,X,X,X,trivial⟩))
    refine E0 (some 9) X kw X X (λρ hρ=>BN 164 X _ [.int .u8 0,AA 0] C3 X) ?_;rintro _ w22 ⟨g9,rfl,hg9,hq9,hb9,hfw22⟩;refine ⟨λ_=>M.step hfw22,?_⟩;have M:=M.push hfw22 _ hb9 (CU hg9 hq9)
    replace M:Mem w (λk=>k=gx) (As.blk g9 164 [.int .u8 0,AA 0]::_) w22:=M
    refine BC 0 (some 55) gkr X kw X X (AD X X call90) (KD _) ?_;rintro _ w23 ⟨g55,rfl,hMw23,hgw23,hfw23⟩;refine ⟨_,X,λ_=>(M.drop 1).step hfw23,?_⟩;have M:=M.push hfw23 (As.mp g55 EU) hMw23 (OI hgw23 hMw23.lt);exact DP 6 gkr X kw X X (CD X X X Ca Aa C3 (M.mp 0 X) (FZ _)) (M.drop 2) (fop M 8 1 X X X E2 X (·.drop 2) λw24 M=>fdn (kr10 g9 g55 _ _ (M.pk [1,0,2,3,4,5,6,7,8,9]) ⟨X,X,X,X,X,X,X,trivial⟩))
   refine A1 (d:=36) X (λh36=>?_) (λh36=>?_)
   ·refine T5 ?_;exact k36 M
   refine T5 ?_;exact k36 M
  refine J2 M 13 CA λM=>ol 1 13 X X X M (λ_ M=>(Blk.c ((hE.fr M.fr).b5) 0 X)) (oc 2 13 X X M (oc 3 13 X X M (oc 4 13 X X M (ol 5 13 X X X M (λ_ M=>(M.cell 3 X X)) (G3 (rs:=[0,10]) gkr (by simp) λiz hiz=>?_)))))
  simp only [Ak,Ax,or_false] at hiz
  rcases hiz with rfl|rfl
  ·refine HU (some 25) X kw X X (AD X X call90) (KD _) ?_;rintro _ w25 ⟨g25,rfl,hMw25,hgw25,hfw25⟩;refine ⟨_,X,λ_=>M.step hfw25,?_⟩;have M:=M.push hfw25 (As.mp g25 EU) hMw25 (OI hgw25 hMw25.lt);refine G3 (rs:=[6,10]) gkr (by simp) λiz hiz=>?_
   simp only [Ak,Ax,or_false] at hiz
   rcases hiz with rfl|rfl
   ·refine E0 (some 31) X kw X X (lY (EM X X X Ca Aa C3 (M.mp 0 X) (FZ _) (JD _))) ?_;rintro _ _ ⟨rfl,rfl⟩;refine ⟨λ_=>(M.drop 1),oc 7 13 X X (M.drop 1) (oc 8 13 X X (M.drop 1) (oc 9 13 X X (M.drop 1) (B5 10 (some 7) gkr X kw X X (λρ hρ=>BN 164 X _ [.int .u8 0,AA 0] C3 X) ?_)))⟩;rintro _ w26 ⟨g7,rfl,hg7,hq7,hb7,hfw26⟩;refine ⟨λ_=>(M.drop 1).step hfw26,?_⟩;have M:=M.push hfw26 _ hb7 (CU hg7 hq7)
    replace M:Mem w (λk=>k=gx) (As.blk g7 164 [.int .u8 0,AA 0]::_) w26:=M
    exact fop M 11 0 X X X E2 X (·.drop 2) λw27 M=>oc 12 13 X X (M.drop 2) (fdn (kr5 g7 g25 _ _ M ⟨X,X,X,X,X,X,X,trivial⟩))
   refine E0 (some 7) X kw X X (λρ hρ=>BN 164 X _ [.int .u8 0,AA 0] C3 X) ?_;rintro _ w28 ⟨g7,rfl,hg7,hq7,hb7,hfw28⟩;refine ⟨λ_=>(M.drop 1).step hfw28,?_⟩;have M:=M.push hfw28 _ hb7 (CU hg7 hq7)
   replace M:Mem w (λk=>k=gx) (As.blk g7 164 [.int .u8 0,AA 0]::_) w28:=M
   exact DP 6 gkr X kw X X (EM X X X Ca Aa C3 (M.mp 1 X) (FZ _) (JD _)) (M.drop 2) (oc 7 13 X X (M.drop 2) (oc 8 13 X X (M.drop 2) (oc 9 13 X X (M.drop 2) (fop M 11 0 X X X E2 X (·.drop 2) λw29 M=>oc 12 13 X X (M.drop 2) (fdn (kr5 g7 g25 _ _ M ⟨X,X,X,X,X,X,X,trivial⟩))))))
  refine E0 (some 7) X kw X X (λρ hρ=>BN 164 X _ [.int .u8 0,AA 0] C3 X) ?_;rintro _ w30 ⟨g7,rfl,hg7,hq7,hb7,hfw30⟩;refine ⟨λ_=>M.step hfw30,?_⟩;have M:=M.push hfw30 _ hb7 (CU hg7 hq7)
  replace M:Mem w (λk=>k=gx) (As.blk g7 164 [.int .u8 0,AA 0]::_) w30:=M
  refine BC 0 (some 25) gkr X kw X X (AD X X call90) (KD _) ?_;rintro _ w31 ⟨g25,rfl,hMw31,hgw31,hfw31⟩;refine ⟨_,X,λ_=>(M.drop 1).step hfw31,?_⟩;have M:=M.push hfw31 (As.mp g25 EU) hMw31 (OI hgw31 hMw31.lt);exact DP 6 gkr X kw X X (EM X X X Ca Aa C3 (M.mp 0 X) (FZ _) (JD _)) (M.drop 2) (oc 7 13 X X (M.drop 2) (oc 8 13 X X (M.drop 2) (oc 9 13 X X (M.drop 2) (fop M 11 1 X X X E2 X (·.drop 2) λw32 M=>oc 12 13 X X (M.drop 2) (fdn (kr5 g7 g25 _ _ (M.pk [1,0,2,3,4,5]) ⟨X,X,X,X,X,X,X,trivial⟩))))))
 have h23p:=odf h23;refine W ?_;refine CH M 0 X X Bk AT X (BY M 2 X X AT X λw33 M=>W ?_);refine CT X X (M.rdBlk 2 X X) Bk X AT ?_;rw [heq.trans (EA h23p)];exact ⟨_,_,X,M.ok 1 _ X,M.newOf 1 3 X X AV,M.blk 3 X,M.fr⟩
theorem u5 (s:Kz) (gx c5 c6 c7 c8 c9 c10:Nat):∀f:Nat,FromOK s gx c5 c6 c7 c8 c9 c10 f (D3 s (f+1))
 | 0=>⟨XE s 0,λline x w hl hb hx hm hE hY=>eG (f:=0) (λ_ h=>by cases h) line hl x w hb hx hm hE hY⟩
 | f+1=>⟨XE s (f+1),λline x w hl hb hx hm hE hY=>eG (f:=f+1) (λf' h=>by cases h;exact u5 s gx c5 c6 c7 c8 c9 c10 f) line hl x w hb hx hm hE hY⟩
end
section
theorem Mem.neBlk {w0 w:Kw} {S:Nat→Prop} {L:List As} (M:Mem w0 S L w) (i j:Nat) {a b t u:Nat} {cs ds:Kx} (hi:L[i]?=some (As.blk a t cs)) (hj:L[j]?=some (As.blk b u ds)) (h:i≠j):¬a=b:=λe=>
 M.apart i j _ _ hi hj h a (by simp [As.blk]) (by simp [As.blk,e])
theorem a2v (s:Kz):LxI s lx0:=⟨Ae _,Ab _,λh=>absurd rfl h,rfl⟩
theorem bD (s:Kz) (x:Lx):lxM s x≤s.length+1:=by unfold lxM;split<;>omega
theorem eD {s:Kz} (h:(256:Int)<(s.length:Int)):CR s=(.zero,0,3):=if_pos A0
section
variable {s:Kz} (h:¬(256:Int)<((s.length:Nat):Int))
include h
theorem bA (h1:(D3 s 258 1 (BI s lx0)).2.fin=false) (h2:¬((D3 s 258 1 (BI s lx0)).2.fail 4 (D3 s 258 1 (BI s lx0)).2.tat).e=0) :
 CR s=(.zero,((D3 s 258 1 (BI s lx0)).2.fail 4 (D3 s 258 1 (BI s lx0)).2.tat).wh,((D3 s 258 1 (BI s lx0)).2.fail 4 (D3 s 258 1 (BI s lx0)).2.tat).e):=by
 unfold CR;rw [if_neg A0];simp only [h1,if_true,if_neg h2]
theorem aZ (h1:(D3 s 258 1 (BI s lx0)).2.fin=false) (h2:((D3 s 258 1 (BI s lx0)).2.fail 4 (D3 s 258 1 (BI s lx0)).2.tat).e=0):CR s=((D3 s 258 1 (BI s lx0)).1,0,0):=by
 unfold CR;rw [if_neg A0];simp only [h1,if_true,if_pos h2]
theorem eF (h1:(D3 s 258 1 (BI s lx0)).2.fin=true) (h2:¬(D3 s 258 1 (BI s lx0)).2.e=0):CR s=(.zero,(D3 s 258 1 (BI s lx0)).2.wh,(D3 s 258 1 (BI s lx0)).2.e):=by
 unfold CR;rw [if_neg A0];simp only [h1,Er,if_false,if_neg h2]
theorem eE (h1:(D3 s 258 1 (BI s lx0)).2.fin=true) (h2:(D3 s 258 1 (BI s lx0)).2.e=0):CR s=((D3 s 258 1 (BI s lx0)).1,0,0):=by
 unfold CR;rw [if_neg A0];simp only [h1,Er,if_false,if_pos h2]
end
theorem UT (a0:Kz):prog.built 158 [(0,str a0)]=some #[str a0,AA 0,.int .u8 0,.int .u8 0,AA 0,.bool false,str [],str [],.slice none 0 0,str [],AA 0,.bool false,AA 0,AA 0]:=by kernel_rfl
theorem LZ : (prog.info? 162).map (·.size)=some 1:=by kernel_rfl
theorem JO : (prog.info? 159).map (·.size)=some 1:=by kernel_rfl
theorem KT : (prog.info? 160).map (·.size)=some 1:=by kernel_rfl
theorem UK : (prog.info? 154).map (·.size)=some 1:=by kernel_rfl
theorem LY : (prog.info? 162).map (·.zero)=some (some (.nilFunc)):=by kernel_rfl
theorem JL : (prog.info? 159).map (·.zero)=some (some (.nilFunc)):=by kernel_rfl
theorem KR : (prog.info? 160).map (·.zero)=some (some (.nilFunc)):=by kernel_rfl
theorem UI : (prog.info? 154).map (·.zero)=some (some (.pointer none)):=by kernel_rfl
theorem dZ (s:Kz) (w:Kw) (hs:s.length≤4611686018427387904) (hY:Lay0 w) :
 Calls prog 46 #[str s] w λe w'=>∃A F,e=.returned (.tuple #[.agg ((CR s).1.cells A).toArray,AA (((CR s).2.1:Nat):Int),AA (CR s).2.2])∧(CR s).1.AtL 113 w' A F∧(∀k∈F,w.heap.size≤k∧k<w'.heap.size)∧Fr0 w w':=by
 have hGx:∀k,AR k→nGlob≤k:=λ_ h=>h.elim
 refine BR func46 ntmps46 X λM=>W ?_
 refine CI M X DK λg2 w1 hg2 M=>W ?_
 refine ya X (BT X X Aa) (W ?_);refine AB X (λh14=>?_) (λh14=>?_)
 ·have h14p:=odt h14;refine W ?_;refine ya X (B7 (parts:=[]) X X (KW)) (BY M 0 X X AT X λw2 M=>W ?_);refine IA X X (M.rdBlk 0 X X) Bk X AT X X ?_;rw [eD h14p];exact ⟨none,[],X,⟨X,X⟩,(λk hk=>absurd hk (by simp)),M.fr⟩
 have h14p:=odf h14;refine W ?_;refine ya X (B7 (parts:=[(0,_)]) X X (UT _)) (CO M X X λgx w3 hgx M=>?_);have hnx:nGlob≤gx:=Bb hY.size (M.new0 0 X gx (by simp [As.blk])).1;refine FR M kw X X 154 X [.pointer none] UI X λg5 w4 hg5 M=>gp1 M 0 X X X UK λw5 M=>W ?_
 refine GL M 1 20 X X (AD X X call83) (IY s lx0 _ _ (M.blk 1 X) (a2v s).at_ A0 (hY.fr M.fr hGx) hnx) λw6 M=>W ?_
 refine FR M kw X X 159 X [.nilFunc] JL X λg6 w7 hg6 M=>W ?_
 refine ya X (CY (us:=[]) (vs:=[pg g5,pg g6]) X X X) (FR M kw X X 160 X [.nilFunc] KR X λg7 w8 hg7 M=>D1 (cs':=[.func (.func 84) #[] #[pg g5,pg g6]]) M 0 kw X X X X X X X KT (CF X) X λw9 M=>W ?_);refine ya X (CY (us:=[]) (vs:=[pg g5]) X X X) (FR M kw X X 162 X [.nilFunc] LY X λg8 w10 hg8 M=>D1 (cs':=[.func (.func 85) #[] #[pg g5]]) M 0 kw X X X X X X X LZ (CF X) X λw11 M=>W ?_);refine ya X (CY (us:=[]) (vs:=[pg g5,pg g6]) X X X) (FR M kw X X 162 X [.nilFunc] LY X λg9 w12 hg9 M=>D1 (cs':=[.func (.func 87) #[] #[pg g5,pg g6]]) M 0 kw X X X X X X X LZ (CF X) X λw13 M=>W ?_);refine ya X (CY (us:=[]) (vs:=[pg g5,pg g7,pg g9,pg g8]) X X X) (FR M kw X X 159 X [.nilFunc] JL X λg10 w14 hg10 M=>D1 (cs':=[.func (.func 88) #[] #[pg g5,pg g7,pg g9,pg g8]]) M 0 kw X X X X X X X JO (CF X) X λw15 M=>W ?_);refine ya X (CY (us:=[]) (vs:=[pg g5,pg g10,pg g6]) X X X) (D1 (cs':=[.func (.func 89) #[] #[pg g5,pg g10,pg g6]]) M 4 kw X X X X X X X JO (CF X) X λw16 M=>W ?_);refine cl 27 X (C5 X X X call89) ((u5 s gx g5 g6 g7 g8 g9 g10 257).call 1 (BI s lx0) _ AV (M.blk 6 X) DU (Bb (bD _ _) A0) ⟨M.blk 5 X,M.blk 4 X,M.blk 3 X,M.blk 2 X,M.blk 1 X,M.blk 0 X,⟨M.neBlk 5 6 X X AV,M.neBlk 4 6 X X AV,M.neBlk 3 6 X X AV,M.neBlk 2 6 X X AV,M.neBlk 1 6 X X AV,M.neBlk 0 6 X X AV⟩,hnx,by omega⟩ (hY.fr M.fr hGx)) ?_;rintro _ w17 ⟨A27,F27,rfl,hat27,hnw27,hbw17,hfw17⟩;have M:=M.putPush 6 X hbw17 hfw17 (As.xn 113 (D3 s 258 1 (BI s lx0)).1 A27 F27) hat27 hnw27;have hI27:=(XE s 257).I 1 (BI s lx0) DU (Bb (bD _ _) A0);refine cq (CI M X DK λg11 w18 hg11 M=>BY M 0 X X AT X λw19 M=>T5 ?_);refine FV M 7 X X X (T3 ?_);refine FV M 8 X X X (W ?_);refine AB X (λh33=>?_) (λh33=>?_)
 ·have h33p:=CJ h33;refine EB 6 CA gkr ?_;have M:=M.drew;refine bN M 7 X X X (bN M 7 X X X (T3 ?_));refine bN M 8 X X X (D6 (GL M 8 40 X X (AD X X call86) (GE s ((D3 s 258 1 (BI s lx0)).2) _ _ _ _ (M.blk 8 X)) λw20 M=>T5 ?_));refine FV M 7 X X X (T2 ?_);refine FV M 8 X X X (W ?_);refine AB X (λh45=>?_) (λh45=>?_)
  ·have h45p:=(odf (CJ h45));refine sx_seq (EC 12 (λw'=>Mem w AR [As.blk g11 113 (Xn.cells ((D3 s 258 1 (BI s lx0)).1) A27),As.xn 113 ((D3 s 258 1 (BI s lx0)).1) A27 F27,As.blk g10 159 [.func (.func 88) #[] #[pg g5,pg g7,pg g9,pg g8]],As.blk g9 162 [.func (.func 87) #[] #[pg g5,pg g6]],As.blk g8 162 [.func (.func 85) #[] #[pg g5]],As.blk g7 160 [.func (.func 84) #[] #[pg g5,pg g6]],As.blk g6 159 [.func (.func 89) #[] #[pg g5,pg g10,pg g6]],As.blk g5 154 [pg gx],As.blk gx 158 (Lx.cells s (((D3 s 258 1 (BI s lx0)).2).fail 4 ((D3 s 258 1 (BI s lx0)).2.tat)))] w') CA ?_);have M:=M.drew;refine oa 0 12 X X (M.pk [0,1,2,3,4,5,6,7,8]) (λ_ M=>B7 (parts:=[]) X X (KW)) (ol 1 12 X X X (M.pk [0,1,2,3,4,5,6,7,8]) (λ_ M=>(M.cell 7 X X)) (oc 2 12 X X (M.pk [0,1,2,3,4,5,6,7,8]) (oc 3 12 X X (M.pk [0,1,2,3,4,5,6,7,8]) (ol 4 12 X X X (M.pk [0,1,2,3,4,5,6,7,8]) (λ_ M=>(M.cell 8 X X)) (ol 5 12 X X X (M.pk [0,1,2,3,4,5,6,7,8]) (λ_ M=>(M.cell 7 X X)) (oc 6 12 X X (M.pk [0,1,2,3,4,5,6,7,8]) (oc 7 12 X X (M.pk [0,1,2,3,4,5,6,7,8]) (ol 8 12 X X X (M.pk [0,1,2,3,4,5,6,7,8]) (λ_ M=>(M.cell 8 X X)) (B5 9 none gkr X kw X X (λρ hρ=>BK 113 _ _ X g2 0 113 _ ([.int .u8 0,.int .u8 0,AA 0,.bool false,str [],str [],.slice none 0 0]) (hρ _ _ X) (hρ _ _ X) (M.blk 9 X) AT (CL X) (BW X)) ?_)))))))));rintro _ w21 ⟨rfl,hbw21,hfw21⟩
   replace M:Mem w AR (List.set _ 9 (As.blk g2 113 [.int .u8 0,.int .u8 0,AA 0,.bool false,str [],str [],.slice none 0 0])) w21:=M.putB 9 rfl hbw21 hfw21
   refine ⟨λ_=>(M.pk [0,1,2,3,4,5,6,7,8]),oc 10 12 X X (M.pk [0,1,2,3,4,5,6,7,8]) (oc 11 12 X X (M.pk [0,1,2,3,4,5,6,7,8]) (fdn (W ?_)))⟩;refine IA X X (M.rdBlk 9 X X) Bk X AT X X ?_;rw [bA h14p h33p h45p];exact ⟨none,[],X,⟨X,X⟩,(λk hk=>absurd hk (by simp)),M.fr⟩
  have h45p:=(odt (BO h45));refine W ?_;refine CH M 0 X X Bk AT X (BY M 9 X X AT X λw22 M=>W ?_);refine IA X X (M.rdBlk 9 X X) Bk X AT X X ?_;rw [aZ h14p h33p h45p];exact ⟨_,_,X,M.ok 1 _ X,M.new0 1 X,M.fr⟩
 have h33p:=BO h33;refine T5 ?_;refine FV M 7 X X X (T2 ?_);refine FV M 8 X X X (W ?_);refine AB X (λh45=>?_) (λh45=>?_)
 ·have h45p:=(odf (CJ h45));refine sx_seq (EC 12 (λw'=>Mem w AR [As.blk g11 113 (Xn.cells ((D3 s 258 1 (BI s lx0)).1) A27),As.xn 113 ((D3 s 258 1 (BI s lx0)).1) A27 F27,As.blk g10 159 [.func (.func 88) #[] #[pg g5,pg g7,pg g9,pg g8]],As.blk g9 162 [.func (.func 87) #[] #[pg g5,pg g6]],As.blk g8 162 [.func (.func 85) #[] #[pg g5]],As.blk g7 160 [.func (.func 84) #[] #[pg g5,pg g6]],As.blk g6 159 [.func (.func 89) #[] #[pg g5,pg g10,pg g6]],As.blk g5 154 [pg gx],As.blk gx 158 (Lx.cells s ((D3 s 258 1 (BI s lx0)).2))] w') CA ?_);have M:=M.drew;refine oa 0 12 X X (M.pk [0,1,2,3,4,5,6,7,8]) (λ_ M=>B7 (parts:=[]) X X (KW)) (ol 1 12 X X X (M.pk [0,1,2,3,4,5,6,7,8]) (λ_ M=>(M.cell 7 X X)) (oc 2 12 X X (M.pk [0,1,2,3,4,5,6,7,8]) (oc 3 12 X X (M.pk [0,1,2,3,4,5,6,7,8]) (ol 4 12 X X X (M.pk [0,1,2,3,4,5,6,7,8]) (λ_ M=>(M.cell 8 X X)) (ol 5 12 X X X (M.pk [0,1,2,3,4,5,6,7,8]) (λ_ M=>(M.cell 7 X X)) (oc 6 12 X X (M.pk [0,1,2,3,4,5,6,7,8]) (oc 7 12 X X (M.pk [0,1,2,3,4,5,6,7,8]) (ol 8 12 X X X (M.pk [0,1,2,3,4,5,6,7,8]) (λ_ M=>(M.cell 8 X X)) (B5 9 none gkr X kw X X (λρ hρ=>BK 113 _ _ X g2 0 113 _ ([.int .u8 0,.int .u8 0,AA 0,.bool false,str [],str [],.slice none 0 0]) (hρ _ _ X) (hρ _ _ X) (M.blk 9 X) AT (CL X) (BW X)) ?_)))))))));rintro _ w23 ⟨rfl,hbw23,hfw23⟩
  replace M:Mem w AR (List.set _ 9 (As.blk g2 113 [.int .u8 0,.int .u8 0,AA 0,.bool false,str [],str [],.slice none 0 0])) w23:=M.putB 9 rfl hbw23 hfw23
  refine ⟨λ_=>(M.pk [0,1,2,3,4,5,6,7,8]),oc 10 12 X X (M.pk [0,1,2,3,4,5,6,7,8]) (oc 11 12 X X (M.pk [0,1,2,3,4,5,6,7,8]) (fdn (W ?_)))⟩;refine IA X X (M.rdBlk 9 X X) Bk X AT X X ?_;rw [eF h14p h33p h45p];exact ⟨none,[],X,⟨X,X⟩,(λk hk=>absurd hk (by simp)),M.fr⟩
 have h45p:=(odt (BO h45));refine W ?_;refine CH M 0 X X Bk AT X (BY M 9 X X AT X λw24 M=>W ?_);refine IA X X (M.rdBlk 9 X X) Bk X AT X X ?_;rw [eE h14p h33p h45p];exact ⟨_,_,X,M.ok 1 _ X,M.new0 1 X,M.fr⟩
end
section
theorem kB {e:Env} {w:Kw} {o:Oper} {t':Nat} {x y:Lz} {a b:Vl} (ho:o.op=.binOp .neq 61 x y t') (hx:ev e x=some (.agg a.cells.toArray)) (hy:ev e y=some (.agg b.cells.toArray)):Y prog e o w (.bool (!(a.same b))):=λρ h=>by
 have h1:ρ x=.agg a.cells.toArray:=h _ _ hx;have h2:ρ y=.agg b.cells.toArray:=h _ _ hy;have hg:=run_eqGuard_agg (P:=prog) w .neq 61 x y a.cells.toArray b.cells.toArray TZ
 have hrun:(Op.equalIn 10000 61 (.agg a.cells.toArray) (.agg b.cells.toArray)).run prog w=.ok (a.same b) w:=by
  rw [run_equalIn_struct w 9999 61 _ _ R4 VQ];have hl:(prog.fieldsOf 61).toList=(match prog.underlying 61 with|some (.struct fs)=>fs.toList|_=>[]):=by unfold Program.fieldsOf;rw [Br]
  rw [hl,Br]
  simp only
  rw [BF (a:=.int .u8 (a.kind.toNat:Int)) (b:=.int .u8 (b.kind.toNat:Int)) AV (BB (isAgg5 w) rfl) (BB (isAgg5 w) rfl) (run_equalIn_int w 9998 5 _ _ _ _ Bi),
   BF (a:=AA a.int) (b:=AA b.int) AV (BB (isAgg2 w) rfl) (BB (isAgg2 w) rfl) (run_equalIn_int w 9998 2 _ _ _ _ Ha),
   BF (a:=.bool a.bool) (b:=.bool b.bool) AV (BB (isAgg4 w) rfl) (BB (isAgg4 w) rfl) (run_equalIn_bool' w 9998 4 _ _ Ei),
   BF (a:=str a.text) (b:=str b.text) AV (BB (isAgg9 w) rfl) (BB (isAgg9 w) rfl) (run_equalIn_string w 9998 9 _ _ Aa)]
  have ht:((⟨a.text.toArray⟩:ByteArray).toList==(⟨b.text.toArray⟩:ByteArray).toList)=decide (a.text=b.text):=by
   rw [ByteArray.toList_eq,ByteArray.toList_eq]
   by_cases h:a.text=b.text<;>simp [h]
  rw [ht];simp only [Op.eqFields,Sem.run_pure];unfold Vl.same
  by_cases h1:(a.kind.toNat:Int)=b.kind.toNat<;>by_cases h2:a.int=b.int<;>by_cases h3:a.bool=b.bool<;>by_cases h4:a.text=b.text<;>simp [h1,h2,h3,h4]
 unfold execOp;simp only [ho,h1,h2,Sem.run_bind,hg,Result.andThen_ok,run_neq_struct,hrun]
 rfl
def Xn.sm (k:Nat):Xn→Prop
 | .zero=>True
 | .lit v=>v.text.length≤k
 | .var s=>s.length≤k
 | .un _ a=>a.sm k
 | .bin _ a b=>a.sm k∧b.sm k
theorem Xn.sm_vl {k:Nat}:∀{n:Xn},n.sm k→n.vl.text.length≤k
 | .zero,_=>Ae _
 | .lit _,h=>h
 | .var _,_=>Ae _
 | .un _ _,_=>Ae _
 | .bin _ _ _,_=>Ae _
theorem Xn.sm_nm {k:Nat}:∀{n:Xn},n.sm k→n.nm.length≤k
 | .zero,_=>Ae _
 | .lit _,_=>Ae _
 | .var _,h=>h
 | .un _ _,_=>Ae _
 | .bin _ _ _,_=>Ae _
theorem a1m {m:Nat}:∀(l b:Kz) {b':Kz} {n:Nat},l.length≤m→qt b l=some (b',n)→b'.length≤b.length+l.length:=by
 induction m with
 | zero=>
  intro l b b' n hl h
  cases l with
  | nil=>cases h
  | cons c r=>simp at hl
 | succ m ih=>
  intro l b b' n hl h
  match l,h with
  | [c],h=>
   by_cases hc:(c.toNat:Int)=39
   ·rw [show qt b [c]=if (c.toNat:Int)=39 then some (b,0) else none from rfl,if_pos hc] at h
    cases h;simp
   rw [show qt b [c]=if (c.toNat:Int)=39 then some (b,0) else none from rfl,if_neg hc] at h
   cases h
  | c::d::r,h=>
   simp only [Af] at hl
   by_cases hc:(c.toNat:Int)=39
   ·by_cases hd:(d.toNat:Int)=39
    ·rw [qt,if_pos hc,if_pos hd] at h
     have:=ih r (b++[d]) A0 h
     simp only [Ah,Af,Aq] at this ⊢;omega
    rw [qt,if_pos hc,if_neg hd] at h
    cases h;simp
   rw [qt,if_neg hc] at h
   have:=ih (d::r) (b++[c]) (by simp only [Af];omega) h
   simp only [Ah,Af,Aq] at this ⊢;omega
theorem qD {k:Nat} {l:Kz} {x:Lx} (hl:l.length≤k) (h:x.nd.sm k):(JN l x).nd.sm k:=by
 unfold JN
 split
 ·rename_i b n hq
  split
  ·have:=a1m (m:=l.tail.length) l.tail [] (Ab _) hq
   simp only [List.length_tail,Aq] at this
   show b.length≤k
   omega
  rw [FB];exact h
 rw [FB];exact h
theorem yM {k:Nat} {t:Kz} {x:Lx} (h:x.nd.sm k):(JH t x).nd.sm k:=by
 unfold JH
 split
 ·rw [FB];exact h
 split<;>exact Ae _
theorem pM {k:Nat} {t:Kz} {x:Lx} (hl:t.length≤k) (h:x.nd.sm k):(G2 t x).nd.sm k:=by
 unfold G2
 repeat' split
 all_goals first
  | exact Ae _
  | exact h
  | (rw [FB];exact h)
  | exact hl
theorem sW {s r:Kz} {x:Lx} (hr:r.length≤s.length):(KH s r x).nd.sm s.length:=by
 unfold KH
 split
 ·trivial
 split
 ·exact yM (x:=⟨_,.zero,_,_,_,_,_⟩) trivial
 split
 ·exact pM (x:=⟨_,.zero,_,_,_,_,_⟩) (by rw [Bl];omega) trivial
 split
 ·exact qD (x:=⟨_,.zero,_,_,_,_,_⟩) hr trivial
 split
 ·show (Lx.fail _ _ _).nd.sm s.length
  rw [FB];trivial
 trivial
theorem LJ {s:Kz} {x:Lx}:(BI s x).nd.sm s.length:=sW (HW _ _)
def FrS (s:Kz) (fr:Nat→Lx→Xn × Lx):Prop:=∀(line:Nat) (x:Lx),x.nd.sm s.length→(fr line x).1.sm s.length∧(fr line x).2.nd.sm s.length
section
variable {s:Kz} {fr:Nat→Lx→Xn × Lx}
theorem uD (h:FrS s fr) {line:Nat} {x:Lx} (hx:x.nd.sm s.length):(BX s fr line x).1.sm s.length∧(BX s fr line x).2.nd.sm s.length:=by
 unfold BX
 split
 ·exact h _ _ LJ
 split
 ·exact h _ _ LJ
 split
 ·exact ⟨(h _ _ LJ).1,LJ⟩
 exact ⟨hx,LJ⟩
theorem lL (h:FrS s fr) (line:Nat):∀(k:Nat) (n:Xn) (x:Lx),n.sm s.length→x.nd.sm s.length→(ED s fr k line n x).1.sm s.length∧(ED s fr k line n x).2.nd.sm s.length
 | 0,_,_,hn,hx=>⟨hn,hx⟩
 | k+1,n,x,hn,hx=>by
  unfold ED
  split
  ·exact ⟨hn,hx⟩
  split
  ·exact ⟨hn,hx⟩
  have h1:=h (FL x.say+1) (BI s x) LJ;refine lL h line k _ _ ⟨hn,h1.1⟩ ?_;unfold KA
  simp only
  split
  ·rw [FB];exact h1.2
  exact h1.2
theorem bO (s:Kz):∀f:Nat,FrS s (D3 s f)
 | 0=>λ_ _ hx=>⟨trivial,hx⟩
 | f+1=>λline x hx=>by
  unfold D3
  split
  ·exact ⟨trivial,hx⟩
  have h1:=uD (bO s f) (line:=line) hx;exact lL (bO s f) line f _ _ h1.1 h1.2
end
theorem nJ (s:Kz):(CR s).1.sm s.length:=by
 unfold CR
 split
 ·trivial
 simp only
 repeat' split
 all_goals first
  | exact (bO s 258 1 _ LJ).1
  | trivial
def Xn.kids : Xn→List Xn
 | .un _ a=>[a]
 | .bin _ a b=>[a,b]
 | _=>[]
theorem Xn.ind {C:Xn→Prop} (h:∀n:Xn,(∀a∈n.kids,C a)→C n):∀n:Xn,C n
 | .zero=>h _ (λ_ hh=>by cases hh)
 | .lit _=>h _ (λ_ hh=>by cases hh)
 | .var _=>h _ (λ_ hh=>by cases hh)
 | .un o a=>
  have ha:=Xn.ind h a
  h (.un o a) (λx hx=>by simp only [Xn.kids,Au] at hx;subst hx;exact ha)
 | .bin o a b=>
  have ha:=Xn.ind h a;have hb:=Xn.ind h b
  h (.bin o a b) (λx hx=>by
   simp only [Xn.kids,Ak,Ax,or_false] at hx
   rcases hx with rfl|rfl
   ·exact ha
   exact hb)
theorem Xn.sm_kid {k:Nat}:∀{n a:Xn},n.sm k→a∈n.kids→a.sm k
 | .un _ _,_,h,hx=>by simp only [Xn.kids,Au] at hx;subst hx;exact h
 | .bin _ _ _,_,h,hx=>by
  simp only [Xn.kids,Ak,Ax,or_false] at hx
  rcases hx with rfl|rfl
  ·exact h.1
  exact h.2
def ndC (q:Xn × Ky):Kx:=q.1.cells q.2
theorem yV (q:Xn × Ky):(ndC q).length=7:=rfl
theorem Xn.AtL.kids {t:Ly} {w:Kw}:∀{n:Xn} {A:Ky} {F:List Nat},n.AtL t w A F→∃L:List (Xn × Ky),L.map Prod.fst=n.kids∧L.length=n.nk∧Rd w A (L.length*7) (AE ndC L)∧∀q∈L,∃F',q.1.AtL t w q.2 F'
 | .zero,_,_,h=>⟨[],rfl,rfl,by rw [h.1];exact Rd.nil,λ_ hh=>by cases hh⟩
 | .lit _,_,_,h=>⟨[],rfl,rfl,by rw [h.1];exact Rd.nil,λ_ hh=>by cases hh⟩
 | .var _,_,_,h=>⟨[],rfl,rfl,by rw [h.1];exact Rd.nil,λ_ hh=>by cases hh⟩
 | .un _ a,_,_,⟨g,B,F',h1,_,h3,h4⟩=>⟨[(a,B)],rfl,rfl,by rw [h1];exact Rd.ofBlk h3 rfl,λq hq=>by
  simp only [Au] at hq;subst hq;exact ⟨_,h4⟩⟩
 | .bin _ a b,_,_,⟨g,B,C,F',F'',h1,_,h3,h4,h5⟩=>⟨[(a,B),(b,C)],rfl,rfl,by rw [h1];exact Rd.ofBlk h3 rfl,λq hq=>by
  simp only [Ak,Ax,or_false] at hq
  rcases hq with rfl|rfl
  ·exact ⟨_,h4⟩
  exact ⟨_,h5⟩⟩
theorem Xn.AtL.fr0 {t:Ly} {w w':Kw} {n:Xn} {A:Ky} {F:List Nat} (h:n.AtL t w A F) (hf:Fr0 w w'):n.AtL t w' A F:=h.keep (λg _ hg=>hf.block g hg (λhh=>hh))
theorem Xn.nk_le (n:Xn):n.nk≤2:=by cases n<;>simp [Xn.nk]
theorem HM {w w':Kw} {L:List (Nat × Kx)} (h:Laid w L) (hf:Fr0 w w'):Laid w' L:=λp hp=>by
 obtain ⟨el,fz,h1⟩:=h p hp;exact ⟨el,fz,(hf.block _ (An.1 h1).1 (λhh=>hh)).trans h1⟩
def XW (b:UInt8):Kx:=[.int .u8 (b.toNat:Int)]
theorem ZT (b:UInt8):(XW b).length=1:=rfl
end
end
def AF : List El→Kz→Option El
 | [],_=>none
 | x::r,k=>if x.id=k then some x else AF r k
def E4 (l:List Fl) (k:Kz):List Fl:=l.filter λf=>decide (f.tg=k)
def BV (l:List Fl) (k:Kz):List Fl:=l.filter λf=>decide (f.frm=k)
structure IxA where
 gE:Nat
 gI:Nat
 gO:Nat
 LE:List (Kz × Kv)
 LI:List (Kz × Kv)
 LO:List (Kz × Kv)
 iA:Kz→Ky
 iC:Kz→Nat
 oA:Kz→Ky
 oC:Kz→Nat
def Ix.cells (m:Md) (a:MdA) (x:IxA):Kx:=[str m.id,str m.nm,.slice a.V m.vars.length a.vc,.slice a.E m.els.length a.ec,.slice a.F m.fls.length a.fc,.map (some x.gE),.map (some x.gI),.map (some x.gO)]
def elV (x:El):Kv:=.agg x.cells.toArray
structure IxAt (w:Kw) (m:Md) (a:MdA) (x:IxA) (gx:Nat):Prop where
 md:MdIn w m a
 blk:Blk w gx 186 (Ix.cells m a x)
 E:Mp w x.gE x.LE
 I:Mp w x.gI x.LI
 O:Mp w x.gO x.LO
 getE:∀k,(CC x.LE k).getD (.agg zeroEl.cells.toArray)=.agg ((AF m.els k).getD zeroEl).cells.toArray
 isE:∀k,(CC x.LE k).isSome=(AF m.els k).isSome
 getI:∀k,(CC x.LI k).getD (.slice none 0 0)=.slice (x.iA k) (E4 m.fls k).length (x.iC k)
 getO:∀k,(CC x.LO k).getD (.slice none 0 0)=.slice (x.oA k) (BV m.fls k).length (x.oC k)
 rdI:∀k,Rd w (x.iA k) ((E4 m.fls k).length*4) (AE Fl.cells (E4 m.fls k))
 rdO:∀k,Rd w (x.oA k) ((BV m.fls k).length*4) (AE Fl.cells (BV m.fls k))
theorem IxAt.fr0 {w w':Kw} {m:Md} {a:MdA} {x:IxA} {gx:Nat} (h:IxAt w m a x gx) (hf:Fr0 w w'):IxAt w' m a x gx:=
 ⟨h.md.fr0 hf,h.blk.fr0 hf,h.E.fr hf (λhh=>hh),h.I.fr hf (λhh=>hh),h.O.fr hf (λhh=>hh),h.getE,h.isE,h.getI,h.getO,λk=>(h.rdI k).fr0 hf,λk=>(h.rdO k).fr0 hf⟩
theorem HN (l:List Fl) (k:Kz):(E4 l k).length≤l.length:=Ef _ _
theorem F3 (l:List Fl) (k:Kz):(BV l k).length≤l.length:=Ef _ _
theorem IW {α:Type} {P:Lw} {f:FuncId} {cs:Kx} {av:α→Kv} {l:List α} {p:α→Bool} {w:Kw} (fn:∀(ar:Array Kv) (w:Kw),(callFunc f ar).run P w=.ok (.enter f ar) w)
 (h:∀x∈l,∀w1,Fr0 w w1→Calls P f (av x::cs).toArray w1 λe w2=>e=.returned (.bool (p x))∧Fr0 w1 w2):PredJ P f cs av l (λ_=>p) AR (λ_ _=>True) w where
 fn:=fn
 call _ x w1 hx hf _:=(h x (Ac hx) w1 hf).mono λ_ _ ⟨h1,h2⟩=>⟨h1,trivial,h2⟩
 st _ _ _ _ h:=h
 old _ h:=h.elim
theorem VH {e:Env} {w:Kw} {o:Oper} {x:Lz} {b:El} (ho:o.op=.field 106 x 2) (hx:ev e x=some (.agg b.cells.toArray)):Y prog e o w (.int .u8 (b.kind.toNat:Int)):=λρ h=>by
 unfold execOp
 simp [ho,h _ _ hx,Instr.field,run_underlying underlying106,asAgg,part,isAgg5,El.cells]
def El.same (a b:El):Bool:=decide (a.id=b.id)&&(decide (a.nm=b.nm)&&(decide ((a.kind.toNat:Int)=(b.kind.toNat:Int))&&(decide (a.inn=b.inn)&&(decide (a.dflt=b.dflt)&&(decide (a.att=b.att)&&(decide ((a.ev.toNat:Int)=(b.ev.toNat:Int))&&(decide (a.ref=b.ref)&&(decide (a.key=b.key)&&(decide (a.ticks=b.ticks)&&decide (a.tries=b.tries))))))))))
theorem uO : prog.eqGuardType prog.depth 106=false:=by kernel_rfl
theorem a00 : prog.stoodInHeld 106=false:=by kernel_rfl
theorem oP : prog.underlying 106=some (.struct (prog.fieldsOf 106)):=by kernel_rfl
theorem NR {P:Lw} {w:Kw} {d:Nat} {xs ys:Array Kv}:(Op.eqFields d xs ys []).run P w=.ok true w:=rfl
theorem FA {P:Lw} {w:Kw} {m:Sem Bool} {r s:Bool} (h:m.run P w=.ok s w):(if r=true then m.run P w else .ok false w)=.ok (r&&s) w:=by cases r<;>simp [h]
theorem gP {e:Env} {w:Kw} {o:Oper} {t':Nat} {x y:Lz} {a b:El} (ho:o.op=.binOp .eql 106 x y t') (hx:ev e x=some (.agg a.cells.toArray)) (hy:ev e y=some (.agg b.cells.toArray)):Y prog e o w (.bool (a.same b)):=λρ h=>by
 have h1:ρ x=.agg a.cells.toArray:=h _ _ hx;have h2:ρ y=.agg b.cells.toArray:=h _ _ hy;have hg:=run_eqGuard_agg (P:=prog) w .eql 106 x y a.cells.toArray b.cells.toArray uO
 have s_:∀(u v:Kz),(Op.equalIn 9999 9 (str u) (str v)).run prog w=.ok (decide (u=v)) w:=λu v=>by
  have:=run_equalIn_string (P:=prog) w 9998 9 ⟨u.toArray⟩ ⟨v.toArray⟩ Aa
  unfold str;rw [this,ByteArray.toList_eq,ByteArray.toList_eq]
  by_cases huv:u=v<;>simp [huv]
 have i_:∀(t:Nat) (k:IntKind) (u v:Int),prog.underlying t=some (.int k)→(Op.equalIn 9999 t (.int k u) (.int k v)).run prog w=.ok (decide (u=v)) w:=λt k u v ht=>by
  have:=run_equalIn_int (P:=prog) w 9998 t k k u v ht
  rw [this];by_cases huv:u=v<;>simp [huv]
 have hrun:(Op.equalIn 10000 106 (.agg a.cells.toArray) (.agg b.cells.toArray)).run prog w=.ok (a.same b) w:=by
  rw [run_equalIn_struct w 9999 106 _ _ oP a00];have hl:(prog.fieldsOf 106).toList=(match prog.underlying 106 with|some (.struct fs)=>fs.toList|_=>[]):=by unfold Program.fieldsOf;rw [Bf]
  rw [hl,Bf]
  simp only
  have S_:=isAgg9 w;have U_:=isAgg5 w;have N_:=isAgg3 w;rw [BF (a:=str a.id) (b:=str b.id) AV (BB S_ rfl) (BB S_ rfl) (s_ _ _)];refine FA ?_;rw [BF (a:=str a.nm) (b:=str b.nm) AV (BB S_ rfl) (BB S_ rfl) (s_ _ _)];refine FA ?_;rw [BF (a:=.int .u8 (a.kind.toNat:Int)) (b:=.int .u8 (b.kind.toNat:Int)) AV (BB U_ rfl) (BB U_ rfl) (i_ _ _ _ _ Bi)];refine FA ?_;rw [BF (a:=str a.inn) (b:=str b.inn) AV (BB S_ rfl) (BB S_ rfl) (s_ _ _)];refine FA ?_;rw [BF (a:=str a.dflt) (b:=str b.dflt) AV (BB S_ rfl) (BB S_ rfl) (s_ _ _)];refine FA ?_;rw [BF (a:=str a.att) (b:=str b.att) AV (BB S_ rfl) (BB S_ rfl) (s_ _ _)];refine FA ?_;rw [BF (a:=.int .u8 (a.ev.toNat:Int)) (b:=.int .u8 (b.ev.toNat:Int)) AV (BB U_ rfl) (BB U_ rfl) (i_ _ _ _ _ Bi)];refine FA ?_;rw [BF (a:=str a.ref) (b:=str b.ref) AV (BB S_ rfl) (BB S_ rfl) (s_ _ _)];refine FA ?_;rw [BF (a:=str a.key) (b:=str b.key) AV (BB S_ rfl) (BB S_ rfl) (s_ _ _)];refine FA ?_;rw [BF (a:=AA a.ticks) (b:=AA b.ticks) AV (BB N_ rfl) (BB N_ rfl) (i_ _ _ _ _ Bg)];refine FA ?_;rw [BF (a:=AA a.tries) (b:=AA b.tries) AV (BB N_ rfl) (BB N_ rfl) (i_ _ _ _ _ Bg)];rw [NR]
  cases decide (a.tries=b.tries)<;>rfl
 unfold execOp;simp only [ho,h1,h2,Sem.run_bind,hg,Result.andThen_ok,run_eql_struct,hrun]
 rfl
theorem QN {α:Type} {p:Nat→α→Bool} {l:List α} (h:ixJ (λi x => !(p i x)) 0 l<0):ffN p 0 l=none:=by
 rcases bG p l 0 with ⟨_,h2⟩|⟨j,x,h1,_,_⟩
 ·exact h2
 rw [h1] at h;omega
theorem QO {α:Type} {p:Nat→α→Bool} {l:List α} (h:¬ixJ (λi x => !(p i x)) 0 l<0):∃j x,ixJ (λi x => !(p i x)) 0 l=((j:Nat):Int)∧l[j]?=some x∧ffN p 0 l=some x:=by
 rcases bG p l 0 with ⟨h1,_⟩|⟨j,x,h1,h2,h3⟩
 ·rw [h1] at h;omega
 rw [Cm] at h1;exact ⟨j,x,h1,h2,h3⟩
theorem a2B (x:El) (w:Kw):Calls prog 122 #[.agg x.cells.toArray] w (BS w (str x.id)):=by
 refine BR func122 ntmps122 X λM=>W ?_
 refine CO M X X λg1 w1 hg1 M=>W ?_
 exact gr1 X ⟨X,M.fr⟩
theorem a2A (x:Fl) (w:Kw):Calls prog 125 #[.agg x.cells.toArray] w (BS w (str x.id)):=by
 refine BR func125 ntmps125 X λM=>W ?_
 refine CO M X X λg1 w1 hg1 M=>W ?_
 exact gr1 X ⟨X,M.fr⟩
theorem a2C (x:Bd) (w:Kw):Calls prog 119 #[.agg x.cells.toArray] w (BS w (str x.name)):=by
 refine BR func119 ntmps119 X λM=>W ?_
 refine CO M X X λg1 w1 hg1 M=>W ?_
 exact gr1 X ⟨X,M.fr⟩
theorem a1O (x:Kz) (w:Kw):Calls prog 134 #[str x] w (BS w (str x)):=by
 refine BR func134 ntmps134 X λM=>W ?_
 exact gr1 X ⟨X,M.fr⟩
theorem a1y (g:FuncId) (cs:Kx) (g5:Nat) (x:El) (b:Bool) (K:Kw→Prop) (w:Kw) (hb:Blk w g5 193 [.func (.func g) #[] cs.toArray]) (hfn:∀(ar:Array Kv) (w:Kw),(callFunc g ar).run prog w=.ok (.enter g ar) w)
 (hc:∀w3,Fr0 w w3→Calls prog g (.agg x.cells.toArray::cs).toArray w3 λe w'=>e=.returned (.bool b)∧K w'):Calls prog 181 #[.agg x.cells.toArray,pg g5] w λe w'=>e=.returned (.bool (!b))∧K w':=by
 refine BR func181 ntmps181 X λM=>W ?_
 refine CO M X X λg2 w1 hg2 M=>T5 ?_
 refine yl X X (Blk.c (hb.fr0 M.fr) 0 X) (CH M 0 X X Bf AJ X (cl 6 X (C5 X X X hfn) (hc _ M.fr) ?_));rintro _ w9 ⟨rfl,hK⟩;refine cq (W ?_);exact gr1 X ⟨X,hK⟩
theorem yP {l:List (El)} {g:FuncId} {cs:Kx} {p:Nat→El→Bool} {S:Nat→Prop} {J:Nat→Kw→Prop} {w w1:Kw} {g5:Nat} (hP:PredJ prog g cs (λx:El=>.agg x.cells.toArray) l p S J w) (hf:Fr0 w w1) (hg:w.heap.size≤g5) (hb:Blk w1 g5 193 [.func (.func g) #[] cs.toArray]) :
 PredJ prog 181 [pg g5] (λx:El=>.agg x.cells.toArray) l (λi x => !(p i x)) S J w1 where
 fn:=call181
 call i x w2 hx hf2 hJ:=by
  have hn:¬S g5:=λh=>by have:=hP.old g5 h;omega
  exact a1y g cs g5 x (p i x) (λw'=>J (i+1) w'∧Fr S w2 w') w2 (hb.fr hf2 hn) hP.fn λw3 hf3=>
   (hP.call i x w3 hx ((Fr.of0 hf).trans (hf2.then0 hf3)) (hP.st i w2 w3 hf3 hJ)).mono λ_ _ ⟨h1,h2,h3⟩=>⟨h1,h2,(Fr.of0 hf3).trans h3⟩
 st:=hP.st
 old s hs:=Bw (hP.old s hs) hf.size
theorem fK (A:Ky) (c:Nat) (l:List (El)) (hl:l.length≤4611686018427387904) (g:FuncId) (cs:Kx) (p:Nat→El→Bool) (S:Nat→Prop) (J:Nat→Kw→Prop) (w:Kw) (hP:PredJ prog g cs (λx:El=>.agg x.cells.toArray) l p S J w) (hR:∀w1,Fr S w w1→Rd w1 A (l.length*11) (AE El.cells l)) (hJ:J 0 w) :
 Calls prog 121 #[.slice A l.length c,.func (.func 122) #[] #[],.func (.func g) #[] cs.toArray] w λe w'=>e=.returned (.tuple #[str ((ffN p 0 l).elim [] (λx=>x.id)),.bool (ffN p 0 l).isSome])∧J (ixN (λi x => !(p i x)) 0 l) w'∧Fr S w w':=by
 refine BR func121 ntmps121 X λM=>W ?_
 refine DG M kw X X 193 X X ([.func (.func g) #[] cs.toArray]) X λg5 w1 hg5 M=>W ?_
 refine ya X (CY (us:=[]) (vs:=[pg g5]) X X X) (cl 11 X (AD X X call180) (bL El.cells El.len A c l hl 181 [pg g5] (λi x => !(p i x)) S J _ (yP hP M.fr hg5 (M.blk 0 X)) (λw9 hf9=>hR w9 ((Fr.of0 M.fr).trans hf9)) (hP.st 0 _ _ M.fr hJ)) ?_);rintro _ w9 ⟨rfl,hJ9,hf9⟩;refine cq ?_;have M:Mem w S [] w9:=Mem.ofFr ((Fr.of0 M.fr).trans hf9);refine W ?_;refine AB X (λh13=>?_) (λh13=>?_)
 ·have h13p:=odt h13;have hff:=QN h13p;refine W ?_;exact AZ X X X ⟨by rw [hff];rfl,hJ9,M.fr⟩
 have h13p:=odf h13;obtain ⟨j,x,hj,hx,hff⟩:=QO h13p;have hjl:j<l.length:=(Aj.1 hx).1;rw [hj];obtain ⟨b_x,o_x,hA_x⟩:=E3 (k:=11) A0 (hR _ M.fr) hx;refine W ?_;refine ya X (AK j hA_x X X X (sl X) A0) (ya X (AI X X (BM El.len (hR _ M.fr) hA_x hx) Bf X AJ) (cl 19 X (C5 X X X call122) (a2B x _) ?_));rintro _ w10 ⟨rfl,hf10⟩;refine cq (W ?_);exact AZ X X X ⟨by rw [hff];rfl,hP.st _ _ _ hf10 hJ9,M.fr.then0 hf10⟩
theorem a1x (g:FuncId) (cs:Kx) (g5:Nat) (x:Fl) (b:Bool) (K:Kw→Prop) (w:Kw) (hb:Blk w g5 153 [.func (.func g) #[] cs.toArray]) (hfn:∀(ar:Array Kv) (w:Kw),(callFunc g ar).run prog w=.ok (.enter g ar) w)
 (hc:∀w3,Fr0 w w3→Calls prog g (.agg x.cells.toArray::cs).toArray w3 λe w'=>e=.returned (.bool b)∧K w'):Calls prog 183 #[.agg x.cells.toArray,pg g5] w λe w'=>e=.returned (.bool (!b))∧K w':=by
 refine BR func183 ntmps183 X λM=>W ?_
 refine CO M X X λg2 w1 hg2 M=>T5 ?_
 refine yl X X (Blk.c (hb.fr0 M.fr) 0 X) (CH M 0 X X Cf BU X (cl 6 X (C5 X X X hfn) (hc _ M.fr) ?_));rintro _ w9 ⟨rfl,hK⟩;refine cq (W ?_);exact gr1 X ⟨X,hK⟩
theorem yO {l:List (Fl)} {g:FuncId} {cs:Kx} {p:Nat→Fl→Bool} {S:Nat→Prop} {J:Nat→Kw→Prop} {w w1:Kw} {g5:Nat} (hP:PredJ prog g cs (λx:Fl=>.agg x.cells.toArray) l p S J w) (hf:Fr0 w w1) (hg:w.heap.size≤g5) (hb:Blk w1 g5 153 [.func (.func g) #[] cs.toArray]) :
 PredJ prog 183 [pg g5] (λx:Fl=>.agg x.cells.toArray) l (λi x => !(p i x)) S J w1 where
 fn:=call183
 call i x w2 hx hf2 hJ:=by
  have hn:¬S g5:=λh=>by have:=hP.old g5 h;omega
  exact a1x g cs g5 x (p i x) (λw'=>J (i+1) w'∧Fr S w2 w') w2 (hb.fr hf2 hn) hP.fn λw3 hf3=>
   (hP.call i x w3 hx ((Fr.of0 hf).trans (hf2.then0 hf3)) (hP.st i w2 w3 hf3 hJ)).mono λ_ _ ⟨h1,h2,h3⟩=>⟨h1,h2,(Fr.of0 hf3).trans h3⟩
 st:=hP.st
 old s hs:=Bw (hP.old s hs) hf.size
theorem fJ (A:Ky) (c:Nat) (l:List (Fl)) (hl:l.length≤4611686018427387904) (g:FuncId) (cs:Kx) (p:Nat→Fl→Bool) (S:Nat→Prop) (J:Nat→Kw→Prop) (w:Kw) (hP:PredJ prog g cs (λx:Fl=>.agg x.cells.toArray) l p S J w) (hR:∀w1,Fr S w w1→Rd w1 A (l.length*4) (AE Fl.cells l)) (hJ:J 0 w) :
 Calls prog 124 #[.slice A l.length c,.func (.func 125) #[] #[],.func (.func g) #[] cs.toArray] w λe w'=>e=.returned (.tuple #[str ((ffN p 0 l).elim [] (λx=>x.id)),.bool (ffN p 0 l).isSome])∧J (ixN (λi x => !(p i x)) 0 l) w'∧Fr S w w':=by
 refine BR func124 ntmps124 X λM=>W ?_
 refine DG M kw X X 153 X X ([.func (.func g) #[] cs.toArray]) X λg5 w1 hg5 M=>W ?_
 refine ya X (CY (us:=[]) (vs:=[pg g5]) X X X) (cl 11 X (AD X X call182) (lS Fl.cells Fl.len A c l hl 183 [pg g5] (λi x => !(p i x)) S J _ (yO hP M.fr hg5 (M.blk 0 X)) (λw9 hf9=>hR w9 ((Fr.of0 M.fr).trans hf9)) (hP.st 0 _ _ M.fr hJ)) ?_);rintro _ w9 ⟨rfl,hJ9,hf9⟩;refine cq ?_;have M:Mem w S [] w9:=Mem.ofFr ((Fr.of0 M.fr).trans hf9);refine W ?_;refine AB X (λh13=>?_) (λh13=>?_)
 ·have h13p:=odt h13;have hff:=QN h13p;refine W ?_;exact AZ X X X ⟨by rw [hff];rfl,hJ9,M.fr⟩
 have h13p:=odf h13;obtain ⟨j,x,hj,hx,hff⟩:=QO h13p;have hjl:j<l.length:=(Aj.1 hx).1;rw [hj];obtain ⟨b_x,o_x,hA_x⟩:=E3 (k:=4) A0 (hR _ M.fr) hx;refine W ?_;refine ya X (AK j hA_x X X X (sl X) A0) (ya X (AI X X (BM Fl.len (hR _ M.fr) hA_x hx) Cf X BU) (cl 19 X (C5 X X X call125) (a2A x _) ?_));rintro _ w10 ⟨rfl,hf10⟩;refine cq (W ?_);exact AZ X X X ⟨by rw [hff];rfl,hP.st _ _ _ hf10 hJ9,M.fr.then0 hf10⟩
theorem a1z (g:FuncId) (cs:Kx) (g5:Nat) (x:Bd) (b:Bool) (K:Kw→Prop) (w:Kw) (hb:Blk w g5 190 [.func (.func g) #[] cs.toArray]) (hfn:∀(ar:Array Kv) (w:Kw),(callFunc g ar).run prog w=.ok (.enter g ar) w)
 (hc:∀w3,Fr0 w w3→Calls prog g (.agg x.cells.toArray::cs).toArray w3 λe w'=>e=.returned (.bool b)∧K w'):Calls prog 179 #[.agg x.cells.toArray,pg g5] w λe w'=>e=.returned (.bool (!b))∧K w':=by
 refine BR func179 ntmps179 X λM=>W ?_
 refine CO M X X λg2 w1 hg2 M=>T5 ?_
 refine yl X X (Blk.c (hb.fr0 M.fr) 0 X) (CH M 0 X X Dj FJ X (cl 6 X (C5 X X X hfn) (hc _ M.fr) ?_));rintro _ w9 ⟨rfl,hK⟩;refine cq (W ?_);exact gr1 X ⟨X,hK⟩
theorem yQ {l:List (Bd)} {g:FuncId} {cs:Kx} {p:Nat→Bd→Bool} {S:Nat→Prop} {J:Nat→Kw→Prop} {w w1:Kw} {g5:Nat} (hP:PredJ prog g cs (λx:Bd=>.agg x.cells.toArray) l p S J w) (hf:Fr0 w w1) (hg:w.heap.size≤g5) (hb:Blk w1 g5 190 [.func (.func g) #[] cs.toArray]) :
 PredJ prog 179 [pg g5] (λx:Bd=>.agg x.cells.toArray) l (λi x => !(p i x)) S J w1 where
 fn:=call179
 call i x w2 hx hf2 hJ:=by
  have hn:¬S g5:=λh=>by have:=hP.old g5 h;omega
  exact a1z g cs g5 x (p i x) (λw'=>J (i+1) w'∧Fr S w2 w') w2 (hb.fr hf2 hn) hP.fn λw3 hf3=>
   (hP.call i x w3 hx ((Fr.of0 hf).trans (hf2.then0 hf3)) (hP.st i w2 w3 hf3 hJ)).mono λ_ _ ⟨h1,h2,h3⟩=>⟨h1,h2,(Fr.of0 hf3).trans h3⟩
 st:=hP.st
 old s hs:=Bw (hP.old s hs) hf.size
theorem uF (A:Ky) (c:Nat) (l:List (Bd)) (hl:l.length≤4611686018427387904) (g:FuncId) (cs:Kx) (p:Nat→Bd→Bool) (S:Nat→Prop) (J:Nat→Kw→Prop) (w:Kw) (hP:PredJ prog g cs (λx:Bd=>.agg x.cells.toArray) l p S J w) (hR:∀w1,Fr S w w1→Rd w1 A (l.length*5) (AE Bd.cells l)) (hJ:J 0 w) :
 Calls prog 118 #[.slice A l.length c,.func (.func 119) #[] #[],.func (.func g) #[] cs.toArray] w λe w'=>e=.returned (.tuple #[str ((ffN p 0 l).elim [] (λx=>x.name)),.bool (ffN p 0 l).isSome])∧J (ixN (λi x => !(p i x)) 0 l) w'∧Fr S w w':=by
 refine BR func118 ntmps118 X λM=>W ?_
 refine DG M kw X X 190 X X ([.func (.func g) #[] cs.toArray]) X λg5 w1 hg5 M=>W ?_
 refine ya X (CY (us:=[]) (vs:=[pg g5]) X X X) (cl 11 X (AD X X call178) (V6 Bd.cells Bd.len A c l hl 179 [pg g5] (λi x => !(p i x)) S J _ (yQ hP M.fr hg5 (M.blk 0 X)) (λw9 hf9=>hR w9 ((Fr.of0 M.fr).trans hf9)) (hP.st 0 _ _ M.fr hJ)) ?_);rintro _ w9 ⟨rfl,hJ9,hf9⟩;refine cq ?_;have M:Mem w S [] w9:=Mem.ofFr ((Fr.of0 M.fr).trans hf9);refine W ?_;refine AB X (λh13=>?_) (λh13=>?_)
 ·have h13p:=odt h13;have hff:=QN h13p;refine W ?_;exact AZ X X X ⟨by rw [hff];rfl,hJ9,M.fr⟩
 have h13p:=odf h13;obtain ⟨j,x,hj,hx,hff⟩:=QO h13p;have hjl:j<l.length:=(Aj.1 hx).1;rw [hj];obtain ⟨b_x,o_x,hA_x⟩:=E3 (k:=5) A0 (hR _ M.fr) hx;refine W ?_;refine ya X (AK j hA_x X X X (sl X) A0) (ya X (AI X X (BM Bd.len (hR _ M.fr) hA_x hx) Dj X FJ) (cl 19 X (C5 X X X call119) (a2C x _) ?_));rintro _ w10 ⟨rfl,hf10⟩;refine cq (W ?_);exact AZ X X X ⟨by rw [hff];rfl,hP.st _ _ _ hf10 hJ9,M.fr.then0 hf10⟩
theorem yN (g:FuncId) (cs:Kx) (g5:Nat) (x:Kz) (b:Bool) (K:Kw→Prop) (w:Kw) (hb:Blk w g5 91 [.func (.func g) #[] cs.toArray]) (hfn:∀(ar:Array Kv) (w:Kw),(callFunc g ar).run prog w=.ok (.enter g ar) w)
 (hc:∀w3,Fr0 w w3→Calls prog g (str x::cs).toArray w3 λe w'=>e=.returned (.bool b)∧K w'):Calls prog 186 #[str x,pg g5] w λe w'=>e=.returned (.bool (!b))∧K w':=by
 refine BR func186 ntmps186 X λM=>T7 ?_
 refine yl X X (Blk.c (hb.fr0 M.fr) 0 X) (yb X (cl 6 X (C5 X X X hfn) (hc _ M.fr) ?_));rintro _ w9 ⟨rfl,hK⟩;refine cq (W ?_);exact gr1 X ⟨X,hK⟩
theorem sS {l:List Kz} {g:FuncId} {cs:Kx} {p:Nat→Kz→Bool} {S:Nat→Prop} {J:Nat→Kw→Prop} {w w1:Kw} {g5:Nat} (hP:PredJ prog g cs str l p S J w) (hf:Fr0 w w1) (hg:w.heap.size≤g5) (hb:Blk w1 g5 91 [.func (.func g) #[] cs.toArray]) :
 PredJ prog 186 [pg g5] str l (λi x => !(p i x)) S J w1 where
 fn:=call186
 call i x w2 hx hf2 hJ:=by
  have hn:¬S g5:=λh=>by have:=hP.old g5 h;omega
  exact yN g cs g5 x (p i x) (λw'=>J (i+1) w'∧Fr S w2 w') w2 (hb.fr hf2 hn) hP.fn λw3 hf3=>
   (hP.call i x w3 hx ((Fr.of0 hf).trans (hf2.then0 hf3)) (hP.st i w2 w3 hf3 hJ)).mono λ_ _ ⟨h1,h2,h3⟩=>⟨h1,h2,(Fr.of0 hf3).trans h3⟩
 st:=hP.st
 old s hs:=Bw (hP.old s hs) hf.size
theorem oM (A:Ky) (c:Nat) (l:List Kz) (hl:l.length≤4611686018427387904) (g:FuncId) (cs:Kx) (p:Nat→Kz→Bool) (S:Nat→Prop) (J:Nat→Kw→Prop) (w:Kw) (hP:PredJ prog g cs str l p S J w) (hR:∀w1,Fr S w w1→Rd w1 A (l.length*1) (AE BG l)) (hJ:J 0 w) :
 Calls prog 133 #[.slice A l.length c,.func (.func 134) #[] #[],.func (.func g) #[] cs.toArray] w λe w'=>e=.returned (.tuple #[str ((ffN p 0 l).elim [] (λx=>x)),.bool (ffN p 0 l).isSome])∧J (ixN (λi x => !(p i x)) 0 l) w'∧Fr S w w':=by
 refine BR func133 ntmps133 X λM=>W ?_
 refine DG M kw X X 91 X X ([.func (.func g) #[] cs.toArray]) X λg5 w1 hg5 M=>W ?_
 refine ya X (CY (us:=[]) (vs:=[pg g5]) X X X) (cl 11 X (AD X X call185) (f5 A c l hl 186 [pg g5] (λi x => !(p i x)) S J _ (sS hP M.fr hg5 (M.blk 0 X)) (λw9 hf9=>hR w9 ((Fr.of0 M.fr).trans hf9)) (hP.st 0 _ _ M.fr hJ)) ?_);rintro _ w9 ⟨rfl,hJ9,hf9⟩;refine cq ?_;have M:Mem w S [] w9:=Mem.ofFr ((Fr.of0 M.fr).trans hf9);refine W ?_;refine AB X (λh13=>?_) (λh13=>?_)
 ·have h13p:=odt h13;have hff:=QN h13p;refine W ?_;exact AZ X X X ⟨by rw [hff];rfl,hJ9,M.fr⟩
 have h13p:=odf h13;obtain ⟨j,x,hj,hx,hff⟩:=QO h13p;have hjl:j<l.length:=(Aj.1 hx).1;rw [hj];obtain ⟨b_x,o_x,hA_x⟩:=E3 (k:=1) A0 (hR _ M.fr) hx;refine W ?_;refine ya X (AK j hA_x X X X (sl X) A0) (yl X X (BD DI (hR _ M.fr) hA_x hx 0 X) (cl 19 X (C5 X X X call134) (a1O x _) ?_));rintro _ w10 ⟨rfl,hf10⟩;refine cq (W ?_);exact AZ X X X ⟨by rw [hff];rfl,hP.st _ _ _ hf10 hJ9,M.fr.then0 hf10⟩
end Go.Proofs.YtppmdnmjepkfaaaGreatDoor
