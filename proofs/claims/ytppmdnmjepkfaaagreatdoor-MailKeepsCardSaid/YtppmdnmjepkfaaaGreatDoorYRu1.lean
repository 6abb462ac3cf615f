/- Lemmas. -/
import Derived.Test.YtppmdnmjepkfaaaGreatDoorYb7
set_option maxHeartbeats 16000000
set_option maxRecDepth 100000
namespace Go.Proofs.YtppmdnmjepkfaaaGreatDoor
open Go.RowKit
open Tryz
open Decidable renaming decide→O
open Option renaming some→G,none→zx
open Bool renaming true→zz,false→zy
open True renaming intro→zw
open Go.Proofs.Tryz renaming prog→zv
open Go renaming Calls→zt
section
section
section
variable {P:Lw} {ops:Array Oper} {Q:Exit→Act→Kw→Prop} {S:Kw→Prop} {t n f:Nat} {listed:Array Bool} {e:Env} {w:Kw}
theorem a3x {o:Oper} {d:Nat} {v:Kv} (i:Nat) (hr:Region.ready .any ops listed=[i]) (ho:ops[i]?=G o) (hw:Wn ops e o) (hd:o.dst=G d) (hn:Nat.blt d n=zz) (hy:Y P e o w v) (hS:i<t→S w)
 (k:SxO P ops Q t S n f (listed.setIfInBounds i zz) ((d,v)::e) w):SxO P ops Q t S n (f+1) listed e w:=
 B7 i (G d) hr ho hw hd hn (R:=λu w'=>u=v∧w'=w) (λρ hρ=>⟨v,w,.inl (hy ρ hρ),rfl,rfl⟩) λu w' ⟨h1,h2⟩=>by subst h1;subst h2;exact ⟨hS,k⟩
end
theorem Mem.bin {w0 w:Kw} {S:Nat→Prop} {L:List As} {t g:Nat} {op:UInt8} {a b:Xn} {B C:Ky} {F F':List Nat} (M:Mem w0 S (As.blk g t (a.cells B++b.cells C)::As.xn t a B F::As.xn t b C F'::L) w):Mem w0 S (As.xn t (.bin op a b) (G ⟨g,0,zx⟩) (g::(F++F'))::L) w:=by
 have get:∀(i:Nat) (c:As),L[i]?=G c→(As.blk g t (a.cells B++b.cells C)::As.xn t a B F::As.xn t b C F'::L)[i+3]?=G c:=λi c h=>h
 have fp:∀k,k∈(As.xn t (.bin op a b) (G ⟨g,0,zx⟩) (g::(F++F'))).fp→∃(i:Nat) (c:As),i<3∧(As.blk g t (a.cells B++b.cells C)::As.xn t a B F::As.xn t b C F'::L)[i]?=G c∧k∈c.fp:=λk hk=>by
  rcases Ao.1 (show k∈g::(F++F') from hk) with rfl|hk
  ·exact ⟨0,_,by decide,rfl,by simp [As.blk]⟩
  rcases Bp.1 hk with hk|hk
  ·exact ⟨1,_,by decide,rfl,hk⟩
  exact ⟨2,_,by decide,rfl,hk⟩
 refine ⟨M.fr,?_,?_,?_⟩
 ·intro i c hi
  cases i with
  | zero=>
   simp only [Ak,Ai] at hi;subst hi
   exact ⟨g,B,C,F,F',X,X,M.blk 0 X,M.ok 1 _ X,M.ok 2 _ X⟩
  | succ i=>exact M.ok (i+3) c (get i c (by simpa using hi))
 ·intro i c hi k hk
  cases i with
  | zero=>
   simp only [Ak,Ai] at hi;subst hi
   obtain ⟨j,d,_,h1,h2⟩:=fp k hk;exact M.lt j d h1 k h2
  | succ i=>exact M.lt (i+3) c (get i c (by simpa using hi)) k hk
 intro i j c d hi hj hne k hk hk'
 cases i with
 | zero=>
  cases j with
  | zero=>exact hne rfl
  | succ j=>
   simp only [Ak,Ai] at hi;subst hi
   obtain ⟨q,d',hq,h1,h2⟩:=fp k hk;exact M.apart q (j+3) d' d h1 (get j d (by simpa using hj)) A0 k h2 hk'
 | succ i=>
  cases j with
  | zero=>
   simp only [Ak,Ai] at hj;subst hj
   obtain ⟨q,d',hq,h1,h2⟩:=fp k hk';exact M.apart (i+3) q c d' (get i c (by simpa using hi)) h1 A0 k hk h2
  | succ j=>exact M.apart (i+3) (j+3) c d (get i c (by simpa using hi)) (get j d (by simpa using hj)) A0 k hk hk'
theorem O2 {s:Kz} {x:Lx} (h:LxI s x) (he:x.e=0):0<lxM s x:=by
 have:=h.at_;have:=h.tat
 unfold lxM;rw [Ac he];omega
theorem tN (k:Kz):((B4 k).getD (0,0)).2≤6:=m7 k
theorem mO {s:Kz} {f line:Nat} {x:Lx} (h:¬x.e=0):DB s (f+1) line x=(.zero,x):=by rw [DB,Ac h]
theorem gB {s:Kz} {f line:Nat} {x:Lx} {fr:Nat→Lx→Xn × Lx} (h:x.e=0) (hfr:fr=DB s (f+1)):DB s (f+1+1) line x=EF s fr (f+1) line (BW s fr line x).1 (BW s fr line x).2:=by
 subst hfr;rw [DB,Ae (λz=>z h)]
section
variable {s:Kz} {fr:Nat→Lx→Xn × Lx} {line k:Nat} {n:Xn} {y:Lx}
theorem EB (h:¬y.e=0):EF s fr k line n y=(n,y):=by
 cases k with
 | zero=>rfl
 | succ k=>rw [EF,Ac h]
theorem nP (h:((!(B4 y.say).isSome) || (O (((((B4 y.say).getD (0,0)).2:Nat):Int)<(line:Int))))=zy):¬y.say=[]:=KM λz=>by
 have:=BL (FL h).1
 cases hs:B4 y.say with
 | none=>rw [hs] at this;cases this
 | some v=>rw [hs] at z;cases z
theorem jU (he:y.e=0) (h:((!(B4 y.say).isSome) || (O (((((B4 y.say).getD (0,0)).2:Nat):Int)<(line:Int))))=zz):EF s fr (k+1) line n y=(n,y):=by
 rw [EF,Ae (λz=>z he),Ac];rcases M8 h with h|h
 ·left
  have:=CJ h
  cases hs:B4 y.say with
  | none=>rfl
  | some v=>rw [hs] at this;cases this
 right
 have:=odt h
 unfold FT;omega
theorem X8 (he:y.e=0) (h:((!(B4 y.say).isSome) || (O (((((B4 y.say).getD (0,0)).2:Nat):Int)<(line:Int))))=zy):EF s fr (k+1) line n y=EF s fr k line (.bin ((B4 y.say).getD (0,0)).1 n (KI s fr y).1) (KI s fr y).2:=by
 rw [EF,Ae (λz=>z he),Ae];intro z;rcases z with z|z
 ·have:=BL (FL h).1
  cases hs:B4 y.say with
  | none=>rw [hs] at this;cases this
  | some v=>rw [hs] at z;cases z
 have:=odf (FL h).2
 unfold FT at z;omega
theorem oS (he:y.e=0) (h:((!(B4 y.say).isSome) || (O (((((B4 y.say).getD (0,0)).2:Nat):Int)<(line:Int))))=zy)
 (h2:((O (((((B4 y.say).getD (0,0)).2:Nat):Int)=4))&&(O (((((B4 (fr (((B4 y.say).getD (0,0)).2+1) (BK s y)).2.say).getD (0,0)).2:Nat):Int)=4)))=zz):EF s fr (k+1) line n y=EF s fr k line (.bin ((B4 y.say).getD (0,0)).1 n (fr (((B4 y.say).getD (0,0)).2+1) (BK s y)).1) ((fr (((B4 y.say).getD (0,0)).2+1) (BK s y)).2.fail 4 (fr (((B4 y.say).getD (0,0)).2+1) (BK s y)).2.tat):=by
 rw [X8 he h];have h3:=odt (DU h2).1;have h4:=odt (DU h2).2;unfold KI FT
 simp only
 rw [Ac ⟨A0,A0⟩]
theorem uL (he:y.e=0) (h:((!(B4 y.say).isSome) || (O (((((B4 y.say).getD (0,0)).2:Nat):Int)<(line:Int))))=zy)
 (h2:((O (((((B4 y.say).getD (0,0)).2:Nat):Int)=4))&&(O (((((B4 (fr (((B4 y.say).getD (0,0)).2+1) (BK s y)).2.say).getD (0,0)).2:Nat):Int)=4)))=zy):EF s fr (k+1) line n y=EF s fr k line (.bin ((B4 y.say).getD (0,0)).1 n (fr (((B4 y.say).getD (0,0)).2+1) (BK s y)).1) (fr (((B4 y.say).getD (0,0)).2+1) (BK s y)).2:=by
 rw [X8 he h];have h3:=(JQ h2).imp odf odf;unfold KI FT
 simp only
 rw [Ae A0]
end
theorem L7  : zv.built 113 []=G #[.int .u8 0,.int .u8 0,AA 0,.bool zy,str [],str [],.slice zx 0 0]:=zr
theorem fB {s:Kz} {gx c5 c6 c7 c8 c9 c10:Nat} {f:Nat} (h:∀f',f=f'+1→FromOK s gx c5 c6 c7 c8 c9 c10 f' (DB s (f'+1))) (line:Nat) (hl:line≤7) (x:Lx) (w:Kw) (hb:Blk w gx 158 (Lx.cells s x)) (hx:LxI s x) (hm:lxM s x≤f) (hE:PE s w gx c5 c6 c7 c8 c9 c10) (hY:Lay0 w) :
 zt zv 89 #[AA (line:Int),pg c5,pg c10,pg c6] w (aN s gx w (DB s (f+1) line x)):=by
 have hGx:∀k,k=gx→nGlob≤k:=λ_ e=>e▸hE.g
 refine sx_enter (vs:=[_,_,_,_]) func89 X ntmps89 X ?_;have M:Mem w (λk=>k=gx) [As.blk gx 158 (Lx.cells s x)] w:=Mem.one hb;refine W ?_;refine CE M X DQ λg5 w1 hg5 M=>T5 ?_
 refine yl X X (Blk.c ((hE.fr M.fr).b5) 0 X) (W ?_);refine AC X (λh14=>?_) (λh14=>?_)
 ·have h14p:=(odf (CJ h14));refine W ?_;refine ya X (B8 (parts:=[]) X X (L7)) (BX M 0 X X AU X λw2 M=>W ?_);refine CV X X (M.rdBlk 0 X X) Bt X AU ?_;rw [mO h14p];exact ⟨zx,[],X,⟨X,X⟩,(λk hk=>absurd hk (by simp)),M.blk 1 X,M.fr⟩
 have h14p:=(odt (BL h14));obtain ⟨f',rfl⟩:∃f',f=f'+1:=⟨f-1,by have:=O2 hx h14p;omega⟩
 have hF:=h f' X;obtain ⟨fr,hfr⟩:∃fr,fr=DB s (f'+1):=⟨_,X⟩
 rw [←hfr] at hF
 refine T4 ?_;refine yl X X (Blk.c ((hE.fr M.fr).b10) 0 X) (yb X (cl 18 X (C7 X X X call88) (oF hF line A0 x _ (M.blk 1 X) hx h14p A0 (hE.fr M.fr) (hY.fr M.fr hGx)) ?_));rintro _ w3 ⟨A18,F18,rfl,hat18,hnw18,hbw3,hfw3⟩;have M:=M.putPush 1 X hbw3 hfw3 (As.xn 113 (BW s fr line x).1 A18 F18) hat18 hnw18;have hI18:=(KC hF.I hx h14p A0 line).1;refine cq ?_;have hm18:=(KC hF.I hx h14p A0 line).2;have hfp:=gB (line:=line) h14p hfr;refine CE M X DQ λg6 w4 hg6 M=>BX M 0 X X AU X λw5 M=>W ?_
 refine flp [6,5,3,1,0] (λze e wr mz=>∃(n:Xn) (A:Ky) (F:List Nat) (y:Lx) (k:Nat),e=ze∧Mem w (λk=>k=gx) [As.blk g6 113 (Xn.cells n A),As.xn 113 n A F,As.blk g5 113 [.int .u8 0,.int .u8 0,AA 0,.bool zy,str [],str [],.slice zx 0 0],As.blk gx 158 (Lx.cells s y)] wr∧(LxI s y)∧(lxM s y≤k∧k≤f'+1)∧(DB s (f'+1+1) line x=EF s fr k line n y)∧mz=2*k) ⟨(BW s fr line x).1,A18,F18,(BW s fr line x).2,(f'+1),X,M,hI18,⟨A0,Af _⟩,hfp,X⟩ ?_;rintro _ w6 _ ⟨n,A,F,y,k,rfl,M,hyI,hk,heq,rfl⟩;refine T3 ?_;refine yl X X (Blk.c ((hE.fr M.fr).b5) 0 X) (W ?_);refine AC X (λh23=>?_) (λh23=>?_)
 ·have h23p:=odt h23;obtain ⟨j,rfl⟩:∃j,k=j+1:=⟨k-1,by have:=O2 hyI h23p;omega⟩
  refine W ?_;refine RO (λ(g7:Nat) (g25:Nat)=>[(0,AA (line:Int)),(1,pg c5),(3,pg c6),(5,pg g5),(6,pg g6),(7,pg g7),(8,.bool ((B4 y.say).isSome))]) (λ(g7:Nat) (g25:Nat)=>λw'=>Mem w (λk=>k=gx) [As.blk g7 164 [.int .u8 (((B4 y.say).getD (0,0)).1.toNat:Int),AA ((((B4 y.say).getD (0,0)).2:Nat):Int)],As.mp g25 GG,As.blk g6 113 (Xn.cells n A),As.xn 113 n A F,As.blk g5 113 [.int .u8 0,.int .u8 0,AA 0,.bool zy,str [],str [],.slice zx 0 0],As.blk gx 158 (Lx.cells s y)] w') ?_ (λkr5=>?_)
  ·intro g7 g25 w7 M;refine W ?_;refine fvm M 5 [7,6,5,3,1,0] [(41,.bool ((!(B4 y.say).isSome) || (O (((((B4 y.say).getD (0,0)).2:Nat):Int)<(line:Int)))))] ?_ (λk36=>?_)
   ·intro w8 M;refine W ?_;refine AC X (λh41=>?_) (λh41=>?_)
    ·have h41p:=bd h41;refine W ?_;refine CF M 2 X X Bt AU X (BX M 4 X X AU X λw9 M=>W ?_);refine CV X X (M.rdBlk 4 X X) Bt X AU ?_;rw [heq.trans (jU h23p h41)];exact ⟨_,_,X,M.ok 3 _ X,M.newOf 3 5 X X AV,M.blk 5 X,M.fr⟩
    have h41p:=bd h41;have hpr:=tN y.say;have hst:=HR hyI h23p (nP h41);refine T4 ?_;refine yl X X (Blk.c ((hE.fr M.fr).b5) 0 X) (FQ M 5 44 X X (AE X X call83) (J9 s y _ _ (M.blk 5 X) hyI.at_ hE.len (hY.fr M.fr hGx) hE.g) λw10 M=>W ?_);refine EO 10 (λw'=>Mem w (λk=>k=gx) [As.blk g7 164 [.int .u8 (((B4 y.say).getD (0,0)).1.toNat:Int),AA ((((B4 y.say).getD (0,0)).2:Nat):Int)],As.mp g25 GG,As.blk g6 113 (Xn.cells n A),As.xn 113 n A F,As.blk g5 113 [.int .u8 0,.int .u8 0,AA 0,.bool zy,str [],str [],.slice zx 0 0]] w') CA ?_;have M:=M.drew;refine oc 0 10 X X (M.pk [0,1,2,3,4]) (ol 1 10 X X X (M.pk [0,1,2,3,4]) (λ_ M=>(M.cell 0 X X)) (oa 2 10 X X (M.pk [0,1,2,3,4]) (λ_ M=>AJ (xs:=Xn.cells n A) X X (M.rdBlk 2 X X) Bt X AU) (ol 3 10 X X X (M.pk [0,1,2,3,4]) (λ_ M=>(Blk.c ((hE.fr M.fr).b6) 0 X)) (oc 4 10 X X (M.pk [0,1,2,3,4]) (ol 5 10 X X X (M.pk [0,1,2,3,4]) (λ_ M=>(M.cell 0 X X)) (oa 6 10 X X (M.pk [0,1,2,3,4]) (λ_ M=>GZ X X X A0) (BB 7 (G 52) zr X kw X X (C7 X X X call89) (hF.call ((((B4 y.say).getD (0,0)).2)+1) (BK s y) _ A0 (M.blk 5 X) E0 A0 (hE.fr M.fr) (hY.fr M.fr hGx)) ?_)))))));rintro _ w11 ⟨A52,F52,rfl,hat52,hnw52,hbw11,hfw11⟩;have M:=M.putPush 5 X hbw11 hfw11 (As.xn 113 (fr ((((B4 y.say).getD (0,0)).2)+1) (BK s y)).1 A52 F52) hat52 hnw52;have hI52:=hF.I.I ((((B4 y.say).getD (0,0)).2)+1) (BK s y) E0 A0;refine ⟨_,X,λ_=>(M.pk [1,2,3,4,5]),?_⟩;have hm52:=hF.I.m ((((B4 y.say).getD (0,0)).2)+1) (BK s y) E0 A0;refine B7 8 (G 53) zr X kw X X (λρ hρ=>CX [.agg (Xn.cells n A).toArray,.agg (Xn.cells ((fr ((((B4 y.say).getD (0,0)).2)+1) (BK s y)).1) A52).toArray] _ hρ X X X X underlying111 QA AV AV (by intro v hv;simp only [Ao,Ba,or_false] at hv;rcases hv with rfl|rfl<;>rfl)) ?_;rintro _ w12 ⟨g53,rfl,hg53,hq53,hb53,hfw12⟩
    replace hb53:Blk w12 g53 113 ((Xn.cells n A)++(Xn.cells ((fr ((((B4 y.say).getD (0,0)).2)+1) (BK s y)).1) A52)):=hb53
    refine ⟨λ_=>(M.pk [1,2,3,4,5]).step hfw12,?_⟩;have M:=M.push hfw12 _ hb53 (CR hg53 hq53)
    replace M:Mem w (λk=>k=gx) (As.blk g53 113 ((Xn.cells n A)++(Xn.cells ((fr ((((B4 y.say).getD (0,0)).2)+1) (BK s y)).1) A52))::_) w12:=M
    refine oa 9 10 X X (M.pk [2,3,4,5,6]) (λ_ M=>B8 (parts:=[(0,_),(3,_)]) X X (NI _ _ _ _)) (B7 10 zx zr X kw X X (λρ hρ=>BZ 113 _ _ X g6 0 113 _ ([.int .u8 (((B4 y.say).getD (0,0)).1.toNat:Int),.int .u8 0,AA 0,.bool zy,str [],str [],.slice (G ⟨g53,0,zx⟩) 2 2]) (hρ _ _ X) (hρ _ _ X) (M.blk 4 X) AU (CM X) (BN X)) ?_);rintro _ w13 ⟨rfl,hbw13,hfw13⟩
    replace M:Mem w (λk=>k=gx) (List.set _ 4 (As.blk g6 113 [.int .u8 (((B4 y.say).getD (0,0)).1.toNat:Int),.int .u8 0,AA 0,.bool zy,str [],str [],.slice (G ⟨g53,0,zx⟩) 2 2])) w13:=M.putB 4 rfl hbw13 hfw13
    refine ⟨λh=>absurd h AV,fdn (W ?_)⟩;refine RO (λ(g9:Nat) (g55:Nat)=>[(0,AA (line:Int)),(1,pg c5),(3,pg c6),(5,pg g5),(6,pg g6),(7,pg g7),(9,pg g9)]) (λ(g9:Nat) (g55:Nat)=>λw'=>Mem w (λk=>k=gx) [As.blk g9 164 [.int .u8 (((B4 ((fr ((((B4 y.say).getD (0,0)).2)+1) (BK s y)).2.say)).getD (0,0)).1.toNat:Int),AA ((((B4 ((fr ((((B4 y.say).getD (0,0)).2)+1) (BK s y)).2.say)).getD (0,0)).2:Nat):Int)],As.mp g55 GG,As.blk g53 113 ((Xn.cells n A)++(Xn.cells ((fr ((((B4 y.say).getD (0,0)).2)+1) (BK s y)).1) A52)),As.xn 113 ((fr ((((B4 y.say).getD (0,0)).2)+1) (BK s y)).1) A52 F52,As.blk g7 164 [.int .u8 (((B4 y.say).getD (0,0)).1.toNat:Int),AA ((((B4 y.say).getD (0,0)).2:Nat):Int)],As.mp g25 GG,As.blk g6 113 [.int .u8 (((B4 y.say).getD (0,0)).1.toNat:Int),.int .u8 0,AA 0,.bool zy,str [],str [],.slice (G ⟨g53,0,zx⟩) 2 2],As.xn 113 n A F,As.blk g5 113 [.int .u8 0,.int .u8 0,AA 0,.bool zy,str [],str [],.slice zx 0 0],As.blk gx 158 (Lx.cells s ((fr ((((B4 y.say).getD (0,0)).2)+1) (BK s y)).2))] w') ?_ (λkr10=>?_)
    ·intro g9 g55 w14 M;refine W ?_;refine fvm M 4 [6,5,3,1,0] [(69,.bool ((O (((((B4 y.say).getD (0,0)).2:Nat):Int)=4))&&(O (((((B4 ((fr ((((B4 y.say).getD (0,0)).2)+1) (BK s y)).2.say)).getD (0,0)).2:Nat):Int)=4))))] ?_ (λk65=>?_)
     ·intro w15 M;refine W ?_;refine AC X (λh69=>?_) (λh69=>?_)
      ·have h69p:=bd h69;refine DZ 6 CA zr ?_;have M:=M.drew;refine sd X X (Blk.c ((hE.fr M.fr).b5) 0 X) (sd X X (Blk.c ((hE.fr M.fr).b5) 0 X) (T3 ?_));refine cD M 9 X X X (DA (FQ M 9 76 X X (AE X X call86) (GN s ((fr ((((B4 y.say).getD (0,0)).2)+1) (BK s y)).2) _ _ _ _ (M.blk 9 X)) λw16 M=>W ?_));have M:=Mem.bin (op:=((B4 y.say).getD (0,0)).1) (M.pk [2,7,3,6,8,9]);refine fag ⟨(Xn.bin ((B4 y.say).getD (0,0)).1 n (fr (((B4 y.say).getD (0,0)).2+1) (BK s y)).1),(G ⟨g53,0,zx⟩),(g53::(F++F52)),(((fr ((((B4 y.say).getD (0,0)).2)+1) (BK s y)).2).fail 4 ((fr ((((B4 y.say).getD (0,0)).2)+1) (BK s y)).2.tat)),j,X,(M.pk [1,0,2,3]),?_,?_,?_,X⟩
       ·exact hI52.fail _ _
       ·rw [SA AV];exact ⟨Aj _,A0⟩
       exact heq.trans (oS h23p h41 h69)
      have h69p:=bd h69;refine W ?_;have M:=Mem.bin (op:=((B4 y.say).getD (0,0)).1) (M.pk [2,7,3,6,8,9]);refine fag ⟨(Xn.bin ((B4 y.say).getD (0,0)).1 n (fr (((B4 y.say).getD (0,0)).2+1) (BK s y)).1),(G ⟨g53,0,zx⟩),(g53::(F++F52)),((fr ((((B4 y.say).getD (0,0)).2)+1) (BK s y)).2),j,X,(M.pk [1,0,2,3]),?_,?_,?_,X⟩
      ·exact hI52
      ·exact ⟨A0,A0⟩
      exact heq.trans (uL h23p h41 h69)
     refine A1 (d:=65) X (λh65=>?_) (λh65=>?_)
     ·refine T4 ?_;exact k65 M
     refine T4 ?_;exact k65 M
    refine I0 M 9 CA λM=>ol 1 9 X X X M (λ_ M=>(Blk.c ((hE.fr M.fr).b5) 0 X)) (oc 2 9 X X M (oc 3 9 X X M (oc 4 9 X X M (ol 5 9 X X X M (λ_ M=>(M.cell 7 X X)) (FM (rs:=[0,7]) zr (by simp) λiz hiz=>?_)))))
    simp only [Ao,Ba,or_false] at hiz
    rcases hiz with rfl|rfl
    ·refine GT (G 55) X kw X X (AE X X call90) (KL _) ?_;rintro _ w17 ⟨g55,rfl,hMw17,hgw17,hfw17⟩;refine ⟨_,X,λ_=>M.step hfw17,?_⟩;have M:=M.push hfw17 (As.mp g55 GG) hMw17 (OZ hgw17 hMw17.lt);refine FM (rs:=[6,7]) zr (by simp) λiz hiz=>?_
     simp only [Ao,Ba,or_false] at hiz
     rcases hiz with rfl|rfl
     ·refine DP (G 61) X kw X X (mR (CH X X X Ci Ad C5 (M.mp 0 X) (G5 _))) ?_;rintro _ _ ⟨rfl,rfl⟩;refine ⟨λ_=>(M.drop 1),B7 7 (G 9) zr X kw X X (λρ hρ=>BP 164 X _ [.int .u8 0,AA 0] C5 X) ?_⟩;rintro _ w18 ⟨g9,rfl,hg9,hq9,hb9,hfw18⟩;refine ⟨λ_=>(M.drop 1).step hfw18,?_⟩;have M:=M.push hfw18 _ hb9 (CR hg9 hq9)
      replace M:Mem w (λk=>k=gx) (As.blk g9 164 [.int .u8 0,AA 0]::_) w18:=M
      exact fop M 8 0 X X X E4 X (·.drop 2) λw19 M=>fdn (kr10 g9 g55 _ _ M ⟨X,X,X,X,X,X,X,zw⟩)
     refine DP (G 9) X kw X X (λρ hρ=>BP 164 X _ [.int .u8 0,AA 0] C5 X) ?_;rintro _ w20 ⟨g9,rfl,hg9,hq9,hb9,hfw20⟩;refine ⟨λ_=>(M.drop 1).step hfw20,?_⟩;have M:=M.push hfw20 _ hb9 (CR hg9 hq9)
     replace M:Mem w (λk=>k=gx) (As.blk g9 164 [.int .u8 0,AA 0]::_) w20:=M
     exact DV 6 zr X kw X X (CH X X X Ci Ad C5 (M.mp 1 X) (G5 _)) (M.drop 2) (fop M 8 0 X X X E4 X (·.drop 2) λw21 M=>fdn (kr10 g9 g55 _ _ M ⟨X,X,X,X,X,X,X,zw⟩))
    refine DP (G 9) X kw X X (λρ hρ=>BP 164 X _ [.int .u8 0,AA 0] C5 X) ?_;rintro _ w22 ⟨g9,rfl,hg9,hq9,hb9,hfw22⟩;refine ⟨λ_=>M.step hfw22,?_⟩;have M:=M.push hfw22 _ hb9 (CR hg9 hq9)
    replace M:Mem w (λk=>k=gx) (As.blk g9 164 [.int .u8 0,AA 0]::_) w22:=M
    refine BB 0 (G 55) zr X kw X X (AE X X call90) (KL _) ?_;rintro _ w23 ⟨g55,rfl,hMw23,hgw23,hfw23⟩;refine ⟨_,X,λ_=>(M.drop 1).step hfw23,?_⟩;have M:=M.push hfw23 (As.mp g55 GG) hMw23 (OZ hgw23 hMw23.lt);exact DV 6 zr X kw X X (CH X X X Ci Ad C5 (M.mp 0 X) (G5 _)) (M.drop 2) (fop M 8 1 X X X E4 X (·.drop 2) λw24 M=>fdn (kr10 g9 g55 _ _ (M.pk [1,0,2,3,4,5,6,7,8,9]) ⟨X,X,X,X,X,X,X,zw⟩))
   refine A1 (d:=36) X (λh36=>?_) (λh36=>?_)
   ·refine T5 ?_;exact k36 M
   refine T5 ?_;exact k36 M
  refine I0 M 13 CA λM=>ol 1 13 X X X M (λ_ M=>(Blk.c ((hE.fr M.fr).b5) 0 X)) (oc 2 13 X X M (oc 3 13 X X M (oc 4 13 X X M (ol 5 13 X X X M (λ_ M=>(M.cell 3 X X)) (FM (rs:=[0,10]) zr (by simp) λiz hiz=>?_)))))
  simp only [Ao,Ba,or_false] at hiz
  rcases hiz with rfl|rfl
  ·refine GT (G 25) X kw X X (AE X X call90) (KL _) ?_;rintro _ w25 ⟨g25,rfl,hMw25,hgw25,hfw25⟩;refine ⟨_,X,λ_=>M.step hfw25,?_⟩;have M:=M.push hfw25 (As.mp g25 GG) hMw25 (OZ hgw25 hMw25.lt);refine FM (rs:=[6,10]) zr (by simp) λiz hiz=>?_
   simp only [Ao,Ba,or_false] at hiz
   rcases hiz with rfl|rfl
   ·refine DP (G 31) X kw X X (mR (EM X X X Ci Ad C5 (M.mp 0 X) (G5 _) (JM _))) ?_;rintro _ _ ⟨rfl,rfl⟩;refine ⟨λ_=>(M.drop 1),oc 7 13 X X (M.drop 1) (oc 8 13 X X (M.drop 1) (oc 9 13 X X (M.drop 1) (B7 10 (G 7) zr X kw X X (λρ hρ=>BP 164 X _ [.int .u8 0,AA 0] C5 X) ?_)))⟩;rintro _ w26 ⟨g7,rfl,hg7,hq7,hb7,hfw26⟩;refine ⟨λ_=>(M.drop 1).step hfw26,?_⟩;have M:=M.push hfw26 _ hb7 (CR hg7 hq7)
    replace M:Mem w (λk=>k=gx) (As.blk g7 164 [.int .u8 0,AA 0]::_) w26:=M
    exact fop M 11 0 X X X E4 X (·.drop 2) λw27 M=>oc 12 13 X X (M.drop 2) (fdn (kr5 g7 g25 _ _ M ⟨X,X,X,X,X,X,X,zw⟩))
   refine DP (G 7) X kw X X (λρ hρ=>BP 164 X _ [.int .u8 0,AA 0] C5 X) ?_;rintro _ w28 ⟨g7,rfl,hg7,hq7,hb7,hfw28⟩;refine ⟨λ_=>(M.drop 1).step hfw28,?_⟩;have M:=M.push hfw28 _ hb7 (CR hg7 hq7)
   replace M:Mem w (λk=>k=gx) (As.blk g7 164 [.int .u8 0,AA 0]::_) w28:=M
   exact DV 6 zr X kw X X (EM X X X Ci Ad C5 (M.mp 1 X) (G5 _) (JM _)) (M.drop 2) (oc 7 13 X X (M.drop 2) (oc 8 13 X X (M.drop 2) (oc 9 13 X X (M.drop 2) (fop M 11 0 X X X E4 X (·.drop 2) λw29 M=>oc 12 13 X X (M.drop 2) (fdn (kr5 g7 g25 _ _ M ⟨X,X,X,X,X,X,X,zw⟩))))))
  refine DP (G 7) X kw X X (λρ hρ=>BP 164 X _ [.int .u8 0,AA 0] C5 X) ?_;rintro _ w30 ⟨g7,rfl,hg7,hq7,hb7,hfw30⟩;refine ⟨λ_=>M.step hfw30,?_⟩;have M:=M.push hfw30 _ hb7 (CR hg7 hq7)
  replace M:Mem w (λk=>k=gx) (As.blk g7 164 [.int .u8 0,AA 0]::_) w30:=M
  refine BB 0 (G 25) zr X kw X X (AE X X call90) (KL _) ?_;rintro _ w31 ⟨g25,rfl,hMw31,hgw31,hfw31⟩;refine ⟨_,X,λ_=>(M.drop 1).step hfw31,?_⟩;have M:=M.push hfw31 (As.mp g25 GG) hMw31 (OZ hgw31 hMw31.lt);exact DV 6 zr X kw X X (EM X X X Ci Ad C5 (M.mp 0 X) (G5 _) (JM _)) (M.drop 2) (oc 7 13 X X (M.drop 2) (oc 8 13 X X (M.drop 2) (oc 9 13 X X (M.drop 2) (fop M 11 1 X X X E4 X (·.drop 2) λw32 M=>oc 12 13 X X (M.drop 2) (fdn (kr5 g7 g25 _ _ (M.pk [1,0,2,3,4,5]) ⟨X,X,X,X,X,X,X,zw⟩))))))
 have h23p:=odf h23;refine W ?_;refine CF M 0 X X Bt AU X (BX M 2 X X AU X λw33 M=>W ?_);refine CV X X (M.rdBlk 2 X X) Bt X AU ?_;rw [heq.trans (EB h23p)];exact ⟨_,_,X,M.ok 1 _ X,M.newOf 1 3 X X AV,M.blk 3 X,M.fr⟩
theorem vP (s:Kz) (gx c5 c6 c7 c8 c9 c10:Nat):∀f:Nat,FromOK s gx c5 c6 c7 c8 c9 c10 f (DB s (f+1))
 | 0=>⟨XN s 0,λline x w hl hb hx hm hE hY=>fB (f:=0) (λ_ h=>by cases h) line hl x w hb hx hm hE hY⟩
 | f+1=>⟨XN s (f+1),λline x w hl hb hx hm hE hY=>fB (f:=f+1) (λf' h=>by cases h;exact vP s gx c5 c6 c7 c8 c9 c10 f) line hl x w hb hx hm hE hY⟩
end
section
theorem Mem.neBlk {w0 w:Kw} {S:Nat→Prop} {L:List As} (M:Mem w0 S L w) (i j:Nat) {a b t u:Nat} {cs ds:Kx} (hi:L[i]?=G (As.blk a t cs)) (hj:L[j]?=G (As.blk b u ds)) (h:i≠j):¬a=b:=λe=>
 M.apart i j _ _ hi hj h a (by simp [As.blk]) (by simp [As.blk,e])
theorem a3j (s:Kz):LxI s lx0:=⟨Aj _,Af _,λh=>absurd rfl h,rfl⟩
theorem bR (s:Kz) (x:Lx):lxM s x≤s.length+1:=by unfold lxM;split<;>omega
theorem f7 {s:Kz} (h:(256:Int)<(s.length:Int)):CT s=(.zero,0,3):=Ac A0
section
variable {s:Kz} (h:¬(256:Int)<((s.length:Nat):Int))
include h
theorem bO (h1:(DB s 258 1 (BK s lx0)).2.fin=zy) (h2:¬((DB s 258 1 (BK s lx0)).2.fail 4 (DB s 258 1 (BK s lx0)).2.tat).e=0) :
 CT s=(.zero,((DB s 258 1 (BK s lx0)).2.fail 4 (DB s 258 1 (BK s lx0)).2.tat).wh,((DB s 258 1 (BK s lx0)).2.fail 4 (DB s 258 1 (BK s lx0)).2.tat).e):=by
 unfold CT;rw [Ae A0];simp only [h1,if_true,Ae h2]
theorem bN (h1:(DB s 258 1 (BK s lx0)).2.fin=zy) (h2:((DB s 258 1 (BK s lx0)).2.fail 4 (DB s 258 1 (BK s lx0)).2.tat).e=0):CT s=((DB s 258 1 (BK s lx0)).1,0,0):=by
 unfold CT;rw [Ae A0];simp only [h1,if_true,Ac h2]
theorem fA (h1:(DB s 258 1 (BK s lx0)).2.fin=zz) (h2:¬(DB s 258 1 (BK s lx0)).2.e=0):CT s=(.zero,(DB s 258 1 (BK s lx0)).2.wh,(DB s 258 1 (BK s lx0)).2.e):=by
 unfold CT;rw [Ae A0];simp only [h1,Ez,if_false,Ae h2]
theorem f9 (h1:(DB s 258 1 (BK s lx0)).2.fin=zz) (h2:(DB s 258 1 (BK s lx0)).2.e=0):CT s=((DB s 258 1 (BK s lx0)).1,0,0):=by
 unfold CT;rw [Ae A0];simp only [h1,Ez,if_false,Ac h2]
end
theorem VE (a0:Kz):zv.built 158 [(0,str a0)]=G #[str a0,AA 0,.int .u8 0,.int .u8 0,AA 0,.bool zy,str [],str [],.slice zx 0 0,str [],AA 0,.bool zy,AA 0,AA 0]:=zr
theorem MF : (zv.info? 162).map (·.size)=G 1:=zr
theorem JV : (zv.info? 159).map (·.size)=G 1:=zr
theorem L4 : (zv.info? 160).map (·.size)=G 1:=zr
theorem V5 : (zv.info? 154).map (·.size)=G 1:=zr
theorem ME : (zv.info? 162).map (·.zero)=G (G (.nilFunc)):=zr
theorem JS : (zv.info? 159).map (·.zero)=G (G (.nilFunc)):=zr
theorem L2 : (zv.info? 160).map (·.zero)=G (G (.nilFunc)):=zr
theorem V4 : (zv.info? 154).map (·.zero)=G (G (.pointer zx)):=zr
theorem f6 (s:Kz) (w:Kw) (hs:s.length≤4611686018427387904) (hY:Lay0 w) :
 zt zv 46 #[str s] w λe w'=>∃A F,e=.returned (.tuple #[.agg ((CT s).1.cells A).toArray,AA (((CT s).2.1:Nat):Int),AA (CT s).2.2])∧(CT s).1.AtL 113 w' A F∧(∀k∈F,w.heap.size≤k∧k<w'.heap.size)∧Fr0 w w':=by
 have hGx:∀k,AR k→nGlob≤k:=λ_ h=>h.elim
 refine BO func46 ntmps46 X λM=>W ?_
 refine CE M X DQ λg2 w1 hg2 M=>W ?_
 refine ya X (BT X X Ad) (W ?_);refine AC X (λh14=>?_) (λh14=>?_)
 ·have h14p:=odt h14;refine W ?_;refine ya X (B8 (parts:=[]) X X (L7)) (BX M 0 X X AU X λw2 M=>W ?_);refine IH X X (M.rdBlk 0 X X) Bt X AU X X ?_;rw [f7 h14p];exact ⟨zx,[],X,⟨X,X⟩,(λk hk=>absurd hk (by simp)),M.fr⟩
 have h14p:=odf h14;refine W ?_;refine ya X (B8 (parts:=[(0,_)]) X X (VE _)) (CU M X X λgx w3 hgx M=>?_);have hnx:nGlob≤gx:=Bh hY.size (M.new0 0 X gx (by simp [As.blk])).1;refine G9 M kw X X 154 X [.pointer zx] V4 X λg5 w4 hg5 M=>gp1 M 0 X X X V5 λw5 M=>W ?_
 refine FQ M 1 20 X X (AE X X call83) (J9 s lx0 _ _ (M.blk 1 X) (a3j s).at_ A0 (hY.fr M.fr hGx) hnx) λw6 M=>W ?_
 refine G9 M kw X X 159 X [.nilFunc] JS X λg6 w7 hg6 M=>W ?_
 refine ya X (D8 (us:=[]) (vs:=[pg g5,pg g6]) X X X) (G9 M kw X X 160 X [.nilFunc] L2 X λg7 w8 hg7 M=>FK (cs':=[.func (.func 84) #[] #[pg g5,pg g6]]) M 0 kw X X X X X X X L4 (D6 X) X λw9 M=>W ?_);refine ya X (D8 (us:=[]) (vs:=[pg g5]) X X X) (G9 M kw X X 162 X [.nilFunc] ME X λg8 w10 hg8 M=>FK (cs':=[.func (.func 85) #[] #[pg g5]]) M 0 kw X X X X X X X MF (D6 X) X λw11 M=>W ?_);refine ya X (D8 (us:=[]) (vs:=[pg g5,pg g6]) X X X) (G9 M kw X X 162 X [.nilFunc] ME X λg9 w12 hg9 M=>FK (cs':=[.func (.func 87) #[] #[pg g5,pg g6]]) M 0 kw X X X X X X X MF (D6 X) X λw13 M=>W ?_);refine ya X (D8 (us:=[]) (vs:=[pg g5,pg g7,pg g9,pg g8]) X X X) (G9 M kw X X 159 X [.nilFunc] JS X λg10 w14 hg10 M=>FK (cs':=[.func (.func 88) #[] #[pg g5,pg g7,pg g9,pg g8]]) M 0 kw X X X X X X X JV (D6 X) X λw15 M=>W ?_);refine ya X (D8 (us:=[]) (vs:=[pg g5,pg g10,pg g6]) X X X) (FK (cs':=[.func (.func 89) #[] #[pg g5,pg g10,pg g6]]) M 4 kw X X X X X X X JV (D6 X) X λw16 M=>W ?_);refine cl 27 X (C7 X X X call89) ((vP s gx g5 g6 g7 g8 g9 g10 257).call 1 (BK s lx0) _ AV (M.blk 6 X) E0 (Bh (bR _ _) A0) ⟨M.blk 5 X,M.blk 4 X,M.blk 3 X,M.blk 2 X,M.blk 1 X,M.blk 0 X,⟨M.neBlk 5 6 X X AV,M.neBlk 4 6 X X AV,M.neBlk 3 6 X X AV,M.neBlk 2 6 X X AV,M.neBlk 1 6 X X AV,M.neBlk 0 6 X X AV⟩,hnx,A0⟩ (hY.fr M.fr hGx)) ?_;rintro _ w17 ⟨A27,F27,rfl,hat27,hnw27,hbw17,hfw17⟩;have M:=M.putPush 6 X hbw17 hfw17 (As.xn 113 (DB s 258 1 (BK s lx0)).1 A27 F27) hat27 hnw27;have hI27:=(XN s 257).I 1 (BK s lx0) E0 (Bh (bR _ _) A0);refine cq (CE M X DQ λg11 w18 hg11 M=>BX M 0 X X AU X λw19 M=>T5 ?_);refine EZ M 7 X X X (T3 ?_);refine EZ M 8 X X X (W ?_);refine AC X (λh33=>?_) (λh33=>?_)
 ·have h33p:=CJ h33;refine DZ 6 CA zr ?_;have M:=M.drew;refine cD M 7 X X X (cD M 7 X X X (T3 ?_));refine cD M 8 X X X (DA (FQ M 8 40 X X (AE X X call86) (GN s ((DB s 258 1 (BK s lx0)).2) _ _ _ _ (M.blk 8 X)) λw20 M=>T5 ?_));refine EZ M 7 X X X (T2 ?_);refine EZ M 8 X X X (W ?_);refine AC X (λh45=>?_) (λh45=>?_)
  ·have h45p:=(odf (CJ h45));refine sx_seq (EO 12 (λw'=>Mem w AR [As.blk g11 113 (Xn.cells ((DB s 258 1 (BK s lx0)).1) A27),As.xn 113 ((DB s 258 1 (BK s lx0)).1) A27 F27,As.blk g10 159 [.func (.func 88) #[] #[pg g5,pg g7,pg g9,pg g8]],As.blk g9 162 [.func (.func 87) #[] #[pg g5,pg g6]],As.blk g8 162 [.func (.func 85) #[] #[pg g5]],As.blk g7 160 [.func (.func 84) #[] #[pg g5,pg g6]],As.blk g6 159 [.func (.func 89) #[] #[pg g5,pg g10,pg g6]],As.blk g5 154 [pg gx],As.blk gx 158 (Lx.cells s (((DB s 258 1 (BK s lx0)).2).fail 4 ((DB s 258 1 (BK s lx0)).2.tat)))] w') CA ?_);have M:=M.drew;refine oa 0 12 X X (M.pk [0,1,2,3,4,5,6,7,8]) (λ_ M=>B8 (parts:=[]) X X (L7)) (ol 1 12 X X X (M.pk [0,1,2,3,4,5,6,7,8]) (λ_ M=>(M.cell 7 X X)) (oc 2 12 X X (M.pk [0,1,2,3,4,5,6,7,8]) (oc 3 12 X X (M.pk [0,1,2,3,4,5,6,7,8]) (ol 4 12 X X X (M.pk [0,1,2,3,4,5,6,7,8]) (λ_ M=>(M.cell 8 X X)) (ol 5 12 X X X (M.pk [0,1,2,3,4,5,6,7,8]) (λ_ M=>(M.cell 7 X X)) (oc 6 12 X X (M.pk [0,1,2,3,4,5,6,7,8]) (oc 7 12 X X (M.pk [0,1,2,3,4,5,6,7,8]) (ol 8 12 X X X (M.pk [0,1,2,3,4,5,6,7,8]) (λ_ M=>(M.cell 8 X X)) (B7 9 zx zr X kw X X (λρ hρ=>BZ 113 _ _ X g2 0 113 _ ([.int .u8 0,.int .u8 0,AA 0,.bool zy,str [],str [],.slice zx 0 0]) (hρ _ _ X) (hρ _ _ X) (M.blk 9 X) AU (CM X) (BN X)) ?_)))))))));rintro _ w21 ⟨rfl,hbw21,hfw21⟩
   replace M:Mem w AR (List.set _ 9 (As.blk g2 113 [.int .u8 0,.int .u8 0,AA 0,.bool zy,str [],str [],.slice zx 0 0])) w21:=M.putB 9 rfl hbw21 hfw21
   refine ⟨λ_=>(M.pk [0,1,2,3,4,5,6,7,8]),oc 10 12 X X (M.pk [0,1,2,3,4,5,6,7,8]) (oc 11 12 X X (M.pk [0,1,2,3,4,5,6,7,8]) (fdn (W ?_)))⟩;refine IH X X (M.rdBlk 9 X X) Bt X AU X X ?_;rw [bO h14p h33p h45p];exact ⟨zx,[],X,⟨X,X⟩,(λk hk=>absurd hk (by simp)),M.fr⟩
  have h45p:=(odt (BL h45));refine W ?_;refine CF M 0 X X Bt AU X (BX M 9 X X AU X λw22 M=>W ?_);refine IH X X (M.rdBlk 9 X X) Bt X AU X X ?_;rw [bN h14p h33p h45p];exact ⟨_,_,X,M.ok 1 _ X,M.new0 1 X,M.fr⟩
 have h33p:=BL h33;refine T5 ?_;refine EZ M 7 X X X (T2 ?_);refine EZ M 8 X X X (W ?_);refine AC X (λh45=>?_) (λh45=>?_)
 ·have h45p:=(odf (CJ h45));refine sx_seq (EO 12 (λw'=>Mem w AR [As.blk g11 113 (Xn.cells ((DB s 258 1 (BK s lx0)).1) A27),As.xn 113 ((DB s 258 1 (BK s lx0)).1) A27 F27,As.blk g10 159 [.func (.func 88) #[] #[pg g5,pg g7,pg g9,pg g8]],As.blk g9 162 [.func (.func 87) #[] #[pg g5,pg g6]],As.blk g8 162 [.func (.func 85) #[] #[pg g5]],As.blk g7 160 [.func (.func 84) #[] #[pg g5,pg g6]],As.blk g6 159 [.func (.func 89) #[] #[pg g5,pg g10,pg g6]],As.blk g5 154 [pg gx],As.blk gx 158 (Lx.cells s ((DB s 258 1 (BK s lx0)).2))] w') CA ?_);have M:=M.drew;refine oa 0 12 X X (M.pk [0,1,2,3,4,5,6,7,8]) (λ_ M=>B8 (parts:=[]) X X (L7)) (ol 1 12 X X X (M.pk [0,1,2,3,4,5,6,7,8]) (λ_ M=>(M.cell 7 X X)) (oc 2 12 X X (M.pk [0,1,2,3,4,5,6,7,8]) (oc 3 12 X X (M.pk [0,1,2,3,4,5,6,7,8]) (ol 4 12 X X X (M.pk [0,1,2,3,4,5,6,7,8]) (λ_ M=>(M.cell 8 X X)) (ol 5 12 X X X (M.pk [0,1,2,3,4,5,6,7,8]) (λ_ M=>(M.cell 7 X X)) (oc 6 12 X X (M.pk [0,1,2,3,4,5,6,7,8]) (oc 7 12 X X (M.pk [0,1,2,3,4,5,6,7,8]) (ol 8 12 X X X (M.pk [0,1,2,3,4,5,6,7,8]) (λ_ M=>(M.cell 8 X X)) (B7 9 zx zr X kw X X (λρ hρ=>BZ 113 _ _ X g2 0 113 _ ([.int .u8 0,.int .u8 0,AA 0,.bool zy,str [],str [],.slice zx 0 0]) (hρ _ _ X) (hρ _ _ X) (M.blk 9 X) AU (CM X) (BN X)) ?_)))))))));rintro _ w23 ⟨rfl,hbw23,hfw23⟩
  replace M:Mem w AR (List.set _ 9 (As.blk g2 113 [.int .u8 0,.int .u8 0,AA 0,.bool zy,str [],str [],.slice zx 0 0])) w23:=M.putB 9 rfl hbw23 hfw23
  refine ⟨λ_=>(M.pk [0,1,2,3,4,5,6,7,8]),oc 10 12 X X (M.pk [0,1,2,3,4,5,6,7,8]) (oc 11 12 X X (M.pk [0,1,2,3,4,5,6,7,8]) (fdn (W ?_)))⟩;refine IH X X (M.rdBlk 9 X X) Bt X AU X X ?_;rw [fA h14p h33p h45p];exact ⟨zx,[],X,⟨X,X⟩,(λk hk=>absurd hk (by simp)),M.fr⟩
 have h45p:=(odt (BL h45));refine W ?_;refine CF M 0 X X Bt AU X (BX M 9 X X AU X λw24 M=>W ?_);refine IH X X (M.rdBlk 9 X X) Bt X AU X X ?_;rw [f9 h14p h33p h45p];exact ⟨_,_,X,M.ok 1 _ X,M.new0 1 X,M.fr⟩
end
section
theorem l7 {e:Env} {w:Kw} {o:Oper} {t':Nat} {x y:Lz} {a b:Vl} (ho:o.op=.binOp .neq 61 x y t') (hx:ev e x=G (.agg a.cells.toArray)) (hy:ev e y=G (.agg b.cells.toArray)):Y zv e o w (.bool (!(a.same b))):=λρ h=>by
 have h1:ρ x=.agg a.cells.toArray:=h _ _ hx;have h2:ρ y=.agg b.cells.toArray:=h _ _ hy;have hg:=run_eqGuard_agg (P:=zv) w .neq 61 x y a.cells.toArray b.cells.toArray UH
 have hrun:(Op.equalIn 10000 61 (.agg a.cells.toArray) (.agg b.cells.toArray)).run zv w=.ok (a.same b) w:=by
  rw [run_equalIn_struct w 9999 61 _ _ RH W4];have hl:(zv.fieldsOf 61).toList=(match zv.underlying 61 with|some (.struct fs)=>fs.toList|_=>[]):=by unfold Program.fieldsOf;rw [By]
  rw [hl,By]
  simp only
  rw [BG (a:=.int .u8 (a.kind.toNat:Int)) (b:=.int .u8 (b.kind.toNat:Int)) AV (BD (isAgg5 w) rfl) (BD (isAgg5 w) rfl) (run_equalIn_int w 9998 5 _ _ _ _ Bo),
   BG (a:=AA a.int) (b:=AA b.int) AV (BD (isAgg2 w) rfl) (BD (isAgg2 w) rfl) (run_equalIn_int w 9998 2 _ _ _ _ Hg),
   BG (a:=.bool a.bool) (b:=.bool b.bool) AV (BD (isAgg4 w) rfl) (BD (isAgg4 w) rfl) (run_equalIn_bool' w 9998 4 _ _ Eq),
   BG (a:=str a.text) (b:=str b.text) AV (BD (isAgg9 w) rfl) (BD (isAgg9 w) rfl) (run_equalIn_string w 9998 9 _ _ Ad)]
  have ht:((⟨a.text.toArray⟩:ByteArray).toList==(⟨b.text.toArray⟩:ByteArray).toList)=O (a.text=b.text):=by
   rw [ByteArray.toList_eq,ByteArray.toList_eq]
   by_cases h:a.text=b.text<;>simp [h]
  rw [ht];simp only [Op.eqFields,Sem.run_pure];unfold Vl.same
  by_cases h1:(a.kind.toNat:Int)=b.kind.toNat<;>by_cases h2:a.int=b.int<;>by_cases h3:a.bool=b.bool<;>by_cases h4:a.text=b.text<;>simp [h1,h2,h3,h4]
 unfold execOp;simp only [ho,h1,h2,Sem.run_bind,hg,Result.andThen_ok,run_neq_struct,hrun]
 rfl
def Xn.sm (k:Nat):Xn→Prop
 | .zero=>True
 | .lit v=>v.text.length≤k
 | .var s=>s.length≤k
 | .un _ a=>a.sm k
 | .bin _ a b=>a.sm k∧b.sm k
theorem Xn.sm_vl {k:Nat}:∀{n:Xn},n.sm k→n.vl.text.length≤k
 | .zero,_=>Aj _
 | .lit _,h=>h
 | .var _,_=>Aj _
 | .un _ _,_=>Aj _
 | .bin _ _ _,_=>Aj _
theorem Xn.sm_nm {k:Nat}:∀{n:Xn},n.sm k→n.nm.length≤k
 | .zero,_=>Aj _
 | .lit _,_=>Aj _
 | .var _,h=>h
 | .un _ _,_=>Aj _
 | .bin _ _ _,_=>Aj _
theorem a29 {m:Nat}:∀(l b:Kz) {b':Kz} {n:Nat},l.length≤m→qt b l=G (b',n)→b'.length≤b.length+l.length:=by
 induction m with
 | zero=>
  intro l b b' n hl h
  cases l with
  | nil=>cases h
  | cons c r=>simp at hl
 | succ m ih=>
  intro l b b' n hl h
  match l,h with
  | [c],h=>
   by_cases hc:(c.toNat:Int)=39
   ·rw [show qt b [c]=if (c.toNat:Int)=39 then G (b,0) else zx from rfl,Ac hc] at h
    cases h;simp
   rw [show qt b [c]=if (c.toNat:Int)=39 then G (b,0) else zx from rfl,Ae hc] at h
   cases h
  | c::d::r,h=>
   simp only [Al] at hl
   by_cases hc:(c.toNat:Int)=39
   ·by_cases hd:(d.toNat:Int)=39
    ·rw [qt,Ac hc,Ac hd] at h
     have:=ih r (b++[d]) A0 h
     simp only [Am,Al,Ay] at this ⊢;omega
    rw [qt,Ac hc,Ae hd] at h
    cases h;simp
   rw [qt,Ae hc] at h
   have:=ih (d::r) (b++[c]) (by simp only [Al];omega) h
   simp only [Am,Al,Ay] at this ⊢;omega
theorem rE {k:Nat} {l:Kz} {x:Lx} (hl:l.length≤k) (h:x.nd.sm k):(JU l x).nd.sm k:=by
 unfold JU
 split
 ·rename_i b n hq
  split
  ·have:=a29 (m:=l.tail.length) l.tail [] (Af _) hq
   simp only [List.length_tail,Ay] at this
   show b.length≤k
   omega
  rw [FD];exact h
 rw [FD];exact h
theorem a02 {k:Nat} {t:Kz} {x:Lx} (h:x.nd.sm k):(OY t x).nd.sm k:=by
 unfold OY
 split
 ·rw [FD];exact h
 split<;>exact Aj _
theorem qP {k:Nat} {t:Kz} {x:Lx} (hl:t.length≤k) (h:x.nd.sm k):(KH t x).nd.sm k:=by
 unfold KH
 repeat' split
 all_goals first
  | exact Aj _
  | exact h
  | (rw [FD];exact h)
  | exact hl
theorem uA {s r:Kz} {x:Lx} (hr:r.length≤s.length):(KP s r x).nd.sm s.length:=by
 unfold KP
 split
 ·trivial
 split
 ·exact a02 (x:=⟨_,.zero,_,_,_,_,_⟩) trivial
 split
 ·exact qP (x:=⟨_,.zero,_,_,_,_,_⟩) (by rw [Bs];omega) trivial
 split
 ·exact rE (x:=⟨_,.zero,_,_,_,_,_⟩) hr trivial
 split
 ·show (Lx.fail _ _ _).nd.sm s.length
  rw [FD];trivial
 trivial
theorem LW {s:Kz} {x:Lx}:(BK s x).nd.sm s.length:=uA (I4 _ _)
def FrS (s:Kz) (fr:Nat→Lx→Xn × Lx):Prop:=∀(line:Nat) (x:Lx),x.nd.sm s.length→(fr line x).1.sm s.length∧(fr line x).2.nd.sm s.length
section
variable {s:Kz} {fr:Nat→Lx→Xn × Lx}
theorem vW (h:FrS s fr) {line:Nat} {x:Lx} (hx:x.nd.sm s.length):(BW s fr line x).1.sm s.length∧(BW s fr line x).2.nd.sm s.length:=by
 unfold BW
 split
 ·exact h _ _ LW
 split
 ·exact h _ _ LW
 split
 ·exact ⟨(h _ _ LW).1,LW⟩
 exact ⟨hx,LW⟩
theorem mF (h:FrS s fr) (line:Nat):∀(k:Nat) (n:Xn) (x:Lx),n.sm s.length→x.nd.sm s.length→(EF s fr k line n x).1.sm s.length∧(EF s fr k line n x).2.nd.sm s.length
 | 0,_,_,hn,hx=>⟨hn,hx⟩
 | k+1,n,x,hn,hx=>by
  unfold EF
  split
  ·exact ⟨hn,hx⟩
  split
  ·exact ⟨hn,hx⟩
  have h1:=h (FT x.say+1) (BK s x) LW;refine mF h line k _ _ ⟨hn,h1.1⟩ ?_;unfold KI
  simp only
  split
  ·rw [FD];exact h1.2
  exact h1.2
theorem cE (s:Kz):∀f:Nat,FrS s (DB s f)
 | 0=>λ_ _ hx=>⟨zw,hx⟩
 | f+1=>λline x hx=>by
  unfold DB
  split
  ·exact ⟨zw,hx⟩
  have h1:=vW (cE s f) (line:=line) hx;exact mF (cE s f) line f _ _ h1.1 h1.2
end
theorem oE (s:Kz):(CT s).1.sm s.length:=by
 unfold CT
 split
 ·trivial
 simp only
 repeat' split
 all_goals first
  | exact (cE s 258 1 _ LW).1
  | trivial
def Xn.kids : Xn→List Xn
 | .un _ a=>[a]
 | .bin _ a b=>[a,b]
 | _=>[]
theorem Xn.ind {C:Xn→Prop} (h:∀n:Xn,(∀a∈n.kids,C a)→C n):∀n:Xn,C n
 | .zero=>h _ (λ_ hh=>by cases hh)
 | .lit _=>h _ (λ_ hh=>by cases hh)
 | .var _=>h _ (λ_ hh=>by cases hh)
 | .un o a=>
  have ha:=Xn.ind h a
  h (.un o a) (λx hx=>by simp only [Xn.kids,Au] at hx;subst hx;exact ha)
 | .bin o a b=>
  have ha:=Xn.ind h a;have hb:=Xn.ind h b
  h (.bin o a b) (λx hx=>by
   simp only [Xn.kids,Ao,Ba,or_false] at hx
   rcases hx with rfl|rfl
   ·exact ha
   exact hb)
theorem Xn.sm_kid {k:Nat}:∀{n a:Xn},n.sm k→a∈n.kids→a.sm k
 | .un _ _,_,h,hx=>by simp only [Xn.kids,Au] at hx;subst hx;exact h
 | .bin _ _ _,_,h,hx=>by
  simp only [Xn.kids,Ao,Ba,or_false] at hx
  rcases hx with rfl|rfl
  ·exact h.1
  exact h.2
def ndC (q:Xn × Ky):Kx:=q.1.cells q.2
theorem a0b (q:Xn × Ky):(ndC q).length=7:=rfl
theorem Xn.AtL.kids {t:Ly} {w:Kw}:∀{n:Xn} {A:Ky} {F:List Nat},n.AtL t w A F→∃L:List (Xn × Ky),L.map Prod.fst=n.kids∧L.length=n.nk∧Rd w A (L.length*7) (AF ndC L)∧∀q∈L,∃F',q.1.AtL t w q.2 F'
 | .zero,_,_,h=>⟨[],rfl,rfl,by rw [h.1];exact Rd.nil,λ_ hh=>by cases hh⟩
 | .lit _,_,_,h=>⟨[],rfl,rfl,by rw [h.1];exact Rd.nil,λ_ hh=>by cases hh⟩
 | .var _,_,_,h=>⟨[],rfl,rfl,by rw [h.1];exact Rd.nil,λ_ hh=>by cases hh⟩
 | .un _ a,_,_,⟨g,B,F',h1,_,h3,h4⟩=>⟨[(a,B)],rfl,rfl,by rw [h1];exact Rd.ofBlk h3 rfl,λq hq=>by
  simp only [Au] at hq;subst hq;exact ⟨_,h4⟩⟩
 | .bin _ a b,_,_,⟨g,B,C,F',F'',h1,_,h3,h4,h5⟩=>⟨[(a,B),(b,C)],rfl,rfl,by rw [h1];exact Rd.ofBlk h3 rfl,λq hq=>by
  simp only [Ao,Ba,or_false] at hq
  rcases hq with rfl|rfl
  ·exact ⟨_,h4⟩
  exact ⟨_,h5⟩⟩
theorem Xn.AtL.fr0 {t:Ly} {w w':Kw} {n:Xn} {A:Ky} {F:List Nat} (h:n.AtL t w A F) (hf:Fr0 w w'):n.AtL t w' A F:=h.keep (λg _ hg=>hf.block g hg (λhh=>hh))
theorem Xn.nk_le (n:Xn):n.nk≤2:=by cases n<;>simp [Xn.nk]
theorem GC {w w':Kw} {L:List (Nat × Kx)} (h:Laid w L) (hf:Fr0 w w'):Laid w' L:=λp hp=>by
 obtain ⟨el,fz,h1⟩:=h p hp;exact ⟨el,fz,(hf.block _ (Ar.1 h1).1 (λhh=>hh)).trans h1⟩
def Y5 (b:UInt8):Kx:=[.int .u8 (b.toNat:Int)]
theorem aH (b:UInt8):(Y5 b).length=1:=rfl
end
end
def AG : List El→Kz→Option El
 | [],_=>zx
 | x::r,k=>if x.id=k then G x else AG r k
def E5 (l:List Fl) (k:Kz):List Fl:=l.filter λf=>O (f.tg=k)
def BV (l:List Fl) (k:Kz):List Fl:=l.filter λf=>O (f.frm=k)
structure IxA where
 gE:Nat
 gI:Nat
 gO:Nat
 LE:List (Kz × Kv)
 LI:List (Kz × Kv)
 LO:List (Kz × Kv)
 iA:Kz→Ky
 iC:Kz→Nat
 oA:Kz→Ky
 oC:Kz→Nat
def Ix.cells (m:Md) (a:MdA) (x:IxA):Kx:=[str m.id,str m.nm,.slice a.V m.vars.length a.vc,.slice a.E m.els.length a.ec,.slice a.F m.fls.length a.fc,.map (G x.gE),.map (G x.gI),.map (G x.gO)]
def elV (x:El):Kv:=.agg x.cells.toArray
structure IxAt (w:Kw) (m:Md) (a:MdA) (x:IxA) (gx:Nat):Prop where
 md:MdIn w m a
 blk:Blk w gx 186 (Ix.cells m a x)
 E:Mp w x.gE x.LE
 I:Mp w x.gI x.LI
 O:Mp w x.gO x.LO
 getE:∀k,(CG x.LE k).getD (.agg zeroEl.cells.toArray)=.agg ((AG m.els k).getD zeroEl).cells.toArray
 isE:∀k,(CG x.LE k).isSome=(AG m.els k).isSome
 getI:∀k,(CG x.LI k).getD (.slice zx 0 0)=.slice (x.iA k) (E5 m.fls k).length (x.iC k)
 getO:∀k,(CG x.LO k).getD (.slice zx 0 0)=.slice (x.oA k) (BV m.fls k).length (x.oC k)
 rdI:∀k,Rd w (x.iA k) ((E5 m.fls k).length*4) (AF Fl.cells (E5 m.fls k))
 rdO:∀k,Rd w (x.oA k) ((BV m.fls k).length*4) (AF Fl.cells (BV m.fls k))
theorem IxAt.fr0 {w w':Kw} {m:Md} {a:MdA} {x:IxA} {gx:Nat} (h:IxAt w m a x gx) (hf:Fr0 w w'):IxAt w' m a x gx:=
 ⟨h.md.fr0 hf,h.blk.fr0 hf,h.E.fr hf (λhh=>hh),h.I.fr hf (λhh=>hh),h.O.fr hf (λhh=>hh),h.getE,h.isE,h.getI,h.getO,λk=>(h.rdI k).fr0 hf,λk=>(h.rdO k).fr0 hf⟩
theorem HT (l:List Fl) (k:Kz):(E5 l k).length≤l.length:=Dy _ _
theorem F4 (l:List Fl) (k:Kz):(BV l k).length≤l.length:=Dy _ _
theorem J7 {α:Type} {P:Lw} {f:FuncId} {cs:Kx} {av:α→Kv} {l:List α} {p:α→Bool} {w:Kw} (fn:∀(ar:Array Kv) (w:Kw),(callFunc f ar).run P w=.ok (.enter f ar) w)
 (h:∀x∈l,∀w1,Fr0 w w1→zt P f (av x::cs).toArray w1 λe w2=>e=.returned (.bool (p x))∧Fr0 w1 w2):PredJ P f cs av l (λ_=>p) AR (λ_ _=>True) w where
 fn:=fn
 call _ x w1 hx hf _:=(h x (Ah hx) w1 hf).mono λ_ _ ⟨h1,h2⟩=>⟨h1,zw,h2⟩
 st _ _ _ _ h:=h
 old _ h:=h.elim
theorem VW {e:Env} {w:Kw} {o:Oper} {x:Lz} {b:El} (ho:o.op=.field 106 x 2) (hx:ev e x=G (.agg b.cells.toArray)):Y zv e o w (.int .u8 (b.kind.toNat:Int)):=λρ h=>by
 unfold execOp
 simp [ho,h _ _ hx,Instr.field,run_underlying underlying106,asAgg,part,isAgg5,El.cells]
def El.same (a b:El):Bool:=O (a.id=b.id)&&(O (a.nm=b.nm)&&(O ((a.kind.toNat:Int)=(b.kind.toNat:Int))&&(O (a.inn=b.inn)&&(O (a.dflt=b.dflt)&&(O (a.att=b.att)&&(O ((a.ev.toNat:Int)=(b.ev.toNat:Int))&&(O (a.ref=b.ref)&&(O (a.key=b.key)&&(O (a.ticks=b.ticks)&&O (a.tries=b.tries))))))))))
theorem wJ : zv.eqGuardType zv.depth 106=zy:=zr
theorem a0H : zv.stoodInHeld 106=zy:=zr
theorem pT : zv.underlying 106=G (.struct (zv.fieldsOf 106)):=zr
theorem O5 {P:Lw} {w:Kw} {d:Nat} {xs ys:Array Kv}:(Op.eqFields d xs ys []).run P w=.ok zz w:=rfl
theorem FB {P:Lw} {w:Kw} {m:Sem Bool} {r s:Bool} (h:m.run P w=.ok s w):(if r=zz then m.run P w else .ok zy w)=.ok (r&&s) w:=by cases r<;>simp [h]
theorem iK {e:Env} {w:Kw} {o:Oper} {t':Nat} {x y:Lz} {a b:El} (ho:o.op=.binOp .eql 106 x y t') (hx:ev e x=G (.agg a.cells.toArray)) (hy:ev e y=G (.agg b.cells.toArray)):Y zv e o w (.bool (a.same b)):=λρ h=>by
 have h1:ρ x=.agg a.cells.toArray:=h _ _ hx;have h2:ρ y=.agg b.cells.toArray:=h _ _ hy;have hg:=run_eqGuard_agg (P:=zv) w .eql 106 x y a.cells.toArray b.cells.toArray wJ
 have s_:∀(u v:Kz),(Op.equalIn 9999 9 (str u) (str v)).run zv w=.ok (O (u=v)) w:=λu v=>by
  have:=run_equalIn_string (P:=zv) w 9998 9 ⟨u.toArray⟩ ⟨v.toArray⟩ Ad
  unfold str;rw [this,ByteArray.toList_eq,ByteArray.toList_eq]
  by_cases huv:u=v<;>simp [huv]
 have i_:∀(t:Nat) (k:IntKind) (u v:Int),zv.underlying t=G (.int k)→(Op.equalIn 9999 t (.int k u) (.int k v)).run zv w=.ok (O (u=v)) w:=λt k u v ht=>by
  have:=run_equalIn_int (P:=zv) w 9998 t k k u v ht
  rw [this];by_cases huv:u=v<;>simp [huv]
 have hrun:(Op.equalIn 10000 106 (.agg a.cells.toArray) (.agg b.cells.toArray)).run zv w=.ok (a.same b) w:=by
  rw [run_equalIn_struct w 9999 106 _ _ pT a0H];have hl:(zv.fieldsOf 106).toList=(match zv.underlying 106 with|some (.struct fs)=>fs.toList|_=>[]):=by unfold Program.fieldsOf;rw [Bk]
  rw [hl,Bk]
  simp only
  have S_:=isAgg9 w;have U_:=isAgg5 w;have N_:=isAgg3 w;rw [BG (a:=str a.id) (b:=str b.id) AV (BD S_ rfl) (BD S_ rfl) (s_ _ _)];refine FB ?_;rw [BG (a:=str a.nm) (b:=str b.nm) AV (BD S_ rfl) (BD S_ rfl) (s_ _ _)];refine FB ?_;rw [BG (a:=.int .u8 (a.kind.toNat:Int)) (b:=.int .u8 (b.kind.toNat:Int)) AV (BD U_ rfl) (BD U_ rfl) (i_ _ _ _ _ Bo)];refine FB ?_;rw [BG (a:=str a.inn) (b:=str b.inn) AV (BD S_ rfl) (BD S_ rfl) (s_ _ _)];refine FB ?_;rw [BG (a:=str a.dflt) (b:=str b.dflt) AV (BD S_ rfl) (BD S_ rfl) (s_ _ _)];refine FB ?_;rw [BG (a:=str a.att) (b:=str b.att) AV (BD S_ rfl) (BD S_ rfl) (s_ _ _)];refine FB ?_;rw [BG (a:=.int .u8 (a.ev.toNat:Int)) (b:=.int .u8 (b.ev.toNat:Int)) AV (BD U_ rfl) (BD U_ rfl) (i_ _ _ _ _ Bo)];refine FB ?_;rw [BG (a:=str a.ref) (b:=str b.ref) AV (BD S_ rfl) (BD S_ rfl) (s_ _ _)];refine FB ?_;rw [BG (a:=str a.key) (b:=str b.key) AV (BD S_ rfl) (BD S_ rfl) (s_ _ _)];refine FB ?_;rw [BG (a:=AA a.ticks) (b:=AA b.ticks) AV (BD N_ rfl) (BD N_ rfl) (i_ _ _ _ _ Bm)];refine FB ?_;rw [BG (a:=AA a.tries) (b:=AA b.tries) AV (BD N_ rfl) (BD N_ rfl) (i_ _ _ _ _ Bm)];rw [O5]
  cases O (a.tries=b.tries)<;>rfl
 unfold execOp;simp only [ho,h1,h2,Sem.run_bind,hg,Result.andThen_ok,run_eql_struct,hrun]
 rfl
theorem R3 {α:Type} {p:Nat→α→Bool} {l:List α} (h:ixJ (λi x => !(p i x)) 0 l<0):ffN p 0 l=zx:=by
 rcases bU p l 0 with ⟨_,h2⟩|⟨j,x,h1,_,_⟩
 ·exact h2
 rw [h1] at h;omega
theorem R4 {α:Type} {p:Nat→α→Bool} {l:List α} (h:¬ixJ (λi x => !(p i x)) 0 l<0):∃j x,ixJ (λi x => !(p i x)) 0 l=((j:Nat):Int)∧l[j]?=G x∧ffN p 0 l=G x:=by
 rcases bU p l 0 with ⟨h1,_⟩|⟨j,x,h1,h2,h3⟩
 ·rw [h1] at h;omega
 rw [Cr] at h1;exact ⟨j,x,h1,h2,h3⟩
theorem a3p (x:El) (w:Kw):zt zv 122 #[.agg x.cells.toArray] w (BR w (str x.id)):=by
 refine BO func122 ntmps122 X λM=>W ?_
 refine CU M X X λg1 w1 hg1 M=>W ?_
 exact gr1 X ⟨X,M.fr⟩
theorem a3o (x:Fl) (w:Kw):zt zv 125 #[.agg x.cells.toArray] w (BR w (str x.id)):=by
 refine BO func125 ntmps125 X λM=>W ?_
 refine CU M X X λg1 w1 hg1 M=>W ?_
 exact gr1 X ⟨X,M.fr⟩
theorem a3q (x:Bd) (w:Kw):zt zv 119 #[.agg x.cells.toArray] w (BR w (str x.name)):=by
 refine BO func119 ntmps119 X λM=>W ?_
 refine CU M X X λg1 w1 hg1 M=>W ?_
 exact gr1 X ⟨X,M.fr⟩
theorem a2A (x:Kz) (w:Kw):zt zv 134 #[str x] w (BR w (str x)):=by
 refine BO func134 ntmps134 X λM=>W ?_
 exact gr1 X ⟨X,M.fr⟩
theorem a2k (g:FuncId) (cs:Kx) (g5:Nat) (x:El) (b:Bool) (K:Kw→Prop) (w:Kw) (hb:Blk w g5 193 [.func (.func g) #[] cs.toArray]) (hfn:∀(ar:Array Kv) (w:Kw),(callFunc g ar).run zv w=.ok (.enter g ar) w)
 (hc:∀w3,Fr0 w w3→zt zv g (.agg x.cells.toArray::cs).toArray w3 λe w'=>e=.returned (.bool b)∧K w'):zt zv 181 #[.agg x.cells.toArray,pg g5] w λe w'=>e=.returned (.bool (!b))∧K w':=by
 refine BO func181 ntmps181 X λM=>W ?_
 refine CU M X X λg2 w1 hg2 M=>T5 ?_
 refine yl X X (Blk.c (hb.fr0 M.fr) 0 X) (CF M 0 X X Bk AM X (cl 6 X (C7 X X X hfn) (hc _ M.fr) ?_));rintro _ w9 ⟨rfl,hK⟩;refine cq (W ?_);exact gr1 X ⟨X,hK⟩
theorem a05 {l:List (El)} {g:FuncId} {cs:Kx} {p:Nat→El→Bool} {S:Nat→Prop} {J:Nat→Kw→Prop} {w w1:Kw} {g5:Nat} (hP:PredJ zv g cs (λx:El=>.agg x.cells.toArray) l p S J w) (hf:Fr0 w w1) (hg:w.heap.size≤g5) (hb:Blk w1 g5 193 [.func (.func g) #[] cs.toArray]) :
 PredJ zv 181 [pg g5] (λx:El=>.agg x.cells.toArray) l (λi x => !(p i x)) S J w1 where
 fn:=call181
 call i x w2 hx hf2 hJ:=by
  have hn:¬S g5:=λh=>by have:=hP.old g5 h;omega
  exact a2k g cs g5 x (p i x) (λw'=>J (i+1) w'∧Fr S w2 w') w2 (hb.fr hf2 hn) hP.fn λw3 hf3=>
   (hP.call i x w3 hx ((Fr.of0 hf).trans (hf2.then0 hf3)) (hP.st i w2 w3 hf3 hJ)).mono λ_ _ ⟨h1,h2,h3⟩=>⟨h1,h2,(Fr.of0 hf3).trans h3⟩
 st:=hP.st
 old s hs:=Ce (hP.old s hs) hf.size
theorem gL (A:Ky) (c:Nat) (l:List (El)) (hl:l.length≤4611686018427387904) (g:FuncId) (cs:Kx) (p:Nat→El→Bool) (S:Nat→Prop) (J:Nat→Kw→Prop) (w:Kw) (hP:PredJ zv g cs (λx:El=>.agg x.cells.toArray) l p S J w) (hR:∀w1,Fr S w w1→Rd w1 A (l.length*11) (AF El.cells l)) (hJ:J 0 w) :
 zt zv 121 #[.slice A l.length c,.func (.func 122) #[] #[],.func (.func g) #[] cs.toArray] w λe w'=>e=.returned (.tuple #[str ((ffN p 0 l).elim [] (λx=>x.id)),.bool (ffN p 0 l).isSome])∧J (ixN (λi x => !(p i x)) 0 l) w'∧Fr S w w':=by
 refine BO func121 ntmps121 X λM=>W ?_
 refine CZ M kw X X 193 X X ([.func (.func g) #[] cs.toArray]) X λg5 w1 hg5 M=>W ?_
 refine ya X (D8 (us:=[]) (vs:=[pg g5]) X X X) (cl 11 X (AE X X call180) (cA El.cells El.len A c l hl 181 [pg g5] (λi x => !(p i x)) S J _ (a05 hP M.fr hg5 (M.blk 0 X)) (λw9 hf9=>hR w9 ((Fr.of0 M.fr).trans hf9)) (hP.st 0 _ _ M.fr hJ)) ?_);rintro _ w9 ⟨rfl,hJ9,hf9⟩;refine cq ?_;have M:Mem w S [] w9:=Mem.ofFr ((Fr.of0 M.fr).trans hf9);refine W ?_;refine AC X (λh13=>?_) (λh13=>?_)
 ·have h13p:=odt h13;have hff:=R3 h13p;refine W ?_;exact B1 X X X ⟨by rw [hff];rfl,hJ9,M.fr⟩
 have h13p:=odf h13;obtain ⟨j,x,hj,hx,hff⟩:=R4 h13p;have hjl:j<l.length:=(An.1 hx).1;rw [hj];obtain ⟨b_x,o_x,hA_x⟩:=DR (k:=11) A0 (hR _ M.fr) hx;refine W ?_;refine ya X (AK j hA_x X X X (sl X) A0) (ya X (AJ X X (BF El.len (hR _ M.fr) hA_x hx) Bk X AM) (cl 19 X (C7 X X X call122) (a3p x _) ?_));rintro _ w10 ⟨rfl,hf10⟩;refine cq (W ?_);exact B1 X X X ⟨by rw [hff];rfl,hP.st _ _ _ hf10 hJ9,M.fr.then0 hf10⟩
theorem a2j (g:FuncId) (cs:Kx) (g5:Nat) (x:Fl) (b:Bool) (K:Kw→Prop) (w:Kw) (hb:Blk w g5 153 [.func (.func g) #[] cs.toArray]) (hfn:∀(ar:Array Kv) (w:Kw),(callFunc g ar).run zv w=.ok (.enter g ar) w)
 (hc:∀w3,Fr0 w w3→zt zv g (.agg x.cells.toArray::cs).toArray w3 λe w'=>e=.returned (.bool b)∧K w'):zt zv 183 #[.agg x.cells.toArray,pg g5] w λe w'=>e=.returned (.bool (!b))∧K w':=by
 refine BO func183 ntmps183 X λM=>W ?_
 refine CU M X X λg2 w1 hg2 M=>T5 ?_
 refine yl X X (Blk.c (hb.fr0 M.fr) 0 X) (CF M 0 X X Co BU X (cl 6 X (C7 X X X hfn) (hc _ M.fr) ?_));rintro _ w9 ⟨rfl,hK⟩;refine cq (W ?_);exact gr1 X ⟨X,hK⟩
theorem a04 {l:List (Fl)} {g:FuncId} {cs:Kx} {p:Nat→Fl→Bool} {S:Nat→Prop} {J:Nat→Kw→Prop} {w w1:Kw} {g5:Nat} (hP:PredJ zv g cs (λx:Fl=>.agg x.cells.toArray) l p S J w) (hf:Fr0 w w1) (hg:w.heap.size≤g5) (hb:Blk w1 g5 153 [.func (.func g) #[] cs.toArray]) :
 PredJ zv 183 [pg g5] (λx:Fl=>.agg x.cells.toArray) l (λi x => !(p i x)) S J w1 where
 fn:=call183
 call i x w2 hx hf2 hJ:=by
  have hn:¬S g5:=λh=>by have:=hP.old g5 h;omega
  exact a2j g cs g5 x (p i x) (λw'=>J (i+1) w'∧Fr S w2 w') w2 (hb.fr hf2 hn) hP.fn λw3 hf3=>
   (hP.call i x w3 hx ((Fr.of0 hf).trans (hf2.then0 hf3)) (hP.st i w2 w3 hf3 hJ)).mono λ_ _ ⟨h1,h2,h3⟩=>⟨h1,h2,(Fr.of0 hf3).trans h3⟩
 st:=hP.st
 old s hs:=Ce (hP.old s hs) hf.size
theorem gK (A:Ky) (c:Nat) (l:List (Fl)) (hl:l.length≤4611686018427387904) (g:FuncId) (cs:Kx) (p:Nat→Fl→Bool) (S:Nat→Prop) (J:Nat→Kw→Prop) (w:Kw) (hP:PredJ zv g cs (λx:Fl=>.agg x.cells.toArray) l p S J w) (hR:∀w1,Fr S w w1→Rd w1 A (l.length*4) (AF Fl.cells l)) (hJ:J 0 w) :
 zt zv 124 #[.slice A l.length c,.func (.func 125) #[] #[],.func (.func g) #[] cs.toArray] w λe w'=>e=.returned (.tuple #[str ((ffN p 0 l).elim [] (λx=>x.id)),.bool (ffN p 0 l).isSome])∧J (ixN (λi x => !(p i x)) 0 l) w'∧Fr S w w':=by
 refine BO func124 ntmps124 X λM=>W ?_
 refine CZ M kw X X 153 X X ([.func (.func g) #[] cs.toArray]) X λg5 w1 hg5 M=>W ?_
 refine ya X (D8 (us:=[]) (vs:=[pg g5]) X X X) (cl 11 X (AE X X call182) (mL Fl.cells Fl.len A c l hl 183 [pg g5] (λi x => !(p i x)) S J _ (a04 hP M.fr hg5 (M.blk 0 X)) (λw9 hf9=>hR w9 ((Fr.of0 M.fr).trans hf9)) (hP.st 0 _ _ M.fr hJ)) ?_);rintro _ w9 ⟨rfl,hJ9,hf9⟩;refine cq ?_;have M:Mem w S [] w9:=Mem.ofFr ((Fr.of0 M.fr).trans hf9);refine W ?_;refine AC X (λh13=>?_) (λh13=>?_)
 ·have h13p:=odt h13;have hff:=R3 h13p;refine W ?_;exact B1 X X X ⟨by rw [hff];rfl,hJ9,M.fr⟩
 have h13p:=odf h13;obtain ⟨j,x,hj,hx,hff⟩:=R4 h13p;have hjl:j<l.length:=(An.1 hx).1;rw [hj];obtain ⟨b_x,o_x,hA_x⟩:=DR (k:=4) A0 (hR _ M.fr) hx;refine W ?_;refine ya X (AK j hA_x X X X (sl X) A0) (ya X (AJ X X (BF Fl.len (hR _ M.fr) hA_x hx) Co X BU) (cl 19 X (C7 X X X call125) (a3o x _) ?_));rintro _ w10 ⟨rfl,hf10⟩;refine cq (W ?_);exact B1 X X X ⟨by rw [hff];rfl,hP.st _ _ _ hf10 hJ9,M.fr.then0 hf10⟩
theorem a2l (g:FuncId) (cs:Kx) (g5:Nat) (x:Bd) (b:Bool) (K:Kw→Prop) (w:Kw) (hb:Blk w g5 190 [.func (.func g) #[] cs.toArray]) (hfn:∀(ar:Array Kv) (w:Kw),(callFunc g ar).run zv w=.ok (.enter g ar) w)
 (hc:∀w3,Fr0 w w3→zt zv g (.agg x.cells.toArray::cs).toArray w3 λe w'=>e=.returned (.bool b)∧K w'):zt zv 179 #[.agg x.cells.toArray,pg g5] w λe w'=>e=.returned (.bool (!b))∧K w':=by
 refine BO func179 ntmps179 X λM=>W ?_
 refine CU M X X λg2 w1 hg2 M=>T5 ?_
 refine yl X X (Blk.c (hb.fr0 M.fr) 0 X) (CF M 0 X X Dt EW X (cl 6 X (C7 X X X hfn) (hc _ M.fr) ?_));rintro _ w9 ⟨rfl,hK⟩;refine cq (W ?_);exact gr1 X ⟨X,hK⟩
theorem a06 {l:List (Bd)} {g:FuncId} {cs:Kx} {p:Nat→Bd→Bool} {S:Nat→Prop} {J:Nat→Kw→Prop} {w w1:Kw} {g5:Nat} (hP:PredJ zv g cs (λx:Bd=>.agg x.cells.toArray) l p S J w) (hf:Fr0 w w1) (hg:w.heap.size≤g5) (hb:Blk w1 g5 190 [.func (.func g) #[] cs.toArray]) :
 PredJ zv 179 [pg g5] (λx:Bd=>.agg x.cells.toArray) l (λi x => !(p i x)) S J w1 where
 fn:=call179
 call i x w2 hx hf2 hJ:=by
  have hn:¬S g5:=λh=>by have:=hP.old g5 h;omega
  exact a2l g cs g5 x (p i x) (λw'=>J (i+1) w'∧Fr S w2 w') w2 (hb.fr hf2 hn) hP.fn λw3 hf3=>
   (hP.call i x w3 hx ((Fr.of0 hf).trans (hf2.then0 hf3)) (hP.st i w2 w3 hf3 hJ)).mono λ_ _ ⟨h1,h2,h3⟩=>⟨h1,h2,(Fr.of0 hf3).trans h3⟩
 st:=hP.st
 old s hs:=Ce (hP.old s hs) hf.size
theorem vY (A:Ky) (c:Nat) (l:List (Bd)) (hl:l.length≤4611686018427387904) (g:FuncId) (cs:Kx) (p:Nat→Bd→Bool) (S:Nat→Prop) (J:Nat→Kw→Prop) (w:Kw) (hP:PredJ zv g cs (λx:Bd=>.agg x.cells.toArray) l p S J w) (hR:∀w1,Fr S w w1→Rd w1 A (l.length*5) (AF Bd.cells l)) (hJ:J 0 w) :
 zt zv 118 #[.slice A l.length c,.func (.func 119) #[] #[],.func (.func g) #[] cs.toArray] w λe w'=>e=.returned (.tuple #[str ((ffN p 0 l).elim [] (λx=>x.name)),.bool (ffN p 0 l).isSome])∧J (ixN (λi x => !(p i x)) 0 l) w'∧Fr S w w':=by
 refine BO func118 ntmps118 X λM=>W ?_
 refine CZ M kw X X 190 X X ([.func (.func g) #[] cs.toArray]) X λg5 w1 hg5 M=>W ?_
 refine ya X (D8 (us:=[]) (vs:=[pg g5]) X X X) (cl 11 X (AE X X call178) (VM Bd.cells Bd.len A c l hl 179 [pg g5] (λi x => !(p i x)) S J _ (a06 hP M.fr hg5 (M.blk 0 X)) (λw9 hf9=>hR w9 ((Fr.of0 M.fr).trans hf9)) (hP.st 0 _ _ M.fr hJ)) ?_);rintro _ w9 ⟨rfl,hJ9,hf9⟩;refine cq ?_;have M:Mem w S [] w9:=Mem.ofFr ((Fr.of0 M.fr).trans hf9);refine W ?_;refine AC X (λh13=>?_) (λh13=>?_)
 ·have h13p:=odt h13;have hff:=R3 h13p;refine W ?_;exact B1 X X X ⟨by rw [hff];rfl,hJ9,M.fr⟩
 have h13p:=odf h13;obtain ⟨j,x,hj,hx,hff⟩:=R4 h13p;have hjl:j<l.length:=(An.1 hx).1;rw [hj];obtain ⟨b_x,o_x,hA_x⟩:=DR (k:=5) A0 (hR _ M.fr) hx;refine W ?_;refine ya X (AK j hA_x X X X (sl X) A0) (ya X (AJ X X (BF Bd.len (hR _ M.fr) hA_x hx) Dt X EW) (cl 19 X (C7 X X X call119) (a3q x _) ?_));rintro _ w10 ⟨rfl,hf10⟩;refine cq (W ?_);exact B1 X X X ⟨by rw [hff];rfl,hP.st _ _ _ hf10 hJ9,M.fr.then0 hf10⟩
theorem a03 (g:FuncId) (cs:Kx) (g5:Nat) (x:Kz) (b:Bool) (K:Kw→Prop) (w:Kw) (hb:Blk w g5 91 [.func (.func g) #[] cs.toArray]) (hfn:∀(ar:Array Kv) (w:Kw),(callFunc g ar).run zv w=.ok (.enter g ar) w)
 (hc:∀w3,Fr0 w w3→zt zv g (str x::cs).toArray w3 λe w'=>e=.returned (.bool b)∧K w'):zt zv 186 #[str x,pg g5] w λe w'=>e=.returned (.bool (!b))∧K w':=by
 refine BO func186 ntmps186 X λM=>T7 ?_
 refine yl X X (Blk.c (hb.fr0 M.fr) 0 X) (yb X (cl 6 X (C7 X X X hfn) (hc _ M.fr) ?_));rintro _ w9 ⟨rfl,hK⟩;refine cq (W ?_);exact gr1 X ⟨X,hK⟩
theorem u5 {l:List Kz} {g:FuncId} {cs:Kx} {p:Nat→Kz→Bool} {S:Nat→Prop} {J:Nat→Kw→Prop} {w w1:Kw} {g5:Nat} (hP:PredJ zv g cs str l p S J w) (hf:Fr0 w w1) (hg:w.heap.size≤g5) (hb:Blk w1 g5 91 [.func (.func g) #[] cs.toArray]) :
 PredJ zv 186 [pg g5] str l (λi x => !(p i x)) S J w1 where
 fn:=call186
 call i x w2 hx hf2 hJ:=by
  have hn:¬S g5:=λh=>by have:=hP.old g5 h;omega
  exact a03 g cs g5 x (p i x) (λw'=>J (i+1) w'∧Fr S w2 w') w2 (hb.fr hf2 hn) hP.fn λw3 hf3=>
   (hP.call i x w3 hx ((Fr.of0 hf).trans (hf2.then0 hf3)) (hP.st i w2 w3 hf3 hJ)).mono λ_ _ ⟨h1,h2,h3⟩=>⟨h1,h2,(Fr.of0 hf3).trans h3⟩
 st:=hP.st
 old s hs:=Ce (hP.old s hs) hf.size
theorem pP (A:Ky) (c:Nat) (l:List Kz) (hl:l.length≤4611686018427387904) (g:FuncId) (cs:Kx) (p:Nat→Kz→Bool) (S:Nat→Prop) (J:Nat→Kw→Prop) (w:Kw) (hP:PredJ zv g cs str l p S J w) (hR:∀w1,Fr S w w1→Rd w1 A (l.length*1) (AF BH l)) (hJ:J 0 w) :
 zt zv 133 #[.slice A l.length c,.func (.func 134) #[] #[],.func (.func g) #[] cs.toArray] w λe w'=>e=.returned (.tuple #[str ((ffN p 0 l).elim [] (λx=>x)),.bool (ffN p 0 l).isSome])∧J (ixN (λi x => !(p i x)) 0 l) w'∧Fr S w w':=by
 refine BO func133 ntmps133 X λM=>W ?_
 refine CZ M kw X X 91 X X ([.func (.func g) #[] cs.toArray]) X λg5 w1 hg5 M=>W ?_
 refine ya X (D8 (us:=[]) (vs:=[pg g5]) X X X) (cl 11 X (AE X X call185) (fU A c l hl 186 [pg g5] (λi x => !(p i x)) S J _ (u5 hP M.fr hg5 (M.blk 0 X)) (λw9 hf9=>hR w9 ((Fr.of0 M.fr).trans hf9)) (hP.st 0 _ _ M.fr hJ)) ?_);rintro _ w9 ⟨rfl,hJ9,hf9⟩;refine cq ?_;have M:Mem w S [] w9:=Mem.ofFr ((Fr.of0 M.fr).trans hf9);refine W ?_;refine AC X (λh13=>?_) (λh13=>?_)
 ·have h13p:=odt h13;have hff:=R3 h13p;refine W ?_;exact B1 X X X ⟨by rw [hff];rfl,hJ9,M.fr⟩
 have h13p:=odf h13;obtain ⟨j,x,hj,hx,hff⟩:=R4 h13p;have hjl:j<l.length:=(An.1 hx).1;rw [hj];obtain ⟨b_x,o_x,hA_x⟩:=DR (k:=1) A0 (hR _ M.fr) hx;refine W ?_;refine ya X (AK j hA_x X X X (sl X) A0) (yl X X (BC DN (hR _ M.fr) hA_x hx 0 X) (cl 19 X (C7 X X X call134) (a2A x _) ?_));rintro _ w10 ⟨rfl,hf10⟩;refine cq (W ?_);exact B1 X X X ⟨by rw [hff];rfl,hP.st _ _ _ hf10 hJ9,M.fr.then0 hf10⟩
end Go.Proofs.YtppmdnmjepkfaaaGreatDoor
