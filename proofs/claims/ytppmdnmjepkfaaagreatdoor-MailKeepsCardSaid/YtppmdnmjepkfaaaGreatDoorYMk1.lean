/- Lemmas. -/
import Derived.Test.YtppmdnmjepkfaaaGreatDoorYMl10
set_option maxHeartbeats 16000000
set_option maxRecDepth 100000
namespace Go.Proofs.YtppmdnmjepkfaaaGreatDoor
open Go.RowKit
open Tryz
open Decidable renaming decide→O
open Option renaming some→G,none→zx
open Bool renaming true→zz,false→zy
open True renaming intro→zw
open Go.Proofs.Tryz renaming prog→zv
open Go renaming Calls→zt,reachBytes→zu
open Go renaming Calls→zt
section
theorem uJ {m:Md} (hb:MdB m) (h:jT m=zz):MdOk m:=fL hb ((fO m)▸h)
def dR (x:Pq):Bool:=(((!(jT x.m)) || (!decide ((x.i.st.toNat:Int)=(1:Int)))) || (!(KY x.m x.i 2147483647 1099511627776)))
def U9 (q:Mq) (sg:Bool) (x:Pq) (u:Wt):Bool:=(((sg&&(O ((u.ev.toNat:Int)=(3:Int))))&&(O (u.nm=q.nm))) || (((((!sg)&&(O ((u.ev.toNat:Int)=(2:Int))))&&(O (u.nm=q.nm)))&&(O (u.key=q.key)))&&(O ((IZ x.m.vars q.vars)=(0:Int)))))
def Q0 (q:Mq) (sg:Bool) (x:Pq):List Wt→Kz
 | []=>[]
 | u::r=>if U9 q sg x u=zz then (if u.via=[] then Q0 q sg x r else u.via) else Q0 q sg x r
def SZ (q:Mq) (sg:Bool) (x:Pq) (t:Tk):Kz:=Q0 q sg x (GK x.m x.i.vars t).1
def LK (q:Mq) (sg:Bool) (x:Pq) (j:Nat):List Tk→List Ht→List Ht
 | [],hs=>hs
 | t::r,hs=>if SZ q sg x t=[] then LK q sg x j r hs else LK q sg x j r (VA hkey hs ⟨((j:Nat):Int),t.id,SZ q sg x t⟩)
def M5 (q:Mq) (sg:Bool):List Pq→Nat→List Ht→List Ht
 | [],_,hs=>hs
 | x::r,j,hs=>if dR x=zz then M5 q sg r (j+1) hs else M5 q sg r (j+1) (LK q sg x j x.i.toks hs)
theorem xS {q:Mq} {sg:Bool} {x:Pq} {ws:List Wt} {n:Nat} {v:Kz} (_hn:n≤ws.length) (hv:Q0 q sg x ws=if v=[] then Q0 q sg x (ws.drop n) else v) (h:¬(n:Int)<(ws.length:Int)∨¬v=[]):Q0 q sg x ws=v:=by
 rw [hv]
 split
 ·rename_i e
  rcases h with h|h
  ·rw [Ji A0,e];rfl
  exact absurd e h
 rfl
theorem tP {hs:List Ht} {t:Int} {p:Nat} (h:(0:Int)<(p:Int)∧t<Kf hkey hs (p-1)):L5 hkey hs t p=L5 hkey hs t (p-1):=by
 cases p with
 | zero=>exact absurd h.1 AV
 | succ p=>
  have h2:=h.2;rw [Nat.add_sub_cancel] at h2 ⊢
  rw [L5,Ac h2]
theorem zT {hs:List Ht} {t:Int} {p:Nat} (h:¬(0:Int)<(p:Int)∨¬t<Kf hkey hs (p-1)):L5 hkey hs t p=p:=by
 cases p with
 | zero=>rfl
 | succ p=>
  rcases h with h|h
  ·exact absurd A0 h
  rw [Nat.add_sub_cancel] at h
  rw [L5,Ae h]
theorem a1B {q:Mq} {sg:Bool} {x:Pq} {j k:Nat} {l:List Tk} {t:Tk} {hs hs2:List Ht} {v:Kz} (hE:LK q sg x j l hs=LK q sg x j (l.drop k) hs2) (ht:l[k]?=G t) (hv:SZ q sg x t=v) (h:v=[]):LK q sg x j l hs=LK q sg x j (l.drop (k+1)) hs2:=by
 rw [hE,AH ht,LK,Ac (hv.trans h)]
theorem yE {q:Mq} {sg:Bool} {x:Pq} {j k p:Nat} {l:List Tk} {t:Tk} {hs hs2:List Ht} {v:Kz} (hE:LK q sg x j l hs=LK q sg x j (l.drop k) hs2) (ht:l[k]?=G t) (hv:SZ q sg x t=v) (h:¬v=[]) (hp:L5 hkey hs2 t.id hs2.length=p):LK q sg x j l hs=LK q sg x j (l.drop (k+1)) ((hs2.take p++[(⟨(j:Int),t.id,v⟩:Ht)])++hs2.drop p):=by
 rw [hE,AH ht,LK,Ae (hv▸h),VA,hv,show hkey ⟨(j:Int),t.id,v⟩=t.id from rfl,hp,Cg,Hd]
theorem a0y {hs:List Ht} {ns:List Int} {p:Nat} {t v:_} {j:Int} (h:ns=hs.map hkey):(ns.take p++[t])++ns.drop p=((hs.take p++[(⟨j,t,v⟩:Ht)])++hs.drop p).map hkey:=by
 rw [h,Bu,Bu,List.map_take,List.map_drop];rfl
section
variable {w w0:Kw} {S:Nat→Prop} {L:List As}
theorem Mem.ownCap (M:Mem w0 S L w) (i:Nat) {base e size n c:Nat} {A:Ky} {xs:Kx} (hi:L[i]?=G (As.own base e size (.slice A n c) n xs)):n≤c:=by
 obtain ⟨A',cap,h,hle⟩:=DH (M.own i hi)
 injection h with _ _ h3
 rw [h3];exact hle
variable {α:Type} {cells:α→Kx} {k:Nat}
theorem WT (hk:∀x,(cells x).length=k) {A:Ky} {n:Nat} {L:List α} (h:Rd w A (L.length*k) (AF cells L)) (hn:n≤L.length):Rd w A (n*k) (AF cells (L.take n)):=by
 have e:AF cells L=AF cells (L.take n)++AF cells (L.drop n):=by rw [←AY,Dd]
 have hl:(AF cells (L.take n)).length=n*k:=by rw [I3 hk,Bs,Gf hn]
 have hle:=Ed k hn;refine ⟨hl,λh0=>?_⟩;obtain ⟨b,off,e1,hc⟩:=h.2 A0;refine ⟨b,off,e1,λj u hu=>hc j u ?_⟩;rw [e,Cv (An.1 hu).1];exact hu
theorem eG (hk:∀x,(cells x).length=k) {A:Ky} {n c:Nat} {L:List α} (h:Rd w A (L.length*k) (AF cells L)) (hn:n≤L.length) (hc:L.length≤c):Rd w (if c=n then A else A.map (λz=>z.add (n*k))) ((L.length-n)*k) (AF cells (L.drop n)):=by
 by_cases hnl:n=L.length
 ·rw [hnl,Gi,Ft,Aq];exact ⟨rfl,λh0=>absurd h0 A0⟩
 rw [Ae A0];have e:AF cells L=AF cells (L.take n)++AF cells (L.drop n):=by rw [←AY,Dd]
 have hl:(AF cells (L.take n)).length=n*k:=by rw [I3 hk,Bs,Gf hn]
 have hle:=Ed k (show L.length-n≤L.length by omega);refine ⟨by rw [I3 hk,Ch],λh0=>?_⟩;obtain ⟨b,off,e1,hc⟩:=h.2 A0;refine ⟨b,off+n*k,by rw [e1,Dn,Addr.add_mid],λj u hu=>?_⟩
 have:=hc (n*k+j) u (by rw [e,Ck A0,hl,Jb];exact hu)
 rwa [←Fp] at this
variable {P:Lw} {e:Env} {o:Oper}
theorem dC {t len cap sz el:Nat} {A:Ky} (k:Nat) {x i:Lz} (ho:o.op=.slice t x (G i) zx zx) (hx:ev e x=G (.slice A len cap)) (hi:ev e i=G (AA (k:Int))) (ht:F3 P t=G (el,sz)) (h:k≤len):Y P e o w (.slice (if cap=k then A else A.map (λz=>z.add (k*sz))) (len-k) (cap-k)):=by
 have:=dB (w:=w) ho hx hi ht A0
 rwa [Fb] at this
end
theorem M3 (a0:Int) (a1:Int) (a2:Kz):zv.built 82 [(0,AA a0),(1,AA a1),(2,str a2)]=G #[AA a0,AA a1,str a2]:=zr
theorem GW : (zv.info? 82).map (λi=>(i.zero,i.size,i.bytes))=G (G (.agg #[AA 0,AA 0,str []]),3,32):=zr
theorem OL : (zv.info? 82).map (λi=>(i.zero,i.size))=G (G (.agg #[AA 0,AA 0,str []]),3):=zr
theorem JJ : (zv.info? 50).map (·.size)=G 10:=zr
theorem NL : (zv.info? 50).map (·.zero)=G (G (.agg #[str [],str [],.slice zx 0 0,.slice zx 0 0,.slice zx 0 0,AA 0,str [],.int .u8 0,.slice zx 0 0,.slice zx 0 0])):=zr
theorem oD (A:Ky) (cp:Nat) (l:List Pq) (sg:Bool) (q:Mq) (w:Kw) (hP:Pqs w A l) (hbig:∀x∈l,x.i.toks.length≤300∧x.m.els.length≤300) (h8:l.length≤8) (hq:MqOk w q) :
 zt zv 7 #[.slice A l.length cp,.bool sg,.agg q.cells.toArray] w λe w'=>∃A' c',e=.returned (.slice A' (M5 q sg l 0 []).length c')∧w'.ownsRow w.heap.size 82 3 (.slice A' (M5 q sg l 0 []).length c') (M5 q sg l 0 []).length (AF Ht.cells (M5 q sg l 0 []))∧Fr0 w w':=by
 refine BO func7 ntmps7 X λM=>W ?_
 refine CZ M kw X X 25 X X (q.cells) X λg5 w1 hg5 M=>W ?_
 have M:=M.nilOwn 82 3;have M:=M.nilOwn 3 1;refine flp [5,1,0] (λze e wr mz=>∃(i:Nat) (hs:List Ht) (ns:List Int) (A7:Ky) (c7:Nat) (A8:Ky) (c8:Nat),e=(7,.slice A7 hs.length c7)::(8,.slice A8 ns.length c8)::(9,AA (i:Int))::ze∧Mem w AR [As.own w.heap.size 3 1 (.slice A8 ns.length c8) ns.length (AF XC ns),As.own w.heap.size 82 3 (.slice A7 hs.length c7) hs.length (AF Ht.cells hs),As.blk g5 25 q.cells] wr∧(i≤l.length)∧(M5 q sg l 0 []=M5 q sg (l.drop i) i hs)∧(ns=hs.map hkey)∧(hs.length≤i*300)∧mz=l.length-i) ⟨0,[],[],zx,0,zx,0,X,M,Aj _,X,X,Aj _,X⟩ ?_;rintro _ w2 _ ⟨i,hs,ns,A7,c7,A8,c8,rfl,M,hi,hE,hns,hl,rfl⟩;refine W ?_;refine AC X (λh24=>?_) (λh24=>?_)
 ·have h24p:=odt h24;refine W ?_;obtain ⟨x,_,_,hx,hA_x⟩:=ex5 (i:=i) ((hP.fr0 M.fr).rd);have hox:=hP.ok _ (Ah hx);have hb:=hox.b (hbig _ (Ah hx)).2;have hbt:=(hbig _ (Ah hx)).1;have hbv:=hox.vb;simp only [zu] at hbv
  refine ya X (AK i hA_x X X X (sl X) A0) (ya X (AJ X X (BF Pq.len ((hP.fr0 M.fr).rd) hA_x hx) Hw X JJ) (CE M X NL λg10 w3 hg10 M=>BX M 0 X X JJ X λw4 M=>W ?_));refine ya X (AJ (xs:=[str x.m.id,str x.m.nm,.slice x.a.V x.m.vars.length x.a.vc,.slice x.a.E x.m.els.length x.a.ec,.slice x.a.F x.m.fls.length x.a.fc]) X X (DO (M.blk 0 X) 0 5 X X) Ap X AO) (CQ M 33 X X call21 (zN x.m x.a _ hb (hox.fr0 M.fr).md) λw5 M=>W ?_);refine fvm M 5 [10,9,8,7,5,1,0] [(40,.bool ((!(jT x.m)) || (!decide ((x.i.st.toNat:Int)=1))))] ?_ (λk35=>?_)
  ·intro w6 M;refine yb X (fvm M 7 [10,9,8,7,5,1,0] [(48,.bool (((!(jT x.m)) || (!decide ((x.i.st.toNat:Int)=1))) || (!(KY x.m x.i 2147483647 1099511627776))))] ?_ (λk41=>?_))
   ·intro w7 M;refine W ?_;refine AC X (λh48=>?_) (λh48=>?_)
    ·have h48p:=bd h48;refine W ?_;refine fag ⟨i+1,hs,ns,A7,c7,A8,c8,X,(M.pk [1,2,3]),?_,?_,?_,?_,X⟩
     ·omega
     ·rw [hE,AH hx,M5,Ac (show dR x=zz from h48)]
     ·assumption
     omega
    have h48p:=bd h48;have ho:=uJ hb (BL (FL (FL h48).1).1);refine W ?_;refine flp [10,9,5,1,0] (λze e wr mz=>∃(k:Nat) (hs2:List Ht) (ns2:List Int) (A9:Ky) (c9:Nat) (B9:Ky) (d9:Nat),e=(7,.slice A9 hs2.length c9)::(8,.slice B9 ns2.length d9)::(11,AA (k:Int))::ze∧Mem w AR [As.blk g10 50 (Pq.cells x),As.own w.heap.size 3 1 (.slice B9 ns2.length d9) ns2.length (AF XC ns2),As.own w.heap.size 82 3 (.slice A9 hs2.length c9) hs2.length (AF Ht.cells hs2),As.blk g5 25 q.cells] wr∧(k≤x.i.toks.length)∧(LK q sg x i x.i.toks hs=LK q sg x i (x.i.toks.drop k) hs2)∧(ns2=hs2.map hkey)∧(hs2.length≤hs.length+k)∧mz=x.i.toks.length-k) ⟨0,hs,ns,A7,c7,A8,c8,X,M,Aj _,X,hns,Af _,X⟩ ?_;rintro _ w8 _ ⟨k,hs2,ns2,A9,c9,B9,d9,rfl,M,hk,hE2,hns2,hl2,rfl⟩;refine W ?_;refine AC X (λh54=>?_) (λh54=>?_)
    ·have h54p:=odt h54;refine W ?_;obtain ⟨t,_,_,ht,hA_t⟩:=ex5 (l:=x.i.toks) (k:=9) (i:=k) ((((hP.ok _ (Ah hx))).fr0 M.fr).T);refine ya X (AK k hA_t X X X (sl X) A0) (ya X (AJ X X (BF Tk.len ((((hP.ok _ (Ah hx))).fr0 M.fr).T) hA_t ht) Bw X BE) (CE M X HX λg12 w9 hg12 M=>BX M 0 X X BE X λw10 M=>W ?_));refine ya X (AJ (xs:=[str x.m.id,str x.m.nm,.slice x.a.V x.m.vars.length x.a.vc,.slice x.a.E x.m.els.length x.a.ec,.slice x.a.F x.m.fls.length x.a.fc]) X X (DO (M.blk 1 X) 0 5 X X) Ap X AO) (W ?_);refine CF M 0 X X Bw BE X (cl 70 X (AE X X call23) (o7 x.m x.a x.i.vars x.V x.vc t _ ho (hox.fr0 M.fr).md A0 (hox.fr0 M.fr).V) ?_);rintro _ w11 ⟨Aw,cw,rfl,how,hfw11⟩;refine cq ?_;have M:=M.pushOwn hfw11 (Af _) how;have hwl:=M.ownLen 0 X;obtain ⟨ws,hws⟩:∃ws,ws=(GK x.m x.i.vars t).1:=⟨_,X⟩
     rw [←hws] at M hwl ⊢
     refine W ?_;refine EC M [13,12,11,10,9,8,7,5,1,0] (λze zF e wr mz=>∃(n:Nat) (v:Kz),e=(15,str v)::(16,AA (n:Int))::ze∧zF wr∧(n≤ws.length)∧(Q0 q sg x ws=if v=[] then Q0 q sg x (ws.drop n) else v)∧mz=ws.length-n) ⟨0,[],X,M,Aj _,(Ac X).symm,X⟩ ?_;rintro _ w12 _ ⟨n,v,rfl,M,hn,hv,rfl⟩;refine W ?_;refine fvm M 3 [16,15,13,12,11,10,9,8,7,5,1,0] [(80,.bool ((O ((n:Int)<(ws.length:Int)))&&(O (v=[]))))] ?_ (λk77=>?_)
     ·intro w13 M;refine W ?_;refine AC X (λh80=>?_) (λh80=>?_)
      ·have h80p:=bd h80;obtain ⟨u,_,_,hu,hA_u⟩:=ex5 (l:=ws) (k:=5) (i:=n) (M.rdOwn 0 X);refine W ?_;refine ya X (AK n hA_u X X X (sl X) A0) (ya X (AJ X X (BF Wt.len (M.rdOwn 0 X) hA_u hu) Dj X CB) (CE M X KF λg17 w14 hg17 M=>BX M 0 X X CB X λw15 M=>W ?_));refine fvm M 4 [17,16,15,13,12,11,10,9,8,7,5,1,0] [(92,.bool (sg&&(O ((u.ev.toNat:Int)=3))))] ?_ (λk88=>?_)
       ·intro w16 M;refine yb X (fvm M 6 [17,16,15,13,12,11,10,9,8,7,5,1,0] [(99,.bool ((sg&&(O ((u.ev.toNat:Int)=3)))&&(O (u.nm=q.nm))))] ?_ (λk93=>?_))
        ·intro w17 M;refine yb X (fvm M 30 [17,16,15,13,12,11,10,9,8,7,5,1,0] [(130,.bool (((sg&&(O ((u.ev.toNat:Int)=3)))&&(O (u.nm=q.nm))) || (((((!sg)&&(O ((u.ev.toNat:Int)=2)))&&(O (u.nm=q.nm)))&&(O (u.key=q.key)))&&(O ((IZ x.m.vars q.vars)=(0:Int))))))] ?_ (λk100=>?_))
         ·intro w18 M;refine W ?_;refine AC X (λh130=>?_) (λh130=>?_)
          ·have h130p:=bd h130;refine W ?_;refine fag ⟨n+1,u.via,X,(M.pk [1,2,3,4,5,6]),?_,?_,X⟩
           ·omega
           rw [hv,Ac h80p.2,AH hu,Q0,Ac (show U9 q sg x u=zz from h130)]
          have h130p:=bd h130;refine W ?_;refine fag ⟨n+1,v,X,(M.pk [1,2,3,4,5,6]),?_,?_,X⟩
          ·omega
          rw [hv,Ac h80p.2,Ac h80p.2,AH hu,Q0,Ae (V8 (show U9 q sg x u=zy from h130))]
         refine A1 (d:=100) X (λh100=>?_) (λh100=>?_)
         ·refine yo X (yo X (yo X (CW X X X X X (CW X X X X X (CW X X X X X (yo X (yo X ?_)))))));iterate 5 refine CW X X X X X ?_
          refine yo X (yo X ?_);iterate 5 refine CW X X X X X ?_
          refine yo X (yo X ?_);iterate 6 refine CW X X X X X ?_
          exact yo X (yb X (k100 M))
         have h100p:=bd h100;refine W ?_;refine fvm M 4 [100,17,16,15,13,12,11,10,9,8,7,5,1,0] [(107,.bool ((!sg)&&(O ((u.ev.toNat:Int)=2))))] ?_ (λk103=>?_)
         ·intro w19 M;refine gyq X (fvm M 6 [100,17,16,15,13,12,11,10,9,8,7,5,1,0] [(114,.bool (((!sg)&&(O ((u.ev.toNat:Int)=2)))&&(O (u.nm=q.nm))))] ?_ (λk108=>?_))
          ·intro w20 M;refine gyq X (fvm M 6 [100,17,16,15,13,12,11,10,9,8,7,5,1,0] [(121,.bool ((((!sg)&&(O ((u.ev.toNat:Int)=2)))&&(O (u.nm=q.nm)))&&(O (u.key=q.key))))] ?_ (λk115=>?_))
           ·intro w21 M;refine gyq X (fvm M 7 [100,17,16,15,13,12,11,10,9,8,7,5,1,0] [(129,.bool (((((!sg)&&(O ((u.ev.toNat:Int)=2)))&&(O (u.nm=q.nm)))&&(O (u.key=q.key)))&&(O ((IZ x.m.vars q.vars)=(0:Int)))))] ?_ (λk122=>?_))
            ·intro w22 M;exact yb X (k100 M)
            refine A1 (d:=122) X (λh122=>?_) (λh122=>?_)
            ·refine gyq X (yd X (AJ (xs:=[str x.m.id,str x.m.nm,.slice x.a.V x.m.vars.length x.a.vc,.slice x.a.E x.m.els.length x.a.ec,.slice x.a.F x.m.fls.length x.a.fc]) X X (DO (M.blk 3 X) 0 5 X X) Ap X AO) (W ?_));refine sxl_call (G 127) kw X X (AE X X call24) (o1 x.m.id x.m.nm x.a.V q.V x.a.vc q.vc (.slice x.a.E x.m.els.length x.a.ec) (.slice x.a.F x.m.fls.length x.a.fc) x.m.vars q.vars _ hox.str.vars hq.ok (hox.fr0 M.fr).md.vars (hq.fr0 M.fr).V) ?_;rintro _ w23 ⟨rfl,hfw23⟩;refine cq ?_;have M:=M.step hfw23;refine T2 ?_;exact k122 M
            have h122p:=bd h122;refine T7 ?_;exact k122 M
           refine A1 (d:=115) X (λh115=>?_) (λh115=>?_)
           ·refine T6 ?_;exact k115 M
           have h115p:=bd h115;refine T6 ?_;exact k115 M
          refine A1 (d:=108) X (λh108=>?_) (λh108=>?_)
          ·refine T6 ?_;exact k108 M
          have h108p:=bd h108;refine T6 ?_;exact k108 M
         refine A1 (d:=103) X (λh103=>?_) (λh103=>?_)
         ·refine T4 ?_;exact k103 M
         refine T4 ?_;exact k103 M
        refine A1 (d:=93) X (λh93=>?_) (λh93=>?_)
        ·refine T6 ?_;exact k93 M
        have h93p:=bd h93;refine T6 ?_;exact k93 M
       refine A1 (d:=88) X (λh88=>?_) (λh88=>?_)
       ·refine T4 ?_;exact k88 M
       refine T4 ?_;exact k88 M
      have h80p:=bd h80;refine W ?_;have hvR:SZ q sg x t=v:=by rw [SZ,←hws];exact xS hn hv h80p
      refine W ?_;refine AC X (λh134=>?_) (λh134=>?_)
      ·have h134p:=odt h134;refine W ?_;refine fag ⟨k+1,hs2,ns2,A9,c9,B9,d9,X,(M.pk [2,3,4,5]),?_,?_,?_,?_,X⟩
       ·omega
       ·exact a1B hE2 ht hvR h134p
       ·assumption
       omega
      have h134p:=odf h134;refine W ?_;have hnl:ns2.length=hs2.length:=by rw [hns2,Br]
      refine EC M [15,12,11,10,9,8,7,5,1,0] (λze zF e wr mz=>∃(p:Nat),e=(18,AA (p:Int))::ze∧zF wr∧(p≤hs2.length)∧(L5 hkey hs2 t.id hs2.length=L5 hkey hs2 t.id p)∧mz=p+1) ⟨hs2.length,X,M,Af _,X,X⟩ ?_;rintro _ w24 _ ⟨p,rfl,M,hp,hpo,rfl⟩;refine W ?_;refine CY CA zr ?_;have M:=M.drew;refine W ?_;refine fvs 9 [18,15,12,11,10,9,8,7,5,1,0] [(148,.bool ((O (0<(p:Int)))&&(O (t.id<(Kf hkey hs2 (p-1))))))] ?_ (λk139=>?_)
      ·refine W ?_;refine AC X (λh148=>?_) (λh148=>?_)
       ·have h148p:=bd h148;refine W ?_;refine ya X (ER (a:=p) (b:=1) X X X A0 A0) (W ?_);refine fag ⟨p-1,X,M,?_,?_,X⟩
        ·omega
        exact hpo.trans (tP h148p)
       have h148p:=bd h148;refine W ?_;have hpE:=hpo.trans (zT h148p);refine W ?_;have hcp154:=M.ownCap 4 X;refine ya X (qJ p X X X (sl X) A0) ?_;have M:=M.nilOwn 82 3;refine CD (len':=(hs2.take p).length) (xs':=AF Ht.cells (hs2.take p)) M 0 kw X X X X X X ((WT Ht.len (M.rdOwn 5 X) A0)) Hx GW X AV (D5 Ht.cells_one) (Af _) (Af _) D4 (by unfold maxLen;first|omega|(simp;omega)) (by first|(simp;done)|(simp;omega)) (by first|exact (AY _ _ _).symm|rfl|simp [AF,Ht.cells]) λA155 c155 w25 M=>W ?_
       refine ya X (B8 (parts:=[(0,_),(1,_),(2,_)]) X X (M3 _ _ _)) (CP M kw X X [.agg #[AA (i:Int),AA t.id,str v]] ([AA (i:Int),AA t.id,str v]) X X X X Hx OL X X (FZ X) X λg162 w26 hg162 M=>CD (len':=((hs2.take p)++[(⟨(i:Int),t.id,v⟩:Ht)]).length) (xs':=AF Ht.cells ((hs2.take p)++[(⟨(i:Int),t.id,v⟩:Ht)])) M 1 kw X X X X X X (M.rdBlk 0 X X) Hx GW X AV (BN X) (Af _) (Af _) D4 (by unfold maxLen;first|omega|(simp;omega)) (by first|(simp;done)|(simp;omega)) (by first|exact (AY _ _ _).symm|rfl|simp [AF,Ht.cells]) λA163 c163 w27 M=>W ?_);have hcp167:=M.ownCap 6 X;refine ya X (dC p X X X (sl X) A0) (CD (len':=(((hs2.take p)++[(⟨(i:Int),t.id,v⟩:Ht)])++(hs2.drop p)).length) (xs':=AF Ht.cells (((hs2.take p)++[(⟨(i:Int),t.id,v⟩:Ht)])++(hs2.drop p))) M 1 kw X X X X X X ((eG Ht.len (M.rdOwn 6 X) A0 A0)) Hx GW X AV (D5 Ht.cells_one) (Af _) (Af _) D4 (by unfold maxLen;first|omega|(simp;omega)) (by first|(simp;done)|(simp;omega)) (by first|exact (AY _ _ _).symm|rfl|simp [AF,Ht.cells]) λA168 c168 w28 M=>W ?_);have hcp172:=M.ownCap 5 X;refine ya X (qJ p X X X (sl X) A0) ?_;have M:=M.nilOwn 3 1;refine CD (len':=(ns2.take p).length) (xs':=AF XC (ns2.take p)) M 0 kw X X X X X X ((WT XB (M.rdOwn 6 X) A0)) Hv XF X AV (D5 fR) (Af _) (Af _) D4 (by unfold maxLen;first|omega|(simp;omega)) (by first|(simp;done)|(simp;omega)) (by first|exact (AY _ _ _).symm|rfl|simp [AF,XC]) λA173 c173 w29 M=>W ?_
       refine CP M kw X X [AA t.id] ([AA t.id]) X X X X Hv a0s X X (FZ X) X λg177 w30 hg177 M=>CD (len':=((ns2.take p)++[t.id]).length) (xs':=AF XC ((ns2.take p)++[t.id])) M 1 kw X X X X X X (M.rdBlk 0 X X) Hv XF X AV (BN X) (Af _) (Af _) D4 (by unfold maxLen;first|omega|(simp;omega)) (by first|(simp;done)|(simp;omega)) (by first|exact (AY _ _ _).symm|rfl|simp [AF,XC]) λA178 c178 w31 M=>W ?_
       have hcp182:=M.ownCap 7 X;refine ya X (dC p X X X (sl X) A0) (CD (len':=(((ns2.take p)++[t.id])++(ns2.drop p)).length) (xs':=AF XC (((ns2.take p)++[t.id])++(ns2.drop p))) M 1 kw X X X X X X ((eG XB (M.rdOwn 7 X) A0 A0)) Hv XF X AV (D5 fR) (Af _) (Af _) D4 (by unfold maxLen;first|omega|(simp;omega)) (by first|(simp;done)|(simp;omega)) (by first|exact (AY _ _ _).symm|rfl|simp [AF,XC]) λA183 c183 w32 M=>W ?_);refine fag ⟨k+1,((hs2.take p)++[(⟨(i:Int),t.id,v⟩:Ht)])++(hs2.drop p),((ns2.take p)++[t.id])++(ns2.drop p),A168,c168,A183,c183,X,(M.pk [6,1,3,9]),?_,?_,?_,?_,X⟩
       ·omega
       ·exact yE hE2 ht hvR h134p hpE
       ·exact a0y hns2
       simp;omega
      refine C3 (d:=139) X (λh139=>?_) (λh139=>?_)
      ·have h139p:=odt h139;refine W ?_;refine gsg X (ER (a:=p) (b:=1) X X X A0 A0) ?_;obtain ⟨z,_,_,hz,hA_z⟩:=ex5 (l:=ns2) (k:=1) (i:=p-1) (M.rdOwn 3 X);refine gsg X (AK (p-1) hA_z X X X (sl X) A0) ?_;have hkd:Kf hkey hs2 (p-1)=z:=by unfold Kf;rw [←Cb,←hns2,hz];rfl
       refine gsg X (B3 X X (sc X) (hkd▸BC XB (M.rdOwn 3 X) hA_z hz 0 X)) (T4 ?_);exact k139 _ ⟨X,X,X,X,X,X,X,X,X,X,X,(by rw [h139];rfl),zw⟩
      refine T9 ?_;exact k139 _ ⟨X,X,X,X,X,X,X,X,X,X,X,(by rw [h139];rfl),zw⟩
     refine A1 (d:=77) X (λh77=>?_) (λh77=>?_)
     ·refine T3 ?_;exact k77 M
     refine T3 ?_;exact k77 M
    have h54p:=odf h54;refine W ?_;obtain rfl:k=x.i.toks.length:=A0
    have hT:LK q sg x i x.i.toks hs=hs2:=by rw [hE2,Aq,LK]
    refine W ?_;refine fag ⟨i+1,hs2,ns2,A9,c9,B9,d9,X,(M.pk [1,2,3]),?_,?_,?_,?_,X⟩
    ·omega
    ·rw [hE,AH hx,M5,Ae (V8 (show dR x=zy from h48)),hT]
    ·assumption
    omega
   refine A1 (d:=41) X (λh41=>?_) (λh41=>?_)
   ·have h41p:=bd h41;refine T7 ?_;exact k41 M
   have h41p:=bd h41;refine gyq X (yd X (AJ (xs:=[str x.m.id,str x.m.nm,.slice x.a.V x.m.vars.length x.a.vc,.slice x.a.E x.m.els.length x.a.ec,.slice x.a.F x.m.fls.length x.a.fc]) X X (DO (M.blk 0 X) 0 5 X X) Ap X AO) (gyq X (yd X (AJ (xs:=[AA x.i.id,str x.i.mdl,.int .u8 (x.i.st.toNat:Int),.slice x.V x.i.vars.length x.vc,.slice x.T x.i.toks.length x.tc]) X X (DO (M.blk 0 X) 5 5 X X) Ew X EN) (sxl_call (G 46) kw X X (AE X X call22) (eR x.m x.a x.i x.V x.T x.vc x.tc 2147483647 1099511627776 _ (uJ hb (BL (FL h41).1)) (hox.fr0 M.fr).md ⟨by decide,by decide⟩ A0 hox.bd hox.wk (hox.fr0 M.fr).V (hox.fr0 M.fr).T) ?_))));rintro _ w33 ⟨rfl,hfw33⟩;refine cq ?_;have M:=M.step hfw33;refine T2 ?_;exact k41 M
  refine A1 (d:=35) X (λh35=>?_) (λh35=>?_)
  ·refine T5 ?_;exact k35 M
  refine T5 ?_;exact k35 M
 have h24p:=odf h24;refine W ?_;obtain rfl:i=l.length:=A0
 rw [Aq,M5] at hE
 refine W ?_;refine gr1 X ?_;rw [hE];exact ⟨A7,c7,X,M.own 1 X,M.fr⟩
end
section
theorem gD {α β:Type} {f g:α→Option β}:∀{l:List α},(∀x∈l,f x=g x)→l.filterMap f=l.filterMap g
 | [],_=>rfl
 | x::r,h=>by rw [Hm,Hm,h x Bi,gD λy hy=>h y (Ax _ hy)]
def unP (ap:Pa→Wt→Bool):List Pa→Nat→List Ht
 | [],_=>[]
 | x::r,j=>(JZ x j).filterMap (M9 ap x)++unP ap r (j+1)
theorem qZ (ap:Pa→Wt→Bool):∀(l pre:List Pa),(HO l pre.length).filterMap (λs=>((pre++l)[s.pl.toNat]?).bind λx=>M9 ap x s)=unP ap l pre.length
 | [],_=>rfl
 | x::r,pre=>by
  have ih:=qZ ap r (pre++[x]);rw [Am,He,Cg,Hd] at ih
  rw [HO,Hf,ih,unP]
  congr 1
  refine gD λs hs=>?_
  unfold JZ at hs
  split at hs
  ·obtain ⟨t,_,rfl⟩:=Cq.1 hs
   show ((pre++x::r)[((pre.length:Int)).toNat]?).bind _=_
   rw [Fb,Ck (Af _),Gi];rfl
  cases hs
theorem a1t (ap:Pa→Wt→Bool) (l:List Pa):a1u l ap=unP ap l 0:=qZ ap l []
theorem rZ {w:Kw} {x:Pa} {y:Pq} (hx:PaOk w x) (hm:y.m=x.m) (hi:y.i=x.i) (hs:x.p.isSome=HC x.m):dR y = !runP x:=by
 unfold dR runP;rw [hm,hi,hs,fO]
 cases hn:HC x.m with
 | false=>rfl
 | true=>
  rcases hx.cr with h|⟨gc,h,hC,_,_⟩
  ·rw [h,hn] at hs;cases hs
  rw [oZ (sT hn) hC.cz]
  generalize IE x.m x.c x.i 2147483647 1099511627776=b
  generalize O ((x.i.st.toNat:Int)=1)=d
  cases b<;>cases d<;>rfl
theorem dJ {q:Mq} {sg:Bool} {y:Pq} {ap:Wt→Bool}:∀{ws:List Wt},(∀u∈ws,u.via≠[])→(∀u,U9 q sg y u=ap u)→Q0 q sg y ws=((ws.find? ap).map (λu=>u.via)).getD []
 | [],_,_=>rfl
 | u::r,h,ha=>by
  rw [Q0,List.find?_cons,ha u]
  cases ap u with
  | true=>rw [Ac rfl,Ae (h u Bi)];rfl
  | false=>rw [Ae Gm];exact dJ (λv hv=>h v (Ax _ hv)) ha
theorem a0B {w:Kw} {x:Pa} {y:Pq} (hx:PaOk w x) (hr:runP x=zz) (hm:y.m=x.m) (hi:y.i=x.i) {q:Mq} {sg:Bool} {ap:Pa→Wt→Bool} (ha:∀u,U9 q sg y u=ap x u) {t:Tk} (ht:t∈x.i.toks) (j:Nat) :
 M9 ap x ⟨(j:Int),t⟩=if SZ q sg y t=[] then zx else G ⟨(j:Int),t.id,SZ q sg y t⟩:=by
 obtain ⟨gc,_,hC,hn,_⟩:=OT hx hr;have R:=sT hn;have Z:=hC.cz;have hck:=yX hr;have hv:=(i7 hck).1.2.2.2.2.2;have hp:=((i7 hck).2 _ ht).1
 have hne:∀u∈(DE x.m x.c t x.i.vars).1,u.via≠[]:=λu hu=>by
  have h1:u.via∈EE x.m x.c t:=by
   rw [←(qT R Z hv hp).2];exact Ei hu
  obtain ⟨_,z,hz,he,_⟩:=W2 R Z (.inl h1);rw [←he];intro h
  have:=R.elN z hz
  rw [h] at this;cases this
 have hV:SZ q sg y t=(((DE x.m x.c t x.i.vars).1.find? (ap x)).map (λu=>u.via)).getD []:=by
  unfold SZ;rw [hm,hi,iL R Z];exact dJ hne ha
 rw [hV];unfold M9
 split
 ·cases hf:(DE x.m x.c t x.i.vars).1.find? (ap x) with
  | none=>rfl
  | some u=>rw [Dn,Dn,Df,Ae (hne u (List.mem_of_find?_eq_some hf))]
 rename_i h2
 have:(DE x.m x.c t x.i.vars).1=[]:=by
  unfold DE at h2 ⊢
  split
  ·rfl
  rename_i h3
  rw [Ae h3] at h2
  split
  ·rfl
  rename_i h4
  rw [h4] at h2
  exact absurd X h2
 rw [this];rfl
theorem W7 {w:Kw} {x:Pa} {y:Pq} (hx:PaOk w x) (hr:runP x=zz) (hm:y.m=x.m) (hi:y.i=x.i) {q:Mq} {sg:Bool} {ap:Pa→Wt→Bool} (ha:∀u,U9 q sg y u=ap x u) (j:Nat):∀(ts:List Tk) (hs:List Ht),(∀t∈ts,t∈x.i.toks)→LK q sg y j ts hs=((ts.map (λt=>(⟨(j:Int),t⟩:St))).filterMap (M9 ap x)).foldl (VA hkey) hs
 | [],_,_=>rfl
 | t::r,hs,h=>by
  have e:=a0B hx hr hm hi ha (h t Bi) j;rw [LK,Cc]
  by_cases hv:SZ q sg y t=[]
  ·rw [Ac hv] at e
   rw [Ac hv,Gr e];exact W7 hx hr hm hi ha j r hs λz hz=>h z (Ax _ hz)
  rw [Ae hv] at e
  rw [Ae hv,Gq e,Ik];exact W7 hx hr hm hi ha j r _ λz hz=>h z (Ax _ hz)
theorem xL {w:Kw} {q:Mq} {sg:Bool} {ap:Pa→Wt→Bool} (ha:∀(x:Pa) (y:Pq) (u:Wt),y.m=x.m→U9 q sg y u=ap x u):∀(L:List Pa) (l:List Pq) (j:Nat) (hs:List Ht),(∀x∈L,PaOk w x)→(∀x∈L,x.p.isSome=HC x.m)→L.map (λx=>(x.m,x.i))=l.map (λx=>(x.m,x.i))→M5 q sg l j hs=(unP ap L j).foldl (VA hkey) hs
 | [],[],_,_,_,_,_=>rfl
 | [],_::_,_,_,_,_,h=>by cases h
 | _::_,[],_,_,_,_,h=>by cases h
 | x::L,y::l,j,hs,h1,h2,h3=>by
  rw [Cc,Cc] at h3
  injection h3 with h4 h5
  injection h4 with hm hi
  have hx:=h1 x Bi;have ih:=λhs=>xL ha L l (j+1) hs (λz hz=>h1 z (Ax _ hz)) (λz hz=>h2 z (Ax _ hz)) h5
  rw [M5,unP,Dq,rZ hx hm.symm hi.symm (h2 x Bi),ih,ih];unfold JZ
  cases hr:runP x with
  | true=>
   rw [Ae AV,Ac rfl,←hi];rw [W7 hx hr hm.symm hi.symm (λu=>ha x y u hm.symm) j x.i.toks hs λ_ h=>h]
  | false=>rw [Ac AV,Ae Gm];rfl
theorem kU {w:Kw} {L:List Pa} {l:List Pq} (h1:∀x∈L,PaOk w x) (h2:∀x∈L,x.p.isSome=HC x.m) (h3:L.map (λx=>(x.m,x.i))=l.map (λx=>(x.m,x.i))) {ss:List St} (hs:SsP L ss) {q:Mq} {sg:Bool} {ap:Pa→Wt→Bool} (ha:∀(x:Pa) (y:Pq) (u:Wt),y.m=x.m→U9 q sg y u=ap x u):GO L ap ss=M5 q sg l 0 []:=by
 rw [vG hs,a1t,xL ha L l 0 [] h1 h2 h3]
theorem a3v (q:Mq) (x:Pa) (y:Pq) (u:Wt) (h:y.m=x.m):U9 q zy y u=MS q x u:=by
 unfold U9 MS;rw [h]
 generalize O ((u.ev.toNat:Int)=3)=a0
 generalize O ((u.ev.toNat:Int)=2)=a1
 generalize O (u.nm=q.nm)=a2
 generalize O (u.key=q.key)=a3
 generalize O (IZ x.m.vars q.vars=(0:Int))=a4
 cases a0<;>cases a1<;>cases a2<;>cases a3<;>cases a4<;>rfl
open Tryz
def Ht.same (a b:Ht):Bool:=O (a.pl=b.pl)&&(O (a.tok=b.tok)&&(O (a.via=b.via)))
theorem vC : zv.eqGuardType zv.depth 32=zy:=zr
theorem a0z : zv.stoodInHeld 32=zy:=zr
theorem pC : zv.underlying 32=G (.struct (zv.fieldsOf 32)):=zr
theorem a2B {w:Kw} (a b:Ht):(Op.equalIn 10000 32 (.agg a.cells.toArray) (.agg b.cells.toArray)).run zv w=.ok (a.same b) w:=by
 have s_:∀(u v:Kz),(Op.equalIn 9999 9 (str u) (str v)).run zv w=.ok (O (u=v)) w:=λu v=>by
  have:=run_equalIn_string (P:=zv) w 9998 9 ⟨u.toArray⟩ ⟨v.toArray⟩ Ad
  unfold str;rw [this,ByteArray.toList_eq,ByteArray.toList_eq]
  by_cases huv:u=v<;>simp [huv]
 have i_:∀(t:Nat) (k:IntKind) (u v:Int),zv.underlying t=G (.int k)→(Op.equalIn 9999 t (.int k u) (.int k v)).run zv w=.ok (O (u=v)) w:=λt k u v ht=>by
  have:=run_equalIn_int (P:=zv) w 9998 t k k u v ht
  rw [this];by_cases huv:u=v<;>simp [huv]
 rw [run_equalIn_struct w 9999 32 _ _ pC a0z];have hl:(zv.fieldsOf 32).toList=(match zv.underlying 32 with|some (.struct fs)=>fs.toList|_=>[]):=by unfold Program.fieldsOf;rw [Er]
 rw [hl,Er]
 simp only
 have N_:=isAgg3 w;have S_:=isAgg9 w;rw [BG (a:=AA a.pl) (b:=AA b.pl) AV (BD N_ rfl) (BD N_ rfl) (i_ _ _ _ _ Bm)];refine FB ?_;rw [BG (a:=AA a.tok) (b:=AA b.tok) AV (BD N_ rfl) (BD N_ rfl) (i_ _ _ _ _ Bm)];refine FB ?_;rw [BG (a:=str a.via) (b:=str b.via) AV (BD S_ rfl) (BD S_ rfl) (s_ _ _),O5]
 cases (O (a.via=b.via))<;>rfl
theorem a1q {e:Env} {w:Kw} {o:Oper} {t':Nat} {x y:Lz} {a b:Ht} (ho:o.op=.binOp .eql 32 x y t') (hx:ev e x=G (.agg a.cells.toArray)) (hy:ev e y=G (.agg b.cells.toArray)):Y zv e o w (.bool (a.same b)):=λρ h=>by
 have h1:ρ x=.agg a.cells.toArray:=h _ _ hx;have h2:ρ y=.agg b.cells.toArray:=h _ _ hy;have hg:=run_eqGuard_agg (P:=zv) w .eql 32 x y a.cells.toArray b.cells.toArray vC;unfold execOp;simp only [ho,h1,h2,Sem.run_bind,hg,Result.andThen_ok,run_eql_struct,a2B a b]
 rfl
theorem sV {w:Kw} {A:Ky} {h:Ht} {W:List Ht} (e:[h]=W.take 1) (hr:Rd w A (W.length*3) (AF Ht.cells W)) (h0:0<W.length):Rd w A ((W.take 1).length*3) (AF Ht.cells (W.take 1)):=by
 have:=WT (n:=1) Ht.len hr h0
 rwa [show (W.take 1).length=1 from by rw [←e];rfl]
theorem zK {w:Kw} {A:Ky} {h:Ht} (hr:Rd w A 3 h.cells):Rd w A ([h].length*3) (AF Ht.cells [h]):=hr
theorem o3 (a:Vl) (w:Kw):zt zv 61 #[.agg a.cells.toArray,.agg a.cells.toArray] w (BR w (AA 0)):=by
 refine BO func61 ntmps61 X λM=>W ?_
 refine CU M X X λg2 w1 hg2 M=>CU M X X λg3 w2 hg3 M=>W ?_
 refine AC X (λh5=>?_) (λh5=>?_)
 ·exact absurd h5 (by simp)
 refine W ?_;refine AC X (λh17=>?_) (λh17=>?_)
 ·exact absurd h17 (by simp)
 refine W ?_;refine ya X (SV X X X Eq) (W ?_);refine AC X (λh29=>?_) (λh29=>?_)
 ·exact absurd h29 (by simp)
 refine W ?_;refine AC X (λh38=>?_) (λh38=>?_)
 ·exact absurd h38 (by simp)
 refine W ?_;exact gr1 X ⟨X,M.fr⟩
theorem zL {a b:Vl} (h:a=b) (w:Kw):zt zv 61 #[.agg a.cells.toArray,.agg b.cells.toArray] w (BR w (AA 0)):=by
 subst h;exact o3 a w
theorem eH (A B:Ky) (c d:Nat) (l1 l2:List Bd) (w:Kw) (hl:l1=l2) (hbl:l1.length≤4611686018427387904) (hA:Rd w A (l1.length*5) (AF Bd.cells l1)) (hB:Rd w B (l2.length*5) (AF Bd.cells l2)) :
 zt zv 31 #[.slice A l1.length c,.slice B l2.length d] w (BR w (.bool zz)):=by
 have hl2:l2.length=l1.length:=by rw [hl]
 refine BO func31 ntmps31 X λM=>W ?_
 refine AC X (λh10=>?_) (λh10=>?_)
 ·exact absurd h10 (by rw [hl];simp)
 have h10p:=(odt (BL h10));refine W ?_;refine EC M [1,0] (λze zF e wr mz=>∃(j:Nat),e=(5,AA (j:Int))::ze∧zF wr∧(j≤l1.length)∧mz=l1.length-j) ⟨0,X,M,Aj _,X⟩ ?_;rintro _ w1 _ ⟨j,rfl,M,hj,rfl⟩;refine W ?_;refine AC X (λh14=>?_) (λh14=>?_)
 ·have h14p:=odt h14;refine W ?_;refine DZ 22 CA zr ?_;have M:=M.drew;refine W ?_;obtain ⟨x,_,_,hx,hA_x⟩:=ex5 (i:=j) (hA.fr0 M.fr);refine sa X (AK j hA_x X X X (sl X) A0) (sb X (sd X X (BC Bd.len (hA.fr0 M.fr) hA_x hx 0 X) (W ?_)));obtain ⟨y,_,_,hy,hA_y⟩:=ex5 (i:=j) (hB.fr0 M.fr);have hxy:y=x:=Bz (hy.symm.trans ((Bf (λl:List Bd=>l[j]?) hl).symm.trans hx));refine sa X (AK j hA_y X X X (sl X) A0) (sb X (sd X X (BC Bd.len (hB.fr0 M.fr) hA_y hy 0 X) (W ?_)));refine C3 (d:=28) X (λh28=>?_) (λh28=>?_)
  ·exact absurd h28 (by rw [hxy];simp)
  have h28p:=(odt (BL h28));refine W ?_;refine gsg X (AK j hA_x X X X (sl X) A0) (gsg X (yp X) (gsg X (AJ (xs:=Vl.cells x.v) X X (MI Bd.len (hA.fr0 M.fr) hA_x hx 1 4 X X) By X BM) (W ?_)));refine gsg X (AK j hA_y X X X (sl X) A0) (gsg X (yp X) (gsg X (AJ (xs:=Vl.cells y.v) X X (MI Bd.len (hB.fr0 M.fr) hA_y hy 1 4 X X) By X BM) (DA (sxl_call (G 39) kw X X (AE X X call61) (zL (Bf (λz:Bd=>z.v) hxy.symm) _) ?_))));rintro _ w2 ⟨rfl,hfw2⟩;refine cq ?_;have M:=M.step hfw2;refine W ?_;refine fag ⟨j+1,X,M,?_,X⟩
  ·omega
 refine W ?_;exact gr1 X ⟨X,M.fr⟩
theorem jV (A B:Ky) (c d n:Nat) (l1 l2:List Ht) (w:Kw) (hl:l1=l2) (hn:l1.length=n) (hbl:l1.length≤4611686018427387904) (hA:Rd w A (l1.length*3) (AF Ht.cells l1)) (hB:Rd w B (l2.length*3) (AF Ht.cells l2)) :
 zt zv 9 #[.slice A n c,.slice B n d] w (BR w (.bool zz)):=by
 subst hn;have hl2:l2.length=l1.length:=by rw [hl]
 refine BO func9 ntmps9 X λM=>W ?_
 refine AC X (λh10=>?_) (λh10=>?_)
 ·exact absurd h10 (by simp)
 have h10p:=(odt (BL h10));refine W ?_;refine EC M [1,0] (λze zF e wr mz=>∃(j:Nat),e=(5,AA (j:Int))::ze∧zF wr∧(j≤l1.length)∧mz=l1.length-j) ⟨0,X,M,Aj _,X⟩ ?_;rintro _ w1 _ ⟨j,rfl,M,hj,rfl⟩;refine W ?_;refine AC X (λh14=>?_) (λh14=>?_)
 ·have h14p:=odt h14;refine W ?_;refine CY CA zr ?_;have M:=M.drew;refine W ?_;obtain ⟨x,_,_,hx,hA_x⟩:=ex5 (i:=j) (hA.fr0 M.fr);refine sa X (AK j hA_x X X X (sl X) A0) (sb X (sd X X (BC Ht.len (hA.fr0 M.fr) hA_x hx 0 X) (W ?_)));obtain ⟨y,_,_,hy,hA_y⟩:=ex5 (i:=j) (hB.fr0 M.fr);have hxy:y=x:=Bz (hy.symm.trans ((Bf (λl:List Ht=>l[j]?) hl).symm.trans hx));refine sa X (AK j hA_y X X X (sl X) A0) (sb X (sd X X (BC Ht.len (hB.fr0 M.fr) hA_y hy 0 X) (W ?_)));refine fvs 12 [5,1,0] [(40,.bool ((!decide (x.pl=y.pl)) || (!decide (x.tok=y.tok))))] ?_ (λk28=>?_)
  ·refine sb X (fvs 12 [5,1,0] [(53,.bool (((!decide (x.pl=y.pl)) || (!decide (x.tok=y.tok))) || (!decide (x.via=y.via))))] ?_ (λk41=>?_))
   ·refine W ?_;refine AC X (λh53=>?_) (λh53=>?_)
    ·have h53p:=bd h53;exact absurd h53 (by rw [hxy];simp)
    have h53p:=bd h53;refine W ?_;refine fag ⟨j+1,X,M,?_,X⟩
    ·omega
   refine C3 (d:=41) X (λh41=>?_) (λh41=>?_)
   ·refine T12 ?_;exact k41 _ ⟨X,X,X,(by rw [h41];rfl),zw⟩
   refine W ?_;refine gsg X (AK j hA_x X X X (sl X) A0) (gsg X (yp X) (gsg X (B3 X X (sc X) (BC Ht.len (hA.fr0 M.fr) hA_x hx 2 X)) (W ?_)));refine gsg X (AK j hA_y X X X (sl X) A0) (gsg X (yp X) (gsg X (B3 X X (sc X) (BC Ht.len (hB.fr0 M.fr) hA_y hy 2 X)) (T2 ?_)));exact k41 _ ⟨X,X,X,(by rw [h41];rfl),zw⟩
  refine C3 (d:=28) X (λh28=>?_) (λh28=>?_)
  ·refine T12 ?_;exact k28 _ ⟨X,X,X,(by rw [h28];rfl),zw⟩
  refine W ?_;refine gsg X (AK j hA_x X X X (sl X) A0) (gsg X (yp X) (gsg X (B3 X X (sc X) (BC Ht.len (hA.fr0 M.fr) hA_x hx 1 X)) (W ?_)));refine gsg X (AK j hA_y X X X (sl X) A0) (gsg X (yp X) (gsg X (B3 X X (sc X) (BC Ht.len (hB.fr0 M.fr) hA_y hy 1 X)) (T2 ?_)));exact k28 _ ⟨X,X,X,(by rw [h28];rfl),zw⟩
 refine W ?_;exact gr1 X ⟨X,M.fr⟩
end
theorem EV : (zv.info? 25).map (λi=>(i.zero,i.size,i.bytes))=G (G (.agg #[str [],str [],.slice zx 0 0,AA 0]),4,64):=zr
theorem GD : (zv.info? 25).map (λi=>(i.zero,i.size))=G (G (.agg #[str [],str [],.slice zx 0 0,AA 0]),4):=zr
theorem wW (A:Ky) (c:Nat) (l:List Bd) (w:Kw) (hl:l.length*56≤zu) (hR:Rd w A (l.length*5) (AF Bd.cells l)) :
 zt zv 62 #[.slice A l.length c] w λe w'=>∃A' c',e=.returned (.slice A' l.length c')∧w'.ownsRow w.heap.size 63 5 (.slice A' l.length c') l.length (AF Bd.cells l)∧Fr0 w w':=by
 simp only [zu] at hl
 refine BO func62 ntmps62 X λM=>W ?_
 refine ya X (OO X X Dk) (W ?_);refine AC X (λh4=>?_) (λh4=>?_)
 ·refine W ?_;refine gr1 X ?_;obtain rfl:=RZ hR AV h4;exact ⟨zx,0,X,World.ownsRow_nil _ _ _ _,M.fr⟩
 refine W ?_;refine sxl_does (G 5) kw X X (λρ hρ=>KS 23 63 5 X Dk EW) ?_;rintro _ w1 ⟨g5,rfl,hg5,_,_,hfw1,ho5⟩;have M:=M.pushOwn hfw1 (Af _) (ho5 _ (Af _));refine yb X (CD (len':=l.length) (xs':=AF Bd.cells l) M 0 kw X X X X X X (hR.fr0 M.fr) Dk KB X AV (D5 Bd.cells_one) (Af _) (Af _) D4 (by unfold maxLen;first|omega|(simp;omega)) (by first|(simp;done)|(simp;omega)) (by first|exact (AY _ _ _).symm|rfl|simp [AF]) λA7 c7 w2 M=>W ?_);exact gr1 X ⟨_,_,X,M.own 0 X,M.fr⟩
theorem mT (A:Ky) (c:Nat) (l:List Mq) (w:Kw) (hl:l.length≤1048576) (hR:Rd w A (l.length*4) (AF Mq.cells l)) :
 zt zv 32 #[.slice A l.length c] w λe w'=>∃A' c',e=.returned (.slice A' l.length c')∧w'.ownsRow w.heap.size 25 4 (.slice A' l.length c') l.length (AF Mq.cells l)∧Fr0 w w':=by
 refine BO func32 ntmps32 X λM=>W ?_
 refine ya X (OO X X Cw) (W ?_);refine AC X (λh4=>?_) (λh4=>?_)
 ·refine W ?_;refine gr1 X ?_;obtain rfl:=RZ hR AV h4;exact ⟨zx,0,X,World.ownsRow_nil _ _ _ _,M.fr⟩
 refine W ?_;refine sxl_does (G 5) kw X X (λρ hρ=>KS 52 25 4 X Cw C4) ?_;rintro _ w1 ⟨g5,rfl,hg5,_,_,hfw1,ho5⟩;have M:=M.pushOwn hfw1 (Af _) (ho5 _ (Af _));refine yb X (CD (len':=l.length) (xs':=AF Mq.cells l) M 0 kw X X X X X X (hR.fr0 M.fr) Cw EV X AV (D5 Mq.cells_one) (Af _) (Af _) D4 (by unfold maxLen;first|omega|(simp;omega)) (by first|(simp;done)|(simp;omega)) (by first|exact (AY _ _ _).symm|rfl|simp [AF]) λA7 c7 w2 M=>W ?_);exact gr1 X ⟨_,_,X,M.own 0 X,M.fr⟩
theorem tT (q:Mq) (w:Kw) (hb:q.vars.length*56≤zu) (hV:Rd w q.V (q.vars.length*5) (AF Bd.cells q.vars)) :
 zt zv 33 #[.agg q.cells.toArray] w λe w'=>∃y:Mq,e=.returned (.agg y.cells.toArray)∧y.pl=q.pl∧a2S w.heap.size w' y∧Fr0 w w':=by
 refine BO func33 ntmps33 X λM=>W ?_
 refine CZ M kw X X 25 X X (q.cells) X λg1 w1 hg1 M=>CE M X KG λg2 w2 hg2 M=>W ?_
 refine ND M 5 X (AE X X call62) (wW q.V q.vc q.vars _ hb (hV.fr0 M.fr)) λA9 c9 w3 M=>yb X (gp1 M 2 X X X GM λw4 M=>W ?_)
 refine CF M 2 X X Cl C4 X (BX M 1 X X C4 X λw5 M=>W ?_);exact CV X X (M.rdBlk 1 X X) Cl X C4 ⟨⟨q.nm,q.key,q.vars,A9,c9,q.un⟩,X,X,M.own 0 X,M.fr⟩
theorem WM (B:Ky) (cb:Nat) (ms:List Mq) (w:Kw) (hml:ms.length≤1000) (hb:∀x∈ms,x.vars.length*56≤zu) (hM:Mqs w B ms) :
 zt zv 12 #[.slice B ms.length cb] w λe w'=>∃(L:List Mq) (A':Ky) (c':Nat),e=.returned (.slice A' L.length c')∧w'.ownsRow w.heap.size 25 4 (.slice A' L.length c') L.length (AF Mq.cells L)∧MD w.heap.size L w'∧L.map Mq.pl=ms.map Mq.pl∧Fr0 w w':=by
 refine BO func12 ntmps12 X λM=>W ?_
 have M:=M.nilOwn 25 4;have M:=M.nilCl (P:=MD w.heap.size []) (SI _);refine flp [0] (λze e wr mz=>∃(j:Nat) (acc:List Mq) (A3:Ky) (c3:Nat) (F:List Nat),e=(3,.slice A3 acc.length c3)::(4,AA (j:Int))::ze∧Mem w AR [As.cl F (MD w.heap.size acc),As.own w.heap.size 25 4 (.slice A3 acc.length c3) acc.length (AF Mq.cells acc)] wr∧(j≤ms.length)∧(acc.map Mq.pl=(ms.take j).map Mq.pl)∧(acc.length≤j)∧mz=ms.length-j) ⟨0,[],zx,0,[],X,M,Aj _,X,Af _,X⟩ ?_;rintro _ w1 _ ⟨j,acc,A3,c3,F,rfl,M,hj,hacc,hal,rfl⟩;refine W ?_;refine AC X (λh9=>?_) (λh9=>?_)
 ·have h9p:=odt h9;refine W ?_;obtain ⟨x,_,_,hx,hA_x⟩:=ex5 (i:=j) ((hM.fr0 M.fr).rd);have hbx:=hb _ (Ah hx);simp only [zu] at hbx
  refine ya X (AK j hA_x X X X (sl X) A0) (ya X (AJ X X (BF Mq.len ((hM.fr0 M.fr).rd) hA_x hx) Cl X C4) (CE M X KG λg5 w2 hg5 M=>BX M 0 X X C4 X λw3 M=>W ?_));refine gp1 M 0 X X X GM λw4 M=>W ?_
  refine DZ 7 CA zr ?_;have M:=M.drew;refine W ?_;refine sa X (AK j hA_x X X X (sl X) A0) (sb X (sd X X (BC Mq.len ((hM.fr0 M.fr).rd) hA_x hx 2 X) (DA ?_)));have M:=M.nilOwn 63 5;refine CD (len':=x.vars.length) (xs':=AF Bd.cells x.vars) M 0 kw X X X X X X (((hM.fr0 M.fr).ok _ (Ah hx)).V) Dk KB X AV (D5 Bd.cells_one) (Af _) (Af _) D4 (by unfold maxLen;first|omega|(simp;omega)) (by first|(simp;done)|(simp;omega)) (by first|exact (AY _ _ _).symm|rfl|simp [AF]) λA24 c24 w5 M=>yb X (gp1 M 1 X X X GM λw6 M=>W ?_)
  refine CF M 1 X X Cl C4 X (CP M kw X X [.agg (Mq.cells (⟨x.nm,x.key,x.vars,A24,c24,x.un⟩:Mq)).toArray] (Mq.cells (⟨x.nm,x.key,x.vars,A24,c24,x.un⟩:Mq)) X X X X Cw GD X X (FZ X) X λg28 w7 hg28 M=>CD (len':=(acc++[(⟨x.nm,x.key,x.vars,A24,c24,x.un⟩:Mq)]).length) (xs':=AF Mq.cells (acc++[(⟨x.nm,x.key,x.vars,A24,c24,x.un⟩:Mq)])) M 4 kw X X X X X X (M.rdBlk 0 X X) Cw EV X AV (BN X) (Af _) (Af _) D4 (by unfold maxLen;first|omega|(simp;omega)) (by first|(simp;done)|(simp;omega)) (by first|exact (AY _ _ _).symm|rfl|simp [AF]) λA29 c29 w8 M=>W ?_);have hfam:=cK (⟨x.nm,x.key,x.vars,A24,c24,x.un⟩:Mq) (M.ok 3 _ X) (M.ok 1 _ X);have M:=(M.pk [1,3,0,2,4]).meet2 _ kF hfam;refine fag ⟨j+1,acc++[(⟨x.nm,x.key,x.vars,A24,c24,x.un⟩:Mq)],A29,c29,_,X,(M.pk [0,3]),?_,?_,?_,X⟩
  ·omega
  ·rw [AT hx,Bu,Bu,hacc];rfl
  first
   | omega
   | (simp;omega)
 have h9p:=odf h9;refine W ?_;obtain rfl:j=ms.length:=A0
 rw [Bc] at hacc
 refine W ?_;exact gr1 X ⟨acc,A3,c3,X,M.own 1 X,M.famOk 0 X,hacc,M.fr⟩
theorem pJ (B:Ky) (cb:Nat) (ms:List Mq) (k:Int) (w:Kw) (hml:ms.length≤1000) (hb:∀x∈ms,x.vars.length*56≤zu) (hM:Mqs w B ms) :
 zt zv 17 #[.slice B ms.length cb,AA k] w λe w'=>∃(L:List Mq) (A':Ky) (c':Nat),e=.returned (.slice A' L.length c')∧w'.ownsRow w.heap.size 25 4 (.slice A' L.length c') L.length (AF Mq.cells L)∧MD w.heap.size L w'∧L.map Mq.pl=(ms.filter λx=>O (k<x.un)).map Mq.pl∧Fr0 w w':=by
 refine BO func17 ntmps17 X λM=>W ?_
 have M:=M.nilOwn 25 4;have M:=M.nilCl (P:=MD w.heap.size []) (SI _);refine flp [9,8,1] (λze e wr mz=>∃(j:Nat) (acc:List Mq) (A3:Ky) (c3:Nat) (F:List Nat),e=(5,.slice A3 acc.length c3)::(10,AA (j:Int))::ze∧Mem w AR [As.cl F (MD w.heap.size acc),As.own w.heap.size 25 4 (.slice A3 acc.length c3) acc.length (AF Mq.cells acc)] wr∧(j≤ms.length)∧(acc.map Mq.pl=((ms.take j).filter λx=>O (k<x.un)).map Mq.pl)∧(acc.length≤j)∧mz=ms.length-j) ⟨0,[],zx,0,[],X,M,Aj _,X,Af _,X⟩ ?_;rintro _ w1 _ ⟨j,acc,A3,c3,F,rfl,M,hj,hacc,hal,rfl⟩;refine W ?_;refine AC X (λh11=>?_) (λh11=>?_)
 ·have h11p:=odt h11;refine W ?_;obtain ⟨x,_,_,hx,hA_x⟩:=ex5 (i:=j) ((hM.fr0 M.fr).rd);have hbx:=hb _ (Ah hx);simp only [zu] at hbx
  refine ya X (AK j hA_x X X X (sl X) A0) (ya X (AJ X X (BF Mq.len ((hM.fr0 M.fr).rd) hA_x hx) Cl X C4) (CE M X KG λg7 w2 hg7 M=>BX M 0 X X C4 X λw3 M=>W ?_));refine AC X (λh17=>?_) (λh17=>?_)
  ·have h17p:=odt h17;refine W ?_;refine CF M 0 X X Cl C4 X (cl 20 X (AE X X call33) (tT x _ (hb _ (Ah hx)) (((hM.fr0 M.fr).ok _ (Ah hx)).V)) ?_);rintro _ w4 ⟨y,rfl,hy,how4,hfw4⟩;refine cq ?_;have M:=M.pushOwn hfw4 (Af _) how4;refine CP M kw X X [.agg (Mq.cells y).toArray] (Mq.cells y) X X X X Cw GD X X (FZ X) X λg21 w5 hg21 M=>CD (len':=(acc++[y]).length) (xs':=AF Mq.cells (acc++[y])) M 4 kw X X X X X X (M.rdBlk 0 X X) Cw EV X AV (BN X) (Af _) (Af _) D4 (by unfold maxLen;first|omega|(simp;omega)) (by first|(simp;done)|(simp;omega)) (by first|exact (AY _ _ _).symm|rfl|simp [AF]) λA22 c22 w6 M=>W ?_
   have hfam:=cK y (M.ok 3 _ X) (M.ok 1 _ X);have M:=(M.pk [1,3,0,2,4]).meet2 _ kF hfam;refine fag ⟨j+1,acc++[y],A22,c22,_,X,(M.pk [0,3]),?_,?_,?_,X⟩
   ·omega
   ·rw [AT hx,Cm]
    first
     | (rw [Cs (by simpa using h17p),Bu,Bu,hacc,Dz,hy];rfl)
     | (rw [Ct (by simpa using h17p)];simpa using hacc)
   first
    | omega
    | (simp;omega)
  have h17p:=odf h17;refine W ?_;refine fag ⟨j+1,acc,A3,c3,F,X,(M.pk [1,2]),?_,?_,?_,X⟩
  ·omega
  ·rw [AT hx,Cm]
   first
    | (rw [Cs (by simpa using h17p),Bu,Bu,hacc,Dz,hy];rfl)
    | (rw [Ct (by simpa using h17p)];simpa using hacc)
  first
   | omega
   | (simp;omega)
 have h11p:=odf h11;refine W ?_;obtain rfl:j=ms.length:=A0
 rw [Bc] at hacc
 refine W ?_;exact gr1 X ⟨acc,A3,c3,X,M.own 1 X,M.famOk 0 X,hacc,M.fr⟩
theorem a1V (l:Kz) (w:Kw) (hm:(l.length:Int)<4611686018427387904):zt zv 34 #[str l] w (BR w (.bool (B5 l))):=(FW l w A0).mono λe w' h=>⟨h.1,h.2▸Fr.refl⟩
theorem sG {ms:List Mq} {q:Mq} (hb:∀x∈ms,x.vars.length*56≤zu) (hq:q.vars.length*56≤zu):∀x∈ms++[q],x.vars.length*56≤zu:=λx hx=>by
 rcases Bp.1 hx with h|h
 ·exact hb x h
 rw [Au.1 h];exact hq
theorem TP (q:Mq) (w:Kw) (hn:(q.nm.length:Int)<4611686018427387904) (hk:(q.key.length:Int)<4611686018427387904) (hq:MqOk w q) (hT:Laid w utfL) :
 zt zv 15 #[.agg q.cells.toArray] w (BR w (AA (if MW q=zz then 0 else 1))):=by
 refine BO func15 ntmps15 X λM=>W ?_
 refine CZ M kw X X 25 X X (q.cells) X λg1 w1 hg1 M=>W ?_
 refine CQ M 5 X X call37 (E8 q.nm _ hn) λw2 M=>W ?_
 refine fvm M 6 [1] [(13,.bool ((!(B5 q.nm)) || (!decide ((chk (⟨3,0,zy,q.key⟩:Vl))=(0:Int)))))] ?_ (λk7=>?_)
 ·intro w3 M;refine yb X (fvm M 5 [1] [(19,.bool (((!(B5 q.nm)) || (!decide ((chk (⟨3,0,zy,q.key⟩:Vl))=(0:Int)))) || (!decide ((FF [] q.vars)=(0:Int)))))] ?_ (λk14=>?_))
  ·intro w4 M;refine yb X (fvm M 4 [1] [(24,.bool ((((!(B5 q.nm)) || (!decide ((chk (⟨3,0,zy,q.key⟩:Vl))=(0:Int)))) || (!decide ((FF [] q.vars)=(0:Int)))) || (O (q.un<(0:Int)))))] ?_ (λk20=>?_))
   ·intro w5 M;refine yb X (fvm M 4 [] [(29,.bool (((((!(B5 q.nm)) || (!decide ((chk (⟨3,0,zy,q.key⟩:Vl))=(0:Int)))) || (!decide ((FF [] q.vars)=(0:Int)))) || (O (q.un<(0:Int)))) || (O ((1099512676352:Int)<q.un))))] ?_ (λk25=>?_))
    ·intro w6 M;refine W ?_;refine AC X (λh29=>?_) (λh29=>?_)
     ·have h29p:=bd h29;refine W ?_;refine gr1 X ?_;rw [mE] at h29
      exact ⟨by rw [Ae (by simpa using h29)],M.fr⟩
     have h29p:=bd h29;refine W ?_;refine gr1 X ?_;rw [mE] at h29
     exact ⟨by rw [Ac (by simpa using h29)],M.fr⟩
    refine A1 (d:=25) X (λh25=>?_) (λh25=>?_)
    ·refine T4 ?_;exact k25 M
    refine T4 ?_;exact k25 M
   refine A1 (d:=20) X (λh20=>?_) (λh20=>?_)
   ·refine T4 ?_;exact k20 M
   refine T4 ?_;exact k20 M
  refine A1 (d:=14) X (λh14=>?_) (λh14=>?_)
  ·refine T5 ?_;exact k14 M
  refine W ?_;refine sxl_call (G 17) kw X X (AE X X call40) (YZ q.V q.vc q.vars _ hq.ok (hq.fr0 M.fr).V (GC hT M.fr)) ?_;rintro _ w7 ⟨rfl,hfw7⟩;refine cq ?_;have M:=M.step hfw7;refine T2 ?_;exact k14 M
 refine A1 (d:=7) X (λh7=>?_) (λh7=>?_)
 ·refine T6 ?_;exact k7 M
 refine W ?_;refine sxl_call (G 10) kw X X (AE X X call39) (dF q.key _) ?_;rintro _ w8 ⟨rfl,hfw8⟩;refine cq ?_;have M:=M.step hfw8;refine sxl_call (G 11) kw X X (AE X X call38) (J1 (⟨3,0,zy,q.key⟩:Vl) _ hk (GC hT M.fr)) ?_;rintro _ w9 ⟨rfl,hfw9⟩;refine cq ?_;have M:=M.step hfw9;refine T2 ?_;exact k7 M
theorem a0j (B:Ky) (cb:Nat) (ms:List Mq) (q:Mq) (w:Kw) (hml:ms.length≤1000) (hb:∀x∈ms,x.vars.length*56≤zu) (hM:Mqs w B ms) (hqb:q.vars.length*56≤zu) (hn:(q.nm.length:Int)<4611686018427387904) (hk:(q.key.length:Int)<4611686018427387904) (hq:MqOk w q) (hT:Laid w utfL) :
 zt zv 13 #[.slice B ms.length cb,.agg q.cells.toArray] w λe w'=>∃(L:List Mq) (A':Ky) (c':Nat),(e=.returned (.tuple #[.slice A' L.length c',AA (if MW q=zz then (if 64≤ms.length then 3 else 0) else 1)]))∧w'.ownsRow w.heap.size 25 4 (.slice A' L.length c') L.length (AF Mq.cells L)∧MD w.heap.size L w'∧((MW q=zz∧ms.length<64→L.map Mq.pl=(ms++[q]).map Mq.pl)∧(¬(MW q=zz∧ms.length<64)→L=[]))∧Fr0 w w':=by
 have hsn:(ms++[q]).length=ms.length+1:=by simp
 refine BO func13 ntmps13 X λM=>W ?_
 refine CZ M kw X X 25 X X (q.cells) X λg3 w1 hg3 M=>W ?_
 refine CF M 0 X X Cl C4 X (CQ M 11 X X call15 (TP q _ hn hk (hq.fr0 M.fr) (GC hT M.fr)) λw2 M=>W ?_);refine AC X (λh13=>?_) (λh13=>?_)
 ·refine W ?_;refine B1 X X X ?_;have hm:¬MW q=zz:=λhh=>by rw [hh] at h13;simp at h13
  exact ⟨[],zx,0,by rw [Ae hm,Ae hm];rfl,World.ownsRow_nil _ _ _ _,SI _ _,⟨λh=>absurd h.1 hm,λ_=>rfl⟩,M.fr⟩
 have h13p:=(odt (BL h13));refine W ?_;refine AC X (λh17=>?_) (λh17=>?_)
 ·have h17p:=odt h17;refine W ?_;refine B1 X X X ?_;have hm:MW q=zz:=by simpa using h13
  have hl:64≤ms.length:=A0
  exact ⟨[],zx,0,by rw [Ac hm,Ac hl];rfl,World.ownsRow_nil _ _ _ _,SI _ _,⟨λh=>absurd h.2 A0,λ_=>rfl⟩,M.fr⟩
 have h17p:=odf h17;refine W ?_;refine rV (λ(g21:Nat) (A22:Ky) (c22:Nat)=>[(7,.slice zx 0 0),(22,.slice A22 ((ms++[q]).length) c22),(23,AA ((ms++[q]).length:Int)),(24,AA 0)]) (λ(g21:Nat) (A22:Ky) (c22:Nat)=>λw'=>Mem w AR [As.blk g21 25 q.cells,As.own w.heap.size 25 4 (.slice A22 ((ms++[q]).length) c22) ((ms++[q]).length) (AF Mq.cells (ms++[q])),As.blk g3 25 q.cells] w') ?_ (λkr7=>?_)
 ·intro g21 A22 c22 w3 M;refine W ?_;have M:=M.nilOwn 25 4;have M:=M.nilCl (P:=MD w.heap.size []) (SI _);refine flp [23,22] (λze e wr mz=>∃(j:Nat) (acc:List Mq) (A3:Ky) (c3:Nat) (F:List Nat),e=(7,.slice A3 acc.length c3)::(24,AA (j:Int))::ze∧Mem w AR [As.cl F (MD w.heap.size acc),As.own w.heap.size 25 4 (.slice A3 acc.length c3) acc.length (AF Mq.cells acc),As.blk g21 25 q.cells,As.own w.heap.size 25 4 (.slice A22 ((ms++[q]).length) c22) ((ms++[q]).length) (AF Mq.cells (ms++[q])),As.blk g3 25 q.cells] wr∧(j≤(ms++[q]).length)∧(acc.map Mq.pl=((ms++[q]).take j).map Mq.pl)∧(acc.length≤j)∧mz=(ms++[q]).length-j) ⟨0,[],zx,0,[],X,M,Aj _,X,Af _,X⟩ ?_;rintro _ w4 _ ⟨j,acc,A3,c3,F,rfl,M,hj,hacc,hal,rfl⟩;refine W ?_;refine AC X (λh25=>?_) (λh25=>?_)
  ·have h25p:=odt h25;refine W ?_;obtain ⟨x,_,_,hx,hA_x⟩:=ex5 (l:=ms++[q]) (k:=4) (i:=j) (M.rdOwn 3 X);have hbx:=sG hb hqb _ (Ah hx);simp only [zu] at hbx
   refine ya X (AK j hA_x X X X (sl X) A0) (ya X (AJ X X (BF Mq.len (M.rdOwn 3 X) hA_x hx) Cl X C4) (CE M X KG λg9 w5 hg9 M=>BX M 0 X X C4 X λw6 M=>W ?_));refine CF M 0 X X Cl C4 X (cl 30 X (AE X X call33) (tT x _ ((sG hb hqb) _ (Ah hx)) ((TN (hM.fr0 M.fr).ok (hq.fr0 M.fr) _ (Ah hx)).V)) ?_);rintro _ w7 ⟨y,rfl,hy,how7,hfw7⟩;refine cq ?_;have M:=M.pushOwn hfw7 (Af _) how7;refine CP M kw X X [.agg (Mq.cells y).toArray] (Mq.cells y) X X X X Cw GD X X (FZ X) X λg31 w8 hg31 M=>CD (len':=(acc++[y]).length) (xs':=AF Mq.cells (acc++[y])) M 4 kw X X X X X X (M.rdBlk 0 X X) Cw EV X AV (BN X) (Af _) (Af _) D4 (by unfold maxLen;first|omega|(simp;omega)) (by first|(simp;done)|(simp;omega)) (by first|exact (AY _ _ _).symm|rfl|simp [AF]) λA32 c32 w9 M=>W ?_
   have hfam:=cK y (M.ok 3 _ X) (M.ok 1 _ X);have M:=(M.pk [1,3,0,2,4,5,6,7]).meet2 _ kF hfam;refine fag ⟨j+1,acc++[y],A32,c32,_,X,(M.pk [0,3,4,5,6]),?_,?_,?_,X⟩
   ·omega
   ·rw [AT hx,Bu,Bu,hacc,Dz,Dz,hy]
   first
    | omega
    | (simp;omega)
  have h25p:=odf h25;refine W ?_;obtain rfl:j=(ms++[q]).length:=A0
  rw [Bc] at hacc
  refine W ?_;refine B1 X X X ?_;have hm:MW q=zz:=by simpa using h13
  have hl:¬64≤ms.length:=A0
  exact ⟨acc,A3,c3,by rw [Ac hm,Ae hl],M.own 1 rfl,M.famOk 0 rfl,⟨λ_=>hacc,λh=>absurd ⟨hm,A0⟩ h⟩,M.fr⟩
 refine I0 M 7 CA λM=>oc 0 7 X X M (oa 2 7 X X M (λ_ M=>AJ (xs:=q.cells) X X (M.rdBlk 0 X X) Cl X C4) (oc 6 7 X X M (FM (rs:=[1,3]) zr (by simp) λiz hiz=>?_)))
 simp only [Ao,Ba,or_false] at hiz
 rcases hiz with rfl|rfl
 ·refine GT (G 19) X kw X X (AE X X call32) (mT B cb ms _ A0 (hM.fr0 M.fr).rd) ?_;rintro _ w10 ⟨A9,c9,rfl,how10,hfw10⟩;refine ⟨_,X,λ_=>M.step hfw10,?_⟩;have M:=M.pushOwn hfw10 (Af _) how10;refine B7 3 (G 21) zr X kw X X (λρ hρ=>CX [.agg (q.cells).toArray] _ hρ X X X X Cw GD AV AV (FZ X)) ?_;rintro _ w11 ⟨g21,rfl,hg21,hq21,hb21,hfw11⟩
  replace hb21:Blk w11 g21 25 (q.cells):=hb21
  refine ⟨λ_=>(M.drop 1).step hfw11,?_⟩;have M:=M.push hfw11 _ hb21 (CR hg21 hq21)
  replace M:Mem w AR (As.blk g21 25 (q.cells)::_) w11:=M
  refine B7 4 (G 22) zr X kw X X (λρ hρ=>D2 _ _ _ X w.heap.size _ _ _ _ Cw EV X AV _ _ _ (hρ _ _ X) (M.own 1 X) _ _ _ _ (hρ _ _ X) (M.rdBlk 0 X X) ((Mq.cells_one _)) (by unfold maxLen;first|omega|(simp;omega)) D4 M.fr.size) ?_;rintro v22 w12 ⟨ho22,hgr22,hvb22⟩
  replace ho22:World.ownsRow w12 w.heap.size 25 4 v22 ((ms++[q]).length) (AF Mq.cells (ms++[q])):=by rw [show ((ms++[q]).length)=ms.length+1 from by first|(simp;done)|(simp;omega),show (AF Mq.cells (ms++[q]))=(AF Mq.cells ms)++q.cells from by first|exact AY _ _ _|simp [AF]];exact ho22
  have M:=M.appOwn 1 X ho22 hgr22 hvb22;obtain ⟨A22,c22,rfl,_⟩:=DH ho22;exact ⟨λ_=>(M.drop 2),oa 5 7 X X (M.drop 2) (λ_ M=>I8 X X (sl X)) (fdn (kr7 g21 A22 c22 _ _ M ⟨X,X,X,X,zw⟩))⟩
 refine DP (G 21) X kw X X (λρ hρ=>CX [.agg (q.cells).toArray] _ hρ X X X X Cw GD AV AV (FZ X)) ?_;rintro _ w13 ⟨g21,rfl,hg21,hq21,hb21,hfw13⟩
 replace hb21:Blk w13 g21 25 (q.cells):=hb21
 refine ⟨λ_=>M.step hfw13,?_⟩;have M:=M.push hfw13 _ hb21 (CR hg21 hq21)
 replace M:Mem w AR (As.blk g21 25 (q.cells)::_) w13:=M
 refine BB 1 (G 19) zr X kw X X (AE X X call32) (mT B cb ms _ A0 (hM.fr0 M.fr).rd) ?_;rintro _ w14 ⟨A9,c9,rfl,how14,hfw14⟩;refine ⟨_,X,λ_=>(M.drop 1).step hfw14,?_⟩;have M:=M.pushOwn hfw14 (Af _) how14;refine B7 4 (G 22) zr X kw X X (λρ hρ=>D2 _ _ _ X w.heap.size _ _ _ _ Cw EV X AV _ _ _ (hρ _ _ X) (M.own 0 X) _ _ _ _ (hρ _ _ X) (M.rdBlk 1 X X) ((Mq.cells_one _)) (by unfold maxLen;first|omega|(simp;omega)) D4 M.fr.size) ?_;rintro v22 w15 ⟨ho22,hgr22,hvb22⟩
 replace ho22:World.ownsRow w15 w.heap.size 25 4 v22 ((ms++[q]).length) (AF Mq.cells (ms++[q])):=by rw [show ((ms++[q]).length)=ms.length+1 from by first|(simp;done)|(simp;omega),show (AF Mq.cells (ms++[q]))=(AF Mq.cells ms)++q.cells from by first|exact AY _ _ _|simp [AF]];exact ho22
 have M:=M.appOwn 0 X ho22 hgr22 hvb22;obtain ⟨A22,c22,rfl,_⟩:=DH ho22;exact ⟨λ_=>(M.drop 2),oa 5 7 X X (M.drop 2) (λ_ M=>I8 X X (sl X)) (fdn (kr7 g21 A22 c22 _ _ (M.pk [1,0,2]) ⟨X,X,X,X,zw⟩))⟩
theorem jQ (q r:Mq) (w:Kw) (h:q.pl=r.pl) (hq:MqOk w q) (hr:MqOk w r) :
 zt zv 41 #[.agg q.cells.toArray,.agg r.cells.toArray] w (BR w (.bool zz)):=by
 obtain ⟨h1,h2,h3,h4⟩:=eY h;have hbl:=hq.ok.len;refine BO func41 ntmps41 X λM=>W ?_
 refine CZ M kw X X 25 X X (q.cells) X λg2 w1 hg2 M=>CZ M kw X X 25 X X (r.cells) X λg3 w2 hg3 M=>W ?_
 refine A1 (d:=10) X (λh10=>?_) (λh10=>?_)
 ·have h10p:=odt h10;refine W ?_;refine A1 (d:=17) X (λh17=>?_) (λh17=>?_)
  ·have h17p:=odt h17;refine W ?_;refine A1 (d:=24) X (λh24=>?_) (λh24=>?_)
   ·have h24p:=odt h24;refine W ?_;refine sxl_call (G 29) kw X X (AE X X call31) (eH q.V r.V q.vc r.vc q.vars r.vars _ h3 A0 (hq.fr0 M.fr).V (hr.fr0 M.fr).V) ?_;rintro _ w3 ⟨rfl,hfw3⟩;refine cq ?_;have M:=M.step hfw3;refine W ?_;exact gr1 X ⟨X,M.fr⟩
   exact absurd h24 (by rw [h4];simp)
  exact absurd h17 (by rw [h2];simp)
 exact absurd h10 (by rw [h1];simp)
theorem K1 (A B:Ky) (c d n1 n2:Nat) (l1 l2:List Mq) (w:Kw) (h:l1.map Mq.pl=l2.map Mq.pl) (hn1:l1.length=n1) (hn2:l2.length=n2) (hbl:l1.length≤4611686018427387904) (hA:Mqs w A l1) (hB:Mqs w B l2) :
 zt zv 16 #[.slice A n1 c,.slice B n2 d] w (BR w (.bool zz)):=by
 subst hn1;subst hn2;have hl2:l2.length=l1.length:=(OX h).symm;refine BO func16 ntmps16 X λM=>W ?_
 refine AC X (λh10=>?_) (λh10=>?_)
 ·exact absurd h10 (by rw [hl2];simp)
 have h10p:=(odt (BL h10));refine W ?_;refine EC M [1,0] (λze zF e wr mz=>∃(j:Nat),e=(5,AA (j:Int))::ze∧zF wr∧(j≤l1.length)∧mz=l1.length-j) ⟨0,X,M,Aj _,X⟩ ?_;rintro _ w1 _ ⟨j,rfl,M,hj,rfl⟩;refine W ?_;refine AC X (λh14=>?_) (λh14=>?_)
 ·have h14p:=odt h14;refine W ?_;refine DZ 8 CA zr ?_;have M:=M.drew;refine W ?_;obtain ⟨x,_,_,hx,hA_x⟩:=ex5 (i:=j) ((hA.fr0 M.fr).rd);refine sa X (AK j hA_x X X X (sl X) A0) (sa X (AJ X X (BF Mq.len ((hA.fr0 M.fr).rd) hA_x hx) Cl X C4) (W ?_));obtain ⟨y,_,_,hy,hA_y⟩:=ex5 (i:=j) ((hB.fr0 M.fr).rd);refine sa X (AK j hA_y X X X (sl X) A0) (sa X (AJ X X (BF Mq.len ((hB.fr0 M.fr).rd) hA_y hy) Cl X C4) (DA (CQ M 25 X X call41 (jQ x y _ (a3d h hx hy) ((hA.fr0 M.fr).ok _ (Ah hx)) ((hB.fr0 M.fr).ok _ (Ah hy))) λw2 M=>W ?_)));refine fag ⟨j+1,X,M,?_,X⟩
  ·omega
 refine W ?_;exact gr1 X ⟨X,M.fr⟩
theorem sW (q:Mq) (w:Kw) (hn:(q.nm.length:Int)<4611686018427387904) (hk:(q.key.length:Int)<4611686018427387904) (hq:MqOk w q) :
 zt zv 14 #[.agg q.cells.toArray] w (BR w (.bool (MW q))):=by
 refine BO func14 ntmps14 X λM=>W ?_
 refine CZ M kw X X 25 X X (q.cells) X λg1 w1 hg1 M=>W ?_
 refine ya X (B8 (parts:=[(0,_),(3,_)]) X X (I7 _ _)) (CE M X G7 λg3 w2 hg3 M=>BX M 0 X X BM X λw3 M=>W ?_);refine CQ M 9 X X call34 (a1V q.nm _ hn) λw4 M=>yb X (fvm M 4 [2,1] [(14,.bool ((B5 q.nm)&&(O ((chk (⟨3,0,zy,q.key⟩:Vl))=(0:Int)))))] ?_ (λk10=>?_))
 ·intro w5 M;refine yb X (fvm M 5 [2,1] [(20,.bool (((B5 q.nm)&&(O ((chk (⟨3,0,zy,q.key⟩:Vl))=(0:Int))))&&(O ((FF [] q.vars)=(0:Int)))))] ?_ (λk15=>?_))
  ·intro w6 M;refine yb X (fvm M 4 [2,1] [(25,.bool ((((B5 q.nm)&&(O ((chk (⟨3,0,zy,q.key⟩:Vl))=(0:Int))))&&(O ((FF [] q.vars)=(0:Int))))&&(O ((0:Int)≤q.un))))] ?_ (λk21=>?_))
   ·intro w7 M;refine yb X (fvm M 4 [2] [(30,.bool (((((B5 q.nm)&&(O ((chk (⟨3,0,zy,q.key⟩:Vl))=(0:Int))))&&(O ((FF [] q.vars)=(0:Int))))&&(O ((0:Int)≤q.un)))&&(O (q.un≤(1099512676352:Int)))))] ?_ (λk26=>?_))
    ·intro w8 M;refine W ?_;exact gr1 X ⟨X,M.fr⟩
    refine A1 (d:=26) X (λh26=>?_) (λh26=>?_)
    ·refine T4 ?_;exact k26 M
    refine T4 ?_;exact k26 M
   refine A1 (d:=21) X (λh21=>?_) (λh21=>?_)
   ·refine T4 ?_;exact k21 M
   refine T4 ?_;exact k21 M
  refine A1 (d:=15) X (λh15=>?_) (λh15=>?_)
  ·refine W ?_;refine sxl_call (G 18) kw X X (AE X X call36) (ZI q.V q.vc q.vars _ hq.ok (hq.fr0 M.fr).V) ?_;rintro _ w9 ⟨rfl,hfw9⟩;refine cq ?_;have M:=M.step hfw9;refine T2 ?_;exact k15 M
  refine T5 ?_;exact k15 M
 refine A1 (d:=10) X (λh10=>?_) (λh10=>?_)
 ·refine yd X (AJ (xs:=[.int .u8 3,AA 0,.bool zy,str q.key]) X X (M.rdBlk 0 X X) By X BM) (sxl_call (G 12) kw X X (AE X X call35) (NA (⟨3,0,zy,q.key⟩:Vl) _ hk) ?_);rintro _ w10 ⟨rfl,hfw10⟩;refine cq ?_;have M:=M.step hfw10;refine T2 ?_;exact k10 M
 refine T4 ?_;exact k10 M
end Go.Proofs.YtppmdnmjepkfaaaGreatDoor
