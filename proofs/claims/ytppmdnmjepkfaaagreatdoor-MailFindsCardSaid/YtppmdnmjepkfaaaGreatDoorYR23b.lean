/- Lemmas. -/
import Derived.Test.YtppmdnmjepkfaaaGreatDoorYR23
set_option maxHeartbeats 16000000
set_option maxRecDepth 100000
namespace Go.Proofs.YtppmdnmjepkfaaaGreatDoor
open Go.RowKit
theorem fF {α β:Type} {f g:α→Option β}:∀{l:List α},(∀x∈l,f x=g x)→l.filterMap f=l.filterMap g
 | [],_=>rfl
 | x::r,h=>by rw [Hf,Hf,h x Bc,fF λy hy=>h y (Ap _ hy)]
def unP (ap:Pa→Wt→Bool):List Pa→Nat→List Ht
 | [],_=>[]
 | x::r,j=>(JU x j).filterMap (LT ap x)++unP ap r (j+1)
theorem pX (ap:Pa→Wt→Bool):∀(l pre:List Pa),(HI l pre.length).filterMap (λs=>((pre++l)[s.pl.toNat]?).bind λx=>LT ap x s)=unP ap l pre.length
 | [],_=>rfl
 | x::r,pre=>by
  have ih:=pX ap r (pre++[x]);rw [Ah,Gy,By,Gx] at ih
  rw [HI,Gz,ih,unP]
  congr 1
  refine fF λs hs=>?_
  unfold JU at hs
  split at hs
  ·obtain ⟨t,_,rfl⟩:=Ch.1 hs
   show ((pre++x::r)[((pre.length:Int)).toNat]?).bind _=_
   rw [Es,Cc (Ab _),Fy];rfl
  cases hs
theorem a0F (ap:Pa→Wt→Bool) (l:List Pa):a0G l ap=unP ap l 0:=pX ap l []
theorem qT {w:Kw} {x:Pa} {y:Pq} (hx:PaOk w x) (hm:y.m=x.m) (hi:y.i=x.i) (hs:x.p.isSome=GU x.m):d6 y = !runP x:=by
 unfold d6 runP;rw [hm,hi,hs,eV]
 cases hn:GU x.m with
 | false=>rfl
 | true=>
  rcases hx.cr with h|⟨gc,h,hC,_,_⟩
  ·rw [h,hn] at hs;cases hs
  rw [o3 (rK hn) hC.cz]
  generalize I6 x.m x.c x.i 2147483647 1099511627776=b
  generalize decide ((x.i.st.toNat:Int)=1)=d
  cases b<;>cases d<;>rfl
theorem cR {q:Mq} {sg:Bool} {y:Pq} {ap:Wt→Bool}:∀{ws:List Wt},(∀u∈ws,u.via≠[])→(∀u,TQ q sg y u=ap u)→UJ q sg y ws=((ws.find? ap).map (λu=>u.via)).getD []
 | [],_,_=>rfl
 | u::r,h,ha=>by
  rw [UJ,List.find?_cons,ha u]
  cases ap u with
  | true=>rw [if_pos rfl,if_neg (h u Bc)];rfl
  | false=>rw [if_neg Gd];exact cR (λv hv=>h v (Ap _ hv)) ha
theorem zU {w:Kw} {x:Pa} {y:Pq} (hx:PaOk w x) (hr:runP x=true) (hm:y.m=x.m) (hi:y.i=x.i) {q:Mq} {sg:Bool} {ap:Pa→Wt→Bool} (ha:∀u,TQ q sg y u=ap x u) {t:Tk} (ht:t∈x.i.toks) (j:Nat) :
 LT ap x ⟨(j:Int),t⟩=if VO q sg y t=[] then none else some ⟨(j:Int),t.id,VO q sg y t⟩:=by
 obtain ⟨gc,_,hC,hn,_⟩:=OD hx hr;have R:=rK hn;have Z:=hC.cz;have hck:=xE hr;have hv:=(gB hck).1.2.2.2.2.2;have hp:=((gB hck).2 _ ht).1
 have hne:∀u∈(D5 x.m x.c t x.i.vars).1,u.via≠[]:=λu hu=>by
  have h1:u.via∈EI x.m x.c t:=by
   rw [←(pQ R Z hv hp).2];exact En hu
  obtain ⟨_,z,hz,he,_⟩:=VN R Z (.inl h1);rw [←he];intro h
  have:=R.elN z hz
  rw [h] at this;cases this
 have hV:VO q sg y t=(((D5 x.m x.c t x.i.vars).1.find? (ap x)).map (λu=>u.via)).getD []:=by
  unfold VO;rw [hm,hi,gQ R Z];exact cR hne ha
 rw [hV];unfold LT
 split
 ·cases hf:(D5 x.m x.c t x.i.vars).1.find? (ap x) with
  | none=>rfl
  | some u=>rw [Dc,Dc,Ct,if_neg (hne u (List.mem_of_find?_eq_some hf))]
 rename_i h2
 have:(D5 x.m x.c t x.i.vars).1=[]:=by
  unfold D5 at h2 ⊢
  split
  ·rfl
  rename_i h3
  rw [if_neg h3] at h2
  split
  ·rfl
  rename_i h4
  rw [h4] at h2
  exact absurd X h2
 rw [this];rfl
theorem VT {w:Kw} {x:Pa} {y:Pq} (hx:PaOk w x) (hr:runP x=true) (hm:y.m=x.m) (hi:y.i=x.i) {q:Mq} {sg:Bool} {ap:Pa→Wt→Bool} (ha:∀u,TQ q sg y u=ap x u) (j:Nat):∀(ts:List Tk) (hs:List Ht),(∀t∈ts,t∈x.i.toks)→NC q sg y j ts hs=((ts.map (λt=>(⟨(j:Int),t⟩:St))).filterMap (LT ap x)).foldl (UO hkey) hs
 | [],_,_=>rfl
 | t::r,hs,h=>by
  have e:=zU hx hr hm hi ha (h t Bc) j;rw [NC,Cj]
  by_cases hv:VO q sg y t=[]
  ·rw [if_pos hv] at e
   rw [if_pos hv,Gi e];exact VT hx hr hm hi ha j r hs λz hz=>h z (Ap _ hz)
  rw [if_neg hv] at e
  rw [if_neg hv,Gh e,Ia];exact VT hx hr hm hi ha j r _ λz hz=>h z (Ap _ hz)
theorem vR {w:Kw} {q:Mq} {sg:Bool} {ap:Pa→Wt→Bool} (ha:∀(x:Pa) (y:Pq) (u:Wt),y.m=x.m→TQ q sg y u=ap x u):∀(L:List Pa) (l:List Pq) (j:Nat) (hs:List Ht),(∀x∈L,PaOk w x)→(∀x∈L,x.p.isSome=GU x.m)→L.map (λx=>(x.m,x.i))=l.map (λx=>(x.m,x.i))→PQ q sg l j hs=(unP ap L j).foldl (UO hkey) hs
 | [],[],_,_,_,_,_=>rfl
 | [],_::_,_,_,_,_,h=>by cases h
 | _::_,[],_,_,_,_,h=>by cases h
 | x::L,y::l,j,hs,h1,h2,h3=>by
  rw [Cj,Cj] at h3
  injection h3 with h4 h5
  injection h4 with hm hi
  have hx:=h1 x Bc;have ih:=λhs=>vR ha L l (j+1) hs (λz hz=>h1 z (Ap _ hz)) (λz hz=>h2 z (Ap _ hz)) h5
  rw [PQ,unP,De,qT hx hm.symm hi.symm (h2 x Bc),ih,ih];unfold JU
  cases hr:runP x with
  | true=>
   rw [if_neg AV,if_pos rfl,←hi];rw [VT hx hr hm.symm hi.symm (λu=>ha x y u hm.symm) j x.i.toks hs λ_ h=>h]
  | false=>rw [if_pos AV,if_neg Gd];rfl
theorem Y7 {w:Kw} {L:List Pa} {l:List Pq} (h1:∀x∈L,PaOk w x) (h2:∀x∈L,x.p.isSome=GU x.m) (h3:L.map (λx=>(x.m,x.i))=l.map (λx=>(x.m,x.i))) {ss:List St} (hs:SsP L ss) {q:Mq} {sg:Bool} {ap:Pa→Wt→Bool} (ha:∀(x:Pa) (y:Pq) (u:Wt),y.m=x.m→TQ q sg y u=ap x u):DV L ap ss=PQ q sg l 0 []:=by
 rw [tT hs,a0F,vR ha L l 0 [] h1 h2 h3]
theorem a2J (q:Mq) (x:Pa) (y:Pq) (u:Wt) (h:y.m=x.m):TQ q false y u=N2 q x u:=by
 unfold TQ N2;rw [h]
 generalize decide ((u.ev.toNat:Int)=3)=a0
 generalize decide ((u.ev.toNat:Int)=2)=a1
 generalize decide (u.nm=q.nm)=a2
 generalize decide (u.key=q.key)=a3
 generalize decide (I5 x.m.vars q.vars=(0:Int))=a4
 cases a0<;>cases a1<;>cases a2<;>cases a3<;>cases a4<;>rfl
theorem a2I (q:Mq) (x:Pa) (y:Pq) (u:Wt) (_:y.m=x.m):TQ q true y u=(λ(_:Pa)=>PZ q.nm) x u:=by
 show TQ q true y u=PZ q.nm u
 unfold TQ PZ
 generalize decide ((u.ev.toNat:Int)=3)=a0
 generalize decide ((u.ev.toNat:Int)=2)=a1
 generalize decide (u.nm=q.nm)=a2
 generalize decide (u.key=q.key)=a3
 generalize decide (I5 y.m.vars q.vars=(0:Int))=a4
 cases a0<;>cases a1<;>cases a2<;>cases a3<;>cases a4<;>rfl
open Tryz
def Ht.same (a b:Ht):Bool:=decide (a.pl=b.pl)&&(decide (a.tok=b.tok)&&(decide (a.via=b.via)))
theorem tS : prog.eqGuardType prog.depth 32=false:=by kernel_rfl
theorem zT : prog.stoodInHeld 32=false:=by kernel_rfl
theorem oB : prog.underlying 32=some (.struct (prog.fieldsOf 32)):=by kernel_rfl
theorem a1P {w:Kw} (a b:Ht):(Op.equalIn 10000 32 (.agg a.cells.toArray) (.agg b.cells.toArray)).run prog w=.ok (a.same b) w:=by
 have s_:∀(u v:Kz),(Op.equalIn 9999 9 (str u) (str v)).run prog w=.ok (decide (u=v)) w:=λu v=>by
  have:=run_equalIn_string (P:=prog) w 9998 9 ⟨u.toArray⟩ ⟨v.toArray⟩ Aa
  unfold str;rw [this,ByteArray.toList_eq,ByteArray.toList_eq]
  by_cases huv:u=v<;>simp [huv]
 have i_:∀(t:Nat) (k:IntKind) (u v:Int),prog.underlying t=some (.int k)→(Op.equalIn 9999 t (.int k u) (.int k v)).run prog w=.ok (decide (u=v)) w:=λt k u v ht=>by
  have:=run_equalIn_int (P:=prog) w 9998 t k k u v ht
  rw [this];by_cases huv:u=v<;>simp [huv]
 rw [run_equalIn_struct w 9999 32 _ _ oB zT];have hl:(prog.fieldsOf 32).toList=(match prog.underlying 32 with|some (.struct fs)=>fs.toList|_=>[]):=by unfold Program.fieldsOf;rw [Ex]
 rw [hl,Ex]
 simp only
 have N_:=isAgg3 w;have S_:=isAgg9 w;rw [BF (a:=AA a.pl) (b:=AA b.pl) AV (BB N_ rfl) (BB N_ rfl) (i_ _ _ _ _ Bg)];refine FA ?_;rw [BF (a:=AA a.tok) (b:=AA b.tok) AV (BB N_ rfl) (BB N_ rfl) (i_ _ _ _ _ Bg)];refine FA ?_;rw [BF (a:=str a.via) (b:=str b.via) AV (BB S_ rfl) (BB S_ rfl) (s_ _ _),NR]
 cases (decide (a.via=b.via))<;>rfl
theorem vU {e:Env} {w:Kw} {o:Oper} {t':Nat} {x y:Lz} {a b:Ht} (ho:o.op=.binOp .neq 32 x y t') (hx:ev e x=some (.agg a.cells.toArray)) (hy:ev e y=some (.agg b.cells.toArray)):Y prog e o w (.bool (!(a.same b))):=λρ h=>by
 have h1:ρ x=.agg a.cells.toArray:=h _ _ hx;have h2:ρ y=.agg b.cells.toArray:=h _ _ hy;have hg:=run_eqGuard_agg (P:=prog) w .neq 32 x y a.cells.toArray b.cells.toArray tS;unfold execOp;simp only [ho,h1,h2,Sem.run_bind,hg,Result.andThen_ok,run_neq_struct,a1P a b]
 rfl
theorem zS {a b:Ht} (h:a=b):(!(a.same b))=false:=by subst h;simp [Ht.same]
theorem zY (W:List Ht):∃(h0:Ht) (b0:Bool),uG W=.tuple #[.agg h0.cells.toArray,.bool b0]∧b0=decide (0<(W.length:Int))∧(b0=true→0<W.length∧[h0]=W.take 1)∧(b0=false→h0=zeroHt):=by
 cases W with
 | nil=>exact ⟨zeroHt,false,rfl,rfl,(λh=>by cases h),λ_=>rfl⟩
 | cons h r=>exact ⟨h,true,rfl,by rw [decide_eq_true];rw [Af];omega,λ_=>⟨by rw [Af];omega,rfl⟩,(λh=>by cases h)⟩
theorem a2c {e:Env} {w:Kw} {o:Oper} {t':Nat} {x y:Lz} {a b:Ht} (h:a=b) (ho:o.op=.binOp .neq 32 x y t') (hx:ev e x=some (.agg a.cells.toArray)) (hy:ev e y=some (.agg b.cells.toArray)):Y prog e o w (.bool false):=by
 have:=vU (w:=w) ho hx hy
 rwa [zS h] at this
theorem rL {w:Kw} {A:Ky} {h:Ht} {W:List Ht} (e:[h]=W.take 1) (hr:Rd w A (W.length*3) (AE Ht.cells W)) (h0:0<W.length):Rd w A ((W.take 1).length*3) (AE Ht.cells (W.take 1)):=by
 have:=WI (n:=1) Ht.len hr h0
 rwa [show (W.take 1).length=1 from by rw [←e];rfl]
theorem xS {w:Kw} {A:Ky} {h:Ht} (hr:Rd w A 3 h.cells):Rd w A ([h].length*3) (AE Ht.cells [h]):=hr
theorem yG {L:List Pa} {l:List Pq} (h:L.map (λx=>(x.m,x.i))=l.map (λx=>(x.m,x.i))) {j:Nat} {x:Pa} {y:Pq} (hx:L[j]?=some x) (hy:l[j]?=some y):x.i=y.i:=by
 have:=Ay (λz=>z[j]?) h
 simp only [Bu,hx,hy,Dc,Ad,Av] at this
 exact this.2
def As.rawA (A:Ky) (n c:Nat) (t:Ly) (size:Nat):As:=⟨(Value.slice A n c).ownBlock.toList,λw=>n=0∨∃g cs,A=some ⟨g,0,Option.none⟩∧Blk w g t cs∧n*size≤cs.length,λ{w w'} h hb=>by
 rcases hb with hb|⟨g,cs,rfl,hb,hl⟩
 ·exact .inl hb
 exact .inr ⟨g,cs,X,(h g (by simp [Value.ownBlock]) hb.lt).trans hb,hl⟩⟩
theorem a1l {w:Kw} {n c t size:Nat} {A:Ky} (h:(As.rawA A n c t size).ok w) (hn:0<n):∃g cs,A=some ⟨g,0,none⟩∧Blk w g t cs∧n*size≤cs.length:=Or.resolve_left h A0
theorem xU {w:Kw} {base size n c:Nat} {t:Ly} {A:Ky} {xs:Kx} (h:w.ownsRow base t size (.slice A n c) n xs):(As.rawA A n c t size).ok w:=by
 rcases h.2 with ⟨_,h0⟩|⟨g,cap,cur,hv,_,hg,hc,_,hs,_⟩
 ·exact .inl h0
 injection hv with h1 h2 h3
 exact .inr ⟨g,cur.toList,h1,by simpa [Blk] using hg,by have:=Ds size hc;simp;omega⟩
theorem qN {P:Lw} {Q:Exit→Act→Kw→Prop} {n:Nat} {e:Env} {w w0:Kw} {S:Nat→Prop} {L:List As} {ops:Array Oper} {o:Oper} {rest:List Oper} (M:Mem w0 S L w) (i:Nat) (hw:Wn ops e o) (hd:o.dst=none) {ty g off t m c size:Nat} {A:Ky} {x y:Lz} {v:Kv} (ho:o.op=.store ty x y) (hx:ev e x=some (.pointer (some ⟨g,off,none⟩))) (hy:ev e y=some v) (hi:L[i]?=some (As.rawA A m c t size)) (hA:A=some ⟨g,0,none⟩)
 (hv:v.cells = #[v]) (h1:v.oneCell'=true) (hsz:(P.info? ty).map (·.size)=some 1) (hl:off<m*size)
 (k:∀w',Mem w0 S L w'→SxL P ops Q n rest e w'):SxL P ops Q n (o::rest) e w:=by
 rcases M.ok i _ hi with h0|⟨g',cs,hA',hb,hle⟩
 ·rw [h0,Fi] at hl;omega
 rw [hA] at hA'
 obtain rfl:g=g':=by simpa using hA'
 refine sxl_does none hw hd X (λρ hρ=>DW ty x y ho g off t cs v (hρ _ _ hx) (hρ _ _ hy) hv hb hsz A0 h1) ?_;rintro _ w1 ⟨rfl,hb1,hf⟩;have M1:=M.upd i hi (hf.mono λk _ hk=>by subst hA;simpa [As.rawA,Value.ownBlock] using hk) (As.rawA A m c t size) (.inr ⟨g,_,hA,hb1,by rw [Gw];exact hle⟩) (λg' hg'=>.inl hg')
 have e1:L.set i (As.rawA A m c t size)=L:=by
  apply Dx
  intro j
  by_cases hj:i=j
  ·subst hj;rw [Dk (Aj.1 hi).1,hi]
  rw [Du hj]
 rw [e1] at M1
 exact k w1 M1
theorem OB : (prog.info? 25).map (·.size)=some 4:=by kernel_rfl
theorem nA (a:Vl) (w:Kw):Calls prog 61 #[.agg a.cells.toArray,.agg a.cells.toArray] w (BS w (AA 0)):=by
 refine BR func61 ntmps61 X λM=>W ?_
 refine CO M X X λg2 w1 hg2 M=>CO M X X λg3 w2 hg3 M=>W ?_
 refine AB X (λh5=>?_) (λh5=>?_)
 ·exact absurd h5 (by simp)
 refine W ?_;refine AB X (λh17=>?_) (λh17=>?_)
 ·exact absurd h17 (by simp)
 refine W ?_;refine ya X (SH X X X Ei) (W ?_);refine AB X (λh29=>?_) (λh29=>?_)
 ·exact absurd h29 (by simp)
 refine W ?_;refine AB X (λh38=>?_) (λh38=>?_)
 ·exact absurd h38 (by simp)
 refine W ?_;exact gr1 X ⟨X,M.fr⟩
theorem xT {a b:Vl} (h:a=b) (w:Kw):Calls prog 61 #[.agg a.cells.toArray,.agg b.cells.toArray] w (BS w (AA 0)):=by
 subst h;exact nA a w
theorem dL (A B:Ky) (c d:Nat) (l1 l2:List Bd) (w:Kw) (hl:l1=l2) (hbl:l1.length≤4611686018427387904) (hA:Rd w A (l1.length*5) (AE Bd.cells l1)) (hB:Rd w B (l2.length*5) (AE Bd.cells l2)) :
 Calls prog 31 #[.slice A l1.length c,.slice B l2.length d] w (BS w (.bool true)):=by
 have hl2:l2.length=l1.length:=by rw [hl]
 refine BR func31 ntmps31 X λM=>W ?_
 refine AB X (λh10=>?_) (λh10=>?_)
 ·exact absurd h10 (by rw [hl];simp)
 have h10p:=(odt (BO h10));refine W ?_;refine EF M [1,0] (λze zF e wr mz=>∃(j:Nat),e=(5,AA (j:Int))::ze∧zF wr∧(j≤l1.length)∧mz=l1.length-j) ⟨0,X,M,Ae _,X⟩ ?_;rintro _ w1 _ ⟨j,rfl,M,hj,rfl⟩;refine W ?_;refine AB X (λh14=>?_) (λh14=>?_)
 ·have h14p:=odt h14;refine W ?_;refine EB 22 CA gkr ?_;have M:=M.drew;refine W ?_;obtain ⟨x,_,_,hx,hA_x⟩:=ex5 (i:=j) (hA.fr0 M.fr);refine sa X (AK j hA_x X X X (sl X) A0) (sb X (sd X X (BD Bd.len (hA.fr0 M.fr) hA_x hx 0 X) (W ?_)));obtain ⟨y,_,_,hy,hA_y⟩:=ex5 (i:=j) (hB.fr0 M.fr);have hxy:y=x:=Bs (hy.symm.trans ((Ay (λl:List Bd=>l[j]?) hl).symm.trans hx));refine sa X (AK j hA_y X X X (sl X) A0) (sb X (sd X X (BD Bd.len (hB.fr0 M.fr) hA_y hy 0 X) (W ?_)));refine C1 (d:=28) X (λh28=>?_) (λh28=>?_)
  ·exact absurd h28 (by rw [hxy];simp)
  have h28p:=(odt (BO h28));refine W ?_;refine gsg X (AK j hA_x X X X (sl X) A0) (gsg X (yp X) (gsg X (AI (xs:=Vl.cells x.v) X X (K6 Bd.len (hA.fr0 M.fr) hA_x hx 1 4 X X) Br X BQ) (W ?_)));refine gsg X (AK j hA_y X X X (sl X) A0) (gsg X (yp X) (gsg X (AI (xs:=Vl.cells y.v) X X (K6 Bd.len (hB.fr0 M.fr) hA_y hy 1 4 X X) Br X BQ) (D6 (sxl_call (some 39) kw X X (AD X X call61) (xT (Ay (λz:Bd=>z.v) hxy.symm) _) ?_))));rintro _ w2 ⟨rfl,hfw2⟩;refine cq ?_;have M:=M.step hfw2;refine W ?_;refine fag ⟨j+1,X,M,?_,X⟩
  ·omega
 refine W ?_;exact gr1 X ⟨X,M.fr⟩
theorem iE (i k:In) (V T V2 T2:Ky) (vc tc vc2 tc2:Nat) (w:Kw) (hi:i=k) (hbl:i.vars.length≤4611686018427387904) (htl:i.toks.length≤300) (hV:Rd w V (i.vars.length*5) (AE Bd.cells i.vars)) (hT:Rd w T (i.toks.length*9) (AE Tk.cells i.toks)) (hV2:Rd w V2 (k.vars.length*5) (AE Bd.cells k.vars)) (hT2:Rd w T2 (k.toks.length*9) (AE Tk.cells k.toks)) :
 Calls prog 11 #[.agg (In.cells i V T vc tc).toArray,.agg (In.cells k V2 T2 vc2 tc2).toArray] w (BS w (.bool true)):=by
 have hl2:k.toks.length=i.toks.length:=by rw [hi]
 refine BR func11 ntmps11 X λM=>W ?_
 refine CO M X X λg2 w1 hg2 M=>CO M X X λg3 w2 hg3 M=>W ?_
 refine fvm M 6 [3,2] [(17,.bool ((!decide (i.id=k.id)) || (!decide (i.mdl=k.mdl))))] ?_ (λk11=>?_)
 ·intro w3 M;refine yb X (fvm M 6 [3,2] [(24,.bool (((!decide (i.id=k.id)) || (!decide (i.mdl=k.mdl))) || (!decide ((i.st.toNat:Int)=(k.st.toNat:Int)))))] ?_ (λk18=>?_))
  ·intro w4 M;refine yb X (fvm M 7 [3,2] [(32,.bool ((((!decide (i.id=k.id)) || (!decide (i.mdl=k.mdl))) || (!decide ((i.st.toNat:Int)=(k.st.toNat:Int)))) || false))] ?_ (λk25=>?_))
   ·intro w5 M;refine yb X (fvm M 8 [3,2] [(41,.bool (((((!decide (i.id=k.id)) || (!decide (i.mdl=k.mdl))) || (!decide ((i.st.toNat:Int)=(k.st.toNat:Int)))) || false) || (!decide ((i.toks.length:Int)=(k.toks.length:Int)))))] ?_ (λk33=>?_))
    ·intro w6 M;refine W ?_;refine AB X (λh41=>?_) (λh41=>?_)
     ·have h41p:=bd h41;exact absurd h41 (by rw [hi];simp)
     have h41p:=bd h41;refine W ?_;refine EF M [3,2] (λze zF e wr mz=>∃(j:Nat),e=(5,AA (j:Int))::ze∧zF wr∧(j≤i.toks.length)∧mz=i.toks.length-j) ⟨0,X,M,Ae _,X⟩ ?_;rintro _ w7 _ ⟨j,rfl,M,hj,rfl⟩;refine W ?_;refine AB X (λh46=>?_) (λh46=>?_)
     ·have h46p:=odt h46;refine W ?_;refine CS CA gkr ?_;have M:=M.drew;refine W ?_;obtain ⟨x,_,_,hx,hA_x⟩:=ex5 (i:=j) (hT.fr0 M.fr);refine sa X (AK j hA_x X X X (sl X) A0) (sa X (AI X X (BM Tk.len (hT.fr0 M.fr) hA_x hx) Bm X BA) (W ?_));obtain ⟨y,_,_,hy,hA_y⟩:=ex5 (i:=j) (hT2.fr0 M.fr);have hxy:y=x:=Bs (hy.symm.trans ((Ay (λl:In=>l.toks[j]?) hi).symm.trans hx));refine sa X (AK j hA_y X X X (sl X) A0) (sa X (AI X X (BM Tk.len (hT2.fr0 M.fr) hA_y hy) Bm X BA) (sa X (vT (a:=x) (b:=y) X X X) (W ?_)));refine AB X (λh59=>?_) (λh59=>?_)
      ·exact absurd h59 (by rw [hxy];simp [Tk.same])
      have h59p:=BO h59;refine W ?_;refine fag ⟨j+1,X,M,?_,X⟩
      ·omega
     refine W ?_;exact gr1 X ⟨X,M.fr⟩
    refine A1 (d:=33) X (λh33=>?_) (λh33=>?_)
    ·refine T8 ?_;exact k33 M
    refine T8 ?_;exact k33 M
   refine A1 (d:=25) X (λh25=>?_) (λh25=>?_)
   ·refine T7 ?_;exact k25 M
   refine W ?_;refine sxl_call (some 30) kw X X (AD X X call31) (dL V V2 vc vc2 i.vars k.vars _ (Ay (λl:In=>l.vars) hi) hbl (hV.fr0 M.fr) (hV2.fr0 M.fr)) ?_;rintro _ w8 ⟨rfl,hfw8⟩;refine cq ?_;have M:=M.step hfw8;refine Go.Proofs.YtppmdnmjepkfaaaGreatDoor.T2 ?_;exact k25 M
  refine A1 (d:=18) X (λh18=>?_) (λh18=>?_)
  ·refine T6 ?_;exact k18 M
  refine T6 ?_;exact k18 M
 refine A1 (d:=11) X (λh11=>?_) (λh11=>?_)
 ·refine T6 ?_;exact k11 M
 refine T6 ?_;exact k11 M
theorem WY (A B:Ky) (c d n:Nat) (l1 l2:List Ht) (w:Kw) (hl:l1=l2) (hn:l1.length=n) (hbl:l1.length≤4611686018427387904) (hA:Rd w A (l1.length*3) (AE Ht.cells l1)) (hB:Rd w B (l2.length*3) (AE Ht.cells l2)) :
 Calls prog 9 #[.slice A n c,.slice B n d] w (BS w (.bool true)):=by
 subst hn;have hl2:l2.length=l1.length:=by rw [hl]
 refine BR func9 ntmps9 X λM=>W ?_
 refine AB X (λh10=>?_) (λh10=>?_)
 ·exact absurd h10 (by simp)
 have h10p:=(odt (BO h10));refine W ?_;refine EF M [1,0] (λze zF e wr mz=>∃(j:Nat),e=(5,AA (j:Int))::ze∧zF wr∧(j≤l1.length)∧mz=l1.length-j) ⟨0,X,M,Ae _,X⟩ ?_;rintro _ w1 _ ⟨j,rfl,M,hj,rfl⟩;refine W ?_;refine AB X (λh14=>?_) (λh14=>?_)
 ·have h14p:=odt h14;refine W ?_;refine CS CA gkr ?_;have M:=M.drew;refine W ?_;obtain ⟨x,_,_,hx,hA_x⟩:=ex5 (i:=j) (hA.fr0 M.fr);refine sa X (AK j hA_x X X X (sl X) A0) (sb X (sd X X (BD Ht.len (hA.fr0 M.fr) hA_x hx 0 X) (W ?_)));obtain ⟨y,_,_,hy,hA_y⟩:=ex5 (i:=j) (hB.fr0 M.fr);have hxy:y=x:=Bs (hy.symm.trans ((Ay (λl:List Ht=>l[j]?) hl).symm.trans hx));refine sa X (AK j hA_y X X X (sl X) A0) (sb X (sd X X (BD Ht.len (hB.fr0 M.fr) hA_y hy 0 X) (W ?_)));refine fvs 12 [5,1,0] [(40,.bool ((!decide (x.pl=y.pl)) || (!decide (x.tok=y.tok))))] ?_ (λk28=>?_)
  ·refine sb X (fvs 12 [5,1,0] [(53,.bool (((!decide (x.pl=y.pl)) || (!decide (x.tok=y.tok))) || (!decide (x.via=y.via))))] ?_ (λk41=>?_))
   ·refine W ?_;refine AB X (λh53=>?_) (λh53=>?_)
    ·have h53p:=bd h53;exact absurd h53 (by rw [hxy];simp)
    have h53p:=bd h53;refine W ?_;refine fag ⟨j+1,X,M,?_,X⟩
    ·omega
   refine C1 (d:=41) X (λh41=>?_) (λh41=>?_)
   ·refine T12 ?_;exact k41 _ ⟨X,X,X,(by rw [h41];rfl),trivial⟩
   refine W ?_;refine gsg X (AK j hA_x X X X (sl X) A0) (gsg X (yp X) (gsg X (B2 X X (sc X) (BD Ht.len (hA.fr0 M.fr) hA_x hx 2 X)) (W ?_)));refine gsg X (AK j hA_y X X X (sl X) A0) (gsg X (yp X) (gsg X (B2 X X (sc X) (BD Ht.len (hB.fr0 M.fr) hA_y hy 2 X)) (T2 ?_)));exact k41 _ ⟨X,X,X,(by rw [h41];rfl),trivial⟩
  refine C1 (d:=28) X (λh28=>?_) (λh28=>?_)
  ·refine T12 ?_;exact k28 _ ⟨X,X,X,(by rw [h28];rfl),trivial⟩
  refine W ?_;refine gsg X (AK j hA_x X X X (sl X) A0) (gsg X (yp X) (gsg X (B2 X X (sc X) (BD Ht.len (hA.fr0 M.fr) hA_x hx 1 X)) (W ?_)));refine gsg X (AK j hA_y X X X (sl X) A0) (gsg X (yp X) (gsg X (B2 X X (sc X) (BD Ht.len (hB.fr0 M.fr) hA_y hy 1 X)) (T2 ?_)));exact k28 _ ⟨X,X,X,(by rw [h28];rfl),trivial⟩
 refine W ?_;exact gr1 X ⟨X,M.fr⟩
theorem WW (A:Ky) (cp:Nat) (l:List Pq) (q:Mq) (w:Kw) (hP:Pqs w A l) (hq:MqOk w q) (hY:Lay0 w) :
 Calls prog 3 #[.slice A l.length cp,.agg q.cells.toArray] w (BS w (.bool true)):=by
 refine BR func3 ntmps3 X λM=>W ?_
 refine DG M kw X X 25 X X (q.cells) X λg3 w1 hg3 M=>W ?_
 refine CW M 14 X X call5 (nZ A cp l _ (hP.fr0 M.fr)) λw2 M=>W ?_
 refine AB X (λh14=>?_) (λh14=>?_)
 ·refine W ?_;exact gr1 X ⟨X,M.fr⟩
 obtain ⟨h8,hbig⟩:=o0 h14;refine W ?_;refine cl 16 X (AD X X call6) (dX A cp l _ (hP.fr0 M.fr) hbig h8 (hY.fr0 M.fr)) ?_;rintro _ w3 ⟨L,AL,cL,rfl,hoL,hokL,hmL,hlL,hsL,hfw3⟩;refine cq ?_;have M:=M.step hfw3;have hPt:Pts w3 AL L:=⟨OH hoL,hokL,by omega⟩;have hLl:=hPt.len;have hB:Blk _ g3 25 q.cells:=M.blk 0 X;have hfw:=M.fr
 replace hY:=hY.fr0 hfw
 replace hq:=hq.fr0 hfw
 replace hP:=hP.fr0 hfw
 clear M
 rename Kw=>w
 have M:=a31 w;refine W ?_;refine ya X (AI (xs:=[str q.nm,str q.key,.slice q.V q.vars.length q.vc,AA q.un]) X X (DR (hB.fr0 M.fr) 0 4 X X) Fx X OB) (MF M 19 X (AD X X call7) (Z8 A cp l false q _ (hP.fr0 M.fr) hbig h8 (hq.fr0 M.fr)) λAB0 cB0 w4 M=>?_);obtain ⟨W0,hW0⟩:∃W,W=(PQ q false l 0 []):=⟨_,X⟩
 rw [←hW0] at M ⊢
 refine W ?_;refine ya X (AI (xs:=[str q.nm,str q.key,.slice q.V q.vars.length q.vc,AA q.un]) X X (DR (hB.fr0 M.fr) 0 4 X X) Fx X OB) (cl 23 X (AD X X call8) (Sf.mfind_ok AL cL L q _ (hPt.fr0 M.fr) (hq.fr0 M.fr) (hY.fr0 M.fr)) ?_);rintro _ w5 ⟨ss,hss,rfl,hfw5⟩;rw [Y7 hPt.ok hsL hmL hss (a2J q),←hW0];obtain ⟨h0,b0,hfr,hB0,hF1,hF2⟩:=zY W0;rw [hfr];refine cq ?_;have M:=M.step hfw5;refine W ?_;refine CI M X LX λg7 w6 hg7 M=>BY M 0 X X EW X λw7 M=>W ?_
 refine JC ([(0,.slice A l.length cp),(3,pg g3),(5,.slice AL L.length cL),(50,.bool false)]) (λw'=>Mem w AR [As.blk g7 32 (Ht.cells h0),As.own w.heap.size 82 3 (.slice AB0 W0.length cB0) W0.length (AE Ht.cells W0)] w') ?_ (λkj6=>?_)
 ·intro w8 M;refine W ?_;refine EF M [5,3,0] (λze zF e wr mz=>∃(r:Nat),e=(9,AA (r:Int))::ze∧zF wr∧(r≤2)∧mz=2-r) ⟨0,X,M,Ae _,X⟩ ?_;rintro _ w9 _ ⟨r,rfl,M,hr,rfl⟩;refine W ?_;refine AB X (λh52=>?_) (λh52=>?_)
  ·have h52p:=odt h52;refine T8 ?_;refine yl X X (Blk.c (hB.fr0 M.fr) 0 X) (cl 58 X (AD X X call10) (gR AL cL L q.nm _ (hPt.fr0 M.fr) (hY.fr0 M.fr)) ?_);rintro _ w10 ⟨sw,AW,cW,hsw,rfl,how10,hnW,hfw10⟩;refine cq ?_;have M:=M.pushOwn hfw10 (Ab _) how10;rw [Y7 hPt.ok hsL hmL hsw (a2I q)] at M hnW ⊢
   obtain ⟨W1,hW1⟩:∃W,W=(PQ q true l 0 []):=⟨_,X⟩
   rw [←hW1] at M hnW ⊢
   refine W ?_;refine ya X (AI (xs:=[str q.nm,str q.key,.slice q.V q.vars.length q.vc,AA q.un]) X X (DR (hB.fr0 M.fr) 0 4 X X) Fx X OB) (MF M 62 X (AD X X call7) (Z8 A cp l true q _ (hP.fr0 M.fr) hbig h8 (hq.fr0 M.fr)) λAB1 cB1 w11 M=>?_);rw [←hW1] at M ⊢
   refine CW M 63 X X call9 (WY AW AB1 cW cB1 W1.length W1 W1 _ X X A0 (M.rdOwn 1 X) (M.rdOwn 0 X)) λw12 M=>W ?_
   have M:=M.upd 1 X Fr.refl (As.rawA AW W1.length cW 32 3) (xU (M.own 1 X)) (λg hg=>.inl hg);refine EF M [10,9,5,3,0] (λze zF e wr mz=>∃(k:Nat),e=(11,AA (k:Int))::ze∧zF wr∧(k≤W1.length)∧mz=W1.length-k) ⟨0,X,M,Ae _,X⟩ ?_;rintro _ w13 _ ⟨k,rfl,M,hk,rfl⟩;refine W ?_;refine AB X (λh68=>?_) (λh68=>?_)
   ·have h68p:=odt h68;refine W ?_;obtain ⟨g,cs,hgA,hgb,hgl⟩:=a1l (M.ok 1 _ X) A0;refine ya X (AK k hgA X X X (sl X) A0) (yb X (qN M 1 kw X X X X X hgA X X FU A0 λw14 M=>W ?_));refine fag ⟨k+1,X,M,?_,X⟩
    ·omega
   have h68p:=odf h68;refine W ?_;refine fag ⟨r+1,X,(M.pk [2,3]),?_,X⟩
   ·omega
  have h52p:=odf h52;refine W ?_;refine EF M [5,0] (λze zF e wr mz=>∃(j:Nat),e=(12,AA (j:Int))::ze∧zF wr∧(j≤l.length)∧mz=l.length-j) ⟨0,X,M,Ae _,X⟩ ?_;rintro _ w15 _ ⟨j,rfl,M,hj,rfl⟩;refine W ?_;refine AB X (λh78=>?_) (λh78=>?_)
  ·have h78p:=odt h78;refine W ?_;refine EB 10 CA gkr ?_;have M:=M.drew;refine W ?_;obtain ⟨x,_,_,hx,hA_x⟩:=ex5 (i:=j) ((hPt.fr0 M.fr).rd);have hox:=hPt.ok _ (Ac hx);refine sa X (AK j hA_x X X X (sl X) A0) (sb X (sa X (AI (xs:=In.cells x.i x.V x.T x.vc x.tc) X X (K6 Pa.len ((hPt.fr0 M.fr).rd) hA_x hx 1 5 X X) Ea X DJ) (W ?_)));obtain ⟨y,_,_,hy,hA_y⟩:=ex5 (i:=j) ((hP.fr0 M.fr).rd);have hxy:x.i=y.i:=yG hmL hx hy;refine sa X (AK j hA_y X X X (sl X) A0) (sb X (sa X (AI (xs:=In.cells y.i y.V y.T y.vc y.tc) X X (K6 Pq.len ((hP.fr0 M.fr).rd) hA_y hy 5 5 X X) Ea X DJ) (D6 (CW M 91 X X call11 (iE x.i y.i x.V x.T y.V y.T x.vc x.tc y.vc y.tc _ hxy (by have:=hox.bd.len;omega) hox.tl (hox.fr0 M.fr).V (hox.fr0 M.fr).T ((hP.ok _ (Ac hy)).fr0 M.fr).V ((hP.ok _ (Ac hy)).fr0 M.fr).T) λw16 M=>W ?_))));refine fag ⟨j+1,X,M,?_,X⟩
   ·omega
  refine W ?_;exact gr1 X ⟨X,hfw.trans M.fr⟩
 refine J2 M 25 CA λM=>oc 0 25 X X M (oc 1 25 X X M (oa 2 25 X X M (λ_ M=>I7 X X (sl X)) (oa 3 25 X X M (λ_ M=>JR X X X) (oa 4 25 X X M (λ_ M=>SH X X X Ei) (oc 5 25 X X M (C8 (d:=31) X (λh31=>?_) (λh31=>?_)))))))
 ·exact absurd h31 (by rw [hB0];simp)
 refine ob 6 25 X kw X X M (λ_ M=>yp X) (ob 7 25 X kw X X M (λ_ M=>yp X) (C8 (d:=33) X (λh33=>?_) (λh33=>?_)))
 ·subst h33;obtain ⟨hp0,ht0⟩:=hF1 X;refine ob 8 25 X kw X X M (λ_ M=>AI (xs:=Ht.cells h0) X X (M.rdBlk 0 X X) Ex X EW) (ob 10 25 X kw X X M (λ_ M=>yp X) ?_);have hcp:=M.ownCap 1 X;refine ob 11 25 X kw X X M (λ_ M=>pD 1 X X X (sl X) A0) (B5 9 (some 35) gkr X kw X X (λρ hρ=>DA [.agg (Ht.cells h0).toArray] _ hρ X X X X It RX AV AV (GT X)) ?_);rintro _ w17 ⟨g35,rfl,hg35,hq35,hb35,hfw17⟩
  replace hb35:Blk w17 g35 32 ((Ht.cells h0)):=hb35
  refine ⟨λ_=>M.step hfw17,?_⟩;have M:=M.push hfw17 _ hb35 (CU hg35 hq35)
  replace M:Mem w AR (As.blk g35 32 ((Ht.cells h0))::_) w17:=M
  refine BC 12 (some 38) gkr X kw X X (AD X X call9) (WY (some ⟨g35,0,none⟩) AB0 1 cB0 1 [h0] (W0.take 1) _ ht0 X (by simp) (xS (M.rdBlk 0 X X)) (rL ht0 (M.rdOwn 2 X) A0)) ?_;rintro _ w18 ⟨rfl,hfw18⟩;refine ⟨_,X,λ_=>(M.drop 1).step hfw18,?_⟩;have M:=M.step hfw18;exact ob 13 25 X kw X X (M.drop 1) (λ_ M=>yp X) (ob 14 25 X kw X X (M.drop 1) (λ_ M=>yp X) (oc 15 25 X X (M.drop 1) (oc 16 25 X X (M.drop 1) (ob 17 25 X kw X X (M.drop 1) (λ_ M=>yp X) (ob 18 25 X kw X X (M.drop 1) (λ_ M=>yp X) (ob 19 25 X kw X X (M.drop 1) (λ_ M=>yp X) (AO 20 25 X (M.drop 1) (AO 21 25 X (M.drop 1) (AO 22 25 X (M.drop 1) (ob 23 25 X kw X X (M.drop 1) (λ_ M=>yp X) (oc 24 25 X X (M.drop 1) (fdn (kj6 _ _ (M.drop 1) ⟨X,X,X,X,trivial⟩)))))))))))))
 subst h33;have hz0:=hF2 X;refine AO 8 25 X M (AO 9 25 X M (AO 10 25 X M (AO 11 25 X M (AO 12 25 X M (AO 13 25 X M (ob 14 25 X kw X X M (λ_ M=>yp X) (oc 15 25 X X M (oc 16 25 X X M (ob 17 25 X kw X X M (λ_ M=>yp X) (ob 18 25 X kw X X M (λ_ M=>yp X) (ob 19 25 X kw X X M (λ_ M=>yp X) (ob 20 25 X kw X X M (λ_ M=>AI (xs:=Ht.cells h0) X X (M.rdBlk 0 X X) Ex X EW) (ob 21 25 X kw X X M (λ_ M=>B7 (parts:=[]) X X (UD)) (ob 22 25 X kw X X M (λ_ M=>a2c hz0 X X X) (ob 23 25 X kw X X M (λ_ M=>yp X) ?_)))))))))))))));exact oc 24 25 X X M (fdn (kj6 _ _ M ⟨X,X,X,X,trivial⟩))
end Go.Proofs.YtppmdnmjepkfaaaGreatDoor
