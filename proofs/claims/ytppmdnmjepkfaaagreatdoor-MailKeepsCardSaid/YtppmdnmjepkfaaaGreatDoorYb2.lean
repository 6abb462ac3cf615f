/- Lemmas. -/
import Derived.Test.YtppmdnmjepkfaaaGreatDoorYb1
set_option maxHeartbeats 16000000
set_option maxRecDepth 100000
namespace Go.Proofs.YtppmdnmjepkfaaaGreatDoor
open Go.RowKit
open Decidable renaming decide→O
open Option renaming some→G,none→zx
open Bool renaming true→zz,false→zy
open Go.Proofs.Tryz renaming prog→zv
open Go renaming Calls→zt
section
def AF {α:Type} (cells:α→Kx) (l:List α):Kx:=(l.map cells).flatten
theorem I3 {α:Type} {cells:α→Kx} {k:Nat} (hk:∀x,(cells x).length=k) (l:List α):(AF cells l).length=l.length*k:=by
 unfold AF;rw [P4 (m:=k) (λr hr=>by obtain ⟨x,_,rfl⟩:=Cq.1 hr;exact hk x)]
 simp
theorem vS {α:Type} {cells:α→Kx} {k:Nat} (hk:∀x,(cells x).length=k) {l:List α} {i j:Nat} {x:α} {u:Kv} (hx:l[i]?=G x) (hj:(cells x)[j]?=G u):(AF cells l)[i*k+j]?=G u:=by
 have h1:=cF (m:=k) (l:=l.map cells) (λr hr=>by obtain ⟨x,_,rfl⟩:=Cq.1 hr;exact hk x) (i:=i) (x:=cells x) (by rw [Cb,hx];rfl);have hjk:j<k:=by have:=(An.1 hj).1;rw [hk] at this;exact this
 have h2:(((l.map cells).flatten.drop (i*k)).take k)[j]?=(cells x)[j]?:=Bf (·[j]?) h1;rw [Cj hjk,Ca,hj] at h2
 exact h2
theorem AY {α:Type} (cells:α→Kx) (a b:List α):AF cells (a++b)=AF cells a++AF cells b:=by simp [AF]
theorem DR {w:Kw} {α:Type} {cells:α→Kx} {A:Ky} {k:Nat} (hk0:0<k) {l:List α} {i:Nat} {x:α} (h:Rd w A (l.length*k) (AF cells l)) (hx:l[i]?=G x):∃b off,A=G ⟨b,off,zx⟩:=by
 have hi:=(An.1 hx).1;obtain ⟨b,off,e,_⟩:=h.2 (Nat.mul_pos A0 hk0);exact ⟨b,off,e⟩
theorem BC {w:Kw} {α:Type} {cells:α→Kx} {A:Ky} {k:Nat} (hk:∀x,(cells x).length=k) {l:List α} {i:Nat} {x:α} (h:Rd w A (l.length*k) (AF cells l)) {b off:Nat} (hA:A=G ⟨b,off,zx⟩) (hx:l[i]?=G x) (j:Nat) {u:Kv} (hj:(cells x)[j]?=G u):Cell w.heap b (off+i*k+j) u:=by
 have h1:=vS hk hx hj;have hlt:=(An.1 h1).1;rw [h.1] at hlt
 obtain ⟨b',off',e,hc⟩:=h.2 A0;rw [hA] at e;injection e with e;injection e with e1 e2 _;subst e1;subst e2
 rw [Fp];exact Cell.of (hc _ u h1)
theorem BF {w:Kw} {α:Type} {cells:α→Kx} {A:Ky} {k:Nat} (hk:∀x,(cells x).length=k) {l:List α} {i:Nat} {x:α} (h:Rd w A (l.length*k) (AF cells l)) {b off:Nat} (hA:A=G ⟨b,off,zx⟩) (hx:l[i]?=G x):Rd w (G ⟨b,off+i*k,zx⟩) k (cells x):=
 ⟨hk x,λ_=>⟨b,off+i*k,rfl,λj _ hu=>(BC hk h hA hx j hu).get w rfl⟩⟩
theorem EJ {α:Type} {l:List α} {i:Nat} (h:i<l.length):∃x,l[i]?=G x:=⟨_,Av h⟩
theorem AH {α:Type} {l:List α} {i:Nat} {x:α} (hx:l[i]?=G x):l.drop i=x::l.drop (i+1):=by
 have hlt:=(An.1 hx).1;rw [Eo hlt]
 congr 1
 rw [Av hlt] at hx
 exact Bz hx
theorem AT {α:Type} {l:List α} {i:Nat} {x:α} (hx:l[i]?=G x):l.take (i+1)=l.take i++[x]:=by
 rw [Dl,hx];rfl
def BH (s:Kz):Kx:=[str s]
def XC (i:Int):Kx:=[.int .i64 i]
theorem DN (s:Kz):(BH s).length=1:=rfl
theorem XB (s:Int):(XC s).length=1:=rfl
def ff {α β:Type} (f:α→Option β):List α→Option β
 | []=>zx
 | x::r=>match f x with
  | some v=>G v
  | none=>ff f r
theorem HI {α β:Type} {f:α→Option β} {x:α} {r:List α} {v:β} (h:f x=G v):ff f (x::r)=G v:=by rw [ff,h]
theorem FA {α β:Type} {f:α→Option β} {x:α} {r:List α} (h:f x=zx):ff f (x::r)=ff f r:=by rw [ff,h]
def ffp {α β:Type} (f:List α→α→Option β):List α→List α→Option β
 | _,[]=>zx
 | p,x::r=>match f p x with
  | some v=>G v
  | none=>ffp f (p++[x]) r
theorem XP {α β:Type} {f:List α→α→Option β} {p:List α} {x:α} {r:List α} {v:β} (h:f p x=G v):ffp f p (x::r)=G v:=by rw [ffp,h]
theorem XQ {α β:Type} {f:List α→α→Option β} {p:List α} {x:α} {r:List α} (h:f p x=zx):ffp f p (x::r)=ffp f (p++[x]) r:=by rw [ffp,h]
theorem V8 {b:Bool} (h:b=zy):¬(b=zz):=by rw [h];decide
theorem CJ {b:Bool} (h:(!b)=zz):b=zy:=by cases b<;>simp_all
theorem BL {b:Bool} (h:(!b)=zy):b=zz:=by cases b<;>simp_all
theorem DU {a b:Bool} (h:(a&&b)=zz):a=zz∧b=zz:=by cases a<;>cases b<;>simp_all
theorem JQ {a b:Bool} (h:(a&&b)=zy):a=zy∨b=zy:=by cases a<;>cases b<;>simp_all
theorem M8 {a b:Bool} (h:(a || b)=zz):a=zz∨b=zz:=by cases a<;>cases b<;>simp_all
theorem FL {a b:Bool} (h:(a || b)=zy):a=zy∧b=zy:=by cases a<;>cases b<;>simp_all
theorem FV (s:Kz):∀u∈BH s,u.oneCell'=zz:=by intro u hu;simp only [BH,Au] at hu;subst hu;rfl
theorem fR (s:Int):∀u∈XC s,u.oneCell'=zz:=by intro u hu;simp only [XC,Au] at hu;subst hu;rfl
theorem D5 {α:Type} {cells:α→Kx} (h:∀x,∀u∈cells x,u.oneCell'=zz) {l:List α}:∀u∈AF cells l,u.oneCell'=zz:=by
 intro u hu;obtain ⟨r,hr,hu⟩:=List.mem_flatten.1 hu;obtain ⟨x,_,rfl⟩:=Cq.1 hr;exact h x u hu
theorem CM {a b:Nat} (h:Nat.ble a b=zz):a≤b:=Fa h
theorem MI {w:Kw} {α:Type} {cells:α→Kx} {A:Ky} {k:Nat} (hk:∀x,(cells x).length=k) {l:List α} {i:Nat} {x:α} (h:Rd w A (l.length*k) (AF cells l)) {b off:Nat} (hA:A=G ⟨b,off,zx⟩) (hx:l[i]?=G x) (j m:Nat) {ys:Kx} (hys:((cells x).drop j).take m=ys) (hm:ys.length=m):Rd w (G ⟨b,off+i*k+j,zx⟩) m ys:=
 ⟨hm,λ_=>⟨b,off+i*k+j,rfl,λq u hu=>by
  subst hys;have hq:q<m:=by have:=(An.1 hu).1;omega
  rw [Cj hq,Ca] at hu
  rw [Fp];exact (BC hk h hA hx (j+q) hu).get w X⟩⟩
theorem DO {w:Kw} {g:Nat} {t:Ly} {cs:Kx} (h:Blk w g t cs) (off m:Nat) {ys:Kx} (hys:(cs.drop off).take m=ys) (hm:ys.length=m):Rd w (G ⟨g,off,zx⟩) m ys:=
 ⟨hm,λ_=>⟨g,off,rfl,λq u hu=>by
  subst hys;have hq:q<m:=by have:=(An.1 hu).1;omega
  rw [Cj hq,Ca] at hu
  exact (h.cell (off+q)).trans hu⟩⟩
def jN (l:Kx):Bool:=l.all (·.oneCell')
theorem BN {l:Kx} (h:jN l=zz):∀u∈l,u.oneCell'=zz:=λu hu=>Cu.1 h u hu
theorem LV {w:Kw} {base size n:Nat} {e:Ly} {v:Kv} {xs:Kx} (h:w.ownsRow base e size v n xs):∀g∈v.ownBlock.toList,base≤g∧g<w.heap.size:=λg hg=>by
 obtain ⟨h1,h2⟩:=h.lt g (by simpa using hg);exact ⟨h1,h2⟩
theorem DH {w:Kw} {base size:Nat} {e:Ly} {v:Kv} {n:Nat} {xs:Kx} (h:w.ownsRow base e size v n xs):∃A cap,v=.slice A n cap∧n≤cap:=by
 rcases h.2 with ⟨rfl,h0⟩|⟨g,cap,cur,rfl,hb,hg,hc,hm,hs,ht⟩
 ·subst h0;exact ⟨zx,0,rfl,Af _⟩
 exact ⟨G ⟨g,0,zx⟩,cap,X,hc⟩
theorem MV {w:Kw} {base size:Nat} {e:Ly} {A:Ky} {c n:Nat} {xs:Kx} (h:w.ownsRow base e size (.slice A n c) n xs):Rd w A (n*size) xs:=by
 refine ⟨h.1,λhn=>?_⟩;rcases h.2 with ⟨hv,h0⟩|⟨g,cap,cur,hv,_⟩
 ·subst h0;omega
 injection hv with hA
 subst hA;refine ⟨g,0,X,λj u hu=>?_⟩
 have:=h.cells (g:=g) X j u hu
 rwa [Addr.add_mid] at this
namespace Mem
variable {w0 w w':Kw} {S:Nat→Prop} {L:List As}
theorem nilOwn (M:Mem w0 S L w) (e:Ly) (size:Nat):Mem w0 S (As.own w0.heap.size e size (.slice zx 0 0) 0 []::L) w:=by
 refine M.push Fr.refl _ ?_ (λg hg=>by simp [As.own,Value.ownBlock] at hg);exact ⟨by simp,.inl ⟨rfl,rfl⟩⟩
theorem pushOwn (M:Mem w0 S L w) (hf:Fr0 w w') {base size n:Nat} {e:Ly} {v:Kv} {xs:Kx} (hb:w.heap.size≤base) (h:w'.ownsRow base e size v n xs):Mem w0 S (As.own w0.heap.size e size v n xs::L) w':=by
 have hw:=M.fr.size;refine M.push hf _ (PN h A0) (λg hg=>?_);obtain ⟨h1,h2⟩:=LV h g hg;exact ⟨A0,h2⟩
theorem blkOwn (M:Mem w0 AR L w) (i:Nat) {g t size n:Nat} {cs:Kx} (hi:L[i]?=G (As.blk g t cs)) (hn:cs.length=n*size) (hm:n≤maxLen):Mem w0 AR (L.set i (As.own w0.heap.size t size (.slice (G ⟨g,0,zx⟩) n n) n cs)) w:=by
 have hb:=M.blk i hi
 have hg:w0.heap.size≤g:=by
  rcases (M.lt i _ hi g (by simp [As.blk])).2 with h|h
  ·exact h
  exact h.elim
 refine M.upd i hi Fr.refl _ ?_ (λg' hg'=>.inl (by simpa [As.own,As.blk,Value.ownBlock,eq_comm] using hg'));exact ⟨hn,.inr ⟨g,n,cs.toArray,X,hg,hb,Af _,hm,by simpa using hn,by simp [←hn]⟩⟩
theorem ownLen (M:Mem w0 S L w) (i:Nat) {base e size n:Nat} {v:Kv} {xs:Kx} (hi:L[i]?=G (As.own base e size v n xs)):n≤9223372036854775807:=by
 rcases (M.own i hi).2 with ⟨_,h0⟩|⟨g,cap,cur,_,_,_,hc,hm,_⟩
 ·omega
 unfold maxLen at hm;omega
theorem rdOwn (M:Mem w0 S L w) (i:Nat) {base e size n c:Nat} {A:Ky} {xs:Kx} (hi:L[i]?=G (As.own base e size (.slice A n c) n xs)):Rd w A (n*size) xs:=MV (M.own i hi)
theorem rdBlk (M:Mem w0 S L w) (i:Nat) {g t m:Nat} {cs:Kx} (hi:L[i]?=G (As.blk g t cs)) (hm:cs.length=m):Rd w (G ⟨g,0,zx⟩) m cs:=Rd.ofBlk (M.blk i hi) hm
end Mem
section
variable {P:Lw} {Q:Exit→Act→Kw→Prop} {n:Nat} {e:Env} {w w0:Kw} {S:Nat→Prop} {L:List As} {ops:Array Oper} {o:Oper} {rest:List Oper}
theorem A1 {l:List Oper} {d:Nat} {b:Bool} (hb:e.get d=G (.bool b)) (h1:b=zz→SxL P ops Q n l ((d,.bool zz)::e) w) (h2:b=zy→SxL P ops Q n l ((d,.bool zy)::e) w):SxL P ops Q n l e w:=.mk λa ha=>by
 have key:∀c,b=c→Agr n ((d,.bool c)::e) a:=λc hc=>⟨ha.size,ha.defers,λk v hk=>by
  unfold Env.get at hk
  split at hk
  ·rename_i hb'
   obtain rfl:d=k:=Cn hb';simp only [Ai] at hk
   rw [←hk,←hc];exact ha.get d _ hb
  exact ha.get k v hk⟩
 cases b
 ·exact (h2 X).run a (key zy X)
 exact (h1 X).run a (key zz X)
theorem C3 {q:Act→Prop} {l:List Oper} {d:Nat} {b:Bool} (hb:e.get d=G (.bool b)) (h1:b=zz→SxS P ops w q n l ((d,.bool zz)::e)) (h2:b=zy→SxS P ops w q n l ((d,.bool zy)::e)):SxS P ops w q n l e:=.mk λa ha=>by
 have key:∀c,b=c→Agr n ((d,.bool c)::e) a:=λc hc=>⟨ha.size,ha.defers,λk v hk=>by
  unfold Env.get at hk
  split at hk
  ·rename_i hb'
   obtain rfl:d=k:=Cn hb';simp only [Ai] at hk
   rw [←hk,←hc];exact ha.get d _ hb
  exact ha.get k v hk⟩
 cases b
 ·exact (h2 X).run a (key zy X)
 exact (h1 X).run a (key zz X)
theorem yK {l:List Oper} (cut:Nat) (r:Env) (F:Kw→Prop) (h:∀w',F w'→SxL P ops Q n (l.drop cut) r w') (k:(∀e' w',F w'→r.le e'→SxL P ops Q n (l.drop cut) e' w')→SxL P ops Q n l e w):SxL P ops Q n l e w:=
 k λ_ w' hF hl=>rS hl (h w' hF)
theorem yJ {q:Act→Prop} {l:List Oper} (cut:Nat) (r:Env) (h:SxS P ops w q n (l.drop cut) r) (k:(∀e',r.le e'→SxS P ops w q n (l.drop cut) e')→SxS P ops w q n l e):SxS P ops w q n l e:=
 k λ_ hl=>.mk λa ha=>h.run a (ha.weak hl)
theorem KA {c:Code} {K:Act→Kw→Prop} (r:Env) (F:Kw→Prop) (h:∀w',F w'→QX (Exit.then K Q) .normal n r w') (k:(∀e' w',F w'→r.le e'→QX (Exit.then K Q) .normal n e' w')→Sx P c (Exit.then K Q) n e w):Sx P c (Exit.then K Q) n e w:=
 k λ_ w' hF hl=>PL hl (h w' hF)
theorem CD (M:Mem w0 S L w) (i:Nat) {d:Nat} (hw:Wn ops e o) (hd:o.dst=G d) (hn:Nat.blt d n=zz) {s x:Lz} {t base el size bytes len m c:Nat} {z v:Kv} {xs news:Kx} {A:Ky}
 (ho:o.op=.call { callee:=.builtin .append,args := #[s,x],argTypes := #[t,t] }) (hs:ev e s=G v) (hx:ev e x=G (.slice A m c)) (hi:L[i]?=G (As.own base el size v len xs)) (hr:Rd w A (m*size) news)
 (ht:P.underlying t=G (.slice el)) (hinf:(P.info? el).map (λi=>(i.zero,i.size,i.bytes))=G (G z,size,bytes)) (hzs:z.cells.size=size) (hpos:0<size) (h1:∀u∈news,u.oneCell'=zz) (hb:w0.heap.size≤base) (hb':base≤w0.heap.size) (hsm:(len+m)*bytes≤140737488355328) (h63:len+m≤maxLen) {len':Nat} {xs':Kx} (hl':len+m=len') (hx':xs++news=xs')
 (k:∀A' c' w',Mem w0 S (L.set i (As.own base el size (.slice A' len' c') len' xs')) w'→SxL P ops Q n rest ((d,.slice A' len' c')::e) w'):SxL P ops Q n (o::rest) e w:=by
 subst hl';subst hx';have hw0:=M.fr.size;have hown:=M.own i hi;refine sxl_does (G d) hw hd hn (λρ hρ=>D2 s x t ho base el z size bytes ht hinf hzs hpos v len xs (hρ _ _ hs) hown A m c news (hρ _ _ hx) hr h1 h63 hsm A0) ?_;rintro v' w1 ⟨h1,h2,h3⟩;obtain ⟨A',c',rfl,_⟩:=DH h1;refine k A' c' w1 (M.upd i hi ?_ _ h1 ?_)
 ·refine ⟨h2.os,h2.tape,h2.output,h2.size,λg hg hn=>h2.block g hg ?_⟩;intro e;exact hn (by simp [As.own,←e])
 intro g hg;rcases h3 with h|h
 ·left;simpa [As.own,h] using hg
 right
 have hg':g=w.heap.size:=by simpa [As.own,h,eq_comm] using hg
 have:=(LV h1 g hg).2
 omega
theorem CP (M:Mem w0 S L w) {d:Nat} (hw:Wn ops e o) (hd:o.dst=G d) (hn:Nat.blt d n=zz) {t len el size:Nat} {parts:List (Nat × Lz)} {ps:List (Nat × Kv)} (vs cs:Kx) {z:Kv} (ho:o.op=.buildSlice t len parts.toArray) (hp:evp e parts=G ps) (hps:ps=(vs.zipIdx 0).map λx=>(x.2,x.1)) (hlen:vs.length=len)
 (hu:P.underlying t=G (.slice el)) (hi:(P.info? el).map (λi=>(i.zero,i.size))=G (G z,size)) (hpos:Nat.blt 0 (len*size)=zz) (hsm:Nat.ble (len*size) 16777216=zz) (hv:∀v∈vs,v.cells.size=size) (hcs:(vs.map λv=>v.cells.toList).flatten=cs)
 (k:∀g w',w.heap.size≤g→Mem w0 S (As.blk g el cs::L) w'→SxL P ops Q n rest ((d,.slice (G ⟨g,0,zx⟩) len len)::e) w'):SxL P ops Q n (o::rest) e w:=by
 subst hcs;refine sxl_does (G d) hw hd hn (λρ hρ=>CX vs z hρ ho hp hps hlen hu hi (D6 hpos) (Fa hsm) hv) ?_;rintro _ w1 ⟨g,rfl,h1,h2,hb,hf⟩;exact k g w1 h1 (M.push hf _ hb (λg' hg'=>by simp only [As.blk,Au] at hg';subst hg';exact ⟨h1,h2⟩))
end
section
variable {P:Lw} {e:Env} {w:Kw} {o:Oper}
theorem HL {t t':Nat} {k:IntKind} {a b:Int} {x y:Lz} (ho:o.op=.binOp .lss t x y t') (hx:ev e x=G (.int k a)) (hy:ev e y=G (.int k b)):Y P e o w (.bool (O (a<b))):=λρ h=>by
 unfold execOp;simp [ho,h _ _ hx,h _ _ hy,eqGuard_at_int,binOp_lss]
theorem NO {t t':Nat} {k:IntKind} {a b:Int} {x y:Lz} (ho:o.op=.binOp .leq t x y t') (hx:ev e x=G (.int k a)) (hy:ev e y=G (.int k b)):Y P e o w (.bool (O (a≤b))):=λρ h=>by
 unfold execOp;simp [ho,h _ _ hx,h _ _ hy,eqGuard_at_int,binOp_leq]
theorem LG {t t':Nat} {k:IntKind} {a b:Int} {x y:Lz} (ho:o.op=.binOp .gtr t x y t') (hx:ev e x=G (.int k a)) (hy:ev e y=G (.int k b)):Y P e o w (.bool (O (b<a))):=λρ h=>by
 unfold execOp;simp [ho,h _ _ hx,h _ _ hy,eqGuard_at_int,binOp_gtr]
theorem LH {t t':Nat} {k:IntKind} {a b:Int} {x y:Lz} (ho:o.op=.binOp .geq t x y t') (hx:ev e x=G (.int k a)) (hy:ev e y=G (.int k b)):Y P e o w (.bool (O (b≤a))):=λρ h=>by
 unfold execOp;simp [ho,h _ _ hx,h _ _ hy,eqGuard_at_int,binOp_geq]
theorem ES {t t':Nat} {k:IntKind} {a b:Int} {x y:Lz} (ho:o.op=.binOp .eql t x y t') (hx:ev e x=G (.int k a)) (hy:ev e y=G (.int k b)):Y P e o w (.bool (O (a=b))):=λρ h=>by
 unfold execOp;simp only [ho,h _ _ hx,h _ _ hy,eqGuard_at_int,binOp_eql,Sem.run_bind,Sem.run_pure,Result.andThen_ok];by_cases hab:a=b<;>simp [hab]
theorem KT {t t':Nat} {k:IntKind} {a b:Int} {x y:Lz} (ho:o.op=.binOp .neq t x y t') (hx:ev e x=G (.int k a)) (hy:ev e y=G (.int k b)):Y P e o w (.bool (!decide (a=b))):=λρ h=>by
 unfold execOp;simp only [ho,h _ _ hx,h _ _ hy,eqGuard_at_int,binOp_neq,Sem.run_bind,Sem.run_pure,Result.andThen_ok];by_cases hab:a=b<;>simp [hab]
theorem AK {t g off len cap sz el:Nat} (j:Nat) {k:IntKind} {x i:Lz} {A:Ky} (hA:A=G ⟨g,off,zx⟩) (ho:o.op=.indexAddr t x i) (hx:ev e x=G (.slice A len cap)) (hi:ev e i=G (.int k (j:Int))) (ht:F3 P t=G (el,sz)) (h0:j<len) :
 Y P e o w (.pointer (G ⟨g,off+j*sz,zx⟩)):=by subst hA;exact HM ho hx hi ht h0
end
section
variable {P:Lw} {Q:Exit→Act→Kw→Prop} {n f t:Nat} {e:Env} {w w0:Kw} {S:Nat→Prop} {L L':List As} {ops:Array Oper} {o:Oper} {listed:Array Bool} {c:Code} {I:Kw→Prop}
theorem JL (r:Env) (F:Kw→Prop) (h:∀w',F w'→QX Q .normal n r w') (k:(∀e' w',F w'→r.le e'→QX Q .normal n e' w')→Sx P c Q n e w):Sx P c Q n e w:=k λ_ w' hF hl=>PL hl (h w' hF)
theorem N6 {α:Type} (r:α→Env) (F:α→Kw→Prop) (h:∀x w',F x w'→QX Q .normal n (r x) w') (k:(∀x e' w',F x w'→(r x).le e'→QX Q .normal n e' w')→Sx P c Q n e w):Sx P c Q n e w:=k λx _ w' hF hl=>PL hl (h x w' hF)
theorem RO {α β:Type} (r:α→β→Env) (F:α→β→Kw→Prop) (h:∀x y w',F x y w'→QX Q .normal n (r x y) w') (k:(∀x y e' w',F x y w'→(r x y).le e'→QX Q .normal n e' w')→Sx P c Q n e w):Sx P c Q n e w:=k λx y _ w' hF hl=>PL hl (h x y w' hF)
theorem rV {α β γ:Type} (r:α→β→γ→Env) (F:α→β→γ→Kw→Prop) (h:∀x y z w',F x y z w'→QX Q .normal n (r x y z) w') (k:(∀x y z e' w',F x y z w'→(r x y z).le e'→QX Q .normal n e' w')→Sx P c Q n e w):Sx P c Q n e w:=k λx y z _ w' hF hl=>PL hl (h x y z w' hF)
theorem WF {α β γ δ:Type} (r:α→β→γ→δ→Env) (F:α→β→γ→δ→Kw→Prop) (h:∀x y z u w',F x y z u w'→QX Q .normal n (r x y z u) w') (k:(∀x y z u e' w',F x y z u w'→(r x y z u).le e'→QX Q .normal n e' w')→Sx P c Q n e w):Sx P c Q n e w:=k λx y z u _ w' hF hl=>PL hl (h x y z u w' hF)
theorem CR {g:Nat} {ty:Ly} {cs:Kx} {w w':Kw} (h1:w.heap.size≤g) (h2:g<w'.heap.size):∀g'∈(As.blk g ty cs).fp,w.heap.size≤g'∧g'<w'.heap.size:=λg' hg'=>by
 simp only [As.blk,Au] at hg';subst hg';exact ⟨h1,h2⟩
theorem OZ {g:Nat} {K:List (Kz × Kv)} {w w':Kw} (h1:w.heap.size≤g) (h2:g<w'.heap.size):∀g'∈(As.mp g K).fp,w.heap.size≤g'∧g'<w'.heap.size:=λg' hg'=>by
 simp only [As.mp,Au] at hg';subst hg';exact ⟨h1,h2⟩
theorem Mem.putB (M:Mem w0 S L w) (i:Nat) {g ty:Nat} {cs cs':Kx} {w':Kw} (hi:L[i]?=G (As.blk g ty cs)) (hb:Blk w' g ty cs') (hf:Fr (λk=>k=g) w w'):Mem w0 S (L.set i (As.blk g ty cs')) w':=
 M.upd i hi (kR hf) (As.blk g ty cs') hb (λ_ hg'=>.inl hg')
end
section
variable {P:Lw} {e:Env} {w:Kw} {o:Oper}
theorem kZ {t:Nat} {x j:Lz} {l:Kz} {k':IntKind} {b:Nat} (ho:o.op=.slice t x zx (G j) zx) (hx:ev e x=G (str l)) (hj:ev e j=G (.int k' (b:Int))) (ht:P.underlying t=G .string) (hb:b≤l.length):Y P e o w (str (l.take b)):=λρ h=>by
 have hs:(ByteArray.mk l.toArray).size=l.length:=by show l.toArray.size=_;simp
 unfold execOp
 simp [ho,h _ _ hx,h _ _ hj,str,Instr.sliceAt,Instr.slice,run_underlying ht,Instr.sliceBounds,Instr.sliceBound,asIntOf,hs,hb,Lib.extract_eq]
theorem EM {t kt el:Ly} {x i:Lz} {g:Nat} {k:Kz} {L:List (Kz × Kv)} {z v:Kv} {b:Bool} (ho:o.op=.lookup t x i zz) (hx:ev e x=G (.map (G g))) (hi:ev e i=G (str k)) (hu:P.underlying t=G (.map kt el)) (hd:P.underlying kt=G .string)
 (hz:(P.info? el).map (·.zero)=G (G z)) (hM:Mp w g L) (hv:(CG L k).getD z=v) (hb:(CG L k).isSome=b):Y P e o w (.tuple #[v,.bool b]):=by
 subst hv;subst hb;exact RE (ok:=zz) ho hx hi hu hd hz hM
theorem CH {t kt el:Ly} {x i:Lz} {g:Nat} {k:Kz} {L:List (Kz × Kv)} {z v:Kv} (ho:o.op=.lookup t x i zy) (hx:ev e x=G (.map (G g))) (hi:ev e i=G (str k)) (hu:P.underlying t=G (.map kt el)) (hd:P.underlying kt=G .string)
 (hz:(P.info? el).map (·.zero)=G (G z)) (hM:Mp w g L) (hv:(CG L k).getD z=v):Y P e o w v:=by
 subst hv;exact RE (ok:=zy) ho hx hi hu hd hz hM
theorem a0Y {t t':Ly} {x y:Lz} {b c:UInt8} (ho:o.op=.binOp .or t x y t') (hx:ev e x=G (.int .u8 (b.toNat:Int))) (hy:ev e y=G (.int .u8 (c.toNat:Int))):Y P e o w (.int .u8 ((b ||| c).toNat:Int)):=λρ h=>by
 have hk:Op.intBits .or .u8 (b.toNat:Int) (c.toNat:Int)=pure (.int .u8 ((b ||| c).toNat:Int)):=by
  unfold Op.intBits
  have h1:BitVec.ofInt (IntKind.u8).bits (b.toNat:Int)=b.toBitVec:=by
   apply Jm;simp [IntKind.bits]
  have h2:BitVec.ofInt (IntKind.u8).bits (c.toNat:Int)=c.toBitVec:=by
   apply Jm;simp [IntKind.bits]
  simp only [h1,h2];have h3:((b.toBitVec ||| c.toBitVec:BitVec 8).toNat:Int)=((b ||| c).toNat:Int):=X
  have h4:(IntKind.u8).wrap ((b ||| c).toNat:Int)=((b ||| c).toNat:Int):=by
   have:=(b ||| c).toNat_lt
   rw [Il] at this
   simp [IntKind.wrap,IntKind.bits,IntKind.signed];omega
  show (pure (.int .u8 ((IntKind.u8).wrap ((b.toBitVec ||| c.toBitVec:BitVec 8).toNat:Int))):Sem Kv)=_
  rw [h3,h4]
 unfold execOp
 simp [ho,h _ _ hx,h _ _ hy,eqGuard_at_int,Go.binOp,hk]
theorem a1o {t t':Ly} {x y:Lz} {a b:Nat} (ho:o.op=.call { callee:=.builtin .min,args := #[x,y],argTypes := #[t,t'] }) (hx:ev e x=G (.int .i64 (a:Int))) (hy:ev e y=G (.int .i64 (b:Int))):Y P e o w (.int .i64 ((min a b:Nat):Int)):=λρ h=>by
 unfold execOp;have hab:(if (b:Int)<(a:Int) then (b:Int) else (a:Int))=((min a b:Nat):Int):=by split<;>omega
 simp only [ho,h _ _ hx,h _ _ hy,resolve,invoke,builtin,Builtin.min_,Builtin.min2,Fz,Cc,Gx,List.foldlM_cons,List.foldlM_nil,Sem.run_bind,Sem.run_pure,Result.andThen_ok,hab]
end
end
section
section
variable {P:Lw} {ops:Array Oper} {Q:Exit→Act→Kw→Prop} {S:Kw→Prop} {t n f:Nat} {listed:Array Bool} {e:Env} {w:Kw}
theorem CC {d:Nat} {b:Bool} (hb:e.get d=G (.bool b)) (h1:b=zz→SxO P ops Q t S n f listed ((d,.bool zz)::e) w) (h2:b=zy→SxO P ops Q t S n f listed ((d,.bool zy)::e) w):SxO P ops Q t S n f listed e w:=.mk λa ha=>by
 have key:∀c,b=c→Agr n ((d,.bool c)::e) a:=λc hc=>⟨ha.size,ha.defers,λk v hk=>by
  unfold Env.get at hk
  split at hk
  ·rename_i hb'
   obtain rfl:d=k:=Cn hb';simp only [Ai] at hk
   rw [←hk,←hc];exact ha.get d _ hb
  exact ha.get k v hk⟩
 cases b
 ·exact (h2 X).run a (key zy X)
 exact (h1 X).run a (key zz X)
theorem lO {o:Oper} {d d0 j:Nat} {b c:Bool} (i h:Nat) (hs:Region.noSelect ops=zz) (hQ:∀c (a:Act) t v w,Q (.panic c) (a.put t v) w→Q (.panic c) a w) (hwait:JH ops h t=zz) (hih:Nat.blt i h=zz)
 (hf:Region.free .any ops listed i=zz) (hr:(Region.ready .any ops listed).contains i=zz) (ho:ops[i]?=G o) (hg:o.guard=G (j,b)) (hj:(ops[j]?).bind (·.dst)=G d0) (hb:e.get d0=G (.bool c)) (hne:(c==b)=zy) (hd:o.dst=G d) (hn:Nat.blt d n=zz) (hS:S w)
 (k:SxO P ops Q t S n f (listed.setIfInBounds i zz) ((d,undef)::e) w):SxO P ops Q t S n (f+1) listed e w:=⟨λa ha=>by
 have hw:Region.wanted o (yielded ops a.tmps)=zy:=by
  simp only [Region.wanted,hg,yielded,hj,ha.get d0 _ hb,Fh]
  cases c<;>cases b<;>simp_all
 refine NP (v:=undef) ho (Region.noSelect_spec hs) (λc a w=>hQ c a _ _ w) hwait (D6 hih) f listed a w (Region.free_spec ho hf) (by simpa using hr) (.inr ⟨hw,X⟩) hS ?_;rw [hd];exact k.run _ (ha.put (D6 hn) undef)⟩
theorem oo1 {o:Oper} {d d0 j:Nat} {b c:Bool} (i h:Nat) (ho:ops[i]?=G o) (hg:o.guard=G (j,b)) (hj:(ops[j]?).bind (·.dst)=G d0) (hb:e.get d0=G (.bool c)) (hne:(c==b)=zy) (hd:o.dst=G d) (hn:Nat.blt d n=zz) (hS:S w) (k:SxO P ops Q t S n f (listed.setIfInBounds i zz) ((d,undef)::e) w) (hs:Region.noSelect ops=zz:=by kernel_rfl) (hQ:∀c (a:Act) t v w,Q (.panic c) (a.put t v) w→Q (.panic c) a w:=by exact λc a t v w h=>by cases t<;>exact h) (hwait:JH ops h t=zz:=by kernel_rfl) (hih:Nat.blt i h=zz:=by exact rfl) (hf:Region.free .any ops listed i=zz:=by kernel_rfl) (hr:(Region.ready .any ops listed).contains i=zz:=by kernel_rfl):SxO P ops Q t S n (f+1) listed e w:=
 lO i h hs hQ hwait hih hf hr ho hg hj hb hne hd hn hS k
end
end
open Tryz
section
def foL : List (Nat × Nat × Nat):=[(25,0,0),(25,1,1),(25,2,2),(25,3,3),(32,0,0),(32,1,1),(32,2,2),(42,0,0),(42,1,1),(42,2,2),(42,3,3),(42,4,4),(44,0,0),(44,1,1),(48,0,0),(48,1,1),(48,2,2),(48,3,3),(48,4,4),(50,0,0),(50,1,5),(61,0,0),(61,1,1),(61,2,2),(61,3,3),(63,0,0),(63,1,1),(75,0,0),(75,1,1),(75,2,2),(75,3,3),(75,4,4),(75,5,5),(75,6,6),(75,7,7),(75,8,8),(80,0,0),(80,1,1),(80,2,2),(80,3,3),(80,4,4),(82,0,0),(82,1,1),(82,2,2),(104,0,0),(104,1,5),(104,2,6),(104,3,7),(104,4,8),(104,5,9),(106,0,0),(106,1,1),(106,2,2),(106,3,3),(106,4,4),(106,5,5),(106,6,6),(106,7,7),(106,8,8),(106,9,9),(106,10,10),(110,0,0),(110,1,1),(110,2,2),(110,3,3),(113,0,0),(113,1,1),(113,2,5),(113,3,6),(127,0,0),(127,1,1),(156,0,0),(156,1,7),(156,2,8),(156,3,9),(158,0,0),(158,1,1),(158,2,2),(158,3,12),(158,4,13),(164,0,0),(164,1,1),(186,0,0),(186,1,5),(186,2,6),(186,3,7),(213,0,0),(213,1,1),(213,2,5),(213,3,6),(226,0,0),(226,1,1),(251,0,0),(251,1,1),(256,0,0),(256,1,1),(256,2,2),(256,3,6),(258,0,0),(258,1,1),(258,2,2),(258,3,9),(258,4,10)]
def scL : List Nat:=[2,3,4,5,9,12,21,22,23,27,29,36,39,40,45,46,52,54,71,76,84,87,91,99,100,101,102,107,111,124,130,131,143,144,147,148,153,154,159,160,162,175,184,189,190,192,193,195,197,200,206,208,211,228,241,243,245,248,249,254,262,265,266,272,285,307]
def slL : List (Nat × Nat × Nat):=[(22,50,10),(23,63,5),(27,44,6),(29,82,3),(36,32,3),(40,75,9),(45,106,11),(46,110,4),(52,25,4),(71,3,1),(76,80,5),(107,9,1),(111,113,7),(124,127,10),(147,148,1),(211,213,7),(249,5,1)]
def arL : List (Nat × Nat × Nat × Nat):=[(139,256,5,1),(198,2,3,1),(227,16,226,2),(237,256,4,1),(301,24,5,1),(306,20,265,1),(308,65,5,1),(311,32,5,1),(312,64,5,1)]
def ptL : List (Nat × Nat):=[(39,104),(144,186),(154,158),(241,237),(248,251),(254,258),(272,5)]
def QY : List (Nat × Nat × Nat)→Nat→Nat→Option Nat
 | [],_,_=>zx
 | (a,b,k)::l,s,f=>match Nat.beq a s with
  | true=>match Nat.beq b f with
   | true=>G k
   | false=>QY l s f
  | false=>QY l s f
def VC : List Nat→Nat→Bool
 | [],_=>zy
 | a::l,t=>match Nat.beq a t with
  | true=>zz
  | false=>VC l t
def pH : List (Nat × Nat × Nat)→Nat→Option (Nat × Nat)
 | [],_=>zx
 | (a,p)::l,t=>match Nat.beq a t with
  | true=>G p
  | false=>pH l t
def vL : List (Nat × Nat)→Nat→Option Nat
 | [],_=>zx
 | (a,p)::l,t=>match Nat.beq a t with
  | true=>G p
  | false=>vL l t
theorem fY : ∀(l:List (Nat × Nat)) {t:Nat} {p:Nat},vL l t=G p→(t,p)∈l
 | [],_,_,h=>by simp [vL] at h
 | (a,q)::l,t,p,h=>by
  unfold vL at h
  split at h
  ·rename_i h1;obtain rfl:=Cn h1;simp only [Ai] at h;subst h;simp
  exact Ax _ (fY l h)
def vK : List (Nat × Nat × Nat × Nat)→Nat→Option (Nat × Nat × Nat)
 | [],_=>zx
 | (a,p)::l,t=>match Nat.beq a t with
  | true=>G p
  | false=>vK l t
theorem XL : ∀(l:List (Nat × Nat × Nat)) {s f k:Nat},QY l s f=G k→(s,f,k)∈l
 | [],_,_,_,h=>by simp [QY] at h
 | (a,b,c)::l,s,f,k,h=>by
  unfold QY at h
  split at h
  ·rename_i h1
   split at h
   ·rename_i h2
    obtain rfl:=Cn h1;obtain rfl:=Cn h2;simp only [Ai] at h;subst h;simp
   exact Ax _ (XL l h)
  exact Ax _ (XL l h)
theorem fV : ∀(l:List Nat) {t:Nat},VC l t=zz→t∈l
 | [],_,h=>by simp [VC] at h
 | a::l,t,h=>by
  unfold VC at h
  split at h
  ·rename_i h1;obtain rfl:=Cn h1;simp
  exact Ax _ (fV l h)
theorem fX : ∀(l:List (Nat × Nat × Nat)) {t:Nat} {p:Nat × Nat},pH l t=G p→(t,p)∈l
 | [],_,_,h=>by simp [pH] at h
 | (a,q)::l,t,p,h=>by
  unfold pH at h
  split at h
  ·rename_i h1;obtain rfl:=Cn h1;simp only [Ai] at h;subst h;simp
  exact Ax _ (fX l h)
theorem fW : ∀(l:List (Nat × Nat × Nat × Nat)) {t:Nat} {p:Nat × Nat × Nat},vK l t=G p→(t,p)∈l
 | [],_,_,h=>by simp [vK] at h
 | (a,q)::l,t,p,h=>by
  unfold vK at h
  split at h
  ·rename_i h1;obtain rfl:=Cn h1;simp only [Ai] at h;subst h;simp
  exact Ax _ (fW l h)
theorem a2D : foL.all (λx=>P5 zv x.1 x.2.1==G x.2.2)=zz:=zr
theorem a1R : scL.all (λx=>LP zv x)=zz:=zr
theorem a1G : slL.all (λx=>F3 zv x.1==G x.2)=zz:=zr
theorem a2Q : arL.all (λx=>PX zv x.1==G x.2)=zz:=zr
theorem a2d : ptL.all (λx=>PM zv x.1==G x.2)=zz:=zr
theorem CA : zv.follows .mixedOrders=zz:=zr
theorem pt {t el:Nat} (h:vL ptL t=G el):PM zv t=G el:=by
 have:=Cu.1 a2d _ (fY _ h);simpa using this
theorem fo {s f k:Nat} (h:QY foL s f=G k):P5 zv s f=G k:=by
 have:=Cu.1 a2D _ (XL _ h);simpa using this
theorem yp {e:Env} {o:Oper} {w:Kw} {v:Kv} (h:LU (QY foL) e o.op=G v):Y zv e o w v:=a1l (λ_ _ _ h=>fo h) h
theorem yb {n:Nat} {Q:Exit→Act→Kw→Prop} {e:Env} {w:Kw} {ops:Array Oper} {o:Oper} {rest:List Oper} {d:Nat} {v:Kv} (h:(o.guard,o.dst,Nat.blt d n,LU (QY foL) e o.op)=(zx,G d,zz,G v)) (k:SxL zv ops Q n rest ((d,v)::e) w):SxL zv ops Q n (o::rest) e w:=
 sxl_y (wn_none (Bv h).1) (Bv (Bv h).2).1 (Bv (Bv (Bv h).2).2).1 (yp (Bv (Bv (Bv h).2).2).2) k
theorem sc {t:Nat} (h:VC scL t=zz):LP zv t=zz:=Cu.1 a1R _ (fV _ h)
theorem yl {n:Nat} {Q:Exit→Act→Kw→Prop} {e:Env} {w:Kw} {ops:Array Oper} {o:Oper} {rest:List Oper} {d t g off:Nat} {x:Lz} {v:Kv} (h:(o.guard,o.dst,Nat.blt d n,o.op)=(zx,G d,zz,.load t x)) (hx:(ev e x,VC scL t)=(G (.pointer (G ⟨g,off,zx⟩)),zz)) (hc:Cell w.heap g off v) (k:SxL zv ops Q n rest ((d,v)::e) w):SxL zv ops Q n (o::rest) e w:=by
 simp only [Az] at h hx
 exact sxl_y (wn_none h.1) h.2.1 h.2.2.1 (B3 h.2.2.2 hx.1 (sc hx.2) hc) k
theorem ym {n:Nat} {Q:Exit→Act→Kw→Prop} {e:Env} {w:Kw} {ops:Array Oper} {o:Oper} {rest:List Oper} {j d' d t g off:Nat} {b:Bool} {x:Lz} {v:Kv} (h:(o.guard,(ops[j]?).bind (·.dst),e.get d',o.dst,Nat.blt d n,o.op)=(G (j,b),G d',G (.bool b),G d,zz,.load t x)) (hx:(ev e x,VC scL t)=(G (.pointer (G ⟨g,off,zx⟩)),zz)) (hc:Cell w.heap g off v) (k:SxL zv ops Q n rest ((d,v)::e) w):SxL zv ops Q n (o::rest) e w:=by
 simp only [Az] at h hx
 exact sxl_y (wn_on h.1 h.2.1 h.2.2.1) h.2.2.2.1 h.2.2.2.2.1 (B3 h.2.2.2.2.2 hx.1 (sc hx.2) hc) k
theorem oc {ops:Array Oper} {Q:Exit→Act→Kw→Prop} {S:Kw→Prop} {t n f:Nat} {listed:Array Bool} {e:Env} {w:Kw} {o:Oper} {d:Nat} {v:Kv} (i h:Nat) (ho:ops[i]?=G o) (hd:(o.guard,o.dst,Nat.blt d n,LU (QY foL) e o.op)=(zx,G d,zz,G v)) (hS:S w) (k:SxO zv ops Q t S n f (listed.setIfInBounds i zz) ((d,v)::e) w) (hs:Region.noSelect ops=zz:=by kernel_rfl) (hQ:∀c (a:Act) t v w,Q (.panic c) (a.put t v) w→Q (.panic c) a w:=by exact λc a t v w h=>by cases t<;>exact h) (hwait:JH ops h t=zz:=by kernel_rfl) (hih:Nat.blt i h=zz:=by exact rfl) (hf:Region.free .any ops listed i=zz:=by kernel_rfl) (hr:(Region.ready .any ops listed).contains i=zz:=by kernel_rfl):SxO zv ops Q t S n (f+1) listed e w:=by
 simp only [Az] at hd
 exact lN i h hs hQ hwait hih hf hr ho (wn_none hd.1) hd.2.1 hd.2.2.1 hS (λ_ _=>yp hd.2.2.2) k
theorem sa {P:Lw} {ops:Array Oper} {q:Act→Prop} {n:Nat} {e:Env} {w:Kw} {o:Oper} {rest:List Oper} {d:Nat} {v:Kv} (h:(o.guard,o.dst,Nat.blt d n)=(zx,G d,zz)) (hy:Y P e o w v) (k:SxS P ops w q n rest ((d,v)::e)):SxS P ops w q n (o::rest) e:=by
 simp only [Az] at h
 exact WD (wn_none h.1) h.2.1 h.2.2 hy k
theorem sb {ops:Array Oper} {q:Act→Prop} {n:Nat} {e:Env} {w:Kw} {o:Oper} {rest:List Oper} {d:Nat} {v:Kv} (h:(o.guard,o.dst,Nat.blt d n,LU (QY foL) e o.op)=(zx,G d,zz,G v)) (k:SxS zv ops w q n rest ((d,v)::e)):SxS zv ops w q n (o::rest) e:=by
 simp only [Az] at h
 exact WD (wn_none h.1) h.2.1 h.2.2.1 (yp h.2.2.2) k
theorem sd {ops:Array Oper} {q:Act→Prop} {n:Nat} {e:Env} {w:Kw} {o:Oper} {rest:List Oper} {d t g off:Nat} {x:Lz} {v:Kv} (h:(o.guard,o.dst,Nat.blt d n,o.op)=(zx,G d,zz,.load t x)) (hx:(ev e x,VC scL t)=(G (.pointer (G ⟨g,off,zx⟩)),zz)) (hc:Cell w.heap g off v) (k:SxS zv ops w q n rest ((d,v)::e)):SxS zv ops w q n (o::rest) e:=by
 simp only [Az] at h hx
 exact WD (wn_none h.1) h.2.1 h.2.2.1 (B3 h.2.2.2 hx.1 (sc hx.2) hc) k
theorem ol {ops:Array Oper} {Q:Exit→Act→Kw→Prop} {S:Kw→Prop} {t n f:Nat} {listed:Array Bool} {e:Env} {w:Kw} {o:Oper} {d t1 g off:Nat} {x:Lz} {v:Kv} (i h:Nat) (ho:ops[i]?=G o) (hd:(o.guard,o.dst,Nat.blt d n,o.op)=(zx,G d,zz,.load t1 x)) (hx:(ev e x,VC scL t1)=(G (.pointer (G ⟨g,off,zx⟩)),zz)) (hS:S w) (hy:∀w',S w'→Cell w'.heap g off v) (k:SxO zv ops Q t S n f (listed.setIfInBounds i zz) ((d,v)::e) w) (hs:Region.noSelect ops=zz:=by kernel_rfl) (hQ:∀c (a:Act) t v w,Q (.panic c) (a.put t v) w→Q (.panic c) a w:=by exact λc a t v w h=>by cases t<;>exact h) (hwait:JH ops h t=zz:=by kernel_rfl) (hih:Nat.blt i h=zz:=by exact rfl) (hf:Region.free .any ops listed i=zz:=by kernel_rfl) (hr:(Region.ready .any ops listed).contains i=zz:=by kernel_rfl):SxO zv ops Q t S n (f+1) listed e w:=by
 simp only [Az] at hd hx
 exact lN i h hs hQ hwait hih hf hr ho (wn_none hd.1) hd.2.1 hd.2.2.1 hS (λw' hw'=>B3 hd.2.2.2 hx.1 (sc hx.2) (hy w' hw')) k
theorem sl {t el sz:Nat} (h:pH slL t=G (el,sz)):F3 zv t=G (el,sz):=by
 have:=Cu.1 a1G _ (fX _ h);simpa using this
theorem ar {t n el sz:Nat} (h:vK arL t=G (n,el,sz)):PX zv t=G (n,el,sz):=by
 have:=Cu.1 a2Q _ (fW _ h);simpa using this
section
variable {P:Lw} {Q:Exit→Act→Kw→Prop} {n f t:Nat} {e:Env} {w w0:Kw} {S:Kw→Prop} {U:Nat→Prop} {L:List As} {ops:Array Oper} {o:Oper} {rest:List Oper} {listed:Array Bool} {x y:Lz} {g d ty m tb:Nat} {cs new xs zs:Kx} {v:Kv} {k:IntKind} {a b:Int}
inductive Kp (e:Env):List Nat→Env→Env→Prop
 | nil {r:Env}:Kp e [] r r
 | cons {k:Nat} {v:Kv} {ks:List Nat} {r r':Env} (h:e.get k=G v) (t:Kp e ks ((k,v)::r) r'):Kp e (k::ks) r r'
theorem flp {c:Code} (ks:List Nat) {z:Env} (I:Env→Env→Kw→Nat→Prop) {m0:Nat} {e0:Env} (h0:I z e0 w m0) (k:∀e w m,I z e w m→Sx P c (Exit.then (Again (I z) n m) Q) n e w) (hk:Kp e ks [] z:=by repeat (first|exact Kp.nil|(apply Kp.cons;exact rfl))) (hl:e0.le e:=by repeat (first|exact trivial|refine ⟨rfl,?_⟩)):Sx P (Code.loop c) Q n e w:=let _:=hk;sx_loop (I z) h0 hl k
theorem EC {c:Code} (M:Mem w0 U L w) (ks:List Nat) {z:Env} (I:Env→(Kw→Prop)→Env→Kw→Nat→Prop) {m0:Nat} {e0:Env} (h0:I z (Mem w0 U L) e0 w m0) (k:∀e w m,I z (Mem w0 U L) e w m→Sx P c (Exit.then (Again (I z (Mem w0 U L)) n m) Q) n e w) (hk:Kp e ks [] z:=by repeat (first|exact Kp.nil|(apply Kp.cons;exact rfl))) (hl:e0.le e:=by repeat (first|exact trivial|refine ⟨rfl,?_⟩)):Sx P (Code.loop c) Q n e w:=let _:=hk;let _:=M;sx_loop (I z (Mem w0 U L)) h0 hl k
theorem fag {I:Env→Kw→Nat→Prop} {m:Nat} {r:Env} {m':Nat} (hI:I r w m') (hm:m'<m:=by first|omega|(simp<;>omega)) (hl:r.le e:=by repeat (first|exact trivial|refine ⟨rfl,?_⟩)):QX (Exit.then (Again I n m) Q) .normal n e w:=qx_again r m' hI hm hl
theorem jq1 {A B:Bool} (h:A=zz):G (Value.bool zz)=G (Value.bool (A || B)):=by rw [h];rfl
theorem jq2 {A B:Bool} (h:A=zy):G (Value.bool B)=G (Value.bool (A || B)):=by rw [h];rfl
theorem jq3 {A B:Bool} (h:A=zz):G (Value.bool B)=G (Value.bool (A&&B)):=by rw [h];rfl
theorem jq4 {A B:Bool} (h:A=zy):G (Value.bool zy)=G (Value.bool (A&&B)):=by rw [h];rfl
theorem fvm {l:List Oper} (M:Mem w0 U L w) (cut:Nat) (ks:List Nat) (nw:Env) {r:Env} (h:∀w',Mem w0 U L w'→SxL P ops Q n (l.drop cut) r w') (k:(∀{e' w'},Mem w0 U L w'→(hl:r.le e':=by repeat (first|exact trivial|refine ⟨rfl,?_⟩|refine ⟨jq1 (by assumption),?_⟩|refine ⟨jq2 (by assumption),?_⟩|refine ⟨jq3 (by assumption),?_⟩|refine ⟨jq4 (by assumption),?_⟩|refine ⟨by simp [*],?_⟩))→SxL P ops Q n (l.drop cut) e' w')→SxL P ops Q n l e w) (hk:Kp e ks nw r:=by repeat (first|exact Kp.nil|(apply Kp.cons;exact rfl))):SxL P ops Q n l e w:=let _:=M;let _:=hk;yK cut r (Mem w0 U L) h λk'=>k λ{_ _} h1 h2=>k' _ _ h1 h2
theorem fvs {q:Act→Prop} {l:List Oper} (cut:Nat) (ks:List Nat) (nw:Env) {r:Env} (h:SxS P ops w q n (l.drop cut) r) (k:(∀e',r.le e'→SxS P ops w q n (l.drop cut) e')→SxS P ops w q n l e) (hk:Kp e ks nw r:=by repeat (first|exact Kp.nil|(apply Kp.cons;exact rfl))):SxS P ops w q n l e:=let _:=hk;yJ cut r h k
theorem fon {t1:Nat} (M:Mem w0 U L w) (i d:Nat) (ho:ops[i]?=G o) (hd:(o.guard,o.dst,Nat.blt d n,o.op)=(zx,G d,zz,.alloc t1)) (hz:(P.info? t1).map (·.zero)=G (G (.agg zs.toArray))) (k:∀g w',w.heap.size≤g→Mem w0 U (As.blk g t1 zs::L) w'→SxO P ops Q t S n f (listed.setIfInBounds i zz) ((d,.pointer (G ⟨g,0,zx⟩))::e) w') (hr:Region.ready .any ops listed=[i]:=by kernel_rfl) (hS:∀w',Mem w0 U L w'→S w':=by exact λ_ h=>h):SxO P ops Q t S n (f+1) listed e w:=by
 simp only [Az] at hd
 refine B7 i (G d) hr ho (wn_none hd.1) hd.2.1 hd.2.2.1 (λρ hρ=>BP t1 hd.2.2.2 _ zs hz X) ?_;rintro _ w1 ⟨g,rfl,h1,h2,hb,hf⟩;exact ⟨λ_=>hS _ (M.step hf),k g w1 h1 (M.push hf _ hb (CR h1 h2))⟩
theorem fop (M:Mem w0 U L w) (i j:Nat) (ho:ops[i]?=G o) (hd:(o.guard,o.dst,o.op)=(zx,zx,.store ty x y)) (hx:(ev e x,ev e y,L[j]?)=(G (.pointer (G ⟨g,0,zx⟩)),G (.agg new.toArray),G (As.blk g tb cs))) (hi:(P.info? ty).map (·.size)=G m) (hm:(new.length,cs.length,jN new)=(m,m,zz)) (hS:∀{w'},Mem w0 U (L.set j (As.blk g tb new)) w'→S w') (k:∀w',Mem w0 U (L.set j (As.blk g tb new)) w'→SxO P ops Q t S n f (listed.setIfInBounds i zz) e w') (hr:Region.ready .any ops listed=[i]:=by kernel_rfl):SxO P ops Q t S n (f+1) listed e w:=by
 simp only [Az] at hd hx hm
 obtain ⟨hm1,hm2,h1⟩:=hm;subst hm1;refine B7 i zx hr ho (wn_none hd.1) hd.2.1 X (λρ hρ=>BZ ty x y hd.2.2 g 0 tb cs new (hρ _ _ hx.1) (hρ _ _ hx.2.1) (M.blk j hx.2.2) hi A0 (BN h1)) ?_;rintro _ w1 ⟨rfl,hb,hf⟩;rw [HZ _ _ hm2.symm] at hb
 have M':=M.putB j hx.2.2 hb hf;exact ⟨λ_=>hS M',k w1 M'⟩
theorem fo1 (i:Nat) (ho:ops[i]?=G o) (hd:(o.guard,o.dst,Nat.blt d n)=(zx,G d,zz)) (hy:Y P e o w v) (k:SxO P ops Q t S n f (listed.setIfInBounds i zz) ((d,v)::e) w) (hr:Region.ready .any ops listed=[i]:=by kernel_rfl) (hS:i<t→S w:=by exact λh=>absurd h (by decide)):SxO P ops Q t S n (f+1) listed e w:=by
 simp only [Az] at hd
 exact B7 i (G d) hr ho (wn_none hd.1) hd.2.1 hd.2.2 (R:=λu w'=>u=v∧w'=w) (λρ hρ=>⟨v,w,.inl (hy ρ hρ),X,X⟩) λu w' ⟨h1,h2⟩=>by subst h1;subst h2;exact ⟨hS,k⟩
theorem fdn (k:QX Q .normal n e w) (hr:Region.ready .any ops listed=[]:=by kernel_rfl):SxO P ops Q t S n f listed e w:=rR hr k
theorem CF {c:TypeDesc} (M:Mem w0 U L w) (j:Nat) (h:(o.guard,o.dst,Nat.blt d n,o.op)=(zx,G d,zz,.load ty x)) (hx:(ev e x,L[j]?)=(G (.pointer (G ⟨g,0,zx⟩)),G (As.blk g tb xs))) (hu:P.underlying ty=G c) (hi:(P.info? ty).map (·.size)=G m) (hr:(c.isRow,xs.length)=(zz,m)) (k:SxL P ops Q n rest ((d,.agg xs.toArray)::e) w):SxL P ops Q n (o::rest) e w:=by
 simp only [Az] at h hx hr
 exact sxl_y (wn_none h.1) h.2.1 h.2.2.1 (AJ h.2.2.2 hx.1 (M.rdBlk j hx.2 hr.2) hu hr.1 hi) k
theorem BX (M:Mem w0 U L w) (j:Nat) (hd:(o.guard,o.dst,o.op)=(zx,zx,.store ty x y)) (hx:(ev e x,ev e y,L[j]?)=(G (.pointer (G ⟨g,0,zx⟩)),G (.agg new.toArray),G (As.blk g tb cs))) (hi:(P.info? ty).map (·.size)=G m) (hm:(new.length,cs.length,jN new)=(m,m,zz)) (k:∀w',Mem w0 U (L.set j (As.blk g tb new)) w'→SxL P ops Q n rest e w'):SxL P ops Q n (o::rest) e w:=by
 simp only [Az] at hd hx hm
 obtain ⟨hm1,hm2,h1⟩:=hm;exact FJ M j (wn_none hd.1) hd.2.1 hd.2.2 hx.1 hx.2.1 hx.2.2 hi hm1 A0 (BN h1) (HZ _ _ A0) k
theorem gp1 {off:Nat} (M:Mem w0 U L w) (j:Nat) (hd:(o.guard,o.dst,o.op)=(zx,zx,.store ty x y)) (hx:(ev e x,ev e y,L[j]?)=(G (.pointer (G ⟨g,off,zx⟩)),G v,G (As.blk g tb cs))) (hv:(v.cells,v.oneCell',Nat.blt off cs.length)=(#[v],zz,zz)) (hi:(P.info? ty).map (·.size)=G 1) (k:∀w',Mem w0 U (L.set j (As.blk g tb (cs.set off v))) w'→SxL P ops Q n rest e w'):SxL P ops Q n (o::rest) e w:=by
 simp only [Az] at hd hx hv
 exact FK M j (wn_none hd.1) hd.2.1 hd.2.2 hx.1 hx.2.1 hx.2.2 hv.1 hv.2.1 hi (D6 hv.2.2) X k
theorem CU (M:Mem w0 U L w) (h:(o.guard,o.dst,Nat.blt d n,o.op)=(zx,G d,zz,.box ty x)) (hx:ev e x=G (.agg cs.toArray)) (k:∀g w',w.heap.size≤g→Mem w0 U (As.blk g ty cs::L) w'→SxL P ops Q n rest ((d,.pointer (G ⟨g,0,zx⟩))::e) w'):SxL P ops Q n (o::rest) e w:=by
 simp only [Az] at h
 exact CZ M (wn_none h.1) h.2.1 h.2.2.1 ty h.2.2.2 hx cs X k
theorem CE (M:Mem w0 U L w) (h:(o.guard,o.dst,Nat.blt d n,o.op)=(zx,G d,zz,.alloc ty)) (hz:(P.info? ty).map (·.zero)=G (G (.agg zs.toArray))) (k:∀g w',w.heap.size≤g→Mem w0 U (As.blk g ty zs::L) w'→SxL P ops Q n rest ((d,.pointer (G ⟨g,0,zx⟩))::e) w'):SxL P ops Q n (o::rest) e w:=by
 simp only [Az] at h
 exact G9 M (wn_none h.1) h.2.1 h.2.2.1 ty h.2.2.2 zs hz X k
theorem CQ {F:FuncId} {xs:List Lz} {vs:Kx} {ts:Array Ly} (M:Mem w0 U L w) (d:Nat) (h:(o.guard,o.dst,JW n (G d),o.op)=(zx,G d,zz,.call { callee:=.value (.func F),args:=xs.toArray,argTypes:=ts })) (hx:evs e xs=G vs) (hc:∀(us:Array Kv) (w:Kw),(callFunc F us).run P w=.ok (.enter F us) w) (hC:zt P F vs.toArray w λx w'=>x=.returned v∧Fr0 w w') (k:∀w',Mem w0 U L w'→SxL P ops Q n rest ((d,v)::e) w'):SxL P ops Q n (o::rest) e w:=by
 simp only [Az] at h
 exact YP M d (by simp only [h.1,h.2.1,h.2.2.1]) (AE h.2.2.2 hx hc) hC k
theorem a3R {F:FuncId} {xs:List Lz} {vs:Kx} {ts:Array Ly} {R:Ending→Kw→Prop} (d:Nat) (h:(o.guard,o.dst,JW n (G d),o.op)=(zx,G d,zz,.call { callee:=.value (.func F),args:=xs.toArray,argTypes:=ts })) (hx:evs e xs=G vs) (hc:∀(us:Array Kv) (w:Kw),(callFunc F us).run P w=.ok (.enter F us) w) (hC:zt P F vs.toArray w R) (k:∀x w',R x w'→∃v,x=.returned v∧SxL P ops Q n rest (e.ins (G d) v) w'):SxL P ops Q n (o::rest) e w:=by
 simp only [Az] at h
 exact sxl_call (G d) (wn_none h.1) h.2.1 h.2.2.1 (AE h.2.2.2 hx hc) hC k
theorem G1 {t t':Nat} (h:(o.guard,o.dst,Nat.blt d n,o.op)=(zx,G d,zz,.binOp .lss t x y t')) (hx:(ev e x,ev e y)=(G (.int k a),G (.int k b))) (q:SxL P ops Q n rest ((d,.bool (O (a<b)))::e) w):SxL P ops Q n (o::rest) e w:=by
 simp only [Az] at h hx
 exact sxl_y (wn_none h.1) h.2.1 h.2.2.1 (HL h.2.2.2 hx.1 hx.2) q
theorem a1c {t t':Nat} (h:(o.guard,o.dst,Nat.blt d n,o.op)=(zx,G d,zz,.binOp .leq t x y t')) (hx:(ev e x,ev e y)=(G (.int k a),G (.int k b))) (q:SxL P ops Q n rest ((d,.bool (O (a≤b)))::e) w):SxL P ops Q n (o::rest) e w:=by
 simp only [Az] at h hx
 exact sxl_y (wn_none h.1) h.2.1 h.2.2.1 (NO h.2.2.2 hx.1 hx.2) q
theorem vM {t t':Nat} (h:(o.guard,o.dst,Nat.blt d n,o.op)=(zx,G d,zz,.binOp .gtr t x y t')) (hx:(ev e x,ev e y)=(G (.int k a),G (.int k b))) (q:SxL P ops Q n rest ((d,.bool (O (b<a)))::e) w):SxL P ops Q n (o::rest) e w:=by
 simp only [Az] at h hx
 exact sxl_y (wn_none h.1) h.2.1 h.2.2.1 (LG h.2.2.2 hx.1 hx.2) q
theorem a1d {t t':Nat} (h:(o.guard,o.dst,Nat.blt d n,o.op)=(zx,G d,zz,.binOp .geq t x y t')) (hx:(ev e x,ev e y)=(G (.int k a),G (.int k b))) (q:SxL P ops Q n rest ((d,.bool (O (b≤a)))::e) w):SxL P ops Q n (o::rest) e w:=by
 simp only [Az] at h hx
 exact sxl_y (wn_none h.1) h.2.1 h.2.2.1 (LH h.2.2.2 hx.1 hx.2) q
theorem HU {t t':Nat} (h:(o.guard,o.dst,Nat.blt d n,o.op)=(zx,G d,zz,.binOp .eql t x y t')) (hx:(ev e x,ev e y)=(G (.int k a),G (.int k b))) (q:SxL P ops Q n rest ((d,.bool (O (a=b)))::e) w):SxL P ops Q n (o::rest) e w:=by
 simp only [Az] at h hx
 exact sxl_y (wn_none h.1) h.2.1 h.2.2.1 (ES h.2.2.2 hx.1 hx.2) q
theorem mM {t t':Nat} (h:(o.guard,o.dst,Nat.blt d n,o.op)=(zx,G d,zz,.binOp .neq t x y t')) (hx:(ev e x,ev e y)=(G (.int k a),G (.int k b))) (q:SxL P ops Q n rest ((d,.bool (!decide (a=b)))::e) w):SxL P ops Q n (o::rest) e w:=by
 simp only [Az] at h hx
 exact sxl_y (wn_none h.1) h.2.1 h.2.2.1 (KT h.2.2.2 hx.1 hx.2) q
theorem gyq {j d':Nat} {b:Bool} (h:(o.guard,(ops[j]?).bind (·.dst),e.get d',o.dst,Nat.blt d n,LU (QY foL) e o.op)=(G (j,b),G d',G (.bool b),G d,zz,G v)) (k:SxL zv ops Q n rest ((d,v)::e) w):SxL zv ops Q n (o::rest) e w:=by
 simp only [Az] at h
 exact sxl_y (wn_on h.1 h.2.1 h.2.2.1) h.2.2.2.1 h.2.2.2.2.1 (yp h.2.2.2.2.2) k
theorem gsg {q:Act→Prop} {j d':Nat} {b:Bool} (h:(o.guard,(ops[j]?).bind (·.dst),e.get d',o.dst,Nat.blt d n)=(G (j,b),G d',G (.bool b),G d,zz)) (hy:Y P e o w v) (k:SxS P ops w q n rest ((d,v)::e)):SxS P ops w q n (o::rest) e:=by
 simp only [Az] at h
 exact WD (wn_on h.1 h.2.1 h.2.2.1) h.2.2.2.1 h.2.2.2.2 hy k
theorem EZ {off:Nat} (M:Mem w0 U L w) (i:Nat) (h:(o.guard,o.dst,Nat.blt d n,o.op)=(zx,G d,zz,.load ty x)) (hx:(ev e x,VC scL ty,L[i]?)=(G (.pointer (G ⟨g,off,zx⟩)),zz,G (As.blk g tb cs))) (hu:cs[off]?=G v) (k:SxL zv ops Q n rest ((d,v)::e) w):SxL zv ops Q n (o::rest) e w:=by
 simp only [Az] at h hx
 exact sxl_y (wn_none h.1) h.2.1 h.2.2.1 (B3 h.2.2.2 hx.1 (sc hx.2.1) (M.cell i hx.2.2 hu)) k
theorem KW {off j d':Nat} {b:Bool} (M:Mem w0 U L w) (i:Nat) (h:(o.guard,(ops[j]?).bind (·.dst),e.get d',o.dst,Nat.blt d n,o.op)=(G (j,b),G d',G (.bool b),G d,zz,.load ty x)) (hx:(ev e x,VC scL ty,L[i]?)=(G (.pointer (G ⟨g,off,zx⟩)),zz,G (As.blk g tb cs))) (hu:cs[off]?=G v) (k:SxL zv ops Q n rest ((d,v)::e) w):SxL zv ops Q n (o::rest) e w:=by
 simp only [Az] at h hx
 exact sxl_y (wn_on h.1 h.2.1 h.2.2.1) h.2.2.2.1 h.2.2.2.2.1 (B3 h.2.2.2.2.2 hx.1 (sc hx.2.1) (M.cell i hx.2.2 hu)) k
theorem cD {off:Nat} {q:Act→Prop} (M:Mem w0 U L w) (i:Nat) (h:(o.guard,o.dst,Nat.blt d n,o.op)=(zx,G d,zz,.load ty x)) (hx:(ev e x,VC scL ty,L[i]?)=(G (.pointer (G ⟨g,off,zx⟩)),zz,G (As.blk g tb cs))) (hu:cs[off]?=G v) (k:SxS zv ops w q n rest ((d,v)::e)):SxS zv ops w q n (o::rest) e:=by
 simp only [Az] at h hx
 exact WD (wn_none h.1) h.2.1 h.2.2.1 (B3 h.2.2.2 hx.1 (sc hx.2.1) (M.cell i hx.2.2 hu)) k
def a2i (ops:Array Oper) (e:Env) (i n:Nat):Option Nat:=match ops[i]? with
 | some o=>match o.guard,o.dst with
  | some (j,b),G d=>match (ops[j]?).bind (·.dst) with
   | some d0=>match e.get d0,Nat.blt d n with
    | some (.bool c),zz=>match c==b with
     | true=>zx
     | false=>G d
    | _,_=>zx
   | none=>zx
  | _,_=>zx
 | none=>zx
theorem oJ {i:Nat} (h:a2i ops e i n=G d):∃o j b d0 c,ops[i]?=G o∧o.guard=G (j,b)∧(ops[j]?).bind (·.dst)=G d0∧e.get d0=G (.bool c)∧(c==b)=zy∧o.dst=G d∧Nat.blt d n=zz:=by
 unfold a2i at h
 split at h
 ·rename_i o ho
  split at h
  ·rename_i j b d1 hg hd
   split at h
   ·rename_i d0 h0
    split at h
    ·rename_i c hc hn
     split at h
     ·cases h
     rename_i hcb
     obtain rfl:d1=d:=Bz h;exact ⟨o,j,b,d0,c,ho,hg,h0,hc,hcb,hd,hn⟩
    cases h
   cases h
  cases h
 cases h
theorem AQ (i h:Nat) (hd:a2i ops e i n=G d) (hS:S w) (k:SxO P ops Q t S n f (listed.setIfInBounds i zz) ((d,undef)::e) w) (hs:Region.noSelect ops=zz:=by kernel_rfl) (hQ:∀c (a:Act) t v w,Q (.panic c) (a.put t v) w→Q (.panic c) a w:=by exact λc a t v w h=>by cases t<;>exact h) (hwait:JH ops h t=zz:=by kernel_rfl) (hih:Nat.blt i h=zz:=by exact rfl) (hf:Region.free .any ops listed i=zz:=by kernel_rfl) (hr:(Region.ready .any ops listed).contains i=zz:=by kernel_rfl):SxO P ops Q t S n (f+1) listed e w:=by
 obtain ⟨o,j,b,d0,c,ho,hg,h0,hc,hcb,hd,hn⟩:=oJ hd;exact lO i h hs hQ hwait hih hf hr ho hg h0 hc hcb hd hn hS k
theorem rQ {o:Oper} {d d0 j:Nat} {b:Bool} (i h:Nat) (hs:Region.noSelect ops=zz) (hQ:∀c (a:Act) t v w,Q (.panic c) (a.put t v) w→Q (.panic c) a w) (hwait:JH ops h t=zz) (hih:Nat.blt i h=zz) (hf:Region.free .any ops listed i=zz) (hr:(Region.ready .any ops listed).contains i=zz) (ho:ops[i]?=G o) (hg:o.guard=G (j,b)) (hj:(ops[j]?).bind (·.dst)=G d0) (hb:e.get d0=G undef) (hd:o.dst=G d) (hn:Nat.blt d n=zz) (hS:S w)
 (k:SxO P ops Q t S n f (listed.setIfInBounds i zz) ((d,undef)::e) w):SxO P ops Q t S n (f+1) listed e w:=⟨λa ha=>by
 have hw:Region.wanted o (yielded ops a.tmps)=zy:=by
  simp [Region.wanted,hg,yielded,hj,ha.get d0 _ hb,undef]
 refine NP (v:=undef) ho (Region.noSelect_spec hs) (λc a w=>hQ c a _ _ w) hwait (D6 hih) f listed a w (Region.free_spec ho hf) (by simpa using hr) (.inr ⟨hw,X⟩) hS ?_;rw [hd];exact k.run _ (ha.put (D6 hn) undef)⟩
theorem C9 {d0 j:Nat} {b:Bool} (i h:Nat) (ho:ops[i]?=G o) (hd:(o.guard,(ops[j]?).bind (·.dst),e.get d0,o.dst,Nat.blt d n)=(G (j,b),G d0,G undef,G d,zz)) (hS:S w) (k:SxO P ops Q t S n f (listed.setIfInBounds i zz) ((d,undef)::e) w) (hs:Region.noSelect ops=zz:=by kernel_rfl) (hQ:∀c (a:Act) t v w,Q (.panic c) (a.put t v) w→Q (.panic c) a w:=by exact λc a t v w h=>by cases t<;>exact h) (hwait:JH ops h t=zz:=by kernel_rfl) (hih:Nat.blt i h=zz:=by exact rfl) (hf:Region.free .any ops listed i=zz:=by kernel_rfl) (hr:(Region.ready .any ops listed).contains i=zz:=by kernel_rfl):SxO P ops Q t S n (f+1) listed e w:=by
 simp only [Az] at hd
 exact rQ i h hs hQ hwait hih hf hr ho hd.1 hd.2.1 hd.2.2.1 hd.2.2.2.1 hd.2.2.2.2 hS k
theorem BO {F:FuncId} {fn:Func} {c:Code} {vs:Kx} {R:Ending→Kw→Prop} (hf:P.funcs[F]?=G fn) (hn:fn.ntmps=n) (hb:(fn.body,Nat.ble vs.length n)=(G c,zz)) (h:Mem w AR [] w→Sx P c (bodyPost P fn R) n (RA 0 vs) w):zt P F vs.toArray w R:=by
 simp only [Az] at hb
 exact sx_enter hf hb.1 hn hb.2 (h (Mem.nil w))
theorem gr1 {fn:Func} {R:Ending→Kw→Prop} {t:Nat} (hr:(fn.results,e.get t)=(#[.tmp t],G v)) (h:R (.returned v) w):QX (bodyPost P fn R) .ret n e w:=by
 simp only [Az] at hr
 exact qx_ret1 hr.1 hr.2 h
theorem gnr (h:QX Q .ret n e w) {Q':Exit→Act→Kw→Prop}:SxL P ops (Exit.then (Code.ret.wp P Q) Q') n [] e w:=sxl_nil (qx_seq (sx_ret h))
theorem I0 {id:Nat} {l:List Oper} (M:Mem w0 U L w) (t:Nat) (hm:P.follows .mixedOrders=zz) (k:Mem w0 U L w.drew→SxO P l.toArray Q t (λw'=>Mem w0 U L w') n l.length (Array.replicate l.length zy) e w.drew):Sx P (Code.region id l.toArray zz) Q n e w:=EO t _ hm (k M.drew)
theorem SF {c el sz:Nat} {A:Ky} (h:(o.guard,o.dst,Nat.blt d n,o.op)=(zx,G d,zz,.call { callee:=.builtin .len,args := #[x],argTypes := #[ty] })) (hx:(ev e x,pH slL ty)=(G (.slice A m c),G (el,sz))) (q:SxL zv ops Q n rest ((d,.int .i64 (m:Int))::e) w):SxL zv ops Q n (o::rest) e w:=by
 simp only [Az] at h hx
 exact sxl_y (wn_none h.1) h.2.1 h.2.2.1 (I8 h.2.2.2 hx.1 (sl hx.2)) q
theorem D3 {t':Nat} (h:(o.guard,o.dst,Nat.blt d n,o.op)=(zx,G d,zz,.binOp .add t x y t')) (hx:(ev e x,ev e y)=(G (.int .i64 a),G (.int .i64 b))) (q:SxL P ops Q n rest ((d,.int .i64 (a+b))::e) w) (hb : -9223372036854775808≤a+b∧a+b≤9223372036854775807:=by omega):SxL P ops Q n (o::rest) e w:=by
 simp only [Az] at h hx
 exact sxl_y (wn_none h.1) h.2.1 h.2.2.1 (GZ h.2.2.2 hx.1 hx.2 hb) q
theorem AN {α:Type} {b:Bool} {x y:α} (h:b=zy):(if b=zz then x else y)=y:=Ae (V8 h)
theorem D1 {y:Code} {Q':Exit→Act→Kw→Prop} (h:(o.guard,o.dst,Nat.blt d n,LU (QY foL) e o.op)=(zx,G d,zz,G v)) (k:Sx zv y Q n ((d,v)::e) w):SxL zv ops (Exit.then (y.wp zv Q) Q') n [o] e w:=yb h (nq k)
theorem CL {id:Nat} {y:Code} (h:(o.guard,o.dst,Nat.blt d n,LU (QY foL) e o.op)=(zx,G d,zz,G v)) (k:SxL zv (o::rest).toArray (Exit.then (y.wp zv Q) Q) n rest ((d,v)::e) w):Sx zv (Code.seq (Code.region id (o::rest).toArray zy) y) Q n e w:=srg (yb h k)
theorem HK {o':Oper} {d':Nat} {v':Kv} (h:(o.guard,o.dst,Nat.blt d n,LU (QY foL) e o.op)=(zx,G d,zz,G v)) (h':(o'.guard,o'.dst,Nat.blt d' n,LU (QY foL) ((d,v)::e) o'.op)=(zx,G d',zz,G v')) (k:SxL zv ops Q n rest ((d',v')::(d,v)::e) w):SxL zv ops Q n (o::o'::rest) e w:=yb h (yb h' k)
theorem a3O {id:Nat} {l:List Oper} {y:Code} {Q':Exit→Act→Kw→Prop} (h:SxL P l.toArray (Exit.then (y.wp P Q) Q) n l e w):SxL P ops (Exit.then ((Code.seq (Code.region id l.toArray zy) y).wp P Q) Q') n [] e w:=nq (srg h)
theorem D4 {p:Prop} (h:p:=by first|omega|(simp;omega)|(simp<;>omega)):p:=h
theorem AV {p:Prop} (h:p:=by decide):p:=h
end
theorem kw {p:Prop} (h:p:=by first|exact wn_none rfl|exact wn_on rfl rfl rfl):p:=h
theorem bd1 {a b:Bool}:((a&&b)=zz)=(a=zz∧b=zz):=by cases a<;>cases b<;>simp
theorem bd2 {a b:Bool}:((a || b)=zz)=(a=zz∨b=zz):=by cases a<;>cases b<;>simp
theorem bd3 {a b:Bool}:((a&&b)=zy)=(a=zy∨b=zy):=by cases a<;>cases b<;>simp
theorem bd4 {a b:Bool}:((a || b)=zy)=(a=zy∧b=zy):=by cases a<;>cases b<;>simp
theorem bd5 {a:Bool}:((!a)=zz)=(a=zy):=by cases a<;>simp
theorem bd6 {a:Bool}:((!a)=zy)=(a=zz):=by cases a<;>simp
theorem bd {a b:Bool} {p:Prop} (h:a=b) (k:a=b→p:=by intro z;simp only [bd1,bd2,bd3,bd4,bd5,bd6,decide_eq_true_eq,decide_eq_false_iff_not] at z;exact z):p:=k h
structure Bx (p:Prop):Prop where
 v:p
theorem S0 {p q:Prop} (k:p) (h:Bx p→q:=by
 intro h
 first
  | refine sxl_y (by first|exact wn_none rfl|exact wn_on rfl rfl rfl) rfl rfl (yp rfl) ?_
  | refine sx_seq ?_
  | refine qx_seq ?_
  | refine sx_region ?_
  | refine sxl_nil ?_
  | refine sx_skip ?_
  | refine yo rfl ?_
  | refine CW rfl rfl rfl rfl rfl ?_
  | refine WD (by first|exact wn_none rfl|exact wn_on rfl rfl rfl) rfl rfl (yp rfl) ?_
  | refine sx_ret ?_
  | refine sx_exit ?_
  | refine sx_block ?_
  | refine qx_block_hit ?_
  | refine qx_block_normal ?_
  | refine qx_then_ret ?_
  | refine qx_then_exit ?_
  | refine qx_block_ret ?_
  | refine EI rfl rfl rfl rfl rfl rfl ?_
  | refine RM rfl rfl rfl rfl rfl ?_
  | refine DA ?_
  | refine lM ?_
  | refine sx_false rfl ?_
  | refine sx_true rfl ?_
 exact h.v):q:=h ⟨k⟩
theorem S1 {p q:Prop} (k:p) (h:Bx p→q:=by
 intro h
 first
  | refine sxl_y (by first|exact wn_none rfl|exact wn_on rfl rfl rfl) rfl rfl (by first|exact yp rfl|exact B3 rfl rfl (sc rfl) (M.cell 0 rfl rfl)|exact B3 rfl rfl (sc rfl) (M.cell 1 rfl rfl)|exact B3 rfl rfl (sc rfl) (M.cell 2 rfl rfl)|exact B3 rfl rfl (sc rfl) (M.cell 3 rfl rfl)|exact B3 rfl rfl (sc rfl) (M.cell 4 rfl rfl)|exact B3 rfl rfl (sc rfl) (M.cell 5 rfl rfl)|exact B3 rfl rfl (sc rfl) (M.cell 6 rfl rfl)|exact ES rfl rfl rfl|exact HL rfl rfl rfl|exact KT rfl rfl rfl|exact LG rfl rfl rfl|exact LH rfl rfl rfl|exact NO rfl rfl rfl|exact IV rfl rfl rfl|exact IU rfl rfl rfl|exact I8 rfl rfl (sl rfl)|exact GZ rfl rfl rfl A0) ?_
  | refine sx_seq ?_
  | refine qx_seq ?_
  | refine sx_region ?_
  | refine sxl_nil ?_
  | refine sx_skip ?_
  | refine yo rfl ?_
  | refine CW rfl rfl rfl rfl rfl ?_
  | refine WD (by first|exact wn_none rfl|exact wn_on rfl rfl rfl) rfl rfl (by first|exact yp rfl|exact B3 rfl rfl (sc rfl) (M.cell 0 rfl rfl)|exact B3 rfl rfl (sc rfl) (M.cell 1 rfl rfl)|exact B3 rfl rfl (sc rfl) (M.cell 2 rfl rfl)|exact B3 rfl rfl (sc rfl) (M.cell 3 rfl rfl)|exact ES rfl rfl rfl|exact HL rfl rfl rfl|exact KT rfl rfl rfl|exact LG rfl rfl rfl|exact LH rfl rfl rfl|exact NO rfl rfl rfl|exact IV rfl rfl rfl|exact IU rfl rfl rfl|exact I8 rfl rfl (sl rfl)) ?_
  | refine sx_ret ?_
  | refine sx_exit ?_
  | refine sx_block ?_
  | refine qx_block_hit ?_
  | refine qx_block_normal ?_
  | refine qx_then_ret ?_
  | refine qx_then_exit ?_
  | refine qx_block_ret ?_
  | refine EI rfl rfl rfl rfl rfl rfl ?_
  | refine RM rfl rfl rfl rfl rfl ?_
  | refine DA ?_
  | refine lM ?_
  | refine sx_false rfl ?_
  | refine sx_true rfl ?_
 exact h.v):q:=h ⟨k⟩
theorem V {p q:Prop} (k:p) (h:Bx p→q:=by
 intro h
 repeat refine S0 ?_
 exact h.v):q:=h ⟨k⟩
theorem W {p q:Prop} (k:p) (h:Bx p→q:=by
 intro h
 repeat refine S1 ?_
 exact h.v):q:=h ⟨k⟩
theorem T2 {p q:Prop} (k:p) (h:Bx p→q:=by
 intro h;iterate 2 refine S1 ?_
 exact h.v):q:=h ⟨k⟩
theorem T3 {p q:Prop} (k:p) (h:Bx p→q:=by
 intro h;iterate 3 refine S1 ?_
 exact h.v):q:=h ⟨k⟩
theorem T4 {p q:Prop} (k:p) (h:Bx p→q:=by
 intro h;iterate 4 refine S1 ?_
 exact h.v):q:=h ⟨k⟩
theorem T5 {p q:Prop} (k:p) (h:Bx p→q:=by
 intro h;iterate 5 refine S1 ?_
 exact h.v):q:=h ⟨k⟩
theorem T6 {p q:Prop} (k:p) (h:Bx p→q:=by
 intro h;iterate 6 refine S1 ?_
 exact h.v):q:=h ⟨k⟩
theorem T7 {p q:Prop} (k:p) (h:Bx p→q:=by
 intro h;iterate 7 refine S1 ?_
 exact h.v):q:=h ⟨k⟩
theorem T8 {p q:Prop} (k:p) (h:Bx p→q:=by
 intro h;iterate 8 refine S1 ?_
 exact h.v):q:=h ⟨k⟩
theorem T9 {p q:Prop} (k:p) (h:Bx p→q:=by
 intro h;iterate 9 refine S1 ?_
 exact h.v):q:=h ⟨k⟩
theorem T10 {p q:Prop} (k:p) (h:Bx p→q:=by
 intro h;iterate 10 refine S1 ?_
 exact h.v):q:=h ⟨k⟩
theorem T11 {p q:Prop} (k:p) (h:Bx p→q:=by
 intro h;iterate 11 refine S1 ?_
 exact h.v):q:=h ⟨k⟩
theorem T12 {p q:Prop} (k:p) (h:Bx p→q:=by
 intro h;iterate 12 refine S1 ?_
 exact h.v):q:=h ⟨k⟩
theorem T13 {p q:Prop} (k:p) (h:Bx p→q:=by
 intro h;iterate 13 refine S1 ?_
 exact h.v):q:=h ⟨k⟩
theorem T14 {p q:Prop} (k:p) (h:Bx p→q:=by
 intro h;iterate 14 refine S1 ?_
 exact h.v):q:=h ⟨k⟩
theorem T15 {p q:Prop} (k:p) (h:Bx p→q:=by
 intro h;iterate 15 refine S1 ?_
 exact h.v):q:=h ⟨k⟩
theorem T16 {p q:Prop} (k:p) (h:Bx p→q:=by
 intro h;iterate 16 refine S1 ?_
 exact h.v):q:=h ⟨k⟩
theorem ex5 {α:Type} {cells:α→Kx} {k i:Nat} {w:Kw} {A:Ky} {l:List α} (h:Rd w A (l.length*k) (AF cells l)) (hi:i<l.length:=by omega) (hk:0<k:=by omega):∃x b o,l[i]?=G x∧A=G ⟨b,o,zx⟩:=by
 obtain ⟨x,hx⟩:=EJ hi;obtain ⟨b,o,hA⟩:=DR hk h hx;exact ⟨x,b,o,hx,hA⟩
theorem cq {v:Kv} {p:Kv→Prop} (h:p v):∃u,Ending.returned v=Ending.returned u∧p u:=⟨v,rfl,h⟩
theorem ND {P:Lw} {Q:Exit→Act→Kw→Prop} {n m t s:Nat} {e:Env} {w w0:Kw} {S:Nat→Prop} {L:List As} {ops:Array Oper} {o:Oper} {rest:List Oper} {f:FuncId} {args:Array Kv} {xs:Kx} (M:Mem w0 S L w) (d:Nat) (hd:(o.guard,o.dst,JW n (G d))=(zx,G d,zz)) (hy:YC P e o w f args) (hc:zt P f args w λx w'=>∃A c,x=.returned (.slice A m c)∧w'.ownsRow w.heap.size t s (.slice A m c) m xs∧Fr0 w w') (k:∀A c w',Mem w0 S (As.own w0.heap.size t s (.slice A m c) m xs::L) w'→SxL P ops Q n rest ((d,.slice A m c)::e) w'):SxL P ops Q n (o::rest) e w:=by
 simp only [Az] at hd
 refine sxl_call (G d) (wn_none hd.1) hd.2.1 hd.2.2 hy hc ?_;rintro _ w' ⟨A,c,rfl,ho,hf⟩;exact ⟨_,X,k A c w' (M.pushOwn hf (Af _) ho)⟩
theorem FQ {P:Lw} {Q:Exit→Act→Kw→Prop} {n g t:Nat} {e:Env} {w w0:Kw} {S:Nat→Prop} {L:List As} {ops:Array Oper} {o:Oper} {rest:List Oper} {f:FuncId} {args:Array Kv} {v:Kv} {cs cs':Kx} (M:Mem w0 S L w) (i d:Nat) (hi:L[i]?=G (As.blk g t cs)) (hd:(o.guard,o.dst,JW n (G d))=(zx,G d,zz)) (hy:YC P e o w f args) (hc:zt P f args w λx w'=>x=.returned v∧Blk w' g t cs'∧Fr (λk=>k=g) w w') (k:∀w',Mem w0 S (L.set i (As.blk g t cs')) w'→SxL P ops Q n rest ((d,v)::e) w'):SxL P ops Q n (o::rest) e w:=by
 simp only [Az] at hd
 refine sxl_call (G d) (wn_none hd.1) hd.2.1 hd.2.2 hy hc ?_;rintro _ w' ⟨rfl,hb,hf⟩;exact ⟨_,X,k w' (M.putB i hi hb hf)⟩
end
end Go.Proofs.YtppmdnmjepkfaaaGreatDoor
