/- Lemmas. -/
import Derived.Test.YtaheakjfkpkefaaGreatDoorVb1
import Derived.Test.YtaheakjfkpkefaaGreatDoorProg
set_option maxHeartbeats 16000000
set_option maxRecDepth 100000
namespace Go.Proofs.YtaheakjfkpkefaaGreatDoor
open Go.RowKit
section
def AD {α:Type} (cells:α→List Value) (l:List α):List Value:=(l.map cells).flatten
theorem HC {α:Type} {cells:α→List Value} {k:Nat} (hk:∀x,(cells x).length=k) (l:List α):(AD cells l).length=l.length*k:=by
 unfold AD;rw [MW (m:=k) (λr hr=>by obtain ⟨x,_,rfl⟩:=List.mem_map.1 hr;exact hk x)]
 simp
theorem nX {α:Type} {cells:α→List Value} {k:Nat} (hk:∀x,(cells x).length=k) {l:List α} {i j:Nat} {x:α} {u:Value} (hx:l[i]?=some x) (hj:(cells x)[j]?=some u):(AD cells l)[i*k+j]?=some u:=by
 have h1:=X1 (m:=k) (l:=l.map cells) (λr hr=>by obtain ⟨x,_,rfl⟩:=List.mem_map.1 hr;exact hk x) (i:=i) (x:=cells x) (by rw [List.getElem?_map,hx];rfl);have hjk:j<k:=by have:=(List.getElem?_eq_some_iff.1 hj).1;rw [hk] at this;exact this
 have h2:(((l.map cells).flatten.drop (i*k)).take k)[j]?=(cells x)[j]?:=congrArg (·[j]?) h1;rw [List.getElem?_take_of_lt hjk,List.getElem?_drop,hj] at h2
 exact h2
theorem B9 {α:Type} (cells:α→List Value) (a b:List α):AD cells (a++b)=AD cells a++AD cells b:=by simp [AD]
theorem B5 {w:World} {α:Type} {cells:α→List Value} {A:Option Addr} {k:Nat} (hk0:0<k) {l:List α} {i:Nat} {x:α} (h:Rd w A (l.length*k) (AD cells l)) (hx:l[i]?=some x):∃b off,A=some ⟨b,off,none⟩:=by
 have hi:=(List.getElem?_eq_some_iff.1 hx).1;obtain ⟨b,off,e,_⟩:=h.2 (Nat.mul_pos (by omega) hk0);exact ⟨b,off,e⟩
theorem D9 {w:World} {α:Type} {cells:α→List Value} {A:Option Addr} {k:Nat} (hk:∀x,(cells x).length=k) {l:List α} {i:Nat} {x:α} (h:Rd w A (l.length*k) (AD cells l)) {b off:Nat} (hA:A=some ⟨b,off,none⟩) (hx:l[i]?=some x) (j:Nat) {u:Value} (hj:(cells x)[j]?=some u):Cell w.heap b (off+i*k+j) u:=by
 have h1:=nX hk hx hj;have hlt:=(List.getElem?_eq_some_iff.1 h1).1;rw [h.1] at hlt
 obtain ⟨b',off',e,hc⟩:=h.2 (by omega);rw [hA] at e;injection e with e;injection e with e1 e2 _;subst e1;subst e2
 rw [Nat.add_assoc];exact Cell.of (hc _ u h1)
theorem B6 {w:World} {α:Type} {cells:α→List Value} {A:Option Addr} {k:Nat} (hk:∀x,(cells x).length=k) {l:List α} {i:Nat} {x:α} (h:Rd w A (l.length*k) (AD cells l)) {b off:Nat} (hA:A=some ⟨b,off,none⟩) (hx:l[i]?=some x):Rd w (some ⟨b,off+i*k,none⟩) k (cells x):=
 ⟨hk x,λ_=>⟨b,off+i*k,rfl,λj _ hu=>(D9 hk h hA hx j hu).get w rfl⟩⟩
theorem BM {α:Type} {l:List α} {i:Nat} (h:i<l.length):∃x,l[i]?=some x:=⟨_,List.getElem?_eq_getElem h⟩
theorem AZ {α:Type} {l:List α} {i:Nat} {x:α} (hx:l[i]?=some x):l.drop i=x::l.drop (i+1):=by
 have hlt:=(List.getElem?_eq_some_iff.1 hx).1;rw [List.drop_eq_getElem_cons hlt]
 congr 1
 rw [List.getElem?_eq_getElem hlt] at hx
 exact Option.some.inj hx
theorem AP {α:Type} {l:List α} {i:Nat} {x:α} (hx:l[i]?=some x):l.take (i+1)=l.take i++[x]:=by
 rw [List.take_add_one,hx];rfl
def C0 (s:List UInt8):List Value:=[str s]
def OD (i:Int):List Value:=[.int .i64 i]
theorem DQ (s:List UInt8):(C0 s).length=1:=rfl
theorem Z0 (s:Int):(OD s).length=1:=rfl
theorem wO {b:Bool} (h:b=false):¬(b=true):=by rw [h];decide
theorem C5 {b:Bool} (h:(!b)=true):b=false:=by cases b<;>simp_all
theorem BL {b:Bool} (h:(!b)=false):b=true:=by cases b<;>simp_all
theorem BR {a b:Bool} (h:(a&&b)=true):a=true∧b=true:=by cases a<;>cases b<;>simp_all
theorem CV {a b:Bool} (h:(a&&b)=false):a=false∨b=false:=by cases a<;>cases b<;>simp_all
theorem E1 {a b:Bool} (h:(a || b)=true):a=true∨b=true:=by cases a<;>cases b<;>simp_all
theorem C6 {a b:Bool} (h:(a || b)=false):a=false∧b=false:=by cases a<;>cases b<;>simp_all
theorem HH (s:List UInt8):∀u∈C0 s,u.oneCell'=true:=by intro u hu;simp only [C0,List.mem_singleton] at hu;subst hu;rfl
theorem DS {α:Type} {cells:α→List Value} (h:∀x,∀u∈cells x,u.oneCell'=true) {l:List α}:∀u∈AD cells l,u.oneCell'=true:=by
 intro u hu;obtain ⟨r,hr,hu⟩:=List.mem_flatten.1 hu;obtain ⟨x,_,rfl⟩:=List.mem_map.1 hr;exact h x u hu
theorem HX {a b:Nat} (h:Nat.ble a b=true):a≤b:=Nat.le_of_ble_eq_true h
theorem WJ {w:World} {α:Type} {cells:α→List Value} {A:Option Addr} {k:Nat} (hk:∀x,(cells x).length=k) {l:List α} {i:Nat} {x:α} (h:Rd w A (l.length*k) (AD cells l)) {b off:Nat} (hA:A=some ⟨b,off,none⟩) (hx:l[i]?=some x) (j m:Nat) {ys:List Value} (hys:((cells x).drop j).take m=ys) (hm:ys.length=m):Rd w (some ⟨b,off+i*k+j,none⟩) m ys:=
 ⟨hm,λ_=>⟨b,off+i*k+j,rfl,λq u hu=>by
  subst hys;have hq:q<m:=by have:=(List.getElem?_eq_some_iff.1 hu).1;omega
  rw [List.getElem?_take_of_lt hq,List.getElem?_drop] at hu
  rw [Nat.add_assoc];exact (D9 hk h hA hx (j+q) hu).get w X⟩⟩
theorem DZ {w:World} {g:Nat} {t:TypeId} {cs:List Value} (h:Blk w g t cs) (off m:Nat) {ys:List Value} (hys:(cs.drop off).take m=ys) (hm:ys.length=m):Rd w (some ⟨g,off,none⟩) m ys:=
 ⟨hm,λ_=>⟨g,off,rfl,λq u hu=>by
  subst hys;have hq:q<m:=by have:=(List.getElem?_eq_some_iff.1 hu).1;omega
  rw [List.getElem?_take_of_lt hq,List.getElem?_drop] at hu
  exact (h.cell (off+q)).trans hu⟩⟩
def aY (l:List Value):Bool:=l.all (·.oneCell')
theorem CL {l:List Value} (h:aY l=true):∀u∈l,u.oneCell'=true:=λu hu=>List.all_eq_true.1 h u hu
theorem OA {w:World} {base size n:Nat} {e:TypeId} {v:Value} {xs:List Value} (h:w.ownsRow base e size v n xs):∀g∈v.ownBlock.toList,base≤g∧g<w.heap.size:=λg hg=>by
 obtain ⟨h1,h2⟩:=h.lt g (by simpa using hg);exact ⟨h1,h2⟩
theorem DI {w:World} {base size:Nat} {e:TypeId} {v:Value} {n:Nat} {xs:List Value} (h:w.ownsRow base e size v n xs):∃A cap,v=.slice A n cap∧n≤cap:=by
 rcases h.2 with ⟨rfl,h0⟩|⟨g,cap,cur,rfl,hb,hg,hc,hm,hs,ht⟩
 ·subst h0;exact ⟨none,0,rfl,Nat.le_refl _⟩
 ·exact ⟨some ⟨g,0,none⟩,cap,X,hc⟩
theorem L7 {w:World} {base size:Nat} {e:TypeId} {A:Option Addr} {c n:Nat} {xs:List Value} (h:w.ownsRow base e size (.slice A n c) n xs):Rd w A (n*size) xs:=by
 refine ⟨h.1,λhn=>?_⟩;rcases h.2 with ⟨hv,h0⟩|⟨g,cap,cur,hv,_⟩
 ·subst h0;omega
 ·injection hv with hA
  subst hA;refine ⟨g,0,X,λj u hu=>?_⟩
  have:=h.cells (g:=g) X j u hu
  rwa [Addr.add_mid] at this
namespace Mem
variable {w0 w w':World} {S:Nat→Prop} {L:List As}
theorem nilOwn (M:Mem w0 S L w) (e:TypeId) (size:Nat):Mem w0 S (As.own w0.heap.size e size (.slice none 0 0) 0 []::L) w:=by
 refine M.push Fr.refl _ ?_ (λg hg=>by simp [As.own,Value.ownBlock] at hg);exact ⟨by simp,.inl ⟨rfl,rfl⟩⟩
theorem pushOwn (M:Mem w0 S L w) (hf:Fr0 w w') {base size n:Nat} {e:TypeId} {v:Value} {xs:List Value} (hb:w.heap.size≤base) (h:w'.ownsRow base e size v n xs):Mem w0 S (As.own w0.heap.size e size v n xs::L) w':=by
 have hw:=M.fr.size;refine M.push hf _ (IX h (by omega)) (λg hg=>?_);obtain ⟨h1,h2⟩:=OA h g hg;exact ⟨by omega,h2⟩
theorem blkOwn (M:Mem w0 AR L w) (i:Nat) {g t size n:Nat} {cs:List Value} (hi:L[i]?=some (As.blk g t cs)) (hn:cs.length=n*size) (hm:n≤maxLen):Mem w0 AR (L.set i (As.own w0.heap.size t size (.slice (some ⟨g,0,none⟩) n n) n cs)) w:=by
 have hb:=M.blk i hi
 have hg:w0.heap.size≤g:=by
  rcases (M.lt i _ hi g (by simp [As.blk])).2 with h|h
  ·exact h
  ·exact h.elim
 refine M.upd i hi Fr.refl _ ?_ (λg' hg'=>.inl (by simpa [As.own,As.blk,Value.ownBlock,eq_comm] using hg'));exact ⟨hn,.inr ⟨g,n,cs.toArray,X,hg,hb,Nat.le_refl _,hm,by simpa using hn,by simp [←hn]⟩⟩
theorem ownLen (M:Mem w0 S L w) (i:Nat) {base e size n:Nat} {v:Value} {xs:List Value} (hi:L[i]?=some (As.own base e size v n xs)):n≤9223372036854775807:=by
 rcases (M.own i hi).2 with ⟨_,h0⟩|⟨g,cap,cur,_,_,_,hc,hm,_⟩
 ·omega
 ·unfold maxLen at hm;omega
theorem rdOwn (M:Mem w0 S L w) (i:Nat) {base e size n c:Nat} {A:Option Addr} {xs:List Value} (hi:L[i]?=some (As.own base e size (.slice A n c) n xs)):Rd w A (n*size) xs:=L7 (M.own i hi)
theorem rdBlk (M:Mem w0 S L w) (i:Nat) {g t m:Nat} {cs:List Value} (hi:L[i]?=some (As.blk g t cs)) (hm:cs.length=m):Rd w (some ⟨g,0,none⟩) m cs:=Rd.ofBlk (M.blk i hi) hm
end Mem
section
variable {P:Program} {Q:Exit→Act→World→Prop} {n:Nat} {e:Env} {w w0:World} {S:Nat→Prop} {L:List As} {ops:Array Oper} {o:Oper} {rest:List Oper}
theorem AI {l:List Oper} {d:Nat} {b:Bool} (hb:e.get d=some (.bool b)) (h1:b=true→SxL P ops Q n l ((d,.bool true)::e) w) (h2:b=false→SxL P ops Q n l ((d,.bool false)::e) w):SxL P ops Q n l e w:=.mk λa ha=>by
 have key:∀c,b=c→Agr n ((d,.bool c)::e) a:=λc hc=>⟨ha.size,ha.defers,λk v hk=>by
  unfold Env.get at hk
  split at hk
  ·rename_i hb'
   obtain rfl:d=k:=Nat.eq_of_beq_eq_true hb';simp only [Option.some.injEq] at hk
   rw [←hk,←hc];exact ha.get d _ hb
  ·exact ha.get k v hk⟩
 cases b
 ·exact (h2 X).run a (key false X)
 ·exact (h1 X).run a (key true X)
theorem DG {q:Act→Prop} {l:List Oper} {d:Nat} {b:Bool} (hb:e.get d=some (.bool b)) (h1:b=true→SxS P ops w q n l ((d,.bool true)::e)) (h2:b=false→SxS P ops w q n l ((d,.bool false)::e)):SxS P ops w q n l e:=.mk λa ha=>by
 have key:∀c,b=c→Agr n ((d,.bool c)::e) a:=λc hc=>⟨ha.size,ha.defers,λk v hk=>by
  unfold Env.get at hk
  split at hk
  ·rename_i hb'
   obtain rfl:d=k:=Nat.eq_of_beq_eq_true hb';simp only [Option.some.injEq] at hk
   rw [←hk,←hc];exact ha.get d _ hb
  ·exact ha.get k v hk⟩
 cases b
 ·exact (h2 X).run a (key false X)
 ·exact (h1 X).run a (key true X)
theorem qZ {l:List Oper} (cut:Nat) (r:Env) (F:World→Prop) (h:∀w',F w'→SxL P ops Q n (l.drop cut) r w') (k:(∀e' w',F w'→r.le e'→SxL P ops Q n (l.drop cut) e' w')→SxL P ops Q n l e w):SxL P ops Q n l e w:=
 k λ_ w' hF hl=>kU hl (h w' hF)
theorem qY {q:Act→Prop} {l:List Oper} (cut:Nat) (r:Env) (h:SxS P ops w q n (l.drop cut) r) (k:(∀e',r.le e'→SxS P ops w q n (l.drop cut) e')→SxS P ops w q n l e):SxS P ops w q n l e:=
 k λ_ hl=>.mk λa ha=>h.run a (ha.weak hl)
theorem IR {c:Code} {K:Act→World→Prop} (r:Env) (F:World→Prop) (h:∀w',F w'→QX (Exit.then K Q) .normal n r w') (k:(∀e' w',F w'→r.le e'→QX (Exit.then K Q) .normal n e' w')→Sx P c (Exit.then K Q) n e w):Sx P c (Exit.then K Q) n e w:=
 k λ_ w' hF hl=>PC hl (h w' hF)
theorem DE (M:Mem w0 S L w) (i:Nat) {d:Nat} (hw:Wn ops e o) (hd:o.dst=some d) (hn:Nat.blt d n=true) {s x:Operand} {t base el size bytes len m c:Nat} {z v:Value} {xs news:List Value} {A:Option Addr}
 (ho:o.op=.call { callee:=.builtin .append,args := #[s,x],argTypes := #[t,t] }) (hs:ev e s=some v) (hx:ev e x=some (.slice A m c)) (hi:L[i]?=some (As.own base el size v len xs)) (hr:Rd w A (m*size) news)
 (ht:P.underlying t=some (.slice el)) (hinf:(P.info? el).map (λi=>(i.zero,i.size,i.bytes))=some (some z,size,bytes)) (hzs:z.cells.size=size) (hpos:0<size) (h1:∀u∈news,u.oneCell'=true) (hb:w0.heap.size≤base) (hb':base≤w0.heap.size) (hsm:(len+m)*bytes≤140737488355328) (h63:len+m≤maxLen) {len':Nat} {xs':List Value} (hl':len+m=len') (hx':xs++news=xs')
 (k:∀A' c' w',Mem w0 S (L.set i (As.own base el size (.slice A' len' c') len' xs')) w'→SxL P ops Q n rest ((d,.slice A' len' c')::e) w'):SxL P ops Q n (o::rest) e w:=by
 subst hl';subst hx';have hw0:=M.fr.size;have hown:=M.own i hi;refine sxl_does (some d) hw hd hn (λρ hρ=>CZ s x t ho base el z size bytes ht hinf hzs hpos v len xs (hρ _ _ hs) hown A m c news (hρ _ _ hx) hr h1 h63 hsm (by omega)) ?_;rintro v' w1 ⟨h1,h2,h3⟩;obtain ⟨A',c',rfl,_⟩:=DI h1;refine k A' c' w1 (M.upd i hi ?_ _ h1 ?_)
 ·refine ⟨h2.os,h2.tape,h2.output,h2.size,λg hg hn=>h2.block g hg ?_⟩;intro e;exact hn (by simp [As.own,←e])
 ·intro g hg;rcases h3 with h|h
  ·left;simpa [As.own,h] using hg
  ·right
   have hg':g=w.heap.size:=by simpa [As.own,h,eq_comm] using hg
   have:=(OA h1 g hg).2
   omega
theorem CN (M:Mem w0 S L w) {d:Nat} (hw:Wn ops e o) (hd:o.dst=some d) (hn:Nat.blt d n=true) {t len el size:Nat} {parts:List (Nat × Operand)} {ps:List (Nat × Value)} (vs cs:List Value) {z:Value} (ho:o.op=.buildSlice t len parts.toArray) (hp:evp e parts=some ps) (hps:ps=(vs.zipIdx 0).map λx=>(x.2,x.1)) (hlen:vs.length=len)
 (hu:P.underlying t=some (.slice el)) (hi:(P.info? el).map (λi=>(i.zero,i.size))=some (some z,size)) (hpos:Nat.blt 0 (len*size)=true) (hsm:Nat.ble (len*size) 16777216=true) (hv:∀v∈vs,v.cells.size=size) (hcs:(vs.map λv=>v.cells.toList).flatten=cs)
 (k:∀g w',w.heap.size≤g→Mem w0 S (As.blk g el cs::L) w'→SxL P ops Q n rest ((d,.slice (some ⟨g,0,none⟩) len len)::e) w'):SxL P ops Q n (o::rest) e w:=by
 subst hcs;refine sxl_does (some d) hw hd hn (λρ hρ=>D3 vs z hρ ho hp hps hlen hu hi (CO hpos) (Nat.le_of_ble_eq_true hsm) hv) ?_;rintro _ w1 ⟨g,rfl,h1,h2,hb,hf⟩;exact k g w1 h1 (M.push hf _ hb (λg' hg'=>by simp only [As.blk,List.mem_singleton] at hg';subst hg';exact ⟨h1,h2⟩))
end
section
variable {P:Program} {e:Env} {w:World} {o:Oper}
theorem E0 {t t':Nat} {k:IntKind} {a b:Int} {x y:Operand} (ho:o.op=.binOp .lss t x y t') (hx:ev e x=some (.int k a)) (hy:ev e y=some (.int k b)):Y P e o w (.bool (decide (a<b))):=λρ h=>by
 unfold execOp;simp [ho,h _ _ hx,h _ _ hy,eqGuard_at_int,binOp_lss]
theorem GH {t t':Nat} {k:IntKind} {a b:Int} {x y:Operand} (ho:o.op=.binOp .leq t x y t') (hx:ev e x=some (.int k a)) (hy:ev e y=some (.int k b)):Y P e o w (.bool (decide (a≤b))):=λρ h=>by
 unfold execOp;simp [ho,h _ _ hx,h _ _ hy,eqGuard_at_int,binOp_leq]
theorem GU {t t':Nat} {k:IntKind} {a b:Int} {x y:Operand} (ho:o.op=.binOp .gtr t x y t') (hx:ev e x=some (.int k a)) (hy:ev e y=some (.int k b)):Y P e o w (.bool (decide (b<a))):=λρ h=>by
 unfold execOp;simp [ho,h _ _ hx,h _ _ hy,eqGuard_at_int,binOp_gtr]
theorem GV {t t':Nat} {k:IntKind} {a b:Int} {x y:Operand} (ho:o.op=.binOp .geq t x y t') (hx:ev e x=some (.int k a)) (hy:ev e y=some (.int k b)):Y P e o w (.bool (decide (b≤a))):=λρ h=>by
 unfold execOp;simp [ho,h _ _ hx,h _ _ hy,eqGuard_at_int,binOp_geq]
theorem C9 {t t':Nat} {k:IntKind} {a b:Int} {x y:Operand} (ho:o.op=.binOp .eql t x y t') (hx:ev e x=some (.int k a)) (hy:ev e y=some (.int k b)):Y P e o w (.bool (decide (a=b))):=λρ h=>by
 unfold execOp;simp only [ho,h _ _ hx,h _ _ hy,eqGuard_at_int,binOp_eql,Sem.run_bind,Sem.run_pure,Result.andThen_ok];by_cases hab:a=b<;>simp [hab]
theorem DX {t t':Nat} {k:IntKind} {a b:Int} {x y:Operand} (ho:o.op=.binOp .neq t x y t') (hx:ev e x=some (.int k a)) (hy:ev e y=some (.int k b)):Y P e o w (.bool (!decide (a=b))):=λρ h=>by
 unfold execOp;simp only [ho,h _ _ hx,h _ _ hy,eqGuard_at_int,binOp_neq,Sem.run_bind,Sem.run_pure,Result.andThen_ok];by_cases hab:a=b<;>simp [hab]
theorem AN {t g off len cap sz el:Nat} (j:Nat) {k:IntKind} {x i:Operand} {A:Option Addr} (hA:A=some ⟨g,off,none⟩) (ho:o.op=.indexAddr t x i) (hx:ev e x=some (.slice A len cap)) (hi:ev e i=some (.int k (j:Int))) (ht:DH P t=some (el,sz)) (h0:j<len) :
 Y P e o w (.pointer (some ⟨g,off+j*sz,none⟩)):=by subst hA;exact M9 ho hx hi ht h0
end
section
variable {P:Program} {Q:Exit→Act→World→Prop} {n f t:Nat} {e:Env} {w w0:World} {S:Nat→Prop} {L L':List As} {ops:Array Oper} {o:Oper} {listed:Array Bool} {c:Code} {I:World→Prop}
theorem P4 (r:Env) (F:World→Prop) (h:∀w',F w'→QX Q .normal n r w') (k:(∀e' w',F w'→r.le e'→QX Q .normal n e' w')→Sx P c Q n e w):Sx P c Q n e w:=k λ_ w' hF hl=>PC hl (h w' hF)
theorem l7 {α:Type} (r:α→Env) (F:α→World→Prop) (h:∀x w',F x w'→QX Q .normal n (r x) w') (k:(∀x e' w',F x w'→(r x).le e'→QX Q .normal n e' w')→Sx P c Q n e w):Sx P c Q n e w:=k λx _ w' hF hl=>PC hl (h x w' hF)
theorem P3 {α β:Type} (r:α→β→Env) (F:α→β→World→Prop) (h:∀x y w',F x y w'→QX Q .normal n (r x y) w') (k:(∀x y e' w',F x y w'→(r x y).le e'→QX Q .normal n e' w')→Sx P c Q n e w):Sx P c Q n e w:=k λx y _ w' hF hl=>PC hl (h x y w' hF)
theorem SM {α β γ δ:Type} (r:α→β→γ→δ→Env) (F:α→β→γ→δ→World→Prop) (h:∀x y z u w',F x y z u w'→QX Q .normal n (r x y z u) w') (k:(∀x y z u e' w',F x y z u w'→(r x y z u).le e'→QX Q .normal n e' w')→Sx P c Q n e w):Sx P c Q n e w:=k λx y z u _ w' hF hl=>PC hl (h x y z u w' hF)
theorem DO {g:Nat} {ty:TypeId} {cs:List Value} {w w':World} (h1:w.heap.size≤g) (h2:g<w'.heap.size):∀g'∈(As.blk g ty cs).fp,w.heap.size≤g'∧g'<w'.heap.size:=λg' hg'=>by
 simp only [As.blk,List.mem_singleton] at hg';subst hg';exact ⟨h1,h2⟩
theorem MN {g:Nat} {K:List (List UInt8 × Value)} {w w':World} (h1:w.heap.size≤g) (h2:g<w'.heap.size):∀g'∈(As.mp g K).fp,w.heap.size≤g'∧g'<w'.heap.size:=λg' hg'=>by
 simp only [As.mp,List.mem_singleton] at hg';subst hg';exact ⟨h1,h2⟩
theorem Mem.putB (M:Mem w0 S L w) (i:Nat) {g ty:Nat} {cs cs':List Value} {w':World} (hi:L[i]?=some (As.blk g ty cs)) (hb:Blk w' g ty cs') (hf:Fr (λk=>k=g) w w'):Mem w0 S (L.set i (As.blk g ty cs')) w':=
 M.upd i hi (bX hf) (As.blk g ty cs') hb (λ_ hg'=>.inl hg')
end
section
variable {P:Program} {e:Env} {w:World} {o:Oper}
theorem cD {t:Nat} {x j:Operand} {l:List UInt8} {k':IntKind} {b:Nat} (ho:o.op=.slice t x none (some j) none) (hx:ev e x=some (str l)) (hj:ev e j=some (.int k' (b:Int))) (ht:P.underlying t=some .string) (hb:b≤l.length):Y P e o w (str (l.take b)):=λρ h=>by
 have hs:(ByteArray.mk l.toArray).size=l.length:=by show l.toArray.size=_;simp
 unfold execOp
 simp [ho,h _ _ hx,h _ _ hj,str,Instr.sliceAt,Instr.slice,run_underlying ht,Instr.sliceBounds,Instr.sliceBound,asIntOf,hs,hb,Lib.extract_eq]
theorem DM {t kt el:TypeId} {x i:Operand} {g:Nat} {k:List UInt8} {L:List (List UInt8 × Value)} {z v:Value} {b:Bool} (ho:o.op=.lookup t x i true) (hx:ev e x=some (.map (some g))) (hi:ev e i=some (str k)) (hu:P.underlying t=some (.map kt el)) (hd:P.underlying kt=some .string)
 (hz:(P.info? el).map (·.zero)=some (some z)) (hM:Mp w g L) (hv:(CA L k).getD z=v) (hb:(CA L k).isSome=b):Y P e o w (.tuple #[v,.bool b]):=by
 subst hv;subst hb;exact OR (ok:=true) ho hx hi hu hd hz hM
theorem BK {t kt el:TypeId} {x i:Operand} {g:Nat} {k:List UInt8} {L:List (List UInt8 × Value)} {z v:Value} (ho:o.op=.lookup t x i false) (hx:ev e x=some (.map (some g))) (hi:ev e i=some (str k)) (hu:P.underlying t=some (.map kt el)) (hd:P.underlying kt=some .string)
 (hz:(P.info? el).map (·.zero)=some (some z)) (hM:Mp w g L) (hv:(CA L k).getD z=v):Y P e o w v:=by
 subst hv;exact OR (ok:=false) ho hx hi hu hd hz hM
theorem uK {t t':TypeId} {x y:Operand} {b c:UInt8} (ho:o.op=.binOp .or t x y t') (hx:ev e x=some (.int .u8 (b.toNat:Int))) (hy:ev e y=some (.int .u8 (c.toNat:Int))):Y P e o w (.int .u8 ((b ||| c).toNat:Int)):=λρ h=>by
 have hk:Op.intBits .or .u8 (b.toNat:Int) (c.toNat:Int)=pure (.int .u8 ((b ||| c).toNat:Int)):=by
  unfold Op.intBits
  have h1:BitVec.ofInt (IntKind.u8).bits (b.toNat:Int)=b.toBitVec:=by
   apply BitVec.eq_of_toNat_eq;simp [IntKind.bits]
  have h2:BitVec.ofInt (IntKind.u8).bits (c.toNat:Int)=c.toBitVec:=by
   apply BitVec.eq_of_toNat_eq;simp [IntKind.bits]
  simp only [h1,h2];have h3:((b.toBitVec ||| c.toBitVec:BitVec 8).toNat:Int)=((b ||| c).toNat:Int):=X
  have h4:(IntKind.u8).wrap ((b ||| c).toNat:Int)=((b ||| c).toNat:Int):=by
   have:=(b ||| c).toNat_lt
   rw [UInt8.toNat_or] at this
   simp [IntKind.wrap,IntKind.bits,IntKind.signed];omega
  show (pure (.int .u8 ((IntKind.u8).wrap ((b.toBitVec ||| c.toBitVec:BitVec 8).toNat:Int))):Sem Value)=_
  rw [h3,h4]
 unfold execOp
 simp [ho,h _ _ hx,h _ _ hy,eqGuard_at_int,Go.binOp,hk]
theorem vB {t t':TypeId} {x y:Operand} {a b:Nat} (ho:o.op=.call { callee:=.builtin .min,args := #[x,y],argTypes := #[t,t'] }) (hx:ev e x=some (.int .i64 (a:Int))) (hy:ev e y=some (.int .i64 (b:Int))):Y P e o w (.int .i64 ((min a b:Nat):Int)):=λρ h=>by
 unfold execOp;have hab:(if (b:Int)<(a:Int) then (b:Int) else (a:Int))=((min a b:Nat):Int):=by split<;>omega
 simp only [ho,h _ _ hx,h _ _ hy,resolve,invoke,builtin,Builtin.min_,Builtin.min2,List.map_toArray,List.map_cons,List.map_nil,List.foldlM_cons,List.foldlM_nil,Sem.run_bind,Sem.run_pure,Result.andThen_ok,hab]
end
end
section
section
variable {P:Program} {ops:Array Oper} {Q:Exit→Act→World→Prop} {S:World→Prop} {t n f:Nat} {listed:Array Bool} {e:Env} {w:World}
theorem DN {d:Nat} {b:Bool} (hb:e.get d=some (.bool b)) (h1:b=true→SxO P ops Q t S n f listed ((d,.bool true)::e) w) (h2:b=false→SxO P ops Q t S n f listed ((d,.bool false)::e) w):SxO P ops Q t S n f listed e w:=.mk λa ha=>by
 have key:∀c,b=c→Agr n ((d,.bool c)::e) a:=λc hc=>⟨ha.size,ha.defers,λk v hk=>by
  unfold Env.get at hk
  split at hk
  ·rename_i hb'
   obtain rfl:d=k:=Nat.eq_of_beq_eq_true hb';simp only [Option.some.injEq] at hk
   rw [←hk,←hc];exact ha.get d _ hb
  ·exact ha.get k v hk⟩
 cases b
 ·exact (h2 X).run a (key false X)
 ·exact (h1 X).run a (key true X)
theorem cV {o:Oper} {d d0 j:Nat} {b c:Bool} (i h:Nat) (hs:Region.noSelect ops=true) (hQ:∀c (a:Act) t v w,Q (.panic c) (a.put t v) w→Q (.panic c) a w) (hwait:HF ops h t=true) (hih:Nat.blt i h=true)
 (hf:Region.free .any ops listed i=true) (hr:(Region.ready .any ops listed).contains i=true) (ho:ops[i]?=some o) (hg:o.guard=some (j,b)) (hj:(ops[j]?).bind (·.dst)=some d0) (hb:e.get d0=some (.bool c)) (hne:(c==b)=false) (hd:o.dst=some d) (hn:Nat.blt d n=true) (hS:S w)
 (k:SxO P ops Q t S n f (listed.setIfInBounds i true) ((d,undef)::e) w):SxO P ops Q t S n (f+1) listed e w:=⟨λa ha=>by
 have hw:Region.wanted o (yielded ops a.tmps)=false:=by
  simp only [Region.wanted,hg,yielded,hj,ha.get d0 _ hb,Option.bind_some]
  cases c<;>cases b<;>simp_all
 refine L0 (v:=undef) ho (Region.noSelect_spec hs) (λc a w=>hQ c a _ _ w) hwait (CO hih) f listed a w (Region.free_spec ho hf) (by simpa using hr) (.inr ⟨hw,X⟩) hS ?_;rw [hd];exact k.run _ (ha.put (CO hn) undef)⟩
theorem oo1 {o:Oper} {d d0 j:Nat} {b c:Bool} (i h:Nat) (ho:ops[i]?=some o) (hg:o.guard=some (j,b)) (hj:(ops[j]?).bind (·.dst)=some d0) (hb:e.get d0=some (.bool c)) (hne:(c==b)=false) (hd:o.dst=some d) (hn:Nat.blt d n=true) (hS:S w) (k:SxO P ops Q t S n f (listed.setIfInBounds i true) ((d,undef)::e) w) (hs:Region.noSelect ops=true:=by kernel_rfl) (hQ:∀c (a:Act) t v w,Q (.panic c) (a.put t v) w→Q (.panic c) a w:=by exact λc a t v w h=>by cases t<;>exact h) (hwait:HF ops h t=true:=by kernel_rfl) (hih:Nat.blt i h=true:=by exact rfl) (hf:Region.free .any ops listed i=true:=by kernel_rfl) (hr:(Region.ready .any ops listed).contains i=true:=by kernel_rfl):SxO P ops Q t S n (f+1) listed e w:=
 cV i h hs hQ hwait hih hf hr ho hg hj hb hne hd hn hS k
end
end
open Tryz
section
def foL : List (Nat × Nat × Nat):=[(26,0,0),(26,1,1),(26,2,2),(33,0,0),(33,1,1),(33,2,2),(33,3,3),(33,4,4),(36,0,0),(36,1,1),(38,0,0),(38,1,1),(38,2,2),(50,0,0),(56,0,0),(56,1,1),(56,2,2),(56,3,3),(56,4,4),(56,5,5),(56,6,6),(56,7,7),(56,8,8),(62,0,0),(62,1,1),(62,2,2),(62,3,3),(62,4,4),(64,0,0),(64,1,5),(72,0,0),(72,1,1),(72,2,2),(72,3,3),(72,4,4),(90,0,0),(90,1,5),(90,2,6),(90,3,7),(90,4,8),(90,5,9),(95,0,0),(95,1,1),(95,2,2),(95,3,3),(95,4,4),(95,5,5),(95,6,6),(95,7,7),(95,8,8),(95,9,9),(95,10,10),(100,0,0),(100,1,1),(100,2,2),(100,3,3),(103,0,0),(103,1,1),(109,0,0),(109,1,1),(109,2,2),(109,3,3),(112,0,0),(112,1,1),(112,2,5),(112,3,6),(119,0,0),(119,1,1),(137,0,0),(137,1,1),(137,2,2),(137,3,3),(137,4,4),(137,5,5),(139,0,0),(139,1,1),(139,2,2),(139,3,3),(139,4,4),(166,0,0),(166,1,7),(166,2,8),(166,3,9),(168,0,0),(168,1,1),(168,2,2),(168,3,12),(168,4,13),(174,0,0),(174,1,1),(199,0,0),(199,1,5),(199,2,6),(199,3,7),(246,0,0),(246,1,1),(262,0,0),(262,1,1),(316,0,0),(316,1,1),(316,2,2)]
def scL : List Nat:=[2,3,4,5,9,12,21,22,23,24,29,31,34,44,45,48,51,59,60,69,75,76,79,85,86,87,88,92,97,110,116,120,124,126,134,135,140,147,154,155,158,159,163,164,169,170,172,180,190,197,202,203,205,207,209,212,218,236,238,240,243,244,256,264,270,276,287,291,300,312,313,318,322,349]
def slL : List (Nat × Nat × Nat):=[(22,64,10),(23,26,4),(24,103,5),(29,36,6),(31,56,9),(45,38,3),(48,9,1),(59,95,11),(60,109,4),(76,3,1),(110,112,7),(116,119,10),(120,72,5),(135,139,5),(158,159,1),(244,5,1),(349,100,4)]
def arL : List (Nat × Nat × Nat × Nat):=[(195,256,5,1),(210,2,3,1),(232,256,4,1),(263,16,262,2),(344,24,5,1),(351,20,276,1),(352,65,5,1),(357,32,5,1),(358,64,5,1)]
def ptL : List (Nat × Nat):=[(34,90),(134,137),(155,199),(164,168),(236,232),(243,246),(270,5),(312,316),(322,3)]
def OF : List (Nat × Nat × Nat)→Nat→Nat→Option Nat
 | [],_,_=>none
 | (a,b,k)::l,s,f=>match Nat.beq a s with
  | true=>match Nat.beq b f with
   | true=>some k
   | false=>OF l s f
  | false=>OF l s f
def RI : List Nat→Nat→Bool
 | [],_=>false
 | a::l,t=>match Nat.beq a t with
  | true=>true
  | false=>RI l t
def iO : List (Nat × Nat × Nat)→Nat→Option (Nat × Nat)
 | [],_=>none
 | (a,p)::l,t=>match Nat.beq a t with
  | true=>some p
  | false=>iO l t
def nR : List (Nat × Nat)→Nat→Option Nat
 | [],_=>none
 | (a,p)::l,t=>match Nat.beq a t with
  | true=>some p
  | false=>nR l t
theorem Z8 : ∀(l:List (Nat × Nat)) {t:Nat} {p:Nat},nR l t=some p→(t,p)∈l
 | [],_,_,h=>by simp [nR] at h
 | (a,q)::l,t,p,h=>by
  unfold nR at h
  split at h
  ·rename_i h1;obtain rfl:=Nat.eq_of_beq_eq_true h1;simp only [Option.some.injEq] at h;subst h;simp
  ·exact List.mem_cons_of_mem _ (Z8 l h)
def nQ : List (Nat × Nat × Nat × Nat)→Nat→Option (Nat × Nat × Nat)
 | [],_=>none
 | (a,p)::l,t=>match Nat.beq a t with
  | true=>some p
  | false=>nQ l t
theorem TK : ∀(l:List (Nat × Nat × Nat)) {s f k:Nat},OF l s f=some k→(s,f,k)∈l
 | [],_,_,_,h=>by simp [OF] at h
 | (a,b,c)::l,s,f,k,h=>by
  unfold OF at h
  split at h
  ·rename_i h1
   split at h
   ·rename_i h2
    obtain rfl:=Nat.eq_of_beq_eq_true h1;obtain rfl:=Nat.eq_of_beq_eq_true h2;simp only [Option.some.injEq] at h;subst h;simp
   ·exact List.mem_cons_of_mem _ (TK l h)
  ·exact List.mem_cons_of_mem _ (TK l h)
theorem Z5 : ∀(l:List Nat) {t:Nat},RI l t=true→t∈l
 | [],_,h=>by simp [RI] at h
 | a::l,t,h=>by
  unfold RI at h
  split at h
  ·rename_i h1;obtain rfl:=Nat.eq_of_beq_eq_true h1;simp
  ·exact List.mem_cons_of_mem _ (Z5 l h)
theorem Z7 : ∀(l:List (Nat × Nat × Nat)) {t:Nat} {p:Nat × Nat},iO l t=some p→(t,p)∈l
 | [],_,_,h=>by simp [iO] at h
 | (a,q)::l,t,p,h=>by
  unfold iO at h
  split at h
  ·rename_i h1;obtain rfl:=Nat.eq_of_beq_eq_true h1;simp only [Option.some.injEq] at h;subst h;simp
  ·exact List.mem_cons_of_mem _ (Z7 l h)
theorem Z6 : ∀(l:List (Nat × Nat × Nat × Nat)) {t:Nat} {p:Nat × Nat × Nat},nQ l t=some p→(t,p)∈l
 | [],_,_,h=>by simp [nQ] at h
 | (a,q)::l,t,p,h=>by
  unfold nQ at h
  split at h
  ·rename_i h1;obtain rfl:=Nat.eq_of_beq_eq_true h1;simp only [Option.some.injEq] at h;subst h;simp
  ·exact List.mem_cons_of_mem _ (Z6 l h)
theorem xH : foL.all (λx=>MX prog x.1 x.2.1==some x.2.2)=true:=by kernel_rfl
theorem vV : scL.all (λx=>J3 prog x)=true:=by kernel_rfl
theorem vT : slL.all (λx=>DH prog x.1==some x.2)=true:=by kernel_rfl
theorem xZ : arL.all (λx=>NK prog x.1==some x.2)=true:=by kernel_rfl
theorem wC : ptL.all (λx=>NB prog x.1==some x.2)=true:=by kernel_rfl
theorem CH : prog.follows .mixedOrders=true:=by kernel_rfl
theorem pt {t el:Nat} (h:nR ptL t=some el):NB prog t=some el:=by
 have:=List.all_eq_true.1 wC _ (Z8 _ h);simpa using this
theorem fo {s f k:Nat} (h:OF foL s f=some k):MX prog s f=some k:=by
 have:=List.all_eq_true.1 xH _ (TK _ h);simpa using this
theorem yp {e:Env} {o:Oper} {w:World} {v:Value} (h:J5 (OF foL) e o.op=some v):Y prog e o w v:=uY (λ_ _ _ h=>fo h) h
theorem yb {n:Nat} {Q:Exit→Act→World→Prop} {e:Env} {w:World} {ops:Array Oper} {o:Oper} {rest:List Oper} {d:Nat} {v:Value} (h:(o.guard,o.dst,Nat.blt d n,J5 (OF foL) e o.op)=(none,some d,true,some v)) (k:SxL prog ops Q n rest ((d,v)::e) w):SxL prog ops Q n (o::rest) e w:=
 sxl_y (wn_none (Prod.mk.inj h).1) (Prod.mk.inj (Prod.mk.inj h).2).1 (Prod.mk.inj (Prod.mk.inj (Prod.mk.inj h).2).2).1 (yp (Prod.mk.inj (Prod.mk.inj (Prod.mk.inj h).2).2).2) k
theorem sc {t:Nat} (h:RI scL t=true):J3 prog t=true:=List.all_eq_true.1 vV _ (Z5 _ h)
theorem yl {n:Nat} {Q:Exit→Act→World→Prop} {e:Env} {w:World} {ops:Array Oper} {o:Oper} {rest:List Oper} {d t g off:Nat} {x:Operand} {v:Value} (h:(o.guard,o.dst,Nat.blt d n,o.op)=(none,some d,true,.load t x)) (hx:(ev e x,RI scL t)=(some (.pointer (some ⟨g,off,none⟩)),true)) (hc:Cell w.heap g off v) (k:SxL prog ops Q n rest ((d,v)::e) w):SxL prog ops Q n (o::rest) e w:=by
 simp only [Prod.mk.injEq] at h hx
 exact sxl_y (wn_none h.1) h.2.1 h.2.2.1 (BF h.2.2.2 hx.1 (sc hx.2) hc) k
theorem ym {n:Nat} {Q:Exit→Act→World→Prop} {e:Env} {w:World} {ops:Array Oper} {o:Oper} {rest:List Oper} {j d' d t g off:Nat} {b:Bool} {x:Operand} {v:Value} (h:(o.guard,(ops[j]?).bind (·.dst),e.get d',o.dst,Nat.blt d n,o.op)=(some (j,b),some d',some (.bool b),some d,true,.load t x)) (hx:(ev e x,RI scL t)=(some (.pointer (some ⟨g,off,none⟩)),true)) (hc:Cell w.heap g off v) (k:SxL prog ops Q n rest ((d,v)::e) w):SxL prog ops Q n (o::rest) e w:=by
 simp only [Prod.mk.injEq] at h hx
 exact sxl_y (wn_on h.1 h.2.1 h.2.2.1) h.2.2.2.1 h.2.2.2.2.1 (BF h.2.2.2.2.2 hx.1 (sc hx.2) hc) k
theorem oc {ops:Array Oper} {Q:Exit→Act→World→Prop} {S:World→Prop} {t n f:Nat} {listed:Array Bool} {e:Env} {w:World} {o:Oper} {d:Nat} {v:Value} (i h:Nat) (ho:ops[i]?=some o) (hd:(o.guard,o.dst,Nat.blt d n,J5 (OF foL) e o.op)=(none,some d,true,some v)) (hS:S w) (k:SxO prog ops Q t S n f (listed.setIfInBounds i true) ((d,v)::e) w) (hs:Region.noSelect ops=true:=by kernel_rfl) (hQ:∀c (a:Act) t v w,Q (.panic c) (a.put t v) w→Q (.panic c) a w:=by exact λc a t v w h=>by cases t<;>exact h) (hwait:HF ops h t=true:=by kernel_rfl) (hih:Nat.blt i h=true:=by exact rfl) (hf:Region.free .any ops listed i=true:=by kernel_rfl) (hr:(Region.ready .any ops listed).contains i=true:=by kernel_rfl):SxO prog ops Q t S n (f+1) listed e w:=by
 simp only [Prod.mk.injEq] at hd
 exact cU i h hs hQ hwait hih hf hr ho (wn_none hd.1) hd.2.1 hd.2.2.1 hS (λ_ _=>yp hd.2.2.2) k
theorem sa {P:Program} {ops:Array Oper} {q:Act→Prop} {n:Nat} {e:Env} {w:World} {o:Oper} {rest:List Oper} {d:Nat} {v:Value} (h:(o.guard,o.dst,Nat.blt d n)=(none,some d,true)) (hy:Y P e o w v) (k:SxS P ops w q n rest ((d,v)::e)):SxS P ops w q n (o::rest) e:=by
 simp only [Prod.mk.injEq] at h
 exact XX (wn_none h.1) h.2.1 h.2.2 hy k
theorem sb {ops:Array Oper} {q:Act→Prop} {n:Nat} {e:Env} {w:World} {o:Oper} {rest:List Oper} {d:Nat} {v:Value} (h:(o.guard,o.dst,Nat.blt d n,J5 (OF foL) e o.op)=(none,some d,true,some v)) (k:SxS prog ops w q n rest ((d,v)::e)):SxS prog ops w q n (o::rest) e:=by
 simp only [Prod.mk.injEq] at h
 exact XX (wn_none h.1) h.2.1 h.2.2.1 (yp h.2.2.2) k
theorem sd {ops:Array Oper} {q:Act→Prop} {n:Nat} {e:Env} {w:World} {o:Oper} {rest:List Oper} {d t g off:Nat} {x:Operand} {v:Value} (h:(o.guard,o.dst,Nat.blt d n,o.op)=(none,some d,true,.load t x)) (hx:(ev e x,RI scL t)=(some (.pointer (some ⟨g,off,none⟩)),true)) (hc:Cell w.heap g off v) (k:SxS prog ops w q n rest ((d,v)::e)):SxS prog ops w q n (o::rest) e:=by
 simp only [Prod.mk.injEq] at h hx
 exact XX (wn_none h.1) h.2.1 h.2.2.1 (BF h.2.2.2 hx.1 (sc hx.2) hc) k
theorem ol {ops:Array Oper} {Q:Exit→Act→World→Prop} {S:World→Prop} {t n f:Nat} {listed:Array Bool} {e:Env} {w:World} {o:Oper} {d t1 g off:Nat} {x:Operand} {v:Value} (i h:Nat) (ho:ops[i]?=some o) (hd:(o.guard,o.dst,Nat.blt d n,o.op)=(none,some d,true,.load t1 x)) (hx:(ev e x,RI scL t1)=(some (.pointer (some ⟨g,off,none⟩)),true)) (hS:S w) (hy:∀w',S w'→Cell w'.heap g off v) (k:SxO prog ops Q t S n f (listed.setIfInBounds i true) ((d,v)::e) w) (hs:Region.noSelect ops=true:=by kernel_rfl) (hQ:∀c (a:Act) t v w,Q (.panic c) (a.put t v) w→Q (.panic c) a w:=by exact λc a t v w h=>by cases t<;>exact h) (hwait:HF ops h t=true:=by kernel_rfl) (hih:Nat.blt i h=true:=by exact rfl) (hf:Region.free .any ops listed i=true:=by kernel_rfl) (hr:(Region.ready .any ops listed).contains i=true:=by kernel_rfl):SxO prog ops Q t S n (f+1) listed e w:=by
 simp only [Prod.mk.injEq] at hd hx
 exact cU i h hs hQ hwait hih hf hr ho (wn_none hd.1) hd.2.1 hd.2.2.1 hS (λw' hw'=>BF hd.2.2.2 hx.1 (sc hx.2) (hy w' hw')) k
theorem sl {t el sz:Nat} (h:iO slL t=some (el,sz)):DH prog t=some (el,sz):=by
 have:=List.all_eq_true.1 vT _ (Z7 _ h);simpa using this
theorem ar {t n el sz:Nat} (h:nQ arL t=some (n,el,sz)):NK prog t=some (n,el,sz):=by
 have:=List.all_eq_true.1 xZ _ (Z6 _ h);simpa using this
section
variable {P:Program} {Q:Exit→Act→World→Prop} {n f t:Nat} {e:Env} {w w0:World} {S:World→Prop} {U:Nat→Prop} {L:List As} {ops:Array Oper} {o:Oper} {rest:List Oper} {listed:Array Bool} {x y:Operand} {g d ty m tb:Nat} {cs new xs zs:List Value} {v:Value} {k:IntKind} {a b:Int}
inductive Kp (e:Env):List Nat→Env→Env→Prop
 | nil {r:Env}:Kp e [] r r
 | cons {k:Nat} {v:Value} {ks:List Nat} {r r':Env} (h:e.get k=some v) (t:Kp e ks ((k,v)::r) r'):Kp e (k::ks) r r'
theorem flp {c:Code} (ks:List Nat) {z:Env} (I:Env→Env→World→Nat→Prop) {m0:Nat} {e0:Env} (h0:I z e0 w m0) (k:∀e w m,I z e w m→Sx P c (Exit.then (Again (I z) n m) Q) n e w) (hk:Kp e ks [] z:=by repeat (first|exact Kp.nil|(apply Kp.cons;exact rfl))) (hl:e0.le e:=by repeat (first|exact trivial|refine ⟨rfl,?_⟩)):Sx P (Code.loop c) Q n e w:=let _:=hk;sx_loop (I z) h0 hl k
theorem JJ {c:Code} (M:Mem w0 U L w) (ks:List Nat) {z:Env} (I:Env→(World→Prop)→Env→World→Nat→Prop) {m0:Nat} {e0:Env} (h0:I z (Mem w0 U L) e0 w m0) (k:∀e w m,I z (Mem w0 U L) e w m→Sx P c (Exit.then (Again (I z (Mem w0 U L)) n m) Q) n e w) (hk:Kp e ks [] z:=by repeat (first|exact Kp.nil|(apply Kp.cons;exact rfl))) (hl:e0.le e:=by repeat (first|exact trivial|refine ⟨rfl,?_⟩)):Sx P (Code.loop c) Q n e w:=let _:=hk;let _:=M;sx_loop (I z (Mem w0 U L)) h0 hl k
theorem fag {I:Env→World→Nat→Prop} {m:Nat} {r:Env} {m':Nat} (hI:I r w m') (hm:m'<m:=by first|omega|(simp<;>omega)) (hl:r.le e:=by repeat (first|exact trivial|refine ⟨rfl,?_⟩)):QX (Exit.then (Again I n m) Q) .normal n e w:=qx_again r m' hI hm hl
theorem fvm {l:List Oper} (M:Mem w0 U L w) (cut:Nat) (ks:List Nat) (nw:Env) {r:Env} (h:∀w',Mem w0 U L w'→SxL P ops Q n (l.drop cut) r w') (k:(∀{e' w'},Mem w0 U L w'→(hl:r.le e':=by repeat (first|exact trivial|refine ⟨rfl,?_⟩))→SxL P ops Q n (l.drop cut) e' w')→SxL P ops Q n l e w) (hk:Kp e ks nw r:=by repeat (first|exact Kp.nil|(apply Kp.cons;exact rfl))):SxL P ops Q n l e w:=let _:=M;let _:=hk;qZ cut r (Mem w0 U L) h λk'=>k λ{_ _} h1 h2=>k' _ _ h1 h2
theorem fvs {q:Act→Prop} {l:List Oper} (cut:Nat) (ks:List Nat) (nw:Env) {r:Env} (h:SxS P ops w q n (l.drop cut) r) (k:(∀e',r.le e'→SxS P ops w q n (l.drop cut) e')→SxS P ops w q n l e) (hk:Kp e ks nw r:=by repeat (first|exact Kp.nil|(apply Kp.cons;exact rfl))):SxS P ops w q n l e:=let _:=hk;qY cut r h k
theorem fon {t1:Nat} (M:Mem w0 U L w) (i d:Nat) (ho:ops[i]?=some o) (hd:(o.guard,o.dst,Nat.blt d n,o.op)=(none,some d,true,.alloc t1)) (hz:(P.info? t1).map (·.zero)=some (some (.agg zs.toArray))) (k:∀g w',w.heap.size≤g→Mem w0 U (As.blk g t1 zs::L) w'→SxO P ops Q t S n f (listed.setIfInBounds i true) ((d,.pointer (some ⟨g,0,none⟩))::e) w') (hr:Region.ready .any ops listed=[i]:=by kernel_rfl) (hS:∀w',Mem w0 U L w'→S w':=by exact λ_ h=>h):SxO P ops Q t S n (f+1) listed e w:=by
 simp only [Prod.mk.injEq] at hd
 refine B2 i (some d) hr ho (wn_none hd.1) hd.2.1 hd.2.2.1 (λρ hρ=>C7 t1 hd.2.2.2 _ zs hz X) ?_;rintro _ w1 ⟨g,rfl,h1,h2,hb,hf⟩;exact ⟨λ_=>hS _ (M.step hf),k g w1 h1 (M.push hf _ hb (DO h1 h2))⟩
theorem fop (M:Mem w0 U L w) (i j:Nat) (ho:ops[i]?=some o) (hd:(o.guard,o.dst,o.op)=(none,none,.store ty x y)) (hx:(ev e x,ev e y,L[j]?)=(some (.pointer (some ⟨g,0,none⟩)),some (.agg new.toArray),some (As.blk g tb cs))) (hi:(P.info? ty).map (·.size)=some m) (hm:(new.length,cs.length,aY new)=(m,m,true)) (hS:∀{w'},Mem w0 U (L.set j (As.blk g tb new)) w'→S w') (k:∀w',Mem w0 U (L.set j (As.blk g tb new)) w'→SxO P ops Q t S n f (listed.setIfInBounds i true) e w') (hr:Region.ready .any ops listed=[i]:=by kernel_rfl):SxO P ops Q t S n (f+1) listed e w:=by
 simp only [Prod.mk.injEq] at hd hx hm
 obtain ⟨hm1,hm2,h1⟩:=hm;subst hm1;refine B2 i none hr ho (wn_none hd.1) hd.2.1 X (λρ hρ=>BO ty x y hd.2.2 g 0 tb cs new (hρ _ _ hx.1) (hρ _ _ hx.2.1) (M.blk j hx.2.2) hi (by omega) (CL h1)) ?_;rintro _ w1 ⟨rfl,hb,hf⟩;rw [FZ _ _ hm2.symm] at hb
 have M':=M.putB j hx.2.2 hb hf;exact ⟨λ_=>hS M',k w1 M'⟩
theorem fo1 (i:Nat) (ho:ops[i]?=some o) (hd:(o.guard,o.dst,Nat.blt d n)=(none,some d,true)) (hy:Y P e o w v) (k:SxO P ops Q t S n f (listed.setIfInBounds i true) ((d,v)::e) w) (hr:Region.ready .any ops listed=[i]:=by kernel_rfl) (hS:i<t→S w:=by exact λh=>absurd h (by decide)):SxO P ops Q t S n (f+1) listed e w:=by
 simp only [Prod.mk.injEq] at hd
 exact B2 i (some d) hr ho (wn_none hd.1) hd.2.1 hd.2.2 (R:=λu w'=>u=v∧w'=w) (λρ hρ=>⟨v,w,.inl (hy ρ hρ),X,X⟩) λu w' ⟨h1,h2⟩=>by subst h1;subst h2;exact ⟨hS,k⟩
theorem fdn (k:QX Q .normal n e w) (hr:Region.ready .any ops listed=[]:=by kernel_rfl):SxO P ops Q t S n f listed e w:=kT hr k
theorem CB {c:TypeDesc} (M:Mem w0 U L w) (j:Nat) (h:(o.guard,o.dst,Nat.blt d n,o.op)=(none,some d,true,.load ty x)) (hx:(ev e x,L[j]?)=(some (.pointer (some ⟨g,0,none⟩)),some (As.blk g tb xs))) (hu:P.underlying ty=some c) (hi:(P.info? ty).map (·.size)=some m) (hr:(c.isRow,xs.length)=(true,m)) (k:SxL P ops Q n rest ((d,.agg xs.toArray)::e) w):SxL P ops Q n (o::rest) e w:=by
 simp only [Prod.mk.injEq] at h hx hr
 exact sxl_y (wn_none h.1) h.2.1 h.2.2.1 (AK h.2.2.2 hx.1 (M.rdBlk j hx.2 hr.2) hu hr.1 hi) k
theorem BD (M:Mem w0 U L w) (j:Nat) (hd:(o.guard,o.dst,o.op)=(none,none,.store ty x y)) (hx:(ev e x,ev e y,L[j]?)=(some (.pointer (some ⟨g,0,none⟩)),some (.agg new.toArray),some (As.blk g tb cs))) (hi:(P.info? ty).map (·.size)=some m) (hm:(new.length,cs.length,aY new)=(m,m,true)) (k:∀w',Mem w0 U (L.set j (As.blk g tb new)) w'→SxL P ops Q n rest e w'):SxL P ops Q n (o::rest) e w:=by
 simp only [Prod.mk.injEq] at hd hx hm
 obtain ⟨hm1,hm2,h1⟩:=hm;exact XY M j (wn_none hd.1) hd.2.1 hd.2.2 hx.1 hx.2.1 hx.2.2 hi hm1 (by omega) (CL h1) (FZ _ _ (by omega)) k
theorem gp1 {off:Nat} (M:Mem w0 U L w) (j:Nat) (hd:(o.guard,o.dst,o.op)=(none,none,.store ty x y)) (hx:(ev e x,ev e y,L[j]?)=(some (.pointer (some ⟨g,off,none⟩)),some v,some (As.blk g tb cs))) (hv:(v.cells,v.oneCell',Nat.blt off cs.length)=(#[v],true,true)) (hi:(P.info? ty).map (·.size)=some 1) (k:∀w',Mem w0 U (L.set j (As.blk g tb (cs.set off v))) w'→SxL P ops Q n rest e w'):SxL P ops Q n (o::rest) e w:=by
 simp only [Prod.mk.injEq] at hd hx hv
 exact E7 M j (wn_none hd.1) hd.2.1 hd.2.2 hx.1 hx.2.1 hx.2.2 hv.1 hv.2.1 hi (CO hv.2.2) X k
theorem CC (M:Mem w0 U L w) (h:(o.guard,o.dst,Nat.blt d n,o.op)=(none,some d,true,.box ty x)) (hx:ev e x=some (.agg cs.toArray)) (k:∀g w',w.heap.size≤g→Mem w0 U (As.blk g ty cs::L) w'→SxL P ops Q n rest ((d,.pointer (some ⟨g,0,none⟩))::e) w'):SxL P ops Q n (o::rest) e w:=by
 simp only [Prod.mk.injEq] at h
 exact D6 M (wn_none h.1) h.2.1 h.2.2.1 ty h.2.2.2 hx cs X k
theorem CI (M:Mem w0 U L w) (h:(o.guard,o.dst,Nat.blt d n,o.op)=(none,some d,true,.alloc ty)) (hz:(P.info? ty).map (·.zero)=some (some (.agg zs.toArray))) (k:∀g w',w.heap.size≤g→Mem w0 U (As.blk g ty zs::L) w'→SxL P ops Q n rest ((d,.pointer (some ⟨g,0,none⟩))::e) w'):SxL P ops Q n (o::rest) e w:=by
 simp only [Prod.mk.injEq] at h
 exact EI M (wn_none h.1) h.2.1 h.2.2.1 ty h.2.2.2 zs hz X k
theorem CD {F:FuncId} {xs:List Operand} {vs:List Value} {ts:Array TypeId} (M:Mem w0 U L w) (d:Nat) (h:(o.guard,o.dst,JC n (some d),o.op)=(none,some d,true,.call { callee:=.value (.func F),args:=xs.toArray,argTypes:=ts })) (hx:evs e xs=some vs) (hc:∀(us:Array Value) (w:World),(callFunc F us).run P w=.ok (.enter F us) w) (hC:Calls P F vs.toArray w λx w'=>x=.returned v∧Fr0 w w') (k:∀w',Mem w0 U L w'→SxL P ops Q n rest ((d,v)::e) w'):SxL P ops Q n (o::rest) e w:=by
 simp only [Prod.mk.injEq] at h
 exact LZ M d (by simp only [h.1,h.2.1,h.2.2.1]) (AG h.2.2.2 hx hc) hC k
theorem zH {F:FuncId} {xs:List Operand} {vs:List Value} {ts:Array TypeId} {R:Ending→World→Prop} (d:Nat) (h:(o.guard,o.dst,JC n (some d),o.op)=(none,some d,true,.call { callee:=.value (.func F),args:=xs.toArray,argTypes:=ts })) (hx:evs e xs=some vs) (hc:∀(us:Array Value) (w:World),(callFunc F us).run P w=.ok (.enter F us) w) (hC:Calls P F vs.toArray w R) (k:∀x w',R x w'→∃v,x=.returned v∧SxL P ops Q n rest (e.ins (some d) v) w'):SxL P ops Q n (o::rest) e w:=by
 simp only [Prod.mk.injEq] at h
 exact sxl_call (some d) (wn_none h.1) h.2.1 h.2.2.1 (AG h.2.2.2 hx hc) hC k
theorem BB {t t':Nat} (h:(o.guard,o.dst,Nat.blt d n,o.op)=(none,some d,true,.binOp .lss t x y t')) (hx:(ev e x,ev e y)=(some (.int k a),some (.int k b))) (q:SxL P ops Q n rest ((d,.bool (decide (a<b)))::e) w):SxL P ops Q n (o::rest) e w:=by
 simp only [Prod.mk.injEq] at h hx
 exact sxl_y (wn_none h.1) h.2.1 h.2.2.1 (E0 h.2.2.2 hx.1 hx.2) q
theorem MT {t t':Nat} (h:(o.guard,o.dst,Nat.blt d n,o.op)=(none,some d,true,.binOp .leq t x y t')) (hx:(ev e x,ev e y)=(some (.int k a),some (.int k b))) (q:SxL P ops Q n rest ((d,.bool (decide (a≤b)))::e) w):SxL P ops Q n (o::rest) e w:=by
 simp only [Prod.mk.injEq] at h hx
 exact sxl_y (wn_none h.1) h.2.1 h.2.2.1 (GH h.2.2.2 hx.1 hx.2) q
theorem IM {t t':Nat} (h:(o.guard,o.dst,Nat.blt d n,o.op)=(none,some d,true,.binOp .gtr t x y t')) (hx:(ev e x,ev e y)=(some (.int k a),some (.int k b))) (q:SxL P ops Q n rest ((d,.bool (decide (b<a)))::e) w):SxL P ops Q n (o::rest) e w:=by
 simp only [Prod.mk.injEq] at h hx
 exact sxl_y (wn_none h.1) h.2.1 h.2.2.1 (GU h.2.2.2 hx.1 hx.2) q
theorem JU {t t':Nat} (h:(o.guard,o.dst,Nat.blt d n,o.op)=(none,some d,true,.binOp .geq t x y t')) (hx:(ev e x,ev e y)=(some (.int k a),some (.int k b))) (q:SxL P ops Q n rest ((d,.bool (decide (b≤a)))::e) w):SxL P ops Q n (o::rest) e w:=by
 simp only [Prod.mk.injEq] at h hx
 exact sxl_y (wn_none h.1) h.2.1 h.2.2.1 (GV h.2.2.2 hx.1 hx.2) q
theorem BZ {t t':Nat} (h:(o.guard,o.dst,Nat.blt d n,o.op)=(none,some d,true,.binOp .eql t x y t')) (hx:(ev e x,ev e y)=(some (.int k a),some (.int k b))) (q:SxL P ops Q n rest ((d,.bool (decide (a=b)))::e) w):SxL P ops Q n (o::rest) e w:=by
 simp only [Prod.mk.injEq] at h hx
 exact sxl_y (wn_none h.1) h.2.1 h.2.2.1 (C9 h.2.2.2 hx.1 hx.2) q
theorem CT {t t':Nat} (h:(o.guard,o.dst,Nat.blt d n,o.op)=(none,some d,true,.binOp .neq t x y t')) (hx:(ev e x,ev e y)=(some (.int k a),some (.int k b))) (q:SxL P ops Q n rest ((d,.bool (!decide (a=b)))::e) w):SxL P ops Q n (o::rest) e w:=by
 simp only [Prod.mk.injEq] at h hx
 exact sxl_y (wn_none h.1) h.2.1 h.2.2.1 (DX h.2.2.2 hx.1 hx.2) q
theorem gyq {j d':Nat} {b:Bool} (h:(o.guard,(ops[j]?).bind (·.dst),e.get d',o.dst,Nat.blt d n,J5 (OF foL) e o.op)=(some (j,b),some d',some (.bool b),some d,true,some v)) (k:SxL prog ops Q n rest ((d,v)::e) w):SxL prog ops Q n (o::rest) e w:=by
 simp only [Prod.mk.injEq] at h
 exact sxl_y (wn_on h.1 h.2.1 h.2.2.1) h.2.2.2.1 h.2.2.2.2.1 (yp h.2.2.2.2.2) k
theorem gsg {q:Act→Prop} {j d':Nat} {b:Bool} (h:(o.guard,(ops[j]?).bind (·.dst),e.get d',o.dst,Nat.blt d n)=(some (j,b),some d',some (.bool b),some d,true)) (hy:Y P e o w v) (k:SxS P ops w q n rest ((d,v)::e)):SxS P ops w q n (o::rest) e:=by
 simp only [Prod.mk.injEq] at h
 exact XX (wn_on h.1 h.2.1 h.2.2.1) h.2.2.2.1 h.2.2.2.2 hy k
theorem AU {off:Nat} (M:Mem w0 U L w) (i:Nat) (h:(o.guard,o.dst,Nat.blt d n,o.op)=(none,some d,true,.load ty x)) (hx:(ev e x,RI scL ty,L[i]?)=(some (.pointer (some ⟨g,off,none⟩)),true,some (As.blk g tb cs))) (hu:cs[off]?=some v) (k:SxL prog ops Q n rest ((d,v)::e) w):SxL prog ops Q n (o::rest) e w:=by
 simp only [Prod.mk.injEq] at h hx
 exact sxl_y (wn_none h.1) h.2.1 h.2.2.1 (BF h.2.2.2 hx.1 (sc hx.2.1) (M.cell i hx.2.2 hu)) k
theorem CE {off j d':Nat} {b:Bool} (M:Mem w0 U L w) (i:Nat) (h:(o.guard,(ops[j]?).bind (·.dst),e.get d',o.dst,Nat.blt d n,o.op)=(some (j,b),some d',some (.bool b),some d,true,.load ty x)) (hx:(ev e x,RI scL ty,L[i]?)=(some (.pointer (some ⟨g,off,none⟩)),true,some (As.blk g tb cs))) (hu:cs[off]?=some v) (k:SxL prog ops Q n rest ((d,v)::e) w):SxL prog ops Q n (o::rest) e w:=by
 simp only [Prod.mk.injEq] at h hx
 exact sxl_y (wn_on h.1 h.2.1 h.2.2.1) h.2.2.2.1 h.2.2.2.2.1 (BF h.2.2.2.2.2 hx.1 (sc hx.2.1) (M.cell i hx.2.2 hu)) k
theorem EB {off:Nat} {q:Act→Prop} (M:Mem w0 U L w) (i:Nat) (h:(o.guard,o.dst,Nat.blt d n,o.op)=(none,some d,true,.load ty x)) (hx:(ev e x,RI scL ty,L[i]?)=(some (.pointer (some ⟨g,off,none⟩)),true,some (As.blk g tb cs))) (hu:cs[off]?=some v) (k:SxS prog ops w q n rest ((d,v)::e)):SxS prog ops w q n (o::rest) e:=by
 simp only [Prod.mk.injEq] at h hx
 exact XX (wn_none h.1) h.2.1 h.2.2.1 (BF h.2.2.2 hx.1 (sc hx.2.1) (M.cell i hx.2.2 hu)) k
def wI (ops:Array Oper) (e:Env) (i n:Nat):Option Nat:=match ops[i]? with
 | some o=>match o.guard,o.dst with
  | some (j,b),some d=>match (ops[j]?).bind (·.dst) with
   | some d0=>match e.get d0,Nat.blt d n with
    | some (.bool c),true=>match c==b with
     | true=>none
     | false=>some d
    | _,_=>none
   | none=>none
  | _,_=>none
 | none=>none
theorem gQ {i:Nat} (h:wI ops e i n=some d):∃o j b d0 c,ops[i]?=some o∧o.guard=some (j,b)∧(ops[j]?).bind (·.dst)=some d0∧e.get d0=some (.bool c)∧(c==b)=false∧o.dst=some d∧Nat.blt d n=true:=by
 unfold wI at h
 split at h
 ·rename_i o ho
  split at h
  ·rename_i j b d1 hg hd
   split at h
   ·rename_i d0 h0
    split at h
    ·rename_i c hc hn
     split at h
     ·cases h
     ·rename_i hcb
      obtain rfl:d1=d:=Option.some.inj h;exact ⟨o,j,b,d0,c,ho,hg,h0,hc,hcb,hd,hn⟩
    ·cases h
   ·cases h
  ·cases h
 ·cases h
theorem BG (i h:Nat) (hd:wI ops e i n=some d) (hS:S w) (k:SxO P ops Q t S n f (listed.setIfInBounds i true) ((d,undef)::e) w) (hs:Region.noSelect ops=true:=by kernel_rfl) (hQ:∀c (a:Act) t v w,Q (.panic c) (a.put t v) w→Q (.panic c) a w:=by exact λc a t v w h=>by cases t<;>exact h) (hwait:HF ops h t=true:=by kernel_rfl) (hih:Nat.blt i h=true:=by exact rfl) (hf:Region.free .any ops listed i=true:=by kernel_rfl) (hr:(Region.ready .any ops listed).contains i=true:=by kernel_rfl):SxO P ops Q t S n (f+1) listed e w:=by
 obtain ⟨o,j,b,d0,c,ho,hg,h0,hc,hcb,hd,hn⟩:=gQ hd;exact cV i h hs hQ hwait hih hf hr ho hg h0 hc hcb hd hn hS k
theorem kS {o:Oper} {d d0 j:Nat} {b:Bool} (i h:Nat) (hs:Region.noSelect ops=true) (hQ:∀c (a:Act) t v w,Q (.panic c) (a.put t v) w→Q (.panic c) a w) (hwait:HF ops h t=true) (hih:Nat.blt i h=true) (hf:Region.free .any ops listed i=true) (hr:(Region.ready .any ops listed).contains i=true) (ho:ops[i]?=some o) (hg:o.guard=some (j,b)) (hj:(ops[j]?).bind (·.dst)=some d0) (hb:e.get d0=some undef) (hd:o.dst=some d) (hn:Nat.blt d n=true) (hS:S w)
 (k:SxO P ops Q t S n f (listed.setIfInBounds i true) ((d,undef)::e) w):SxO P ops Q t S n (f+1) listed e w:=⟨λa ha=>by
 have hw:Region.wanted o (yielded ops a.tmps)=false:=by
  simp [Region.wanted,hg,yielded,hj,ha.get d0 _ hb,undef]
 refine L0 (v:=undef) ho (Region.noSelect_spec hs) (λc a w=>hQ c a _ _ w) hwait (CO hih) f listed a w (Region.free_spec ho hf) (by simpa using hr) (.inr ⟨hw,X⟩) hS ?_;rw [hd];exact k.run _ (ha.put (CO hn) undef)⟩
theorem EC {d0 j:Nat} {b:Bool} (i h:Nat) (ho:ops[i]?=some o) (hd:(o.guard,(ops[j]?).bind (·.dst),e.get d0,o.dst,Nat.blt d n)=(some (j,b),some d0,some undef,some d,true)) (hS:S w) (k:SxO P ops Q t S n f (listed.setIfInBounds i true) ((d,undef)::e) w) (hs:Region.noSelect ops=true:=by kernel_rfl) (hQ:∀c (a:Act) t v w,Q (.panic c) (a.put t v) w→Q (.panic c) a w:=by exact λc a t v w h=>by cases t<;>exact h) (hwait:HF ops h t=true:=by kernel_rfl) (hih:Nat.blt i h=true:=by exact rfl) (hf:Region.free .any ops listed i=true:=by kernel_rfl) (hr:(Region.ready .any ops listed).contains i=true:=by kernel_rfl):SxO P ops Q t S n (f+1) listed e w:=by
 simp only [Prod.mk.injEq] at hd
 exact kS i h hs hQ hwait hih hf hr ho hd.1 hd.2.1 hd.2.2.1 hd.2.2.2.1 hd.2.2.2.2 hS k
theorem BH {F:FuncId} {fn:Func} {c:Code} {vs:List Value} {R:Ending→World→Prop} (hf:P.funcs[F]?=some fn) (hn:fn.ntmps=n) (hb:(fn.body,Nat.ble vs.length n)=(some c,true)) (h:Mem w AR [] w→Sx P c (bodyPost P fn R) n (OP 0 vs) w):Calls P F vs.toArray w R:=by
 simp only [Prod.mk.injEq] at hb
 exact sx_enter hf hb.1 hn hb.2 (h (Mem.nil w))
theorem gr1 {fn:Func} {R:Ending→World→Prop} {t:Nat} (hr:(fn.results,e.get t)=(#[.tmp t],some v)) (h:R (.returned v) w):QX (bodyPost P fn R) .ret n e w:=by
 simp only [Prod.mk.injEq] at hr
 exact qx_ret1 hr.1 hr.2 h
theorem gnr (h:QX Q .ret n e w) {Q':Exit→Act→World→Prop}:SxL P ops (Exit.then (Code.ret.wp P Q) Q') n [] e w:=sxl_nil (qx_seq (sx_ret h))
theorem GP {id:Nat} {l:List Oper} (M:Mem w0 U L w) (t:Nat) (hm:P.follows .mixedOrders=true) (k:Mem w0 U L w.drew→SxO P l.toArray Q t (λw'=>Mem w0 U L w') n l.length (Array.replicate l.length false) e w.drew):Sx P (Code.region id l.toArray true) Q n e w:=EH t _ hm (k M.drew)
theorem DF {c el sz:Nat} {A:Option Addr} (h:(o.guard,o.dst,Nat.blt d n,o.op)=(none,some d,true,.call { callee:=.builtin .len,args := #[x],argTypes := #[ty] })) (hx:(ev e x,iO slL ty)=(some (.slice A m c),some (el,sz))) (q:SxL prog ops Q n rest ((d,.int .i64 (m:Int))::e) w):SxL prog ops Q n (o::rest) e w:=by
 simp only [Prod.mk.injEq] at h hx
 exact sxl_y (wn_none h.1) h.2.1 h.2.2.1 (FM h.2.2.2 hx.1 (sl hx.2)) q
theorem BV {t':Nat} (h:(o.guard,o.dst,Nat.blt d n,o.op)=(none,some d,true,.binOp .add t x y t')) (hx:(ev e x,ev e y)=(some (.int .i64 a),some (.int .i64 b))) (q:SxL P ops Q n rest ((d,.int .i64 (a+b))::e) w) (hb : -9223372036854775808≤a+b∧a+b≤9223372036854775807:=by omega):SxL P ops Q n (o::rest) e w:=by
 simp only [Prod.mk.injEq] at h hx
 exact sxl_y (wn_none h.1) h.2.1 h.2.2.1 (GE h.2.2.2 hx.1 hx.2 hb) q
theorem AM {α:Type} {b:Bool} {x y:α} (h:b=false):(if b=true then x else y)=y:=if_neg (wO h)
theorem AJ {y:Code} {Q':Exit→Act→World→Prop} (h:(o.guard,o.dst,Nat.blt d n,J5 (OF foL) e o.op)=(none,some d,true,some v)) (k:Sx prog y Q n ((d,v)::e) w):SxL prog ops (Exit.then (y.wp prog Q) Q') n [o] e w:=yb h (nq k)
theorem AE {id:Nat} {y:Code} (h:(o.guard,o.dst,Nat.blt d n,J5 (OF foL) e o.op)=(none,some d,true,some v)) (k:SxL prog (o::rest).toArray (Exit.then (y.wp prog Q) Q) n rest ((d,v)::e) w):Sx prog (Code.seq (Code.region id (o::rest).toArray false) y) Q n e w:=srg (yb h k)
theorem AV {o':Oper} {d':Nat} {v':Value} (h:(o.guard,o.dst,Nat.blt d n,J5 (OF foL) e o.op)=(none,some d,true,some v)) (h':(o'.guard,o'.dst,Nat.blt d' n,J5 (OF foL) ((d,v)::e) o'.op)=(none,some d',true,some v')) (k:SxL prog ops Q n rest ((d',v')::(d,v)::e) w):SxL prog ops Q n (o::o'::rest) e w:=yb h (yb h' k)
theorem EV {id:Nat} {l:List Oper} {y:Code} {Q':Exit→Act→World→Prop} (h:SxL P l.toArray (Exit.then (y.wp P Q) Q) n l e w):SxL P ops (Exit.then ((Code.seq (Code.region id l.toArray false) y).wp P Q) Q') n [] e w:=nq (srg h)
theorem AA {p:Prop} (h:p:=by omega):p:=h
theorem C2 {p:Prop} (h:p:=by first|omega|(simp;omega)|(simp<;>omega)):p:=h
theorem gkr {p:Prop} (h:p:=by kernel_rfl):p:=h
theorem B3 {p:Prop} (h:p:=by decide):p:=h
end
end
end Go.Proofs.YtaheakjfkpkefaaGreatDoor
