/- Lemmas. -/
import Derived.Test.YtaheakjfkpkefaaGreatDoorVb4
set_option maxHeartbeats 16000000
set_option maxRecDepth 100000
namespace Go.Proofs.YtaheakjfkpkefaaGreatDoor
open Go.RowKit
open Tryz
def BA : List El→List UInt8→Option El
 | [],_=>none
 | x::r,k=>if x.id=k then some x else BA r k
def DR (l:List Fl) (k:List UInt8):List Fl:=l.filter λf=>decide (f.tg=k)
def C3 (l:List Fl) (k:List UInt8):List Fl:=l.filter λf=>decide (f.frm=k)
structure IxA where
 gE:Nat
 gI:Nat
 gO:Nat
 LE:List (List UInt8 × Value)
 LI:List (List UInt8 × Value)
 LO:List (List UInt8 × Value)
 iA:List UInt8→Option Addr
 iC:List UInt8→Nat
 oA:List UInt8→Option Addr
 oC:List UInt8→Nat
def Ix.cells (m:Md) (a:MdA) (x:IxA):List Value:=[str m.id,str m.nm,.slice a.V m.vars.length a.vc,.slice a.E m.els.length a.ec,.slice a.F m.fls.length a.fc,.map (some x.gE),.map (some x.gI),.map (some x.gO)]
def elV (x:El):Value:=.agg x.cells.toArray
structure IxAt (w:World) (m:Md) (a:MdA) (x:IxA) (gx:Nat):Prop where
 md:MdIn w m a
 blk:Blk w gx 199 (Ix.cells m a x)
 E:Mp w x.gE x.LE
 I:Mp w x.gI x.LI
 O:Mp w x.gO x.LO
 getE:∀k,(CA x.LE k).getD (.agg zeroEl.cells.toArray)=.agg ((BA m.els k).getD zeroEl).cells.toArray
 isE:∀k,(CA x.LE k).isSome=(BA m.els k).isSome
 getI:∀k,(CA x.LI k).getD (.slice none 0 0)=.slice (x.iA k) (DR m.fls k).length (x.iC k)
 getO:∀k,(CA x.LO k).getD (.slice none 0 0)=.slice (x.oA k) (C3 m.fls k).length (x.oC k)
 rdI:∀k,Rd w (x.iA k) ((DR m.fls k).length*4) (AD Fl.cells (DR m.fls k))
 rdO:∀k,Rd w (x.oA k) ((C3 m.fls k).length*4) (AD Fl.cells (C3 m.fls k))
theorem IxAt.fr0 {w w':World} {m:Md} {a:MdA} {x:IxA} {gx:Nat} (h:IxAt w m a x gx) (hf:Fr0 w w'):IxAt w' m a x gx:=
 ⟨h.md.fr0 hf,h.blk.fr0 hf,h.E.fr hf (λhh=>hh),h.I.fr hf (λhh=>hh),h.O.fr hf (λhh=>hh),h.getE,h.isE,h.getI,h.getO,λk=>(h.rdI k).fr0 hf,λk=>(h.rdO k).fr0 hf⟩
theorem G8 (l:List Fl) (k:List UInt8):(DR l k).length≤l.length:=List.length_filter_le _ _
theorem E4 (l:List Fl) (k:List UInt8):(C3 l k).length≤l.length:=List.length_filter_le _ _
theorem G5 {α:Type} {P:Program} {f:FuncId} {cs:List Value} {av:α→Value} {l:List α} {p:α→Bool} {w:World} (fn:∀(ar:Array Value) (w:World),(callFunc f ar).run P w=.ok (.enter f ar) w)
 (h:∀x∈l,∀w1,Fr0 w w1→Calls P f (av x::cs).toArray w1 λe w2=>e=.returned (.bool (p x))∧Fr0 w1 w2):PredJ P f cs av l (λ_=>p) AR (λ_ _=>True) w where
 fn:=fn
 call _ x w1 hx hf _:=(h x (List.mem_of_getElem? hx) w1 hf).mono λ_ _ ⟨h1,h2⟩=>⟨h1,trivial,h2⟩
 st _ _ _ _ h:=h
 old _ h:=h.elim
theorem OS {e:Env} {w:World} {o:Oper} {x:Operand} {b:El} (ho:o.op=.field 95 x 2) (hx:ev e x=some (.agg b.cells.toArray)):Y prog e o w (.int .u8 (b.kind.toNat:Int)):=λρ h=>by
 unfold execOp
 simp [ho,h _ _ hx,Instr.field,run_underlying underlying95,asAgg,part,isAgg5,El.cells]
def El.same (a b:El):Bool:=decide (a.id=b.id)&&(decide (a.nm=b.nm)&&(decide ((a.kind.toNat:Int)=(b.kind.toNat:Int))&&(decide (a.inn=b.inn)&&(decide (a.dflt=b.dflt)&&(decide (a.att=b.att)&&(decide ((a.ev.toNat:Int)=(b.ev.toNat:Int))&&(decide (a.ref=b.ref)&&(decide (a.key=b.key)&&(decide (a.ticks=b.ticks)&&decide (a.tries=b.tries))))))))))
theorem oG : prog.eqGuardType prog.depth 95=false:=by kernel_rfl
theorem tT : prog.stoodInHeld 95=false:=by kernel_rfl
theorem iW : prog.underlying 95=some (.struct (prog.fieldsOf 95)):=by kernel_rfl
theorem LK {P:Program} {w:World} {d:Nat} {xs ys:Array Value}:(Op.eqFields d xs ys []).run P w=.ok true w:=rfl
theorem E5 {P:Program} {w:World} {m:Sem Bool} {r s:Bool} (h:m.run P w=.ok s w):(if r=true then m.run P w else .ok false w)=.ok (r&&s) w:=by cases r<;>simp [h]
theorem aB {e:Env} {w:World} {o:Oper} {t':Nat} {x y:Operand} {a b:El} (ho:o.op=.binOp .eql 95 x y t') (hx:ev e x=some (.agg a.cells.toArray)) (hy:ev e y=some (.agg b.cells.toArray)):Y prog e o w (.bool (a.same b)):=λρ h=>by
 have h1:ρ x=.agg a.cells.toArray:=h _ _ hx;have h2:ρ y=.agg b.cells.toArray:=h _ _ hy;have hg:=run_eqGuard_agg (P:=prog) w .eql 95 x y a.cells.toArray b.cells.toArray oG
 have s_:∀(u v:List UInt8),(Op.equalIn 9999 9 (str u) (str v)).run prog w=.ok (decide (u=v)) w:=λu v=>by
  have:=run_equalIn_string (P:=prog) w 9998 9 ⟨u.toArray⟩ ⟨v.toArray⟩ underlying9
  unfold str;rw [this,ByteArray.toList_eq,ByteArray.toList_eq]
  by_cases huv:u=v<;>simp [huv]
 have i_:∀(t:Nat) (k:IntKind) (u v:Int),prog.underlying t=some (.int k)→(Op.equalIn 9999 t (.int k u) (.int k v)).run prog w=.ok (decide (u=v)) w:=λt k u v ht=>by
  have:=run_equalIn_int (P:=prog) w 9998 t k k u v ht
  rw [this];by_cases huv:u=v<;>simp [huv]
 have hrun:(Op.equalIn 10000 95 (.agg a.cells.toArray) (.agg b.cells.toArray)).run prog w=.ok (a.same b) w:=by
  rw [run_equalIn_struct w 9999 95 _ _ iW tT];have hl:(prog.fieldsOf 95).toList=(match prog.underlying 95 with|some (.struct fs)=>fs.toList|_=>[]):=by unfold Program.fieldsOf;rw [underlying95]
  rw [hl,underlying95]
  simp only
  have S_:=isAgg9 w;have U_:=isAgg5 w;have N_:=isAgg3 w;rw [BC (a:=str a.id) (b:=str b.id) B3 (B8 S_ rfl) (B8 S_ rfl) (s_ _ _)];refine E5 ?_;rw [BC (a:=str a.nm) (b:=str b.nm) B3 (B8 S_ rfl) (B8 S_ rfl) (s_ _ _)];refine E5 ?_;rw [BC (a:=.int .u8 (a.kind.toNat:Int)) (b:=.int .u8 (b.kind.toNat:Int)) B3 (B8 U_ rfl) (B8 U_ rfl) (i_ _ _ _ _ underlying5)];refine E5 ?_;rw [BC (a:=str a.inn) (b:=str b.inn) B3 (B8 S_ rfl) (B8 S_ rfl) (s_ _ _)];refine E5 ?_;rw [BC (a:=str a.dflt) (b:=str b.dflt) B3 (B8 S_ rfl) (B8 S_ rfl) (s_ _ _)];refine E5 ?_;rw [BC (a:=str a.att) (b:=str b.att) B3 (B8 S_ rfl) (B8 S_ rfl) (s_ _ _)];refine E5 ?_;rw [BC (a:=.int .u8 (a.ev.toNat:Int)) (b:=.int .u8 (b.ev.toNat:Int)) B3 (B8 U_ rfl) (B8 U_ rfl) (i_ _ _ _ _ underlying5)];refine E5 ?_;rw [BC (a:=str a.ref) (b:=str b.ref) B3 (B8 S_ rfl) (B8 S_ rfl) (s_ _ _)];refine E5 ?_;rw [BC (a:=str a.key) (b:=str b.key) B3 (B8 S_ rfl) (B8 S_ rfl) (s_ _ _)];refine E5 ?_;rw [BC (a:=AC a.ticks) (b:=AC b.ticks) B3 (B8 N_ rfl) (B8 N_ rfl) (i_ _ _ _ _ underlying3)];refine E5 ?_;rw [BC (a:=AC a.tries) (b:=AC b.tries) B3 (B8 N_ rfl) (B8 N_ rfl) (i_ _ _ _ _ underlying3)];rw [LK]
  cases decide (a.tries=b.tries)<;>rfl
 unfold execOp;simp only [ho,h1,h2,Sem.run_bind,hg,Result.andThen_ok,run_eql_struct,hrun]
 rfl
theorem OI {α:Type} {p:Nat→α→Bool} {l:List α} (h:ixJ (λi x => !(p i x)) 0 l<0):ffN p 0 l=none:=by
 rcases WS p l 0 with ⟨_,h2⟩|⟨j,x,h1,_,_⟩
 ·exact h2
 ·rw [h1] at h;omega
theorem OJ {α:Type} {p:Nat→α→Bool} {l:List α} (h:¬ixJ (λi x => !(p i x)) 0 l<0):∃j x,ixJ (λi x => !(p i x)) 0 l=((j:Nat):Int)∧l[j]?=some x∧ffN p 0 l=some x:=by
 rcases WS p l 0 with ⟨h1,_⟩|⟨j,x,h1,h2,h3⟩
 ·rw [h1] at h;omega
 ·rw [Nat.zero_add] at h1;exact ⟨j,x,h1,h2,h3⟩
theorem yR (x:El) (w:World):Calls prog 111 #[.agg x.cells.toArray] w (BI w (str x.id)):=by
 refine BH func111 ntmps111 X λM=>srg (CC M X X λg1 w1 hg1 M=>AJ X (AE X (AU M 0 X X X (yb X (gnr ?_)))))
 exact gr1 X ⟨X,M.fr⟩
theorem yQ (x:Fl) (w:World):Calls prog 114 #[.agg x.cells.toArray] w (BI w (str x.id)):=by
 refine BH func114 ntmps114 X λM=>srg (CC M X X λg1 w1 hg1 M=>AJ X (AE X (AU M 0 X X X (yb X (gnr ?_)))))
 exact gr1 X ⟨X,M.fr⟩
theorem yS (x:Bd) (w:World):Calls prog 108 #[.agg x.cells.toArray] w (BI w (str x.name)):=by
 refine BH func108 ntmps108 X λM=>srg (CC M X X λg1 w1 hg1 M=>AJ X (AE X (AU M 0 X X X (yb X (gnr ?_)))))
 exact gr1 X ⟨X,M.fr⟩
theorem xE (x:List UInt8) (w:World):Calls prog 123 #[str x] w (BI w (str x)):=by
 exact BH func123 ntmps123 X λM=>srg (AJ X (AE X (yb X (gnr (gr1 X ⟨X,M.fr⟩)))))
theorem wK (g:FuncId) (cs:List Value) (g5:Nat) (x:El) (b:Bool) (K:World→Prop) (w:World) (hb:Blk w g5 154 [.func (.func g) #[] cs.toArray]) (hfn:∀(ar:Array Value) (w:World),(callFunc g ar).run prog w=.ok (.enter g ar) w)
 (hc:∀w3,Fr0 w w3→Calls prog g (.agg x.cells.toArray::cs).toArray w3 λe w'=>e=.returned (.bool b)∧K w'):Calls prog 161 #[.agg x.cells.toArray,pg g5] w λe w'=>e=.returned (.bool (!b))∧K w':=by
 refine BH func161 ntmps161 X λM=>srg (CC M X X λg2 w1 hg2 M=>AJ X (srg (yl X X (Blk.c (hb.fr0 M.fr) 0 X) (CB M 0 X X underlying95 AQ X (cl 6 X (BJ X X X hfn) (hc _ M.fr) ?_)))))
 rintro _ w9 ⟨rfl,hK⟩;exact ⟨_,X,AV X X (gnr (gr1 X ⟨X,hK⟩))⟩
theorem sH {l:List (El)} {g:FuncId} {cs:List Value} {p:Nat→El→Bool} {S:Nat→Prop} {J:Nat→World→Prop} {w w1:World} {g5:Nat} (hP:PredJ prog g cs (λx:El=>.agg x.cells.toArray) l p S J w) (hf:Fr0 w w1) (hg:w.heap.size≤g5) (hb:Blk w1 g5 154 [.func (.func g) #[] cs.toArray]) :
 PredJ prog 161 [pg g5] (λx:El=>.agg x.cells.toArray) l (λi x => !(p i x)) S J w1 where
 fn:=call161
 call i x w2 hx hf2 hJ:=by
  have hn:¬S g5:=λh=>by have:=hP.old g5 h;omega
  exact wK g cs g5 x (p i x) (λw'=>J (i+1) w'∧Fr S w2 w') w2 (hb.fr hf2 hn) hP.fn λw3 hf3=>
   (hP.call i x w3 hx ((Fr.of0 hf).trans (hf2.then0 hf3)) (hP.st i w2 w3 hf3 hJ)).mono λ_ _ ⟨h1,h2,h3⟩=>⟨h1,h2,(Fr.of0 hf3).trans h3⟩
 st:=hP.st
 old s hs:=Nat.lt_of_lt_of_le (hP.old s hs) hf.size
theorem ZD (A:Option Addr) (c:Nat) (l:List (El)) (hl:l.length≤4611686018427387904) (g:FuncId) (cs:List Value) (p:Nat→El→Bool) (S:Nat→Prop) (J:Nat→World→Prop) (w:World) (hP:PredJ prog g cs (λx:El=>.agg x.cells.toArray) l p S J w) (hR:∀w1,Fr S w w1→Rd w1 A (l.length*11) (AD El.cells l)) (hJ:J 0 w) :
 Calls prog 110 #[.slice A l.length c,.func (.func 111) #[] #[],.func (.func g) #[] cs.toArray] w λe w'=>e=.returned (.tuple #[str ((ffN p 0 l).elim [] (λx=>x.id)),.bool (ffN p 0 l).isSome])∧J (ixN (λi x => !(p i x)) 0 l) w'∧Fr S w w':=by
 refine BH func110 ntmps110 X λM=>srg (D6 M (wn_none X) X X 154 X X ([.func (.func g) #[] cs.toArray]) X λg5 w1 hg5 M=>yb X (AJ X (AE X (ya X (CP (us:=[]) (vs:=[pg g5]) X X X) (cl 11 X (AG X X call63) (RV El.cells El.len A c l hl 161 [pg g5] (λi x => !(p i x)) S J _ (sH hP M.fr hg5 (M.blk 0 X)) (λw9 hf9=>hR w9 ((Fr.of0 M.fr).trans hf9)) (hP.st 0 _ _ M.fr hJ)) ?_)))))
 rintro _ w9 ⟨rfl,hJ9,hf9⟩;refine ⟨_,X,?_⟩;have M:Mem w S [] w9:=Mem.ofFr ((Fr.of0 M.fr).trans hf9);refine AJ X (sx_seq (AE X (BB X X (nq (AF X (λh13=>?_) (λh13=>?_))))))
 ·have h13p:=(odt h13);have hff:=OI h13p;exact AE X (yb X (gnr (qx_then_ret (C4 X X X ⟨by rw [hff];rfl,hJ9,M.fr⟩))))
 ·have h13p:=(odf h13);obtain ⟨j,x,hj,hx,hff⟩:=OJ h13p;have hjl:j<l.length:=(List.getElem?_eq_some_iff.1 hx).1;rw [hj];obtain ⟨b_x,o_x,hA_x⟩:=B5 (k:=11) AA (hR _ M.fr) hx;refine sx_skip (qx_seq (AE X (AV X X (ya X (AN j hA_x X X X (sl X) AA) (ya X (AK X X (B6 El.len (hR _ M.fr) hA_x hx) underlying95 X AQ) (cl 19 X (BJ X X X call111) (yR x _) ?_))))));rintro _ w10 ⟨rfl,hf10⟩;exact ⟨_,X,AV X X (gnr (C4 X X X ⟨by rw [hff];rfl,hP.st _ _ _ hf10 hJ9,M.fr.then0 hf10⟩))⟩
theorem wJ (g:FuncId) (cs:List Value) (g5:Nat) (x:Fl) (b:Bool) (K:World→Prop) (w:World) (hb:Blk w g5 163 [.func (.func g) #[] cs.toArray]) (hfn:∀(ar:Array Value) (w:World),(callFunc g ar).run prog w=.ok (.enter g ar) w)
 (hc:∀w3,Fr0 w w3→Calls prog g (.agg x.cells.toArray::cs).toArray w3 λe w'=>e=.returned (.bool b)∧K w'):Calls prog 163 #[.agg x.cells.toArray,pg g5] w λe w'=>e=.returned (.bool (!b))∧K w':=by
 refine BH func163 ntmps163 X λM=>srg (CC M X X λg2 w1 hg2 M=>AJ X (srg (yl X X (Blk.c (hb.fr0 M.fr) 0 X) (CB M 0 X X underlying109 CM X (cl 6 X (BJ X X X hfn) (hc _ M.fr) ?_)))))
 rintro _ w9 ⟨rfl,hK⟩;exact ⟨_,X,AV X X (gnr (gr1 X ⟨X,hK⟩))⟩
theorem sG {l:List (Fl)} {g:FuncId} {cs:List Value} {p:Nat→Fl→Bool} {S:Nat→Prop} {J:Nat→World→Prop} {w w1:World} {g5:Nat} (hP:PredJ prog g cs (λx:Fl=>.agg x.cells.toArray) l p S J w) (hf:Fr0 w w1) (hg:w.heap.size≤g5) (hb:Blk w1 g5 163 [.func (.func g) #[] cs.toArray]) :
 PredJ prog 163 [pg g5] (λx:Fl=>.agg x.cells.toArray) l (λi x => !(p i x)) S J w1 where
 fn:=call163
 call i x w2 hx hf2 hJ:=by
  have hn:¬S g5:=λh=>by have:=hP.old g5 h;omega
  exact wJ g cs g5 x (p i x) (λw'=>J (i+1) w'∧Fr S w2 w') w2 (hb.fr hf2 hn) hP.fn λw3 hf3=>
   (hP.call i x w3 hx ((Fr.of0 hf).trans (hf2.then0 hf3)) (hP.st i w2 w3 hf3 hJ)).mono λ_ _ ⟨h1,h2,h3⟩=>⟨h1,h2,(Fr.of0 hf3).trans h3⟩
 st:=hP.st
 old s hs:=Nat.lt_of_lt_of_le (hP.old s hs) hf.size
theorem ZC (A:Option Addr) (c:Nat) (l:List (Fl)) (hl:l.length≤4611686018427387904) (g:FuncId) (cs:List Value) (p:Nat→Fl→Bool) (S:Nat→Prop) (J:Nat→World→Prop) (w:World) (hP:PredJ prog g cs (λx:Fl=>.agg x.cells.toArray) l p S J w) (hR:∀w1,Fr S w w1→Rd w1 A (l.length*4) (AD Fl.cells l)) (hJ:J 0 w) :
 Calls prog 113 #[.slice A l.length c,.func (.func 114) #[] #[],.func (.func g) #[] cs.toArray] w λe w'=>e=.returned (.tuple #[str ((ffN p 0 l).elim [] (λx=>x.id)),.bool (ffN p 0 l).isSome])∧J (ixN (λi x => !(p i x)) 0 l) w'∧Fr S w w':=by
 refine BH func113 ntmps113 X λM=>srg (D6 M (wn_none X) X X 163 X X ([.func (.func g) #[] cs.toArray]) X λg5 w1 hg5 M=>yb X (AJ X (AE X (ya X (CP (us:=[]) (vs:=[pg g5]) X X X) (cl 11 X (AG X X call162) (dW Fl.cells Fl.len A c l hl 163 [pg g5] (λi x => !(p i x)) S J _ (sG hP M.fr hg5 (M.blk 0 X)) (λw9 hf9=>hR w9 ((Fr.of0 M.fr).trans hf9)) (hP.st 0 _ _ M.fr hJ)) ?_)))))
 rintro _ w9 ⟨rfl,hJ9,hf9⟩;refine ⟨_,X,?_⟩;have M:Mem w S [] w9:=Mem.ofFr ((Fr.of0 M.fr).trans hf9);refine AJ X (sx_seq (AE X (BB X X (nq (AF X (λh13=>?_) (λh13=>?_))))))
 ·have h13p:=(odt h13);have hff:=OI h13p;exact AE X (yb X (gnr (qx_then_ret (C4 X X X ⟨by rw [hff];rfl,hJ9,M.fr⟩))))
 ·have h13p:=(odf h13);obtain ⟨j,x,hj,hx,hff⟩:=OJ h13p;have hjl:j<l.length:=(List.getElem?_eq_some_iff.1 hx).1;rw [hj];obtain ⟨b_x,o_x,hA_x⟩:=B5 (k:=4) AA (hR _ M.fr) hx;refine sx_skip (qx_seq (AE X (AV X X (ya X (AN j hA_x X X X (sl X) AA) (ya X (AK X X (B6 Fl.len (hR _ M.fr) hA_x hx) underlying109 X CM) (cl 19 X (BJ X X X call114) (yQ x _) ?_))))));rintro _ w10 ⟨rfl,hf10⟩;exact ⟨_,X,AV X X (gnr (C4 X X X ⟨by rw [hff];rfl,hP.st _ _ _ hf10 hJ9,M.fr.then0 hf10⟩))⟩
theorem wL (g:FuncId) (cs:List Value) (g5:Nat) (x:Bd) (b:Bool) (K:World→Prop) (w:World) (hb:Blk w g5 203 [.func (.func g) #[] cs.toArray]) (hfn:∀(ar:Array Value) (w:World),(callFunc g ar).run prog w=.ok (.enter g ar) w)
 (hc:∀w3,Fr0 w w3→Calls prog g (.agg x.cells.toArray::cs).toArray w3 λe w'=>e=.returned (.bool b)∧K w'):Calls prog 160 #[.agg x.cells.toArray,pg g5] w λe w'=>e=.returned (.bool (!b))∧K w':=by
 refine BH func160 ntmps160 X λM=>srg (CC M X X λg2 w1 hg2 M=>AJ X (srg (yl X X (Blk.c (hb.fr0 M.fr) 0 X) (CB M 0 X X underlying103 EE X (cl 6 X (BJ X X X hfn) (hc _ M.fr) ?_)))))
 rintro _ w9 ⟨rfl,hK⟩;exact ⟨_,X,AV X X (gnr (gr1 X ⟨X,hK⟩))⟩
theorem sI {l:List (Bd)} {g:FuncId} {cs:List Value} {p:Nat→Bd→Bool} {S:Nat→Prop} {J:Nat→World→Prop} {w w1:World} {g5:Nat} (hP:PredJ prog g cs (λx:Bd=>.agg x.cells.toArray) l p S J w) (hf:Fr0 w w1) (hg:w.heap.size≤g5) (hb:Blk w1 g5 203 [.func (.func g) #[] cs.toArray]) :
 PredJ prog 160 [pg g5] (λx:Bd=>.agg x.cells.toArray) l (λi x => !(p i x)) S J w1 where
 fn:=call160
 call i x w2 hx hf2 hJ:=by
  have hn:¬S g5:=λh=>by have:=hP.old g5 h;omega
  exact wL g cs g5 x (p i x) (λw'=>J (i+1) w'∧Fr S w2 w') w2 (hb.fr hf2 hn) hP.fn λw3 hf3=>
   (hP.call i x w3 hx ((Fr.of0 hf).trans (hf2.then0 hf3)) (hP.st i w2 w3 hf3 hJ)).mono λ_ _ ⟨h1,h2,h3⟩=>⟨h1,h2,(Fr.of0 hf3).trans h3⟩
 st:=hP.st
 old s hs:=Nat.lt_of_lt_of_le (hP.old s hs) hf.size
theorem o3 (A:Option Addr) (c:Nat) (l:List (Bd)) (hl:l.length≤4611686018427387904) (g:FuncId) (cs:List Value) (p:Nat→Bd→Bool) (S:Nat→Prop) (J:Nat→World→Prop) (w:World) (hP:PredJ prog g cs (λx:Bd=>.agg x.cells.toArray) l p S J w) (hR:∀w1,Fr S w w1→Rd w1 A (l.length*5) (AD Bd.cells l)) (hJ:J 0 w) :
 Calls prog 107 #[.slice A l.length c,.func (.func 108) #[] #[],.func (.func g) #[] cs.toArray] w λe w'=>e=.returned (.tuple #[str ((ffN p 0 l).elim [] (λx=>x.name)),.bool (ffN p 0 l).isSome])∧J (ixN (λi x => !(p i x)) 0 l) w'∧Fr S w w':=by
 refine BH func107 ntmps107 X λM=>srg (D6 M (wn_none X) X X 203 X X ([.func (.func g) #[] cs.toArray]) X λg5 w1 hg5 M=>yb X (AJ X (AE X (ya X (CP (us:=[]) (vs:=[pg g5]) X X X) (cl 11 X (AG X X call159) (RW Bd.cells Bd.len A c l hl 160 [pg g5] (λi x => !(p i x)) S J _ (sI hP M.fr hg5 (M.blk 0 X)) (λw9 hf9=>hR w9 ((Fr.of0 M.fr).trans hf9)) (hP.st 0 _ _ M.fr hJ)) ?_)))))
 rintro _ w9 ⟨rfl,hJ9,hf9⟩;refine ⟨_,X,?_⟩;have M:Mem w S [] w9:=Mem.ofFr ((Fr.of0 M.fr).trans hf9);refine AJ X (sx_seq (AE X (BB X X (nq (AF X (λh13=>?_) (λh13=>?_))))))
 ·have h13p:=(odt h13);have hff:=OI h13p;exact AE X (yb X (gnr (qx_then_ret (C4 X X X ⟨by rw [hff];rfl,hJ9,M.fr⟩))))
 ·have h13p:=(odf h13);obtain ⟨j,x,hj,hx,hff⟩:=OJ h13p;have hjl:j<l.length:=(List.getElem?_eq_some_iff.1 hx).1;rw [hj];obtain ⟨b_x,o_x,hA_x⟩:=B5 (k:=5) AA (hR _ M.fr) hx;refine sx_skip (qx_seq (AE X (AV X X (ya X (AN j hA_x X X X (sl X) AA) (ya X (AK X X (B6 Bd.len (hR _ M.fr) hA_x hx) underlying103 X EE) (cl 19 X (BJ X X X call108) (yS x _) ?_))))));rintro _ w10 ⟨rfl,hf10⟩;exact ⟨_,X,AV X X (gnr (C4 X X X ⟨by rw [hff];rfl,hP.st _ _ _ hf10 hJ9,M.fr.then0 hf10⟩))⟩
theorem sF (g:FuncId) (cs:List Value) (g5:Nat) (x:List UInt8) (b:Bool) (K:World→Prop) (w:World) (hb:Blk w g5 97 [.func (.func g) #[] cs.toArray]) (hfn:∀(ar:Array Value) (w:World),(callFunc g ar).run prog w=.ok (.enter g ar) w)
 (hc:∀w3,Fr0 w w3→Calls prog g (str x::cs).toArray w3 λe w'=>e=.returned (.bool b)∧K w'):Calls prog 165 #[str x,pg g5] w λe w'=>e=.returned (.bool (!b))∧K w':=by
 refine BH func165 ntmps165 X λM=>srg (AJ X (srg (yl X X (Blk.c (hb.fr0 M.fr) 0 X) (yb X (cl 6 X (BJ X X X hfn) (hc _ M.fr) ?_)))))
 rintro _ w9 ⟨rfl,hK⟩;exact ⟨_,X,AV X X (gnr (gr1 X ⟨X,hK⟩))⟩
theorem mD {l:List (List UInt8)} {g:FuncId} {cs:List Value} {p:Nat→List UInt8→Bool} {S:Nat→Prop} {J:Nat→World→Prop} {w w1:World} {g5:Nat} (hP:PredJ prog g cs str l p S J w) (hf:Fr0 w w1) (hg:w.heap.size≤g5) (hb:Blk w1 g5 97 [.func (.func g) #[] cs.toArray]) :
 PredJ prog 165 [pg g5] str l (λi x => !(p i x)) S J w1 where
 fn:=call165
 call i x w2 hx hf2 hJ:=by
  have hn:¬S g5:=λh=>by have:=hP.old g5 h;omega
  exact sF g cs g5 x (p i x) (λw'=>J (i+1) w'∧Fr S w2 w') w2 (hb.fr hf2 hn) hP.fn λw3 hf3=>
   (hP.call i x w3 hx ((Fr.of0 hf).trans (hf2.then0 hf3)) (hP.st i w2 w3 hf3 hJ)).mono λ_ _ ⟨h1,h2,h3⟩=>⟨h1,h2,(Fr.of0 hf3).trans h3⟩
 st:=hP.st
 old s hs:=Nat.lt_of_lt_of_le (hP.old s hs) hf.size
theorem iS (A:Option Addr) (c:Nat) (l:List (List UInt8)) (hl:l.length≤4611686018427387904) (g:FuncId) (cs:List Value) (p:Nat→List UInt8→Bool) (S:Nat→Prop) (J:Nat→World→Prop) (w:World) (hP:PredJ prog g cs str l p S J w) (hR:∀w1,Fr S w w1→Rd w1 A (l.length*1) (AD C0 l)) (hJ:J 0 w) :
 Calls prog 122 #[.slice A l.length c,.func (.func 123) #[] #[],.func (.func g) #[] cs.toArray] w λe w'=>e=.returned (.tuple #[str ((ffN p 0 l).elim [] (λx=>x)),.bool (ffN p 0 l).isSome])∧J (ixN (λi x => !(p i x)) 0 l) w'∧Fr S w w':=by
 refine BH func122 ntmps122 X λM=>srg (D6 M (wn_none X) X X 97 X X ([.func (.func g) #[] cs.toArray]) X λg5 w1 hg5 M=>yb X (AJ X (AE X (ya X (CP (us:=[]) (vs:=[pg g5]) X X X) (cl 11 X (AG X X call62) (Z2 A c l hl 165 [pg g5] (λi x => !(p i x)) S J _ (mD hP M.fr hg5 (M.blk 0 X)) (λw9 hf9=>hR w9 ((Fr.of0 M.fr).trans hf9)) (hP.st 0 _ _ M.fr hJ)) ?_)))))
 rintro _ w9 ⟨rfl,hJ9,hf9⟩;refine ⟨_,X,?_⟩;have M:Mem w S [] w9:=Mem.ofFr ((Fr.of0 M.fr).trans hf9);refine AJ X (sx_seq (AE X (BB X X (nq (AF X (λh13=>?_) (λh13=>?_))))))
 ·have h13p:=(odt h13);have hff:=OI h13p;exact AE X (yb X (gnr (qx_then_ret (C4 X X X ⟨by rw [hff];rfl,hJ9,M.fr⟩))))
 ·have h13p:=(odf h13);obtain ⟨j,x,hj,hx,hff⟩:=OJ h13p;have hjl:j<l.length:=(List.getElem?_eq_some_iff.1 hx).1;rw [hj];obtain ⟨b_x,o_x,hA_x⟩:=B5 (k:=1) AA (hR _ M.fr) hx;refine sx_skip (qx_seq (AE X (AV X X (ya X (AN j hA_x X X X (sl X) AA) (yl X X (D9 DQ (hR _ M.fr) hA_x hx 0 X) (cl 19 X (BJ X X X call123) (xE x _) ?_))))));rintro _ w10 ⟨rfl,hf10⟩;exact ⟨_,X,AV X X (gnr (C4 X X X ⟨by rw [hff];rfl,hP.st _ _ _ hf10 hJ9,M.fr.then0 hf10⟩))⟩
end Go.Proofs.YtaheakjfkpkefaaGreatDoor
