/- Lemmas. -/
import Derived.Test.YtaheakjfkpkefaaGreatDoorVb2
import Derived.Lib.LaidTab
import Derived.ChangeSame
import Derived.Stop.LaidErr
import Derived.MakeChecks
import GoSem.PinnedTables
import Derived.Lib.ValidLaws
set_option maxHeartbeats 16000000
set_option maxRecDepth 100000
namespace Go.Proofs.YtaheakjfkpkefaaGreatDoor
open Go.RowKit Go.ChangeShapes
def Laid (w:World) (L:List (Nat × List Value)):Prop:=∀p∈L,∃el fz,w.heap[p.1]?=some (.cells p.2.toArray el fz)
theorem SQ {P:Program} {w:World} {name:String} {g:Nat} {cs:Array Value} (hg:P.globalNamed name=some g) (h:w.var? P name=some cs):∃el fz,w.heap[g]?=some (.cells cs el fz):=by
 unfold World.var? at h
 rw [hg] at h
 simp only [Option.bind_some] at h
 split at h
 ·rename_i row el fz hrow
  injection h with h;subst h
  exact ⟨el,fz,hrow⟩
 ·cases h
theorem U5 {H:Type} {enc:TypeId × Value→H} {P:Program} {w:World} {base:Nat} {sp:Nat→Bool} {held:Bool} {fuel:Nat} {t e:TypeId} {n:Nat} {k:IntKind} {f0 f1:Field} {cs:List Value} {zs:List (Int × Int)} {p:List MemPlace}
 (ht:P.underlying t=some (.array n e)) (he:P.underlying e=some (.struct #[f0,f1])) (hb0:P.underlying f0.type=some (.int k)) (hb1:P.underlying f1.type=some (.int k)) (ho:f0.offset=0∧f1.offset=1) (hc0:P.cellsOf f0.type=1) (hc1:P.cellsOf f1.type=1)
 (hce:P.cellsOf e=2) (hct:P.cellsOf t=n*2)
 (h:DataW.trod enc P w base sp held fuel t cs=some (.agg (zs.map λz=>.agg [.lit (.int k z.1),.lit (.int k z.2)]),p)):cs=zs.flatMap λz=>[Value.int k z.1,Value.int k z.2]:=by
 cases fuel with
 | zero=>simp [DataW.trod] at h
 | succ fuel=>
  simp only [DataW.trod,ht,hce,hct] at h
  split at h
  ·rename_i hl
   obtain ⟨xs,hm,hx⟩:=Option.map_eq_some_iff.1 h
   have hxs:xs.map (·.1)=zs.map λz=>(DataW.agg [.lit (.int k z.1),.lit (.int k z.2)]:DataW H):=by
    have:=congrArg Prod.fst hx
    simpa using this
   have hxl:xs.length=n:=by simpa using Go.Lib.mapM_length hm
   have hzl:zs.length=n:=by
    have:=congrArg List.length hxs
    simp at this
    omega
   have hpair:∀i z,zs[i]?=some z→cs[2*i]?=some (.int k z.1)∧cs[2*i+1]?=some (.int k z.2):=λi z hz=>by
    have hi:i<n:=by have:=(List.getElem?_eq_some_iff.1 hz).1;omega
    obtain ⟨x,hxi,hf⟩:=Go.Lib.mapM_at hm i i (by simp [hi]);obtain ⟨y0,y1,m,hx2,_,g0,g1⟩:=trod_struct2 he hf;rw [ho.1,hc0] at g0
    rw [ho.2,hc1] at g1
    obtain ⟨a,ha,rfl,_⟩:=DataW.trod_int hb0 g0;obtain ⟨c,hc,rfl,_⟩:=DataW.trod_int hb1 g1;have h2:(xs.map (·.1))[i]?=some (DataW.agg [.lit (.int k a),.lit (.int k c)]):=by rw [List.getElem?_map,hxi,hx2];rfl
    rw [hxs,List.getElem?_map,hz] at h2
    simp only [Option.map_some,Option.some.injEq,DataW.agg.injEq,List.cons.injEq,DataW.lit.injEq,Lit.int.injEq,true_and,and_true] at h2
    obtain ⟨rfl,rfl⟩:=h2;have q0:=congrArg (·[0]?) ha;have q1:=congrArg (·[0]?) hc
    simp [List.getElem?_drop] at q0 q1
    rw [Nat.mul_comm] at q0 q1
    exact ⟨q0,q1⟩
   have hlen:(zs.flatMap λz=>[Value.int k z.1,Value.int k z.2]).length=n*2:=by
    rw [←hzl];clear hpair hxs hl hm h hx hzl
    induction zs with
    | nil=>rfl
    | cons z zs ih=>simp only [List.flatMap_cons,List.length_append,ih,List.length_cons,List.length_nil];omega
   have hget:∀(zs:List (Int × Int)) (i:Nat) z,zs[i]?=some z→(zs.flatMap λz=>[Value.int k z.1,Value.int k z.2])[2*i]?=some (.int k z.1)∧(zs.flatMap λz=>[Value.int k z.1,Value.int k z.2])[2*i+1]?=some (.int k z.2):=by
    intro zs
    induction zs with
    | nil=>intro i z hz;simp at hz
    | cons y zs ih=>
     intro i z hz
     cases i with
     | zero=>simp only [List.getElem?_cons_zero,Option.some.injEq] at hz;subst hz;exact ⟨rfl,rfl⟩
     | succ i=>
      have:=ih i z (by simpa using hz)
      simp only [List.flatMap_cons];rw [List.getElem?_append_right (by simp;omega),List.getElem?_append_right (by simp;omega)]
      simpa [show 2*(i+1)-2=2*i by omega,show 2*(i+1)+1-2=2*i+1 by omega] using this
   apply List.ext_getElem?
   intro j
   by_cases hj:j<n*2
   ·obtain ⟨z,hz⟩:∃z,zs[j / 2]?=some z:=⟨_,List.getElem?_eq_getElem AA⟩
    have a:=hpair _ _ hz;have c:=hget zs _ _ hz;rcases Nat.mod_two_eq_zero_or_one j with hm2|hm2
    ·have:j=2*(j / 2):=by omega
     rw [this,a.1,c.1]
    ·have:j=2*(j / 2)+1:=by omega
     rw [this,a.2,c.2]
   ·rw [List.getElem?_eq_none AA,List.getElem?_eq_none AA]
  ·cases h
open Tryz
def pairsZ : List (Int × Int):=[(128,191),(160,191),(128,159),(144,191),(128,143),(0,0),(0,0),(0,0),(0,0),(0,0),(0,0),(0,0),(0,0),(0,0),(0,0),(0,0)]
def wE : DataW Unit:=.agg (pairsZ.map λz=>.agg [.lit (.int .u8 z.1),.lit (.int .u8 z.2)])
def firstZ : List Int:=Go.Pinned.utf8FirstZ.map λn=>Int.ofNat n
def utfL : List (Nat × List Value):=[(0,firstZ.map λz=>Value.int .u8 z),(1,pairsZ.flatMap λz=>[Value.int .u8 z.1,Value.int .u8 z.2])]
theorem PJ {P:Program} {W:World}:∀{l:List (String × DataW Unit)} {ps:List MemPlace},DataW.LaidVars P W l ps→∀{n:String} {d:DataW Unit},(n,d)∈l →
 ∃g t cs fuel p,P.globalNamed n=some g∧(P.globals[g]?).map (·.type)=some t∧W.var? P n=some cs∧DataW.trod (λ_=>()) P W 0 (λ_=>true) false fuel t cs.toList=some (d,p)
 | [],_,_,_,_,h=>by cases h
 | (n',d')::r,ps,hv,n,d,h=>by
  obtain ⟨g,t,cs,fuel,p,q,h1,h2,h3,h4,h5,_⟩:=hv;rcases List.mem_cons.1 h with he|h
  ·injection he with e1 e2;subst e1;subst e2
   exact ⟨g,t,cs,fuel,p,h1,h2,h3,h4⟩
  ·exact PJ h5 h
theorem o2 : Go.Pinned.utf8First=Go.Lib.tabData .u8 firstZ:=by kernel_rfl
theorem first_named : prog.globalNamed "unicode/utf8.first" = some 0 := by kernel_rfl
theorem ranges_named : prog.globalNamed "unicode/utf8.acceptRanges" = some 1 := by kernel_rfl
theorem kB {l : List (String × DataW Unit)} {W : World} (hL : laidMet prog l W) (h1 : ("unicode/utf8.first", Go.Pinned.utf8First) ∈ l) (h2 : ("unicode/utf8.acceptRanges", wE) ∈ l) : Laid W utfL := by
 obtain ⟨ps,hv,_,_⟩:=hL;intro p hp;rcases List.mem_cons.1 hp with rfl|hp
 ·obtain ⟨g,t,cs,fuel,q,e1,e2,e3,e4⟩:=PJ hv h1;obtain rfl:=Option.some.inj (first_named.symm.trans e1);obtain rfl:=Option.some.inj ((show (prog.globals[0]?).map (·.type)=some 195 by kernel_rfl).symm.trans e2);rw [o2] at e4
  have e5:=Go.Lib.cells_of_tab underlying195 underlying5 gkr gkr e4
  have:=SQ first_named e3
  rw [←Array.toArray_toList (xs:=cs),e5] at this
  exact this
 ·obtain rfl:=List.mem_singleton.1 hp;obtain ⟨g,t,cs,fuel,q,e1,e2,e3,e4⟩:=PJ hv h2;obtain rfl:=Option.some.inj (ranges_named.symm.trans e1);obtain rfl:=Option.some.inj ((show (prog.globals[1]?).map (·.type)=some 263 by kernel_rfl).symm.trans e2);have e5:=U5 underlying263 underlying262 underlying5 underlying5 ⟨X,X⟩ gkr gkr gkr gkr e4
  have:=SQ ranges_named e3
  rw [←Array.toArray_toList (xs:=cs),e5] at this
  exact this
def ZM (b:UInt8):Bool:=decide (128≤b.toNat)&&decide (b.toNat≤191)
def lo2 (a:UInt8):Nat:=if a.toNat=224 then 160 else if a.toNat=240 then 144 else 128
def hi2 (a:UInt8):Nat:=if a.toNat=237 then 159 else if a.toNat=244 then 143 else 191
def mid (a b:UInt8):Bool:=decide (lo2 a≤b.toNat)&&decide (b.toNat≤hi2 a)
def u2 (a:UInt8):List UInt8→Nat
 | b::_=>if mid a b then 2 else 0
 | []=>0
def u3 (a:UInt8):List UInt8→Nat
 | b::c::_=>if mid a b&&ZM c then 3 else 0
 | _=>0
def u4 (a:UInt8):List UInt8→Nat
 | b::c::d::_=>if mid a b&&ZM c&&ZM d then 4 else 0
 | _=>0
def R0 (a:UInt8) (r:List UInt8):Nat:=if a.toNat<128 then 1 else if a.toNat<194 then 0 else if a.toNat<224 then u2 a r else if a.toNat<240 then u3 a r else if a.toNat<245 then u4 a r else 0
def LY : List UInt8→Nat
 | []=>0
 | a::r=>R0 a r
theorem IW (a:UInt8) (r:List UInt8):LY (a::r)=R0 a r:=rfl
def fD : Nat→List UInt8→Bool
 | 0,l=>l.isEmpty
 | n+1,l=>l.isEmpty || (LY l != 0&&fD n (l.drop (LY l)))
def utf (l:List UInt8):Bool:=fD l.length l
theorem UW : ∀(n m:Nat) (l:List UInt8),l.length≤n→l.length≤m→fD n l=fD m l
 | 0,0,_,_,_=>rfl
 | 0,m+1,l,h,_=>by
  have:l=[]:=List.eq_nil_of_length_eq_zero AA
  subst this;rfl
 | n+1,0,l,_,h=>by
  have:l=[]:=List.eq_nil_of_length_eq_zero AA
  subst this;rfl
 | n+1,m+1,l,h1,h2=>by
  unfold fD
  by_cases h0:LY l=0
  ·simp [h0]
  ·rw [UW n m (l.drop (LY l)) (by rw [List.length_drop];omega) (by rw [List.length_drop];omega)]
theorem XQ (l:List UInt8) (h:l≠[]):utf l=(LY l != 0&&utf (l.drop (LY l))):=by
 unfold utf;obtain ⟨a,r,rfl⟩:=List.exists_cons_of_ne_nil h;rw [List.length_cons]
 conv=>lhs;unfold fD
 by_cases h0:LY (a::r)=0
 ·simp [h0]
 ·rw [UW r.length _ _ (by rw [List.length_drop,List.length_cons];omega) (Nat.le_refl _)]
  simp
theorem vH (l:List UInt8) (n:Nat) (hn:n≠0) (h0:LY l=n):utf l=utf (l.drop n):=by
 have h:l≠[]:=λe=>by subst e;exact hn h0.symm
 rw [XQ l h,h0]
 simp [hn]
open Go.Lib
theorem bR (a:UInt8) (r:List UInt8) (h:128≤a.toNat) :
 checkN (a::r).length ((a::r).getD 1 0).toNat ((a::r).getD 2 0).toNat ((a::r).getD 3 0).toNat (firstT a.toNat%8) (accLo (firstT a.toNat / 16)) (accHi (firstT a.toNat / 16))=if LY (a::r)=0 then none else some (LY (a::r)):=by
 have ha:=a.toNat_lt
 by_cases c0:a.toNat<194
 ·have hu:LY (a::r)=0:=by rw [IW,R0,if_neg AA,if_pos c0]
  rw [hu,if_pos rfl]
  simp [firstT,checkN,show ¬a.toNat<128 by omega,c0]
 have fin2:∀x lo hi,firstT a.toNat=x→x%8=2→accLo (x / 16)=lo→accHi (x / 16)=hi→lo=lo2 a→hi=hi2 a→checkN (a::r).length ((a::r).getD 1 0).toNat ((a::r).getD 2 0).toNat ((a::r).getD 3 0).toNat (firstT a.toNat%8) (accLo (firstT a.toNat / 16)) (accHi (firstT a.toNat / 16))=if u2 a r=0 then none else some (u2 a r):=by
  intro x lo hi e1 e2 e3 e4 e5 e6;rw [e1,e2,e3,e4];unfold checkN;rw [if_pos rfl]
  match r with
  | []=>simp [u2]
  | b::r=>
   have:mid a b=decide (lo≤b.toNat∧b.toNat≤hi):=by rw [e5,e6];simp [mid]
   rw [u2,this]
   by_cases hb:lo≤b.toNat∧b.toNat≤hi
   ·simp [hb]
   ·simp only [hb];simp<;>omega
 have fin3:∀x lo hi,firstT a.toNat=x→x%8=3→accLo (x / 16)=lo→accHi (x / 16)=hi→lo=lo2 a→hi=hi2 a→checkN (a::r).length ((a::r).getD 1 0).toNat ((a::r).getD 2 0).toNat ((a::r).getD 3 0).toNat (firstT a.toNat%8) (accLo (firstT a.toNat / 16)) (accHi (firstT a.toNat / 16))=if u3 a r=0 then none else some (u3 a r):=by
  intro x lo hi e1 e2 e3 e4 e5 e6;rw [e1,e2,e3,e4];unfold checkN;rw [if_neg AA,if_pos rfl]
  match r with
  | []=>simp [u3]
  | [b]=>simp [u3]
  | b::c::r=>
   have:(mid a b&&ZM c)=decide (lo≤b.toNat∧b.toNat≤hi∧128≤c.toNat∧c.toNat≤191):=by
    rw [e5,e6,Bool.eq_iff_iff];unfold mid ZM;constructor<;>intro h<;>simp at h ⊢<;>omega
   rw [u3,this]
   by_cases hb:lo≤b.toNat∧b.toNat≤hi∧128≤c.toNat∧c.toNat≤191
   ·simp [hb]
   ·simp only [hb];simp<;>omega
 have fin4:∀x lo hi,firstT a.toNat=x→x%8=4→accLo (x / 16)=lo→accHi (x / 16)=hi→lo=lo2 a→hi=hi2 a→checkN (a::r).length ((a::r).getD 1 0).toNat ((a::r).getD 2 0).toNat ((a::r).getD 3 0).toNat (firstT a.toNat%8) (accLo (firstT a.toNat / 16)) (accHi (firstT a.toNat / 16))=if u4 a r=0 then none else some (u4 a r):=by
  intro x lo hi e1 e2 e3 e4 e5 e6;rw [e1,e2,e3,e4];unfold checkN;rw [if_neg AA,if_neg AA,if_pos rfl]
  match r with
  | []=>simp [u4]
  | [b]=>simp [u4]
  | [b,c]=>simp [u4]
  | b::c::d::r=>
   have:(mid a b&&ZM c&&ZM d)=decide (lo≤b.toNat∧b.toNat≤hi∧128≤c.toNat∧c.toNat≤191∧128≤d.toNat∧d.toNat≤191):=by
    rw [e5,e6,Bool.eq_iff_iff];unfold mid ZM;constructor<;>intro h<;>simp at h ⊢<;>omega
   rw [u4,this]
   by_cases hb:lo≤b.toNat∧b.toNat≤hi∧128≤c.toNat∧c.toNat≤191∧128≤d.toNat∧d.toNat≤191
   ·simp [hb]
   ·simp only [hb];simp<;>omega
 by_cases c1:a.toNat<224
 ·rw [show LY (a::r)=u2 a r by rw [IW,R0,if_neg AA,if_neg c0,if_pos c1]];exact fin2 2 128 191 (by simp [firstT,show ¬a.toNat<128 by omega,c0,c1]) X X X (by unfold lo2;rw [if_neg AA,if_neg AA]) (by unfold hi2;rw [if_neg AA,if_neg AA])
 by_cases c5:a.toNat<240
 ·rw [show LY (a::r)=u3 a r by rw [IW,R0,if_neg AA,if_neg c0,if_neg c1,if_pos c5]]
  by_cases c2:a.toNat=224
  ·exact fin3 19 160 191 (by rw [c2];rfl) X X X (by unfold lo2;rw [if_pos c2]) (by unfold hi2;rw [if_neg AA,if_neg AA])
  by_cases c4:a.toNat=237
  ·exact fin3 35 128 159 (by rw [c4];rfl) X X X (by unfold lo2;rw [if_neg AA,if_neg AA]) (by unfold hi2;rw [if_pos c4])
  ·refine fin3 3 128 191 ?_ X X X (by unfold lo2;rw [if_neg AA,if_neg AA]) (by unfold hi2;rw [if_neg AA,if_neg AA])
   by_cases c3:a.toNat<237
   ·simp [firstT,show ¬a.toNat<128 by omega,c0,c1,c2,c3]
   ·simp [firstT,show ¬a.toNat<128 by omega,c0,c1,c2,c3,c4,c5]
 by_cases c9:a.toNat<245
 ·rw [show LY (a::r)=u4 a r by rw [IW,R0,if_neg AA,if_neg c0,if_neg c1,if_neg c5,if_pos c9]]
  by_cases c6:a.toNat=240
  ·exact fin4 52 144 191 (by rw [c6];rfl) X X X (by unfold lo2;rw [if_neg AA,if_pos c6]) (by unfold hi2;rw [if_neg AA,if_neg AA])
  by_cases c8:a.toNat=244
  ·exact fin4 68 128 143 (by rw [c8];rfl) X X X (by unfold lo2;rw [if_neg AA,if_neg AA]) (by unfold hi2;rw [if_neg AA,if_pos c8])
  ·exact fin4 4 128 191 (by simp [firstT,show ¬a.toNat<128 by omega,c0,c1,show ¬a.toNat=224 by omega,show ¬a.toNat<237 by omega,show ¬a.toNat=237 by omega,c5,c6,show a.toNat<244 by omega]) X X X (by unfold lo2;rw [if_neg AA,if_neg AA]) (by unfold hi2;rw [if_neg AA,if_neg AA])
 ·rw [show LY (a::r)=0 by rw [IW,R0,if_neg AA,if_neg c0,if_neg c1,if_neg c5,if_neg c9],if_pos rfl]
  simp [firstT,checkN,show ¬a.toNat<128 by omega,c0,c1,show ¬a.toNat=224 by omega,show ¬a.toNat<237 by omega,show ¬a.toNat=237 by omega,c5,show ¬a.toNat=240 by omega,show ¬a.toNat<244 by omega,show ¬a.toNat=244 by omega]
theorem aE : ∀(n:Nat) (l:List UInt8),l.length≤n→validD l=utf l
 | 0,l,h=>by
  obtain rfl:l=[]:=List.eq_nil_of_length_eq_zero AA
  rfl
 | n+1,[],_=>rfl
 | n+1,a::r,h=>by
  rw [List.length_cons] at h
  by_cases c:a.toNat<128
  ·rw [validD_cons a r c,vH (a::r) 1 AA (by rw [IW,R0,if_pos c])];exact aE n r AA
  ·rw [validD_lead (a::r) (by simp) (by show 128≤a.toNat;omega)]
   have:=bR a r AA
   simp only [List.getD_cons_zero] at this ⊢
   rw [this,XQ (a::r) (by simp)]
   by_cases c0:LY (a::r)=0
   ·rw [if_pos c0,c0];rfl
   ·rw [if_neg c0];rw [show (LY (a::r) != 0)=true by simp [c0],Bool.true_and];exact aE n _ (by rw [List.length_drop,List.length_cons];omega)
open Go.RowKit
section
section
variable {P:Program} {e:Env} {w:World} {n:Nat}
theorem E3 {fn:Func} {R:Ending→World→Prop} {t ty g m:Nat} {d:TypeDesc} {xs:List Value} (hr:fn.results = #[.cell t ty]) (hv:e.get t=some (pg g)) (hrd:Rd w (some ⟨g,0,none⟩) m xs) (hu:P.underlying ty=some d) (hd:d.isRow=true) (hi:(P.info? ty).map (·.size)=some m)
 (h:R (.returned (.agg xs.toArray)) w):QX (bodyPost P fn R) .ret n e w:=.mk λa ha=>by
 have hc:w.rangeAt g 0 xs:=λj v hv=>by
  have hj:0<m:=by have:=(List.getElem?_eq_some_iff.1 hv).1;have:=hrd.1;omega
  obtain ⟨b',off',e,hc⟩:=hrd.2 hj
  injection e with e;injection e with e1 e2 _;subst e1;subst e2
  exact hc j v hv
 have hrun:=run_loadVar_mid (P:=P) w g 0 ty xs d hc hu hd (by rw [hrd.1];exact hi)
 have:(results fn a.tmps).run P w=.ok (.agg xs.toArray) w:=by simp [results,hr,ha.get t _ hv,asAddr,hrun]
 exact ⟨ha.defers,_,this,h⟩
end
def tabN (n:Nat):Nat:=if (decide (65≤n)&&decide (n≤90)) || (decide (97≤n)&&decide (n≤122)) then 2 else if ((decide (48≤n)&&decide (n≤57)) || n==45 || n==95 || n==46) then 1 else 0
def tabL : List Value:=(List.range 256).map λn=>.int .u8 (tabN n:Int)
def zC : Value:=.agg tabL.toArray
def tbF (f:Nat→Nat):List Value:=(List.range 256).map λn=>.int .u8 (f n:Int)
theorem I4 (f:Nat→Nat):(tbF f).length=256:=by unfold tbF;rw [List.length_map,List.length_range]
theorem qW (f:Nat→Nat):∀u∈tbF f,u.oneCell'=true:=by
 intro u hu;obtain ⟨n,_,rfl⟩:=List.mem_map.1 hu
 rfl
theorem Q2 {f g:Nat→Nat} (h:∀n,n<256→f n=g n):tbF f=tbF g:=by
 unfold tbF;exact List.map_congr_left λn hn=>by rw [h n (List.mem_range.1 hn)]
theorem Q1 {f:Nat→Nat} {k c off:Nat} (ho:off=k):(tbF f).set off (.int .u8 (c:Int))=tbF λn=>if n=k then c else f n:=by
 subst ho
 apply List.ext_getElem?
 intro n;rw [List.getElem?_set];unfold tbF
 by_cases h:off=n
 ·subst h
  by_cases hl:off<256
  ·simp [hl]
  ·simp [hl]
 ·rw [if_neg h]
  by_cases hl:n<256
  ·have hn:¬n=off:=λe=>h e.symm
   simp [hl,hn]
  ·simp [hl]
def tb1 (i n:Nat):Nat:=if (97≤n∧n<97+i)∨(65≤n∧n<65+i) then 2 else 0
def tb2 (j n:Nat):Nat:=if 48≤n∧n<48+j then 1 else tb1 26 n
theorem kL {i:Nat}:tbF (λn=>if n=(((65+i:Nat):Int):Int).toNat then 2 else (λn=>if n=(((97+i:Nat):Int):Int).toNat then 2 else (tb1 i) n) n)=tbF (tb1 (i+1)):=Q2 λn _=>by
 unfold tb1;simp only [Int.toNat_natCast]
 repeat' split
 all_goals first
  | rfl
  | (exfalso;omega)
theorem kK {j:Nat}:tbF (λn=>if n=(((48+j:Nat):Int):Int).toNat then 1 else (tb2 j) n)=tbF (tb2 (j+1)):=Q2 λn _=>by
 unfold tb2;simp only [Int.toNat_natCast]
 repeat' split
 all_goals first
  | rfl
  | (exfalso;omega)
theorem zB : tbF (tb1 26)=tbF (tb2 0):=Q2 λn _=>by
 unfold tb2;rw [if_neg AA]
theorem kM : tbF (λn=>if n=(46:Int).toNat then 1 else (λn=>if n=(95:Int).toNat then 1 else (λn=>if n=(45:Int).toNat then 1 else (tb2 10) n) n) n)=tabL:=by kernel_rfl
theorem qV : (prog.info? 195).map (·.zero)=some (some (.agg (tbF (tb1 0)).toArray)):=by kernel_rfl
theorem V0 : (prog.info? 5).map (·.size)=some 1:=by kernel_rfl
theorem WB : (prog.info? 195).map (·.size)=some 256:=by kernel_rfl
theorem aJ (w:World) :
 Calls prog 104 #[] w (BI w zC):=by
 refine BH func104 ntmps104 X λM=>srg (EI M (wn_none X) X X 195 X (tbF (tb1 0)) qV X λg0 w1 hg0 M=>nq (sx_seq (srg (AJ X (sx_block (flp [0] (λze e wr mz=>∃(i:Nat),e=(3,AC (i:Int))::ze∧Mem w AR [As.blk g0 195 (tbF (tb1 i))] wr∧(i≤26)∧mz=26-i) ⟨0,X,M,Nat.zero_le _,X⟩ ?_))))))
 rintro _ w2 _ ⟨i,rfl,M,hi,rfl⟩;refine srg (BB X X (nq (sx_seq (AF X (λh4=>?_) (λh4=>?_)))))
 ·have h4p:=(odt h4);refine sx_skip (qx_seq (sx_seq (sx_block (AE X (AJ X (sx_region (yb X (BV X X (yb X (BV X X (ya X (EO X X X (ar X) AA) ?_)))))))))));refine E7 (cs':=tbF (λn=>if n=(((97+i:Nat):Int):Int).toNat then 2 else (tb1 i) n)) M 0 (wn_none X) X X X X X X X V0 (by rw [I4];omega) (Q1 AA) λw3 M=>ya X (EO X X X (ar X) AA) (E7 (cs':=tbF (λn=>if n=(((65+i:Nat):Int):Int).toNat then 2 else (λn=>if n=(((97+i:Nat):Int):Int).toNat then 2 else (tb1 i) n) n)) M 0 (wn_none X) X X X X X X X V0 (by rw [I4];omega) (Q1 AA) λw4 M=>sxl_nil (qx_block_normal (qx_seq (sx_region (BV X X (yb X (sxl_nil ?_)))))))
  rw [kL] at M
  refine fag ⟨i+1,X,M,?_,X⟩
  ·omega
 ·have h4p:=(odf h4);refine sx_exit (qx_then_exit (qx_then_exit ?_));obtain rfl:i=26:=by omega
  rw [zB] at M
  refine qx_block_hit (qx_seq (sx_seq (srg (AJ X (sx_block (flp [0] (λze e wr mz=>∃(j:Nat),e=(13,AC (j:Int))::ze∧Mem w AR [As.blk g0 195 (tbF (tb2 j))] wr∧(j≤10)∧mz=10-j) ⟨0,X,M,Nat.zero_le _,X⟩ ?_))))));rintro _ w5 _ ⟨j,rfl,M,hj,rfl⟩;refine srg (BB X X (nq (sx_seq (AF X (λh14=>?_) (λh14=>?_)))))
  ·have h14p:=(odt h14);refine sx_skip (qx_seq (sx_seq (sx_block (AE X (AJ X (sx_region (yb X (BV X X (ya X (EO X X X (ar X) AA) (E7 (cs':=tbF (λn=>if n=(((48+j:Nat):Int):Int).toNat then 1 else (tb2 j) n)) M 0 (wn_none X) X X X X X X X V0 (by rw [I4];omega) (Q1 AA) λw6 M=>?_))))))))));refine sxl_nil (qx_block_normal (qx_seq (sx_region (BV X X (yb X (sxl_nil ?_))))));rw [kK] at M
   refine fag ⟨j+1,X,M,?_,X⟩
   ·omega
  ·have h14p:=(odf h14);refine sx_exit (qx_then_exit (qx_then_exit ?_));obtain rfl:j=10:=by omega
   refine qx_block_hit (qx_seq (srg (ya X (EO X X X (ar X) AA) (E7 (cs':=tbF (λn=>if n=(45:Int).toNat then 1 else (tb2 10) n)) M 0 (wn_none X) X X X X X X X V0 (by rw [I4];omega) (Q1 AA) λw7 M=>ya X (EO X X X (ar X) AA) (E7 (cs':=tbF (λn=>if n=(95:Int).toNat then 1 else (λn=>if n=(45:Int).toNat then 1 else (tb2 10) n) n)) M 0 (wn_none X) X X X X X X X V0 (by rw [I4];omega) (Q1 AA) λw8 M=>ya X (EO X X X (ar X) AA) (E7 (cs':=tbF (λn=>if n=(46:Int).toNat then 1 else (λn=>if n=(95:Int).toNat then 1 else (λn=>if n=(45:Int).toNat then 1 else (tb2 10) n) n) n)) M 0 (wn_none X) X X X X X X X V0 (by rw [I4];omega) (Q1 AA) λw9 M=>nq (sx_seq ?_)))))));exact sx_region (ya X (AK (xs:=tbF (λn=>if n=(46:Int).toNat then 1 else (λn=>if n=(95:Int).toNat then 1 else (λn=>if n=(45:Int).toNat then 1 else (tb2 10) n) n) n)) X X (M.rdBlk 0 X (I4 _)) underlying195 X WB) (XY (cs':=(tbF (λn=>if n=(46:Int).toNat then 1 else (λn=>if n=(95:Int).toNat then 1 else (λn=>if n=(45:Int).toNat then 1 else (tb2 10) n) n) n))) M 0 (wn_none X) X X X X X WB (I4 _) (by rw [I4];decide) (qW _) (FZ _ _ X) λw10 M=>gnr (E3 X X (M.rdBlk 0 X (I4 _)) underlying195 X WB ⟨by rw [kM];rfl,M.fr⟩)))
end
structure Vl where
 kind:UInt8
 int:Int
 bool:Bool
 text:List UInt8
def Vl.cells (v:Vl):List Value:=[bv v.kind,.int .i64 v.int,.bool v.bool,str v.text]
def Vl.val (v:Vl):Value:=.agg v.cells.toArray
def Vl.same (a b:Vl):Bool:=decide ((a.kind.toNat:Int)=b.kind.toNat)&&(decide (a.int=b.int)&&((a.bool==b.bool)&&decide (a.text=b.text)))
theorem Vl.cells_one (v:Vl):∀u∈v.cells,u.oneCell'=true:=by
 intro u hu;simp only [Vl.cells,List.mem_cons,List.not_mem_nil,or_false] at hu
 rcases hu with rfl|rfl|rfl|rfl<;>rfl
def zeroVl : Vl:=⟨0,0,false,[]⟩
theorem O4 : (prog.info? 100).map (·.zero)=some (some zeroVl.val):=by kernel_rfl
theorem EQ : (prog.info? 100).map (·.size)=some 4:=by kernel_rfl
theorem WO (n:Int):prog.built 100 [(0,.int .u8 1),(1,AC n)]=some (Vl.cells ⟨1,n,false,[]⟩).toArray:=by kernel_rfl
theorem XS (b:Bool):prog.built 100 [(0,.int .u8 2),(2,.bool b)]=some (Vl.cells ⟨2,0,b,[]⟩).toArray:=by kernel_rfl
theorem XJ (l:List UInt8):prog.built 100 [(0,.int .u8 3),(3,str l)]=some (Vl.cells ⟨3,0,false,l⟩).toArray:=by kernel_rfl
theorem Q7 (i:Int) (w:World):Calls prog 100 #[AC i] w (BI w (Vl.val ⟨1,i,false,[]⟩)):=by
 refine sx_enter (vs:=[_]) func100 X ntmps100 X (srg (sxl_does (some 2) (wn_none X) X X (λρ hρ=>C7 100 X _ _ O4 X) ?_));rintro _ w1 ⟨g,rfl,hg1,hg2,hb,hf⟩;refine nq (AE X (ya X (AY X X (WO i)) (sxl_does none (wn_none X) X X (λρ hρ=>BO 100 (.tmp 2) (.tmp 4) X g 0 100 _ (Vl.cells ⟨1,i,false,[]⟩) (hρ _ _ X) (hρ _ _ X) hb EQ (by show 0+4≤4;omega) (Vl.cells_one _)) ?_)));rintro _ w2 ⟨rfl,hb2,hf2⟩;rw [FZ zeroVl.cells (Vl.cells ⟨1,i,false,[]⟩) rfl] at hb2
 exact gnr (E3 X X (Rd.ofBlk hb2 X) underlying100 X EQ ⟨X,hf.step hf2 (λk hk e=>by omega)⟩)
theorem OZ (i:Bool) (w:World):Calls prog 101 #[.bool i] w (BI w (Vl.val ⟨2,0,i,[]⟩)):=by
 refine sx_enter (vs:=[_]) func101 X ntmps101 X (srg (sxl_does (some 2) (wn_none X) X X (λρ hρ=>C7 100 X _ _ O4 X) ?_));rintro _ w1 ⟨g,rfl,hg1,hg2,hb,hf⟩;refine nq (AE X (ya X (AY X X (XS i)) (sxl_does none (wn_none X) X X (λρ hρ=>BO 100 (.tmp 2) (.tmp 4) X g 0 100 _ (Vl.cells ⟨2,0,i,[]⟩) (hρ _ _ X) (hρ _ _ X) hb EQ (by show 0+4≤4;omega) (Vl.cells_one _)) ?_)));rintro _ w2 ⟨rfl,hb2,hf2⟩;rw [FZ zeroVl.cells (Vl.cells ⟨2,0,i,[]⟩) rfl] at hb2
 exact gnr (E3 X X (Rd.ofBlk hb2 X) underlying100 X EQ ⟨X,hf.step hf2 (λk hk e=>by omega)⟩)
theorem MC (i:List UInt8) (w:World):Calls prog 37 #[str i] w (BI w (Vl.val ⟨3,0,false,i⟩)):=by
 refine sx_enter (vs:=[_]) func37 X ntmps37 X (srg (sxl_does (some 2) (wn_none X) X X (λρ hρ=>C7 100 X _ _ O4 X) ?_));rintro _ w1 ⟨g,rfl,hg1,hg2,hb,hf⟩;refine nq (AE X (ya X (AY X X (XJ i)) (sxl_does none (wn_none X) X X (λρ hρ=>BO 100 (.tmp 2) (.tmp 4) X g 0 100 _ (Vl.cells ⟨3,0,false,i⟩) (hρ _ _ X) (hρ _ _ X) hb EQ (by show 0+4≤4;omega) (Vl.cells_one _)) ?_)));rintro _ w2 ⟨rfl,hb2,hf2⟩;rw [FZ zeroVl.cells (Vl.cells ⟨3,0,false,i⟩) rfl] at hb2
 exact gnr (E3 X X (Rd.ofBlk hb2 X) underlying100 X EQ ⟨X,hf.step hf2 (λk hk e=>by omega)⟩)
theorem QZ : prog.eqGuardType prog.depth 100=false:=by kernel_rfl
theorem SE : prog.stoodInHeld 100=false:=by kernel_rfl
theorem OV : prog.underlying 100=some (.struct (prog.fieldsOf 100)):=by kernel_rfl
theorem BC {P : Program} {w : World} {f : Field} {fs : List Field} {d : Nat} {xs ys : Array Value} {a b : Value} {r : Bool} (hn : f.name ≠ "_") (ha : (part f.type xs f.offset).run P w = .ok a w) (hb : (part f.type ys f.offset).run P w = .ok b w)
 (hr:(Op.equalIn d f.type a b).run P w=.ok r w):(Op.eqFields d xs ys (f::fs)).run P w=if r then (Op.eqFields d xs ys fs).run P w else .ok false w:=by
 simp only [Op.eqFields,if_pos hn,Sem.run_bind,ha,hb,hr,Result.andThen_ok]
 cases r<;>simp
theorem B8 {P:Program} {w:World} {t:TypeId} {xs:Array Value} {off:Nat} {v:Value} (ha:(isAgg t).run P w=.ok false w) (hx:xs[off]?=some v):(part t xs off).run P w=.ok v w:=by simp [part,ha,hx]
theorem W2 {e:Env} {w:World} {o:Oper} {t':Nat} {x y:Operand} {a b:Vl} (ho:o.op=.binOp .eql 100 x y t') (hx:ev e x=some a.val) (hy:ev e y=some b.val):Y prog e o w (.bool (a.same b)):=λρ h=>by
 have h1:ρ x=.agg a.cells.toArray:=h _ _ hx;have h2:ρ y=.agg b.cells.toArray:=h _ _ hy;have hg:=run_eqGuard_agg (P:=prog) w .eql 100 x y a.cells.toArray b.cells.toArray QZ
 have hrun:(Op.equalIn 10000 100 (.agg a.cells.toArray) (.agg b.cells.toArray)).run prog w=.ok (a.same b) w:=by
  rw [run_equalIn_struct w 9999 100 _ _ OV SE];have hl:(prog.fieldsOf 100).toList=(match prog.underlying 100 with|some (.struct fs)=>fs.toList|_=>[]):=by unfold Program.fieldsOf;rw [underlying100]
  rw [hl,underlying100]
  simp only
  rw [BC (a:=.int .u8 (a.kind.toNat:Int)) (b:=.int .u8 (b.kind.toNat:Int)) B3 (B8 (isAgg5 w) rfl) (B8 (isAgg5 w) rfl) (run_equalIn_int w 9998 5 _ _ _ _ underlying5),
   BC (a:=AC a.int) (b:=AC b.int) B3 (B8 (isAgg2 w) rfl) (B8 (isAgg2 w) rfl) (run_equalIn_int w 9998 2 _ _ _ _ underlying2),
   BC (a:=.bool a.bool) (b:=.bool b.bool) B3 (B8 (isAgg4 w) rfl) (B8 (isAgg4 w) rfl) (run_equalIn_bool' w 9998 4 _ _ underlying4),
   BC (a:=str a.text) (b:=str b.text) B3 (B8 (isAgg9 w) rfl) (B8 (isAgg9 w) rfl) (run_equalIn_string w 9998 9 _ _ underlying9)]
  have ht:((⟨a.text.toArray⟩:ByteArray).toList==(⟨b.text.toArray⟩:ByteArray).toList)=decide (a.text=b.text):=by
   rw [ByteArray.toList_eq,ByteArray.toList_eq]
   by_cases h:a.text=b.text<;>simp [h]
  rw [ht];simp only [Op.eqFields,Sem.run_pure];unfold Vl.same
  by_cases h1:(a.kind.toNat:Int)=b.kind.toNat<;>by_cases h2:a.int=b.int<;>by_cases h3:a.bool=b.bool<;>by_cases h4:a.text=b.text<;>simp [h1,h2,h3,h4]
 unfold execOp;simp only [ho,h1,h2,Sem.run_bind,hg,Result.andThen_ok,run_eql_struct,hrun]
 rfl
def G6 (c:UInt8):Bool:=(97≤c.toNat&&c.toNat≤122) || (65≤c.toNat&&c.toNat≤90)
def MK (c:UInt8):Bool:=(48≤c.toNat&&c.toNat≤57) || c.toNat==45 || c.toNat==95 || c.toNat==46
def J8 : Nat→List UInt8→Bool
 | _,[]=>true
 | i,c::l=>(G6 c || (MK c&&i != 0))&&J8 (i+1) l
def CG (l:List UInt8):Bool:=decide (1≤l.length)&&decide (l.length≤32)&&J8 0 l
section
structure Bd where
 name:List UInt8
 v:Vl
def Bd.cells (b:Bd):List Value:=str b.name::b.v.cells
def Bd.val (b:Bd):Value:=.agg b.cells.toArray
def dA (l:List Bd):List (List Value):=l.map Bd.cells
def TM (l:List Bd):List Value:=(dA l).flatten
theorem fW (l:List Bd):All 5 (dA l):=λr hr=>by
 obtain ⟨b,_,rfl⟩:=List.mem_map.1 hr
 rfl
theorem nW {l:List Bd} {i:Nat} {x:Bd} (h:l[i]?=some x) {j:Nat} {u:Value} (hj:x.cells[j]?=some u):(TM l)[i*5+j]?=some u:=by
 have h1:=X1 (fW l) (i:=i) (x:=x.cells) (by unfold dA;rw [List.getElem?_map,h];rfl);have hj5:j<5:=by have:=(List.getElem?_eq_some_iff.1 hj).1;exact this
 have h2:(((dA l).flatten.drop (i*5)).take 5)[j]?=x.cells[j]?:=congrArg (·[j]?) h1;rw [List.getElem?_take_of_lt hj5,List.getElem?_drop,hj] at h2
 exact h2
structure ElD (w:World) (b off:Nat) (x:Bd):Prop where
 name:Cell w.heap b (off+0) (str x.name)
 kind:Cell w.heap b (off+1+0) (.int .u8 (x.v.kind.toNat:Int))
 val:Rd w (some ⟨b,off+1,none⟩) 4 x.v.cells
 all:Rd w (some ⟨b,off,none⟩) 5 x.cells
theorem ElD.of {w:World} {b off:Nat} {x:Bd} (h:∀(j:Nat) u,x.cells[j]?=some u→w.cell? ⟨b,off+j,none⟩=some u):ElD w b off x where
 name:=Cell.of (h 0 _ rfl)
 kind:=Cell.of (h 1 _ rfl)
 val:=⟨rfl,λ_=>⟨b,off+1,rfl,λj u hu=>by rw [Nat.add_assoc,Nat.add_comm 1 j];exact h (j+1) u hu⟩⟩
 all:=⟨rfl,λ_=>⟨b,off,rfl,h⟩⟩
theorem WK {w:World} {A:Option Addr} {l:List Bd} (hr:Rd w A (l.length*5) (TM l)) {i:Nat} {x:Bd} (hx:l[i]?=some x):∃b off,A=some ⟨b,off,none⟩∧ElD w b (off+i*5) x:=by
 have hi:=(List.getElem?_eq_some_iff.1 hx).1;obtain ⟨b,off,e,hc⟩:=hr.2 AA;exact ⟨b,off,e,ElD.of λj u hu=>by rw [Nat.add_assoc];exact hc _ u (nW hx hu)⟩
theorem N5 {w:World} {g:Nat} {t:TypeId} {x:Bd} (h:Blk w g t x.cells):ElD w g 0 x:=ElD.of λj u hu=>by
 rw [Nat.zero_add];exact (h.cell j).trans hu
theorem Bd.cells_one (b:Bd):∀u∈b.cells,u.oneCell'=true:=by
 intro u hu;simp only [Bd.cells,Vl.cells,List.mem_cons,List.not_mem_nil,or_false] at hu
 rcases hu with rfl|rfl|rfl|rfl|rfl<;>rfl
def zeroBd : Bd:=⟨[],zeroVl⟩
theorem QS : (prog.info? 103).map (·.zero)=some (some zeroBd.val):=by kernel_rfl
theorem J0 : (prog.info? 103).map (·.size)=some 5:=by kernel_rfl
def ZW : List Bd→List UInt8→Option Vl
 | [],_=>none
 | x::r,k=>if x.name=k then some x.v else ZW r k
section
variable {P:Program} {e:Env} {w:World} {n:Nat}
theorem B1 {fn:Func} {R:Ending→World→Prop} {t ty g m u:Nat} {v:Value} {d:TypeDesc} {xs:List Value} (hr:fn.results = #[.cell t ty,.tmp u]) (hv:e.get t=some (pg g)) (hrd:Rd w (some ⟨g,0,none⟩) m xs) (hu:P.underlying ty=some d) (hd:d.isRow=true) (hi:(P.info? ty).map (·.size)=some m)
 (hv':e.get u=some v) (h:R (.returned (.tuple #[.agg xs.toArray,v])) w):QX (bodyPost P fn R) .ret n e w:=.mk λa ha=>by
 have hc:w.rangeAt g 0 xs:=λj v hv=>by
  have hj:0<m:=by have:=(List.getElem?_eq_some_iff.1 hv).1;have:=hrd.1;omega
  obtain ⟨b',off',e,hc⟩:=hrd.2 hj
  injection e with e;injection e with e1 e2 _;subst e1;subst e2
  exact hc j v hv
 have hrun:=run_loadVar_mid (P:=P) w g 0 ty xs d hc hu hd (by rw [hrd.1];exact hi)
 have:(results fn a.tmps).run P w=.ok (.tuple #[.agg xs.toArray,v]) w:=by simp [results,hr,ha.get t _ hv,ha.get u _ hv',asAddr,hrun]
 exact ⟨ha.defers,_,this,h⟩
theorem MJ {fn:Func} {R:Ending→World→Prop} {t ty g m u u2:Nat} {v v2:Value} {d:TypeDesc} {xs:List Value} (hr:fn.results = #[.cell t ty,.tmp u,.tmp u2]) (hv:e.get t=some (pg g)) (hrd:Rd w (some ⟨g,0,none⟩) m xs) (hu:P.underlying ty=some d) (hd:d.isRow=true) (hi:(P.info? ty).map (·.size)=some m)
 (hv':e.get u=some v) (hv2:e.get u2=some v2) (h:R (.returned (.tuple #[.agg xs.toArray,v,v2])) w):QX (bodyPost P fn R) .ret n e w:=.mk λa ha=>by
 have hc:w.rangeAt g 0 xs:=λj v hv=>by
  have hj:0<m:=by have:=(List.getElem?_eq_some_iff.1 hv).1;have:=hrd.1;omega
  obtain ⟨b',off',e,hc⟩:=hrd.2 hj
  injection e with e;injection e with e1 e2 _;subst e1;subst e2
  exact hc j v hv
 have hrun:=run_loadVar_mid (P:=P) w g 0 ty xs d hc hu hd (by rw [hrd.1];exact hi)
 have:(results fn a.tmps).run P w=.ok (.tuple #[.agg xs.toArray,v,v2]) w:=by simp [results,hr,ha.get t _ hv,ha.get u _ hv',ha.get u2 _ hv2,asAddr,hrun]
 exact ⟨ha.defers,_,this,h⟩
end
structure BdOk (l:List Bd):Prop where
 len:(l.length:Int)<4611686018427387904
 name:∀x∈l,(x.name.length:Int)<4611686018427387904
 text:∀x∈l,(x.v.text.length:Int)<4611686018427387904
theorem X4 {l:List Bd} {i:Nat} {x:Bd} (hx:l[i]?=some x):l.drop i=x::l.drop (i+1):=by
 have hlt:=(List.getElem?_eq_some_iff.1 hx).1;rw [List.drop_eq_getElem_cons hlt]
 congr 1
 rw [List.getElem?_eq_getElem hlt] at hx
 exact Option.some.inj hx
end
structure El where
 id:List UInt8
 nm:List UInt8
 kind:UInt8
 inn:List UInt8
 dflt:List UInt8
 att:List UInt8
 ev:UInt8
 ref:List UInt8
 key:List UInt8
 ticks:Int
 tries:Int
def El.cells (x:El):List Value:=[str x.id,str x.nm,.int .u8 (x.kind.toNat:Int),str x.inn,str x.dflt,str x.att,.int .u8 (x.ev.toNat:Int),str x.ref,str x.key,.int .i64 x.ticks,.int .i64 x.tries]
theorem El.cells_one (x:El):∀u∈x.cells,u.oneCell'=true:=CL rfl
theorem El.len (x:El):x.cells.length=11:=rfl
def zeroEl : El:=⟨[],[],0,[],[],[],0,[],[],0,0⟩
structure Fl where
 id:List UInt8
 frm:List UInt8
 tg:List UInt8
 cond:List UInt8
def Fl.cells (x:Fl):List Value:=[str x.id,str x.frm,str x.tg,str x.cond]
theorem Fl.cells_one (x:Fl):∀u∈x.cells,u.oneCell'=true:=CL rfl
theorem Fl.len (x:Fl):x.cells.length=4:=rfl
def zeroFl : Fl:=⟨[],[],[],[]⟩
theorem Bd.len (x:Bd):x.cells.length=5:=rfl
theorem Vl.len (x:Vl):x.cells.length=4:=rfl
structure Md where
 id:List UInt8
 nm:List UInt8
 vars:List Bd
 els:List El
 fls:List Fl
structure MdA where
 V:Option Addr
 vc:Nat
 E:Option Addr
 ec:Nat
 F:Option Addr
 fc:Nat
def Md.cells (m:Md) (a:MdA):List Value:=[str m.id,str m.nm,.slice a.V m.vars.length a.vc,.slice a.E m.els.length a.ec,.slice a.F m.fls.length a.fc]
structure MdIn (w:World) (m:Md) (a:MdA):Prop where
 vars:Rd w a.V (m.vars.length*5) (AD Bd.cells m.vars)
 els:Rd w a.E (m.els.length*11) (AD El.cells m.els)
 fls:Rd w a.F (m.fls.length*4) (AD Fl.cells m.fls)
theorem MdIn.fr0 {w w':World} {m:Md} {a:MdA} (h:MdIn w m a) (hf:Fr0 w w'):MdIn w' m a:=⟨h.vars.fr0 hf,h.els.fr0 hf,h.fls.fr0 hf⟩
structure ElOk (x:El):Prop where
 id:(x.id.length:Int)<4611686018427387904
 nm:(x.nm.length:Int)<4611686018427387904
 inn:(x.inn.length:Int)<4611686018427387904
 dflt:(x.dflt.length:Int)<4611686018427387904
 att:(x.att.length:Int)<4611686018427387904
 ref:(x.ref.length:Int)<4611686018427387904
 key:(x.key.length:Int)<4611686018427387904
structure FlOk (x:Fl):Prop where
 id:(x.id.length:Int)<4611686018427387904
 frm:(x.frm.length:Int)<4611686018427387904
 tg:(x.tg.length:Int)<4611686018427387904
 cond:(x.cond.length:Int)<4611686018427387904
structure MdOk (m:Md):Prop where
 id:(m.id.length:Int)<4611686018427387904
 nm:(m.nm.length:Int)<4611686018427387904
 vars:BdOk m.vars
 nels:m.els.length≤200
 nfls:m.fls.length≤400
 nvars:m.vars.length≤200
 els:∀x∈m.els,ElOk x
 fls:∀x∈m.fls,FlOk x
theorem AT : (prog.info? 95).map (·.zero)=some (some (.agg zeroEl.cells.toArray)):=by kernel_rfl
theorem AQ : (prog.info? 95).map (·.size)=some 11:=by kernel_rfl
theorem CM : (prog.info? 109).map (·.size)=some 4:=by kernel_rfl
theorem EN : (prog.info? 109).map (·.zero)=some (some (.agg zeroFl.cells.toArray)):=by kernel_rfl
theorem BN : (prog.info? 62).map (·.size)=some 5:=by kernel_rfl
theorem QW : (prog.info? 103).map (·.zero)=some (some (.agg zeroBd.cells.toArray)):=by kernel_rfl
theorem EE : (prog.info? 103).map (·.size)=some 5:=by kernel_rfl
theorem AB : (prog.info? 100).map (·.size)=some 4:=by kernel_rfl
theorem CS : (prog.info? 9).map (λi=>(i.zero,i.size))=some (some (str []),1):=by kernel_rfl
theorem D0 : (prog.info? 9).map (λi=>(i.zero,i.size,i.bytes))=some (some (str []),1,16):=by kernel_rfl
structure PredJ {α:Type} (P:Program) (f:FuncId) (cs:List Value) (av:α→Value) (l:List α) (p:Nat→α→Bool) (S:Nat→Prop) (J:Nat→World→Prop) (w:World):Prop where
 fn:∀(us:Array Value) (w:World),(callFunc f us).run P w=.ok (.enter f us) w
 call:∀(i:Nat) (x:α) (w1:World),l[i]?=some x→Fr S w w1→J i w1→Calls P f (av x::cs).toArray w1 λe w2=>e=.returned (.bool (p i x))∧J (i+1) w2∧Fr S w1 w2
 st:∀(i:Nat) (w1 w2:World),Fr0 w1 w2→J i w1→J i w2
 old:∀g,S g→g<w.heap.size
def ixJ {α:Type} (p:Nat→α→Bool):Nat→List α→Int
 | _,[] => -1
 | i,x::r=>if p i x=true then (i:Int) else ixJ p (i+1) r
def ixN {α:Type} (p:Nat→α→Bool):Nat→List α→Nat
 | i,[]=>i
 | i,x::r=>if p i x=true then i+1 else ixN p (i+1) r
theorem JT {α:Type} (p:α→Bool):∀(l:List α) (i:Nat),decide (0≤ixJ (λ_=>p) i l)=l.any p
 | [],i=>by simp [ixJ]
 | x::r,i=>by
  rw [ixJ,List.any_cons]
  by_cases h:p x=true
  ·rw [if_pos h,h];simp
  ·rw [if_neg h,JT p r (i+1)];simp [h]
theorem dS {α:Type} (p:Nat→α→Bool):∀(l:List α) (i:Nat),ixJ p i l = -1∨∃j x,ixJ p i l=((i+j:Nat):Int)∧l[j]?=some x∧p (i+j) x=true
 | [],i=>.inl rfl
 | x::r,i=>by
  by_cases h:p i x=true
  ·right;exact ⟨0,x,by rw [ixJ,if_pos h];rfl,rfl,h⟩
  ·rw [ixJ,if_neg h];rcases dS p r (i+1) with h1|⟨j,y,h1,h2,h3⟩
   ·exact .inl h1
   ·right;exact ⟨j+1,y,by rw [h1];congr 1;omega,h2,by rw [show i+(j+1)=i+1+j by omega];exact h3⟩
def ffN {α:Type} (p:Nat→α→Bool):Nat→List α→Option α
 | _,[]=>none
 | i,x::r=>if p i x=true then ffN p (i+1) r else some x
theorem WS {α:Type} (p:Nat→α→Bool):∀(l:List α) (i:Nat),(ixJ (λi x => !(p i x)) i l = -1∧ffN p i l=none)∨∃j x,ixJ (λi x => !(p i x)) i l=((i+j:Nat):Int)∧l[j]?=some x∧ffN p i l=some x
 | [],i=>.inl ⟨rfl,rfl⟩
 | x::r,i=>by
  by_cases h:p i x=true
  ·rw [ixJ,if_neg (by simp [h]),ffN,if_pos h];rcases WS p r (i+1) with h1|⟨j,y,h1,h2,h3⟩
   ·exact .inl h1
   ·right;exact ⟨j+1,y,by rw [h1];congr 1;omega,h2,h3⟩
  ·right;exact ⟨0,x,by rw [ixJ,if_pos (by simp [h])];rfl,rfl,by rw [ffN,if_neg h]⟩
theorem Mem.one {w:World} {g t:Nat} {cs:List Value} (h:Blk w g t cs):Mem w (λk=>k=g) [As.blk g t cs] w where
 fr:=Fr.refl
 ok i a hi:=by
  cases i with
  | zero=>simp only [List.getElem?_cons_zero,Option.some.injEq] at hi;subst hi;exact h
  | succ i=>simp at hi
 lt i a hi g' hg':=by
  cases i with
  | zero=>
   simp only [List.getElem?_cons_zero,Option.some.injEq] at hi;subst hi
   simp only [As.blk,List.mem_singleton] at hg';subst hg'
   exact ⟨h.lt,.inr X⟩
  | succ i=>simp at hi
 apart i j a b hi hj hne:=by
  cases i with
  | zero=>
   cases j with
   | zero=>exact absurd rfl hne
   | succ j=>simp at hj
  | succ i=>simp at hi
theorem AO : (prog.info? 112).map (·.size)=some 7:=by kernel_rfl
theorem RV {α:Type} (cells:α→List Value) (hk:∀x,(cells x).length=11) (A:Option Addr) (c:Nat) (l:List α) (hl:l.length≤4611686018427387904) (f:FuncId) (cs:List Value) (p:Nat→α→Bool) (S:Nat→Prop) (J:Nat→World→Prop) (w:World) (hP:PredJ prog f cs (λx=>.agg (cells x).toArray) l p S J w) (hR:∀w1,Fr S w w1→Rd w1 A (l.length*11) (AD cells l)) (hJ:J 0 w) :
 Calls prog 63 #[.slice A l.length c,.func (.func f) #[] cs.toArray] w λe w'=>e=.returned (AC (ixJ p 0 l))∧J (ixN p 0 l) w'∧Fr S w w':=by
 refine sx_enter (vs:=[_,_]) func63 X ntmps63 X ?_;have M:Mem w S [] w:=Mem.nil w;refine srg (AJ X (sx_seq (AE X (DF X X (AJ X (sx_block (JJ M [7,1,0] (λze zF e wr mz=>∃(i:Nat),e=(8,AC (i:Int))::ze∧zF wr∧(i≤l.length)∧(J i wr)∧(ixJ p 0 l=ixJ p i (l.drop i))∧(ixN p 0 l=ixN p i (l.drop i))∧mz=l.length-i) ⟨0,X,M,Nat.zero_le _,hJ,X,X,X⟩ ?_)))))));rintro _ w1 _ ⟨i,rfl,M,hi,hJ,hr,hn,rfl⟩;refine srg (BB X X (nq (sx_seq (AF X (λh9=>?_) (λh9=>?_)))))
 ·have h9p:=(odt h9);refine sx_skip (qx_seq (sx_seq (sx_block (AE X (AJ X (AE X (AV X X ?_)))))));obtain ⟨x,hx⟩:=BM (l:=l) (i:=i) AA;obtain ⟨b_x,o_x,hA_x⟩:=B5 (k:=11) AA (hR _ M.fr) hx;refine ya X (AN i hA_x X X X (sl X) AA) (ya X (AK X X (B6 hk (hR _ M.fr) hA_x hx) underlying95 X AQ) (cl 16 X (BJ X X X hP.fn) (hP.call i x _ hx M.fr hJ) ?_));rintro _ w9 ⟨rfl,hJ,hf9⟩;refine ⟨_,X,?_⟩;have M:Mem w S [] w9:=Mem.ofFr (M.fr.trans hf9);refine nq (AF X (λh16=>?_) (λh16=>?_))
  ·exact AE X (yb X (gnr (qx_block_ret (qx_then_ret (qx_then_ret (qx_block_ret (qx_then_ret (gr1 X ⟨by rw [hr,AZ hx,ixJ,if_pos h16],by rw [hn,AZ hx,ixN,if_pos h16];exact hJ,M.fr⟩))))))))
  ·refine sx_skip (qx_block_normal (qx_seq (sx_region (BV X X (yb X (sxl_nil (fag ⟨i+1,X,M,?_,?_,?_,?_,X⟩)))))))
   ·omega
   ·exact hJ
   ·rw [hr,AZ hx,ixJ,AM h16]
   ·rw [hn,AZ hx,ixN,AM h16]
 ·have h9p:=(odf h9);refine sx_exit (qx_then_exit (qx_then_exit (qx_block_hit (qx_seq (AE X (gnr (gr1 X ?_)))))));obtain rfl:i=l.length:=by omega
  exact ⟨by rw [hr,List.drop_length];rfl,by rw [hn,List.drop_length];exact hJ,M.fr⟩
theorem oR {α:Type} (cells:α→List Value) (hk:∀x,(cells x).length=11) (A:Option Addr) (c:Nat) (l:List α) (hl:l.length≤4611686018427387904) (f:FuncId) (cs:List Value) (p:Nat→α→Bool) (S:Nat→Prop) (J:Nat→World→Prop) (w:World) (hP:PredJ prog f cs (λx=>.agg (cells x).toArray) l p S J w) (hR:∀w1,Fr S w w1→Rd w1 A (l.length*11) (AD cells l)) (hJ:J 0 w) :
 Calls prog 130 #[.slice A l.length c,.func (.func f) #[] cs.toArray] w λe w'=>e=.returned (.bool (decide (0≤ixJ p 0 l)))∧J (ixN p 0 l) w'∧Fr S w w':=by
 refine sx_enter (vs:=[_,_]) func130 X ntmps130 X ?_;have M:Mem w S [] w:=Mem.nil w;refine srg (AJ X (AE X (yb X (cl 7 X (AG X X call63) (RV cells hk A c l hl f cs p S J _ hP hR hJ) ?_))));rintro _ w9 ⟨rfl,hJ,hf9⟩;refine ⟨_,X,?_⟩;have M:Mem w S [] w9:=Mem.ofFr hf9;exact JU X X (yb X (gnr (gr1 X ⟨X,hJ,M.fr⟩)))
theorem dW {α:Type} (cells:α→List Value) (hk:∀x,(cells x).length=4) (A:Option Addr) (c:Nat) (l:List α) (hl:l.length≤4611686018427387904) (f:FuncId) (cs:List Value) (p:Nat→α→Bool) (S:Nat→Prop) (J:Nat→World→Prop) (w:World) (hP:PredJ prog f cs (λx=>.agg (cells x).toArray) l p S J w) (hR:∀w1,Fr S w w1→Rd w1 A (l.length*4) (AD cells l)) (hJ:J 0 w) :
 Calls prog 162 #[.slice A l.length c,.func (.func f) #[] cs.toArray] w λe w'=>e=.returned (AC (ixJ p 0 l))∧J (ixN p 0 l) w'∧Fr S w w':=by
 refine sx_enter (vs:=[_,_]) func162 X ntmps162 X ?_;have M:Mem w S [] w:=Mem.nil w;refine srg (AJ X (sx_seq (AE X (DF X X (AJ X (sx_block (JJ M [7,1,0] (λze zF e wr mz=>∃(i:Nat),e=(8,AC (i:Int))::ze∧zF wr∧(i≤l.length)∧(J i wr)∧(ixJ p 0 l=ixJ p i (l.drop i))∧(ixN p 0 l=ixN p i (l.drop i))∧mz=l.length-i) ⟨0,X,M,Nat.zero_le _,hJ,X,X,X⟩ ?_)))))));rintro _ w1 _ ⟨i,rfl,M,hi,hJ,hr,hn,rfl⟩;refine srg (BB X X (nq (sx_seq (AF X (λh9=>?_) (λh9=>?_)))))
 ·have h9p:=(odt h9);refine sx_skip (qx_seq (sx_seq (sx_block (AE X (AJ X (AE X (AV X X ?_)))))));obtain ⟨x,hx⟩:=BM (l:=l) (i:=i) AA;obtain ⟨b_x,o_x,hA_x⟩:=B5 (k:=4) AA (hR _ M.fr) hx;refine ya X (AN i hA_x X X X (sl X) AA) (ya X (AK X X (B6 hk (hR _ M.fr) hA_x hx) underlying109 X CM) (cl 16 X (BJ X X X hP.fn) (hP.call i x _ hx M.fr hJ) ?_));rintro _ w9 ⟨rfl,hJ,hf9⟩;refine ⟨_,X,?_⟩;have M:Mem w S [] w9:=Mem.ofFr (M.fr.trans hf9);refine nq (AF X (λh16=>?_) (λh16=>?_))
  ·exact AE X (yb X (gnr (qx_block_ret (qx_then_ret (qx_then_ret (qx_block_ret (qx_then_ret (gr1 X ⟨by rw [hr,AZ hx,ixJ,if_pos h16],by rw [hn,AZ hx,ixN,if_pos h16];exact hJ,M.fr⟩))))))))
  ·refine sx_skip (qx_block_normal (qx_seq (sx_region (BV X X (yb X (sxl_nil (fag ⟨i+1,X,M,?_,?_,?_,?_,X⟩)))))))
   ·omega
   ·exact hJ
   ·rw [hr,AZ hx,ixJ,AM h16]
   ·rw [hn,AZ hx,ixN,AM h16]
 ·have h9p:=(odf h9);refine sx_exit (qx_then_exit (qx_then_exit (qx_block_hit (qx_seq (AE X (gnr (gr1 X ?_)))))));obtain rfl:i=l.length:=by omega
  exact ⟨by rw [hr,List.drop_length];rfl,by rw [hn,List.drop_length];exact hJ,M.fr⟩
theorem oQ {α:Type} (cells:α→List Value) (hk:∀x,(cells x).length=4) (A:Option Addr) (c:Nat) (l:List α) (hl:l.length≤4611686018427387904) (f:FuncId) (cs:List Value) (p:Nat→α→Bool) (S:Nat→Prop) (J:Nat→World→Prop) (w:World) (hP:PredJ prog f cs (λx=>.agg (cells x).toArray) l p S J w) (hR:∀w1,Fr S w w1→Rd w1 A (l.length*4) (AD cells l)) (hJ:J 0 w) :
 Calls prog 120 #[.slice A l.length c,.func (.func f) #[] cs.toArray] w λe w'=>e=.returned (.bool (decide (0≤ixJ p 0 l)))∧J (ixN p 0 l) w'∧Fr S w w':=by
 refine sx_enter (vs:=[_,_]) func120 X ntmps120 X ?_;have M:Mem w S [] w:=Mem.nil w;refine srg (AJ X (AE X (yb X (cl 7 X (AG X X call162) (dW cells hk A c l hl f cs p S J _ hP hR hJ) ?_))));rintro _ w9 ⟨rfl,hJ,hf9⟩;refine ⟨_,X,?_⟩;have M:Mem w S [] w9:=Mem.ofFr hf9;exact JU X X (yb X (gnr (gr1 X ⟨X,hJ,M.fr⟩)))
theorem RW {α:Type} (cells:α→List Value) (hk:∀x,(cells x).length=5) (A:Option Addr) (c:Nat) (l:List α) (hl:l.length≤4611686018427387904) (f:FuncId) (cs:List Value) (p:Nat→α→Bool) (S:Nat→Prop) (J:Nat→World→Prop) (w:World) (hP:PredJ prog f cs (λx=>.agg (cells x).toArray) l p S J w) (hR:∀w1,Fr S w w1→Rd w1 A (l.length*5) (AD cells l)) (hJ:J 0 w) :
 Calls prog 159 #[.slice A l.length c,.func (.func f) #[] cs.toArray] w λe w'=>e=.returned (AC (ixJ p 0 l))∧J (ixN p 0 l) w'∧Fr S w w':=by
 refine sx_enter (vs:=[_,_]) func159 X ntmps159 X ?_;have M:Mem w S [] w:=Mem.nil w;refine srg (AJ X (sx_seq (AE X (DF X X (AJ X (sx_block (JJ M [7,1,0] (λze zF e wr mz=>∃(i:Nat),e=(8,AC (i:Int))::ze∧zF wr∧(i≤l.length)∧(J i wr)∧(ixJ p 0 l=ixJ p i (l.drop i))∧(ixN p 0 l=ixN p i (l.drop i))∧mz=l.length-i) ⟨0,X,M,Nat.zero_le _,hJ,X,X,X⟩ ?_)))))));rintro _ w1 _ ⟨i,rfl,M,hi,hJ,hr,hn,rfl⟩;refine srg (BB X X (nq (sx_seq (AF X (λh9=>?_) (λh9=>?_)))))
 ·have h9p:=(odt h9);refine sx_skip (qx_seq (sx_seq (sx_block (AE X (AJ X (AE X (AV X X ?_)))))));obtain ⟨x,hx⟩:=BM (l:=l) (i:=i) AA;obtain ⟨b_x,o_x,hA_x⟩:=B5 (k:=5) AA (hR _ M.fr) hx;refine ya X (AN i hA_x X X X (sl X) AA) (ya X (AK X X (B6 hk (hR _ M.fr) hA_x hx) underlying103 X EE) (cl 16 X (BJ X X X hP.fn) (hP.call i x _ hx M.fr hJ) ?_));rintro _ w9 ⟨rfl,hJ,hf9⟩;refine ⟨_,X,?_⟩;have M:Mem w S [] w9:=Mem.ofFr (M.fr.trans hf9);refine nq (AF X (λh16=>?_) (λh16=>?_))
  ·exact AE X (yb X (gnr (qx_block_ret (qx_then_ret (qx_then_ret (qx_block_ret (qx_then_ret (gr1 X ⟨by rw [hr,AZ hx,ixJ,if_pos h16],by rw [hn,AZ hx,ixN,if_pos h16];exact hJ,M.fr⟩))))))))
  ·refine sx_skip (qx_block_normal (qx_seq (sx_region (BV X X (yb X (sxl_nil (fag ⟨i+1,X,M,?_,?_,?_,?_,X⟩)))))))
   ·omega
   ·exact hJ
   ·rw [hr,AZ hx,ixJ,AM h16]
   ·rw [hn,AZ hx,ixN,AM h16]
 ·have h9p:=(odf h9);refine sx_exit (qx_then_exit (qx_then_exit (qx_block_hit (qx_seq (AE X (gnr (gr1 X ?_)))))));obtain rfl:i=l.length:=by omega
  exact ⟨by rw [hr,List.drop_length];rfl,by rw [hn,List.drop_length];exact hJ,M.fr⟩
theorem oS {α:Type} (cells:α→List Value) (hk:∀x,(cells x).length=5) (A:Option Addr) (c:Nat) (l:List α) (hl:l.length≤4611686018427387904) (f:FuncId) (cs:List Value) (p:Nat→α→Bool) (S:Nat→Prop) (J:Nat→World→Prop) (w:World) (hP:PredJ prog f cs (λx=>.agg (cells x).toArray) l p S J w) (hR:∀w1,Fr S w w1→Rd w1 A (l.length*5) (AD cells l)) (hJ:J 0 w) :
 Calls prog 134 #[.slice A l.length c,.func (.func f) #[] cs.toArray] w λe w'=>e=.returned (.bool (decide (0≤ixJ p 0 l)))∧J (ixN p 0 l) w'∧Fr S w w':=by
 refine sx_enter (vs:=[_,_]) func134 X ntmps134 X ?_;have M:Mem w S [] w:=Mem.nil w;refine srg (AJ X (AE X (yb X (cl 7 X (AG X X call159) (RW cells hk A c l hl f cs p S J _ hP hR hJ) ?_))));rintro _ w9 ⟨rfl,hJ,hf9⟩;refine ⟨_,X,?_⟩;have M:Mem w S [] w9:=Mem.ofFr hf9;exact JU X X (yb X (gnr (gr1 X ⟨X,hJ,M.fr⟩)))
theorem tL {α:Type} (cells:α→List Value) (hk:∀x,(cells x).length=7) (A:Option Addr) (c:Nat) (l:List α) (hl:l.length≤4611686018427387904) (f:FuncId) (cs:List Value) (p:Nat→α→Bool) (S:Nat→Prop) (J:Nat→World→Prop) (w:World) (hP:PredJ prog f cs (λx=>.agg (cells x).toArray) l p S J w) (hR:∀w1,Fr S w w1→Rd w1 A (l.length*7) (AD cells l)) (hJ:J 0 w) :
 Calls prog 234 #[.slice A l.length c,.func (.func f) #[] cs.toArray] w λe w'=>e=.returned (AC (ixJ p 0 l))∧J (ixN p 0 l) w'∧Fr S w w':=by
 refine sx_enter (vs:=[_,_]) func234 X ntmps234 X ?_;have M:Mem w S [] w:=Mem.nil w;refine srg (AJ X (sx_seq (AE X (DF X X (AJ X (sx_block (JJ M [7,1,0] (λze zF e wr mz=>∃(i:Nat),e=(8,AC (i:Int))::ze∧zF wr∧(i≤l.length)∧(J i wr)∧(ixJ p 0 l=ixJ p i (l.drop i))∧(ixN p 0 l=ixN p i (l.drop i))∧mz=l.length-i) ⟨0,X,M,Nat.zero_le _,hJ,X,X,X⟩ ?_)))))));rintro _ w1 _ ⟨i,rfl,M,hi,hJ,hr,hn,rfl⟩;refine srg (BB X X (nq (sx_seq (AF X (λh9=>?_) (λh9=>?_)))))
 ·have h9p:=(odt h9);refine sx_skip (qx_seq (sx_seq (sx_block (AE X (AJ X (AE X (AV X X ?_)))))));obtain ⟨x,hx⟩:=BM (l:=l) (i:=i) AA;obtain ⟨b_x,o_x,hA_x⟩:=B5 (k:=7) AA (hR _ M.fr) hx;refine ya X (AN i hA_x X X X (sl X) AA) (ya X (AK X X (B6 hk (hR _ M.fr) hA_x hx) underlying112 X AO) (cl 16 X (BJ X X X hP.fn) (hP.call i x _ hx M.fr hJ) ?_));rintro _ w9 ⟨rfl,hJ,hf9⟩;refine ⟨_,X,?_⟩;have M:Mem w S [] w9:=Mem.ofFr (M.fr.trans hf9);refine nq (AF X (λh16=>?_) (λh16=>?_))
  ·exact AE X (yb X (gnr (qx_block_ret (qx_then_ret (qx_then_ret (qx_block_ret (qx_then_ret (gr1 X ⟨by rw [hr,AZ hx,ixJ,if_pos h16],by rw [hn,AZ hx,ixN,if_pos h16];exact hJ,M.fr⟩))))))))
  ·refine sx_skip (qx_block_normal (qx_seq (sx_region (BV X X (yb X (sxl_nil (fag ⟨i+1,X,M,?_,?_,?_,?_,X⟩)))))))
   ·omega
   ·exact hJ
   ·rw [hr,AZ hx,ixJ,AM h16]
   ·rw [hn,AZ hx,ixN,AM h16]
 ·have h9p:=(odf h9);refine sx_exit (qx_then_exit (qx_then_exit (qx_block_hit (qx_seq (AE X (gnr (gr1 X ?_)))))));obtain rfl:i=l.length:=by omega
  exact ⟨by rw [hr,List.drop_length];rfl,by rw [hn,List.drop_length];exact hJ,M.fr⟩
theorem oP {α:Type} (cells:α→List Value) (hk:∀x,(cells x).length=7) (A:Option Addr) (c:Nat) (l:List α) (hl:l.length≤4611686018427387904) (f:FuncId) (cs:List Value) (p:Nat→α→Bool) (S:Nat→Prop) (J:Nat→World→Prop) (w:World) (hP:PredJ prog f cs (λx=>.agg (cells x).toArray) l p S J w) (hR:∀w1,Fr S w w1→Rd w1 A (l.length*7) (AD cells l)) (hJ:J 0 w) :
 Calls prog 206 #[.slice A l.length c,.func (.func f) #[] cs.toArray] w λe w'=>e=.returned (.bool (decide (0≤ixJ p 0 l)))∧J (ixN p 0 l) w'∧Fr S w w':=by
 refine sx_enter (vs:=[_,_]) func206 X ntmps206 X ?_;have M:Mem w S [] w:=Mem.nil w;refine srg (AJ X (AE X (yb X (cl 7 X (AG X X call234) (tL cells hk A c l hl f cs p S J _ hP hR hJ) ?_))));rintro _ w9 ⟨rfl,hJ,hf9⟩;refine ⟨_,X,?_⟩;have M:Mem w S [] w9:=Mem.ofFr hf9;exact JU X X (yb X (gnr (gr1 X ⟨X,hJ,M.fr⟩)))
theorem Z2 (A:Option Addr) (c:Nat) (l:List (List UInt8)) (hl:l.length≤4611686018427387904) (f:FuncId) (cs:List Value) (p:Nat→(List UInt8)→Bool) (S:Nat→Prop) (J:Nat→World→Prop) (w:World) (hP:PredJ prog f cs str l p S J w) (hR:∀w1,Fr S w w1→Rd w1 A (l.length*1) (AD C0 l)) (hJ:J 0 w) :
 Calls prog 62 #[.slice A l.length c,.func (.func f) #[] cs.toArray] w λe w'=>e=.returned (AC (ixJ p 0 l))∧J (ixN p 0 l) w'∧Fr S w w':=by
 refine sx_enter (vs:=[_,_]) func62 X ntmps62 X ?_;have M:Mem w S [] w:=Mem.nil w;refine srg (AJ X (sx_seq (AE X (DF X X (AJ X (sx_block (JJ M [7,1,0] (λze zF e wr mz=>∃(i:Nat),e=(8,AC (i:Int))::ze∧zF wr∧(i≤l.length)∧(J i wr)∧(ixJ p 0 l=ixJ p i (l.drop i))∧(ixN p 0 l=ixN p i (l.drop i))∧mz=l.length-i) ⟨0,X,M,Nat.zero_le _,hJ,X,X,X⟩ ?_)))))));rintro _ w1 _ ⟨i,rfl,M,hi,hJ,hr,hn,rfl⟩;refine srg (BB X X (nq (sx_seq (AF X (λh9=>?_) (λh9=>?_)))))
 ·have h9p:=(odt h9);refine sx_skip (qx_seq (sx_seq (sx_block (AE X (AJ X (AE X (AV X X ?_)))))));obtain ⟨x,hx⟩:=BM (l:=l) (i:=i) AA;obtain ⟨b_x,o_x,hA_x⟩:=B5 (k:=1) AA (hR _ M.fr) hx;refine ya X (AN i hA_x X X X (sl X) AA) (yl X X (D9 DQ (hR _ M.fr) hA_x hx 0 X) (cl 16 X (BJ X X X hP.fn) (hP.call i x _ hx M.fr hJ) ?_));rintro _ w9 ⟨rfl,hJ,hf9⟩;refine ⟨_,X,?_⟩;have M:Mem w S [] w9:=Mem.ofFr (M.fr.trans hf9);refine nq (AF X (λh16=>?_) (λh16=>?_))
  ·exact AE X (yb X (gnr (qx_block_ret (qx_then_ret (qx_then_ret (qx_block_ret (qx_then_ret (gr1 X ⟨by rw [hr,AZ hx,ixJ,if_pos h16],by rw [hn,AZ hx,ixN,if_pos h16];exact hJ,M.fr⟩))))))))
  ·refine sx_skip (qx_block_normal (qx_seq (sx_region (BV X X (yb X (sxl_nil (fag ⟨i+1,X,M,?_,?_,?_,?_,X⟩)))))))
   ·omega
   ·exact hJ
   ·rw [hr,AZ hx,ixJ,AM h16]
   ·rw [hn,AZ hx,ixN,AM h16]
 ·have h9p:=(odf h9);refine sx_exit (qx_then_exit (qx_then_exit (qx_block_hit (qx_seq (AE X (gnr (gr1 X ?_)))))));obtain rfl:i=l.length:=by omega
  exact ⟨by rw [hr,List.drop_length];rfl,by rw [hn,List.drop_length];exact hJ,M.fr⟩
section
section
variable {P:Program} {ops:Array Oper} {Q:Exit→Act→World→Prop} {S:World→Prop} {t n f:Nat} {listed:Array Bool} {e:Env} {w:World}
theorem DC {o:Oper} {d:Nat} {v:Value} (i:Nat) (hr:Region.ready .any ops listed=[i]) (ho:ops[i]?=some o) (hw:Wn ops e o) (hd:o.dst=some d) (hn:Nat.blt d n=true) (hy:Y P e o w v) (hS:S w)
 (k:SxO P ops Q t S n f (listed.setIfInBounds i true) ((d,v)::e) w):SxO P ops Q t S n (f+1) listed e w:=
 B2 i (some d) hr ho hw hd hn (R:=λu w'=>u=v∧w'=w) (λρ hρ=>⟨v,w,.inl (hy ρ hρ),rfl,rfl⟩) λu w' ⟨h1,h2⟩=>by subst h1;subst h2;exact ⟨λ_=>hS,k⟩
theorem GL {o:Oper} {j d d':Nat} {b c:Bool} (i:Nat) (hr:Region.ready .any ops listed=[i]) (ho:ops[i]?=some o) (h:o.guard=some (j,b)) (hj:(ops[j]?).bind (·.dst)=some d) (hb:e.get d=some (.bool c)) (hne:(c==b)=false) (hd:o.dst=some d') (hn:Nat.blt d' n=true) (hS:S w)
 (k:SxO P ops Q t S n f (listed.setIfInBounds i true) ((d',undef)::e) w):SxO P ops Q t S n (f+1) listed e w:=⟨λa ha=>by
 have hw:Region.wanted o (yielded ops a.tmps)=false:=by
  simp only [Region.wanted,h,yielded,hj,ha.get d _ hb,Option.bind_some]
  cases c<;>cases b<;>simp_all
 refine ⟨λh0=>(by rw [hr] at h0;cases h0),λj' hj'=>?_⟩;rw [hr] at hj'
 obtain rfl:j'=i:=by simpa using hj'
 unfold wpOp;simp only [ho,hw,Bool.false_eq_true,if_false];rw [hd];exact ⟨λ_=>hS,k.run _ (ha.put (CO hn) _)⟩⟩
end
end
section
def cK (ops:Array Oper) (i t:Nat):Bool:=(List.range ops.size).all λj=>decide (j<t) || Region.waitsFor .any ops j i
section
variable {P:Program} {ops:Array Oper} {Q:Exit→Act→World→Prop} {S:World→Prop} {t:Nat}
theorem UH {i:Nat} {oi:Oper} {v:Value} (hi:ops[i]?=some oi) (hsel:∀(j:Nat) (o:Oper) cs b,ops[j]?=some o→o.op≠.select cs b)
 (hQ:∀c a w,Q (.panic c) (a.put oi.dst v) w→Q (.panic c) a w) (hwait:cK ops i t=true) :
 ∀(fuel:Nat) (listed:Array Bool) (a:Act) (w:World),
  (∀j oj,ops[j]?=some oj→j≠i→listed.getD j true=false→(∀e∈oj.after,Region.binds .any e=true→e.on≠i)→oi.apart ops oj=true) →
  i∈Region.ready .any ops listed→YieldsIf P ops S oi v a→S w →
  IF P ops Q t S fuel (listed.setIfInBounds i true) (a.put oi.dst v) w→IF P ops Q t S (fuel+1) listed a w:=by
 intro fuel
 induction fuel with
 | zero=>
  intro listed a w _ hr hy hS H;refine ⟨λh=>(by rw [h] at hr;cases hr),λj hj=>?_⟩
  by_cases hji:j=i
  ·subst hji;exact hy.wpOp hi hS ⟨λ_=>hS,H⟩
  ·have:=ready_mono hj hji
   rw [H.1] at this
   cases this
 | succ fuel ih=>
  intro listed a w hfree hr hy hS H;refine ⟨λh=>(by rw [h] at hr;cases hr),λj hj=>?_⟩
  by_cases hji:j=i
  ·subst hji;exact hy.wpOp hi hS ⟨λ_=>hS,H⟩
  ·have h1:=H.2 j (ready_mono hj hji);obtain ⟨hjun,oj,hoj,hall⟩:=mem_ready.1 hj
   have hnot:∀e∈oj.after,Region.binds .any e=true→e.on≠i:=λe he hb heq=>by
    have h1:=hall e he hb;have h0:=(mem_ready.1 hr).1;rw [heq,getD_both h0] at h1
    cases h1
   have hjt:j<t:=by
    have h2:=List.all_eq_true.1 hwait j (List.mem_range.2 (Array.getElem?_eq_some_iff.1 hoj).1);simp only [Bool.or_eq_true,decide_eq_true_eq] at h2
    rcases h2 with h2|h2
    ·exact h2
    ·obtain ⟨o',ho',e,he,hb,hon⟩:=Region.waitsFor_spec h2;rw [hoj] at ho'
     injection ho' with ho'
     subst ho';exact absurd hon (hnot e he hb)
   have h2:=wpOp_putIf hoj (hfree j oj hoj hji hjun hnot) (λcs b=>hsel i oi cs b hi) (λcs b=>hsel j oj cs b hoj) hQ hy h1
   have hfree':∀k ok,ops[k]?=some ok→k≠i→(listed.setIfInBounds j true).getD k true=false →
    (∀e∈ok.after,Region.binds .any e=true→e.on≠i)→oi.apart ops ok=true:=λk ok hk hki hun hno=>by
    refine hfree k ok hk hki ?_ hno
    by_cases hjk:j=k
    ·subst hjk;exact hjun
    ·rw [getD_set_ne true hjk] at hun;exact hun
   refine wpOp_mono (λa' w' h3=>⟨h3.2.1,ih (listed.setIfInBounds j true) a' w' hfree' (ready_mono hr (Ne.symm hji)) h3.1 (h3.2.1 hjt) ?_⟩) h2;rw [Array.setIfInBounds_comm _ _ hji];exact h3.2.2
variable {n f:Nat} {listed:Array Bool} {e:Env} {w:World}
theorem EG {o:Oper} {d:Nat} {v:Value} (i:Nat) (hs:Region.noSelect ops=true) (hQ:∀c (a:Act) t v w,Q (.panic c) (a.put t v) w→Q (.panic c) a w) (hwait:cK ops i t=true)
 (hf:Region.free .any ops listed i=true) (hr:(Region.ready .any ops listed).contains i=true) (ho:ops[i]?=some o) (hw:Wn ops e o) (hd:o.dst=some d) (hn:Nat.blt d n=true) (hS:S w) (hy:∀w',S w'→Y P e o w' v)
 (k:SxO P ops Q t S n f (listed.setIfInBounds i true) ((d,v)::e) w):SxO P ops Q t S n (f+1) listed e w:=⟨λa ha=>
 UH ho (Region.noSelect_spec hs) (λc a w=>hQ c a _ _ w) hwait f listed a w (Region.free_spec ho hf) (by simpa using hr) (.inl ⟨hw n a ha,λw' hw'=>hy w' hw' _ ha.eval⟩) hS (by
  rw [hd];exact k.run _ (ha.put (CO hn) v))⟩
end
end
section
theorem KL (k:List UInt8) (u v:Value):∀L,D2 (D2 L k u) k v=D2 L k v
 | []=>by simp [D2]
 | (k1,v1)::r=>by
  rw [D2,D2]
  by_cases h:k=k1
  ·rw [if_pos h,if_pos h,D2,if_pos rfl]
  ·rw [if_neg h,if_neg h,D2,if_neg h,KL k u v r]
theorem VD {k:List UInt8} {v:Value}:∀{L:List (List UInt8 × Value)},CA L k=some v→D2 L k v=L
 | [],h=>by cases h
 | (k1,v1)::r,h=>by
  rw [CA] at h
  rw [D2]
  by_cases hk:k=k1
  ·rw [if_pos hk] at h ⊢;injection h with h;rw [hk,h]
  ·rw [if_neg hk] at h ⊢;rw [VD h]
def XG (es:List MapEntry) (cl:Nat):Prop:=(∀en∈es,en.born<cl)∧∀(i j:Nat) (a b:MapEntry),es[i]?=some a→es[j]?=some b→a.born=b.born→i=j
def MpB (w:World) (g:Nat) (L:List (List UInt8 × Value)):Prop:=∃(es:Array MapEntry) (clock:Nat),w.heap[g]?=some (.map es clock)∧es.toList.map (λe=>(e.key,e.val))=L.map (λp=>(str p.1,p.2))∧XG es.toList clock
theorem MpB.mp {w:World} {g:Nat} {L:List (List UInt8 × Value)} (h:MpB w g L):Mp w g L:=by
 obtain ⟨es,cl,h1,h2,_⟩:=h;exact ⟨es,cl,h1,h2⟩
theorem MpB.keep {w w':World} {g:Nat} {L:List (List UInt8 × Value)} (hk:g<w.heap.size→w'.heap[g]?=w.heap[g]?) (h:MpB w g L):MpB w' g L:=by
 obtain ⟨es,cl,h1,h2⟩:=h;exact ⟨es,cl,(hk (Array.getElem?_eq_some_iff.1 h1).1).trans h1,h2⟩
def EntAt (w:World) (g:Nat) (L:List (List UInt8 × Value)) (k:List UInt8) (b:Nat):Prop:=∃(es:Array MapEntry) (clock i:Nat) (en:MapEntry),w.heap[g]?=some (.map es clock)∧es.toList.map (λe=>(e.key,e.val))=L.map (λp=>(str p.1,p.2))∧XG es.toList clock ∧
 es.toList[i]?=some en∧en.born=b∧∀v,D2 L k v=L.set i (k,v)
theorem EntAt.keep {w w':World} {g b:Nat} {L:List (List UInt8 × Value)} {k:List UInt8} (hk:g<w.heap.size→w'.heap[g]?=w.heap[g]?) (h:EntAt w g L k b):EntAt w' g L k b:=by
 obtain ⟨es,cl,i,en,h1,h2⟩:=h;exact ⟨es,cl,i,en,(hk (Array.getElem?_eq_some_iff.1 h1).1).trans h1,h2⟩
section
variable {P:Program} {w:World} {o:Oper}
theorem K8 {ρ:Operand→Value} {t kt el:TypeId} {mp x:Operand} {g:Nat} {k:List UInt8} {L:List (List UInt8 × Value)} {z:Value} (ho:o.op=.mapEntry t mp x) (hm:ρ mp=.map (some g)) (hi:ρ x=str k) (hu:P.underlying t=some (.map kt el)) (hd:P.underlying kt=some .string) (hz:(P.info? el).map (·.zero)=some (some z))
 (hM:MpB w g L):GB P ρ o w λu w'=>∃b:Nat,u=.tuple #[(CA L k).getD z,AC (b:Int)]∧Fr (λb=>b=g) w w'∧EntAt w' g (D2 L k ((CA L k).getD z)) k b:=by
 obtain ⟨es,clock,hb,hes,hB1,hB2⟩:=hM;obtain ⟨inf,hinf,hinz⟩:=Option.map_eq_some_iff.1 hz;have hlt:g<w.heap.size:=(Array.getElem?_eq_some_iff.1 hb).1;have hlen:es.toList.length=L.length:=by have:=congrArg List.length hes;simpa using this
 have hbits:Instr.sameBits 10000 (str k) (str k)=true:=by
  unfold str
  simp [Instr.sameBits,WG]
 have fin:∀(es':Array MapEntry) (clock' i:Nat) (en:MapEntry) (u:Value) (L':List (List UInt8 × Value)),(Instr.mapEntry t (.map (some g)) (str k)).run P w=.ok (.tuple #[u,AC (en.born:Int)]) { w with heap:=w.heap.setIfInBounds g (.map es' clock') }→u=(CA L k).getD z→L'=D2 L k ((CA L k).getD z) →
  es'.toList.map (λe=>(e.key,e.val))=L'.map (λp=>(str p.1,p.2))→XG es'.toList clock'→es'.toList[i]?=some en→(∀v,D2 L' k v=L'.set i (k,v)) →
  GB P ρ o w λu w'=>∃b:Nat,u=.tuple #[(CA L k).getD z,AC (b:Int)]∧Fr (λb=>b=g) w w'∧EntAt w' g (D2 L k ((CA L k).getD z)) k b:=λes' clock' i en u L' hrun hu' hL' hes' hB hen hput=>by
  subst hu';subst hL';refine ⟨_,{ w with heap:=w.heap.setIfInBounds g (.map es' clock') },.inl ?_,en.born,X,⟨X,X,X,by simp,λr _ hn=>by simp [Array.getElem?_setIfInBounds_ne (Ne.symm hn)]⟩,es',clock',i,en,by simp [hlt],hes',hB,hen,rfl,hput⟩;unfold execOp;simp only [ho,hm,hi,Sem.run_bind,hrun,Result.andThen_ok]
  rfl
 rcases PN k L es.toList 0 hes with ⟨a1,a2,a3⟩|⟨j,v0,a1,a2,a3,a4,a5⟩
 ·refine fin (es.push { key:=str k,val:=z,born:=clock }) (clock+1) L.length { key:=str k,val:=z,born:=clock } z (L++[(k,z)]) ?_ (by rw [a1];rfl) (by rw [a1,a3];rfl) (by simp [hes]) ⟨?_,?_⟩ (by rw [Array.toList_push,←hlen,List.getElem?_append_right (Nat.le_refl _)];simp) ?_
  ·unfold Instr.mapEntry;simp only [Sem.run_bind,run_underlying hu,Result.andThen_ok,GC hb,HJ hd,GY hd a2];have hzv:(zeroValue el).run P w=.ok z w:=by simp [zeroValue,typeInfo,hinf,hinz]
   simp only [hzv,Result.andThen_ok];unfold setObj goInt;simp only [Sem.run,hb]
   rfl
  ·intro en hen;rw [Array.toList_push,List.mem_append] at hen
   rcases hen with hen|hen
   ·have:=hB1 en hen;omega
   ·obtain rfl:=List.mem_singleton.1 hen;exact Nat.lt_succ_self _
  ·intro i j a b ha hb' hab;rw [Array.toList_push] at ha hb'
   have cs:∀(i:Nat) (a:MapEntry),(es.toList++[{ key:=str k,val:=z,born:=clock }])[i]?=some a→es.toList[i]?=some a∨(i=es.toList.length∧a.born=clock):=λi a h=>by
    rcases Nat.lt_or_ge i es.toList.length with hi'|hi'
    ·rw [List.getElem?_append_left hi'] at h;exact .inl h
    ·rw [List.getElem?_append_right hi'] at h
     have h0:i-es.toList.length=0:=by
      rcases Nat.eq_zero_or_pos (i-es.toList.length) with h0|h0
      ·exact h0
      ·rw [List.getElem?_eq_none (by simp only [List.length_cons,List.length_nil];omega)] at h;cases h
     rw [h0] at h
     simp only [List.getElem?_cons_zero,Option.some.injEq] at h
     exact .inr ⟨by omega,by rw [←h]⟩
   rcases cs i a ha with h1|⟨h1,h2⟩<;>rcases cs j b hb' with h3|⟨h3,h4⟩
   ·exact hB2 i j a b h1 h3 hab
   ·have:=hB1 a (List.mem_of_getElem? h1);omega
   ·have:=hB1 b (List.mem_of_getElem? h3);omega
   ·omega
  ·intro v;have h1:L++[(k,z)]=D2 L k z:=by rw [a3]
   rw [h1,KL,a3]
   simp
 ·rw [Nat.zero_add] at a2
  obtain ⟨en,hen⟩:∃en,es[j]?=some en:=⟨_,Array.getElem?_eq_getElem (by simp at hlen;omega)⟩
  have hen':es.toList[j]?=some en:=by simpa using hen
  have hkey:en.key=str k:=by
   have h1:=congrArg (·[j]?) hes;simp only [List.getElem?_map] at h1
   rw [hen'] at h1
   cases hL:L[j]? with
   | none=>rw [hL] at h1;cases h1
   | some p=>
    rw [hL] at h1 a4
    simp only [Option.map_some,Option.some.injEq,Prod.mk.injEq] at h1 a4
    rw [h1.1,a4]
  have hmod:(es.modify j λe=>{ e with key:=str k }).toList=es.toList:=by
   apply List.ext_getElem?
   intro i;rw [Array.toList_modify,List.getElem?_modify]
   by_cases hij:j=i
   ·subst hij;rw [hen'];simp only [if_true,Option.map_eq_map,Option.map_some,Option.some.injEq];rw [←hkey]
   ·cases es.toList[i]?<;>simp [hij]
  refine fin (es.modify j λe=>{ e with key:=str k }) clock j en v0 L ?_ (by rw [a1];rfl) (by rw [a1];exact (VD a1).symm) (by rw [hmod];exact hes) (by rw [hmod];exact ⟨hB1,hB2⟩) (by rw [hmod];exact hen') (λv=>by rw [a5]);have hold:((es[j]?).map (·.key)).getD (str k)=str k:=by rw [hen];exact hkey
  have hbn:((es[j]?).map (λx=>(x.born:Int))).getD 0=(en.born:Int):=by rw [hen];rfl
  unfold Instr.mapEntry;simp only [Sem.run_bind,run_underlying hu,Result.andThen_ok,GC hb,HJ hd,GY hd a2,hold,hbn,Instr.keyThatStays,hbits,if_true,Sem.run_pure];unfold setObj goInt;simp only [Sem.run,hb]
  rfl
theorem X3 {es:List MapEntry} {cl i:Nat} {en:MapEntry} (hB:XG es cl) (hen:es[i]?=some en):es.findIdx? (λe=>(e.born:Int)==(en.born:Int))=some i:=by
 have hi:i<es.length:=(List.getElem?_eq_some_iff.1 hen).1;rw [List.findIdx?_eq_some_iff_getElem];refine ⟨hi,?_,?_⟩
 ·have:es[i]=en:=(List.getElem?_eq_some_iff.1 hen).2
  simp [this]
 ·intro j hj;have hj':j<es.length:=by omega
  have:¬(es[j].born:Int)=(en.born:Int):=λe=>by
   have:=hB.2 j i es[j] en (List.getElem?_eq_getElem hj') hen AA
   omega
  simp [this]
theorem II {ρ:Operand→Value} {t:TypeId} {mp s x:Operand} {g b:Nat} {k:List UInt8} {v:Value} {L:List (List UInt8 × Value)} (ho:o.op=.entryStore t mp s x) (hm:ρ mp=.map (some g)) (hs:ρ s=AC (b:Int)) (hx:ρ x=v)
 (hE:EntAt w g L k b):GB P ρ o w λu w'=>u=undef∧Fr (λb=>b=g) w w'∧MpB w' g (D2 L k v):=by
 obtain ⟨es,clock,i,en,hb,hes,hB,hen,rfl,hput⟩:=hE;have hlt:g<w.heap.size:=(Array.getElem?_eq_some_iff.1 hb).1;have hlen:es.toList.length=L.length:=by have:=congrArg List.length hes;simpa using this
 have hfi:es.findIdx? (λe=>(e.born:Int)==(en.born:Int))=some i:=by
  obtain ⟨l⟩:=es
  simpa using X3 hB hen
 have hrun:(Instr.entryStore t (.map (some g)) (AC (en.born:Int)) v).run P w=.ok () { w with heap:=w.heap.setIfInBounds g (.map (es.modify i λe=>{ e with val:=v }) clock) }:=by
  unfold Instr.entryStore;simp only [Sem.run_bind,Sem.run_pure,Result.andThen_ok,GC hb,asInt,asIntOf,hfi];unfold setObj;simp only [Sem.run,hb]
 have hnew:∀q:Nat,(es.modify i λe=>{ e with val:=v }).toList[q]?=(es.toList[q]?).map (λe=>if i=q then { e with val:=v } else e):=λq=>by
  rw [Array.toList_modify,List.getElem?_modify]
  by_cases hiq:i=q
  ·simp only [hiq,if_true];cases es.toList[q]?<;>rfl
  ·simp only [if_neg hiq];cases es.toList[q]?<;>rfl
 refine ⟨undef,{ w with heap:=w.heap.setIfInBounds g (.map (es.modify i λe=>{ e with val:=v }) clock) },.inr ⟨?_,X⟩,X,⟨X,X,X,by simp,λr _ hn=>by simp [Array.getElem?_setIfInBounds_ne (Ne.symm hn)]⟩,es.modify i λe=>{ e with val:=v },clock,by simp [hlt],?_,?_,?_⟩
 ·unfold execOp;simp only [ho,hm,hs,hx,Sem.run_bind,hrun,Result.andThen_ok]
  rfl
 ·have hk:en.key=str k:=by
   have h1:=congrArg (·[i]?) hes;simp only [List.getElem?_map,hen] at h1
   have h2:=hput ((L[i]?).map (·.2) |>.getD v);have h3:=hput undef;have hi:i<L.length:=by have:=(List.getElem?_eq_some_iff.1 hen).1;omega
   have h4:CA (L.set i (k,undef)) k=some undef:=by rw [←h3,EL,if_pos rfl]
   cases hL:L[i]? with
   | none=>rw [List.getElem?_eq_getElem hi] at hL;cases hL
   | some p=>
    rw [hL] at h1
    simp only [Option.map_some,Option.some.injEq,Prod.mk.injEq] at h1
    rw [h1.1]
    have h5:∀(M:List (List UInt8 × Value)) (q:Nat) (p:List UInt8 × Value),M[q]?=some p→(∀u,D2 M k u=M.set q (k,u))→p.1=k:=by
     intro M
     induction M with
     | nil=>intro q p h;simp at h
     | cons a r ih=>
      intro q p h hu;obtain ⟨a1,a2⟩:=a
      cases q with
      | zero=>
       simp only [List.getElem?_cons_zero,Option.some.injEq] at h;subst h
       have:=hu a2
       rw [D2] at this
       by_cases hka:k=a1
       ·exact hka.symm
       ·rw [if_neg hka] at this
        simp only [List.set_cons_zero,List.cons.injEq,Prod.mk.injEq] at this
        exact this.1.1
      | succ q=>
       have h6:=hu
       have hka:¬k=a1:=λe=>by
        have:=hu undef
        rw [D2,if_pos e] at this
        simp only [List.set_cons_succ,List.cons.injEq,Prod.mk.injEq] at this
        have h7:=hu (.bool true);rw [D2,if_pos e] at h7
        simp only [List.set_cons_succ,List.cons.injEq,Prod.mk.injEq] at h7
        have h8:=this.1.2.trans h7.1.2.symm
        cases h8
       refine ih q p (by simpa using h) (λu=>?_)
       have:=hu u
       rw [D2,if_neg hka] at this
       simpa using this
    rw [h5 L i p hL hput]
  rw [hput]
  apply List.ext_getElem?
  intro q;have h1:=congrArg (·[q]?) hes;simp only [List.getElem?_map] at h1
  rw [List.getElem?_map,hnew,List.getElem?_map,List.getElem?_set]
  by_cases hiq:i=q
  ·subst hiq;have hi:i<L.length:=by have:=(List.getElem?_eq_some_iff.1 hen).1;omega
   simp [hen,hi,hk]
  ·simp only [if_neg hiq];rw [←h1]
   cases es.toList[q]?<;>rfl
 ·intro a ha;obtain ⟨q,hq⟩:=List.getElem?_of_mem ha;rw [hnew] at hq
  obtain ⟨a',ha',rfl⟩:=Option.map_eq_some_iff.1 hq
  have:=hB.1 a' (List.mem_of_getElem? ha')
  split<;>exact this
 ·intro p q a b' ha hb' hab;rw [hnew] at ha hb'
  obtain ⟨a',ha',rfl⟩:=Option.map_eq_some_iff.1 ha;obtain ⟨b'',hb'',rfl⟩:=Option.map_eq_some_iff.1 hb';refine hB.2 p q a' b'' ha' hb'' ?_;have e1:(if i=p then { a' with val:=v } else a').born=a'.born:=by split<;>rfl
  have e2:(if i=q then { b'' with val:=v } else b'').born=b''.born:=by split<;>rfl
  rw [e1,e2] at hab;exact hab
end
end
section
def ku (k:UInt8):Value:=.int .u8 (k.toNat:Int)
def HA : List (UInt8 × Value)→UInt8→Option Value
 | [],_=>none
 | (k',v)::r,k=>if k=k' then some v else HA r k
def MO : List (UInt8 × Value)→UInt8→Value→List (UInt8 × Value)
 | [],k,v=>[(k,v)]
 | (k',v')::r,k,v=>if k=k' then (k,v)::r else (k',v')::MO r k v
def MpU (w:World) (g:Nat) (L:List (UInt8 × Value)):Prop:=∃(es:Array MapEntry) (clock:Nat),w.heap[g]?=some (.map es clock)∧es.toList.map (λe=>(e.key,e.val))=L.map λp=>(ku p.1,p.2)
theorem MpU.fr {S:Nat→Prop} {w w':World} {g:Nat} {L:List (UInt8 × Value)} (h:MpU w g L) (hf:Fr S w w') (hn:¬S g):MpU w' g L:=by
 obtain ⟨es,cl,h1,h2⟩:=h;exact ⟨es,cl,(hf.block g (Array.getElem?_eq_some_iff.1 h1).1 hn).trans h1,h2⟩
theorem fV (a b:UInt8):Instr.sameNow (.int .u8) (ku a) (ku b)=some (decide (a=b)):=by
 unfold ku;simp only [Instr.sameNow,if_true]
 congr 1
 by_cases h:a=b
 ·subst h;simp
 ·rw [decide_eq_false h];simp only [beq_eq_false_iff_ne,ne_eq,Int.natCast_inj];exact λhh=>h (UInt8.toNat_inj.1 hh)
section
variable {P:Program} {e:Env} {w:World} {o:Oper}
theorem QH (k:UInt8):∀(L:List (UInt8 × Value)) (es:List MapEntry) (i:Nat),es.map (λe=>(e.key,e.val))=L.map (λp=>(ku p.1,p.2)) →
 (HA L k=none∧Instr.findNow (.int .u8) (ku k) es i=some none∧MO L k=λv=>L++[(k,v)]) ∨
 ∃j v,HA L k=some v∧Instr.findNow (.int .u8) (ku k) es i=some (some (i+j,v))∧j<L.length∧(L[j]?).map (·.1)=some k∧MO L k=λv=>L.set j (k,v)
 | [],es,i,h=>by
  obtain rfl:es=[]:=by simpa using h
  exact .inl ⟨X,X,by funext v;rfl⟩
 | (k',v')::L,[],i,h=>by simp at h
 | (k',v')::L,en::es,i,h=>by
  simp only [List.map_cons,List.cons.injEq,Prod.mk.injEq] at h
  obtain ⟨⟨h1,h2⟩,h3⟩:=h;have hc:Instr.findNow (.int .u8) (ku k) (en::es) i=match Instr.sameNow (.int .u8) (ku k) en.key with|some true=>some (some (i,en.val))|some false=>Instr.findNow (.int .u8) (ku k) es (i+1)|none=>none:=X
  rw [h1,fV] at hc
  by_cases hk:k=k'
  ·subst hk
   right
   refine ⟨0,v',by simp [HA],?_,by simp,by simp,by funext v;simp [MO]⟩;rw [hc];simp [h2]
  ·rcases QH k L es (i+1) h3 with ⟨a1,a2,a3⟩|⟨j,v,a1,a2,a3,a4,a5⟩
   ·left
    refine ⟨by simp [HA,hk,a1],?_,by funext v;simp [MO,hk,a3]⟩;rw [hc];simp [hk,a2]
   ·right
    refine ⟨j+1,v,by simp [HA,hk,a1],?_,by simp;omega,by simpa using a4,by funext v;simp [MO,hk,a5]⟩;rw [hc];simp [hk,a2];omega
theorem IS {kt:TypeId} {k:UInt8} {es:List MapEntry} {r:Option (Nat × Value)} (hd:P.underlying kt=some (.int .u8)) (hf:Instr.findNow (.int .u8) (ku k) es 0=some r) (w:World):(Instr.findKey kt (ku k) es).run P w=.ok r w:=by
 unfold Instr.findKey
 simp [run_underlying hd,hf]
theorem K3 {kt:TypeId} (hd:P.underlying kt=some (.int .u8)) (k:UInt8) (b:Bool) (w:World):(Instr.checkKey b 10000 kt (ku k)).run P w=.ok () w:=by
 show (Instr.checkKey b (9999+1) kt _).run P w=_
 unfold Instr.checkKey
 simp [run_underlying hd]
theorem sP (w:World):MpU (w.alloc (.map #[] 0)) w.heap.size []:=⟨#[],0,by show (w.heap.push (.map #[] 0))[w.heap.size]?=_;simp,rfl⟩
theorem bO {ρ:Operand→Value} {t:TypeId} (ho:o.op=.makeMap t none):GB P ρ o w λv w'=>∃g,v=.map (some g)∧w.heap.size≤g∧g<w'.heap.size∧MpU w' g []∧Fr0 w w':=
 (TS ho).mono λv w' ⟨h1,h2⟩=>by
  subst h2;exact ⟨w.heap.size,h1,Nat.le_refl _,by simp,sP w,Fr.refl.alloc _⟩
theorem US {t kt el:TypeId} {x i:Operand} {ok:Bool} {g:Nat} {k:UInt8} {L:List (UInt8 × Value)} {z:Value} (ho:o.op=.lookup t x i ok) (hx:ev e x=some (.map (some g))) (hi:ev e i=some (ku k)) (hu:P.underlying t=some (.map kt el)) (hd:P.underlying kt=some (.int .u8))
 (hz:(P.info? el).map (·.zero)=some (some z)) (hM:MpU w g L):Y P e o w (if ok then .tuple #[(HA L k).getD z,.bool (HA L k).isSome] else (HA L k).getD z):=λρ h=>by
 obtain ⟨es,clock,hb,hes⟩:=hM;obtain ⟨inf,hinf,hinz⟩:=Option.map_eq_some_iff.1 hz;have h1:ρ x=.map (some g):=h _ _ hx;have h2:ρ i=ku k:=h _ _ hi;unfold execOp;simp only [ho,h1,h2];unfold Instr.lookup;simp only [Sem.run_bind,run_underlying hu,Result.andThen_ok,Sem.run_pure,GC hb,K3 hd];rcases QH k L es.toList 0 hes with ⟨a1,a2,_⟩|⟨j,v,a1,a2,_,_,_⟩
 ·simp only [IS hd a2,a1]
  cases ok<;>simp [zeroValue,typeInfo,hinf,hinz]
 ·simp only [IS hd a2,a1]
  cases ok<;>simp
theorem X5 {ρ:Operand→Value} {t kt el:TypeId} {mp i x:Operand} {g:Nat} {k:UInt8} {v:Value} {L:List (UInt8 × Value)} (ho:o.op=.mapUpdate t mp i x∨o.op=.insert t mp i x) (hm:ρ mp=.map (some g)) (hi:ρ i=ku k) (hx:ρ x=v) (hu:P.underlying t=some (.map kt el)) (hd:P.underlying kt=some (.int .u8))
 (hM:MpU w g L):GB P ρ o w λu w'=>u=undef∧Fr (λb=>b=g) w w'∧MpU w' g (MO L k v):=by
 obtain ⟨es,clock,hb,hes⟩:=hM;have hlt:g<w.heap.size:=(Array.getElem?_eq_some_iff.1 hb).1
 have fin:∀(es':Array MapEntry) (clock':Nat),(Instr.mapUpdate t (.map (some g)) (ku k) v).run P w=.ok () { w with heap:=w.heap.setIfInBounds g (.map es' clock') }→es'.toList.map (λe=>(e.key,e.val))=(MO L k v).map (λp=>(ku p.1,p.2)) →
  GB P ρ o w λu w'=>u=undef∧Fr (λb=>b=g) w w'∧MpU w' g (MO L k v):=λes' clock' hrun hes'=>by
  refine ⟨undef,{ w with heap:=w.heap.setIfInBounds g (.map es' clock') },.inr ⟨?_,X⟩,X,⟨X,X,X,by simp,λr _ hn=>by simp [Array.getElem?_setIfInBounds_ne (Ne.symm hn)]⟩,es',clock',by simp [hlt],hes'⟩;rcases ho with ho|ho<;>(unfold execOp;simp only [ho,hm,hi,hx,Sem.run_bind,hrun,Result.andThen_ok];rfl)
 have hbits:Instr.sameBits 10000 (ku k) (ku k)=true:=by
  unfold ku
  simp [Instr.sameBits]
 rcases QH k L es.toList 0 hes with ⟨a1,a2,a3⟩|⟨j,v0,a1,a2,a3,a4,a5⟩
 ·refine fin (es.push { key:=ku k,val:=v,born:=clock }) (clock+1) ?_ (by rw [a3];simp [hes]);unfold Instr.mapUpdate;simp only [Sem.run_bind,run_underlying hu,Result.andThen_ok,GC hb,K3 hd,IS hd a2];unfold setObj;simp only [Sem.run,hb]
 ·rw [Nat.zero_add] at a2
  have hlen:es.toList.length=L.length:=by have:=congrArg List.length hes;simpa using this
  obtain ⟨en,hen⟩:∃en,es[j]?=some en:=⟨_,Array.getElem?_eq_getElem (by simp at hlen;omega)⟩
  have hkey:en.key=ku k:=by
   have h1:=congrArg (·[j]?) hes;simp only [List.getElem?_map] at h1
   have h2:es.toList[j]?=some en:=by simpa using hen
   rw [h2] at h1
   cases hL:L[j]? with
   | none=>rw [hL] at h1;cases h1
   | some p=>
    rw [hL] at h1 a4
    simp only [Option.map_some,Option.some.injEq,Prod.mk.injEq] at h1 a4
    rw [h1.1,a4]
  refine fin (es.modify j λe=>{ e with key:=ku k,val:=v }) clock ?_ ?_
  ·have hold:((es[j]?).map (·.key)).getD (ku k)=ku k:=by rw [hen];exact hkey
   unfold Instr.mapUpdate;simp only [Sem.run_bind,run_underlying hu,Result.andThen_ok,GC hb,K3 hd,IS hd a2,hold,Instr.keyThatStays,hbits,if_true,Sem.run_pure];unfold setObj;simp only [Sem.run,hb]
  ·rw [a5]
   apply List.ext_getElem?
   intro i;have h1:=congrArg (·[i]?) hes;simp only [List.getElem?_map] at h1
   rw [Array.toList_modify,List.getElem?_map,List.getElem?_modify,List.getElem?_map,List.getElem?_set]
   by_cases hij:j=i
   ·subst hij
    simp [hen,a3]
   ·simp [hij]
    simpa using h1
theorem X6 {ρ:Operand→Value} {t kt el:TypeId} {mp i x:Operand} {g:Nat} {k:UInt8} {v:Value} {L:List (UInt8 × Value)} (ho:o.op=.insert t mp i x) (hm:ρ mp=.map (some g)) (hi:ρ i=ku k) (hx:ρ x=v) (hu:P.underlying t=some (.map kt el)) (hd:P.underlying kt=some (.int .u8))
 (hM:MpU w g L):GB P ρ o w λu w'=>u=undef∧Fr (λb=>b=g) w w'∧MpU w' g (MO L k v):=X5 (.inr ho) hm hi hx hu hd hM
end
end
end Go.Proofs.YtaheakjfkpkefaaGreatDoor
