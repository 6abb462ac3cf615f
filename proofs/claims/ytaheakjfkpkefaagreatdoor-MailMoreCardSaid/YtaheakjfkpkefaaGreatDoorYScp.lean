/- Lemmas that the last text rests on. Condition: each says its own. -/
import Derived.Sort.OwnSortedInts
import Derived.Test.YtaheakjfkpkefaaGreatDoorYMw3
import Derived.Scope
set_option maxHeartbeats 16000000
set_option maxRecDepth 100000
namespace Go.Proofs.YtaheakjfkpkefaaGreatDoor
open Go.RowKit
section
section
variable {P : Program} {Q : Exit → Act → World → Prop} {n : Nat} {e : Env} {w w0 : World} {S : Nat → Prop} {L : List As} {ops : Array Oper} {o : Oper} {rest : List Oper}
end
def As.crs (m : Md) (p : Option Addr) (er : Int) (c : CrA) (F : List Nat) : As := ⟨F, fun w => er = 0 → ∃ gc, p = some ⟨gc, 0, Option.none⟩ ∧ CourseN w m gc c F, fun h hb he => by
 obtain ⟨gc, h1, h2⟩ := hb he
 exact ⟨gc, h1, h2.keep h⟩⟩
end
section
section
variable {P : Program} {e : Env} {w : World} {o : Oper} {t t' : Nat} {a b : Int} {x y : Operand}
end
end
def q9 (b : Bool) : Int := (if b = true then 1 else 0)
def tG (x y : Int) : Int := (if (!(decide (x = x))) = true then (if (!(decide (y = y))) = true then 0 else (-1)) else (if (!(decide (y = y))) = true then 1 else (if (decide (x < y)) = true then (-1) else (if (decide (y < x)) = true then 1 else 0))))
def tH (x y : Int) : Int := (if (!(decide (x = x))) = true then (if (!(decide (y = y))) = true then 0 else (-1)) else (if (!(decide (y = y))) = true then 1 else (if (decide (x < y)) = true then (-1) else (if (decide (y < x)) = true then 1 else 0))))
def orP : List Int → Int
 | [] => 0
 | x :: r => if (!decide (x = (0 : Int))) = true then x else orP r
def sN (a b : Vl) : Int := (orP [(tG (a.kind.toNat : Int) (b.kind.toNat : Int)), (tH a.int b.int), ((q9 a.bool) - (q9 b.bool)), (Lib.compareBytes a.text b.text)])
def U4 (a b : Vl) : Bool × Int := (if ((((!decide ((a.kind.toNat : Int) = (b.kind.toNat : Int))) || (decide ((a.kind.toNat : Int) = (2 : Int)))) || (!decide ((chk a) = (0 : Int)))) || (!decide ((chk b) = (0 : Int)))) = true then (false, 90) else ((decide ((sN a b) < (0 : Int))), 0))
def tP (v : Vl) : Bool := (!decide ((v.kind.toNat : Int) = (1 : Int))) || (!decide (chk v = (0 : Int)))
def MK (l : List Vl) : Int := if l.any tP = true then 90 else 0
def OK (n : Int) (ok : Bool) : Vl × Int := (if (!ok) = true then ((⟨0, 0, false, []⟩ : Vl), 91) else ((⟨1, n, false, []⟩ : Vl), 0))
def pP (a b : Vl) : Vl × Int := (if (!decide ((MK [a, b]) = (0 : Int))) = true then ((⟨0, 0, false, []⟩ : Vl), (MK [a, b])) else (((OK ((IntKind.i64).wrap (a.int + b.int)) ((decide (((IntKind.i64).wrap (a.int + b.int)) < a.int)) == (decide (b.int < (0 : Int))))).1), (OK ((IntKind.i64).wrap (a.int + b.int)) ((decide (((IntKind.i64).wrap (a.int + b.int)) < a.int)) == (decide (b.int < (0 : Int))))).2))
def fD (a b : Vl) : Vl × Int := (if (!decide ((MK [a, b]) = (0 : Int))) = true then ((⟨0, 0, false, []⟩ : Vl), (MK [a, b])) else (((OK ((IntKind.i64).wrap (a.int - b.int)) ((decide (a.int < ((IntKind.i64).wrap (a.int - b.int)))) == (decide (b.int < (0 : Int))))).1), (OK ((IntKind.i64).wrap (a.int - b.int)) ((decide (a.int < ((IntKind.i64).wrap (a.int - b.int)))) == (decide (b.int < (0 : Int))))).2))
def PL (n : Int) : Int := (if (decide (n < (0 : Int))) = true then ((IntKind.u64).wrap (-((IntKind.u64).wrap n))) else ((IntKind.u64).wrap n))
def hiP (x y : Int) : Int := ((x.toNat * y.toNat / 18446744073709551616 : Nat) : Int)
def loP (x y : Int) : Int := ((x.toNat * y.toNat % 18446744073709551616 : Nat) : Int)
def sK (a b : Vl) : Vl × Int := (if (!decide ((MK [a, b]) = (0 : Int))) = true then ((⟨0, 0, false, []⟩ : Vl), (MK [a, b])) else (((OK ((IntKind.i64).wrap (a.int * b.int)) ((decide ((hiP (PL a.int) (PL b.int)) = (0 : Int))) && (decide ((loP (PL a.int) (PL b.int)) ≤ ((if (!((decide (a.int < (0 : Int))) == (decide (b.int < (0 : Int))))) then 9223372036854775808 else 9223372036854775807 : Nat) : Int))))).1), (OK ((IntKind.i64).wrap (a.int * b.int)) ((decide ((hiP (PL a.int) (PL b.int)) = (0 : Int))) && (decide ((loP (PL a.int) (PL b.int)) ≤ ((if (!((decide (a.int < (0 : Int))) == (decide (b.int < (0 : Int))))) then 9223372036854775808 else 9223372036854775807 : Nat) : Int))))).2))
def sM (a b : Vl) : Vl × Int := (if (!decide ((MK [a, b]) = (0 : Int))) = true then ((⟨0, 0, false, []⟩ : Vl), (MK [a, b])) else (if ((decide (b.int = (0 : Int))) || ((decide (a.int = (-9223372036854775808 : Int))) && (decide (b.int = (-1 : Int))))) = true then (((OK 0 false).1), (OK 0 false).2) else (((OK ((IntKind.i64).wrap (a.int.tdiv b.int)) true).1), (OK ((IntKind.i64).wrap (a.int.tdiv b.int)) true).2)))
def sL (a b : Vl) : Vl × Int := (if (!decide ((MK [a, b]) = (0 : Int))) = true then ((⟨0, 0, false, []⟩ : Vl), (MK [a, b])) else (if ((decide (b.int = (0 : Int))) || (decide (b.int = (-1 : Int)))) = true then (((OK 0 (!decide (b.int = (0 : Int)))).1), (OK 0 (!decide (b.int = (0 : Int)))).2) else (((OK (a.int.tmod b.int) true).1), (OK (a.int.tmod b.int) true).2)))
section
theorem MpU.keep {w w' : World} {g : Nat} {L : List (UInt8 × Value)} (h : MpU w g L) (hk : g < w.heap.size → w'.heap[g]? = w.heap[g]?) : MpU w' g L := by
 obtain ⟨es, cl, h1, h2⟩ := h
 exact ⟨es, cl, (hk (Array.getElem?_eq_some_iff.1 h1).1).trans h1, h2⟩
def As.mpU (g : Nat) (L : List (UInt8 × Value)) : As := ⟨[g], fun w => MpU w g L, fun h hb => hb.keep (h g (by simp))⟩
section
variable {P : Program} {Q : Exit → Act → World → Prop} {n : Nat} {e : Env} {w w0 : World} {S : Nat → Prop} {L : List As} {ops : Array Oper} {o : Oper} {rest : List Oper}
theorem fZ (M : Mem w0 S L w) {d t : Nat} (hw : Wn ops e o) (hd : o.dst = some d) (hn : Nat.blt d n = true) (ho : o.op = .makeMap t none)
 (k : ∀ g w', w.heap.size ≤ g → Mem w0 S (As.mpU g [] :: L) w' → SxL P ops Q n rest ((d, .map (some g)) :: e) w') : SxL P ops Q n (o :: rest) e w := by
 refine sxl_does (some d) hw hd hn (fun ρ hρ => YT ho) ?_
 rintro _ w1 ⟨g, rfl, h1, h2, hb, hf⟩
 exact k g w1 h1 (M.push hf _ hb (fun g' hg' => by simp only [As.mpU, List.mem_singleton] at hg'; subst hg'; exact ⟨h1, h2⟩))
theorem HR (M : Mem w0 S L w) (i : Nat) (hw : Wn ops e o) (hd : o.dst = none) {t kt el g : Nat} {mp ix x : Operand} {k : UInt8} {v : Value} {K : List (UInt8 × Value)} (ho : o.op = .insert t mp ix x) (hm : ev e mp = some (.map (some g))) (hx : ev e ix = some (ku k)) (hv : ev e x = some v) (hu : P.underlying t = some (.map kt el)) (hk : P.underlying kt = some (.int .u8))
 (hi : L[i]? = some (As.mpU g K)) (c : ∀ w', Mem w0 S (L.set i (As.mpU g (L6 K k v))) w' → SxL P ops Q n rest e w') : SxL P ops Q n (o :: rest) e w := by
 refine sxl_does none hw hd rfl (fun ρ hρ => V7 ho (hρ _ _ hm) (hρ _ _ hx) (hρ _ _ hv) hu hk (M.ok i _ hi : MpU w g K)) ?_
 rintro _ w1 ⟨rfl, hf, hb⟩
 exact c w1 (M.upd i hi (hf.mono fun k _ e => by simp only [As.mpU, List.mem_singleton]; exact e) (As.mpU g _) hb (fun g' hg' => .inl hg'))
end
theorem XL {P : Program} {e : Env} {w : World} {o : Oper} {t kt el : TypeId} {x i : Operand} {g : Nat} {k : UInt8} {L : List (UInt8 × Value)} {z : Value} (ho : o.op = .lookup t x i false) (hx : ev e x = some (.map (some g))) (hi : ev e i = some (ku k)) (hu : P.underlying t = some (.map kt el)) (hd : P.underlying kt = some (.int .u8))
 (hz : (P.info? el).map (·.zero) = some (some z)) (hM : MpU w g L) : Y P e o w ((IL L k).getD z) := bA ho hx hi hu hd hz hM
end
def mM (b : Bool) (er : Int) : Vl × Int := (if (!decide (er = (0 : Int))) = true then ((⟨0, 0, false, []⟩ : Vl), er) else ((⟨2, 0, b, []⟩ : Vl), 0))
def tC (a b : Vl) (want : Bool) : Vl × Int := (if (!decide ((a.kind.toNat : Int) = (b.kind.toNat : Int))) = true then ((⟨0, 0, false, []⟩ : Vl), 90) else (((mM ((Vl.same a b) == want) 0).1), (mM ((Vl.same a b) == want) 0).2))
def o7 (a b : Vl) (want : Bool) : Vl × Int := (((mM ((U4 a b).1 == want) ((U4 a b).2)).1), (mM ((U4 a b).1 == want) ((U4 a b).2)).2)
def tS (a b : Vl) : Vl × Int := (if ((!decide ((a.kind.toNat : Int) = (3 : Int))) || (!decide ((b.kind.toNat : Int) = (3 : Int)))) = true then (((pP a b).1), (pP a b).2) else (if (!decide ((chk (⟨3, 0, false, (a.text ++ b.text)⟩ : Vl)) = (0 : Int))) = true then ((⟨0, 0, false, []⟩ : Vl), 91) else ((⟨3, 0, false, (a.text ++ b.text)⟩ : Vl), 0)))
def aT : List (UInt8 × Value) := [(7, .func (.func 254) #[] #[]), (8, .func (.func 256) #[] #[]), (9, .func (.func 257) #[] #[]), (12, .func (.func 259) #[] #[]), (11, .func (.func 260) #[] #[]), (10, .func (.func 261) #[] #[]), (13, .func (.func 262) #[] #[]), (14, .func (.func 263) #[] #[]), (15, .func (.func 264) #[] #[]), (16, .func (.func 265) #[] #[]), (17, .func (.func 266) #[] #[])]
def doP (k : UInt8) (a b : Vl) : Vl × Int := if k = 7 then tC a b true else if k = 8 then tC a b false else if k = 9 then o7 a b true else if k = 12 then o7 a b false else if k = 11 then o7 b a true else if k = 10 then o7 b a false else if k = 13 then tS a b else if k = 14 then fD a b else if k = 15 then sK a b else if k = 16 then sM a b else if k = 17 then sL a b else (zeroVl, 0)
def evW (n : Xn) (vars : List Bd) (ra rb : Vl × Int) : Vl × Int := (if (decide ((n.op.toNat : Int) = (1 : Int))) = true then ((⟨n.vl.kind, n.vl.int, n.vl.bool, n.vl.text⟩ : Vl), 0) else (if (decide ((n.op.toNat : Int) = (2 : Int))) = true then (if (!(RT vars n.nm).isSome) = true then ((⟨0, 0, false, []⟩ : Vl), 100) else (if (!decide ((chk ((RT vars n.nm).getD zeroVl)) = (0 : Int))) = true then ((⟨0, 0, false, []⟩ : Vl), 1) else (((RT vars n.nm).getD zeroVl), 0))) else (if (!decide (ra.2 = (0 : Int))) = true then ((⟨0, 0, false, []⟩ : Vl), ra.2) else (if (decide ((n.op.toNat : Int) = (4 : Int))) = true then (((fD ⟨1, 0, false, []⟩ ra.1).1), (fD ⟨1, 0, false, []⟩ ra.1).2) else (if (decide ((n.op.toNat : Int) = (3 : Int))) = true then (if (decide ((n.op.toNat : Int) = (3 : Int))) = true then (if (!decide ((ra.1.kind.toNat : Int) = (2 : Int))) = true then ((⟨0, 0, false, []⟩ : Vl), 90) else (if (decide ((n.op.toNat : Int) = (3 : Int))) = true then ((⟨2, 0, (!ra.1.bool), []⟩ : Vl), 0) else (if (ra.1.bool == (decide ((n.op.toNat : Int) = (6 : Int)))) = true then (ra.1, 0) else (if (!decide (rb.2 = (0 : Int))) = true then ((⟨0, 0, false, []⟩ : Vl), rb.2) else (if (IL aT n.op).isSome = true then (((doP n.op ra.1 rb.1).1), (doP n.op ra.1 rb.1).2) else (if (!decide ((rb.1.kind.toNat : Int) = (2 : Int))) = true then ((⟨0, 0, false, []⟩ : Vl), 90) else (rb.1, 0))))))) else (if (!decide (rb.2 = (0 : Int))) = true then ((⟨0, 0, false, []⟩ : Vl), rb.2) else (if (IL aT n.op).isSome = true then (((doP n.op ra.1 rb.1).1), (doP n.op ra.1 rb.1).2) else (if (!decide ((rb.1.kind.toNat : Int) = (2 : Int))) = true then ((⟨0, 0, false, []⟩ : Vl), 90) else (rb.1, 0))))) else (if ((decide ((n.op.toNat : Int) = (5 : Int))) || (decide ((n.op.toNat : Int) = (6 : Int)))) = true then (if (!decide ((ra.1.kind.toNat : Int) = (2 : Int))) = true then ((⟨0, 0, false, []⟩ : Vl), 90) else (if (decide ((n.op.toNat : Int) = (3 : Int))) = true then ((⟨2, 0, (!ra.1.bool), []⟩ : Vl), 0) else (if (ra.1.bool == (decide ((n.op.toNat : Int) = (6 : Int)))) = true then (ra.1, 0) else (if (!decide (rb.2 = (0 : Int))) = true then ((⟨0, 0, false, []⟩ : Vl), rb.2) else (if (IL aT n.op).isSome = true then (((doP n.op ra.1 rb.1).1), (doP n.op ra.1 rb.1).2) else (if (!decide ((rb.1.kind.toNat : Int) = (2 : Int))) = true then ((⟨0, 0, false, []⟩ : Vl), 90) else (rb.1, 0))))))) else (if (!decide (rb.2 = (0 : Int))) = true then ((⟨0, 0, false, []⟩ : Vl), rb.2) else (if (IL aT n.op).isSome = true then (((doP n.op ra.1 rb.1).1), (doP n.op ra.1 rb.1).2) else (if (!decide ((rb.1.kind.toNat : Int) = (2 : Int))) = true then ((⟨0, 0, false, []⟩ : Vl), 90) else (rb.1, 0))))))))))
def evX (vars : List Bd) : Xn → Vl × Int
 | .un o a => evW (.un o a) vars (evX vars a) (zeroVl, 0)
 | .bin o a b => evW (.bin o a b) vars (evX vars a) (evX vars b)
 | .zero => evW .zero vars (zeroVl, 0) (zeroVl, 0)
 | .lit v => evW (.lit v) vars (zeroVl, 0) (zeroVl, 0)
 | .var s => evW (.var s) vars (zeroVl, 0) (zeroVl, 0)
def rkP (n : Xn) (vars : List Bd) : Vl × Int := (if (!(chkX n)) = true then ((⟨0, 0, false, []⟩ : Vl), 1) else (((evX vars n).1), (evX vars n).2))
def evB (n : Xn) (vars : List Bd) : Bool × Int := (if (!decide ((rkP n vars).2 = (0 : Int))) = true then (false, (rkP n vars).2) else (if (!decide ((((rkP n vars).1).kind.toNat : Int) = (2 : Int))) = true then (false, 90) else (((rkP n vars).1).bool, 0)))
open Go.RowKit Go.Sort
def gW (zs : List Int) : List Int := zs.mergeSort fun x y => decide (x ≤ y)
section
def p8 (c : CrA) (q : List UInt8) : Xn := match c.cnd q with
 | some s => (C8 s).1
 | none => .zero
section
variable {w : World} {m : Md} {gc : Nat} {c : CrA} {F : List Nat} (h : CourseN w m gc c F) (q : List UInt8)
include h
end
def Ar.stopd (a : Ar) : Ar := ⟨a.flow, a.order, a.rests, a.at_, true⟩
def chF (c : CrA) (vs : List Bd) : List (List UInt8) → List UInt8 → Option (List UInt8)
 | [], d => some d
 | q :: r, d => if (!(c.cnd q).isSome) = true then chF c vs r d else if (!decide ((evB (p8 c q) vs).2 = (0 : Int))) = true then none else if (evB (p8 c q) vs).1 = true then some q else chF c vs r d
def chP (c : CrA) (vs : List Bd) (x : El) : Option (List UInt8) := if (decide ((1 : Int) < (((c.outs x.id).length : Nat) : Int))) = true then chF c vs (c.outs x.id) x.dflt else some (((c.outs x.id)[0]?).getD [])
def Mo.choose (σ : Mo) (c : CrA) (vs : List Bd) (i : Nat) (a : Ar) (x : El) : Mo := match chP c vs x with
 | some q => ⟨σ.on.eraseIdx i ++ [(⟨q, ((σ.came + 1 : Nat) : Int), 0, [], false⟩ : Ar)], σ.done, σ.fired ++ [((((x.id ++ [32]) ++ a.flow) ++ [32]) ++ q)], σ.came + 1⟩
 | none => ⟨σ.on.set i a.stopd, σ.done, σ.fired, σ.came⟩
def jIx (on : List Ar) (f : List UInt8) : Int := ixJ (fun (_ : Nat) (b : Ar) => decide (b.flow = f)) 0 on
def erI (l : List Ar) (k : Int) : List Ar := l.eraseIdx k.toNat
def Mo.join (σ : Mo) (c : CrA) (x : El) : Mo := Mo.puts ⟨((gW ((c.ins x.id).map (jIx σ.on))).reverse).foldl erI σ.on, σ.done, σ.fired ++ [x.id], σ.came⟩ (c.outs x.id)
theorem pI {w : World} {g off : Nat} {u v : Value} (h1 : Cell w.heap g off u) (h2 : Cell w.heap g off v) : v = u := Option.some.inj ((h2.get w rfl).symm.trans (h1.get w rfl))
end
section
section
variable {P : Program} {Q : Exit → Act → World → Prop} {n : Nat} {e : Env} {w : World}
theorem gG {c : Code} (h : Sx P c (Exit.noGoto Q) n e w) : Sx P (Code.scope c) Q n e w := ⟨fun a ha => wp_scope_straight (h.run a ha)⟩
theorem gJ {l : Nat} (h : QX Q .normal n e w) : Sx P (Code.label l) Q n e w := ⟨fun a ha => wp_label (h.run a ha)⟩
theorem NY (h : QX Q .ret n e w) : QX (Exit.noGoto Q) .ret n e w := ⟨fun a ha => h.run a ha⟩
end
end
end Go.Proofs.YtaheakjfkpkefaaGreatDoor
