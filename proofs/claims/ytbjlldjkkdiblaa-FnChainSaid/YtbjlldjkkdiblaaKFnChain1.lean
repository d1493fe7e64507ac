/- Part 1 of the claim FnChain, merged by pack.py (this session's program) out of: the print's words, cut to what is needed; texts that gen.py printed (it runs the kit's print in place); texts of this session. -/
import Derived.Test.YtbjlldjkkdiblaaProg
import Derived.Below
import Derived.Deep.Draws
import Derived.Deep.AppendLies
import Derived.Maps.AppendAt
import Derived.OwnWalk
import Derived.Laws.BytesArg
import Derived.Laws.MakeOwn
import Derived.Laws.OwnMore
import Derived.Deep.OwnRows
import Derived.Tactics
import Derived.Lib.ConvBytes
import Derived.Laws.Slices
import Derived.WalkKit
import Derived.KernelRfl
import Derived.RowKit3
import Derived.Deep.LoopGhost
import Derived.Deep.QuietTactic
import Derived.BigQuiet
import Derived.WideLaws
import Derived.Deep.DeepCutAuto
import Derived.Deep.CutBlock
import Derived.Deep.RegionHeld3
import Derived.Laws.Rows
import Derived.Lib.AppendStr
import Derived.ArgAppend
import Derived.Laws.IdiomCopy
import Derived.OrdersHeld
import Derived.Laws.BitsLemmas
import Derived.RowKit
import Derived.Test.YtbjlldjkkdiblaaKFnChain0
namespace Go.Proofs.Ytbjlldjkkdiblaa.Sh
end Go.Proofs.Ytbjlldjkkdiblaa.Sh
namespace Go.Proofs.Ytbjlldjkkdiblaa.Sh
open Go.RowKit Go.Proofs.YtbjlldjkkdiblaaW.PrintWords Go.Proofs.YtbjlldjkkdiblaaW.PrintLast Go.Proofs.YtbjlldjkkdiblaaW.PrintMore
set_option linter.unusedVariables false
theorem BL {P : Prop} (h : P := by repeat (first | (with_reducible first | exact HB.out | apply below_alloc | apply pw_below_drewN | apply below_drew1) | exact HB.out)) : P := h
theorem BG {P : Prop} (h : P := by repeat (first | (with_reducible first | exact HB.out | apply below_alloc | apply pw_below_drewN | apply below_drew1 | refine below_set ?_ (Aside0.out (by assumption))) | exact HB.out)) : P := h
theorem AQ {P : Prop} (h : P := by (try simp only [List.map_toArray, List.map_cons, List.map_nil]); first | done | rfl | (simp only [List.length_drop, List.length_take]; rfl)) : P := h
theorem AS {P : Prop} (h : P := by first | (with_reducible assumption) | assumption) : P := h
theorem RS {P : Prop} (h : P := by first | rfl | (simp; done) | (simp [*]; done)) : P := h
/-- A call of a function value in a region that draws. -/
theorem goesF_ {P : Program} {ops : Array Oper} {Q : Exit → Act → World → Prop} {oi : Oper} {N : Option Tmp} {a : Act} {w : World} {K : Act → World → Prop} {f : FuncId} {fn : Func} {ar : Array Operand} {ts : Array TypeId} (c : Nat) (hc : a.eval (.tmp c) = .func (.func f) #[] #[]) (hf : P.funcs[f]? = some fn) (hname : (fn.name == "runtime.NumGoroutine") = false) (hb : fn.body.isSome = true) (args : Array Value)
  (hw : Region.wanted oi (yielded ops a.tmps) = true) (hN : oi.dst = N) (hop : oi.op = .call { callee := .value (.tmp c), args := ar, argTypes := ts }) (hargs : ar.map a.eval = args)
  (h : Calls P f args w fun e w' => ∃ v, e = .returned v ∧ K (a.put N v) w') : if Region.wanted oi (yielded ops a.tmps) = true then Oper.wp P oi a w K Q else K (a.put N undef) w := by
 refine call_ f args hw hN ?_ h
 have he := enters_ hf hname hb args w
 unfold execOp
 simp [hop, resolve, Deferred.ofValue, invoke, hc, hargs, he]
theorem BD {w w2 : World} {g : Nat} {o : Obj} (b : Aside0 (w.heap[g]? = some o)) (f : w.heap[g]? = some o → w2.heap[g]? = some o := by intro h_; (with_reducible repeat (first | refine blk_drewN ?_ _ | refine blk_drew ?_ | refine blk_alloc ?_ _)); exact h_) : w2.heap[g]? = some o := f b.out
section
variable {α : Type} {d : Kd α} {e n : Nat} {w w2 : World} {base g i : Nat} {ok : Nat → Prop} {v u : Value} {xs : List α} {A : Option Addr}
theorem SC (b : Aside0 (Kd.C d w A n xs)) (f : Kd.C d w A n xs → Kd.C d w2 A n xs := by intro h_; repeat (first | exact (Kd.C_below h_ HB.out) | (with_reducible refine Kd.C_alloc ?_ _) | (with_reducible refine Kd.C_drewN ?_ _) | (with_reducible refine Kd.C_drew ?_))) : Kd.C d w2 A n xs := f b.out
theorem SR (b : Aside0 (Kd.R d e w base ok v xs)) {P : Prop} (f : Kd.R d e w base ok v xs → P := by intro h_; repeat (first | exact (Kd.R_reads' h_).2.2 | (with_reducible refine Kd.C_alloc ?_ _) | (with_reducible refine Kd.C_drewN ?_ _) | (with_reducible refine Kd.C_drew ?_))) : P := f b.out
theorem RD (b : Aside0 (Kd.R d e w base ok v xs)) (f : Kd.R d e w base ok v xs → Kd.R d e w2 base ok v xs := by intro h_; (with_reducible repeat (first | apply Kd.R_alloc | apply Kd.R_drewN | apply Kd.R_drew)); exact h_) : Kd.R d e w2 base ok v xs := f b.out
theorem FR (h : Kd.R d e w base (fun k => ok k ∧ k ≠ g) v xs) : Kd.R d e (w.setCell ⟨g, i, none⟩ u) base (fun k => ok k ∧ k ≠ g) v xs := Kd.R_far h (fun _ hk => hk.2) u
theorem FM (h : Kd.R d e w base (fun k => ok k ∧ k ≠ g) v xs) : Kd.R d e w base ok v xs := Kd.R_mono h (fun _ h_ => h_.1)
end
theorem OL {A : Option Addr} {n m c c' k : Nat} (h : some k ≠ (Value.slice A n c).ownBlock) : some k ≠ (Value.slice A m c').ownBlock := by cases A <;> exact h
theorem BS {α β : Type} {f : Option α} {g : α → Option β} {r : β} (h : f.bind g = some r) : ∃ t, f = some t ∧ g t = some r := Option.bind_eq_some_iff.mp h
theorem IP {α : Type} {c : Prop} {i : Decidable c} {a b r : α} (h : @ite α c i a b = r) (hc : c := by first | rfl | decide | simp) : a = r := by rw [if_pos hc] at h; exact h
theorem IN {α : Type} {c : Prop} {i : Decidable c} {a b r : α} (h : @ite α c i a b = r) (hc : ¬ c := by first | exact Bool.false_ne_true | decide | simp) : b = r := by rw [if_neg hc] at h; exact h
def tf (m n : Nat) : Array Bool := ⟨List.replicate m true ++ List.replicate n false⟩
section
variable {P : Program} {ops : Array Oper} {Q : Exit → Act → World → Prop} {md : Region.Mode} {S : World → Prop} {ds : List Nat} {T : Bool × List (List Nat × List Nat)} {B : List Nat} {i : Nat} {N : Option Tmp} {oi : Oper} {v : Value} {fuel : Nat} {l : Array Bool} {a a' : Act} {w : World}
theorem PU (l' : Array Bool) (hi : ops[i]? = some oi) (hN : oi.dst = N) (HT : Aside0 (rtab md ops = T))
  (h : wpAnyLast P md ops Q S ds fuel l' a' w) (hc : anyT T l.toList l'.toList i = true := by kernel_rfl) (hQ : ∀ c a w, Q (.panic c) (a.put oi.dst v) w → Q (.panic c) a w := by exact fun _ _ _ h => h) (hp : Region.wanted oi (yielded ops a.tmps) = true := by rfl) (hy : ∀ w, (execOp a.eval oi).run P w = .ok (.value v) w := by intro w'; go_simp; with_reducible rfl) (ha : a.put N v = a' := by simp only [Act.put, List.setIfInBounds_toArray, List.set_cons_zero, List.set_cons_succ, i64_w, i32_w]; rfl) : wpAnyLast P md ops Q S ds (fuel + 1) l a w :=
 pure_ l' hi hN (any_of HT.out hc) hQ (Or.inl ⟨hp, hy⟩) ha h
theorem PV (l' : Array Bool) (hi : ops[i]? = some oi) (hN : oi.dst = N)
  (h : wpAnyLast P md ops Q S ds fuel l' a' w) (hc : anyB md ops l l' i = true := by kernel_rfl) (hQ : ∀ c a w, Q (.panic c) (a.put oi.dst v) w → Q (.panic c) a w := by exact fun _ _ _ h => h) (hp : Region.wanted oi (yielded ops a.tmps) = true := by rfl) (hy : ∀ w, (execOp a.eval oi).run P w = .ok (.value v) w := by intro w'; go_simp; with_reducible rfl) (ha : a.put N v = a' := by simp only [Act.put, List.setIfInBounds_toArray, List.set_cons_zero, List.set_cons_succ, i64_w, i32_w]; rfl) : wpAnyLast P md ops Q S ds (fuel + 1) l a w :=
 pure_ l' hi hN hc hQ (Or.inl ⟨hp, hy⟩) ha h
theorem PN (l' : Array Bool) (hi : ops[i]? = some oi) (hN : oi.dst = N) (HT : Aside0 (rtab md ops = T))
  (h : wpAnyLast P md ops Q S ds fuel l' a' w) (hc : anyT T l.toList l'.toList i = true := by kernel_rfl) (hQ : ∀ c a w, Q (.panic c) (a.put oi.dst undef) w → Q (.panic c) a w := by exact fun _ _ _ h => h) (hp : Region.wanted oi (yielded ops a.tmps) = false := by rfl) (ha : a.put N undef = a' := by simp only [Act.put, List.setIfInBounds_toArray, List.set_cons_zero, List.set_cons_succ, i64_w, i32_w]; rfl) : wpAnyLast P md ops Q S ds (fuel + 1) l a w :=
 pure_ l' hi hN (any_of HT.out hc) hQ (Or.inr ⟨hp, rfl⟩) ha h
theorem PT (l' : Array Bool) (hi : ops[i]? = some oi) (hN : oi.dst = N) (HT : Aside0 (rtab md ops = T)) (HW : Aside0 (waitsOk T.2 B = true)) (hS : S w)
  (h : wpAnyLast P md ops Q S ds fuel l' a' w) (hc : takeW T B ds l.toList l'.toList i = true := by kernel_rfl) (hQ : ∀ c a w, Q (.panic c) (a.put oi.dst v) w → Q (.panic c) a w := by exact fun _ _ _ h => h) (hp : Region.wanted oi (yielded ops a.tmps) = true := by rfl) (hy : ∀ w, S w → (execOp a.eval oi).run P w = .ok (.value v) w := by intro w' hs_; (try dsimp only at hs_); (repeat (have s_ := hs_.1; replace hs_ := hs_.2)); go_simp; with_reducible rfl) (ha : a.put N v = a' := by simp only [Act.put, List.setIfInBounds_toArray, List.set_cons_zero, List.set_cons_succ, i64_w, i32_w]; rfl) : wpAnyLast P md ops Q S ds (fuel + 1) l a w :=
 take_ l' hi hN (take_ofW HT.out HW.out hc) hQ (Or.inl ⟨hp, hy⟩) hS ha h
theorem PK (l' : Array Bool) (hi : ops[i]? = some oi) (hN : oi.dst = N) (hS : S w)
  (h : wpAnyLast P md ops Q S ds fuel l' a' w) (hc : takeB md ops ds l l' i = true := by kernel_rfl) (hQ : ∀ c a w, Q (.panic c) (a.put oi.dst v) w → Q (.panic c) a w := by exact fun _ _ _ h => h) (hp : Region.wanted oi (yielded ops a.tmps) = true := by rfl) (hy : ∀ w, S w → (execOp a.eval oi).run P w = .ok (.value v) w := by intro w' hs_; (try dsimp only at hs_); (repeat (have s_ := hs_.1; replace hs_ := hs_.2)); go_simp; with_reducible rfl) (ha : a.put N v = a' := by simp only [Act.put, List.setIfInBounds_toArray, List.set_cons_zero, List.set_cons_succ, i64_w, i32_w]; rfl) : wpAnyLast P md ops Q S ds (fuel + 1) l a w :=
 take_ l' hi hN hc hQ (Or.inl ⟨hp, hy⟩) hS ha h
theorem NM (N : Option Tmp) (h : wpAnyLast P md ops Q S ds fuel l a' w) (ha : a.put N v = a' := by simp only [Act.put, List.setIfInBounds_toArray, List.set_cons_zero, List.set_cons_succ, i64_w, i32_w]; rfl) : wpAnyLast P md ops Q S ds fuel l (a.put N v) w := norm_ ha h
end
theorem AsM {p : Prop} (h : p) : Aside0 p := ⟨h⟩
theorem PX {p q : Prop} (h : p) (f : p → q := by intro h_; (with_reducible repeat (first | refine blk_drewN ?_ _ | refine blk_drew ?_ | refine blk_alloc ?_ _)); exact h_) : q := f h
theorem PRx {p q : Prop} (h : p) (f : p → q := by intro h_; (with_reducible repeat (first | apply Kd.R_alloc | apply Kd.R_drewN | apply Kd.R_drew)); exact h_) : q := f h
theorem GL {P : Prop} (h : P := by rw [hg]; exact (below_size BL)) : P := h
theorem GM {P : Prop} (h : P := by rw [hg]; exact (below_size BG)) : P := h
theorem ER {P : Prop} (h : P := by first | rfl | (simp [errW_none, errW_some] <;> rfl) | (simp [*, errW_none, errW_some] <;> rfl)) : P := h
theorem DR {P : Prop} (h : P := by repeat (first | exact Drawn0.refl _ | apply Drawn0.step)) : P := h
theorem HK0 {P : Prop} (h : P := by repeat (first | (with_reducible first | exact HK.out | apply KeepBut.set_ | apply keep_drewN | apply keep_drew | apply keep_alloc) | exact HK.out)) : P := h
theorem HK1 {P : Prop} (h : P := by repeat (first | (with_reducible first | exact HK.out | apply Kept.alloc | apply Kept.drewN | apply Kept.drew) | exact HK.out)) : P := h
theorem bk2 {W : World} {g : Nat} {t : TypeId} {a0 a1 : Value} (h : W.heap[g]? = some (.cells #[a0, a1] t (0, 0))) : W.cell? ⟨g, 0, none⟩ = some a0 ∧ W.cell? ⟨g, 1, none⟩ = some a1 ∧ W.frozen? ⟨g, 0, none⟩ = false ∧ W.frozen? ⟨g, 1, none⟩ = false := ⟨(blk_cell h 0).trans rfl, (blk_cell h 1).trans rfl, blk_frozen h 0, blk_frozen h 1⟩
theorem bk3 {W : World} {g : Nat} {t : TypeId} {a0 a1 a2 : Value} (h : W.heap[g]? = some (.cells #[a0, a1, a2] t (0, 0))) : W.cell? ⟨g, 0, none⟩ = some a0 ∧ W.cell? ⟨g, 1, none⟩ = some a1 ∧ W.cell? ⟨g, 2, none⟩ = some a2 ∧ W.frozen? ⟨g, 0, none⟩ = false ∧ W.frozen? ⟨g, 1, none⟩ = false ∧ W.frozen? ⟨g, 2, none⟩ = false := ⟨(blk_cell h 0).trans rfl, (blk_cell h 1).trans rfl, (blk_cell h 2).trans rfl, blk_frozen h 0, blk_frozen h 1, blk_frozen h 2⟩
end Go.Proofs.Ytbjlldjkkdiblaa.Sh

namespace Go.Proofs.Ytbjlldjkkdiblaa.G
open Go.RowKit Go.Proofs.YtbjlldjkkdiblaaW.PrintWords Go.Proofs.YtbjlldjkkdiblaaW.PrintLast Go.Proofs.YtbjlldjkkdiblaaW.PrintMore Go.Proofs.Ytbjlldjkkdiblaa.Sh
attribute [local go_sem] max2_int min2_int max_two min_two max_three min_three max_four min_four
set_option linter.unusedVariables false
set_option linter.unusedSimpArgs false
def errW : Option Int → Value
 | none => .nilIface
 | some c => .iface 0 (.int .i64 c)
theorem errW_none : errW none = .nilIface := rfl
theorem errW_some (c : Int) : errW (some c) = .iface 0 (.int .i64 c) := rfl
theorem info9 : (Try.prog.info? 9).map (fun i => (i.zero, i.size, i.bytes)) = some (some (.string ⟨#[]⟩), 1, 16) := by kernel_rfl
theorem info49 : (Try.prog.info? 49).map (fun i => (i.zero, i.size, i.bytes)) = some (some (.agg #[(.int .i64 0), (.string ⟨#[]⟩)]), 2, 24) := by kernel_rfl
structure S49 where
 f0 : Int
 f1 : ByteArray
def z49 : S49 := ⟨(0 : Int), (⟨#[]⟩ : ByteArray)⟩
def k49 : Kd S49 := Kd.iso (Kd.pair (Kd.int .i64) Kd.string) (fun x : S49 => (x.f0, x.f1))
theorem k49_open {w : World} {x : S49} {cs : List Value} (h : k49.K w x cs) : cs = [.int .i64 x.f0, .string x.f1] := by
 obtain ⟨_, _, rfl, rfl, rfl⟩ := h
 exact rfl
theorem k49_openM {w : World} {base : Nat} {ok : Nat → Prop} {x : S49} {cs : List Value} (h : k49.M w base ok x cs) : cs = [.int .i64 x.f0, .string x.f1] := by
 obtain ⟨_, _, rfl, rfl, rfl⟩ := h
 exact rfl
theorem k49_mkM (w : World) (base : Nat) (ok : Nat → Prop) (x : S49)  : k49.M w base ok x [.int .i64 x.f0, .string x.f1] := ⟨[.int .i64 x.f0], [.string x.f1], rfl, rfl, rfl⟩
def rd_T49 (xs : List S49) (i : Int) : S49 := xs.getD i.toNat z49
theorem at_T49 {w : World} {A : Option Addr} {n : Nat} {xs : List S49} (h : Kd.C k49 w A n xs) (i : Int) (h0 : 0 ≤ i) (h1 : i < n) : ∃ ad , A = some ad ∧ w.cell? (ad.add (i.toNat * 2)) = some (.int .i64 (rd_T49 xs i).f0) ∧ w.cell? ⟨(ad.add (i.toNat * 2)).block, (ad.add (i.toNat * 2)).off + 1, none⟩ = some (.string (rd_T49 xs i).f1) := by
 obtain ⟨ad, c, e, _, hK, hc0⟩ := Kd.C_get h z49 i h0 h1
 have hc : ∀ j u, c[j]? = some u → w.cell? (ad.add (i.toNat * 2 + j)) = some u := hc0
 obtain rfl := k49_open hK
 exact ⟨ad, e, hc 0 _ rfl, by rw [← add_field _ _ 1 (by omega)]; exact hc 1 _ rfl⟩
theorem eqA49 (d : Nat) (w : World) (x0 y0 : Int) (x1 y1 : ByteArray) :
  (Op.equalIn (d + 2) 49 (.agg #[.int .i64 x0, .string x1]) (.agg #[.int .i64 y0, .string y1])).run Try.prog w = .ok (x0 == y0 && (x1.toList == y1.toList)) w := by
 refine eqA_of Try.underlying49 (by kernel_rfl) ?_
 refine eqf_cons (by rfl) (by go_simp; rfl) (by go_simp; rfl) (by go_simp) ?_
 exact eqf_last (by rfl) (by go_simp; rfl) (by go_simp; rfl) (by go_simp)
def spec_l01Num.f (a0 : Int) : Option (Bool) := if a0 ≥ 0 then (some (decide (a0 ≤ 4294967295))) else (some false)
set_option maxHeartbeats 8000000 in
set_option maxRecDepth 100000 in
theorem spec_l01Num.calls (a0 : Int) (r : Bool) (w : World) (h : spec_l01Num.f a0 = some r) :
  Calls Try.prog 82 #[.int .i64 a0] w fun e w' => e = .returned (.bool r) ∧ Drawn0 w w' := by
 have H : (if a0 ≥ 0 then (some (decide (a0 ≤ 4294967295))) else (some false)) = some r := h
 clear h
 by_cases c2 : a0 ≥ 0
 ·rw [if_pos c2] at H
  have c2b0 : decide (0 ≤ a0) = true := decide_eq_true c2
  clear c2
  obtain rfl := Option.some.inj H
  go_enter Try.func82, Try.ntmps82
  go_wp2
  go_ret
  exact ⟨by first | rfl | (simp; done) | (simp [*]; done), DR⟩
 ·rw [if_neg c2] at H
  have c2b0 : decide (0 ≤ a0) = false := decide_eq_false c2
  clear c2
  obtain rfl := Option.some.inj H
  go_enter Try.func82, Try.ntmps82
  go_wp2
  go_ret
  exact ⟨by first | rfl | (simp; done) | (simp [*]; done), DR⟩
def spec_Flip.l0 : Nat → Int → Int → Int → Option (Int)
 | 0, _, _, _ => none
 | k + 1, x0, x3, x4 => if x4 < 32 then (spec_Flip.l0 k (wrap64 (Int.tdiv x0 2)) (wrap64 ((wrap64 (x3 * 2)) + (Int.tmod x0 2))) (wrap64 (x4 + 1))) else (some x3)
def spec_Flip.f (k : Nat) (a0 : Int) : Option (Int) := (spec_l01Num.f a0).bind fun t120 => (if t120 = true then (spec_Flip.l0 k a0 0 0) else (some 0))
theorem spec_Flip.mono_l : ∀ k, (∀ y0 y1 y2, LeO (spec_Flip.l0 k y0 y1 y2) (spec_Flip.l0 (k + 1) y0 y1 y2))
 | 0 => fun _ _ _ r h => by simp [spec_Flip.l0] at h
 | k + 1 => by
  have ih0 := spec_Flip.mono_l k
  ·intro y0 y1 y2
   unfold spec_Flip.l0
   repeat' first | (with_reducible first | exact ih0 _ _ _ | exact LeO.refl _ | exact LeO.none _ | refine LeO.ite ?_ ?_ | refine LeO.bind ?_ (fun _ => ?_)) | exact ih0 _ _ _ | exact LeO.none _ | refine LeO.ite ?_ ?_ | refine LeO.bind ?_ (fun _ => ?_)
theorem spec_Flip.mono : ∀ a0 k, LeO (spec_Flip.f k a0) (spec_Flip.f (k + 1) a0) := by
 intro a0 k
 have ih0 := spec_Flip.mono_l k
 unfold spec_Flip.f
 repeat' first | (with_reducible first | exact ih0 _ _ _ | exact LeO.refl _ | exact LeO.none _ | refine LeO.ite ?_ ?_ | refine LeO.bind ?_ (fun _ => ?_)) | exact ih0 _ _ _ | exact LeO.none _ | refine LeO.ite ?_ ?_ | refine LeO.bind ?_ (fun _ => ?_)
set_option maxHeartbeats 8000000 in
set_option maxRecDepth 100000 in
theorem spec_Flip.calls (k : Nat) (a0 : Int) (r : Int) (w : World) (h : spec_Flip.f k a0 = some r) :
  Calls Try.prog 70 #[.int .i64 a0] w fun e w' => e = .returned (.int .i64 r) ∧ Drawn0 w w' := by
 have H : ((spec_l01Num.f a0).bind fun t120 => (if t120 = true then (spec_Flip.l0 k a0 0 0) else (some 0))) = some r := h
 clear h
 replace H := BS H
 obtain ⟨t120, A20, H⟩ := H
 have A2 := Aside0.mk A20
 clear A20
 by_cases c3 : t120 = true
 ·subst c3
  replace H := IP H
  have H' := Aside0.mk H
  clear H
  go_enter Try.func70, Try.ntmps70
  go_wp2_with (first | ((with_reducible refine gate_callee (f := 82) rfl ?_); refine goesL_ (some 6) rfl rfl Try.func82 (by kernel_rfl) rfl #[.int .i64 a0] rfl AQ ?_; (with_reducible refine (spec_l01Num.calls a0 true _ A2.out).mono ?_); rintro e w' ⟨rfl, ⟨nd, rfl⟩⟩; refine ⟨_, rfl, ?_⟩))
  go_loopg [0, 3, 4] k (fun kq v0 v3 v4 w' => ∃ (x0_1 : Int) (x3_1 : Int) (x4_1 : Int), v0 = .int .i64 x0_1 ∧ v3 = .int .i64 x3_1 ∧ v4 = .int .i64 x4_1 ∧ Aside0 (spec_Flip.l0 kq x0_1 x3_1 x4_1 = some r) ∧ Aside0 (kq ≤ k) ∧ Drawn0 w w')
  case atStart => exact ⟨(a0), (0), (0), RS, RS, RS, H', ⟨Nat.le_refl _⟩, DR⟩
  case round =>
   clear H'
   try clear p2
   try clear c3
   obtain ⟨x0_1, x3_1, x4_1, rfl, rfl, rfl, HA, HK1, ⟨m1, rfl⟩⟩ := hrel
   cases gk with
   | zero => exact absurd HA.out (by simp [spec_Flip.l0])
   | succ k1 =>
    have H := HA.out
    clear HA
    simp only [spec_Flip.l0] at H
    by_cases c4 : x4_1 < 32
    ·rw [if_pos c4] at H
     have c4b0 : decide (x4_1 < 32) = true := decide_eq_true c4
     clear c4
     have H' := Aside0.mk H
     clear H
     go_wp2
     go_roundg k1
     case measure => have := HK1.out; omega
     case rel => exact ⟨(wrap64 (Int.tdiv x0_1 2)), (wrap64 ((wrap64 (x3_1 * 2)) + (Int.tmod x0_1 2))), (wrap64 (x4_1 + 1)), RS, RS, RS, H', ⟨by have := HK1.out; omega⟩, DR⟩
    ·rw [if_neg c4] at H
     have c4b0 : decide (x4_1 < 32) = false := decide_eq_false c4
     clear c4
     obtain rfl := Option.some.inj H
     go_wp2
     go_ret
     exact ⟨by first | rfl | (simp; done) | (simp [*]; done), DR⟩
 ·replace c3 := Bool.eq_false_iff.mpr c3
  subst c3
  replace H := IN H
  obtain rfl := Option.some.inj H
  go_enter Try.func70, Try.ntmps70
  go_wp2_with (first | ((with_reducible refine gate_callee (f := 82) rfl ?_); refine goesL_ (some 6) rfl rfl Try.func82 (by kernel_rfl) rfl #[.int .i64 a0] rfl AQ ?_; (with_reducible refine (spec_l01Num.calls a0 false _ A2.out).mono ?_); rintro e w' ⟨rfl, ⟨nd, rfl⟩⟩; refine ⟨_, rfl, ?_⟩))
  go_ret
  exact ⟨by first | rfl | (simp; done) | (simp [*]; done), DR⟩
def spec_DummyKey.f (k : Nat) (a0 : Int) : Option (Int) := (spec_Flip.f k a0).bind fun t121 => (some (wrap64 ((wrap64 (Int.tdiv t121 2)) * 2)))
theorem spec_DummyKey.mono : ∀ a0 k, LeO (spec_DummyKey.f k a0) (spec_DummyKey.f (k + 1) a0) := by
 intro a0 k
 unfold spec_DummyKey.f
 repeat' first | (with_reducible first | exact spec_Flip.mono _ _ | exact LeO.refl _ | exact LeO.none _ | refine LeO.ite ?_ ?_ | refine LeO.bind ?_ (fun _ => ?_)) | exact spec_Flip.mono _ _ | exact LeO.none _ | refine LeO.ite ?_ ?_ | refine LeO.bind ?_ (fun _ => ?_)
set_option maxHeartbeats 8000000 in
set_option maxRecDepth 100000 in
theorem spec_DummyKey.calls (k : Nat) (a0 : Int) (r : Int) (w : World) (h : spec_DummyKey.f k a0 = some r) :
  Calls Try.prog 69 #[.int .i64 a0] w fun e w' => e = .returned (.int .i64 r) ∧ Drawn0 w w' := by
 have H : ((spec_Flip.f k a0).bind fun t121 => (some (wrap64 ((wrap64 (Int.tdiv t121 2)) * 2)))) = some r := h
 clear h
 replace H := BS H
 obtain ⟨t121, A20, H⟩ := H
 have A2 := Aside0.mk A20
 clear A20
 obtain rfl := Option.some.inj H
 go_enter Try.func69, Try.ntmps69
 go_wp2_with (first | ((with_reducible refine gate_callee (f := 70) rfl ?_); refine goesL_ (some 4) rfl rfl Try.func70 (by kernel_rfl) rfl #[.int .i64 a0] rfl AQ ?_; (with_reducible refine (spec_Flip.calls k a0 t121 _ A2.out).mono ?_); rintro e w' ⟨rfl, ⟨nd, rfl⟩⟩; refine ⟨_, rfl, ?_⟩))
 go_ret
 exact ⟨by first | rfl | (simp; done) | (simp [*]; done), DR⟩
def spec_l19Dummy.f (k : Nat) (a0 : Int) : Option (Int × ByteArray) := (spec_DummyKey.f k a0).bind fun t123 => (some (t123, (⟨#[]⟩ : ByteArray)))
theorem spec_l19Dummy.mono : ∀ a0 k, LeO (spec_l19Dummy.f k a0) (spec_l19Dummy.f (k + 1) a0) := by
 intro a0 k
 unfold spec_l19Dummy.f
 repeat' first | (with_reducible first | exact spec_DummyKey.mono _ _ | exact LeO.refl _ | exact LeO.none _ | refine LeO.ite ?_ ?_ | refine LeO.bind ?_ (fun _ => ?_)) | exact spec_DummyKey.mono _ _ | exact LeO.none _ | refine LeO.ite ?_ ?_ | refine LeO.bind ?_ (fun _ => ?_)
set_option maxHeartbeats 8000000 in
set_option maxRecDepth 100000 in
theorem spec_l19Dummy.calls (k : Nat) (a0 : Int) (r1 : Int) (r2 : ByteArray) (w : World) (h : spec_l19Dummy.f k a0 = some (r1, r2)) :
  Calls Try.prog 55 #[.int .i64 a0] w fun e w' => e = .returned (.agg #[.int .i64 r1, .string r2]) ∧ Below w.heap.size w w' := by
 have hu49 := Try.underlying49
 have HB := Aside0.mk (Below.refl w.heap.size w)
 have H : ((spec_DummyKey.f k a0).bind fun t123 => (some (t123, (⟨#[]⟩ : ByteArray)))) = some (r1, r2) := h
 clear h
 replace H := BS H
 obtain ⟨t123, A20, H⟩ := H
 have A2 := Aside0.mk A20
 clear A20
 simp only [Option.some.injEq, Prod.mk.injEq] at H
 obtain ⟨rfl, rfl⟩ := H
 go_enter Try.func55, Try.ntmps55
 go_wp2_with (first | ((with_reducible refine gate_dst (N := 2) rfl ?_); refine box_event ?hg (N := 2) ?hd (cs := #[.int .i64 0, .string (⟨#[]⟩ : ByteArray)]) (t := 49) ?hr ?_; (case hd => rfl); (case hg => rfl); (case hr => first | (go_simp; done) | (go_simp; rfl)); intro gb122 hg w3 hbox hb; have n_ : _ ∧ _ ∧ _ ∧ _ := ⟨AsM (below_step BL hb), AsM (hbox), AsM ((GL : w.heap.size ≤ gb122)), AsM ((GL : w.heap.size ≤ gb122))⟩; clear HB; obtain ⟨HB, BK122, GW122, GE122⟩ := n_; clear hb hbox hg) | ((with_reducible refine gate_callee (f := 69) rfl ?_); refine goesL_ (some 4) rfl rfl Try.func69 (by kernel_rfl) rfl #[.int .i64 a0] rfl AQ ?_; (with_reducible refine (spec_DummyKey.calls k a0 t123 _ A2.out).mono ?_); rintro e w' ⟨rfl, ⟨nd, rfl⟩⟩; refine ⟨_, rfl, ?_⟩; (try (rw [drewN_self w3]; generalize hq_ : World.drewN w3 _ = w3; have n0_ : Aside0 (w3.heap[gb122]? = some (.cells #[.int .i64 0, .string (⟨#[]⟩ : ByteArray)] 49 (0, 0))) := ⟨by rw [← hq_]; exact (BD BK122)⟩; have n1_ : Aside0 (Below w.heap.size w w3) := ⟨by rw [← hq_]; exact BG⟩; clear BK122 HB hq_; have BK122 := n0_; have HB := n1_; clear n0_ n1_)); obtain ⟨hcz4_0, hcz4_1, hfz4_0, hfz4_1⟩ := bk2 BK122.out))
 refine bodyPost_ret (results_cell_row rfl _ _ gb122 49 #[.int .i64 t123, .string (⟨#[]⟩ : ByteArray)] (0, 0) _ rfl (by refine PX ?_; refine blk_put (cs := #[.int .i64 t123, .string (⟨#[]⟩ : ByteArray)]) ?_ 1 _ rfl; refine PX ?_; refine blk_put (cs := #[.int .i64 0, .string (⟨#[]⟩ : ByteArray)]) ?_ 0 _ rfl; exact BD BK122) Try.underlying49 rfl (by kernel_rfl)) rfl ?_
 exact ⟨ER, BG⟩
def spec_l19Size.l0 : Nat → Int → Int → Option (Bool)
 | 0, _, _ => none
 | k + 1, x0, x3 => if x3 ≤ 64 then (if x0 = x3 then (some true) else (spec_l19Size.l0 k x0 (wrap64 (x3 * 2)))) else (some false)
def spec_l19Size.f (k : Nat) (a0 : Int) : Option (Bool) := spec_l19Size.l0 k a0 1
theorem spec_l19Size.mono_l : ∀ k, (∀ y0 y1, LeO (spec_l19Size.l0 k y0 y1) (spec_l19Size.l0 (k + 1) y0 y1))
 | 0 => fun _ _ r h => by simp [spec_l19Size.l0] at h
 | k + 1 => by
  have ih0 := spec_l19Size.mono_l k
  ·intro y0 y1
   unfold spec_l19Size.l0
   repeat' first | (with_reducible first | exact ih0 _ _ | exact LeO.refl _ | exact LeO.none _ | refine LeO.ite ?_ ?_ | refine LeO.bind ?_ (fun _ => ?_)) | exact ih0 _ _ | exact LeO.none _ | refine LeO.ite ?_ ?_ | refine LeO.bind ?_ (fun _ => ?_)
theorem spec_l19Size.mono : ∀ a0 k, LeO (spec_l19Size.f k a0) (spec_l19Size.f (k + 1) a0) := by
 intro a0 k
 have ih0 := spec_l19Size.mono_l k
 unfold spec_l19Size.f
 repeat' first | (with_reducible first | exact ih0 _ _ | exact LeO.refl _ | exact LeO.none _ | refine LeO.ite ?_ ?_ | refine LeO.bind ?_ (fun _ => ?_)) | exact ih0 _ _ | exact LeO.none _ | refine LeO.ite ?_ ?_ | refine LeO.bind ?_ (fun _ => ?_)
set_option maxHeartbeats 8000000 in
set_option maxRecDepth 100000 in
theorem spec_l19Size.calls (k : Nat) (a0 : Int) (r : Bool) (w : World) (h : spec_l19Size.f k a0 = some r) :
  Calls Try.prog 53 #[.int .i64 a0] w fun e w' => e = .returned (.bool r) ∧ Drawn0 w w' := by
 have H : (spec_l19Size.l0 k a0 1) = some r := h
 clear h
 have H' := Aside0.mk H
 clear H
 go_enter Try.func53, Try.ntmps53
 go_wp2
 go_loopg [3] k (fun kq v3 w' => ∃ (x3_1 : Int), v3 = .int .i64 x3_1 ∧ Aside0 (spec_l19Size.l0 kq a0 x3_1 = some r) ∧ Aside0 (kq ≤ k) ∧ Drawn0 w w')
 case atStart => exact ⟨(1), RS, H', ⟨Nat.le_refl _⟩, DR⟩
 case round =>
  clear H'
  obtain ⟨x3_1, rfl, HA, HK1, ⟨m1, rfl⟩⟩ := hrel
  cases gk with
  | zero => exact absurd HA.out (by simp [spec_l19Size.l0])
  | succ k1 =>
   have H := HA.out
   clear HA
   simp only [spec_l19Size.l0] at H
   by_cases c2 : x3_1 ≤ 64
   ·rw [if_pos c2] at H
    have c2b0 : decide (x3_1 ≤ 64) = true := decide_eq_true c2
    clear c2
    by_cases c3 : a0 = x3_1
    ·rw [if_pos c3] at H
     have c3b0 : (a0 == x3_1) = true := beq_iff_eq.mpr c3
     have c3b1 : (a0 != x3_1) = false := bne_eq_false_iff_eq.mpr c3
     clear c3
     obtain rfl := Option.some.inj H
     go_wp2
     go_ret
     exact ⟨by first | rfl | (simp; done) | (simp [*]; done), DR⟩
    ·rw [if_neg c3] at H
     have c3b0 : (a0 == x3_1) = false := beq_eq_false_iff_ne.mpr c3
     have c3b1 : (a0 != x3_1) = true := bne_iff_ne.mpr c3
     have H' := Aside0.mk H
     clear H
     go_wp2
     go_roundg k1
     case measure => have := HK1.out; omega
     case rel => exact ⟨(wrap64 (x3_1 * 2)), RS, H', ⟨by have := HK1.out; omega⟩, DR⟩
   ·rw [if_neg c2] at H
    have c2b0 : decide (x3_1 ≤ 64) = false := decide_eq_false c2
    clear c2
    obtain rfl := Option.some.inj H
    go_wp2
    go_ret
    exact ⟨by first | rfl | (simp; done) | (simp [*]; done), DR⟩
end Go.Proofs.Ytbjlldjkkdiblaa.G

namespace Go.Proofs.Ytbjlldjkkdiblaa.G
open Go.RowKit Go.Proofs.YtbjlldjkkdiblaaW.PrintWords Go.Proofs.YtbjlldjkkdiblaaW.PrintLast Go.Proofs.YtbjlldjkkdiblaaW.PrintMore Go.Proofs.Ytbjlldjkkdiblaa.Sh
attribute [local go_sem] max2_int min2_int max_two min_two max_three min_three max_four min_four
set_option linter.unusedVariables false
set_option linter.unusedSimpArgs false
attribute [local go_sem high] eqA49
def spec_l19At.l0 : Nat → List (S49) → Int → Int → Int → ByteArray → Option (Int)
 | 0, _, _, _, _, _ => none
 | k + 1, x8, x9, x10, x151000, x151001 => if x10 < x9 then (if 0 ≤ x10 then (if x10 < (x8.length : Int) then (if (((rd_T49 x8 x10).f0) == x151000 && ((((rd_T49 x8 x10).f1).toList) == x151001.toList)) = true then (some x10) else (spec_l19At.l0 k x8 x9 (wrap64 (x10 + 1)) x151000 x151001)) else (none)) else (none)) else (some (-1))
def spec_l19At.f (k : Nat) (a0_0 : Int) (l0_1 : List (S49)) (a1_0 : Int) (a1_1 : ByteArray) : Option (Int) := spec_l19At.l0 k l0_1 (l0_1.length : Int) 0 a1_0 a1_1
theorem spec_l19At.mono_l : ∀ k, (∀ y0 y1 y2 y3 y4, LeO (spec_l19At.l0 k y0 y1 y2 y3 y4) (spec_l19At.l0 (k + 1) y0 y1 y2 y3 y4))
 | 0 => fun _ _ _ _ _ r h => by simp [spec_l19At.l0] at h
 | k + 1 => by
  have ih0 := spec_l19At.mono_l k
  ·intro y0 y1 y2 y3 y4
   unfold spec_l19At.l0
   repeat' first | (with_reducible first | exact ih0 _ _ _ _ _ | exact LeO.refl _ | exact LeO.none _ | refine LeO.ite ?_ ?_ | refine LeO.bind ?_ (fun _ => ?_)) | exact ih0 _ _ _ _ _ | exact LeO.none _ | refine LeO.ite ?_ ?_ | refine LeO.bind ?_ (fun _ => ?_)
theorem spec_l19At.mono : ∀ a0 a1 a2 a3 k, LeO (spec_l19At.f k a0 a1 a2 a3) (spec_l19At.f (k + 1) a0 a1 a2 a3) := by
 intro a0 a1 a2 a3 k
 have ih0 := spec_l19At.mono_l k
 unfold spec_l19At.f
 repeat' first | (with_reducible first | exact ih0 _ _ _ _ _ | exact LeO.refl _ | exact LeO.none _ | refine LeO.ite ?_ ?_ | refine LeO.bind ?_ (fun _ => ?_)) | exact ih0 _ _ _ _ _ | exact LeO.none _ | refine LeO.ite ?_ ?_ | refine LeO.bind ?_ (fun _ => ?_)
set_option maxHeartbeats 8000000 in
set_option maxRecDepth 100000 in
theorem spec_l19At.calls (k : Nat) (a0_0 : Int) (A0_1 : Option Addr) (c0_1 : Nat) (l0_1 : List (S49)) (a1_0 : Int) (a1_1 : ByteArray) (r : Int) (w : World) (hr0_1 : Kd.C k49 w A0_1 l0_1.length l0_1) (hc0_1 : l0_1.length ≤ c0_1) (h : spec_l19At.f k a0_0 l0_1 a1_0 a1_1 = some r) :
  Calls Try.prog 54 #[.agg #[.int .i64 a0_0, .slice A0_1 l0_1.length c0_1], .agg #[.int .i64 a1_0, .string a1_1]] w fun e w' => e = .returned (.int .i64 r) ∧ Below w.heap.size w w' := by
 have hu25 := Try.underlying25
 have hu49 := Try.underlying49
 have HR0_1 := Aside0.mk hr0_1
 have HC0_1 := Aside0.mk hc0_1
 clear hr0_1 hc0_1
 have HB := Aside0.mk (Below.refl w.heap.size w)
 have H : (spec_l19At.l0 k l0_1 (l0_1.length : Int) 0 a1_0 a1_1) = some r := h
 clear h
 have H' := Aside0.mk H
 clear H
 go_enter Try.func54, Try.ntmps54
 go_wp2_with (first | ((with_reducible refine gate_dst (N := 2) rfl ?_); refine box_event ?hg (N := 2) ?hd (cs := #[.int .i64 a0_0, .slice A0_1 l0_1.length c0_1]) (t := 25) ?hr ?_; (case hd => rfl); (case hg => rfl); (case hr => first | (go_simp; done) | (go_simp; rfl)); intro gb149 hg w3 hbox hb; have n_ : _ ∧ _ ∧ _ ∧ _ := ⟨AsM (below_step BL hb), AsM (hbox), AsM ((GL : w.heap.size ≤ gb149)), AsM ((GL : w.heap.size ≤ gb149))⟩; clear HB; obtain ⟨HB, BK149, GW149, GE149⟩ := n_; clear hb hbox hg) | ((with_reducible refine gate_dst (N := 3) rfl ?_); refine box_event ?hg (N := 3) ?hd (cs := #[.int .i64 a1_0, .string a1_1]) (t := 49) ?hr ?_; (case hd => rfl); (case hg => rfl); (case hr => first | (go_simp; done) | (go_simp; rfl)); intro gb150 hg w4 hbox hb; have n_ : _ ∧ _ ∧ _ ∧ _ ∧ _ ∧ _ ∧ _ := ⟨AsM (blk_below (BD BK149) hb), AsM (below_step BG hb), AsM (hbox), AsM ((GM : w.heap.size ≤ gb150)), AsM ((GM : w.heap.size ≤ gb150)), AsM ((by rw [hg]; exact Nat.ne_of_lt (blk_lt (BD BK149)) : gb149 ≠ gb150)), AsM ((by rw [hg]; exact Nat.ne_of_gt (blk_lt (BD BK149)) : gb150 ≠ gb149))⟩; clear BK149 HB; obtain ⟨BK149, HB, BK150, GW150, GE150, NB149_150, NB150_149⟩ := n_; clear hb hbox hg; have hnb5 := NB149_150.out; have hnc5 := NB150_149.out; obtain ⟨hcz6_0, hcz6_1, hfz6_0, hfz6_1⟩ := bk2 BK149.out))
 go_loopg [10] k (fun kq v10 w' => ∃ (x10_1 : Int), v10 = .int .i64 x10_1 ∧ Aside0 (spec_l19At.l0 kq l0_1 (l0_1.length : Int) x10_1 a1_0 a1_1 = some r) ∧ Aside0 (kq ≤ k) ∧ Aside0 (w'.heap[gb149]? = some (.cells #[.int .i64 a0_0, (.slice A0_1 l0_1.length c0_1)] 25 (0, 0))) ∧ Aside0 (w'.heap[gb150]? = some (.cells #[.int .i64 a1_0, .string a1_1] 49 (0, 0))) ∧ Aside0 (Below w.heap.size w w'))
 case atStart => exact ⟨(0), RS, H', ⟨Nat.le_refl _⟩, ⟨BD BK149⟩, ⟨BD BK150⟩, ⟨by repeat (first | (with_reducible first | exact HB.out | apply below_alloc | apply pw_below_drewN | apply below_drew1 | refine below_set ?_ GE149.out | refine below_set ?_ GE150.out) | exact HB.out)⟩⟩
 case round =>
  clear H'
  try clear p2
  try clear c5
  try clear hcz6_0
  try clear hcz6_1
  try clear hfz6_0
  try clear hfz6_1
  obtain ⟨x10_1, rfl, HA, HK1, BK149, BK150, HB⟩ := hrel
  cases gk with
  | zero => exact absurd HA.out (by simp [spec_l19At.l0])
  | succ k1 =>
   have H := HA.out
   clear HA
   simp only [spec_l19At.l0] at H
   by_cases c7 : x10_1 < (l0_1.length : Int)
   ·rw [if_pos c7] at H
    have c7b0 : decide (x10_1 < (l0_1.length : Int)) = true := decide_eq_true c7
    clear c7
    by_cases c8 : 0 ≤ x10_1
    ·rw [if_pos c8] at H
     have c8b0 : decide (0 ≤ x10_1) = true := decide_eq_true c8
     clear c8
     by_cases c9 : x10_1 < (l0_1.length : Int)
     ·rw [if_pos c9] at H
      have c9b0 : decide (x10_1 < (l0_1.length : Int)) = true := decide_eq_true c9
      clear c9
      by_cases c10 : (((rd_T49 l0_1 x10_1).f0) == a1_0 && ((((rd_T49 l0_1 x10_1).f1).toList) == a1_1.toList)) = true
      ·rw [if_pos c10] at H
       have c10b0 : (((rd_T49 l0_1 x10_1).f0) == a1_0 && ((((rd_T49 l0_1 x10_1).f1).toList) == a1_1.toList)) = true := c10
       (try (have c10b1 : decide (((rd_T49 l0_1 x10_1).f0) = a1_0 && ((((rd_T49 l0_1 x10_1).f1).toList) == a1_1.toList)) = true := by simpa using c10))
       (try (have c10b2 : (((rd_T49 l0_1 x10_1).f0) == a1_0 && ((((rd_T49 l0_1 x10_1).f1).toList) == a1_1.toList)) = true := by simpa using c10))
       clear c10
       obtain rfl := Option.some.inj H
       have p151 : 0 ≤ (x10_1 : Int) := of_decide_eq_true AS
       have q151 : x10_1 < (l0_1.length : Int) := of_decide_eq_true AS
       obtain ⟨ad151, e151, hx151_0, hx151_1⟩ := at_T49 HR0_1.out x10_1 p151 q151
       cases e151
       replace hx151_0 := (HB.out.cell (World.block_lt_of_cell? w _ hx151_0)).trans hx151_0
       replace hx151_1 := (HB.out.cell (World.block_lt_of_cell? w _ hx151_1)).trans hx151_1
       replace p151 := eq_true p151
       replace q151 := eq_true q151
       go_wp2_with (first | ((with_reducible refine gate_dst (N := 6) rfl ?_); refine box_event ?hg (N := 6) ?hd (cs := #[.int .i64 0, .string (⟨#[]⟩ : ByteArray)]) (t := 49) ?hr ?_; (case hd => rfl); (case hg => rfl); (case hr => first | (go_simp; done) | (go_simp; rfl)); intro gb152 hg w11 hbox hb; have n_ : _ ∧ _ ∧ _ ∧ _ ∧ _ ∧ _ ∧ _ ∧ _ ∧ _ ∧ _ := ⟨AsM (blk_below (BD BK149) hb), AsM (blk_below (BD BK150) hb), AsM (below_step BG hb), AsM (hbox), AsM ((GM : w.heap.size ≤ gb152)), AsM ((GM : w.heap.size ≤ gb152)), AsM ((by rw [hg]; exact Nat.ne_of_lt (blk_lt (BD BK149)) : gb149 ≠ gb152)), AsM ((by rw [hg]; exact Nat.ne_of_gt (blk_lt (BD BK149)) : gb152 ≠ gb149)), AsM ((by rw [hg]; exact Nat.ne_of_lt (blk_lt (BD BK150)) : gb150 ≠ gb152)), AsM ((by rw [hg]; exact Nat.ne_of_gt (blk_lt (BD BK150)) : gb152 ≠ gb150))⟩; clear BK149 BK150 HB; obtain ⟨BK149, BK150, HB, BK152, GW152, GE152, NB149_152, NB152_149, NB150_152, NB152_150⟩ := n_; clear hb hbox hg; have hnb12 := NB152_149.out; have hnc12 := NB149_152.out; have hnb13 := NB152_150.out; have hnc13 := NB150_152.out; obtain ⟨hcz14_0, hcz14_1, hfz14_0, hfz14_1⟩ := bk2 BK152.out; have hnb15 := NB150_149.out; have hnc15 := NB149_150.out; obtain ⟨hcz16_0, hcz16_1, hfz16_0, hfz16_1⟩ := bk2 BK150.out))
       go_ret
       exact ⟨ER, BG⟩
      ·rw [if_neg c10] at H
       have c10b0 : (((rd_T49 l0_1 x10_1).f0) == a1_0 && ((((rd_T49 l0_1 x10_1).f1).toList) == a1_1.toList)) = false := by simpa using c10
       (try (have c10b1 : decide (((rd_T49 l0_1 x10_1).f0) = a1_0 && ((((rd_T49 l0_1 x10_1).f1).toList) == a1_1.toList)) = false := by simpa using c10))
       (try (have c10b2 : (((rd_T49 l0_1 x10_1).f0) == a1_0 && ((((rd_T49 l0_1 x10_1).f1).toList) == a1_1.toList)) = false := by simpa using c10))
       (try (have c10b3 : ¬ (((rd_T49 l0_1 x10_1).f0) = a1_0 && ((((rd_T49 l0_1 x10_1).f1).toList) == a1_1.toList)) := by simpa using c10))
       clear c10
       have H' := Aside0.mk H
       clear H
       have p151 : 0 ≤ (x10_1 : Int) := of_decide_eq_true AS
       have q151 : x10_1 < (l0_1.length : Int) := of_decide_eq_true AS
       obtain ⟨ad151, e151, hx151_0, hx151_1⟩ := at_T49 HR0_1.out x10_1 p151 q151
       cases e151
       replace hx151_0 := (HB.out.cell (World.block_lt_of_cell? w _ hx151_0)).trans hx151_0
       replace hx151_1 := (HB.out.cell (World.block_lt_of_cell? w _ hx151_1)).trans hx151_1
       replace p151 := eq_true p151
       replace q151 := eq_true q151
       go_wp2_with (first | ((with_reducible refine gate_dst (N := 6) rfl ?_); refine box_event ?hg (N := 6) ?hd (cs := #[.int .i64 0, .string (⟨#[]⟩ : ByteArray)]) (t := 49) ?hr ?_; (case hd => rfl); (case hg => rfl); (case hr => first | (go_simp; done) | (go_simp; rfl)); intro gb152 hg w17 hbox hb; have n_ : _ ∧ _ ∧ _ ∧ _ ∧ _ ∧ _ ∧ _ ∧ _ ∧ _ ∧ _ := ⟨AsM (blk_below (BD BK149) hb), AsM (blk_below (BD BK150) hb), AsM (below_step BG hb), AsM (hbox), AsM ((GM : w.heap.size ≤ gb152)), AsM ((GM : w.heap.size ≤ gb152)), AsM ((by rw [hg]; exact Nat.ne_of_lt (blk_lt (BD BK149)) : gb149 ≠ gb152)), AsM ((by rw [hg]; exact Nat.ne_of_gt (blk_lt (BD BK149)) : gb152 ≠ gb149)), AsM ((by rw [hg]; exact Nat.ne_of_lt (blk_lt (BD BK150)) : gb150 ≠ gb152)), AsM ((by rw [hg]; exact Nat.ne_of_gt (blk_lt (BD BK150)) : gb152 ≠ gb150))⟩; clear BK149 BK150 HB; obtain ⟨BK149, BK150, HB, BK152, GW152, GE152, NB149_152, NB152_149, NB150_152, NB152_150⟩ := n_; clear hb hbox hg; have hnb18 := NB152_149.out; have hnc18 := NB149_152.out; have hnb19 := NB152_150.out; have hnc19 := NB150_152.out; obtain ⟨hcz20_0, hcz20_1, hfz20_0, hfz20_1⟩ := bk2 BK152.out; have hnb21 := NB150_149.out; have hnc21 := NB149_150.out; obtain ⟨hcz22_0, hcz22_1, hfz22_0, hfz22_1⟩ := bk2 BK150.out))
       go_roundg k1
       case measure => have := HK1.out; omega
       case rel => exact ⟨(wrap64 (x10_1 + 1)), RS, H', ⟨by have := HK1.out; omega⟩, ⟨by refine PX ?_; refine blk_far ?_ NB149_152.out _; refine PX ?_; refine blk_far ?_ NB149_152.out _; exact BD BK149⟩, ⟨by refine PX ?_; refine blk_far ?_ NB150_152.out _; refine PX ?_; refine blk_far ?_ NB150_152.out _; exact BD BK150⟩, ⟨by repeat (first | (with_reducible first | exact HB.out | apply below_alloc | apply pw_below_drewN | apply below_drew1 | refine below_set ?_ GE149.out | refine below_set ?_ GE150.out | refine below_set ?_ GE152.out) | exact HB.out)⟩⟩
     ·rw [if_neg c9] at H
      exact absurd H (by simp)
    ·rw [if_neg c8] at H
     exact absurd H (by simp)
   ·rw [if_neg c7] at H
    have c7b0 : decide (x10_1 < (l0_1.length : Int)) = false := decide_eq_false c7
    clear c7
    obtain rfl := Option.some.inj H
    go_wp2
    go_ret
    exact ⟨ER, BG⟩
end Go.Proofs.Ytbjlldjkkdiblaa.G

namespace Go.Proofs.Ytbjlldjkkdiblaa.G
open Go.RowKit Go.Proofs.YtbjlldjkkdiblaaW.PrintWords Go.Proofs.YtbjlldjkkdiblaaW.PrintLast Go.Proofs.YtbjlldjkkdiblaaW.PrintMore Go.Proofs.Ytbjlldjkkdiblaa.Sh
attribute [local go_sem] max2_int min2_int max_two min_two max_three min_three max_four min_four
set_option linter.unusedVariables false
set_option linter.unusedSimpArgs false
def spec_l19Before.f (a0_0 : Int) (a0_1 : ByteArray) (a1_0 : Int) (a1_1 : ByteArray) : Option (Bool) := if a0_0 < a1_0 then (some true) else (if a0_0 = a1_0 then (some (Op.bytesLess a0_1.toList a1_1.toList)) else (some false))
set_option maxHeartbeats 8000000 in
set_option maxRecDepth 100000 in
theorem spec_l19Before.calls (a0_0 : Int) (a0_1 : ByteArray) (a1_0 : Int) (a1_1 : ByteArray) (r : Bool) (w : World) (h : spec_l19Before.f a0_0 a0_1 a1_0 a1_1 = some r) :
  Calls Try.prog 56 #[.agg #[.int .i64 a0_0, .string a0_1], .agg #[.int .i64 a1_0, .string a1_1]] w fun e w' => e = .returned (.bool r) ∧ Below w.heap.size w w' := by
 have hu49 := Try.underlying49
 have HB := Aside0.mk (Below.refl w.heap.size w)
 have H : (if a0_0 < a1_0 then (some true) else (if a0_0 = a1_0 then (some (Op.bytesLess a0_1.toList a1_1.toList)) else (some false))) = some r := h
 clear h
 by_cases c3 : a0_0 < a1_0
 ·rw [if_pos c3] at H
  have c3b0 : decide (a0_0 < a1_0) = true := decide_eq_true c3
  clear c3
  obtain rfl := Option.some.inj H
  go_enter Try.func56, Try.ntmps56
  go_wp2_with (first | ((with_reducible refine gate_dst (N := 2) rfl ?_); refine box_event ?hg (N := 2) ?hd (cs := #[.int .i64 a0_0, .string a0_1]) (t := 49) ?hr ?_; (case hd => rfl); (case hg => rfl); (case hr => first | (go_simp; done) | (go_simp; rfl)); intro gb153 hg w4 hbox hb; have n_ : _ ∧ _ ∧ _ ∧ _ := ⟨AsM (below_step BL hb), AsM (hbox), AsM ((GL : w.heap.size ≤ gb153)), AsM ((GL : w.heap.size ≤ gb153))⟩; clear HB; obtain ⟨HB, BK153, GW153, GE153⟩ := n_; clear hb hbox hg) | ((with_reducible refine gate_dst (N := 3) rfl ?_); refine box_event ?hg (N := 3) ?hd (cs := #[.int .i64 a1_0, .string a1_1]) (t := 49) ?hr ?_; (case hd => rfl); (case hg => rfl); (case hr => first | (go_simp; done) | (go_simp; rfl)); intro gb154 hg w5 hbox hb; have n_ : _ ∧ _ ∧ _ ∧ _ ∧ _ ∧ _ ∧ _ := ⟨AsM (blk_below (BD BK153) hb), AsM (below_step BG hb), AsM (hbox), AsM ((GM : w.heap.size ≤ gb154)), AsM ((GM : w.heap.size ≤ gb154)), AsM ((by rw [hg]; exact Nat.ne_of_lt (blk_lt (BD BK153)) : gb153 ≠ gb154)), AsM ((by rw [hg]; exact Nat.ne_of_gt (blk_lt (BD BK153)) : gb154 ≠ gb153))⟩; clear BK153 HB; obtain ⟨BK153, HB, BK154, GW154, GE154, NB153_154, NB154_153⟩ := n_; clear hb hbox hg; have hnb6 := NB153_154.out; have hnc6 := NB154_153.out; obtain ⟨hcz7_0, hcz7_1, hfz7_0, hfz7_1⟩ := bk2 BK153.out; obtain ⟨hcz8_0, hcz8_1, hfz8_0, hfz8_1⟩ := bk2 BK154.out))
  go_ret
  exact ⟨ER, BG⟩
 ·rw [if_neg c3] at H
  have c3b0 : decide (a0_0 < a1_0) = false := decide_eq_false c3
  clear c3
  by_cases c9 : a0_0 = a1_0
  ·rw [if_pos c9] at H
   have c9b0 : (a0_0 == a1_0) = true := beq_iff_eq.mpr c9
   have c9b1 : (a0_0 != a1_0) = false := bne_eq_false_iff_eq.mpr c9
   clear c9
   obtain rfl := Option.some.inj H
   go_enter Try.func56, Try.ntmps56
   go_wp2_with (first | ((with_reducible refine gate_dst (N := 2) rfl ?_); refine box_event ?hg (N := 2) ?hd (cs := #[.int .i64 a0_0, .string a0_1]) (t := 49) ?hr ?_; (case hd => rfl); (case hg => rfl); (case hr => first | (go_simp; done) | (go_simp; rfl)); intro gb153 hg w10 hbox hb; have n_ : _ ∧ _ ∧ _ ∧ _ := ⟨AsM (below_step BL hb), AsM (hbox), AsM ((GL : w.heap.size ≤ gb153)), AsM ((GL : w.heap.size ≤ gb153))⟩; clear HB; obtain ⟨HB, BK153, GW153, GE153⟩ := n_; clear hb hbox hg) | ((with_reducible refine gate_dst (N := 3) rfl ?_); refine box_event ?hg (N := 3) ?hd (cs := #[.int .i64 a1_0, .string a1_1]) (t := 49) ?hr ?_; (case hd => rfl); (case hg => rfl); (case hr => first | (go_simp; done) | (go_simp; rfl)); intro gb154 hg w11 hbox hb; have n_ : _ ∧ _ ∧ _ ∧ _ ∧ _ ∧ _ ∧ _ := ⟨AsM (blk_below (BD BK153) hb), AsM (below_step BG hb), AsM (hbox), AsM ((GM : w.heap.size ≤ gb154)), AsM ((GM : w.heap.size ≤ gb154)), AsM ((by rw [hg]; exact Nat.ne_of_lt (blk_lt (BD BK153)) : gb153 ≠ gb154)), AsM ((by rw [hg]; exact Nat.ne_of_gt (blk_lt (BD BK153)) : gb154 ≠ gb153))⟩; clear BK153 HB; obtain ⟨BK153, HB, BK154, GW154, GE154, NB153_154, NB154_153⟩ := n_; clear hb hbox hg; have hnb12 := NB153_154.out; have hnc12 := NB154_153.out; obtain ⟨hcz13_0, hcz13_1, hfz13_0, hfz13_1⟩ := bk2 BK153.out; obtain ⟨hcz14_0, hcz14_1, hfz14_0, hfz14_1⟩ := bk2 BK154.out))
   go_ret
   exact ⟨ER, BG⟩
  ·rw [if_neg c9] at H
   have c9b0 : (a0_0 == a1_0) = false := beq_eq_false_iff_ne.mpr c9
   have c9b1 : (a0_0 != a1_0) = true := bne_iff_ne.mpr c9
   obtain rfl := Option.some.inj H
   go_enter Try.func56, Try.ntmps56
   go_wp2_with (first | ((with_reducible refine gate_dst (N := 2) rfl ?_); refine box_event ?hg (N := 2) ?hd (cs := #[.int .i64 a0_0, .string a0_1]) (t := 49) ?hr ?_; (case hd => rfl); (case hg => rfl); (case hr => first | (go_simp; done) | (go_simp; rfl)); intro gb153 hg w15 hbox hb; have n_ : _ ∧ _ ∧ _ ∧ _ := ⟨AsM (below_step BL hb), AsM (hbox), AsM ((GL : w.heap.size ≤ gb153)), AsM ((GL : w.heap.size ≤ gb153))⟩; clear HB; obtain ⟨HB, BK153, GW153, GE153⟩ := n_; clear hb hbox hg) | ((with_reducible refine gate_dst (N := 3) rfl ?_); refine box_event ?hg (N := 3) ?hd (cs := #[.int .i64 a1_0, .string a1_1]) (t := 49) ?hr ?_; (case hd => rfl); (case hg => rfl); (case hr => first | (go_simp; done) | (go_simp; rfl)); intro gb154 hg w16 hbox hb; have n_ : _ ∧ _ ∧ _ ∧ _ ∧ _ ∧ _ ∧ _ := ⟨AsM (blk_below (BD BK153) hb), AsM (below_step BG hb), AsM (hbox), AsM ((GM : w.heap.size ≤ gb154)), AsM ((GM : w.heap.size ≤ gb154)), AsM ((by rw [hg]; exact Nat.ne_of_lt (blk_lt (BD BK153)) : gb153 ≠ gb154)), AsM ((by rw [hg]; exact Nat.ne_of_gt (blk_lt (BD BK153)) : gb154 ≠ gb153))⟩; clear BK153 HB; obtain ⟨BK153, HB, BK154, GW154, GE154, NB153_154, NB154_153⟩ := n_; clear hb hbox hg; have hnb17 := NB153_154.out; have hnc17 := NB154_153.out; obtain ⟨hcz18_0, hcz18_1, hfz18_0, hfz18_1⟩ := bk2 BK153.out; obtain ⟨hcz19_0, hcz19_1, hfz19_0, hfz19_1⟩ := bk2 BK154.out))
   go_ret
   exact ⟨ER, BG⟩
def spec_l01In.f (a0 : Int) (a1 : Int) (a2 : Int) : Option (Bool) := if a0 ≥ a1 then (some (decide (a0 ≤ a2))) else (some false)
set_option maxHeartbeats 8000000 in
set_option maxRecDepth 100000 in
theorem spec_l01In.calls (a0 : Int) (a1 : Int) (a2 : Int) (r : Bool) (w : World) (h : spec_l01In.f a0 a1 a2 = some r) :
  Calls Try.prog 73 #[.int .i64 a0, .int .i64 a1, .int .i64 a2] w fun e w' => e = .returned (.bool r) ∧ Drawn0 w w' := by
 have H : (if a0 ≥ a1 then (some (decide (a0 ≤ a2))) else (some false)) = some r := h
 clear h
 by_cases c4 : a0 ≥ a1
 ·rw [if_pos c4] at H
  have c4b0 : decide (a1 ≤ a0) = true := decide_eq_true c4
  clear c4
  obtain rfl := Option.some.inj H
  go_enter Try.func73, Try.ntmps73
  go_wp2
  go_ret
  exact ⟨by first | rfl | (simp; done) | (simp [*]; done), DR⟩
 ·rw [if_neg c4] at H
  have c4b0 : decide (a1 ≤ a0) = false := decide_eq_false c4
  clear c4
  obtain rfl := Option.some.inj H
  go_enter Try.func73, Try.ntmps73
  go_wp2
  go_ret
  exact ⟨by first | rfl | (simp; done) | (simp [*]; done), DR⟩
def spec_Parent.l0 : Nat → Int → Int → Option (Int)
 | 0, _, _ => none
 | k + 1, x0, x3 => if (wrap64 (x3 * 2)) ≤ x0 then (spec_Parent.l0 k x0 (wrap64 (x3 * 2))) else (some (wrap64 (x0 - x3)))
def spec_Parent.f (k : Nat) (a0 : Int) : Option (Int) := (spec_l01In.f a0 1 4294967295).bind fun t155 => (if t155 = true then (spec_Parent.l0 k a0 1) else (some 0))
theorem spec_Parent.mono_l : ∀ k, (∀ y0 y1, LeO (spec_Parent.l0 k y0 y1) (spec_Parent.l0 (k + 1) y0 y1))
 | 0 => fun _ _ r h => by simp [spec_Parent.l0] at h
 | k + 1 => by
  have ih0 := spec_Parent.mono_l k
  ·intro y0 y1
   unfold spec_Parent.l0
   repeat' first | (with_reducible first | exact ih0 _ _ | exact LeO.refl _ | exact LeO.none _ | refine LeO.ite ?_ ?_ | refine LeO.bind ?_ (fun _ => ?_)) | exact ih0 _ _ | exact LeO.none _ | refine LeO.ite ?_ ?_ | refine LeO.bind ?_ (fun _ => ?_)
theorem spec_Parent.mono : ∀ a0 k, LeO (spec_Parent.f k a0) (spec_Parent.f (k + 1) a0) := by
 intro a0 k
 have ih0 := spec_Parent.mono_l k
 unfold spec_Parent.f
 repeat' first | (with_reducible first | exact ih0 _ _ | exact LeO.refl _ | exact LeO.none _ | refine LeO.ite ?_ ?_ | refine LeO.bind ?_ (fun _ => ?_)) | exact ih0 _ _ | exact LeO.none _ | refine LeO.ite ?_ ?_ | refine LeO.bind ?_ (fun _ => ?_)
set_option maxHeartbeats 8000000 in
set_option maxRecDepth 100000 in
theorem spec_Parent.calls (k : Nat) (a0 : Int) (r : Int) (w : World) (h : spec_Parent.f k a0 = some r) :
  Calls Try.prog 71 #[.int .i64 a0] w fun e w' => e = .returned (.int .i64 r) ∧ Drawn0 w w' := by
 have H : ((spec_l01In.f a0 1 4294967295).bind fun t155 => (if t155 = true then (spec_Parent.l0 k a0 1) else (some 0))) = some r := h
 clear h
 replace H := BS H
 obtain ⟨t155, A20, H⟩ := H
 have A2 := Aside0.mk A20
 clear A20
 by_cases c3 : t155 = true
 ·subst c3
  replace H := IP H
  have H' := Aside0.mk H
  clear H
  go_enter Try.func71, Try.ntmps71
  go_wp2_with (first | ((with_reducible refine gate_callee (f := 73) rfl ?_); refine goesL_ (some 5) rfl rfl Try.func73 (by kernel_rfl) rfl #[.int .i64 a0, .int .i64 1, .int .i64 4294967295] rfl AQ ?_; (with_reducible refine (spec_l01In.calls a0 1 4294967295 true _ A2.out).mono ?_); rintro e w' ⟨rfl, ⟨nd, rfl⟩⟩; refine ⟨_, rfl, ?_⟩))
  go_loopg [3] k (fun kq v3 w' => ∃ (x3_1 : Int), v3 = .int .i64 x3_1 ∧ Aside0 (spec_Parent.l0 kq a0 x3_1 = some r) ∧ Aside0 (kq ≤ k) ∧ Drawn0 w w')
  case atStart => exact ⟨(1), RS, H', ⟨Nat.le_refl _⟩, DR⟩
  case round =>
   clear H'
   try clear p2
   try clear c3
   obtain ⟨x3_1, rfl, HA, HK1, ⟨m1, rfl⟩⟩ := hrel
   cases gk with
   | zero => exact absurd HA.out (by simp [spec_Parent.l0])
   | succ k1 =>
    have H := HA.out
    clear HA
    simp only [spec_Parent.l0] at H
    by_cases c4 : (wrap64 (x3_1 * 2)) ≤ a0
    ·rw [if_pos c4] at H
     have c4b0 : decide ((wrap64 (x3_1 * 2)) ≤ a0) = true := decide_eq_true c4
     clear c4
     have H' := Aside0.mk H
     clear H
     go_wp2
     go_roundg k1
     case measure => have := HK1.out; omega
     case rel => exact ⟨(wrap64 (x3_1 * 2)), RS, H', ⟨by have := HK1.out; omega⟩, DR⟩
    ·rw [if_neg c4] at H
     have c4b0 : decide ((wrap64 (x3_1 * 2)) ≤ a0) = false := decide_eq_false c4
     clear c4
     obtain rfl := Option.some.inj H
     go_wp2
     go_ret
     exact ⟨by first | rfl | (simp; done) | (simp [*]; done), DR⟩
 ·replace c3 := Bool.eq_false_iff.mpr c3
  subst c3
  replace H := IN H
  obtain rfl := Option.some.inj H
  go_enter Try.func71, Try.ntmps71
  go_wp2_with (first | ((with_reducible refine gate_callee (f := 73) rfl ?_); refine goesL_ (some 5) rfl rfl Try.func73 (by kernel_rfl) rfl #[.int .i64 a0, .int .i64 1, .int .i64 4294967295] rfl AQ ?_; (with_reducible refine (spec_l01In.calls a0 1 4294967295 false _ A2.out).mono ?_); rintro e w' ⟨rfl, ⟨nd, rfl⟩⟩; refine ⟨_, rfl, ?_⟩))
  go_ret
  exact ⟨by first | rfl | (simp; done) | (simp [*]; done), DR⟩
end Go.Proofs.Ytbjlldjkkdiblaa.G

namespace Go.Proofs.Ytbjlldjkkdiblaa.G
open Go.RowKit Go.Proofs.YtbjlldjkkdiblaaW.PrintWords Go.Proofs.YtbjlldjkkdiblaaW.PrintLast Go.Proofs.YtbjlldjkkdiblaaW.PrintMore Go.Proofs.Ytbjlldjkkdiblaa.Sh
attribute [local go_sem] max2_int min2_int max_two min_two max_three min_three max_four min_four
set_option linter.unusedVariables false
set_option linter.unusedSimpArgs false
attribute [local go_sem high] eqA49
def spec_l19Open.j0 : Nat → Int → Bool → Int → List (S49) → Option (Bool)
 | 0, _, _, _, _ => none
 | k + 1, x5, x18, x157000, x157001 => if x18 = true then (some false) else (if x5 = 0 then (some true) else ((spec_Parent.f k x5).bind fun t161 => ((spec_l19Dummy.f k t161).bind fun bt162 => ((spec_l19At.f k x157000 x157001 bt162.1 bt162.2).bind fun t164 => (some (decide (t164 ≥ 0)))))))
def spec_l19Open.f (k : Nat) (a0_0 : Int) (l0_1 : List (S49)) (a1_0 : Int) (a1_1 : ByteArray) : Option (Bool) := (spec_Flip.f k a1_0).bind fun t158 => ((spec_l19Dummy.f k t158).bind fun bt159 => (if (!(a1_0 == bt159.1) || (!(a1_1.toList == bt159.2.toList))) = true then (spec_l19Open.j0 k t158 true a0_0 l0_1) else (spec_l19Open.j0 k t158 (decide (t158 ≥ a0_0)) a0_0 l0_1)))
theorem spec_l19Open.mono_l : ∀ k, (∀ y0 y1 y2 y3, LeO (spec_l19Open.j0 k y0 y1 y2 y3) (spec_l19Open.j0 (k + 1) y0 y1 y2 y3))
 | 0 => fun _ _ _ _ r h => by simp [spec_l19Open.j0] at h
 | k + 1 => by
  have ih0 := spec_l19Open.mono_l k
  ·intro y0 y1 y2 y3
   unfold spec_l19Open.j0
   repeat' first | (with_reducible first | exact ih0 _ _ _ _ | exact spec_Flip.mono _ _ | exact spec_Parent.mono _ _ | exact spec_l19At.mono _ _ _ _ _ | exact spec_l19Dummy.mono _ _ | exact LeO.refl _ | exact LeO.none _ | refine LeO.ite ?_ ?_ | refine LeO.bind ?_ (fun _ => ?_)) | exact ih0 _ _ _ _ | exact spec_Flip.mono _ _ | exact spec_Parent.mono _ _ | exact spec_l19At.mono _ _ _ _ _ | exact spec_l19Dummy.mono _ _ | exact LeO.none _ | refine LeO.ite ?_ ?_ | refine LeO.bind ?_ (fun _ => ?_)
theorem spec_l19Open.mono : ∀ a0 a1 a2 a3 k, LeO (spec_l19Open.f k a0 a1 a2 a3) (spec_l19Open.f (k + 1) a0 a1 a2 a3) := by
 intro a0 a1 a2 a3 k
 have ih0 := spec_l19Open.mono_l k
 unfold spec_l19Open.f
 repeat' first | (with_reducible first | exact ih0 _ _ _ _ | exact spec_Flip.mono _ _ | exact spec_Parent.mono _ _ | exact spec_l19At.mono _ _ _ _ _ | exact spec_l19Dummy.mono _ _ | exact LeO.refl _ | exact LeO.none _ | refine LeO.ite ?_ ?_ | refine LeO.bind ?_ (fun _ => ?_)) | exact ih0 _ _ _ _ | exact spec_Flip.mono _ _ | exact spec_Parent.mono _ _ | exact spec_l19At.mono _ _ _ _ _ | exact spec_l19Dummy.mono _ _ | exact LeO.none _ | refine LeO.ite ?_ ?_ | refine LeO.bind ?_ (fun _ => ?_)
def spec_l19Open.T2 : Bool × List (List Nat × List Nat) := (true, [([], []), ([], []), ([1], [1]), ([0, 2], [0, 2]), ([3, 2], [3]), ([4], [4]), ([4], [4]), ([6, 4], [4, 6]), ([5, 7, 4], [4, 5, 7]), ([4, 8], [4, 8])])
def spec_l19Open.B2 : List Nat := [0, 0, 2, 7, 15, 31, 31, 95, 255, 511]
theorem spec_l19Open.tab2 : rtab .any (opsOf Try.f57 2) = spec_l19Open.T2 := by kernel_rfl
theorem spec_l19Open.bits2 : waitsOk spec_l19Open.T2.2 spec_l19Open.B2 = true := by kernel_rfl
def spec_l19Open.T4 : Bool × List (List Nat × List Nat) := (true, [([], []), ([0], [0]), ([1], [1]), ([2], [2]), ([2], [2]), ([4, 2, 2], [2, 4]), ([5, 5, 2], [2, 5]), ([3, 6, 6, 2], [2, 3, 6]), ([7, 2], [2, 7]), ([2, 8], [2, 8]), ([9, 7, 0, 1, 2, 3, 4, 5, 6, 7, 8, 9], [9])])
def spec_l19Open.B4 : List Nat := [0, 1, 3, 7, 7, 23, 55, 127, 255, 511, 1023]
theorem spec_l19Open.tab4 : rtab .any (opsOf Try.f57 4) = spec_l19Open.T4 := by kernel_rfl
theorem spec_l19Open.bits4 : waitsOk spec_l19Open.T4.2 spec_l19Open.B4 = true := by kernel_rfl
set_option maxHeartbeats 8000000 in
set_option maxRecDepth 100000 in
theorem spec_l19Open.calls (k : Nat) (a0_0 : Int) (A0_1 : Option Addr) (c0_1 : Nat) (l0_1 : List (S49)) (a1_0 : Int) (a1_1 : ByteArray) (r : Bool) (w : World) (hr0_1 : Kd.C k49 w A0_1 l0_1.length l0_1) (hc0_1 : l0_1.length ≤ c0_1) (h : spec_l19Open.f k a0_0 l0_1 a1_0 a1_1 = some r) :
  Calls Try.prog 57 #[.agg #[.int .i64 a0_0, .slice A0_1 l0_1.length c0_1], .agg #[.int .i64 a1_0, .string a1_1]] w fun e w' => e = .returned (.bool r) ∧ Below w.heap.size w w' := by
 have hu25 := Try.underlying25
 have hu49 := Try.underlying49
 have HR0_1 := Aside0.mk hr0_1
 have HC0_1 := Aside0.mk hc0_1
 clear hr0_1 hc0_1
 have HB := Aside0.mk (Below.refl w.heap.size w)
 have H : ((spec_Flip.f k a1_0).bind fun t158 => ((spec_l19Dummy.f k t158).bind fun bt159 => (if (!(a1_0 == bt159.1) || (!(a1_1.toList == bt159.2.toList))) = true then (spec_l19Open.j0 k t158 true a0_0 l0_1) else (spec_l19Open.j0 k t158 (decide (t158 ≥ a0_0)) a0_0 l0_1)))) = some r := h
 clear h
 replace H := BS H
 obtain ⟨t158, A30, H⟩ := H
 have A3 := Aside0.mk A30
 clear A30
 have HC4 := Aside0.mk H
 clear H
 go_enter Try.func57, Try.ntmps57
 go_upto_region 2 with (first | ((with_reducible refine gate_dst (N := 2) rfl ?_); refine box_event ?hg (N := 2) ?hd (cs := #[.int .i64 a0_0, .slice A0_1 l0_1.length c0_1]) (t := 25) ?hr ?_; (case hd => rfl); (case hg => rfl); (case hr => first | (go_simp; done) | (go_simp; rfl)); intro gb156 hg w5 hbox hb; have n_ : _ ∧ _ ∧ _ ∧ _ := ⟨AsM (below_step BL hb), AsM (hbox), AsM ((GL : w.heap.size ≤ gb156)), AsM ((GL : w.heap.size ≤ gb156))⟩; clear HB; obtain ⟨HB, BK156, GW156, GE156⟩ := n_; clear hb hbox hg) | ((with_reducible refine gate_dst (N := 3) rfl ?_); refine box_event ?hg (N := 3) ?hd (cs := #[.int .i64 a1_0, .string a1_1]) (t := 49) ?hr ?_; (case hd => rfl); (case hg => rfl); (case hr => first | (go_simp; done) | (go_simp; rfl)); intro gb157 hg w6 hbox hb; have n_ : _ ∧ _ ∧ _ ∧ _ ∧ _ ∧ _ ∧ _ := ⟨AsM (blk_below (BD BK156) hb), AsM (below_step BG hb), AsM (hbox), AsM ((GM : w.heap.size ≤ gb157)), AsM ((GM : w.heap.size ≤ gb157)), AsM ((by rw [hg]; exact Nat.ne_of_lt (blk_lt (BD BK156)) : gb156 ≠ gb157)), AsM ((by rw [hg]; exact Nat.ne_of_gt (blk_lt (BD BK156)) : gb157 ≠ gb156))⟩; clear BK156 HB; obtain ⟨BK156, HB, BK157, GW157, GE157, NB156_157, NB157_156⟩ := n_; clear hb hbox hg; have hnb7 := NB157_156.out; have hnc7 := NB156_157.out; obtain ⟨hcz8_0, hcz8_1, hfz8_0, hfz8_1⟩ := bk2 BK157.out) | ((with_reducible refine gate_callee (f := 70) rfl ?_); refine goesL_ (some 8) rfl rfl Try.func70 (by kernel_rfl) rfl #[.int .i64 a1_0] rfl AQ ?_; (with_reducible refine (spec_Flip.calls k a1_0 t158 _ A3.out).mono ?_); rintro e w' ⟨rfl, ⟨nd, rfl⟩⟩; refine ⟨_, rfl, ?_⟩; (try (rw [drewN_self w6]; generalize hq_ : World.drewN w6 _ = w6; have n0_ : Aside0 (w6.heap[gb156]? = some (.cells #[.int .i64 a0_0, .slice A0_1 l0_1.length c0_1] 25 (0, 0))) := ⟨by rw [← hq_]; exact (BD BK156)⟩; have n1_ : Aside0 (w6.heap[gb157]? = some (.cells #[.int .i64 a1_0, .string a1_1] 49 (0, 0))) := ⟨by rw [← hq_]; exact (BD BK157)⟩; have n2_ : Aside0 (Below w.heap.size w w6) := ⟨by rw [← hq_]; exact BG⟩; clear BK156 BK157 HB hq_; have BK156 := n0_; have BK157 := n1_; have HB := n2_; clear n0_ n1_ n2_))))
 (try simp only [Act.put, List.setIfInBounds_toArray, List.set_cons_zero, List.set_cons_succ])
 go_cut [18] (fun v18 wc => ∃ (kq : Nat) (x18_3 : Bool), v18 = .bool x18_3 ∧ Aside0 (spec_l19Open.j0 kq t158 x18_3 a0_0 l0_1 = some r) ∧ Aside0 (kq ≤ k) ∧ Aside0 (wc.heap[gb156]? = some (.cells #[.int .i64 a0_0, (.slice A0_1 l0_1.length c0_1)] 25 (0, 0))) ∧ Aside0 (wc.heap[gb157]? = some (.cells #[.int .i64 a1_0, .string a1_1] 49 (0, 0))) ∧ Aside0 (Below w.heap.size w wc))
 case first =>
  have H := HC4.out
  clear HC4
  replace H := BS H
  obtain ⟨⟨t159, t160⟩, A90, H⟩ := H
  have A9 := Aside0.mk A90
  clear A90
  by_cases c10 : (!(a1_0 == t159) || (!(a1_1.toList == t160.toList))) = true
  ·rw [if_pos c10] at H
   have c10b0 : (!(a1_0 == t159) || (!(a1_1.toList == t160.toList))) = true := c10
   clear c10
   (first | rw [c10b0] | (simp only [i64_w, i32_w]; rw [c10b0]) | skip)
   have H' := Aside0.mk H
   clear H
   try go_wp2
   have n_ : _ ∧ _ ∧ _ := ⟨AsM (blk_drew BK156.out), AsM (blk_drew BK157.out), AsM (below_drew1 HB.out)⟩
   clear BK156 BK157 HB
   obtain ⟨BK156, BK157, HB⟩ := n_
   refine start_ (n := 10) (S := fun w' => w'.cell? ⟨gb157, 0, none⟩ = some (.int .i64 a1_0) ∧ w'.cell? ⟨gb157, 1, none⟩ = some (.string a1_1)) (ds := []) #[false, false, false, false, false, false, false, false, false, false] (by kernel_rfl) rfl rfl ⟨(blk_cell BK157.out 0).trans rfl, (blk_cell BK157.out 1).trans rfl⟩ (fun hHeld => ?_); refine with_tabW spec_l19Open.tab2 spec_l19Open.bits2 (fun HT_ HW_ => ?_)
   generalize w6.drew = w11 at BK156 BK157 HB hHeld ⊢
   refine PU (i := 1) (N := some 10) #[false, true, false, false, false, false, false, false, false, false] rfl rfl HT_ ?_
   refine PT (i := 0) (N := some 9) (tf 2 8) rfl rfl HT_ HW_ hHeld ?_
   refine one_ (i := 2) (N := some 11) (tf 3 7) rfl rfl (one_of HT_.out (by kernel_rfl)) (by decide) (fun K hK => ?_)
   refine goes_ Try.func55 (by kernel_rfl) rfl #[.int .i64 t158] (by rfl) rfl rfl AQ ?_
   with_reducible refine (spec_l19Dummy.calls k t158 t159 t160 _ A9.out).mono ?_
   rintro e w12 ⟨rfl, hb⟩
   refine ⟨_, rfl, ?_⟩
   have n_ : _ ∧ _ ∧ _ := ⟨AsM (blk_below (BD BK156) hb), AsM (blk_below (BD BK157) hb), AsM (below_step BG hb)⟩
   clear BK156 BK157 HB
   obtain ⟨BK156, BK157, HB⟩ := n_
   (try clear hb)
   (try clear hb2)
   (try clear hk)
   (try clear hi)
   refine hK.out _ _ ⟨(blk_cell BK157.out 0).trans rfl, (blk_cell BK157.out 1).trans rfl⟩ (fun hHeld => ?_)
   clear hK K
   refine NM (some 11) ?_
   refine PU (i := 3) (N := some 12) (tf 4 6) rfl rfl HT_ ?_
   refine PU (i := 4) (N := some 13) (tf 5 5) rfl rfl HT_ ?_
   refine PN (i := 5) (N := some 14) (tf 6 4) rfl rfl HT_ ?_
   refine PN (i := 6) (N := some 15) (tf 7 3) rfl rfl HT_ ?_
   refine PN (i := 7) (N := some 16) (tf 8 2) rfl rfl HT_ ?_
   refine PN (i := 8) (N := some 17) (tf 9 1) rfl rfl HT_ ?_
   refine PU (i := 9) (N := some 18) (tf 10 0) rfl rfl HT_ ?_
   refine done_ (done_of HT_.out (by kernel_rfl)) ?_
   try go_wp2
   go_meet
   case rel => exact ⟨_, (true), RS, H', ⟨by first | omega | exact Nat.le_refl _⟩, ⟨BD BK156⟩, ⟨BD BK157⟩, ⟨by repeat (first | (with_reducible first | exact HB.out | apply below_alloc | apply pw_below_drewN | apply below_drew1 | refine below_set ?_ GE156.out | refine below_set ?_ GE157.out) | exact HB.out)⟩⟩
  ·rw [if_neg c10] at H
   have c10b0 : (!(a1_0 == t159) || (!(a1_1.toList == t160.toList))) = false := by simpa using c10
   clear c10
   (first | rw [c10b0] | (simp only [i64_w, i32_w]; rw [c10b0]) | skip)
   have H' := Aside0.mk H
   clear H
   try go_wp2
   have n_ : _ ∧ _ ∧ _ := ⟨AsM (blk_drew BK156.out), AsM (blk_drew BK157.out), AsM (below_drew1 HB.out)⟩
   clear BK156 BK157 HB
   obtain ⟨BK156, BK157, HB⟩ := n_
   refine start_ (n := 10) (S := fun w' => w'.cell? ⟨gb157, 0, none⟩ = some (.int .i64 a1_0) ∧ w'.cell? ⟨gb157, 1, none⟩ = some (.string a1_1) ∧ w'.cell? ⟨gb156, 0, none⟩ = some (.int .i64 a0_0) ∧ w'.cell? ⟨gb156, 1, none⟩ = some (.slice A0_1 l0_1.length c0_1)) (ds := []) #[false, false, false, false, false, false, false, false, false, false] (by kernel_rfl) rfl rfl ⟨(blk_cell BK157.out 0).trans rfl, (blk_cell BK157.out 1).trans rfl, (blk_cell BK156.out 0).trans rfl, (blk_cell BK156.out 1).trans rfl⟩ (fun hHeld => ?_); refine with_tabW spec_l19Open.tab2 spec_l19Open.bits2 (fun HT_ HW_ => ?_)
   generalize w6.drew = w13 at BK156 BK157 HB hHeld ⊢
   refine PU (i := 1) (N := some 10) #[false, true, false, false, false, false, false, false, false, false] rfl rfl HT_ ?_
   refine PT (i := 0) (N := some 9) (tf 2 8) rfl rfl HT_ HW_ hHeld ?_
   refine one_ (i := 2) (N := some 11) (tf 3 7) rfl rfl (one_of HT_.out (by kernel_rfl)) (by decide) (fun K hK => ?_)
   refine goes_ Try.func55 (by kernel_rfl) rfl #[.int .i64 t158] (by rfl) rfl rfl AQ ?_
   with_reducible refine (spec_l19Dummy.calls k t158 t159 t160 _ A9.out).mono ?_
   rintro e w14 ⟨rfl, hb⟩
   refine ⟨_, rfl, ?_⟩
   have n_ : _ ∧ _ ∧ _ := ⟨AsM (blk_below (BD BK156) hb), AsM (blk_below (BD BK157) hb), AsM (below_step BG hb)⟩
   clear BK156 BK157 HB
   obtain ⟨BK156, BK157, HB⟩ := n_
   (try clear hb)
   (try clear hb2)
   (try clear hk)
   (try clear hi)
   refine hK.out _ _ ⟨(blk_cell BK157.out 0).trans rfl, (blk_cell BK157.out 1).trans rfl, (blk_cell BK156.out 0).trans rfl, (blk_cell BK156.out 1).trans rfl⟩ (fun hHeld => ?_)
   clear hK K
   refine NM (some 11) ?_
   refine PU (i := 3) (N := some 12) (tf 4 6) rfl rfl HT_ ?_
   refine PU (i := 4) (N := some 13) (tf 5 5) rfl rfl HT_ ?_
   refine PU (i := 5) (N := some 14) (tf 6 4) rfl rfl HT_ ?_
   refine PU (i := 6) (N := some 15) (tf 7 3) rfl rfl HT_ ?_
   refine PT (i := 7) (N := some 16) (tf 8 2) rfl rfl HT_ HW_ hHeld ?_
   refine PU (i := 8) (N := some 17) (tf 9 1) rfl rfl HT_ ?_
   refine PU (i := 9) (N := some 18) (tf 10 0) rfl rfl HT_ ?_
   refine done_ (done_of HT_.out (by kernel_rfl)) ?_
   try go_wp2
   go_meet
   case rel => exact ⟨_, (decide (t158 ≥ a0_0)), RS, H', ⟨by first | omega | exact Nat.le_refl _⟩, ⟨BD BK156⟩, ⟨BD BK157⟩, ⟨by repeat (first | (with_reducible first | exact HB.out | apply below_alloc | apply pw_below_drewN | apply below_drew1 | refine below_set ?_ GE156.out | refine below_set ?_ GE157.out) | exact HB.out)⟩⟩
 case rest =>
  clear HC4
  try clear c1
  try clear p2
  try clear c5
  try clear c7
  try clear c10
  try clear c10b0
  try clear hcz8_0
  try clear hcz8_1
  try clear hfz8_0
  try clear hfz8_1
  obtain ⟨kq, x18_3, rfl, HA, HJ3, BK156, BK157, HB⟩ := hcut
  cases kq with
  | zero => exact absurd HA.out (by simp [spec_l19Open.j0])
  | succ kj3 =>
   have H := HA.out
   clear HA
   simp only [spec_l19Open.j0] at H
   by_cases c15 : x18_3 = true
   ·subst c15
    replace H := IP H
    obtain rfl := Option.some.inj H
    go_wp2
    go_ret
    exact ⟨ER, BG⟩
   ·replace c15 := Bool.eq_false_iff.mpr c15
    subst c15
    replace H := IN H
    by_cases c16 : t158 = 0
    ·rw [if_pos c16] at H
     have c16b0 : (t158 == 0) = true := beq_iff_eq.mpr c16
     have c16b1 : (t158 != 0) = false := bne_eq_false_iff_eq.mpr c16
     clear c16
     obtain rfl := Option.some.inj H
     try go_wp2
     have n_ : _ ∧ _ ∧ _ := ⟨AsM (blk_drew BK156.out), AsM (blk_drew BK157.out), AsM (below_drew1 HB.out)⟩
     clear BK156 BK157 HB
     obtain ⟨BK156, BK157, HB⟩ := n_
     refine start_ (n := 11) (S := fun w' => True) (ds := []) #[false, false, false, false, false, false, false, false, false, false, false] (by kernel_rfl) rfl rfl trivial (fun hHeld => ?_); refine with_tabW spec_l19Open.tab4 spec_l19Open.bits4 (fun HT_ HW_ => ?_)
     generalize wc.drew = w17 at BK156 BK157 HB hHeld ⊢
     refine PU (i := 0) (N := some 19) (tf 1 10) rfl rfl HT_ ?_
     refine PU (i := 1) (N := some 20) (tf 2 9) rfl rfl HT_ ?_
     refine PU (i := 2) (N := some 21) (tf 3 8) rfl rfl HT_ ?_
     refine PN (i := 3) (N := some 22) (tf 4 7) rfl rfl HT_ ?_
     refine PN (i := 4) (N := some 23) (tf 5 6) rfl rfl HT_ ?_
     refine PN (i := 5) (N := some 24) (tf 6 5) rfl rfl HT_ ?_
     refine PN (i := 6) (N := some 25) (tf 7 4) rfl rfl HT_ ?_
     refine PN (i := 7) (N := some 26) (tf 8 3) rfl rfl HT_ ?_
     refine PN (i := 8) (N := some 27) (tf 9 2) rfl rfl HT_ ?_
     refine PU (i := 9) (N := some 28) (tf 10 1) rfl rfl HT_ ?_
     refine PU (i := 10) (N := some 4) (tf 11 0) rfl rfl HT_ ?_
     refine done_ (done_of HT_.out (by kernel_rfl)) ?_
     try go_wp2
     go_ret
     exact ⟨ER, BG⟩
    ·rw [if_neg c16] at H
     have c16b0 : (t158 == 0) = false := beq_eq_false_iff_ne.mpr c16
     have c16b1 : (t158 != 0) = true := bne_iff_ne.mpr c16
     replace H := BS H
     obtain ⟨t161, A180, H⟩ := H
     have A18 := Aside0.mk A180
     clear A180
     replace H := BS H
     obtain ⟨⟨t162, t163⟩, A190, H⟩ := H
     have A19 := Aside0.mk A190
     clear A190
     replace H := BS H
     obtain ⟨t164, A200, H⟩ := H
     have A20 := Aside0.mk A200
     clear A200
     obtain rfl := Option.some.inj H
     try go_wp2
     have n_ : _ ∧ _ ∧ _ := ⟨AsM (blk_drew BK156.out), AsM (blk_drew BK157.out), AsM (below_drew1 HB.out)⟩
     clear BK156 BK157 HB
     obtain ⟨BK156, BK157, HB⟩ := n_
     refine start_ (n := 11) (S := fun w' => w'.cell? ⟨gb156, 0, none⟩ = some (.int .i64 a0_0) ∧ w'.cell? ⟨gb156, 1, none⟩ = some (.slice A0_1 l0_1.length c0_1)) (ds := []) #[false, false, false, false, false, false, false, false, false, false, false] (by kernel_rfl) rfl rfl ⟨(blk_cell BK156.out 0).trans rfl, (blk_cell BK156.out 1).trans rfl⟩ (fun hHeld => ?_); refine with_tabW spec_l19Open.tab4 spec_l19Open.bits4 (fun HT_ HW_ => ?_)
     generalize wc.drew = w21 at BK156 BK157 HB hHeld ⊢
     refine PU (i := 0) (N := some 19) (tf 1 10) rfl rfl HT_ ?_
     refine PU (i := 1) (N := some 20) (tf 2 9) rfl rfl HT_ ?_
     refine PU (i := 2) (N := some 21) (tf 3 8) rfl rfl HT_ ?_
     refine PU (i := 4) (N := some 23) #[true, true, true, false, true, false, false, false, false, false, false] rfl rfl HT_ ?_
     refine PT (i := 3) (N := some 22) (tf 5 6) rfl rfl HT_ HW_ hHeld ?_
     refine one_ (i := 5) (N := some 24) (tf 6 5) rfl rfl (one_of HT_.out (by kernel_rfl)) (by decide) (fun K hK => ?_)
     refine goes_ Try.func71 (by kernel_rfl) rfl #[.int .i64 t158] (by rfl) rfl rfl AQ ?_
     with_reducible refine (spec_Parent.calls kj3 t158 t161 _ A18.out).mono ?_
     rintro e w' ⟨rfl, ⟨nd, rfl⟩⟩
     refine ⟨_, rfl, ?_⟩
     refine hK.out _ _ ⟨(blk_cell BK156.out 0).trans rfl, (blk_cell BK156.out 1).trans rfl⟩ (fun hHeld => ?_)
     clear hK K
     refine NM (some 24) ?_
     refine one_ (i := 6) (N := some 25) (tf 7 4) rfl rfl (one_of HT_.out (by kernel_rfl)) (by decide) (fun K hK => ?_)
     refine goes_ Try.func55 (by kernel_rfl) rfl #[.int .i64 t161] (by rfl) rfl rfl AQ ?_
     with_reducible refine (spec_l19Dummy.calls kj3 t161 t162 t163 _ A19.out).mono ?_
     rintro e w22 ⟨rfl, hb⟩
     refine ⟨_, rfl, ?_⟩
     have n_ : _ ∧ _ ∧ _ := ⟨AsM (blk_below (BD BK156) hb), AsM (blk_below (BD BK157) hb), AsM (below_step BG hb)⟩
     clear BK156 BK157 HB
     obtain ⟨BK156, BK157, HB⟩ := n_
     (try clear hb)
     (try clear hb2)
     (try clear hk)
     (try clear hi)
     refine hK.out _ _ ⟨(blk_cell BK156.out 0).trans rfl, (blk_cell BK156.out 1).trans rfl⟩ (fun hHeld => ?_)
     clear hK K
     refine NM (some 25) ?_
     refine one_ (i := 7) (N := some 26) (tf 8 3) rfl rfl (one_of HT_.out (by kernel_rfl)) (by decide) (fun K hK => ?_)
     refine goes_ Try.func54 (by kernel_rfl) rfl #[.agg #[.int .i64 a0_0, .slice A0_1 l0_1.length c0_1], .agg #[.int .i64 t162, .string t163]] (by rfl) rfl rfl AQ ?_
     with_reducible refine (spec_l19At.calls kj3 a0_0 _ _ l0_1 t162 t163 t164 _ ?side1 ?side2 A20.out).mono ?_
     (case side1 => exact SC HR0_1)
     (case side2 => exact HC0_1.out)
     rintro e w23 ⟨rfl, hb⟩
     refine ⟨_, rfl, ?_⟩
     have n_ : _ ∧ _ ∧ _ := ⟨AsM (blk_below (BD BK156) hb), AsM (blk_below (BD BK157) hb), AsM (below_step BG hb)⟩
     clear BK156 BK157 HB
     obtain ⟨BK156, BK157, HB⟩ := n_
     (try clear hb)
     (try clear hb2)
     (try clear hk)
     (try clear hi)
     refine hK.out _ _ ⟨(blk_cell BK156.out 0).trans rfl, (blk_cell BK156.out 1).trans rfl⟩ (fun hHeld => ?_)
     clear hK K
     refine NM (some 26) ?_
     refine PU (i := 8) (N := some 27) (tf 9 2) rfl rfl HT_ ?_
     refine PU (i := 9) (N := some 28) (tf 10 1) rfl rfl HT_ ?_
     refine PU (i := 10) (N := some 4) (tf 11 0) rfl rfl HT_ ?_
     refine done_ (done_of HT_.out (by kernel_rfl)) ?_
     try go_wp2
     go_ret
     exact ⟨ER, BG⟩
end Go.Proofs.Ytbjlldjkkdiblaa.G

namespace Go.Proofs.Ytbjlldjkkdiblaa.G
open Go.RowKit Go.Proofs.YtbjlldjkkdiblaaW.PrintWords Go.Proofs.YtbjlldjkkdiblaaW.PrintLast Go.Proofs.YtbjlldjkkdiblaaW.PrintMore Go.Proofs.Ytbjlldjkkdiblaa.Sh
attribute [local go_sem] max2_int min2_int max_two min_two max_three min_three max_four min_four
set_option linter.unusedVariables false
set_option linter.unusedSimpArgs false
def spec_l10Clean.l0 : Nat → ByteArray → Int → Option (Bool)
 | 0, _, _ => none
 | k + 1, x0, x3 => if x3 < (x0.size : Int) then (if 0 ≤ x3 then (if (bt x0 x3) = 32 then (some false) else (if (bt x0 x3) = 10 then (some false) else (spec_l10Clean.l0 k x0 (wrap64 (x3 + 1))))) else (none)) else (some true)
def spec_l10Clean.f (k : Nat) (a0 : ByteArray) : Option (Bool) := spec_l10Clean.l0 k a0 0
theorem spec_l10Clean.mono_l : ∀ k, (∀ y0 y1, LeO (spec_l10Clean.l0 k y0 y1) (spec_l10Clean.l0 (k + 1) y0 y1))
 | 0 => fun _ _ r h => by simp [spec_l10Clean.l0] at h
 | k + 1 => by
  have ih0 := spec_l10Clean.mono_l k
  ·intro y0 y1
   unfold spec_l10Clean.l0
   repeat' first | (with_reducible first | exact ih0 _ _ | exact LeO.refl _ | exact LeO.none _ | refine LeO.ite ?_ ?_ | refine LeO.bind ?_ (fun _ => ?_)) | exact ih0 _ _ | exact LeO.none _ | refine LeO.ite ?_ ?_ | refine LeO.bind ?_ (fun _ => ?_)
theorem spec_l10Clean.mono : ∀ a0 k, LeO (spec_l10Clean.f k a0) (spec_l10Clean.f (k + 1) a0) := by
 intro a0 k
 have ih0 := spec_l10Clean.mono_l k
 unfold spec_l10Clean.f
 repeat' first | (with_reducible first | exact ih0 _ _ | exact LeO.refl _ | exact LeO.none _ | refine LeO.ite ?_ ?_ | refine LeO.bind ?_ (fun _ => ?_)) | exact ih0 _ _ | exact LeO.none _ | refine LeO.ite ?_ ?_ | refine LeO.bind ?_ (fun _ => ?_)
set_option maxHeartbeats 8000000 in
set_option maxRecDepth 100000 in
theorem spec_l10Clean.calls (k : Nat) (a0 : ByteArray) (r : Bool) (w : World) (h : spec_l10Clean.f k a0 = some r) :
  Calls Try.prog 72 #[.string a0] w fun e w' => e = .returned (.bool r) ∧ Drawn0 w w' := by
 have H : (spec_l10Clean.l0 k a0 0) = some r := h
 clear h
 have H' := Aside0.mk H
 clear H
 go_enter Try.func72, Try.ntmps72
 go_wp2
 go_loopg [3] k (fun kq v3 w' => ∃ (x3_1 : Int), v3 = .int .i64 x3_1 ∧ Aside0 (spec_l10Clean.l0 kq a0 x3_1 = some r) ∧ Aside0 (kq ≤ k) ∧ Drawn0 w w')
 case atStart => exact ⟨(0), RS, H', ⟨Nat.le_refl _⟩, DR⟩
 case round =>
  clear H'
  obtain ⟨x3_1, rfl, HA, HK1, ⟨m1, rfl⟩⟩ := hrel
  cases gk with
  | zero => exact absurd HA.out (by simp [spec_l10Clean.l0])
  | succ k1 =>
   have H := HA.out
   clear HA
   simp only [spec_l10Clean.l0] at H
   by_cases c2 : x3_1 < (a0.size : Int)
   ·rw [if_pos c2] at H
    have c2b0 : decide (x3_1 < (a0.size : Int)) = true := decide_eq_true c2
    clear c2
    by_cases c3 : 0 ≤ x3_1
    ·rw [if_pos c3] at H
     have c3b0 : decide (0 ≤ x3_1) = true := decide_eq_true c3
     clear c3
     by_cases c5 : (bt a0 x3_1) = 32
     ·rw [if_pos c5] at H
      have c5b0 : ((bt a0 x3_1) == 32) = true := beq_iff_eq.mpr c5
      have c5b1 : ((bt a0 x3_1) != 32) = false := bne_eq_false_iff_eq.mpr c5
      clear c5
      obtain rfl := Option.some.inj H
      have p4 : 0 ≤ (x3_1 : Int) := of_decide_eq_true AS
      have q4 : x3_1 < (a0.size : Int) := of_decide_eq_true AS
      have hx4 := bt_at a0 x3_1
      replace p4 := eq_true p4
      replace q4 := eq_true q4
      go_wp2
      go_ret
      exact ⟨by first | rfl | (simp; done) | (simp [*]; done), DR⟩
     ·rw [if_neg c5] at H
      have c5b0 : ((bt a0 x3_1) == 32) = false := beq_eq_false_iff_ne.mpr c5
      have c5b1 : ((bt a0 x3_1) != 32) = true := bne_iff_ne.mpr c5
      by_cases c7 : (bt a0 x3_1) = 10
      ·rw [if_pos c7] at H
       have c7b0 : ((bt a0 x3_1) == 10) = true := beq_iff_eq.mpr c7
       have c7b1 : ((bt a0 x3_1) != 10) = false := bne_eq_false_iff_eq.mpr c7
       clear c7
       obtain rfl := Option.some.inj H
       have p4 : 0 ≤ (x3_1 : Int) := of_decide_eq_true AS
       have q4 : x3_1 < (a0.size : Int) := of_decide_eq_true AS
       have hx4 := bt_at a0 x3_1
       replace p4 := eq_true p4
       replace q4 := eq_true q4
       have p6 : 0 ≤ (x3_1 : Int) := of_decide_eq_true AS
       have q6 : x3_1 < (a0.size : Int) := of_decide_eq_true AS
       have hx6 := bt_at a0 x3_1
       replace p6 := eq_true p6
       replace q6 := eq_true q6
       go_wp2
       go_ret
       exact ⟨by first | rfl | (simp; done) | (simp [*]; done), DR⟩
      ·rw [if_neg c7] at H
       have c7b0 : ((bt a0 x3_1) == 10) = false := beq_eq_false_iff_ne.mpr c7
       have c7b1 : ((bt a0 x3_1) != 10) = true := bne_iff_ne.mpr c7
       have H' := Aside0.mk H
       clear H
       have p4 : 0 ≤ (x3_1 : Int) := of_decide_eq_true AS
       have q4 : x3_1 < (a0.size : Int) := of_decide_eq_true AS
       have hx4 := bt_at a0 x3_1
       replace p4 := eq_true p4
       replace q4 := eq_true q4
       have p6 : 0 ≤ (x3_1 : Int) := of_decide_eq_true AS
       have q6 : x3_1 < (a0.size : Int) := of_decide_eq_true AS
       have hx6 := bt_at a0 x3_1
       replace p6 := eq_true p6
       replace q6 := eq_true q6
       go_wp2
       go_roundg k1
       case measure => have := HK1.out; omega
       case rel => exact ⟨(wrap64 (x3_1 + 1)), RS, H', ⟨by have := HK1.out; omega⟩, DR⟩
    ·rw [if_neg c3] at H
     exact absurd H (by simp)
   ·rw [if_neg c2] at H
    have c2b0 : decide (x3_1 < (a0.size : Int)) = false := decide_eq_false c2
    clear c2
    obtain rfl := Option.some.inj H
    go_wp2
    go_ret
    exact ⟨by first | rfl | (simp; done) | (simp [*]; done), DR⟩
def spec_ItemOk.f (k : Nat) (a0_0 : ByteArray) (a0_1 : ByteArray) (a0_2 : Int) : Option (Bool) := if (a0_0.size : Int) ≥ 1 then (if (a0_0.size : Int) ≤ 20 then ((spec_l10Clean.f k a0_0).bind fun t166 => (if t166 = true then (if (a0_1.size : Int) ≤ 40 then ((spec_l10Clean.f k a0_1).bind fun t167 => (if t167 = true then ((spec_l01In.f a0_2 0 3).bind fun t168 => (some t168)) else (some false))) else (some false)) else (some false))) else (some false)) else (some false)
theorem spec_ItemOk.mono : ∀ a0 a1 a2 k, LeO (spec_ItemOk.f k a0 a1 a2) (spec_ItemOk.f (k + 1) a0 a1 a2) := by
 intro a0 a1 a2 k
 unfold spec_ItemOk.f
 repeat' first | (with_reducible first | exact spec_l10Clean.mono _ _ | exact LeO.refl _ | exact LeO.none _ | refine LeO.ite ?_ ?_ | refine LeO.bind ?_ (fun _ => ?_)) | exact spec_l10Clean.mono _ _ | exact LeO.none _ | refine LeO.ite ?_ ?_ | refine LeO.bind ?_ (fun _ => ?_)
set_option maxHeartbeats 8000000 in
set_option maxRecDepth 100000 in
theorem spec_ItemOk.calls (k : Nat) (a0_0 : ByteArray) (a0_1 : ByteArray) (a0_2 : Int) (r : Bool) (w : World) (h : spec_ItemOk.f k a0_0 a0_1 a0_2 = some r) :
  Calls Try.prog 58 #[.agg #[.string a0_0, .string a0_1, .int .i64 a0_2]] w fun e w' => e = .returned (.bool r) ∧ Below w.heap.size w w' := by
 have hu55 := Try.underlying55
 have HB := Aside0.mk (Below.refl w.heap.size w)
 have H : (if (a0_0.size : Int) ≥ 1 then (if (a0_0.size : Int) ≤ 20 then ((spec_l10Clean.f k a0_0).bind fun t166 => (if t166 = true then (if (a0_1.size : Int) ≤ 40 then ((spec_l10Clean.f k a0_1).bind fun t167 => (if t167 = true then ((spec_l01In.f a0_2 0 3).bind fun t168 => (some t168)) else (some false))) else (some false)) else (some false))) else (some false)) else (some false)) = some r := h
 clear h
 by_cases c2 : (a0_0.size : Int) ≥ 1
 ·rw [if_pos c2] at H
  have c2b0 : decide (1 ≤ (a0_0.size : Int)) = true := decide_eq_true c2
  have c2b1 : decide (1 ≤ a0_0.size) = true := decide_eq_true (by omega)
  clear c2
  by_cases c3 : (a0_0.size : Int) ≤ 20
  ·rw [if_pos c3] at H
   have c3b0 : decide ((a0_0.size : Int) ≤ 20) = true := decide_eq_true c3
   have c3b1 : decide (a0_0.size ≤ 20) = true := decide_eq_true (by omega)
   clear c3
   replace H := BS H
   obtain ⟨t166, A40, H⟩ := H
   have A4 := Aside0.mk A40
   clear A40
   by_cases c5 : t166 = true
   ·subst c5
    replace H := IP H
    by_cases c6 : (a0_1.size : Int) ≤ 40
    ·rw [if_pos c6] at H
     have c6b0 : decide ((a0_1.size : Int) ≤ 40) = true := decide_eq_true c6
     have c6b1 : decide (a0_1.size ≤ 40) = true := decide_eq_true (by omega)
     clear c6
     replace H := BS H
     obtain ⟨t167, A70, H⟩ := H
     have A7 := Aside0.mk A70
     clear A70
     by_cases c8 : t167 = true
     ·subst c8
      replace H := IP H
      replace H := BS H
      obtain ⟨t168, A90, H⟩ := H
      have A9 := Aside0.mk A90
      clear A90
      obtain rfl := Option.some.inj H
      go_enter Try.func58, Try.ntmps58
      go_wp2_with (first | ((with_reducible refine gate_dst (N := 1) rfl ?_); (try (refine gate_guard (by rfl) ?_; dsimp only)); refine box_event ?hg (N := 1) ?hd (cs := #[.string a0_0, .string a0_1, .int .i64 a0_2]) (t := 55) ?hr ?_; (case hd => rfl); (case hg => rfl); (case hr => first | (go_simp; done) | (go_simp; rfl)); intro gb165 hg w10 hbox hb; have n_ : _ ∧ _ ∧ _ ∧ _ := ⟨AsM (below_step BL hb), AsM (hbox), AsM ((GL : w.heap.size ≤ gb165)), AsM ((GL : w.heap.size ≤ gb165))⟩; clear HB; obtain ⟨HB, BK165, GW165, GE165⟩ := n_; clear hb hbox hg; obtain ⟨hcz11_0, hcz11_1, hcz11_2, hfz11_0, hfz11_1, hfz11_2⟩ := bk3 BK165.out) | (go_at_call 72; (with_reducible refine (spec_l10Clean.calls k a0_0 true _ A4.out).mono ?_); rintro e w' ⟨rfl, ⟨nd, rfl⟩⟩) | (go_at_call 72; (with_reducible refine (spec_l10Clean.calls k a0_1 true _ A7.out).mono ?_); rintro e w' ⟨rfl, ⟨nd, rfl⟩⟩) | (go_at_call 73; (with_reducible refine (spec_l01In.calls a0_2 0 3 t168 _ A9.out).mono ?_); rintro e w' ⟨rfl, ⟨nd, rfl⟩⟩))
      go_ret
      exact ⟨ER, BG⟩
     ·replace c8 := Bool.eq_false_iff.mpr c8
      subst c8
      replace H := IN H
      obtain rfl := Option.some.inj H
      go_enter Try.func58, Try.ntmps58
      go_wp2_with (first | ((with_reducible refine gate_dst (N := 1) rfl ?_); (try (refine gate_guard (by rfl) ?_; dsimp only)); refine box_event ?hg (N := 1) ?hd (cs := #[.string a0_0, .string a0_1, .int .i64 a0_2]) (t := 55) ?hr ?_; (case hd => rfl); (case hg => rfl); (case hr => first | (go_simp; done) | (go_simp; rfl)); intro gb165 hg w12 hbox hb; have n_ : _ ∧ _ ∧ _ ∧ _ := ⟨AsM (below_step BL hb), AsM (hbox), AsM ((GL : w.heap.size ≤ gb165)), AsM ((GL : w.heap.size ≤ gb165))⟩; clear HB; obtain ⟨HB, BK165, GW165, GE165⟩ := n_; clear hb hbox hg; obtain ⟨hcz13_0, hcz13_1, hcz13_2, hfz13_0, hfz13_1, hfz13_2⟩ := bk3 BK165.out) | (go_at_call 72; (with_reducible refine (spec_l10Clean.calls k a0_0 true _ A4.out).mono ?_); rintro e w' ⟨rfl, ⟨nd, rfl⟩⟩) | (go_at_call 72; (with_reducible refine (spec_l10Clean.calls k a0_1 false _ A7.out).mono ?_); rintro e w' ⟨rfl, ⟨nd, rfl⟩⟩))
      go_ret
      exact ⟨ER, BG⟩
    ·rw [if_neg c6] at H
     have c6b0 : decide ((a0_1.size : Int) ≤ 40) = false := decide_eq_false c6
     have c6b1 : decide (a0_1.size ≤ 40) = false := decide_eq_false (by omega)
     clear c6
     obtain rfl := Option.some.inj H
     go_enter Try.func58, Try.ntmps58
     go_wp2_with (first | ((with_reducible refine gate_dst (N := 1) rfl ?_); (try (refine gate_guard (by rfl) ?_; dsimp only)); refine box_event ?hg (N := 1) ?hd (cs := #[.string a0_0, .string a0_1, .int .i64 a0_2]) (t := 55) ?hr ?_; (case hd => rfl); (case hg => rfl); (case hr => first | (go_simp; done) | (go_simp; rfl)); intro gb165 hg w14 hbox hb; have n_ : _ ∧ _ ∧ _ ∧ _ := ⟨AsM (below_step BL hb), AsM (hbox), AsM ((GL : w.heap.size ≤ gb165)), AsM ((GL : w.heap.size ≤ gb165))⟩; clear HB; obtain ⟨HB, BK165, GW165, GE165⟩ := n_; clear hb hbox hg; obtain ⟨hcz15_0, hcz15_1, hcz15_2, hfz15_0, hfz15_1, hfz15_2⟩ := bk3 BK165.out) | (go_at_call 72; (with_reducible refine (spec_l10Clean.calls k a0_0 true _ A4.out).mono ?_); rintro e w' ⟨rfl, ⟨nd, rfl⟩⟩))
     go_ret
     exact ⟨ER, BG⟩
   ·replace c5 := Bool.eq_false_iff.mpr c5
    subst c5
    replace H := IN H
    obtain rfl := Option.some.inj H
    go_enter Try.func58, Try.ntmps58
    go_wp2_with (first | ((with_reducible refine gate_dst (N := 1) rfl ?_); (try (refine gate_guard (by rfl) ?_; dsimp only)); refine box_event ?hg (N := 1) ?hd (cs := #[.string a0_0, .string a0_1, .int .i64 a0_2]) (t := 55) ?hr ?_; (case hd => rfl); (case hg => rfl); (case hr => first | (go_simp; done) | (go_simp; rfl)); intro gb165 hg w16 hbox hb; have n_ : _ ∧ _ ∧ _ ∧ _ := ⟨AsM (below_step BL hb), AsM (hbox), AsM ((GL : w.heap.size ≤ gb165)), AsM ((GL : w.heap.size ≤ gb165))⟩; clear HB; obtain ⟨HB, BK165, GW165, GE165⟩ := n_; clear hb hbox hg; obtain ⟨hcz17_0, hcz17_1, hcz17_2, hfz17_0, hfz17_1, hfz17_2⟩ := bk3 BK165.out) | (go_at_call 72; (with_reducible refine (spec_l10Clean.calls k a0_0 false _ A4.out).mono ?_); rintro e w' ⟨rfl, ⟨nd, rfl⟩⟩))
    go_ret
    exact ⟨ER, BG⟩
  ·rw [if_neg c3] at H
   have c3b0 : decide ((a0_0.size : Int) ≤ 20) = false := decide_eq_false c3
   have c3b1 : decide (a0_0.size ≤ 20) = false := decide_eq_false (by omega)
   clear c3
   obtain rfl := Option.some.inj H
   go_enter Try.func58, Try.ntmps58
   go_wp2_with (first | ((with_reducible refine gate_dst (N := 1) rfl ?_); (try (refine gate_guard (by rfl) ?_; dsimp only)); refine box_event ?hg (N := 1) ?hd (cs := #[.string a0_0, .string a0_1, .int .i64 a0_2]) (t := 55) ?hr ?_; (case hd => rfl); (case hg => rfl); (case hr => first | (go_simp; done) | (go_simp; rfl)); intro gb165 hg w18 hbox hb; have n_ : _ ∧ _ ∧ _ ∧ _ := ⟨AsM (below_step BL hb), AsM (hbox), AsM ((GL : w.heap.size ≤ gb165)), AsM ((GL : w.heap.size ≤ gb165))⟩; clear HB; obtain ⟨HB, BK165, GW165, GE165⟩ := n_; clear hb hbox hg; obtain ⟨hcz19_0, hcz19_1, hcz19_2, hfz19_0, hfz19_1, hfz19_2⟩ := bk3 BK165.out))
   go_ret
   exact ⟨ER, BG⟩
 ·rw [if_neg c2] at H
  have c2b0 : decide (1 ≤ (a0_0.size : Int)) = false := decide_eq_false c2
  have c2b1 : decide (1 ≤ a0_0.size) = false := decide_eq_false (by omega)
  clear c2
  obtain rfl := Option.some.inj H
  go_enter Try.func58, Try.ntmps58
  go_wp2_with (first | ((with_reducible refine gate_dst (N := 1) rfl ?_); (try (refine gate_guard (by rfl) ?_; dsimp only)); refine box_event ?hg (N := 1) ?hd (cs := #[.string a0_0, .string a0_1, .int .i64 a0_2]) (t := 55) ?hr ?_; (case hd => rfl); (case hg => rfl); (case hr => first | (go_simp; done) | (go_simp; rfl)); intro gb165 hg w20 hbox hb; have n_ : _ ∧ _ ∧ _ ∧ _ := ⟨AsM (below_step BL hb), AsM (hbox), AsM ((GL : w.heap.size ≤ gb165)), AsM ((GL : w.heap.size ≤ gb165))⟩; clear HB; obtain ⟨HB, BK165, GW165, GE165⟩ := n_; clear hb hbox hg; obtain ⟨hcz21_0, hcz21_1, hcz21_2, hfz21_0, hfz21_1, hfz21_2⟩ := bk3 BK165.out))
  go_ret
  exact ⟨ER, BG⟩
def spec_OrderKey.f (k : Nat) (a0 : Int) : Option (Int) := (spec_l01Num.f a0).bind fun t169 => (if t169 = true then ((spec_Flip.f k a0).bind fun t170 => (some (wrap64 ((wrap64 ((wrap64 (Int.tdiv t170 2)) * 2)) + 1)))) else (some 0))
theorem spec_OrderKey.mono : ∀ a0 k, LeO (spec_OrderKey.f k a0) (spec_OrderKey.f (k + 1) a0) := by
 intro a0 k
 unfold spec_OrderKey.f
 repeat' first | (with_reducible first | exact spec_Flip.mono _ _ | exact LeO.refl _ | exact LeO.none _ | refine LeO.ite ?_ ?_ | refine LeO.bind ?_ (fun _ => ?_)) | exact spec_Flip.mono _ _ | exact LeO.none _ | refine LeO.ite ?_ ?_ | refine LeO.bind ?_ (fun _ => ?_)
set_option maxHeartbeats 8000000 in
set_option maxRecDepth 100000 in
theorem spec_OrderKey.calls (k : Nat) (a0 : Int) (r : Int) (w : World) (h : spec_OrderKey.f k a0 = some r) :
  Calls Try.prog 74 #[.int .i64 a0] w fun e w' => e = .returned (.int .i64 r) ∧ Drawn0 w w' := by
 have H : ((spec_l01Num.f a0).bind fun t169 => (if t169 = true then ((spec_Flip.f k a0).bind fun t170 => (some (wrap64 ((wrap64 ((wrap64 (Int.tdiv t170 2)) * 2)) + 1)))) else (some 0))) = some r := h
 clear h
 replace H := BS H
 obtain ⟨t169, A20, H⟩ := H
 have A2 := Aside0.mk A20
 clear A20
 by_cases c3 : t169 = true
 ·subst c3
  replace H := IP H
  replace H := BS H
  obtain ⟨t170, A40, H⟩ := H
  have A4 := Aside0.mk A40
  clear A40
  obtain rfl := Option.some.inj H
  go_enter Try.func74, Try.ntmps74
  go_wp2_with (first | ((with_reducible refine gate_callee (f := 82) rfl ?_); refine goesL_ (some 4) rfl rfl Try.func82 (by kernel_rfl) rfl #[.int .i64 a0] rfl AQ ?_; (with_reducible refine (spec_l01Num.calls a0 true _ A2.out).mono ?_); rintro e w' ⟨rfl, ⟨nd, rfl⟩⟩; refine ⟨_, rfl, ?_⟩) | ((with_reducible refine gate_callee (f := 70) rfl ?_); refine goesL_ (some 7) rfl rfl Try.func70 (by kernel_rfl) rfl #[.int .i64 a0] rfl AQ ?_; (with_reducible refine (spec_Flip.calls k a0 t170 _ A4.out).mono ?_); rintro e w' ⟨rfl, ⟨nd, rfl⟩⟩; refine ⟨_, rfl, ?_⟩))
  go_ret
  exact ⟨by first | rfl | (simp; done) | (simp [*]; done), DR⟩
 ·replace c3 := Bool.eq_false_iff.mpr c3
  subst c3
  replace H := IN H
  obtain rfl := Option.some.inj H
  go_enter Try.func74, Try.ntmps74
  go_wp2_with (first | ((with_reducible refine gate_callee (f := 82) rfl ?_); refine goesL_ (some 4) rfl rfl Try.func82 (by kernel_rfl) rfl #[.int .i64 a0] rfl AQ ?_; (with_reducible refine (spec_l01Num.calls a0 false _ A2.out).mono ?_); rintro e w' ⟨rfl, ⟨nd, rfl⟩⟩; refine ⟨_, rfl, ?_⟩))
  go_ret
  exact ⟨by first | rfl | (simp; done) | (simp [*]; done), DR⟩
def spec_Hash.l0 : Nat → ByteArray → Int → Int → Option (Int)
 | 0, _, _, _ => none
 | k + 1, x0, x3, x4 => if x4 < (x0.size : Int) then (if 0 ≤ x4 then (spec_Hash.l0 k x0 (Int.tmod (wrap64 ((Go.bits .xor .i64 x3 (wrap64 (bt x0 x4))) * 16777619)) 4294967296) (wrap64 (x4 + 1))) else (none)) else (some x3)
def spec_Hash.f (k : Nat) (a0 : ByteArray) : Option (Int) := spec_Hash.l0 k a0 2166136261 0
theorem spec_Hash.mono_l : ∀ k, (∀ y0 y1 y2, LeO (spec_Hash.l0 k y0 y1 y2) (spec_Hash.l0 (k + 1) y0 y1 y2))
 | 0 => fun _ _ _ r h => by simp [spec_Hash.l0] at h
 | k + 1 => by
  have ih0 := spec_Hash.mono_l k
  ·intro y0 y1 y2
   unfold spec_Hash.l0
   repeat' first | (with_reducible first | exact ih0 _ _ _ | exact LeO.refl _ | exact LeO.none _ | refine LeO.ite ?_ ?_ | refine LeO.bind ?_ (fun _ => ?_)) | exact ih0 _ _ _ | exact LeO.none _ | refine LeO.ite ?_ ?_ | refine LeO.bind ?_ (fun _ => ?_)
theorem spec_Hash.mono : ∀ a0 k, LeO (spec_Hash.f k a0) (spec_Hash.f (k + 1) a0) := by
 intro a0 k
 have ih0 := spec_Hash.mono_l k
 unfold spec_Hash.f
 repeat' first | (with_reducible first | exact ih0 _ _ _ | exact LeO.refl _ | exact LeO.none _ | refine LeO.ite ?_ ?_ | refine LeO.bind ?_ (fun _ => ?_)) | exact ih0 _ _ _ | exact LeO.none _ | refine LeO.ite ?_ ?_ | refine LeO.bind ?_ (fun _ => ?_)
set_option maxHeartbeats 8000000 in
set_option maxRecDepth 100000 in
theorem spec_Hash.calls (k : Nat) (a0 : ByteArray) (r : Int) (w : World) (h : spec_Hash.f k a0 = some r) :
  Calls Try.prog 75 #[.string a0] w fun e w' => e = .returned (.int .i64 r) ∧ Drawn0 w w' := by
 have H : (spec_Hash.l0 k a0 2166136261 0) = some r := h
 clear h
 have H' := Aside0.mk H
 clear H
 go_enter Try.func75, Try.ntmps75
 go_wp2
 go_loopg [3, 4] k (fun kq v3 v4 w' => ∃ (x3_1 : Int) (x4_1 : Int), v3 = .int .i64 x3_1 ∧ v4 = .int .i64 x4_1 ∧ Aside0 (spec_Hash.l0 kq a0 x3_1 x4_1 = some r) ∧ Aside0 (kq ≤ k) ∧ Drawn0 w w')
 case atStart => exact ⟨(2166136261), (0), RS, RS, H', ⟨Nat.le_refl _⟩, DR⟩
 case round =>
  clear H'
  obtain ⟨x3_1, x4_1, rfl, rfl, HA, HK1, ⟨m1, rfl⟩⟩ := hrel
  cases gk with
  | zero => exact absurd HA.out (by simp [spec_Hash.l0])
  | succ k1 =>
   have H := HA.out
   clear HA
   simp only [spec_Hash.l0] at H
   by_cases c2 : x4_1 < (a0.size : Int)
   ·rw [if_pos c2] at H
    have c2b0 : decide (x4_1 < (a0.size : Int)) = true := decide_eq_true c2
    clear c2
    by_cases c3 : 0 ≤ x4_1
    ·rw [if_pos c3] at H
     have c3b0 : decide (0 ≤ x4_1) = true := decide_eq_true c3
     clear c3
     have H' := Aside0.mk H
     clear H
     have p4 : 0 ≤ (x4_1 : Int) := of_decide_eq_true AS
     have q4 : x4_1 < (a0.size : Int) := of_decide_eq_true AS
     have hx4 := bt_at a0 x4_1
     replace p4 := eq_true p4
     replace q4 := eq_true q4
     go_wp2
     go_roundg k1
     case measure => have := HK1.out; omega
     case rel => exact ⟨(Int.tmod (wrap64 ((Go.bits .xor .i64 x3_1 (wrap64 (bt a0 x4_1))) * 16777619)) 4294967296), (wrap64 (x4_1 + 1)), RS, RS, H', ⟨by have := HK1.out; omega⟩, DR⟩
    ·rw [if_neg c3] at H
     exact absurd H (by simp)
   ·rw [if_neg c2] at H
    have c2b0 : decide (x4_1 < (a0.size : Int)) = false := decide_eq_false c2
    clear c2
    obtain rfl := Option.some.inj H
    go_wp2
    go_ret
    exact ⟨by first | rfl | (simp; done) | (simp [*]; done), DR⟩
def spec_l19Key.f (k : Nat) (a0 : ByteArray) : Option (Int × ByteArray) := (spec_Hash.f k a0).bind fun t172 => ((spec_OrderKey.f k t172).bind fun t173 => (some (t173, a0)))
theorem spec_l19Key.mono : ∀ a0 k, LeO (spec_l19Key.f k a0) (spec_l19Key.f (k + 1) a0) := by
 intro a0 k
 unfold spec_l19Key.f
 repeat' first | (with_reducible first | exact spec_Hash.mono _ _ | exact spec_OrderKey.mono _ _ | exact LeO.refl _ | exact LeO.none _ | refine LeO.ite ?_ ?_ | refine LeO.bind ?_ (fun _ => ?_)) | exact spec_Hash.mono _ _ | exact spec_OrderKey.mono _ _ | exact LeO.none _ | refine LeO.ite ?_ ?_ | refine LeO.bind ?_ (fun _ => ?_)
set_option maxHeartbeats 8000000 in
set_option maxRecDepth 100000 in
theorem spec_l19Key.calls (k : Nat) (a0 : ByteArray) (r1 : Int) (r2 : ByteArray) (w : World) (h : spec_l19Key.f k a0 = some (r1, r2)) :
  Calls Try.prog 59 #[.string a0] w fun e w' => e = .returned (.agg #[.int .i64 r1, .string r2]) ∧ Below w.heap.size w w' := by
 have hu49 := Try.underlying49
 have HB := Aside0.mk (Below.refl w.heap.size w)
 have H : ((spec_Hash.f k a0).bind fun t172 => ((spec_OrderKey.f k t172).bind fun t173 => (some (t173, a0)))) = some (r1, r2) := h
 clear h
 replace H := BS H
 obtain ⟨t172, A20, H⟩ := H
 have A2 := Aside0.mk A20
 clear A20
 replace H := BS H
 obtain ⟨t173, A30, H⟩ := H
 have A3 := Aside0.mk A30
 clear A30
 simp only [Option.some.injEq, Prod.mk.injEq] at H
 obtain ⟨rfl, rfl⟩ := H
 go_enter Try.func59, Try.ntmps59
 go_wp2_with (first | ((with_reducible refine gate_dst (N := 2) rfl ?_); refine box_event ?hg (N := 2) ?hd (cs := #[.int .i64 0, .string (⟨#[]⟩ : ByteArray)]) (t := 49) ?hr ?_; (case hd => rfl); (case hg => rfl); (case hr => first | (go_simp; done) | (go_simp; rfl)); intro gb171 hg w4 hbox hb; have n_ : _ ∧ _ ∧ _ ∧ _ := ⟨AsM (below_step BL hb), AsM (hbox), AsM ((GL : w.heap.size ≤ gb171)), AsM ((GL : w.heap.size ≤ gb171))⟩; clear HB; obtain ⟨HB, BK171, GW171, GE171⟩ := n_; clear hb hbox hg) | ((with_reducible refine gate_callee (f := 75) rfl ?_); refine goesL_ (some 4) rfl rfl Try.func75 (by kernel_rfl) rfl #[.string a0] rfl AQ ?_; (with_reducible refine (spec_Hash.calls k a0 t172 _ A2.out).mono ?_); rintro e w' ⟨rfl, ⟨nd, rfl⟩⟩; refine ⟨_, rfl, ?_⟩; (try (rw [drewN_self w4]; generalize hq_ : World.drewN w4 _ = w4; have n0_ : Aside0 (w4.heap[gb171]? = some (.cells #[.int .i64 0, .string (⟨#[]⟩ : ByteArray)] 49 (0, 0))) := ⟨by rw [← hq_]; exact (BD BK171)⟩; have n1_ : Aside0 (Below w.heap.size w w4) := ⟨by rw [← hq_]; exact BG⟩; clear BK171 HB hq_; have BK171 := n0_; have HB := n1_; clear n0_ n1_))) | ((with_reducible refine gate_callee (f := 74) rfl ?_); refine goesL_ (some 5) rfl rfl Try.func74 (by kernel_rfl) rfl #[.int .i64 t172] rfl AQ ?_; (with_reducible refine (spec_OrderKey.calls k t172 t173 _ A3.out).mono ?_); rintro e w' ⟨rfl, ⟨nd, rfl⟩⟩; refine ⟨_, rfl, ?_⟩; (try (rw [drewN_self w4]; generalize hq_ : World.drewN w4 _ = w4; have n0_ : Aside0 (w4.heap[gb171]? = some (.cells #[.int .i64 0, .string (⟨#[]⟩ : ByteArray)] 49 (0, 0))) := ⟨by rw [← hq_]; exact (BD BK171)⟩; have n1_ : Aside0 (Below w.heap.size w w4) := ⟨by rw [← hq_]; exact BG⟩; clear BK171 HB hq_; have BK171 := n0_; have HB := n1_; clear n0_ n1_)); obtain ⟨hcz5_0, hcz5_1, hfz5_0, hfz5_1⟩ := bk2 BK171.out))
 refine bodyPost_ret (results_cell_row rfl _ _ gb171 49 #[.int .i64 t173, .string a0] (0, 0) _ rfl (by refine PX ?_; refine blk_put (cs := #[.int .i64 t173, .string (⟨#[]⟩ : ByteArray)]) ?_ 1 _ rfl; refine PX ?_; refine blk_put (cs := #[.int .i64 0, .string (⟨#[]⟩ : ByteArray)]) ?_ 0 _ rfl; exact BD BK171) Try.underlying49 rfl (by kernel_rfl)) rfl ?_
 exact ⟨ER, BG⟩
end Go.Proofs.Ytbjlldjkkdiblaa.G

namespace Go.Proofs.Ytbjlldjkkdiblaa.G
open Go.RowKit Go.Proofs.YtbjlldjkkdiblaaW.PrintWords Go.Proofs.YtbjlldjkkdiblaaW.PrintLast Go.Proofs.YtbjlldjkkdiblaaW.PrintMore Go.Proofs.Ytbjlldjkkdiblaa.Sh
attribute [local go_sem] max2_int min2_int max_two min_two max_three min_three max_four min_four
set_option linter.unusedVariables false
set_option linter.unusedSimpArgs false
attribute [local go_sem high] eqA49
mutual
def spec_TableOk.j0 : Nat → Int → Bool → Int → List (S49) → Option (Bool)
 | 0, _, _, _, _ => none
 | k + 1, x3, x15, x175000, x175001 => if x15 = true then (some false) else (spec_TableOk.l0 k x3 x175001 (x175001.length : Int) 0 x175000 x175001)
def spec_TableOk.l0 : Nat → Int → List (S49) → Int → Int → Int → List (S49) → Option (Bool)
 | 0, _, _, _, _, _, _ => none
 | k + 1, x3, x17, x18, x19, x175000, x175001 => if x19 < x18 then (if 0 ≤ x19 then (if x19 < (x17.length : Int) then (if x19 > 0 then (if 0 ≤ (wrap64 (x19 - 1)) then (if (wrap64 (x19 - 1)) < (x175001.length : Int) then ((spec_l19Before.f ((rd_T49 x175001 (wrap64 (x19 - 1))).f0) ((rd_T49 x175001 (wrap64 (x19 - 1))).f1) ((rd_T49 x17 x19).f0) ((rd_T49 x17 x19).f1)).bind fun t182 => (spec_TableOk.j2 k x3 x17 x18 x19 (!t182) x175000 x175001 ((rd_T49 x17 x19).f0) ((rd_T49 x17 x19).f1))) else (none)) else (none)) else (spec_TableOk.j2 k x3 x17 x18 x19 false x175000 x175001 ((rd_T49 x17 x19).f0) ((rd_T49 x17 x19).f1))) else (none)) else (none)) else (some (decide (x3 ≤ 200)))
def spec_TableOk.j2 : Nat → Int → List (S49) → Int → Int → Bool → Int → List (S49) → Int → ByteArray → Option (Bool)
 | 0, _, _, _, _, _, _, _, _, _ => none
 | k + 1, x3, x17, x18, x19, x36, x175000, x175001, x181000, x181001 => if x36 = true then (some false) else (if x181001.toList = ([] : List UInt8) then ((spec_l19Open.f k x175000 x175001 x181000 x181001).bind fun t183 => (if t183 = true then (spec_TableOk.l0 k x3 x17 x18 (wrap64 (x19 + 1)) x175000 x175001) else (some false))) else ((spec_ItemOk.f k x181001 (⟨#[]⟩ : ByteArray) 0).bind fun t184 => (if t184 = true then ((spec_l19Key.f k x181001).bind fun bt185 => (if (!(x181000 == bt185.1) || (!(x181001.toList == bt185.2.toList))) = true then (some false) else (spec_TableOk.l0 k (wrap64 (x3 + 1)) x17 x18 (wrap64 (x19 + 1)) x175000 x175001))) else (some false))))
end
def spec_TableOk.f (k : Nat) (a0_0 : Int) (l0_1 : List (S49)) : Option (Bool) := (spec_l19Size.f k a0_0).bind fun t175 => (if t175 = true then ((spec_l19Dummy.f k 0).bind fun bt176 => ((spec_l19At.f k a0_0 l0_1 bt176.1 bt176.2).bind fun t178 => (spec_TableOk.j0 k 0 (decide (t178 < 0)) a0_0 l0_1))) else (spec_TableOk.j0 k 0 true a0_0 l0_1))
theorem spec_TableOk.mono_l : ∀ k, (∀ y0 y1 y2 y3, LeO (spec_TableOk.j0 k y0 y1 y2 y3) (spec_TableOk.j0 (k + 1) y0 y1 y2 y3)) ∧ (∀ y0 y1 y2 y3 y4 y5, LeO (spec_TableOk.l0 k y0 y1 y2 y3 y4 y5) (spec_TableOk.l0 (k + 1) y0 y1 y2 y3 y4 y5)) ∧ (∀ y0 y1 y2 y3 y4 y5 y6 y7 y8, LeO (spec_TableOk.j2 k y0 y1 y2 y3 y4 y5 y6 y7 y8) (spec_TableOk.j2 (k + 1) y0 y1 y2 y3 y4 y5 y6 y7 y8))
 | 0 => ⟨fun _ _ _ _ r h => by simp [spec_TableOk.j0] at h, fun _ _ _ _ _ _ r h => by simp [spec_TableOk.l0] at h, fun _ _ _ _ _ _ _ _ _ r h => by simp [spec_TableOk.j2] at h⟩
 | k + 1 => by
  obtain ⟨ih0, ih1, ih2⟩ := spec_TableOk.mono_l k
  refine ⟨?_, ?_, ?_⟩
  ·intro y0 y1 y2 y3
   unfold spec_TableOk.j0
   repeat' first | (with_reducible first | exact ih0 _ _ _ _ | exact ih1 _ _ _ _ _ _ | exact ih2 _ _ _ _ _ _ _ _ _ | exact spec_ItemOk.mono _ _ _ _ | exact spec_l19At.mono _ _ _ _ _ | exact spec_l19Dummy.mono _ _ | exact spec_l19Key.mono _ _ | exact spec_l19Open.mono _ _ _ _ _ | exact spec_l19Size.mono _ _ | exact LeO.refl _ | exact LeO.none _ | refine LeO.ite ?_ ?_ | refine LeO.bind ?_ (fun _ => ?_)) | exact ih0 _ _ _ _ | exact ih1 _ _ _ _ _ _ | exact ih2 _ _ _ _ _ _ _ _ _ | exact spec_ItemOk.mono _ _ _ _ | exact spec_l19At.mono _ _ _ _ _ | exact spec_l19Dummy.mono _ _ | exact spec_l19Key.mono _ _ | exact spec_l19Open.mono _ _ _ _ _ | exact spec_l19Size.mono _ _ | exact LeO.none _ | refine LeO.ite ?_ ?_ | refine LeO.bind ?_ (fun _ => ?_)
  ·intro y0 y1 y2 y3 y4 y5
   unfold spec_TableOk.l0
   repeat' first | (with_reducible first | exact ih0 _ _ _ _ | exact ih1 _ _ _ _ _ _ | exact ih2 _ _ _ _ _ _ _ _ _ | exact spec_ItemOk.mono _ _ _ _ | exact spec_l19At.mono _ _ _ _ _ | exact spec_l19Dummy.mono _ _ | exact spec_l19Key.mono _ _ | exact spec_l19Open.mono _ _ _ _ _ | exact spec_l19Size.mono _ _ | exact LeO.refl _ | exact LeO.none _ | refine LeO.ite ?_ ?_ | refine LeO.bind ?_ (fun _ => ?_)) | exact ih0 _ _ _ _ | exact ih1 _ _ _ _ _ _ | exact ih2 _ _ _ _ _ _ _ _ _ | exact spec_ItemOk.mono _ _ _ _ | exact spec_l19At.mono _ _ _ _ _ | exact spec_l19Dummy.mono _ _ | exact spec_l19Key.mono _ _ | exact spec_l19Open.mono _ _ _ _ _ | exact spec_l19Size.mono _ _ | exact LeO.none _ | refine LeO.ite ?_ ?_ | refine LeO.bind ?_ (fun _ => ?_)
  ·intro y0 y1 y2 y3 y4 y5 y6 y7 y8
   unfold spec_TableOk.j2
   repeat' first | (with_reducible first | exact ih0 _ _ _ _ | exact ih1 _ _ _ _ _ _ | exact ih2 _ _ _ _ _ _ _ _ _ | exact spec_ItemOk.mono _ _ _ _ | exact spec_l19At.mono _ _ _ _ _ | exact spec_l19Dummy.mono _ _ | exact spec_l19Key.mono _ _ | exact spec_l19Open.mono _ _ _ _ _ | exact spec_l19Size.mono _ _ | exact LeO.refl _ | exact LeO.none _ | refine LeO.ite ?_ ?_ | refine LeO.bind ?_ (fun _ => ?_)) | exact ih0 _ _ _ _ | exact ih1 _ _ _ _ _ _ | exact ih2 _ _ _ _ _ _ _ _ _ | exact spec_ItemOk.mono _ _ _ _ | exact spec_l19At.mono _ _ _ _ _ | exact spec_l19Dummy.mono _ _ | exact spec_l19Key.mono _ _ | exact spec_l19Open.mono _ _ _ _ _ | exact spec_l19Size.mono _ _ | exact LeO.none _ | refine LeO.ite ?_ ?_ | refine LeO.bind ?_ (fun _ => ?_)
theorem spec_TableOk.mono : ∀ a0 a1 k, LeO (spec_TableOk.f k a0 a1) (spec_TableOk.f (k + 1) a0 a1) := by
 intro a0 a1 k
 obtain ⟨ih0, ih1, ih2⟩ := spec_TableOk.mono_l k
 unfold spec_TableOk.f
 repeat' first | (with_reducible first | exact ih0 _ _ _ _ | exact ih1 _ _ _ _ _ _ | exact ih2 _ _ _ _ _ _ _ _ _ | exact spec_ItemOk.mono _ _ _ _ | exact spec_l19At.mono _ _ _ _ _ | exact spec_l19Dummy.mono _ _ | exact spec_l19Key.mono _ _ | exact spec_l19Open.mono _ _ _ _ _ | exact spec_l19Size.mono _ _ | exact LeO.refl _ | exact LeO.none _ | refine LeO.ite ?_ ?_ | refine LeO.bind ?_ (fun _ => ?_)) | exact ih0 _ _ _ _ | exact ih1 _ _ _ _ _ _ | exact ih2 _ _ _ _ _ _ _ _ _ | exact spec_ItemOk.mono _ _ _ _ | exact spec_l19At.mono _ _ _ _ _ | exact spec_l19Dummy.mono _ _ | exact spec_l19Key.mono _ _ | exact spec_l19Open.mono _ _ _ _ _ | exact spec_l19Size.mono _ _ | exact LeO.none _ | refine LeO.ite ?_ ?_ | refine LeO.bind ?_ (fun _ => ?_)
def spec_TableOk.T2 : Bool × List (List Nat × List Nat) := (true, [([], []), ([0], [0]), ([1], [1]), ([2], [2]), ([3, 2], [3]), ([4], [4]), ([4, 4], [4]), ([5, 6, 6, 4], [4, 5, 6]), ([7, 4], [4, 7]), ([4, 8], [4, 8])])
def spec_TableOk.B2 : List Nat := [0, 1, 3, 7, 15, 31, 31, 127, 255, 511]
theorem spec_TableOk.tab2 : rtab .any (opsOf Try.f40 2) = spec_TableOk.T2 := by kernel_rfl
theorem spec_TableOk.bits2 : waitsOk spec_TableOk.T2.2 spec_TableOk.B2 = true := by kernel_rfl
def spec_TableOk.T7 : Bool × List (List Nat × List Nat) := (true, [([], []), ([0], [0]), ([1], [1]), ([2], [2]), ([3, 2], [2, 3]), ([2], [2]), ([5, 2], [2, 5]), ([4, 6, 2], [2, 4, 6]), ([7, 2], [2, 7]), ([2], [2]), ([8, 9, 2, 2], [2, 8, 9]), ([10, 2], [2, 10]), ([2, 11], [2, 11])])
def spec_TableOk.B7 : List Nat := [0, 1, 3, 7, 15, 7, 39, 127, 255, 7, 1023, 2047, 4095]
theorem spec_TableOk.tab7 : rtab .any (opsOf Try.f40 7) = spec_TableOk.T7 := by kernel_rfl
theorem spec_TableOk.bits7 : waitsOk spec_TableOk.T7.2 spec_TableOk.B7 = true := by kernel_rfl
def spec_TableOk.T13 : Bool × List (List Nat × List Nat) := (true, [([], []), ([0], [0]), ([1], [1]), ([2], [2]), ([3], [3]), ([4, 3], [4]), ([5], [5]), ([5], [5]), ([7, 5], [5, 7]), ([8, 5, 5], [5, 8]), ([6, 9, 5], [5, 6, 9]), ([5, 10], [5, 10])])
def spec_TableOk.B13 : List Nat := [0, 1, 3, 7, 15, 31, 63, 63, 191, 447, 1023, 2047]
theorem spec_TableOk.tab13 : rtab .any (opsOf Try.f40 13) = spec_TableOk.T13 := by kernel_rfl
theorem spec_TableOk.bits13 : waitsOk spec_TableOk.T13.2 spec_TableOk.B13 = true := by kernel_rfl
theorem spec_TableOk.z0 {P : Prop} (h : P := by repeat (first | (with_reducible first | exact HB.out | apply below_alloc | apply pw_below_drewN | apply below_drew1 | refine below_set ?_ GE174.out | refine below_set ?_ GE180.out) | exact HB.out)) : P := h
theorem spec_TableOk.z1 {P : Prop} (h : P := by repeat (first | (with_reducible first | exact HB.out | apply below_alloc | apply pw_below_drewN | apply below_drew1 | refine below_set ?_ GE174.out) | exact HB.out)) : P := h
set_option maxHeartbeats 8000000 in
set_option maxRecDepth 100000 in
theorem spec_TableOk.calls (k : Nat) (a0_0 : Int) (A0_1 : Option Addr) (c0_1 : Nat) (l0_1 : List (S49)) (r : Bool) (w : World) (hr0_1 : Kd.C k49 w A0_1 l0_1.length l0_1) (hc0_1 : l0_1.length ≤ c0_1) (h : spec_TableOk.f k a0_0 l0_1 = some r) :
  Calls Try.prog 40 #[.agg #[.int .i64 a0_0, .slice A0_1 l0_1.length c0_1]] w fun e w' => e = .returned (.bool r) ∧ Below w.heap.size w w' := by
 have hu25 := Try.underlying25
 have hu49 := Try.underlying49
 have hu55 := Try.underlying55
 have HR0_1 := Aside0.mk hr0_1
 have HC0_1 := Aside0.mk hc0_1
 clear hr0_1 hc0_1
 have HB := Aside0.mk (Below.refl w.heap.size w)
 have H : ((spec_l19Size.f k a0_0).bind fun t175 => (if t175 = true then ((spec_l19Dummy.f k 0).bind fun bt176 => ((spec_l19At.f k a0_0 l0_1 bt176.1 bt176.2).bind fun t178 => (spec_TableOk.j0 k 0 (decide (t178 < 0)) a0_0 l0_1))) else (spec_TableOk.j0 k 0 true a0_0 l0_1))) = some r := h
 clear h
 have HC2 := Aside0.mk H
 clear H
 go_enter Try.func40, Try.ntmps40
 go_upto_region 2 with (first | ((with_reducible refine gate_dst (N := 1) rfl ?_); refine box_event ?hg (N := 1) ?hd (cs := #[.int .i64 a0_0, .slice A0_1 l0_1.length c0_1]) (t := 25) ?hr ?_; (case hd => rfl); (case hg => rfl); (case hr => first | (go_simp; done) | (go_simp; rfl)); intro gb174 hg w3 hbox hb; have n_ : _ ∧ _ ∧ _ ∧ _ := ⟨AsM (below_step BL hb), AsM (hbox), AsM ((GL : w.heap.size ≤ gb174)), AsM ((GL : w.heap.size ≤ gb174))⟩; clear HB; obtain ⟨HB, BK174, GW174, GE174⟩ := n_; clear hb hbox hg))
 (try simp only [Act.put, List.setIfInBounds_toArray, List.set_cons_zero, List.set_cons_succ])
 go_cut [15] (fun v15 wc => ∃ (kq : Nat) (x15_1 : Bool), v15 = .bool x15_1 ∧ Aside0 (spec_TableOk.j0 kq 0 x15_1 a0_0 l0_1 = some r) ∧ Aside0 (kq ≤ k) ∧ Aside0 (wc.heap[gb174]? = some (.cells #[.int .i64 a0_0, (.slice A0_1 l0_1.length c0_1)] 25 (0, 0))) ∧ Aside0 (Below w.heap.size w wc))
 case first =>
  have H := HC2.out
  clear HC2
  replace H := BS H
  obtain ⟨t175, A40, H⟩ := H
  have A4 := Aside0.mk A40
  clear A40
  by_cases c5 : t175 = true
  ·subst c5
   replace H := IP H
   replace H := BS H
   obtain ⟨⟨t176, t177⟩, A60, H⟩ := H
   have A6 := Aside0.mk A60
   clear A60
   replace H := BS H
   obtain ⟨t178, A70, H⟩ := H
   have A7 := Aside0.mk A70
   clear A70
   have H' := Aside0.mk H
   clear H
   try go_wp2
   have n_ : _ ∧ _ := ⟨AsM (blk_drew BK174.out), AsM (below_drew1 HB.out)⟩
   clear BK174 HB
   obtain ⟨BK174, HB⟩ := n_
   refine start_ (n := 10) (S := fun w' => w'.cell? ⟨gb174, 0, none⟩ = some (.int .i64 a0_0) ∧ w'.cell? ⟨gb174, 1, none⟩ = some (.slice A0_1 l0_1.length c0_1)) (ds := []) #[false, false, false, false, false, false, false, false, false, false] (by kernel_rfl) rfl rfl ⟨(blk_cell BK174.out 0).trans rfl, (blk_cell BK174.out 1).trans rfl⟩ (fun hHeld => ?_); refine with_tabW spec_TableOk.tab2 spec_TableOk.bits2 (fun HT_ HW_ => ?_)
   generalize w3.drew = w8 at BK174 HB hHeld ⊢
   refine PU (i := 0) (N := some 6) (tf 1 9) rfl rfl HT_ ?_
   refine PT (i := 1) (N := some 7) (tf 2 8) rfl rfl HT_ HW_ hHeld ?_
   refine one_ (i := 2) (N := some 8) (tf 3 7) rfl rfl (one_of HT_.out (by kernel_rfl)) (by decide) (fun K hK => ?_)
   refine goes_ Try.func53 (by kernel_rfl) rfl #[.int .i64 a0_0] (by rfl) rfl rfl AQ ?_
   with_reducible refine (spec_l19Size.calls k a0_0 true _ A4.out).mono ?_
   rintro e w' ⟨rfl, ⟨nd, rfl⟩⟩
   refine ⟨_, rfl, ?_⟩
   refine hK.out _ _ ⟨(blk_cell BK174.out 0).trans rfl, (blk_cell BK174.out 1).trans rfl⟩ (fun hHeld => ?_)
   clear hK K
   refine NM (some 8) ?_
   refine PU (i := 3) (N := some 9) (tf 4 6) rfl rfl HT_ ?_
   refine PU (i := 4) (N := some 10) (tf 5 5) rfl rfl HT_ ?_
   refine PT (i := 5) (N := some 11) (tf 6 4) rfl rfl HT_ HW_ hHeld ?_
   refine one_ (i := 6) (N := some 12) (tf 7 3) rfl rfl (one_of HT_.out (by kernel_rfl)) (by decide) (fun K hK => ?_)
   refine goes_ Try.func55 (by kernel_rfl) rfl #[.int .i64 0] (by rfl) rfl rfl AQ ?_
   with_reducible refine (spec_l19Dummy.calls k 0 t176 t177 _ A6.out).mono ?_
   rintro e w9 ⟨rfl, hb⟩
   refine ⟨_, rfl, ?_⟩
   have n_ : _ ∧ _ := ⟨AsM (blk_below (BD BK174) hb), AsM (below_step BG hb)⟩
   clear BK174 HB
   obtain ⟨BK174, HB⟩ := n_
   (try clear hb)
   (try clear hb2)
   (try clear hk)
   (try clear hi)
   refine hK.out _ _ ⟨(blk_cell BK174.out 0).trans rfl, (blk_cell BK174.out 1).trans rfl⟩ (fun hHeld => ?_)
   clear hK K
   refine NM (some 12) ?_
   refine one_ (i := 7) (N := some 13) (tf 8 2) rfl rfl (one_of HT_.out (by kernel_rfl)) (by decide) (fun K hK => ?_)
   refine goes_ Try.func54 (by kernel_rfl) rfl #[.agg #[.int .i64 a0_0, .slice A0_1 l0_1.length c0_1], .agg #[.int .i64 t176, .string t177]] (by rfl) rfl rfl AQ ?_
   with_reducible refine (spec_l19At.calls k a0_0 _ _ l0_1 t176 t177 t178 _ ?side1 ?side2 A7.out).mono ?_
   (case side1 => exact SC HR0_1)
   (case side2 => exact HC0_1.out)
   rintro e w10 ⟨rfl, hb⟩
   refine ⟨_, rfl, ?_⟩
   have n_ : _ ∧ _ := ⟨AsM (blk_below (BD BK174) hb), AsM (below_step BG hb)⟩
   clear BK174 HB
   obtain ⟨BK174, HB⟩ := n_
   (try clear hb)
   (try clear hb2)
   (try clear hk)
   (try clear hi)
   refine hK.out _ _ ⟨(blk_cell BK174.out 0).trans rfl, (blk_cell BK174.out 1).trans rfl⟩ (fun hHeld => ?_)
   clear hK K
   refine NM (some 13) ?_
   refine PU (i := 8) (N := some 14) (tf 9 1) rfl rfl HT_ ?_
   refine PU (i := 9) (N := some 15) (tf 10 0) rfl rfl HT_ ?_
   refine done_ (done_of HT_.out (by kernel_rfl)) ?_
   try go_wp2
   go_meet
   case rel => exact ⟨_, (decide (t178 < 0)), RS, H', ⟨by first | omega | exact Nat.le_refl _⟩, ⟨BD BK174⟩, ⟨spec_TableOk.z1⟩⟩
  ·replace c5 := Bool.eq_false_iff.mpr c5
   subst c5
   replace H := IN H
   have H' := Aside0.mk H
   clear H
   try go_wp2
   have n_ : _ ∧ _ := ⟨AsM (blk_drew BK174.out), AsM (below_drew1 HB.out)⟩
   clear BK174 HB
   obtain ⟨BK174, HB⟩ := n_
   refine start_ (n := 10) (S := fun w' => w'.cell? ⟨gb174, 0, none⟩ = some (.int .i64 a0_0) ∧ w'.cell? ⟨gb174, 1, none⟩ = some (.slice A0_1 l0_1.length c0_1)) (ds := []) #[false, false, false, false, false, false, false, false, false, false] (by kernel_rfl) rfl rfl ⟨(blk_cell BK174.out 0).trans rfl, (blk_cell BK174.out 1).trans rfl⟩ (fun hHeld => ?_); refine with_tabW spec_TableOk.tab2 spec_TableOk.bits2 (fun HT_ HW_ => ?_)
   generalize w3.drew = w11 at BK174 HB hHeld ⊢
   refine PU (i := 0) (N := some 6) (tf 1 9) rfl rfl HT_ ?_
   refine PT (i := 1) (N := some 7) (tf 2 8) rfl rfl HT_ HW_ hHeld ?_
   refine one_ (i := 2) (N := some 8) (tf 3 7) rfl rfl (one_of HT_.out (by kernel_rfl)) (by decide) (fun K hK => ?_)
   refine goes_ Try.func53 (by kernel_rfl) rfl #[.int .i64 a0_0] (by rfl) rfl rfl AQ ?_
   with_reducible refine (spec_l19Size.calls k a0_0 false _ A4.out).mono ?_
   rintro e w' ⟨rfl, ⟨nd, rfl⟩⟩
   refine ⟨_, rfl, ?_⟩
   refine hK.out _ _ ⟨(blk_cell BK174.out 0).trans rfl, (blk_cell BK174.out 1).trans rfl⟩ (fun hHeld => ?_)
   clear hK K
   refine NM (some 8) ?_
   refine PU (i := 3) (N := some 9) (tf 4 6) rfl rfl HT_ ?_
   refine PU (i := 4) (N := some 10) (tf 5 5) rfl rfl HT_ ?_
   refine PN (i := 5) (N := some 11) (tf 6 4) rfl rfl HT_ ?_
   refine PN (i := 6) (N := some 12) (tf 7 3) rfl rfl HT_ ?_
   refine PN (i := 7) (N := some 13) (tf 8 2) rfl rfl HT_ ?_
   refine PN (i := 8) (N := some 14) (tf 9 1) rfl rfl HT_ ?_
   refine PU (i := 9) (N := some 15) (tf 10 0) rfl rfl HT_ ?_
   refine done_ (done_of HT_.out (by kernel_rfl)) ?_
   try go_wp2
   go_meet
   case rel => exact ⟨_, (true), RS, H', ⟨by first | omega | exact Nat.le_refl _⟩, ⟨BD BK174⟩, ⟨spec_TableOk.z1⟩⟩
 case rest =>
  clear HC2
  try clear p2
  try clear c4
  try clear c5
  obtain ⟨kq, x15_1, rfl, HA, HJ1, BK174, HB⟩ := hcut
  cases kq with
  | zero => exact absurd HA.out (by simp [spec_TableOk.j0])
  | succ kj1 =>
   have H := HA.out
   clear HA
   simp only [spec_TableOk.j0] at H
   by_cases c12 : x15_1 = true
   ·subst c12
    replace H := IP H
    obtain rfl := Option.some.inj H
    go_wp2
    go_ret
    exact ⟨ER, BG⟩
   ·replace c12 := Bool.eq_false_iff.mpr c12
    subst c12
    replace H := IN H
    have H' := Aside0.mk H
    clear H
    obtain ⟨hcz13_0, hcz13_1, hfz13_0, hfz13_1⟩ := bk2 BK174.out
    go_wp2
    go_loopg [3, 19] kj1 (fun kq v3 v19 w' => ∃ (x3_2 : Int) (x19_2 : Int), v3 = .int .i64 x3_2 ∧ v19 = .int .i64 x19_2 ∧ Aside0 (spec_TableOk.l0 kq x3_2 l0_1 (l0_1.length : Int) x19_2 a0_0 l0_1 = some r) ∧ Aside0 (kq ≤ kj1) ∧ Aside0 (w'.heap[gb174]? = some (.cells #[.int .i64 a0_0, (.slice A0_1 l0_1.length c0_1)] 25 (0, 0))) ∧ Aside0 (Below w.heap.size w w'))
    case atStart => exact ⟨(0), (0), RS, RS, H', ⟨Nat.le_refl _⟩, ⟨BD BK174⟩, ⟨spec_TableOk.z1⟩⟩
    case round =>
     clear H'
     try clear c1
     try clear p2
     try clear c4
     try clear c5
     try clear c12
     try clear hcz13_0
     try clear hcz13_1
     try clear hfz13_0
     try clear hfz13_1
     try clear p2
     obtain ⟨x3_2, x19_2, rfl, rfl, HA, HK2, BK174, HB⟩ := hrel
     cases gk with
     | zero => exact absurd HA.out (by simp [spec_TableOk.l0])
     | succ k2 =>
      have H := HA.out
      clear HA
      simp only [spec_TableOk.l0] at H
      by_cases c14 : x19_2 < (l0_1.length : Int)
      ·rw [if_pos c14] at H
       have c14b0 : decide (x19_2 < (l0_1.length : Int)) = true := decide_eq_true c14
       clear c14
       by_cases c15 : 0 ≤ x19_2
       ·rw [if_pos c15] at H
        have c15b0 : decide (0 ≤ x19_2) = true := decide_eq_true c15
        clear c15
        by_cases c16 : x19_2 < (l0_1.length : Int)
        ·rw [if_pos c16] at H
         have c16b0 : decide (x19_2 < (l0_1.length : Int)) = true := decide_eq_true c16
         clear c16
         have HC17 := Aside0.mk H
         clear H
         have p179 : 0 ≤ (x19_2 : Int) := of_decide_eq_true AS
         have q179 : x19_2 < (l0_1.length : Int) := of_decide_eq_true AS
         obtain ⟨ad179, e179, hx179_0, hx179_1⟩ := at_T49 HR0_1.out x19_2 p179 q179
         cases e179
         replace hx179_0 := (HB.out.cell (World.block_lt_of_cell? w _ hx179_0)).trans hx179_0
         replace hx179_1 := (HB.out.cell (World.block_lt_of_cell? w _ hx179_1)).trans hx179_1
         replace p179 := eq_true p179
         replace q179 := eq_true q179
         go_upto_region 7 with (first | ((with_reducible refine gate_dst (N := 5) rfl ?_); refine box_event ?hg (N := 5) ?hd (cs := #[.int .i64 0, .string (⟨#[]⟩ : ByteArray)]) (t := 49) ?hr ?_; (case hd => rfl); (case hg => rfl); (case hr => first | (go_simp; done) | (go_simp; rfl)); intro gb180 hg w18 hbox hb; have n_ : _ ∧ _ ∧ _ ∧ _ ∧ _ ∧ _ ∧ _ := ⟨AsM (blk_below (BD BK174) hb), AsM (below_step BG hb), AsM (hbox), AsM ((GM : w.heap.size ≤ gb180)), AsM ((GM : w.heap.size ≤ gb180)), AsM ((by rw [hg]; exact Nat.ne_of_lt (blk_lt (BD BK174)) : gb174 ≠ gb180)), AsM ((by rw [hg]; exact Nat.ne_of_gt (blk_lt (BD BK174)) : gb180 ≠ gb174))⟩; clear BK174 HB; obtain ⟨BK174, HB, BK180, GW180, GE180, NB174_180, NB180_174⟩ := n_; clear hb hbox hg; have hnb19 := NB180_174.out; have hnc19 := NB174_180.out; obtain ⟨hcz20_0, hcz20_1, hfz20_0, hfz20_1⟩ := bk2 BK180.out))
         (try simp only [Act.put, List.setIfInBounds_toArray, List.set_cons_zero, List.set_cons_succ])
         go_cut [36] (fun v36 wc => ∃ (kq : Nat) (x36_16 : Bool), v36 = .bool x36_16 ∧ Aside0 (spec_TableOk.j2 kq x3_2 l0_1 (l0_1.length : Int) x19_2 x36_16 a0_0 l0_1 ((rd_T49 l0_1 x19_2).f0) ((rd_T49 l0_1 x19_2).f1) = some r) ∧ Aside0 (kq ≤ k2) ∧ Aside0 (wc.heap[gb174]? = some (.cells #[.int .i64 a0_0, (.slice (some ad179) l0_1.length c0_1)] 25 (0, 0))) ∧ Aside0 (wc.heap[gb180]? = some (.cells #[.int .i64 ((rd_T49 l0_1 x19_2).f0), .string ((rd_T49 l0_1 x19_2).f1)] 49 (0, 0))) ∧ Aside0 (Below w.heap.size w wc))
         case first =>
          have H := HC17.out
          clear HC17
          by_cases c21 : x19_2 > 0
          ·rw [if_pos c21] at H
           have c21b0 : decide (0 < x19_2) = true := decide_eq_true c21
           clear c21
           (first | rw [c21b0] | (simp only [i64_w, i32_w]; rw [c21b0]) | skip)
           obtain ⟨ji22, hji22⟩ : ∃ j_ : Int, (wrap64 (x19_2 - 1)) = j_ := ⟨_, rfl⟩
           replace H : (if 0 ≤ (ji22) then (if (ji22) < (l0_1.length : Int) then ((spec_l19Before.f ((rd_T49 l0_1 (ji22)).f0) ((rd_T49 l0_1 (ji22)).f1) ((rd_T49 l0_1 x19_2).f0) ((rd_T49 l0_1 x19_2).f1)).bind fun t182 => (spec_TableOk.j2 k2 x3_2 l0_1 (l0_1.length : Int) x19_2 (!t182) a0_0 l0_1 ((rd_T49 l0_1 x19_2).f0) ((rd_T49 l0_1 x19_2).f1))) else (none)) else (none)) = some r := by first | (rw [hji22] at H; exact H) | (simp only [hji22] at H ⊢; exact H)
           have hji22w : (IntKind.i64.wrap (x19_2 - 1)) = ji22 := (i64_w _).trans hji22
           by_cases c23 : 0 ≤ (ji22)
           ·rw [if_pos c23] at H
            have c23b0 : decide (0 ≤ (ji22)) = true := decide_eq_true c23
            clear c23
            by_cases c24 : (ji22) < (l0_1.length : Int)
            ·rw [if_pos c24] at H
             have c24b0 : decide ((ji22) < (l0_1.length : Int)) = true := decide_eq_true c24
             clear c24
             replace H := BS H
             obtain ⟨t182, A250, H⟩ := H
             have A25 := Aside0.mk A250
             clear A250
             have H' := Aside0.mk H
             clear H
             try go_wp2
             have n0_ : Aside0 (((w18.setCell ⟨gb180, 0, none⟩ (.int .i64 ((rd_T49 l0_1 x19_2).f0))).setCell ⟨gb180, 1, none⟩ (.string ((rd_T49 l0_1 x19_2).f1))).heap[gb174]? = some (.cells #[.int .i64 a0_0, .slice (some ad179) l0_1.length c0_1] 25 (0, 0))) := ⟨by refine PX ?_; refine blk_far ?_ NB174_180.out _; refine PX ?_; refine blk_far ?_ NB174_180.out _; exact BD BK174⟩
             have n1_ : Aside0 (((w18.setCell ⟨gb180, 0, none⟩ (.int .i64 ((rd_T49 l0_1 x19_2).f0))).setCell ⟨gb180, 1, none⟩ (.string ((rd_T49 l0_1 x19_2).f1))).heap[gb180]? = some (.cells #[.int .i64 ((rd_T49 l0_1 x19_2).f0), .string ((rd_T49 l0_1 x19_2).f1)] 49 (0, 0))) := ⟨by refine PX ?_; refine blk_put (cs := #[.int .i64 ((rd_T49 l0_1 x19_2).f0), .string (⟨#[]⟩ : ByteArray)]) ?_ 1 _ rfl; refine PX ?_; refine blk_put (cs := #[.int .i64 0, .string (⟨#[]⟩ : ByteArray)]) ?_ 0 _ rfl; exact BD BK180⟩
             have n2_ : Aside0 (Below w.heap.size w ((w18.setCell ⟨gb180, 0, none⟩ (.int .i64 ((rd_T49 l0_1 x19_2).f0))).setCell ⟨gb180, 1, none⟩ (.string ((rd_T49 l0_1 x19_2).f1)))) := ⟨spec_TableOk.z0⟩
             (try clear BK174)
             (try clear BK180)
             (try clear HB)
             generalize ((w18.setCell ⟨gb180, 0, none⟩ (.int .i64 ((rd_T49 l0_1 x19_2).f0))).setCell ⟨gb180, 1, none⟩ (.string ((rd_T49 l0_1 x19_2).f1))) = w26 at n0_ n1_ n2_ ⊢
             have BK174 := n0_
             have BK180 := n1_
             have HB := n2_
             clear n0_ n1_ n2_
             have n_ : _ ∧ _ ∧ _ := ⟨AsM (blk_drew BK174.out), AsM (blk_drew BK180.out), AsM (below_drew1 HB.out)⟩
             clear BK174 BK180 HB
             obtain ⟨BK174, BK180, HB⟩ := n_
             have p181 : 0 ≤ ((ji22) : Int) := of_decide_eq_true AS
             have q181 : (ji22) < (l0_1.length : Int) := of_decide_eq_true AS
             obtain ⟨ad181, e181, hx181_0, hx181_1⟩ := at_T49 HR0_1.out (ji22) p181 q181
             have hw181_1 := hx181_1
             have hw181_0 := hx181_0
             obtain rfl : ad179 = ad181 := (by injection e181)
             replace hx181_0 := (HB.out.cell (World.block_lt_of_cell? w _ hx181_0)).trans hx181_0
             replace hx181_1 := (HB.out.cell (World.block_lt_of_cell? w _ hx181_1)).trans hx181_1
             replace p181 := eq_true p181
             replace q181 := eq_true q181
             refine start_ (n := 13) (S := fun w' => w'.cell? ⟨gb174, 0, none⟩ = some (.int .i64 a0_0) ∧ w'.cell? ⟨gb174, 1, none⟩ = some (.slice (some ad179) l0_1.length c0_1) ∧ w'.cell? ⟨gb180, 0, none⟩ = some (.int .i64 ((rd_T49 l0_1 x19_2).f0)) ∧ w'.cell? ⟨gb180, 1, none⟩ = some (.string ((rd_T49 l0_1 x19_2).f1)) ∧ w'.cell? (ad179.add (((ji22)).toNat * 2)) = some (.int .i64 ((rd_T49 l0_1 (ji22)).f0)) ∧ w'.cell? ⟨(ad179.add (((ji22)).toNat * 2)).block, (ad179.add (((ji22)).toNat * 2)).off + 1, none⟩ = some (.string ((rd_T49 l0_1 (ji22)).f1))) (ds := []) #[false, false, false, false, false, false, false, false, false, false, false, false, false] (by kernel_rfl) rfl rfl ⟨(blk_cell BK174.out 0).trans rfl, (blk_cell BK174.out 1).trans rfl, (blk_cell BK180.out 0).trans rfl, (blk_cell BK180.out 1).trans rfl, ((HB.out.cell (World.block_lt_of_cell? w _ hw181_0)).trans hw181_0), ((HB.out.cell (World.block_lt_of_cell? w _ hw181_1)).trans hw181_1)⟩ (fun hHeld => ?_); refine with_tabW spec_TableOk.tab7 spec_TableOk.bits7 (fun HT_ HW_ => ?_)
             generalize w26.drew = w27 at BK174 BK180 HB hx181_0 hx181_1 hHeld ⊢
             refine PU (i := 0) (N := some 24) (tf 1 12) rfl rfl HT_ ?_
             refine PU (i := 1) (N := some 25) (tf 2 11) rfl rfl HT_ ?_
             refine PU (i := 2) (N := some 26) (tf 3 10) rfl rfl HT_ ?_
             refine PU (i := 3) (N := some 27) (tf 4 9) rfl rfl HT_ ?_
             refine PU (i := 5) (N := some 29) #[true, true, true, true, false, true, false, false, false, false, false, false, false] rfl rfl HT_ ?_
             refine PU (i := 6) (N := some 30) #[true, true, true, true, false, true, true, false, false, false, false, false, false] rfl rfl HT_ ?_
             refine PT (i := 4) (N := some 28) (tf 7 6) rfl rfl HT_ HW_ hHeld ?_
             refine PU (i := 7) (N := some 31) (tf 8 5) rfl rfl HT_ ?_
             refine PT (i := 8) (N := some 32) (tf 9 4) rfl rfl HT_ HW_ hHeld ?_
             refine PT (i := 9) (N := some 33) (tf 10 3) rfl rfl HT_ HW_ hHeld ?_
             refine one_ (i := 10) (N := some 34) (tf 11 2) rfl rfl (one_of HT_.out (by kernel_rfl)) (by decide) (fun K hK => ?_)
             refine goes_ Try.func56 (by kernel_rfl) rfl #[.agg #[.int .i64 ((rd_T49 l0_1 (ji22)).f0), .string ((rd_T49 l0_1 (ji22)).f1)], .agg #[.int .i64 ((rd_T49 l0_1 x19_2).f0), .string ((rd_T49 l0_1 x19_2).f1)]] (by rfl) rfl rfl (by (try simp only [List.map_toArray, List.map_cons, List.map_nil]); first | done | (simp only [hji22]; rfl) | rfl | (simp only [List.length_drop, List.length_take]; rfl)) ?_
             with_reducible refine (spec_l19Before.calls ((rd_T49 l0_1 (ji22)).f0) ((rd_T49 l0_1 (ji22)).f1) ((rd_T49 l0_1 x19_2).f0) ((rd_T49 l0_1 x19_2).f1) t182 _ A25.out).mono ?_
             rintro e w28 ⟨rfl, hb⟩
             refine ⟨_, rfl, ?_⟩
             have n_ : _ ∧ _ ∧ _ := ⟨AsM (blk_below (BD BK174) hb), AsM (blk_below (BD BK180) hb), AsM (below_step BG hb)⟩
             clear BK174 BK180 HB
             obtain ⟨BK174, BK180, HB⟩ := n_
             (try clear hb)
             (try clear hb2)
             (try clear hk)
             (try clear hi)
             refine hK.out _ _ ⟨(blk_cell BK174.out 0).trans rfl, (blk_cell BK174.out 1).trans rfl, (blk_cell BK180.out 0).trans rfl, (blk_cell BK180.out 1).trans rfl, ((HB.out.cell (World.block_lt_of_cell? w _ hw181_0)).trans hw181_0), ((HB.out.cell (World.block_lt_of_cell? w _ hw181_1)).trans hw181_1)⟩ (fun hHeld => ?_)
             clear hK K
             refine NM (some 34) ?_
             refine PU (i := 11) (N := some 35) (tf 12 1) rfl rfl HT_ ?_
             refine PU (i := 12) (N := some 36) (tf 13 0) rfl rfl HT_ ?_
             refine done_ (done_of HT_.out (by kernel_rfl)) ?_
             try go_wp2
             go_meet
             case rel => exact ⟨_, (!t182), RS, H', ⟨by have := HJ1.out; have := HK2.out; first | omega | exact Nat.le_refl _⟩, ⟨BD BK174⟩, ⟨BD BK180⟩, ⟨spec_TableOk.z0⟩⟩
            ·rw [if_neg c24] at H
             exact absurd H (by simp)
           ·rw [if_neg c23] at H
            exact absurd H (by simp)
          ·rw [if_neg c21] at H
           have c21b0 : decide (0 < x19_2) = false := decide_eq_false c21
           clear c21
           (first | rw [c21b0] | (simp only [i64_w, i32_w]; rw [c21b0]) | skip)
           have H' := Aside0.mk H
           clear H
           try go_wp2
           have n0_ : Aside0 (((w18.setCell ⟨gb180, 0, none⟩ (.int .i64 ((rd_T49 l0_1 x19_2).f0))).setCell ⟨gb180, 1, none⟩ (.string ((rd_T49 l0_1 x19_2).f1))).heap[gb174]? = some (.cells #[.int .i64 a0_0, .slice (some ad179) l0_1.length c0_1] 25 (0, 0))) := ⟨by refine PX ?_; refine blk_far ?_ NB174_180.out _; refine PX ?_; refine blk_far ?_ NB174_180.out _; exact BD BK174⟩
           have n1_ : Aside0 (((w18.setCell ⟨gb180, 0, none⟩ (.int .i64 ((rd_T49 l0_1 x19_2).f0))).setCell ⟨gb180, 1, none⟩ (.string ((rd_T49 l0_1 x19_2).f1))).heap[gb180]? = some (.cells #[.int .i64 ((rd_T49 l0_1 x19_2).f0), .string ((rd_T49 l0_1 x19_2).f1)] 49 (0, 0))) := ⟨by refine PX ?_; refine blk_put (cs := #[.int .i64 ((rd_T49 l0_1 x19_2).f0), .string (⟨#[]⟩ : ByteArray)]) ?_ 1 _ rfl; refine PX ?_; refine blk_put (cs := #[.int .i64 0, .string (⟨#[]⟩ : ByteArray)]) ?_ 0 _ rfl; exact BD BK180⟩
           have n2_ : Aside0 (Below w.heap.size w ((w18.setCell ⟨gb180, 0, none⟩ (.int .i64 ((rd_T49 l0_1 x19_2).f0))).setCell ⟨gb180, 1, none⟩ (.string ((rd_T49 l0_1 x19_2).f1)))) := ⟨spec_TableOk.z0⟩
           (try clear BK174)
           (try clear BK180)
           (try clear HB)
           generalize ((w18.setCell ⟨gb180, 0, none⟩ (.int .i64 ((rd_T49 l0_1 x19_2).f0))).setCell ⟨gb180, 1, none⟩ (.string ((rd_T49 l0_1 x19_2).f1))) = w29 at n0_ n1_ n2_ ⊢
           have BK174 := n0_
           have BK180 := n1_
           have HB := n2_
           clear n0_ n1_ n2_
           have n_ : _ ∧ _ ∧ _ := ⟨AsM (blk_drew BK174.out), AsM (blk_drew BK180.out), AsM (below_drew1 HB.out)⟩
           clear BK174 BK180 HB
           obtain ⟨BK174, BK180, HB⟩ := n_
           refine start_ (n := 13) (S := fun w' => True) (ds := []) #[false, false, false, false, false, false, false, false, false, false, false, false, false] (by kernel_rfl) rfl rfl trivial (fun hHeld => ?_); refine with_tabW spec_TableOk.tab7 spec_TableOk.bits7 (fun HT_ HW_ => ?_)
           generalize w29.drew = w30 at BK174 BK180 HB hHeld ⊢
           refine PU (i := 0) (N := some 24) (tf 1 12) rfl rfl HT_ ?_
           refine PU (i := 1) (N := some 25) (tf 2 11) rfl rfl HT_ ?_
           refine PU (i := 2) (N := some 26) (tf 3 10) rfl rfl HT_ ?_
           refine PN (i := 3) (N := some 27) (tf 4 9) rfl rfl HT_ ?_
           refine PN (i := 4) (N := some 28) (tf 5 8) rfl rfl HT_ ?_
           refine PN (i := 5) (N := some 29) (tf 6 7) rfl rfl HT_ ?_
           refine PN (i := 6) (N := some 30) (tf 7 6) rfl rfl HT_ ?_
           refine PN (i := 7) (N := some 31) (tf 8 5) rfl rfl HT_ ?_
           refine PN (i := 8) (N := some 32) (tf 9 4) rfl rfl HT_ ?_
           refine PN (i := 9) (N := some 33) (tf 10 3) rfl rfl HT_ ?_
           refine PN (i := 10) (N := some 34) (tf 11 2) rfl rfl HT_ ?_
           refine PN (i := 11) (N := some 35) (tf 12 1) rfl rfl HT_ ?_
           refine PU (i := 12) (N := some 36) (tf 13 0) rfl rfl HT_ ?_
           refine done_ (done_of HT_.out (by kernel_rfl)) ?_
           try go_wp2
           go_meet
           case rel => exact ⟨_, (false), RS, H', ⟨by have := HJ1.out; have := HK2.out; first | omega | exact Nat.le_refl _⟩, ⟨BD BK174⟩, ⟨BD BK180⟩, ⟨spec_TableOk.z0⟩⟩
         case rest =>
          clear HC17
          try clear c1
          try clear p1
          try clear q1
          try clear hx1
          try clear c2
          try clear p2
          try clear c4
          try clear c5
          try clear p6
          try clear c12
          try clear c14
          try clear c14b0
          try clear c15
          try clear c15b0
          try clear c16
          try clear c16b0
          try clear p17
          try clear q17
          try clear hx17
          try clear p18
          try clear q18
          try clear hx18
          try clear c19
          try clear c21
          try clear c21b0
          try clear c23
          try clear c23b0
          try clear c24
          try clear c24b0
          try clear hcz13_0
          try clear hcz13_1
          try clear hcz20_0
          try clear hcz20_1
          try clear hfz13_0
          try clear hfz13_1
          try clear hfz20_0
          try clear hfz20_1
          try clear hx179_0
          try clear hx179_1
          try clear hx181_0
          try clear hx181_1
          try clear p179
          try clear p181
          try clear p2
          try clear q179
          try clear q181
          obtain ⟨kq, x36_16, rfl, HA, HJ16, BK174, BK180, HB⟩ := hcut
          cases kq with
          | zero => exact absurd HA.out (by simp [spec_TableOk.j2])
          | succ kj16 =>
           have H := HA.out
           clear HA
           simp only [spec_TableOk.j2] at H
           by_cases c31 : x36_16 = true
           ·subst c31
            replace H := IP H
            obtain rfl := Option.some.inj H
            go_wp2
            go_ret
            exact ⟨ER, BG⟩
           ·replace c31 := Bool.eq_false_iff.mpr c31
            subst c31
            replace H := IN H
            by_cases c32 : ((rd_T49 l0_1 x19_2).f1).toList = ([] : List UInt8)
            ·rw [if_pos c32] at H
             have c32b0 : (((rd_T49 l0_1 x19_2).f1).toList == ([] : List UInt8)) = true := beq_iff_eq.mpr c32
             have c32b1 : (((rd_T49 l0_1 x19_2).f1).toList != ([] : List UInt8)) = false := bne_eq_false_iff_eq.mpr c32
             clear c32
             replace H := BS H
             obtain ⟨t183, A330, H⟩ := H
             have A33 := Aside0.mk A330
             clear A330
             by_cases c34 : t183 = true
             ·subst c34
              replace H := IP H
              have H' := Aside0.mk H
              clear H
              have hnb35 := NB180_174.out
              have hnc35 := NB174_180.out
              obtain ⟨hcz36_0, hcz36_1, hfz36_0, hfz36_1⟩ := bk2 BK180.out
              obtain ⟨hcz37_0, hcz37_1, hfz37_0, hfz37_1⟩ := bk2 BK174.out
              go_wp2_with (first | ((with_reducible refine gate_callee (f := 57) rfl ?_); refine goesL_ (some 42) rfl rfl Try.func57 (by kernel_rfl) rfl #[.agg #[.int .i64 a0_0, .slice (some ad179) l0_1.length c0_1], .agg #[.int .i64 ((rd_T49 l0_1 x19_2).f0), .string ((rd_T49 l0_1 x19_2).f1)]] rfl AQ ?_; (with_reducible refine (spec_l19Open.calls kj16 a0_0 _ _ l0_1 ((rd_T49 l0_1 x19_2).f0) ((rd_T49 l0_1 x19_2).f1) true _ ?side1 ?side2 A33.out).mono ?_); (case side1 => exact SC HR0_1); (case side2 => exact HC0_1.out); rintro e w38 ⟨rfl, hb⟩; refine ⟨_, rfl, ?_⟩; have n_ : _ ∧ _ ∧ _ := ⟨AsM (blk_below (BD BK174) hb), AsM (blk_below (BD BK180) hb), AsM (below_step BG hb)⟩; clear BK174 BK180 HB; obtain ⟨BK174, BK180, HB⟩ := n_; (try clear hb); (try clear hb2); (try clear hk); (try clear hi)))
              go_roundg kj16
              case measure => have := HJ1.out; have := HK2.out; have := HJ16.out; omega
              case rel => exact ⟨(x3_2), (wrap64 (x19_2 + 1)), RS, RS, H', ⟨by have := HJ1.out; have := HK2.out; have := HJ16.out; omega⟩, ⟨BD BK174⟩, ⟨spec_TableOk.z0⟩⟩
             ·replace c34 := Bool.eq_false_iff.mpr c34
              subst c34
              replace H := IN H
              obtain rfl := Option.some.inj H
              have hnb39 := NB180_174.out
              have hnc39 := NB174_180.out
              obtain ⟨hcz40_0, hcz40_1, hfz40_0, hfz40_1⟩ := bk2 BK180.out
              obtain ⟨hcz41_0, hcz41_1, hfz41_0, hfz41_1⟩ := bk2 BK174.out
              go_wp2_with (first | ((with_reducible refine gate_callee (f := 57) rfl ?_); refine goesL_ (some 42) rfl rfl Try.func57 (by kernel_rfl) rfl #[.agg #[.int .i64 a0_0, .slice (some ad179) l0_1.length c0_1], .agg #[.int .i64 ((rd_T49 l0_1 x19_2).f0), .string ((rd_T49 l0_1 x19_2).f1)]] rfl AQ ?_; (with_reducible refine (spec_l19Open.calls kj16 a0_0 _ _ l0_1 ((rd_T49 l0_1 x19_2).f0) ((rd_T49 l0_1 x19_2).f1) false _ ?side1 ?side2 A33.out).mono ?_); (case side1 => exact SC HR0_1); (case side2 => exact HC0_1.out); rintro e w42 ⟨rfl, hb⟩; refine ⟨_, rfl, ?_⟩; have n_ : _ ∧ _ ∧ _ := ⟨AsM (blk_below (BD BK174) hb), AsM (blk_below (BD BK180) hb), AsM (below_step BG hb)⟩; clear BK174 BK180 HB; obtain ⟨BK174, BK180, HB⟩ := n_; (try clear hb); (try clear hb2); (try clear hk); (try clear hi)))
              go_ret
              exact ⟨ER, BG⟩
            ·rw [if_neg c32] at H
             have c32b0 : (((rd_T49 l0_1 x19_2).f1).toList == ([] : List UInt8)) = false := beq_eq_false_iff_ne.mpr c32
             have c32b1 : (((rd_T49 l0_1 x19_2).f1).toList != ([] : List UInt8)) = true := bne_iff_ne.mpr c32
             replace H := BS H
             obtain ⟨t184, A430, H⟩ := H
             have A43 := Aside0.mk A430
             clear A430
             by_cases c44 : t184 = true
             ·subst c44
              replace H := IP H
              replace H := BS H
              obtain ⟨⟨t185, t186⟩, A450, H⟩ := H
              have A45 := Aside0.mk A450
              clear A450
              by_cases c46 : (!(((rd_T49 l0_1 x19_2).f0) == t185) || (!(((rd_T49 l0_1 x19_2).f1).toList == t186.toList))) = true
              ·rw [if_pos c46] at H
               have c46b0 : (!(((rd_T49 l0_1 x19_2).f0) == t185) || (!(((rd_T49 l0_1 x19_2).f1).toList == t186.toList))) = true := c46
               clear c46
               obtain rfl := Option.some.inj H
               have hnb47 := NB180_174.out
               have hnc47 := NB174_180.out
               obtain ⟨hcz48_0, hcz48_1, hfz48_0, hfz48_1⟩ := bk2 BK180.out
               try go_wp2
               have n_ : _ ∧ _ ∧ _ := ⟨AsM (blk_drew BK174.out), AsM (blk_drew BK180.out), AsM (below_drew1 HB.out)⟩
               clear BK174 BK180 HB
               obtain ⟨BK174, BK180, HB⟩ := n_
               refine start_ (n := 12) (S := fun w' => w'.cell? ⟨gb180, 0, none⟩ = some (.int .i64 ((rd_T49 l0_1 x19_2).f0)) ∧ w'.cell? ⟨gb180, 1, none⟩ = some (.string ((rd_T49 l0_1 x19_2).f1))) (ds := []) #[false, false, false, false, false, false, false, false, false, false, false, false] (by kernel_rfl) rfl rfl ⟨(blk_cell BK180.out 0).trans rfl, (blk_cell BK180.out 1).trans rfl⟩ (fun hHeld => ?_); refine with_tabW spec_TableOk.tab13 spec_TableOk.bits13 (fun HT_ HW_ => ?_)
               generalize wc.drew = w49 at BK174 BK180 HB hHeld ⊢
               refine PU (i := 0) (N := some 46) (tf 1 11) rfl rfl HT_ ?_
               refine PT (i := 1) (N := some 47) (tf 2 10) rfl rfl HT_ HW_ hHeld ?_
               refine PU (i := 2) (N := some 48) (tf 3 9) rfl rfl HT_ ?_
               refine one_ (i := 3) (N := some 49) (tf 4 8) rfl rfl (one_of HT_.out (by kernel_rfl)) (by decide) (fun K hK => ?_)
               refine goes_ Try.func58 (by kernel_rfl) rfl #[.agg #[.string ((rd_T49 l0_1 x19_2).f1), .string (⟨#[]⟩ : ByteArray), .int .i64 0]] (by rfl) rfl rfl AQ ?_
               with_reducible refine (spec_ItemOk.calls kj16 ((rd_T49 l0_1 x19_2).f1) (⟨#[]⟩ : ByteArray) 0 true _ A43.out).mono ?_
               rintro e w50 ⟨rfl, hb⟩
               refine ⟨_, rfl, ?_⟩
               have n_ : _ ∧ _ ∧ _ := ⟨AsM (blk_below (BD BK174) hb), AsM (blk_below (BD BK180) hb), AsM (below_step BG hb)⟩
               clear BK174 BK180 HB
               obtain ⟨BK174, BK180, HB⟩ := n_
               (try clear hb)
               (try clear hb2)
               (try clear hk)
               (try clear hi)
               refine hK.out _ _ ⟨(blk_cell BK180.out 0).trans rfl, (blk_cell BK180.out 1).trans rfl⟩ (fun hHeld => ?_)
               clear hK K
               refine NM (some 49) ?_
               refine PU (i := 4) (N := some 50) (tf 5 7) rfl rfl HT_ ?_
               refine PU (i := 5) (N := some 51) (tf 6 6) rfl rfl HT_ ?_
               refine PU (i := 7) (N := some 53) #[true, true, true, true, true, true, false, true, false, false, false, false] rfl rfl HT_ ?_
               refine PT (i := 6) (N := some 52) (tf 8 4) rfl rfl HT_ HW_ hHeld ?_
               refine PT (i := 8) (N := some 54) (tf 9 3) rfl rfl HT_ HW_ hHeld ?_
               refine one_ (i := 9) (N := some 55) (tf 10 2) rfl rfl (one_of HT_.out (by kernel_rfl)) (by decide) (fun K hK => ?_)
               refine goes_ Try.func59 (by kernel_rfl) rfl #[.string ((rd_T49 l0_1 x19_2).f1)] (by rfl) rfl rfl AQ ?_
               with_reducible refine (spec_l19Key.calls kj16 ((rd_T49 l0_1 x19_2).f1) t185 t186 _ A45.out).mono ?_
               rintro e w51 ⟨rfl, hb⟩
               refine ⟨_, rfl, ?_⟩
               have n_ : _ ∧ _ ∧ _ := ⟨AsM (blk_below (BD BK174) hb), AsM (blk_below (BD BK180) hb), AsM (below_step BG hb)⟩
               clear BK174 BK180 HB
               obtain ⟨BK174, BK180, HB⟩ := n_
               (try clear hb)
               (try clear hb2)
               (try clear hk)
               (try clear hi)
               refine hK.out _ _ ⟨(blk_cell BK180.out 0).trans rfl, (blk_cell BK180.out 1).trans rfl⟩ (fun hHeld => ?_)
               clear hK K
               refine NM (some 55) ?_
               refine PU (i := 10) (N := some 56) (tf 11 1) rfl rfl HT_ ?_
               refine PU (i := 11) (N := some 57) (tf 12 0) rfl rfl HT_ ?_
               refine done_ (done_of HT_.out (by kernel_rfl)) ?_
               try go_wp2
               go_ret
               exact ⟨ER, BG⟩
              ·rw [if_neg c46] at H
               have c46b0 : (!(((rd_T49 l0_1 x19_2).f0) == t185) || (!(((rd_T49 l0_1 x19_2).f1).toList == t186.toList))) = false := by simpa using c46
               clear c46
               have H' := Aside0.mk H
               clear H
               have hnb52 := NB180_174.out
               have hnc52 := NB174_180.out
               obtain ⟨hcz53_0, hcz53_1, hfz53_0, hfz53_1⟩ := bk2 BK180.out
               try go_wp2
               have n_ : _ ∧ _ ∧ _ := ⟨AsM (blk_drew BK174.out), AsM (blk_drew BK180.out), AsM (below_drew1 HB.out)⟩
               clear BK174 BK180 HB
               obtain ⟨BK174, BK180, HB⟩ := n_
               refine start_ (n := 12) (S := fun w' => w'.cell? ⟨gb180, 0, none⟩ = some (.int .i64 ((rd_T49 l0_1 x19_2).f0)) ∧ w'.cell? ⟨gb180, 1, none⟩ = some (.string ((rd_T49 l0_1 x19_2).f1))) (ds := []) #[false, false, false, false, false, false, false, false, false, false, false, false] (by kernel_rfl) rfl rfl ⟨(blk_cell BK180.out 0).trans rfl, (blk_cell BK180.out 1).trans rfl⟩ (fun hHeld => ?_); refine with_tabW spec_TableOk.tab13 spec_TableOk.bits13 (fun HT_ HW_ => ?_)
               generalize wc.drew = w54 at BK174 BK180 HB hHeld ⊢
               refine PU (i := 0) (N := some 46) (tf 1 11) rfl rfl HT_ ?_
               refine PT (i := 1) (N := some 47) (tf 2 10) rfl rfl HT_ HW_ hHeld ?_
               refine PU (i := 2) (N := some 48) (tf 3 9) rfl rfl HT_ ?_
               refine one_ (i := 3) (N := some 49) (tf 4 8) rfl rfl (one_of HT_.out (by kernel_rfl)) (by decide) (fun K hK => ?_)
               refine goes_ Try.func58 (by kernel_rfl) rfl #[.agg #[.string ((rd_T49 l0_1 x19_2).f1), .string (⟨#[]⟩ : ByteArray), .int .i64 0]] (by rfl) rfl rfl AQ ?_
               with_reducible refine (spec_ItemOk.calls kj16 ((rd_T49 l0_1 x19_2).f1) (⟨#[]⟩ : ByteArray) 0 true _ A43.out).mono ?_
               rintro e w55 ⟨rfl, hb⟩
               refine ⟨_, rfl, ?_⟩
               have n_ : _ ∧ _ ∧ _ := ⟨AsM (blk_below (BD BK174) hb), AsM (blk_below (BD BK180) hb), AsM (below_step BG hb)⟩
               clear BK174 BK180 HB
               obtain ⟨BK174, BK180, HB⟩ := n_
               (try clear hb)
               (try clear hb2)
               (try clear hk)
               (try clear hi)
               refine hK.out _ _ ⟨(blk_cell BK180.out 0).trans rfl, (blk_cell BK180.out 1).trans rfl⟩ (fun hHeld => ?_)
               clear hK K
               refine NM (some 49) ?_
               refine PU (i := 4) (N := some 50) (tf 5 7) rfl rfl HT_ ?_
               refine PU (i := 5) (N := some 51) (tf 6 6) rfl rfl HT_ ?_
               refine PU (i := 7) (N := some 53) #[true, true, true, true, true, true, false, true, false, false, false, false] rfl rfl HT_ ?_
               refine PT (i := 6) (N := some 52) (tf 8 4) rfl rfl HT_ HW_ hHeld ?_
               refine PT (i := 8) (N := some 54) (tf 9 3) rfl rfl HT_ HW_ hHeld ?_
               refine one_ (i := 9) (N := some 55) (tf 10 2) rfl rfl (one_of HT_.out (by kernel_rfl)) (by decide) (fun K hK => ?_)
               refine goes_ Try.func59 (by kernel_rfl) rfl #[.string ((rd_T49 l0_1 x19_2).f1)] (by rfl) rfl rfl AQ ?_
               with_reducible refine (spec_l19Key.calls kj16 ((rd_T49 l0_1 x19_2).f1) t185 t186 _ A45.out).mono ?_
               rintro e w56 ⟨rfl, hb⟩
               refine ⟨_, rfl, ?_⟩
               have n_ : _ ∧ _ ∧ _ := ⟨AsM (blk_below (BD BK174) hb), AsM (blk_below (BD BK180) hb), AsM (below_step BG hb)⟩
               clear BK174 BK180 HB
               obtain ⟨BK174, BK180, HB⟩ := n_
               (try clear hb)
               (try clear hb2)
               (try clear hk)
               (try clear hi)
               refine hK.out _ _ ⟨(blk_cell BK180.out 0).trans rfl, (blk_cell BK180.out 1).trans rfl⟩ (fun hHeld => ?_)
               clear hK K
               refine NM (some 55) ?_
               refine PU (i := 10) (N := some 56) (tf 11 1) rfl rfl HT_ ?_
               refine PU (i := 11) (N := some 57) (tf 12 0) rfl rfl HT_ ?_
               refine done_ (done_of HT_.out (by kernel_rfl)) ?_
               try go_wp2
               go_roundg kj16
               case measure => have := HJ1.out; have := HK2.out; have := HJ16.out; omega
               case rel => exact ⟨(wrap64 (x3_2 + 1)), (wrap64 (x19_2 + 1)), RS, RS, H', ⟨by have := HJ1.out; have := HK2.out; have := HJ16.out; omega⟩, ⟨BD BK174⟩, ⟨spec_TableOk.z0⟩⟩
             ·replace c44 := Bool.eq_false_iff.mpr c44
              subst c44
              replace H := IN H
              obtain rfl := Option.some.inj H
              have hnb57 := NB180_174.out
              have hnc57 := NB174_180.out
              obtain ⟨hcz58_0, hcz58_1, hfz58_0, hfz58_1⟩ := bk2 BK180.out
              try go_wp2
              have n_ : _ ∧ _ ∧ _ := ⟨AsM (blk_drew BK174.out), AsM (blk_drew BK180.out), AsM (below_drew1 HB.out)⟩
              clear BK174 BK180 HB
              obtain ⟨BK174, BK180, HB⟩ := n_
              refine start_ (n := 12) (S := fun w' => w'.cell? ⟨gb180, 0, none⟩ = some (.int .i64 ((rd_T49 l0_1 x19_2).f0)) ∧ w'.cell? ⟨gb180, 1, none⟩ = some (.string ((rd_T49 l0_1 x19_2).f1))) (ds := []) #[false, false, false, false, false, false, false, false, false, false, false, false] (by kernel_rfl) rfl rfl ⟨(blk_cell BK180.out 0).trans rfl, (blk_cell BK180.out 1).trans rfl⟩ (fun hHeld => ?_); refine with_tabW spec_TableOk.tab13 spec_TableOk.bits13 (fun HT_ HW_ => ?_)
              generalize wc.drew = w59 at BK174 BK180 HB hHeld ⊢
              refine PU (i := 0) (N := some 46) (tf 1 11) rfl rfl HT_ ?_
              refine PT (i := 1) (N := some 47) (tf 2 10) rfl rfl HT_ HW_ hHeld ?_
              refine PU (i := 2) (N := some 48) (tf 3 9) rfl rfl HT_ ?_
              refine one_ (i := 3) (N := some 49) (tf 4 8) rfl rfl (one_of HT_.out (by kernel_rfl)) (by decide) (fun K hK => ?_)
              refine goes_ Try.func58 (by kernel_rfl) rfl #[.agg #[.string ((rd_T49 l0_1 x19_2).f1), .string (⟨#[]⟩ : ByteArray), .int .i64 0]] (by rfl) rfl rfl AQ ?_
              with_reducible refine (spec_ItemOk.calls kj16 ((rd_T49 l0_1 x19_2).f1) (⟨#[]⟩ : ByteArray) 0 false _ A43.out).mono ?_
              rintro e w60 ⟨rfl, hb⟩
              refine ⟨_, rfl, ?_⟩
              have n_ : _ ∧ _ ∧ _ := ⟨AsM (blk_below (BD BK174) hb), AsM (blk_below (BD BK180) hb), AsM (below_step BG hb)⟩
              clear BK174 BK180 HB
              obtain ⟨BK174, BK180, HB⟩ := n_
              (try clear hb)
              (try clear hb2)
              (try clear hk)
              (try clear hi)
              refine hK.out _ _ ⟨(blk_cell BK180.out 0).trans rfl, (blk_cell BK180.out 1).trans rfl⟩ (fun hHeld => ?_)
              clear hK K
              refine NM (some 49) ?_
              refine PU (i := 4) (N := some 50) (tf 5 7) rfl rfl HT_ ?_
              refine PU (i := 5) (N := some 51) (tf 6 6) rfl rfl HT_ ?_
              refine PN (i := 6) (N := some 52) (tf 7 5) rfl rfl HT_ ?_
              refine PN (i := 7) (N := some 53) (tf 8 4) rfl rfl HT_ ?_
              refine PN (i := 8) (N := some 54) (tf 9 3) rfl rfl HT_ ?_
              refine PN (i := 9) (N := some 55) (tf 10 2) rfl rfl HT_ ?_
              refine PN (i := 10) (N := some 56) (tf 11 1) rfl rfl HT_ ?_
              refine PU (i := 11) (N := some 57) (tf 12 0) rfl rfl HT_ ?_
              refine done_ (done_of HT_.out (by kernel_rfl)) ?_
              try go_wp2
              go_ret
              exact ⟨ER, BG⟩
        ·rw [if_neg c16] at H
         exact absurd H (by simp)
       ·rw [if_neg c15] at H
        exact absurd H (by simp)
      ·rw [if_neg c14] at H
       have c14b0 : decide (x19_2 < (l0_1.length : Int)) = false := decide_eq_false c14
       clear c14
       obtain rfl := Option.some.inj H
       go_wp2
       go_ret
       exact ⟨ER, BG⟩
end Go.Proofs.Ytbjlldjkkdiblaa.G

namespace Go.Proofs.Ytbjlldjkkdiblaa.G
open Go.RowKit Go.Proofs.YtbjlldjkkdiblaaW.PrintWords Go.Proofs.YtbjlldjkkdiblaaW.PrintLast Go.Proofs.YtbjlldjkkdiblaaW.PrintMore Go.Proofs.Ytbjlldjkkdiblaa.Sh
attribute [local go_sem] max2_int min2_int max_two min_two max_three min_three max_four min_four
set_option linter.unusedVariables false
set_option linter.unusedSimpArgs false
def spec_Keys.l0 : Nat → List ByteArray → List (S49) → Int → Int → Option (List ByteArray)
 | 0, _, _, _, _ => none
 | k + 1, x3, x12, x13, x14 => if x14 < x13 then (if 0 ≤ x14 then (if x14 < (x12.length : Int) then (if ((rd_T49 x12 x14).f1).toList = ([] : List UInt8) then (spec_Keys.l0 k x3 x12 x13 (wrap64 (x14 + 1))) else (if x3.length < 8796093022208 then (spec_Keys.l0 k (x3 ++ [(rd_T49 x12 x14).f1]) x12 x13 (wrap64 (x14 + 1))) else (none))) else (none)) else (none)) else (some x3)
def spec_Keys.f (k : Nat) (a0_0 : Int) (l0_1 : List (S49)) : Option (List ByteArray) := (some (([] : List ByteArray) : List ByteArray)).bind fun y294 => ((spec_TableOk.f k a0_0 l0_1).bind fun t297 => (if t297 = true then (spec_Keys.l0 k y294 l0_1 (l0_1.length : Int) 0) else (some y294)))
theorem spec_Keys.mono_l : ∀ k, (∀ y0 y1 y2 y3, LeO (spec_Keys.l0 k y0 y1 y2 y3) (spec_Keys.l0 (k + 1) y0 y1 y2 y3))
 | 0 => fun _ _ _ _ r h => by simp [spec_Keys.l0] at h
 | k + 1 => by
  have ih0 := spec_Keys.mono_l k
  ·intro y0 y1 y2 y3
   unfold spec_Keys.l0
   repeat' first | (with_reducible first | exact ih0 _ _ _ _ | exact spec_TableOk.mono _ _ _ | exact LeO.refl _ | exact LeO.none _ | refine LeO.ite ?_ ?_ | refine LeO.bind ?_ (fun _ => ?_)) | exact ih0 _ _ _ _ | exact spec_TableOk.mono _ _ _ | exact LeO.none _ | refine LeO.ite ?_ ?_ | refine LeO.bind ?_ (fun _ => ?_)
theorem spec_Keys.mono : ∀ a0 a1 k, LeO (spec_Keys.f k a0 a1) (spec_Keys.f (k + 1) a0 a1) := by
 intro a0 a1 k
 have ih0 := spec_Keys.mono_l k
 unfold spec_Keys.f
 repeat' first | (with_reducible first | exact ih0 _ _ _ _ | exact spec_TableOk.mono _ _ _ | exact LeO.refl _ | exact LeO.none _ | refine LeO.ite ?_ ?_ | refine LeO.bind ?_ (fun _ => ?_)) | exact ih0 _ _ _ _ | exact spec_TableOk.mono _ _ _ | exact LeO.none _ | refine LeO.ite ?_ ?_ | refine LeO.bind ?_ (fun _ => ?_)
set_option maxHeartbeats 8000000 in
set_option maxRecDepth 100000 in
theorem spec_Keys.calls (k : Nat) (a0_0 : Int) (A0_1 : Option Addr) (c0_1 : Nat) (l0_1 : List (S49)) (r : List ByteArray) (w : World) (hr0_1 : Kd.C k49 w A0_1 l0_1.length l0_1) (hc0_1 : l0_1.length ≤ c0_1) (h : spec_Keys.f k a0_0 l0_1 = some r) :
  Calls Try.prog 20 #[.agg #[.int .i64 a0_0, .slice A0_1 l0_1.length c0_1]] w fun e w' => ∃ v0_ : Value, e = .returned (v0_) ∧ Kd.R Kd.string 9 w' w.heap.size (fun _ => True) v0_ r ∧ Below w.heap.size w w' := by
 have hu25 := Try.underlying25
 have hu49 := Try.underlying49
 have HR0_1 := Aside0.mk hr0_1
 have HC0_1 := Aside0.mk hc0_1
 clear hr0_1 hc0_1
 have HB := Aside0.mk (Below.refl w.heap.size w)
 have H : ((some (([] : List ByteArray) : List ByteArray)).bind fun y294 => ((spec_TableOk.f k a0_0 l0_1).bind fun t297 => (if t297 = true then (spec_Keys.l0 k y294 l0_1 (l0_1.length : Int) 0) else (some y294)))) = some r := h
 clear h
 obtain ⟨y294, hy294⟩ : ∃ y_ : List ByteArray, y_ = (([] : List ByteArray)) := ⟨_, rfl⟩
 replace H : ((spec_TableOk.f k a0_0 l0_1).bind fun t297 => (if t297 = true then (spec_Keys.l0 k y294 l0_1 (l0_1.length : Int) 0) else (some y294))) = some r := by first | (rw [hy294]; with_reducible exact H) | (have H2_ := (Option.bind_some _ _).symm.trans H; rw [hy294]; with_reducible exact H2_) | (have H2_ := (Option.bind_some _ _).symm.trans H; with_reducible exact H2_) | with_reducible exact H | (rw [hy294]; exact H) | exact H
 have Ny294 := Aside0.mk hy294
 clear hy294
 replace H := BS H
 obtain ⟨t297, A20, H⟩ := H
 have A2 := Aside0.mk A20
 clear A20
 by_cases c3 : t297 = true
 ·subst c3
  replace H := IP H
  have H' := Aside0.mk H
  clear H
  go_enter Try.func20, Try.ntmps20
  go_wp2_with (first | ((with_reducible refine gate_dst (N := 1) rfl ?_); refine box_event ?hg (N := 1) ?hd (cs := #[.int .i64 a0_0, .slice A0_1 l0_1.length c0_1]) (t := 25) ?hr ?_; (case hd => rfl); (case hg => rfl); (case hr => first | (go_simp; done) | (go_simp; rfl)); intro gb293 hg w4 hbox hb; have n_ : _ ∧ _ ∧ _ ∧ _ := ⟨AsM (below_step BL hb), AsM (hbox), AsM ((GL : w.heap.size ≤ gb293)), AsM ((GL : w.heap.size ≤ gb293))⟩; clear HB; obtain ⟨HB, BK293, GW293, GE293⟩ := n_; clear hb hbox hg) | ((with_reducible refine gate_dst (N := 6) rfl ?_); refine Kd.R_lit Kd.string _ 9 ?hg (N := 6) ?hd (xs := ([] : List ByteArray)) (inner := []) (ok := fun _ => True) (okp := fun _ => True) ?hr ?hp (fun _ hk => hk) trivial (Below.refl _ _) (Nat.le_refl _) (by simp) ?_; (case hd => rfl); (case hg => rfl); (case hr => first | (go_simp; done) | (go_simp; rfl)); (case hp => exact (Reps.none _ _)); intro v295 w5 ho6 hb hg_ hnew_; clear hg_ hnew_; (first | rw [← Ny294.out] at ho6 | (simp only [Int.reduceToNat] at ho6; rw [← Ny294.out] at ho6)); have n_ : _ ∧ _ ∧ _ := ⟨AsM (Kd.R_lower ho6 (below_size BG)), AsM (blk_below (BD BK293) hb), AsM (below_step BG hb)⟩; clear BK293 HB; obtain ⟨HO296, BK293, HB⟩ := n_; clear hb ho6; obtain ⟨hcz7_0, hcz7_1, hfz7_0, hfz7_1⟩ := bk2 BK293.out) | ((with_reducible refine gate_callee (f := 40) rfl ?_); refine goesL_ (some 8) rfl rfl Try.func40 (by kernel_rfl) rfl #[.agg #[.int .i64 a0_0, .slice A0_1 l0_1.length c0_1]] rfl AQ ?_; (with_reducible refine (spec_TableOk.calls k a0_0 _ _ l0_1 true _ ?side1 ?side2 A2.out).mono ?_); (case side1 => exact SC HR0_1); (case side2 => exact HC0_1.out); rintro e w8 ⟨rfl, hb⟩; refine ⟨_, rfl, ?_⟩; have n_ : _ ∧ _ ∧ _ := ⟨AsM (Kd.R_below (RD HO296) hb), AsM (blk_below (BD BK293) hb), AsM (below_step BG hb)⟩; clear HO296 BK293 HB; obtain ⟨HO296, BK293, HB⟩ := n_; (try clear hb); (try clear hb2); (try clear hk); (try clear hi); obtain ⟨hcz9_0, hcz9_1, hfz9_0, hfz9_1⟩ := bk2 BK293.out))
  go_loopg [3, 14] k (fun kq v3 v14 w' => ∃ (x3_1 : List ByteArray) (x14_1 : Int), v14 = .int .i64 x14_1 ∧ Aside0 (spec_Keys.l0 kq x3_1 l0_1 (l0_1.length : Int) x14_1 = some r) ∧ Aside0 (kq ≤ k) ∧ Aside0 (Kd.R Kd.string 9 w' w.heap.size (fun _ => True) v3 x3_1) ∧ Aside0 (w'.heap[gb293]? = some (.cells #[.int .i64 a0_0, (.slice A0_1 l0_1.length c0_1)] 25 (0, 0))) ∧ Aside0 (Below w.heap.size w w'))
  case atStart => exact ⟨(y294), (0), RS, H', ⟨Nat.le_refl _⟩, ⟨RD HO296⟩, ⟨BD BK293⟩, ⟨by repeat (first | (with_reducible first | exact HB.out | apply below_alloc | apply pw_below_drewN | apply below_drew1 | refine below_set ?_ GE293.out) | exact HB.out)⟩⟩
  case round =>
   clear H'
   try clear c2
   try clear p2
   try clear c3
   try clear c4
   try clear hcz7_0
   try clear hcz7_1
   try clear hcz9_0
   try clear hcz9_1
   try clear hfz7_0
   try clear hfz7_1
   try clear hfz9_0
   try clear hfz9_1
   obtain ⟨x3_1, x14_1, rfl, HA, HK1, HO_3, BK293, HB⟩ := hrel
   cases gk with
   | zero => exact absurd HA.out (by simp [spec_Keys.l0])
   | succ k1 =>
    have H := HA.out
    clear HA
    simp only [spec_Keys.l0] at H
    by_cases c10 : x14_1 < (l0_1.length : Int)
    ·rw [if_pos c10] at H
     have c10b0 : decide (x14_1 < (l0_1.length : Int)) = true := decide_eq_true c10
     clear c10
     by_cases c11 : 0 ≤ x14_1
     ·rw [if_pos c11] at H
      have c11b0 : decide (0 ≤ x14_1) = true := decide_eq_true c11
      clear c11
      by_cases c12 : x14_1 < (l0_1.length : Int)
      ·rw [if_pos c12] at H
       have c12b0 : decide (x14_1 < (l0_1.length : Int)) = true := decide_eq_true c12
       clear c12
       by_cases c13 : ((rd_T49 l0_1 x14_1).f1).toList = ([] : List UInt8)
       ·rw [if_pos c13] at H
        have c13b0 : (((rd_T49 l0_1 x14_1).f1).toList == ([] : List UInt8)) = true := beq_iff_eq.mpr c13
        have c13b1 : (((rd_T49 l0_1 x14_1).f1).toList != ([] : List UInt8)) = false := bne_eq_false_iff_eq.mpr c13
        clear c13
        have H' := Aside0.mk H
        clear H
        have p298 : 0 ≤ (x14_1 : Int) := of_decide_eq_true AS
        have q298 : x14_1 < (l0_1.length : Int) := of_decide_eq_true AS
        obtain ⟨ad298, e298, hx298_0, hx298_1⟩ := at_T49 HR0_1.out x14_1 p298 q298
        cases e298
        replace hx298_0 := (HB.out.cell (World.block_lt_of_cell? w _ hx298_0)).trans hx298_0
        replace hx298_1 := (HB.out.cell (World.block_lt_of_cell? w _ hx298_1)).trans hx298_1
        replace p298 := eq_true p298
        replace q298 := eq_true q298
        go_wp2_with (first | ((with_reducible refine gate_dst (N := 5) rfl ?_); refine box_event ?hg (N := 5) ?hd (cs := #[.int .i64 0, .string (⟨#[]⟩ : ByteArray)]) (t := 49) ?hr ?_; (case hd => rfl); (case hg => rfl); (case hr => first | (go_simp; done) | (go_simp; rfl)); intro gb299 hg w14 hbox hb; have n_ : _ ∧ _ ∧ _ ∧ _ ∧ _ ∧ _ ∧ _ ∧ _ := ⟨AsM (Kd.R_below (RD HO_3) hb), AsM (blk_below (BD BK293) hb), AsM (below_step BG hb), AsM (hbox), AsM ((GM : w.heap.size ≤ gb299)), AsM ((GM : w.heap.size ≤ gb299)), AsM ((by rw [hg]; exact Nat.ne_of_lt (blk_lt (BD BK293)) : gb293 ≠ gb299)), AsM ((by rw [hg]; exact Nat.ne_of_gt (blk_lt (BD BK293)) : gb299 ≠ gb293))⟩; clear HO_3 BK293 HB; obtain ⟨HO_3, BK293, HB, BK299, GW299, GE299, NB293_299, NB299_293⟩ := n_; clear hb hbox hg; have hnb15 := NB299_293.out; have hnc15 := NB293_299.out; obtain ⟨hcz16_0, hcz16_1, hfz16_0, hfz16_1⟩ := bk2 BK299.out))
        go_roundg k1
        case measure => have := HK1.out; omega
        case rel => exact ⟨(x3_1), (wrap64 (x14_1 + 1)), RS, H', ⟨by have := HK1.out; omega⟩, ⟨by refine PRx ?_; exact Kd.R_mono (FR (FR (Kd.R_types HO_3.out BK299.out (by decide)))) (fun _ hk => trivial)⟩, ⟨by refine PX ?_; refine blk_far ?_ NB293_299.out _; refine PX ?_; refine blk_far ?_ NB293_299.out _; exact BD BK293⟩, ⟨by repeat (first | (with_reducible first | exact HB.out | apply below_alloc | apply pw_below_drewN | apply below_drew1 | refine below_set ?_ GE293.out | refine below_set ?_ GE299.out) | exact HB.out)⟩⟩
       ·rw [if_neg c13] at H
        have c13b0 : (((rd_T49 l0_1 x14_1).f1).toList == ([] : List UInt8)) = false := beq_eq_false_iff_ne.mpr c13
        have c13b1 : (((rd_T49 l0_1 x14_1).f1).toList != ([] : List UInt8)) = true := bne_iff_ne.mpr c13
        by_cases c17 : x3_1.length < 8796093022208
        ·rw [if_pos c17] at H
         have LMc17 := Aside0.mk c17
         clear c17
         obtain ⟨y300, hy300⟩ : ∃ y_ : List ByteArray, y_ = (x3_1 ++ [(rd_T49 l0_1 x14_1).f1]) := ⟨_, rfl⟩
         replace H : (spec_Keys.l0 k1 y300 l0_1 (l0_1.length : Int) (wrap64 (x14_1 + 1))) = some r := by first | (rw [hy300]; with_reducible exact H) | (have H2_ := (Option.bind_some _ _).symm.trans H; rw [hy300]; with_reducible exact H2_) | (have H2_ := (Option.bind_some _ _).symm.trans H; with_reducible exact H2_) | with_reducible exact H | (rw [hy300]; exact H) | exact H
         have Ny300 := Aside0.mk hy300
         clear hy300
         have H' := Aside0.mk H
         clear H
         have p298 : 0 ≤ (x14_1 : Int) := of_decide_eq_true AS
         have q298 : x14_1 < (l0_1.length : Int) := of_decide_eq_true AS
         obtain ⟨ad298, e298, hx298_0, hx298_1⟩ := at_T49 HR0_1.out x14_1 p298 q298
         cases e298
         replace hx298_0 := (HB.out.cell (World.block_lt_of_cell? w _ hx298_0)).trans hx298_0
         replace hx298_1 := (HB.out.cell (World.block_lt_of_cell? w _ hx298_1)).trans hx298_1
         replace p298 := eq_true p298
         replace q298 := eq_true q298
         go_wp2_with (first | ((with_reducible refine gate_dst (N := 5) rfl ?_); refine box_event ?hg (N := 5) ?hd (cs := #[.int .i64 0, .string (⟨#[]⟩ : ByteArray)]) (t := 49) ?hr ?_; (case hd => rfl); (case hg => rfl); (case hr => first | (go_simp; done) | (go_simp; rfl)); intro gb299 hg w18 hbox hb; have n_ : _ ∧ _ ∧ _ ∧ _ ∧ _ ∧ _ ∧ _ ∧ _ := ⟨AsM (Kd.R_below (RD HO_3) hb), AsM (blk_below (BD BK293) hb), AsM (below_step BG hb), AsM (hbox), AsM ((GM : w.heap.size ≤ gb299)), AsM ((GM : w.heap.size ≤ gb299)), AsM ((by rw [hg]; exact Nat.ne_of_lt (blk_lt (BD BK293)) : gb293 ≠ gb299)), AsM ((by rw [hg]; exact Nat.ne_of_gt (blk_lt (BD BK293)) : gb299 ≠ gb293))⟩; clear HO_3 BK293 HB; obtain ⟨HO_3, BK293, HB, BK299, GW299, GE299, NB293_299, NB299_293⟩ := n_; clear hb hbox hg; have hnb19 := NB299_293.out; have hnc19 := NB293_299.out; obtain ⟨hcz20_0, hcz20_1, hfz20_0, hfz20_1⟩ := bk2 BK299.out) | ((with_reducible refine gate_builtin (b := .append) (xs := #[.tmp 21, .tmp 24]) rfl ?_); at_builtin; refine Kd.R_append Kd.string (w0 := w) w.heap.size rfl (.tmp 21) (.tmp 24) 27 9 (.string ⟨#[]⟩) 16 rfl Try.underlying27 info9 rfl (by decide) (by omega) u3 x3_1 ((rd_T49 l0_1 x14_1).f1) [.string ((rd_T49 l0_1 x14_1).f1)] (fun _ => True) (fun _ => False) rfl (by first | (go_simp; done) | (go_simp; rfl)) ?aP (fun _ hk => hk.elim) ?aF ?aO ?aB ?aS ?aL ?_; (case aP => exact rfl); (case aB => exact BG); (case aF => exact (fun _ _ => trivial)); (case aO => exact (by refine PRx ?_; exact Kd.R_mono (FR (FR (Kd.R_types HO_3.out BK299.out (by decide)))) (fun _ hk => trivial))); (case aS => exact (below_size BG)); (case aL => have := LMc17.out; omega); intro v301 w21 ho hb hg hat; rw [← Ny300.out] at ho; have n_ : _ ∧ _ ∧ _ ∧ _ := ⟨AsM (blk_grown (g := gb293) (o := .cells #[.int .i64 a0_0, .slice (some ad298) l0_1.length c0_1] 25 (0, 0)) (by refine PX ?_; refine blk_far ?_ NB293_299.out _; refine PX ?_; refine blk_far ?_ NB293_299.out _; exact BD BK293) hg (Kd.R_ne HO_3.out BK293.out (by decide))), AsM (blk_grown (g := gb299) (o := .cells #[.int .i64 ((rd_T49 l0_1 x14_1).f0), .string ((rd_T49 l0_1 x14_1).f1)] 49 (0, 0)) (by refine PX ?_; refine blk_put (cs := #[.int .i64 ((rd_T49 l0_1 x14_1).f0), .string (⟨#[]⟩ : ByteArray)]) ?_ 1 _ rfl; refine PX ?_; refine blk_put (cs := #[.int .i64 0, .string (⟨#[]⟩ : ByteArray)]) ?_ 0 _ rfl; exact BD BK299) hg (Kd.R_ne HO_3.out BK299.out (by decide))), AsM (hb), AsM (ho)⟩; clear BK293 BK299 HB HO_3; obtain ⟨BK293, BK299, HB, HO302⟩ := n_; clear ho hb hg hat))
         go_roundg k1
         case measure => have := HK1.out; omega
         case rel => exact ⟨(y300), (wrap64 (x14_1 + 1)), RS, H', ⟨by have := HK1.out; omega⟩, ⟨RD HO302⟩, ⟨BD BK293⟩, ⟨by repeat (first | (with_reducible first | exact HB.out | apply below_alloc | apply pw_below_drewN | apply below_drew1 | refine below_set ?_ GE293.out | refine below_set ?_ GE299.out) | exact HB.out)⟩⟩
        ·rw [if_neg c17] at H
         exact absurd H (by simp)
      ·rw [if_neg c12] at H
       exact absurd H (by simp)
     ·rw [if_neg c11] at H
      exact absurd H (by simp)
    ·rw [if_neg c10] at H
     have c10b0 : decide (x14_1 < (l0_1.length : Int)) = false := decide_eq_false c10
     clear c10
     obtain rfl := Option.some.inj H
     go_wp2
     go_ret
     exact ⟨_, ER, RD HO_3, BG⟩
 ·replace c3 := Bool.eq_false_iff.mpr c3
  subst c3
  replace H := IN H
  obtain rfl := Option.some.inj H
  go_enter Try.func20, Try.ntmps20
  go_wp2_with (first | ((with_reducible refine gate_dst (N := 1) rfl ?_); refine box_event ?hg (N := 1) ?hd (cs := #[.int .i64 a0_0, .slice A0_1 l0_1.length c0_1]) (t := 25) ?hr ?_; (case hd => rfl); (case hg => rfl); (case hr => first | (go_simp; done) | (go_simp; rfl)); intro gb293 hg w22 hbox hb; have n_ : _ ∧ _ ∧ _ ∧ _ := ⟨AsM (below_step BL hb), AsM (hbox), AsM ((GL : w.heap.size ≤ gb293)), AsM ((GL : w.heap.size ≤ gb293))⟩; clear HB; obtain ⟨HB, BK293, GW293, GE293⟩ := n_; clear hb hbox hg) | ((with_reducible refine gate_dst (N := 6) rfl ?_); refine Kd.R_lit Kd.string _ 9 ?hg (N := 6) ?hd (xs := ([] : List ByteArray)) (inner := []) (ok := fun _ => True) (okp := fun _ => True) ?hr ?hp (fun _ hk => hk) trivial (Below.refl _ _) (Nat.le_refl _) (by simp) ?_; (case hd => rfl); (case hg => rfl); (case hr => first | (go_simp; done) | (go_simp; rfl)); (case hp => exact (Reps.none _ _)); intro v295 w23 ho24 hb hg_ hnew_; clear hg_ hnew_; (first | rw [← Ny294.out] at ho24 | (simp only [Int.reduceToNat] at ho24; rw [← Ny294.out] at ho24)); have n_ : _ ∧ _ ∧ _ := ⟨AsM (Kd.R_lower ho24 (below_size BG)), AsM (blk_below (BD BK293) hb), AsM (below_step BG hb)⟩; clear BK293 HB; obtain ⟨HO296, BK293, HB⟩ := n_; clear hb ho24; obtain ⟨hcz25_0, hcz25_1, hfz25_0, hfz25_1⟩ := bk2 BK293.out) | ((with_reducible refine gate_callee (f := 40) rfl ?_); refine goesL_ (some 8) rfl rfl Try.func40 (by kernel_rfl) rfl #[.agg #[.int .i64 a0_0, .slice A0_1 l0_1.length c0_1]] rfl AQ ?_; (with_reducible refine (spec_TableOk.calls k a0_0 _ _ l0_1 false _ ?side1 ?side2 A2.out).mono ?_); (case side1 => exact SC HR0_1); (case side2 => exact HC0_1.out); rintro e w26 ⟨rfl, hb⟩; refine ⟨_, rfl, ?_⟩; have n_ : _ ∧ _ ∧ _ := ⟨AsM (Kd.R_below (RD HO296) hb), AsM (blk_below (BD BK293) hb), AsM (below_step BG hb)⟩; clear HO296 BK293 HB; obtain ⟨HO296, BK293, HB⟩ := n_; (try clear hb); (try clear hb2); (try clear hk); (try clear hi)))
  go_ret
  exact ⟨_, ER, RD HO296, BG⟩
/-- A state of type 46 at block g of W; what its slices lead to came in by w0. -/
def IsS46 (w0 W : World) (g : Nat) (f0 : List Int) (f1 : Int) (f2 : Int) : Prop := ∃ A0 c0, W.heap[g]? = some (.cells #[.slice A0 f0.length c0, .int .i64 f1, .int .i64 f2] 46 (0, 0)) ∧ w0.heap.size ≤ g ∧ Kd.C (Kd.int .u8) w0 A0 f0.length f0
theorem IsS46.grown {w0 W : World} {g : Nat} {f0 : List Int} {f1 : Int} {f2 : Int} {W1 : World} {row : Option Nat} (h : IsS46 w0 W g f0 f1 f2) (hw : W.grownBy W1 row) (hne : some g ≠ row) : IsS46 w0 W1 g f0 f1 f2 := by
 obtain ⟨A0, c0, hb, hg, hr0⟩ := h
 exact ⟨A0, c0, blk_grown hb hw hne, hg, hr0⟩
theorem IsS46.kept {w0 W : World} {g : Nat} {f0 : List Int} {f1 : Int} {f2 : Int} {W1 : World} {S : Nat → Prop} (h : IsS46 w0 W g f0 f1 f2) (hk : Kept W W1 S) (hne : ¬ S g) : IsS46 w0 W1 g f0 f1 f2 := by
 obtain ⟨A0, c0, hb, hg, hr0⟩ := h
 exact ⟨A0, c0, blk_kept hb hk hne, hg, hr0⟩
theorem IsS46.below {w0 W : World} {g : Nat} {f0 : List Int} {f1 : Int} {f2 : Int} {W1 : World} (h : IsS46 w0 W g f0 f1 f2) (hw : Below W.heap.size W W1) : IsS46 w0 W1 g f0 f1 f2 := h.grown (grown_of_below hw none) (by simp)
theorem IsS46.alloc {w0 W : World} {g : Nat} {f0 : List Int} {f1 : Int} {f2 : Int} (h : IsS46 w0 W g f0 f1 f2) (o : Obj) : IsS46 w0 (W.alloc o) g f0 f1 f2 := h.below (below_alloc (Below.refl _ _) o)
theorem IsS46.drewN {w0 W : World} {g : Nat} {f0 : List Int} {f1 : Int} {f2 : Int} (h : IsS46 w0 W g f0 f1 f2) (m : Nat) : IsS46 w0 (W.drewN m) g f0 f1 f2 := h
theorem IsS46.drew {w0 W : World} {g : Nat} {f0 : List Int} {f1 : Int} {f2 : Int} (h : IsS46 w0 W g f0 f1 f2) : IsS46 w0 W.drew g f0 f1 f2 := h
theorem IsS46.at_ {w0 W : World} {g : Nat} {f0 : List Int} {f1 : Int} {f2 : Int} {w' : World} {m : Nat} (hq : W.drewN m = w') (h : IsS46 w0 W g f0 f1 f2) : IsS46 w0 w' g f0 f1 f2 := by subst hq; exact IsS46.drewN h m
theorem IsS46.apart {w0 W : World} {g : Nat} {f0 : List Int} {f1 : Int} {f2 : Int} {α : Type} {d : Kd α} {e : Nat} {base : Nat} {ok : Nat → Prop} {v : Value} {xs : List α} (h : IsS46 w0 W g f0 f1 f2) (ho : d.R e W base ok v xs) (ht : ∀ q, q ∈ e :: d.E → q ≠ 46) : d.R e W base (fun k => ok k ∧ k ≠ g) v xs := by
 obtain ⟨A0, c0, hb, hg, hr0⟩ := h
 exact Kd.R_types ho hb ht
theorem IsS46.own_ne {w0 W : World} {g : Nat} {f0 : List Int} {f1 : Int} {f2 : Int} {α : Type} {d : Kd α} {e : Nat} {base : Nat} {ok : Nat → Prop} {v : Value} {xs : List α} (h : IsS46 w0 W g f0 f1 f2) (ho : d.R e W base ok v xs) (ht : e ≠ 46) : some g ≠ v.ownBlock := by
 obtain ⟨A0, c0, hb, hg, hr0⟩ := h
 exact Kd.R_ne ho hb ht
theorem IsS46.lt {w0 W : World} {g : Nat} {f0 : List Int} {f1 : Int} {f2 : Int} (h : IsS46 w0 W g f0 f1 f2) : g < W.heap.size := by
 obtain ⟨A0, c0, hb, hg, hr0⟩ := h
 exact blk_lt hb
theorem IsS46.ge {w0 W : World} {g : Nat} {f0 : List Int} {f1 : Int} {f2 : Int} (h : IsS46 w0 W g f0 f1 f2) : w0.heap.size ≤ g := by
 obtain ⟨A0, c0, hb, hg, hr0⟩ := h
 exact hg
theorem IsS46.ne_blk {w0 W : World} {g : Nat} {f0 : List Int} {f1 : Int} {f2 : Int} {a : Nat} {cs : Array Value} {t : TypeId} {fr : Nat × Nat} (h : IsS46 w0 W g f0 f1 f2) (hb2 : W.heap[a]? = some (.cells cs t fr)) (ht : t ≠ 46) : g ≠ a := by
 obtain ⟨A0, c0, hb, hg, hr0⟩ := h
 rintro rfl
 rw [hb] at hb2
 injection hb2 with hb2
 injection hb2 with _ ht2
 exact ht ht2.symm
theorem IsS46.far {w0 W : World} {g : Nat} {f0 : List Int} {f1 : Int} {f2 : Int} {p : Addr} (h : IsS46 w0 W g f0 f1 f2) (hne : g ≠ p.block) (u : Value) : IsS46 w0 (W.setCell p u) g f0 f1 f2 := by
 obtain ⟨A0, c0, hb, hg, hr0⟩ := h
 exact ⟨A0, c0, blk_far hb hne u, hg, hr0⟩
theorem cellS46_0 {W : World} {g : Nat} {A0 : Option Addr} {c0 : Nat} {f0 : List Int} {f1 : Int} {f2 : Int} (h : W.heap[g]? = some (.cells #[.slice A0 f0.length c0, .int .i64 f1, .int .i64 f2] 46 (0, 0))) : W.cell? ⟨g, 0, none⟩ = some (.slice A0 f0.length c0) := (blk_cell h 0).trans rfl
theorem cellS46_1 {W : World} {g : Nat} {A0 : Option Addr} {c0 : Nat} {f0 : List Int} {f1 : Int} {f2 : Int} (h : W.heap[g]? = some (.cells #[.slice A0 f0.length c0, .int .i64 f1, .int .i64 f2] 46 (0, 0))) : W.cell? ⟨g, 1, none⟩ = some (.int .i64 f1) := (blk_cell h 1).trans rfl
theorem IsS46.set_1 {w0 W : World} {g : Nat} {f0 : List Int} {f1 : Int} {f2 : Int} (h : IsS46 w0 W g f0 f1 f2) (x : Int) : IsS46 w0 (W.setCell ⟨g, 1, none⟩ (.int .i64 x)) g f0 x f2 := by
 obtain ⟨A0, c0, hb, hg, hr0⟩ := h
 exact ⟨A0, c0, by simpa using blk_set hb 1 (.int .i64 x), hg, hr0⟩
theorem cellS46_2 {W : World} {g : Nat} {A0 : Option Addr} {c0 : Nat} {f0 : List Int} {f1 : Int} {f2 : Int} (h : W.heap[g]? = some (.cells #[.slice A0 f0.length c0, .int .i64 f1, .int .i64 f2] 46 (0, 0))) : W.cell? ⟨g, 2, none⟩ = some (.int .i64 f2) := (blk_cell h 2).trans rfl
theorem IsS46.set_2 {w0 W : World} {g : Nat} {f0 : List Int} {f1 : Int} {f2 : Int} (h : IsS46 w0 W g f0 f1 f2) (x : Int) : IsS46 w0 (W.setCell ⟨g, 2, none⟩ (.int .i64 x)) g f0 f1 x := by
 obtain ⟨A0, c0, hb, hg, hr0⟩ := h
 exact ⟨A0, c0, by simpa using blk_set hb 2 (.int .i64 x), hg, hr0⟩
def spec_l01New.l0 : Nat → List Int → Int → Int → Option (List Int × Int × Int)
 | 0, _, _, _ => none
 | k + 1, x0, x3, x4 => if x4 < (x0.length : Int) then (if x4 < 4000 then (if 0 ≤ x4 then (spec_l01New.l0 k x0 (Go.bits .and .i64 (wrap64 ((wrap64 ((wrap64 (x3 * 179)) + (wrap64 (rd x0 x4)))) + 7)) 1073741823) (wrap64 (x4 + 1))) else (none)) else (some (x0, 0, x3))) else (some (x0, 0, x3))
def spec_l01New.f (k : Nat) (l0 : List Int) : Option (List Int × Int × Int) := spec_l01New.l0 k l0 (wrap64 (774119 + (l0.length : Int))) 0
theorem spec_l01New.mono_l : ∀ k, (∀ y0 y1 y2, LeO (spec_l01New.l0 k y0 y1 y2) (spec_l01New.l0 (k + 1) y0 y1 y2))
 | 0 => fun _ _ _ r h => by simp [spec_l01New.l0] at h
 | k + 1 => by
  have ih0 := spec_l01New.mono_l k
  ·intro y0 y1 y2
   unfold spec_l01New.l0
   repeat' first | (with_reducible first | exact ih0 _ _ _ | exact LeO.refl _ | exact LeO.none _ | refine LeO.ite ?_ ?_ | refine LeO.bind ?_ (fun _ => ?_)) | exact ih0 _ _ _ | exact LeO.none _ | refine LeO.ite ?_ ?_ | refine LeO.bind ?_ (fun _ => ?_)
theorem spec_l01New.mono : ∀ a0 k, LeO (spec_l01New.f k a0) (spec_l01New.f (k + 1) a0) := by
 intro a0 k
 have ih0 := spec_l01New.mono_l k
 unfold spec_l01New.f
 repeat' first | (with_reducible first | exact ih0 _ _ _ | exact LeO.refl _ | exact LeO.none _ | refine LeO.ite ?_ ?_ | refine LeO.bind ?_ (fun _ => ?_)) | exact ih0 _ _ _ | exact LeO.none _ | refine LeO.ite ?_ ?_ | refine LeO.bind ?_ (fun _ => ?_)
theorem spec_l01New.z0 {P : Prop} (h : P := by rw [hg]; exact (below_size (by repeat (first | (with_reducible first | exact HBW.out | apply below_alloc | apply pw_below_drewN | apply below_drew1) | exact HBW.out)))) : P := h
set_option maxHeartbeats 8000000 in
set_option maxRecDepth 100000 in
theorem spec_l01New.calls (k : Nat) (A0 : Option Addr) (c0 : Nat) (l0 : List Int) (r1 : List Int) (r2 : Int) (r3 : Int) (w0 w : World) (hB : Below w0.heap.size w0 w) (hr0 : Kd.C (Kd.int .u8) w0 A0 l0.length l0) (hc0 : l0.length ≤ c0) (h : spec_l01New.f k l0 = some (r1, r2, r3)) :
  Calls Try.prog 21 #[.slice A0 l0.length c0] w fun e w' => ∃ g_ : Nat, e = .returned (.pointer (some ⟨g_, 0, none⟩)) ∧ IsS46 w0 w' g_ r1 r2 r3 ∧ Below w0.heap.size w0 w' ∧ Below w.heap.size w w' := by
 have hu46 := Try.underlying46
 have HR0 := Aside0.mk hr0
 have HC0 := Aside0.mk hc0
 clear hr0 hc0
 have HBW := Aside0.mk (Below.refl w.heap.size w)
 have HW0 := Aside0.mk hB.size
 have HB := Aside0.mk hB
 clear hB
 have H : (spec_l01New.l0 k l0 (wrap64 (774119 + (l0.length : Int))) 0) = some (r1, r2, r3) := h
 clear h
 have H' := Aside0.mk H
 clear H
 go_enter Try.func21, Try.ntmps21
 go_wp2
 go_loopg [3, 4] k (fun kq v3 v4 w' => ∃ (x3_1 : Int) (x4_1 : Int), v3 = .int .i64 x3_1 ∧ v4 = .int .i64 x4_1 ∧ Aside0 (spec_l01New.l0 kq l0 x3_1 x4_1 = some (r1, r2, r3)) ∧ Aside0 (kq ≤ k) ∧ Aside0 (Below w0.heap.size w0 w') ∧ Aside0 (Below w.heap.size w w'))
 case atStart => exact ⟨(wrap64 (774119 + (l0.length : Int))), (0), RS, RS, H', ⟨Nat.le_refl _⟩, ⟨by repeat (first | (with_reducible first | exact HB.out | apply below_alloc | apply pw_below_drewN | apply below_drew1) | exact HB.out)⟩, HBW⟩
 case round =>
  clear H' HBW
  obtain ⟨x3_1, x4_1, rfl, rfl, HA, HK1, HB, HBW⟩ := hrel
  cases gk with
  | zero => exact absurd HA.out (by simp [spec_l01New.l0])
  | succ k1 =>
   have H := HA.out
   clear HA
   simp only [spec_l01New.l0] at H
   by_cases c2 : x4_1 < (l0.length : Int)
   ·rw [if_pos c2] at H
    have c2b0 : decide (x4_1 < (l0.length : Int)) = true := decide_eq_true c2
    clear c2
    by_cases c3 : x4_1 < 4000
    ·rw [if_pos c3] at H
     have c3b0 : decide (x4_1 < 4000) = true := decide_eq_true c3
     clear c3
     by_cases c4 : 0 ≤ x4_1
     ·rw [if_pos c4] at H
      have c4b0 : decide (0 ≤ x4_1) = true := decide_eq_true c4
      clear c4
      have H' := Aside0.mk H
      clear H
      have p101 : 0 ≤ (x4_1 : Int) := of_decide_eq_true AS
      have q101 : x4_1 < (l0.length : Int) := of_decide_eq_true AS
      obtain ⟨ad101, e101, hx101_0⟩ := Kd.at_int HR0.out x4_1 p101 q101
      cases e101
      replace hx101_0 := pw_cell_below HB.out hx101_0
      replace p101 := eq_true p101
      replace q101 := eq_true q101
      go_wp2
      go_roundg k1
      case measure => have := HK1.out; omega
      case rel => exact ⟨(Go.bits .and .i64 (wrap64 ((wrap64 ((wrap64 (x3_1 * 179)) + (wrap64 (rd l0 x4_1)))) + 7)) 1073741823), (wrap64 (x4_1 + 1)), RS, RS, H', ⟨by have := HK1.out; omega⟩, ⟨by repeat (first | (with_reducible first | exact HB.out | apply below_alloc | apply pw_below_drewN | apply below_drew1) | exact HB.out)⟩, HBW⟩
     ·rw [if_neg c4] at H
      exact absurd H (by simp)
    ·rw [if_neg c3] at H
     have c3b0 : decide (x4_1 < 4000) = false := decide_eq_false c3
     clear c3
     simp only [Option.some.injEq, Prod.mk.injEq] at H
     obtain ⟨rfl, rfl, rfl⟩ := H
     go_wp2_with (first | ((with_reducible refine gate_dst (N := 31) rfl ?_); refine box_event ?hg (N := 31) ?hd (cs := #[.slice A0 l0.length c0, .int .i64 0, .int .i64 x3_1]) (t := 46) ?hr ?_; (case hd => rfl); (case hg => rfl); (case hr => first | (go_simp; done) | (go_simp; rfl)); intro gb102 hg w5 hbox hb; have n_ : _ ∧ _ ∧ _ ∧ _ ∧ _ := ⟨AsM (below_step HBW.out hb), AsM (below_step BL hb), AsM (hbox), AsM ((spec_l01New.z0 : w.heap.size ≤ gb102)), AsM ((Nat.le_trans HW0.out (spec_l01New.z0 : w.heap.size ≤ gb102) : w0.heap.size ≤ gb102))⟩; clear HBW HB; obtain ⟨HBW, HB, BK102, GW102, GE102⟩ := n_; clear hb hbox hg))
     go_ret
     exact ⟨_, rfl, (show IsS46 w0 _ gb102 l0 0 x3_1 from ⟨_, _, BD BK102, GE102.out, HR0.out⟩), by repeat (first | (with_reducible first | exact HB.out | apply below_alloc | apply pw_below_drewN | apply below_drew1 | refine below_set ?_ GE102.out) | exact HB.out), by repeat (first | (with_reducible first | exact HBW.out | apply below_alloc | apply pw_below_drewN | apply below_drew1 | refine below_set ?_ GW102.out) | exact HBW.out)⟩
   ·rw [if_neg c2] at H
    have c2b0 : decide (x4_1 < (l0.length : Int)) = false := decide_eq_false c2
    clear c2
    simp only [Option.some.injEq, Prod.mk.injEq] at H
    obtain ⟨rfl, rfl, rfl⟩ := H
    go_wp2_with (first | ((with_reducible refine gate_dst (N := 31) rfl ?_); refine box_event ?hg (N := 31) ?hd (cs := #[.slice A0 l0.length c0, .int .i64 0, .int .i64 x3_1]) (t := 46) ?hr ?_; (case hd => rfl); (case hg => rfl); (case hr => first | (go_simp; done) | (go_simp; rfl)); intro gb103 hg w6 hbox hb; have n_ : _ ∧ _ ∧ _ ∧ _ ∧ _ := ⟨AsM (below_step HBW.out hb), AsM (below_step BL hb), AsM (hbox), AsM ((spec_l01New.z0 : w.heap.size ≤ gb103)), AsM ((Nat.le_trans HW0.out (spec_l01New.z0 : w.heap.size ≤ gb103) : w0.heap.size ≤ gb103))⟩; clear HBW HB; obtain ⟨HBW, HB, BK103, GW103, GE103⟩ := n_; clear hb hbox hg))
    go_ret
    exact ⟨_, rfl, (show IsS46 w0 _ gb103 l0 0 x3_1 from ⟨_, _, BD BK103, GE103.out, HR0.out⟩), by repeat (first | (with_reducible first | exact HB.out | apply below_alloc | apply pw_below_drewN | apply below_drew1 | refine below_set ?_ GE103.out) | exact HB.out), by repeat (first | (with_reducible first | exact HBW.out | apply below_alloc | apply pw_below_drewN | apply below_drew1 | refine below_set ?_ GW103.out) | exact HBW.out)⟩
def spec_l01Byte.f (s0_0 : List Int) (s0_1 : Int) (s0_2 : Int) : Option (Int × Int × Int) := if s0_1 < (s0_0.length : Int) then (if 0 ≤ s0_1 then (some (Go.bits .and .i64 (wrap64 ((Go.bits .and .i64 (Go.bits .xor .i64 ((wrap64 ((wrap64 (s0_2 * 6364136223846793005)) + 1442695040888963407)) / 8589934592) ((wrap64 ((wrap64 (s0_2 * 6364136223846793005)) + 1442695040888963407)) / 35184372088832)) 255) + (wrap64 (rd s0_0 s0_1)))) 255, wrap64 (s0_1 + 1), wrap64 ((wrap64 (s0_2 * 6364136223846793005)) + 1442695040888963407))) else (none)) else (some (Go.bits .and .i64 (Go.bits .xor .i64 ((wrap64 ((wrap64 (s0_2 * 6364136223846793005)) + 1442695040888963407)) / 8589934592) ((wrap64 ((wrap64 (s0_2 * 6364136223846793005)) + 1442695040888963407)) / 35184372088832)) 255, s0_1, wrap64 ((wrap64 (s0_2 * 6364136223846793005)) + 1442695040888963407)))
set_option maxHeartbeats 8000000 in
set_option maxRecDepth 100000 in
theorem spec_l01Byte.calls (g : Nat) (s0_0 : List Int) (s0_1 : Int) (s0_2 : Int) (r1 : Int) (r2 : Int) (r3 : Int) (w0 w : World) (hI : IsS46 w0 w g s0_0 s0_1 s0_2) (hB : Below w0.heap.size w0 w) (h : spec_l01Byte.f s0_0 s0_1 s0_2 = some (r1, r2, r3)) :
  Calls Try.prog 46 #[.pointer (some ⟨g, 0, none⟩)] w fun e w' => e = .returned (.int .i64 r1) ∧ IsS46 w0 w' g s0_0 r2 r3 ∧ Below w0.heap.size w0 w' ∧ KeepBut w w' g none := by
 have HI0 := Aside0.mk hI
 have HK := Aside0.mk (KeepBut.refl w g none)
 have HL := Aside0.mk hB.size
 clear hI
 have HW0 := Aside0.mk hB.size
 have HB := Aside0.mk hB
 clear hB
 have H : (if s0_1 < (s0_0.length : Int) then (if 0 ≤ s0_1 then (some (Go.bits .and .i64 (wrap64 ((Go.bits .and .i64 (Go.bits .xor .i64 ((wrap64 ((wrap64 (s0_2 * 6364136223846793005)) + 1442695040888963407)) / 8589934592) ((wrap64 ((wrap64 (s0_2 * 6364136223846793005)) + 1442695040888963407)) / 35184372088832)) 255) + (wrap64 (rd s0_0 s0_1)))) 255, wrap64 (s0_1 + 1), wrap64 ((wrap64 (s0_2 * 6364136223846793005)) + 1442695040888963407))) else (none)) else (some (Go.bits .and .i64 (Go.bits .xor .i64 ((wrap64 ((wrap64 (s0_2 * 6364136223846793005)) + 1442695040888963407)) / 8589934592) ((wrap64 ((wrap64 (s0_2 * 6364136223846793005)) + 1442695040888963407)) / 35184372088832)) 255, s0_1, wrap64 ((wrap64 (s0_2 * 6364136223846793005)) + 1442695040888963407)))) = some (r1, r2, r3) := h
 clear h
 by_cases c2 : s0_1 < (s0_0.length : Int)
 ·rw [if_pos c2] at H
  have c2b0 : decide (s0_1 < (s0_0.length : Int)) = true := decide_eq_true c2
  clear c2
  by_cases c3 : 0 ≤ s0_1
  ·rw [if_pos c3] at H
   have c3b0 : decide (0 ≤ s0_1) = true := decide_eq_true c3
   clear c3
   simp only [Option.some.injEq, Prod.mk.injEq] at H
   obtain ⟨rfl, rfl, rfl⟩ := H
   obtain ⟨ASz4_0, cSz4_0, HGz4, hgz4, HSz4_0⟩ := HI0.out
   have hcz4_0 := cellS46_0 HGz4
   have hcz4_1 := cellS46_1 HGz4
   have hcz4_2 := cellS46_2 HGz4
   have hfz4_1 := blk_frozen HGz4 1
   have hfz4_2 := blk_frozen HGz4 2
   clear HGz4 hgz4
   have p104 : 0 ≤ (s0_1 : Int) := of_decide_eq_true AS
   have q104 : s0_1 < (s0_0.length : Int) := of_decide_eq_true AS
   obtain ⟨ad104, e104, hx104_0⟩ := Kd.at_int HSz4_0 s0_1 p104 q104
   cases e104
   have hn104_0 : ad104.block ≠ g := Nat.ne_of_lt (Nat.lt_of_lt_of_le (by have := World.block_lt_of_cell? _ _ hx104_0; first | rwa [add_block] at this | exact this) (IsS46.ge HI0.out))
   replace hx104_0 := pw_cell_below HB.out hx104_0
   replace hx104_0 := (cell_far (p := ⟨g, 2, none⟩) (by first | (rw [add_block]; exact hn104_0) | (show (Addr.add _ _).block ≠ _; rw [add_block]; exact hn104_0) | exact hn104_0) (.int .i64 (wrap64 ((wrap64 (s0_2 * 6364136223846793005)) + 1442695040888963407)))).trans hx104_0
   (try have hy104_0 := fun (n_ : Nat) => (show (((w.drewN n_).setCell ⟨g, 2, none⟩ (.int .i64 (wrap64 ((wrap64 (s0_2 * 6364136223846793005)) + 1442695040888963407))))).cell? _ = some _ from hx104_0))
   clear hn104_0
   replace p104 := eq_true p104
   replace q104 := eq_true q104
   go_enter Try.func46, Try.ntmps46
   go_wp2
   repeat (go_quiet (fail); try go_wp2)
   go_ret
   exact ⟨ER, by repeat (first | (with_reducible first | exact HI0.out | apply IsS46.alloc | apply IsS46.drewN | apply IsS46.drew | apply IsS46.set_1 | apply IsS46.set_2) | exact HI0.out), by repeat (first | (with_reducible first | exact HB.out | apply below_alloc | apply pw_below_drewN | apply below_drew1 | refine below_set ?_ (IsS46.ge HI0.out)) | exact HB.out), HK0⟩
  ·rw [if_neg c3] at H
   exact absurd H (by simp)
 ·rw [if_neg c2] at H
  have c2b0 : decide (s0_1 < (s0_0.length : Int)) = false := decide_eq_false c2
  clear c2
  simp only [Option.some.injEq, Prod.mk.injEq] at H
  obtain ⟨rfl, rfl, rfl⟩ := H
  obtain ⟨ASz5_0, cSz5_0, HGz5, hgz5, HSz5_0⟩ := HI0.out
  have hcz5_0 := cellS46_0 HGz5
  have hcz5_1 := cellS46_1 HGz5
  have hcz5_2 := cellS46_2 HGz5
  have hfz5_1 := blk_frozen HGz5 1
  have hfz5_2 := blk_frozen HGz5 2
  clear HGz5 hgz5
  go_enter Try.func46, Try.ntmps46
  go_wp2
  repeat (go_quiet (fail); try go_wp2)
  go_ret
  exact ⟨ER, by repeat (first | (with_reducible first | exact HI0.out | apply IsS46.alloc | apply IsS46.drewN | apply IsS46.drew | apply IsS46.set_1 | apply IsS46.set_2) | exact HI0.out), by repeat (first | (with_reducible first | exact HB.out | apply below_alloc | apply pw_below_drewN | apply below_drew1 | refine below_set ?_ (IsS46.ge HI0.out)) | exact HB.out), HK0⟩
def spec_l01Below.f (s0_0 : List Int) (s0_1 : Int) (s0_2 : Int) (a1 : Int) : Option (Int × Int × Int) := if a1 ≤ 0 then (some (0, s0_1, s0_2)) else (if a1 ≤ 256 then ((spec_l01Byte.f s0_0 s0_1 s0_2).bind fun bt105 => (if a1 = 0 then (none) else (some (Int.tmod bt105.1 a1, bt105.2.1, bt105.2.2)))) else ((spec_l01Byte.f s0_0 s0_1 s0_2).bind fun bt108 => ((spec_l01Byte.f s0_0 bt108.2.1 bt108.2.2).bind fun bt111 => ((spec_l01Byte.f s0_0 bt111.2.1 bt111.2.2).bind fun bt114 => ((spec_l01Byte.f s0_0 bt114.2.1 bt114.2.2).bind fun bt117 => (if a1 = 0 then (none) else (some (Int.tmod (wrap64 ((wrap64 ((wrap64 ((wrap64 (bt108.1 * 16777216)) + (wrap64 (bt111.1 * 65536)))) + (wrap64 (bt114.1 * 256)))) + bt117.1)) a1, bt117.2.1, bt117.2.2))))))))
theorem spec_l01Below.z0 {P : Prop} (h : P := by repeat (first | (with_reducible first | exact HB.out | apply below_alloc | apply pw_below_drewN | apply below_drew1 | refine below_set ?_ (IsS46.ge HI0.out)) | exact HB.out)) : P := h
theorem spec_l01Below.z1 {P : Prop} (h : P := by repeat (first | (with_reducible first | exact HI0.out | apply IsS46.alloc | apply IsS46.drewN | apply IsS46.drew | apply IsS46.set_1 | apply IsS46.set_2) | exact HI0.out)) : P := h
set_option maxHeartbeats 8000000 in
set_option maxRecDepth 100000 in
theorem spec_l01Below.calls (g : Nat) (s0_0 : List Int) (s0_1 : Int) (s0_2 : Int) (a1 : Int) (r1 : Int) (r2 : Int) (r3 : Int) (w0 w : World) (hI : IsS46 w0 w g s0_0 s0_1 s0_2) (hB : Below w0.heap.size w0 w) (h : spec_l01Below.f s0_0 s0_1 s0_2 a1 = some (r1, r2, r3)) :
  Calls Try.prog 30 #[.pointer (some ⟨g, 0, none⟩), .int .i64 a1] w fun e w' => e = .returned (.int .i64 r1) ∧ IsS46 w0 w' g s0_0 r2 r3 ∧ Below w0.heap.size w0 w' ∧ KeepBut w w' g none := by
 have HI0 := Aside0.mk hI
 have HK := Aside0.mk (KeepBut.refl w g none)
 have HL := Aside0.mk hB.size
 clear hI
 have HW0 := Aside0.mk hB.size
 have HB := Aside0.mk hB
 clear hB
 have H : (if a1 ≤ 0 then (some (0, s0_1, s0_2)) else (if a1 ≤ 256 then ((spec_l01Byte.f s0_0 s0_1 s0_2).bind fun bt105 => (if a1 = 0 then (none) else (some (Int.tmod bt105.1 a1, bt105.2.1, bt105.2.2)))) else ((spec_l01Byte.f s0_0 s0_1 s0_2).bind fun bt108 => ((spec_l01Byte.f s0_0 bt108.2.1 bt108.2.2).bind fun bt111 => ((spec_l01Byte.f s0_0 bt111.2.1 bt111.2.2).bind fun bt114 => ((spec_l01Byte.f s0_0 bt114.2.1 bt114.2.2).bind fun bt117 => (if a1 = 0 then (none) else (some (Int.tmod (wrap64 ((wrap64 ((wrap64 ((wrap64 (bt108.1 * 16777216)) + (wrap64 (bt111.1 * 65536)))) + (wrap64 (bt114.1 * 256)))) + bt117.1)) a1, bt117.2.1, bt117.2.2))))))))) = some (r1, r2, r3) := h
 clear h
 by_cases c3 : a1 ≤ 0
 ·rw [if_pos c3] at H
  have c3b0 : decide (a1 ≤ 0) = true := decide_eq_true c3
  clear c3
  simp only [Option.some.injEq, Prod.mk.injEq] at H
  obtain ⟨rfl, rfl, rfl⟩ := H
  go_enter Try.func30, Try.ntmps30
  go_wp2
  go_ret
  exact ⟨ER, spec_l01Below.z1, spec_l01Below.z0, HK0⟩
 ·rw [if_neg c3] at H
  have c3b0 : decide (a1 ≤ 0) = false := decide_eq_false c3
  clear c3
  by_cases c4 : a1 ≤ 256
  ·rw [if_pos c4] at H
   have c4b0 : decide (a1 ≤ 256) = true := decide_eq_true c4
   clear c4
   replace H := BS H
   obtain ⟨⟨t105, t106, t107⟩, A50, H⟩ := H
   have A5 := Aside0.mk A50
   clear A50
   by_cases c6 : a1 = 0
   ·rw [if_pos c6] at H
    exact absurd H (by simp)
   ·rw [if_neg c6] at H
    have c6b0 : (a1 == 0) = false := beq_eq_false_iff_ne.mpr c6
    have c6b1 : (a1 != 0) = true := bne_iff_ne.mpr c6
    simp only [Option.some.injEq, Prod.mk.injEq] at H
    obtain ⟨rfl, rfl, rfl⟩ := H
    go_enter Try.func30, Try.ntmps30
    go_wp2_with (first | ((with_reducible refine gate_callee (f := 46) rfl ?_); refine goesL_ (some 14) rfl rfl Try.func46 (by kernel_rfl) rfl #[.pointer (some ⟨g, 0, none⟩)] rfl AQ ?_; (with_reducible refine (spec_l01Byte.calls g s0_0 s0_1 s0_2 t105 t106 t107 w0 _ ?side1 ?side2 A5.out).mono ?_); (case side1 => repeat (first | (with_reducible first | exact HI0.out | apply IsS46.alloc | apply IsS46.drewN | apply IsS46.drew | apply IsS46.set_1 | apply IsS46.set_2) | exact HI0.out)); (case side2 => repeat (first | (with_reducible first | exact HB.out | apply below_alloc | apply pw_below_drewN | apply below_drew1 | refine below_set ?_ (IsS46.ge HI0.out)) | exact HB.out)); rintro e w7 ⟨rfl, hi, hb, hk⟩; refine ⟨_, rfl, ?_⟩; have n_ : _ ∧ _ ∧ _ := ⟨AsM (KeepBut.trans (HK0) hk (.inl rfl)), AsM (hb), AsM (hi)⟩; clear HK HB HI0; obtain ⟨HK, HB, HI0⟩ := n_; (try clear hb); (try clear hb2); (try clear hk); (try clear hi)))
    go_ret
    exact ⟨ER, spec_l01Below.z1, spec_l01Below.z0, HK0⟩
  ·rw [if_neg c4] at H
   have c4b0 : decide (a1 ≤ 256) = false := decide_eq_false c4
   clear c4
   replace H := BS H
   obtain ⟨⟨t108, t109, t110⟩, A80, H⟩ := H
   have A8 := Aside0.mk A80
   clear A80
   replace H := BS H
   obtain ⟨⟨t111, t112, t113⟩, A90, H⟩ := H
   have A9 := Aside0.mk A90
   clear A90
   replace H := BS H
   obtain ⟨⟨t114, t115, t116⟩, A100, H⟩ := H
   have A10 := Aside0.mk A100
   clear A100
   replace H := BS H
   obtain ⟨⟨t117, t118, t119⟩, A110, H⟩ := H
   have A11 := Aside0.mk A110
   clear A110
   by_cases c12 : a1 = 0
   ·rw [if_pos c12] at H
    exact absurd H (by simp)
   ·rw [if_neg c12] at H
    have c12b0 : (a1 == 0) = false := beq_eq_false_iff_ne.mpr c12
    have c12b1 : (a1 != 0) = true := bne_iff_ne.mpr c12
    simp only [Option.some.injEq, Prod.mk.injEq] at H
    obtain ⟨rfl, rfl, rfl⟩ := H
    go_enter Try.func30, Try.ntmps30
    go_wp2_with (first | ((with_reducible refine gate_callee (f := 46) rfl ?_); refine goesL_ (some 18) rfl rfl Try.func46 (by kernel_rfl) rfl #[.pointer (some ⟨g, 0, none⟩)] rfl AQ ?_; (with_reducible refine (spec_l01Byte.calls g s0_0 s0_1 s0_2 t108 t109 t110 w0 _ ?side1 ?side2 A8.out).mono ?_); (case side1 => repeat (first | (with_reducible first | exact HI0.out | apply IsS46.alloc | apply IsS46.drewN | apply IsS46.drew | apply IsS46.set_1 | apply IsS46.set_2) | exact HI0.out)); (case side2 => repeat (first | (with_reducible first | exact HB.out | apply below_alloc | apply pw_below_drewN | apply below_drew1 | refine below_set ?_ (IsS46.ge HI0.out)) | exact HB.out)); rintro e w13 ⟨rfl, hi, hb, hk⟩; refine ⟨_, rfl, ?_⟩; have n_ : _ ∧ _ ∧ _ := ⟨AsM (KeepBut.trans (HK0) hk (.inl rfl)), AsM (hb), AsM (hi)⟩; clear HK HB HI0; obtain ⟨HK, HB, HI0⟩ := n_; (try clear hb); (try clear hb2); (try clear hk); (try clear hi)) | ((with_reducible refine gate_callee (f := 46) rfl ?_); refine goesL_ (some 20) rfl rfl Try.func46 (by kernel_rfl) rfl #[.pointer (some ⟨g, 0, none⟩)] rfl AQ ?_; (with_reducible refine (spec_l01Byte.calls g s0_0 t109 t110 t111 t112 t113 w0 _ ?side1 ?side2 A9.out).mono ?_); (case side1 => repeat (first | (with_reducible first | exact HI0.out | apply IsS46.alloc | apply IsS46.drewN | apply IsS46.drew | apply IsS46.set_1 | apply IsS46.set_2) | exact HI0.out)); (case side2 => repeat (first | (with_reducible first | exact HB.out | apply below_alloc | apply pw_below_drewN | apply below_drew1 | refine below_set ?_ (IsS46.ge HI0.out)) | exact HB.out)); rintro e w14 ⟨rfl, hi, hb, hk⟩; refine ⟨_, rfl, ?_⟩; have n_ : _ ∧ _ ∧ _ := ⟨AsM (KeepBut.trans (HK0) hk (.inl rfl)), AsM (hb), AsM (hi)⟩; clear HK HB HI0; obtain ⟨HK, HB, HI0⟩ := n_; (try clear hb); (try clear hb2); (try clear hk); (try clear hi)) | ((with_reducible refine gate_callee (f := 46) rfl ?_); refine goesL_ (some 22) rfl rfl Try.func46 (by kernel_rfl) rfl #[.pointer (some ⟨g, 0, none⟩)] rfl AQ ?_; (with_reducible refine (spec_l01Byte.calls g s0_0 t112 t113 t114 t115 t116 w0 _ ?side1 ?side2 A10.out).mono ?_); (case side1 => repeat (first | (with_reducible first | exact HI0.out | apply IsS46.alloc | apply IsS46.drewN | apply IsS46.drew | apply IsS46.set_1 | apply IsS46.set_2) | exact HI0.out)); (case side2 => repeat (first | (with_reducible first | exact HB.out | apply below_alloc | apply pw_below_drewN | apply below_drew1 | refine below_set ?_ (IsS46.ge HI0.out)) | exact HB.out)); rintro e w15 ⟨rfl, hi, hb, hk⟩; refine ⟨_, rfl, ?_⟩; have n_ : _ ∧ _ ∧ _ := ⟨AsM (KeepBut.trans (HK0) hk (.inl rfl)), AsM (hb), AsM (hi)⟩; clear HK HB HI0; obtain ⟨HK, HB, HI0⟩ := n_; (try clear hb); (try clear hb2); (try clear hk); (try clear hi)) | ((with_reducible refine gate_callee (f := 46) rfl ?_); refine goesL_ (some 24) rfl rfl Try.func46 (by kernel_rfl) rfl #[.pointer (some ⟨g, 0, none⟩)] rfl AQ ?_; (with_reducible refine (spec_l01Byte.calls g s0_0 t115 t116 t117 t118 t119 w0 _ ?side1 ?side2 A11.out).mono ?_); (case side1 => repeat (first | (with_reducible first | exact HI0.out | apply IsS46.alloc | apply IsS46.drewN | apply IsS46.drew | apply IsS46.set_1 | apply IsS46.set_2) | exact HI0.out)); (case side2 => repeat (first | (with_reducible first | exact HB.out | apply below_alloc | apply pw_below_drewN | apply below_drew1 | refine below_set ?_ (IsS46.ge HI0.out)) | exact HB.out)); rintro e w16 ⟨rfl, hi, hb, hk⟩; refine ⟨_, rfl, ?_⟩; have n_ : _ ∧ _ ∧ _ := ⟨AsM (KeepBut.trans (HK0) hk (.inl rfl)), AsM (hb), AsM (hi)⟩; clear HK HB HI0; obtain ⟨HK, HB, HI0⟩ := n_; (try clear hb); (try clear hb2); (try clear hk); (try clear hi)))
    go_ret
    exact ⟨ER, spec_l01Below.z1, spec_l01Below.z0, HK0⟩
def spec_TableNew.f (k : Nat)  : Option (Int × (List (S49))) := (spec_l19Dummy.f k 0).bind fun bt125 => (some (1, (([(⟨bt125.1, bt125.2⟩ : S49)] : List (S49)))))
theorem spec_TableNew.mono : ∀ k, LeO (spec_TableNew.f k ) (spec_TableNew.f (k + 1) ) := by
 intro  k
 unfold spec_TableNew.f
 repeat' first | (with_reducible first | exact spec_l19Dummy.mono _ _ | exact LeO.refl _ | exact LeO.none _ | refine LeO.ite ?_ ?_ | refine LeO.bind ?_ (fun _ => ?_)) | exact spec_l19Dummy.mono _ _ | exact LeO.none _ | refine LeO.ite ?_ ?_ | refine LeO.bind ?_ (fun _ => ?_)
set_option maxHeartbeats 8000000 in
set_option maxRecDepth 100000 in
theorem spec_TableNew.calls (k : Nat)  (r1 : Int) (r2 : List (S49)) (w : World) (h : spec_TableNew.f k  = some (r1, r2)) :
  Calls Try.prog 41 #[] w fun e w' => ∃ v1_ : Value, e = .returned (.agg #[.int .i64 r1, v1_]) ∧ Kd.R k49 49 w' w.heap.size (fun _ => True) v1_ r2 ∧ Below w.heap.size w w' := by
 have hu25 := Try.underlying25
 have HB := Aside0.mk (Below.refl w.heap.size w)
 have H : ((spec_l19Dummy.f k 0).bind fun bt125 => (some (1, (([(⟨bt125.1, bt125.2⟩ : S49)] : List (S49)))))) = some (r1, r2) := h
 clear h
 replace H := BS H
 obtain ⟨⟨t125, t126⟩, A10, H⟩ := H
 have A1 := Aside0.mk A10
 clear A10
 obtain ⟨y127, hy127⟩ : ∃ y_ : List (S49), y_ = (([(⟨t125, t126⟩ : S49)] : List (S49))) := ⟨_, rfl⟩
 replace H : (some (1, y127)) = some (r1, r2) := by first | (rw [hy127]; with_reducible exact H) | (have H2_ := (Option.bind_some _ _).symm.trans H; rw [hy127]; with_reducible exact H2_) | (have H2_ := (Option.bind_some _ _).symm.trans H; with_reducible exact H2_) | with_reducible exact H | (rw [hy127]; exact H) | exact H
 have Ny127 := Aside0.mk hy127
 clear hy127
 simp only [Option.some.injEq, Prod.mk.injEq] at H
 obtain ⟨rfl, rfl⟩ := H
 go_enter Try.func41, Try.ntmps41
 go_wp2_with (first | ((with_reducible refine gate_dst (N := 0) rfl ?_); refine box_event ?hg (N := 0) ?hd (cs := #[.int .i64 0, .slice none 0 0]) (t := 25) ?hr ?_; (case hd => rfl); (case hg => rfl); (case hr => first | (go_simp; done) | (go_simp; rfl)); intro gb124 hg w2 hbox hb; have n_ : _ ∧ _ ∧ _ ∧ _ := ⟨AsM (below_step BL hb), AsM (hbox), AsM ((GL : w.heap.size ≤ gb124)), AsM ((GL : w.heap.size ≤ gb124))⟩; clear HB; obtain ⟨HB, BK124, GW124, GE124⟩ := n_; clear hb hbox hg) | ((with_reducible refine gate_callee (f := 55) rfl ?_); refine goesL_ (some 1) rfl rfl Try.func55 (by kernel_rfl) rfl #[.int .i64 0] rfl AQ ?_; (with_reducible refine (spec_l19Dummy.calls k 0 t125 t126 _ A1.out).mono ?_); rintro e w3 ⟨rfl, hb⟩; refine ⟨_, rfl, ?_⟩; have n_ : _ ∧ _ := ⟨AsM (blk_below (BD BK124) hb), AsM (below_step BG hb)⟩; clear BK124 HB; obtain ⟨BK124, HB⟩ := n_; (try clear hb); (try clear hb2); (try clear hk); (try clear hi)) | ((with_reducible refine gate_dst (N := 2) rfl ?_); refine Kd.R_lit k49 _ 49 ?hg (N := 2) ?hd (xs := ([(⟨t125, t126⟩ : S49)] : List (S49))) (inner := [.int .i64 t125, .string t126]) (ok := fun _ => True) (okp := fun _ => True) ?hr ?hp (fun _ hk => hk) trivial (Below.refl _ _) (Nat.le_refl _) (by simp) ?_; (case hd => rfl); (case hg => rfl); (case hr => first | (go_simp; done) | (go_simp; rfl)); (case hp => exact (Reps.c2 (show Kd.M k49 _ _ _ (⟨t125, t126⟩ : S49) [.int .i64 t125, .string t126] from (k49_mkM _ _ _ (⟨t125, t126⟩ : S49) )) (Reps.none _ _))); intro v128 w4 ho5 hb hg_ hnew_; clear hg_ hnew_; (first | rw [← Ny127.out] at ho5 | (simp only [Int.reduceToNat] at ho5; rw [← Ny127.out] at ho5)); have n_ : _ ∧ _ ∧ _ := ⟨AsM (Kd.R_lower ho5 (below_size BG)), AsM (blk_below (BD BK124) hb), AsM (below_step BG hb)⟩; clear BK124 HB; obtain ⟨HO129, BK124, HB⟩ := n_; clear hb ho5; obtain ⟨Ao6, co6, eo6⟩ := Kd.R_slice HO129.out; subst eo6; obtain ⟨hcz7_0, hcz7_1, hfz7_0, hfz7_1⟩ := bk2 BK124.out))
 refine bodyPost_ret (results_cell_row rfl _ _ gb124 25 #[.int .i64 1, .slice Ao6 y127.length co6] (0, 0) _ rfl (by refine PX ?_; refine blk_put (cs := #[.int .i64 1, .slice none 0 0]) ?_ 1 _ rfl; refine PX ?_; refine blk_put (cs := #[.int .i64 0, .slice none 0 0]) ?_ 0 _ rfl; exact BD BK124) Try.underlying25 rfl (by kernel_rfl)) rfl ?_
 exact ⟨_, ER, by refine PRx ?_; exact Kd.R_mono (FR (FR (Kd.R_types HO129.out BK124.out (by decide)))) (fun _ hk => trivial), BG⟩
def spec_l01Of.f (s0_0 : List Int) (s0_1 : Int) (s0_2 : Int) (l1 : List ByteArray) : Option (ByteArray × Int × Int) := (spec_l01Below.f s0_0 s0_1 s0_2 (l1.length : Int)).bind fun bt130 => (if 0 ≤ bt130.1 then (if bt130.1 < (l1.length : Int) then (some (rdOf ByteArray.empty l1 bt130.1, bt130.2.1, bt130.2.2)) else (none)) else (none))
set_option maxHeartbeats 8000000 in
set_option maxRecDepth 100000 in
theorem spec_l01Of.calls (g : Nat) (s0_0 : List Int) (s0_1 : Int) (s0_2 : Int) (A1 : Option Addr) (c1 : Nat) (l1 : List ByteArray) (r1 : ByteArray) (r2 : Int) (r3 : Int) (w0 w : World) (hI : IsS46 w0 w g s0_0 s0_1 s0_2) (hB : Below w0.heap.size w0 w) (hr1 : Kd.C Kd.string w A1 l1.length l1) (hc1 : l1.length ≤ c1) (hf1 : ∀ ad, A1 = some ad → 0 < l1.length → ad.block ≠ g) (h : spec_l01Of.f s0_0 s0_1 s0_2 l1 = some (r1, r2, r3)) :
  Calls Try.prog 48 #[.pointer (some ⟨g, 0, none⟩), .slice A1 l1.length c1] w fun e w' => e = .returned (.string r1) ∧ IsS46 w0 w' g s0_0 r2 r3 ∧ Below w0.heap.size w0 w' ∧ KeepBut w w' g none := by
 have HR1 := Aside0.mk hr1
 have HC1 := Aside0.mk hc1
 clear hr1 hc1
 have HI0 := Aside0.mk hI
 have HK := Aside0.mk (KeepBut.refl w g none)
 have HL := Aside0.mk hB.size
 clear hI
 have HW0 := Aside0.mk hB.size
 have HB := Aside0.mk hB
 clear hB
 have H : ((spec_l01Below.f s0_0 s0_1 s0_2 (l1.length : Int)).bind fun bt130 => (if 0 ≤ bt130.1 then (if bt130.1 < (l1.length : Int) then (some (rdOf ByteArray.empty l1 bt130.1, bt130.2.1, bt130.2.2)) else (none)) else (none))) = some (r1, r2, r3) := h
 clear h
 replace H := BS H
 obtain ⟨⟨t130, t131, t132⟩, A30, H⟩ := H
 have A3 := Aside0.mk A30
 clear A30
 by_cases c4 : 0 ≤ t130
 ·rw [if_pos c4] at H
  have c4b0 : decide (0 ≤ t130) = true := decide_eq_true c4
  clear c4
  by_cases c5 : t130 < (l1.length : Int)
  ·rw [if_pos c5] at H
   have c5b0 : decide (t130 < (l1.length : Int)) = true := decide_eq_true c5
   clear c5
   simp only [Option.some.injEq, Prod.mk.injEq] at H
   obtain ⟨rfl, rfl, rfl⟩ := H
   go_enter Try.func48, Try.ntmps48
   go_wp2_with (first | ((with_reducible refine gate_callee (f := 30) rfl ?_); refine goesL_ (some 9) rfl rfl Try.func30 (by kernel_rfl) rfl #[.pointer (some ⟨g, 0, none⟩), .int .i64 (l1.length : Int)] rfl AQ ?_; (with_reducible refine (spec_l01Below.calls g s0_0 s0_1 s0_2 (l1.length : Int) t130 t131 t132 w0 _ ?side1 ?side2 A3.out).mono ?_); (case side1 => repeat (first | (with_reducible first | exact HI0.out | apply IsS46.alloc | apply IsS46.drewN | apply IsS46.drew | apply IsS46.set_1 | apply IsS46.set_2) | exact HI0.out)); (case side2 => repeat (first | (with_reducible first | exact HB.out | apply below_alloc | apply pw_below_drewN | apply below_drew1 | refine below_set ?_ (IsS46.ge HI0.out)) | exact HB.out)); rintro e w6 ⟨rfl, hi, hb, hk⟩; refine ⟨_, rfl, ?_⟩; have n_ : _ ∧ _ ∧ _ := ⟨AsM (KeepBut.trans (HK0) hk (.inl rfl)), AsM (hb), AsM (hi)⟩; clear HK HB HI0; obtain ⟨HK, HB, HI0⟩ := n_; (try clear hb); (try clear hb2); (try clear hk); (try clear hi); have p133 : 0 ≤ (t130 : Int) := of_decide_eq_true AS; have q133 : t130 < (l1.length : Int) := of_decide_eq_true AS; obtain ⟨ad133, e133, hx133_0⟩ := Kd.at_string HR1.out t130 p133 q133; cases e133; replace hx133_0 := keep_cell HK.out hx133_0 (by first | (rw [add_block]; exact hf1 _ rfl (by omega)) | exact hf1 _ rfl (by omega) | exact hf1 ad133 rfl (by omega)); replace p133 := eq_true p133; replace q133 := eq_true q133))
   go_ret
   exact ⟨ER, by repeat (first | (with_reducible first | exact HI0.out | apply IsS46.alloc | apply IsS46.drewN | apply IsS46.drew | apply IsS46.set_1 | apply IsS46.set_2) | exact HI0.out), by repeat (first | (with_reducible first | exact HB.out | apply below_alloc | apply pw_below_drewN | apply below_drew1 | refine below_set ?_ (IsS46.ge HI0.out)) | exact HB.out), HK0⟩
  ·rw [if_neg c5] at H
   exact absurd H (by simp)
 ·rw [if_neg c4] at H
  exact absurd H (by simp)
def spec_l10Key.f (s0_0 : List Int) (s0_1 : Int) (s0_2 : Int) : Option (ByteArray × Int × Int) := (spec_l01Of.f s0_0 s0_1 s0_2 (([(⟨#[97]⟩ : ByteArray), (⟨#[98]⟩ : ByteArray), (⟨#[99]⟩ : ByteArray), (⟨#[100]⟩ : ByteArray), (⟨#[101]⟩ : ByteArray), (⟨#[102]⟩ : ByteArray), (⟨#[103]⟩ : ByteArray), (⟨#[104]⟩ : ByteArray)] : List ByteArray))).bind fun bt137 => (some (bt137.1, bt137.2.1, bt137.2.2))
set_option maxHeartbeats 8000000 in
set_option maxRecDepth 100000 in
theorem spec_l10Key.calls (g : Nat) (s0_0 : List Int) (s0_1 : Int) (s0_2 : Int) (r1 : ByteArray) (r2 : Int) (r3 : Int) (w0 w : World) (hI : IsS46 w0 w g s0_0 s0_1 s0_2) (hB : Below w0.heap.size w0 w) (h : spec_l10Key.f s0_0 s0_1 s0_2 = some (r1, r2, r3)) :
  Calls Try.prog 47 #[.pointer (some ⟨g, 0, none⟩)] w fun e w' => e = .returned (.string r1) ∧ IsS46 w0 w' g s0_0 r2 r3 ∧ Below w0.heap.size w0 w' ∧ KeepBut w w' g none := by
 have HI0 := Aside0.mk hI
 have HK := Aside0.mk (KeepBut.refl w g none)
 have HL := Aside0.mk hB.size
 clear hI
 have HW0 := Aside0.mk hB.size
 have HB := Aside0.mk hB
 clear hB
 have H : ((spec_l01Of.f s0_0 s0_1 s0_2 (([(⟨#[97]⟩ : ByteArray), (⟨#[98]⟩ : ByteArray), (⟨#[99]⟩ : ByteArray), (⟨#[100]⟩ : ByteArray), (⟨#[101]⟩ : ByteArray), (⟨#[102]⟩ : ByteArray), (⟨#[103]⟩ : ByteArray), (⟨#[104]⟩ : ByteArray)] : List ByteArray))).bind fun bt137 => (some (bt137.1, bt137.2.1, bt137.2.2))) = some (r1, r2, r3) := h
 clear h
 obtain ⟨y134, hy134⟩ : ∃ y_ : List ByteArray, y_ = (([(⟨#[97]⟩ : ByteArray), (⟨#[98]⟩ : ByteArray), (⟨#[99]⟩ : ByteArray), (⟨#[100]⟩ : ByteArray), (⟨#[101]⟩ : ByteArray), (⟨#[102]⟩ : ByteArray), (⟨#[103]⟩ : ByteArray), (⟨#[104]⟩ : ByteArray)] : List ByteArray)) := ⟨_, rfl⟩
 replace H : ((spec_l01Of.f s0_0 s0_1 s0_2 y134).bind fun bt137 => (some (bt137.1, bt137.2.1, bt137.2.2))) = some (r1, r2, r3) := by first | (rw [hy134]; with_reducible exact H) | (have H2_ := (Option.bind_some _ _).symm.trans H; rw [hy134]; with_reducible exact H2_) | (have H2_ := (Option.bind_some _ _).symm.trans H; with_reducible exact H2_) | with_reducible exact H | (rw [hy134]; exact H) | exact H
 have Ny134 := Aside0.mk hy134
 clear hy134
 replace H := BS H
 obtain ⟨⟨t137, t138, t139⟩, A20, H⟩ := H
 have A2 := Aside0.mk A20
 clear A20
 simp only [Option.some.injEq, Prod.mk.injEq] at H
 obtain ⟨rfl, rfl, rfl⟩ := H
 go_enter Try.func47, Try.ntmps47
 go_wp2_with (first | ((with_reducible refine gate_dst (N := 4) rfl ?_); refine Kd.R_lit Kd.string _ 9 ?hg (N := 4) ?hd (xs := ([(⟨#[97]⟩ : ByteArray), (⟨#[98]⟩ : ByteArray), (⟨#[99]⟩ : ByteArray), (⟨#[100]⟩ : ByteArray), (⟨#[101]⟩ : ByteArray), (⟨#[102]⟩ : ByteArray), (⟨#[103]⟩ : ByteArray), (⟨#[104]⟩ : ByteArray)] : List ByteArray)) (inner := [.string (⟨#[97]⟩ : ByteArray), .string (⟨#[98]⟩ : ByteArray), .string (⟨#[99]⟩ : ByteArray), .string (⟨#[100]⟩ : ByteArray), .string (⟨#[101]⟩ : ByteArray), .string (⟨#[102]⟩ : ByteArray), .string (⟨#[103]⟩ : ByteArray), .string (⟨#[104]⟩ : ByteArray)]) (ok := fun _ => True) (okp := fun _ => True) ?hr ?hp (fun _ hk => hk) trivial (Below.refl _ _) (Nat.le_refl _) (by simp) ?_; (case hd => rfl); (case hg => rfl); (case hr => first | (go_simp; done) | (go_simp; rfl)); (case hp => exact (Reps.one (show Kd.M Kd.string _ _ _ (⟨#[97]⟩ : ByteArray) [.string (⟨#[97]⟩ : ByteArray)] from rfl) (Reps.one (show Kd.M Kd.string _ _ _ (⟨#[98]⟩ : ByteArray) [.string (⟨#[98]⟩ : ByteArray)] from rfl) (Reps.one (show Kd.M Kd.string _ _ _ (⟨#[99]⟩ : ByteArray) [.string (⟨#[99]⟩ : ByteArray)] from rfl) (Reps.one (show Kd.M Kd.string _ _ _ (⟨#[100]⟩ : ByteArray) [.string (⟨#[100]⟩ : ByteArray)] from rfl) (Reps.one (show Kd.M Kd.string _ _ _ (⟨#[101]⟩ : ByteArray) [.string (⟨#[101]⟩ : ByteArray)] from rfl) (Reps.one (show Kd.M Kd.string _ _ _ (⟨#[102]⟩ : ByteArray) [.string (⟨#[102]⟩ : ByteArray)] from rfl) (Reps.one (show Kd.M Kd.string _ _ _ (⟨#[103]⟩ : ByteArray) [.string (⟨#[103]⟩ : ByteArray)] from rfl) (Reps.one (show Kd.M Kd.string _ _ _ (⟨#[104]⟩ : ByteArray) [.string (⟨#[104]⟩ : ByteArray)] from rfl) (Reps.none _ _)))))))))); intro v135 w3 ho4 hb hg_ hnew_; clear hg_ hnew_; (first | rw [← Ny134.out] at ho4 | (simp only [Int.reduceToNat] at ho4; rw [← Ny134.out] at ho4)); have n_ : _ ∧ _ ∧ _ ∧ _ := ⟨AsM (Kd.R_lower ho4 (keep_size (w := w) (g := g) (row := none) (HK0))), AsM (IsS46.below (by repeat (first | (with_reducible first | exact HI0.out | apply IsS46.alloc | apply IsS46.drewN | apply IsS46.drew | apply IsS46.set_1 | apply IsS46.set_2) | exact HI0.out)) hb), AsM (KeepBut.trans (HK0) (KeepBut.of_below hb g none) (.inl rfl)), AsM (below_step (by repeat (first | (with_reducible first | exact HB.out | apply below_alloc | apply pw_below_drewN | apply below_drew1 | refine below_set ?_ (IsS46.ge HI0.out)) | exact HB.out)) hb)⟩; clear HI0 HK HB; obtain ⟨HO136, HI0, HK, HB⟩ := n_; clear hb ho4; obtain ⟨Ao5, co5, eo5⟩ := Kd.R_slice HO136.out; subst eo5) | ((with_reducible refine gate_callee (f := 48) rfl ?_); refine goesL_ (some 5) rfl rfl Try.func48 (by kernel_rfl) rfl #[.pointer (some ⟨g, 0, none⟩), .slice Ao5 y134.length co5] rfl AQ ?_; (with_reducible refine (spec_l01Of.calls g s0_0 s0_1 s0_2 _ _ y134 t137 t138 t139 w0 _ ?side1 ?side2 ?side3 ?side4 ?side5 A2.out).mono ?_); (case side1 => repeat (first | (with_reducible first | exact HI0.out | apply IsS46.alloc | apply IsS46.drewN | apply IsS46.drew | apply IsS46.set_1 | apply IsS46.set_2) | exact HI0.out)); (case side2 => repeat (first | (with_reducible first | exact HB.out | apply below_alloc | apply pw_below_drewN | apply below_drew1 | refine below_set ?_ (IsS46.ge HI0.out)) | exact HB.out)); (case side3 => exact SR HO136); (case side4 => exact (Kd.R_reads' HO136.out).2.1); (case side5 => exact far_slice (IsS46.own_ne HI0.out HO136.out (by decide))); rintro e w6 ⟨rfl, hi, hb, hk⟩; refine ⟨_, rfl, ?_⟩; have n_ : _ ∧ _ ∧ _ ∧ _ := ⟨AsM (Kd.R_mono (Kd.R_keep (IsS46.apart (show IsS46 w0 _ g s0_0 s0_1 s0_2 from by repeat (first | (with_reducible first | exact HI0.out | apply IsS46.alloc | apply IsS46.drewN | apply IsS46.drew | apply IsS46.set_1 | apply IsS46.set_2) | exact HI0.out)) (RD HO136) (by decide)) hk (fun _ h => h.2)) (fun _ h => h.1)), AsM (KeepBut.trans (HK0) hk (.inl rfl)), AsM (hb), AsM (hi)⟩; clear HO136 HK HB HI0; obtain ⟨HO136, HK, HB, HI0⟩ := n_; (try clear hb); (try clear hb2); (try clear hk); (try clear hi)))
 go_ret
 exact ⟨ER, by repeat (first | (with_reducible first | exact HI0.out | apply IsS46.alloc | apply IsS46.drewN | apply IsS46.drew | apply IsS46.set_1 | apply IsS46.set_2) | exact HI0.out), by repeat (first | (with_reducible first | exact HB.out | apply below_alloc | apply pw_below_drewN | apply below_drew1 | refine below_set ?_ (IsS46.ge HI0.out)) | exact HB.out), HK0⟩
def spec_l19Word.f (s0_0 : List Int) (s0_1 : Int) (s0_2 : Int) : Option (ByteArray × Int × Int) := (spec_l10Key.f s0_0 s0_1 s0_2).bind fun bt140 => ((spec_l01Of.f s0_0 bt140.2.1 bt140.2.2 (([(⟨#[]⟩ : ByteArray), (⟨#[49]⟩ : ByteArray), (⟨#[50]⟩ : ByteArray), (⟨#[120]⟩ : ByteArray), (⟨#[121, 121]⟩ : ByteArray)] : List ByteArray))).bind fun bt146 => (if bt140.1.size + bt146.1.size ≤ 9223372036854775807 then (some (bt140.1 ++ bt146.1, bt146.2.1, bt146.2.2)) else (none)))
set_option maxHeartbeats 8000000 in
set_option maxRecDepth 100000 in
theorem spec_l19Word.calls (g : Nat) (s0_0 : List Int) (s0_1 : Int) (s0_2 : Int) (r1 : ByteArray) (r2 : Int) (r3 : Int) (w0 w : World) (hI : IsS46 w0 w g s0_0 s0_1 s0_2) (hB : Below w0.heap.size w0 w) (h : spec_l19Word.f s0_0 s0_1 s0_2 = some (r1, r2, r3)) :
  Calls Try.prog 31 #[.pointer (some ⟨g, 0, none⟩)] w fun e w' => e = .returned (.string r1) ∧ IsS46 w0 w' g s0_0 r2 r3 ∧ Below w0.heap.size w0 w' ∧ KeepBut w w' g none := by
 have HI0 := Aside0.mk hI
 have HK := Aside0.mk (KeepBut.refl w g none)
 have HL := Aside0.mk hB.size
 clear hI
 have HW0 := Aside0.mk hB.size
 have HB := Aside0.mk hB
 clear hB
 have H : ((spec_l10Key.f s0_0 s0_1 s0_2).bind fun bt140 => ((spec_l01Of.f s0_0 bt140.2.1 bt140.2.2 (([(⟨#[]⟩ : ByteArray), (⟨#[49]⟩ : ByteArray), (⟨#[50]⟩ : ByteArray), (⟨#[120]⟩ : ByteArray), (⟨#[121, 121]⟩ : ByteArray)] : List ByteArray))).bind fun bt146 => (if bt140.1.size + bt146.1.size ≤ 9223372036854775807 then (some (bt140.1 ++ bt146.1, bt146.2.1, bt146.2.2)) else (none)))) = some (r1, r2, r3) := h
 clear h
 replace H := BS H
 obtain ⟨⟨t140, t141, t142⟩, A20, H⟩ := H
 have A2 := Aside0.mk A20
 clear A20
 obtain ⟨y143, hy143⟩ : ∃ y_ : List ByteArray, y_ = (([(⟨#[]⟩ : ByteArray), (⟨#[49]⟩ : ByteArray), (⟨#[50]⟩ : ByteArray), (⟨#[120]⟩ : ByteArray), (⟨#[121, 121]⟩ : ByteArray)] : List ByteArray)) := ⟨_, rfl⟩
 replace H : ((spec_l01Of.f s0_0 t141 t142 y143).bind fun bt146 => (if t140.size + bt146.1.size ≤ 9223372036854775807 then (some (t140 ++ bt146.1, bt146.2.1, bt146.2.2)) else (none))) = some (r1, r2, r3) := by first | (rw [hy143]; with_reducible exact H) | (have H2_ := (Option.bind_some _ _).symm.trans H; rw [hy143]; with_reducible exact H2_) | (have H2_ := (Option.bind_some _ _).symm.trans H; with_reducible exact H2_) | with_reducible exact H | (rw [hy143]; exact H) | exact H
 have Ny143 := Aside0.mk hy143
 clear hy143
 replace H := BS H
 obtain ⟨⟨t146, t147, t148⟩, A30, H⟩ := H
 have A3 := Aside0.mk A30
 clear A30
 by_cases c4 : t140.size + t146.size ≤ 9223372036854775807
 ·rw [if_pos c4] at H
  have c4b0 := eq_true c4
  have c4b1 : decide (t140.size + t146.size ≤ 9223372036854775807) = true := decide_eq_true c4
  try have c4b2 : (9223372036854775807 < t140.size + t146.size) = False := eq_false (Nat.not_lt.2 c4)
  simp only [Option.some.injEq, Prod.mk.injEq] at H
  obtain ⟨rfl, rfl, rfl⟩ := H
  go_enter Try.func31, Try.ntmps31
  go_wp2_with (first | ((with_reducible refine gate_callee (f := 47) rfl ?_); refine goesL_ (some 4) rfl rfl Try.func47 (by kernel_rfl) rfl #[.pointer (some ⟨g, 0, none⟩)] rfl AQ ?_; (with_reducible refine (spec_l10Key.calls g s0_0 s0_1 s0_2 t140 t141 t142 w0 _ ?side1 ?side2 A2.out).mono ?_); (case side1 => repeat (first | (with_reducible first | exact HI0.out | apply IsS46.alloc | apply IsS46.drewN | apply IsS46.drew | apply IsS46.set_1 | apply IsS46.set_2) | exact HI0.out)); (case side2 => repeat (first | (with_reducible first | exact HB.out | apply below_alloc | apply pw_below_drewN | apply below_drew1 | refine below_set ?_ (IsS46.ge HI0.out)) | exact HB.out)); rintro e w5 ⟨rfl, hi, hb, hk⟩; refine ⟨_, rfl, ?_⟩; have n_ : _ ∧ _ ∧ _ := ⟨AsM (KeepBut.trans (HK0) hk (.inl rfl)), AsM (hb), AsM (hi)⟩; clear HK HB HI0; obtain ⟨HK, HB, HI0⟩ := n_; (try clear hb); (try clear hb2); (try clear hk); (try clear hi)) | ((with_reducible refine gate_dst (N := 6) rfl ?_); refine Kd.R_lit Kd.string _ 9 ?hg (N := 6) ?hd (xs := ([(⟨#[]⟩ : ByteArray), (⟨#[49]⟩ : ByteArray), (⟨#[50]⟩ : ByteArray), (⟨#[120]⟩ : ByteArray), (⟨#[121, 121]⟩ : ByteArray)] : List ByteArray)) (inner := [.string (⟨#[]⟩ : ByteArray), .string (⟨#[49]⟩ : ByteArray), .string (⟨#[50]⟩ : ByteArray), .string (⟨#[120]⟩ : ByteArray), .string (⟨#[121, 121]⟩ : ByteArray)]) (ok := fun _ => True) (okp := fun _ => True) ?hr ?hp (fun _ hk => hk) trivial (Below.refl _ _) (Nat.le_refl _) (by simp) ?_; (case hd => rfl); (case hg => rfl); (case hr => first | (go_simp; done) | (go_simp; rfl)); (case hp => exact (Reps.one (show Kd.M Kd.string _ _ _ (⟨#[]⟩ : ByteArray) [.string (⟨#[]⟩ : ByteArray)] from rfl) (Reps.one (show Kd.M Kd.string _ _ _ (⟨#[49]⟩ : ByteArray) [.string (⟨#[49]⟩ : ByteArray)] from rfl) (Reps.one (show Kd.M Kd.string _ _ _ (⟨#[50]⟩ : ByteArray) [.string (⟨#[50]⟩ : ByteArray)] from rfl) (Reps.one (show Kd.M Kd.string _ _ _ (⟨#[120]⟩ : ByteArray) [.string (⟨#[120]⟩ : ByteArray)] from rfl) (Reps.one (show Kd.M Kd.string _ _ _ (⟨#[121, 121]⟩ : ByteArray) [.string (⟨#[121, 121]⟩ : ByteArray)] from rfl) (Reps.none _ _))))))); intro v144 w6 ho7 hb hg_ hnew_; clear hg_ hnew_; (first | rw [← Ny143.out] at ho7 | (simp only [Int.reduceToNat] at ho7; rw [← Ny143.out] at ho7)); have n_ : _ ∧ _ ∧ _ ∧ _ := ⟨AsM (Kd.R_lower ho7 (keep_size (w := w) (g := g) (row := none) (HK0))), AsM (IsS46.below (by repeat (first | (with_reducible first | exact HI0.out | apply IsS46.alloc | apply IsS46.drewN | apply IsS46.drew | apply IsS46.set_1 | apply IsS46.set_2) | exact HI0.out)) hb), AsM (KeepBut.trans (HK0) (KeepBut.of_below hb g none) (.inl rfl)), AsM (below_step (by repeat (first | (with_reducible first | exact HB.out | apply below_alloc | apply pw_below_drewN | apply below_drew1 | refine below_set ?_ (IsS46.ge HI0.out)) | exact HB.out)) hb)⟩; clear HI0 HK HB; obtain ⟨HO145, HI0, HK, HB⟩ := n_; clear hb ho7; obtain ⟨Ao8, co8, eo8⟩ := Kd.R_slice HO145.out; subst eo8) | ((with_reducible refine gate_callee (f := 48) rfl ?_); refine goesL_ (some 7) rfl rfl Try.func48 (by kernel_rfl) rfl #[.pointer (some ⟨g, 0, none⟩), .slice Ao8 y143.length co8] rfl AQ ?_; (with_reducible refine (spec_l01Of.calls g s0_0 t141 t142 _ _ y143 t146 t147 t148 w0 _ ?side1 ?side2 ?side3 ?side4 ?side5 A3.out).mono ?_); (case side1 => repeat (first | (with_reducible first | exact HI0.out | apply IsS46.alloc | apply IsS46.drewN | apply IsS46.drew | apply IsS46.set_1 | apply IsS46.set_2) | exact HI0.out)); (case side2 => repeat (first | (with_reducible first | exact HB.out | apply below_alloc | apply pw_below_drewN | apply below_drew1 | refine below_set ?_ (IsS46.ge HI0.out)) | exact HB.out)); (case side3 => exact SR HO145); (case side4 => exact (Kd.R_reads' HO145.out).2.1); (case side5 => exact far_slice (IsS46.own_ne HI0.out HO145.out (by decide))); rintro e w9 ⟨rfl, hi, hb, hk⟩; refine ⟨_, rfl, ?_⟩; have n_ : _ ∧ _ ∧ _ ∧ _ := ⟨AsM (Kd.R_mono (Kd.R_keep (IsS46.apart (show IsS46 w0 _ g s0_0 t141 t142 from by repeat (first | (with_reducible first | exact HI0.out | apply IsS46.alloc | apply IsS46.drewN | apply IsS46.drew | apply IsS46.set_1 | apply IsS46.set_2) | exact HI0.out)) (RD HO145) (by decide)) hk (fun _ h => h.2)) (fun _ h => h.1)), AsM (KeepBut.trans (HK0) hk (.inl rfl)), AsM (hb), AsM (hi)⟩; clear HO145 HK HB HI0; obtain ⟨HO145, HK, HB, HI0⟩ := n_; (try clear hb); (try clear hb2); (try clear hk); (try clear hi)))
  go_ret
  exact ⟨ER, by repeat (first | (with_reducible first | exact HI0.out | apply IsS46.alloc | apply IsS46.drewN | apply IsS46.drew | apply IsS46.set_1 | apply IsS46.set_2) | exact HI0.out), by repeat (first | (with_reducible first | exact HB.out | apply below_alloc | apply pw_below_drewN | apply below_drew1 | refine below_set ?_ (IsS46.ge HI0.out)) | exact HB.out), HK0⟩
 ·rw [if_neg c4] at H
  exact absurd H (by simp)
def spec_l19Copy.f (a0_0 : Int) (l0_1 : List (S49)) : Option (Int × (List (S49))) := (some (([] : List (S49)) : List (S49))).bind fun y189 => (if y189.length + l0_1.length < 5864062014805 then (some (a0_0, (y189 ++ l0_1))) else (none))
set_option maxHeartbeats 8000000 in
set_option maxRecDepth 100000 in
theorem spec_l19Copy.calls (a0_0 : Int) (A0_1 : Option Addr) (c0_1 : Nat) (l0_1 : List (S49)) (r1 : Int) (r2 : List (S49)) (w : World) (hr0_1 : Kd.C k49 w A0_1 l0_1.length l0_1) (hc0_1 : l0_1.length ≤ c0_1) (h : spec_l19Copy.f a0_0 l0_1 = some (r1, r2)) :
  Calls Try.prog 76 #[.agg #[.int .i64 a0_0, .slice A0_1 l0_1.length c0_1]] w fun e w' => ∃ v1_ : Value, e = .returned (.agg #[.int .i64 r1, v1_]) ∧ Kd.R k49 49 w' w.heap.size (fun _ => True) v1_ r2 ∧ Below w.heap.size w w' := by
 have hu25 := Try.underlying25
 have HR0_1 := Aside0.mk hr0_1
 have HC0_1 := Aside0.mk hc0_1
 clear hr0_1 hc0_1
 have HB := Aside0.mk (Below.refl w.heap.size w)
 have H : ((some (([] : List (S49)) : List (S49))).bind fun y189 => (if y189.length + l0_1.length < 5864062014805 then (some (a0_0, (y189 ++ l0_1))) else (none))) = some (r1, r2) := h
 clear h
 obtain ⟨y189, hy189⟩ : ∃ y_ : List (S49), y_ = (([] : List (S49))) := ⟨_, rfl⟩
 replace H : (if y189.length + l0_1.length < 5864062014805 then (some (a0_0, (y189 ++ l0_1))) else (none)) = some (r1, r2) := by first | (rw [hy189]; with_reducible exact H) | (have H2_ := (Option.bind_some _ _).symm.trans H; rw [hy189]; with_reducible exact H2_) | (have H2_ := (Option.bind_some _ _).symm.trans H; with_reducible exact H2_) | with_reducible exact H | (rw [hy189]; exact H) | exact H
 have Ny189 := Aside0.mk hy189
 clear hy189
 by_cases c2 : y189.length + l0_1.length < 5864062014805
 ·rw [if_pos c2] at H
  have LMc2 := Aside0.mk c2
  clear c2
  obtain ⟨y192, hy192⟩ : ∃ y_ : List (S49), y_ = (y189 ++ l0_1) := ⟨_, rfl⟩
  replace H : (some (a0_0, y192)) = some (r1, r2) := by first | (rw [hy192]; with_reducible exact H) | (have H2_ := (Option.bind_some _ _).symm.trans H; rw [hy192]; with_reducible exact H2_) | (have H2_ := (Option.bind_some _ _).symm.trans H; with_reducible exact H2_) | with_reducible exact H | (rw [hy192]; exact H) | exact H
  have Ny192 := Aside0.mk hy192
  clear hy192
  simp only [Option.some.injEq, Prod.mk.injEq] at H
  obtain ⟨rfl, rfl⟩ := H
  go_enter Try.func76, Try.ntmps76
  go_wp2_with (first | ((with_reducible refine gate_dst (N := 1) rfl ?_); refine box_event ?hg (N := 1) ?hd (cs := #[.int .i64 a0_0, .slice A0_1 l0_1.length c0_1]) (t := 25) ?hr ?_; (case hd => rfl); (case hg => rfl); (case hr => first | (go_simp; done) | (go_simp; rfl)); intro gb187 hg w3 hbox hb; have n_ : _ ∧ _ ∧ _ ∧ _ := ⟨AsM (below_step BL hb), AsM (hbox), AsM ((GL : w.heap.size ≤ gb187)), AsM ((GL : w.heap.size ≤ gb187))⟩; clear HB; obtain ⟨HB, BK187, GW187, GE187⟩ := n_; clear hb hbox hg) | ((with_reducible refine gate_dst (N := 2) rfl ?_); refine box_event ?hg (N := 2) ?hd (cs := #[.int .i64 0, .slice none 0 0]) (t := 25) ?hr ?_; (case hd => rfl); (case hg => rfl); (case hr => first | (go_simp; done) | (go_simp; rfl)); intro gb188 hg w4 hbox hb; have n_ : _ ∧ _ ∧ _ ∧ _ ∧ _ ∧ _ ∧ _ := ⟨AsM (blk_below (BD BK187) hb), AsM (below_step BG hb), AsM (hbox), AsM ((GM : w.heap.size ≤ gb188)), AsM ((GM : w.heap.size ≤ gb188)), AsM ((by rw [hg]; exact Nat.ne_of_lt (blk_lt (BD BK187)) : gb187 ≠ gb188)), AsM ((by rw [hg]; exact Nat.ne_of_gt (blk_lt (BD BK187)) : gb188 ≠ gb187))⟩; clear BK187 HB; obtain ⟨BK187, HB, BK188, GW188, GE188, NB187_188, NB188_187⟩ := n_; clear hb hbox hg) | ((with_reducible refine gate_dst (N := 3) rfl ?_); refine Kd.R_lit k49 _ 49 ?hg (N := 3) ?hd (xs := ([] : List (S49))) (inner := []) (ok := fun _ => True) (okp := fun _ => True) ?hr ?hp (fun _ hk => hk) trivial (Below.refl _ _) (Nat.le_refl _) (by simp) ?_; (case hd => rfl); (case hg => rfl); (case hr => first | (go_simp; done) | (go_simp; rfl)); (case hp => exact (Reps.none _ _)); intro v190 w5 ho6 hb hg_ hnew_; clear hg_ hnew_; (first | rw [← Ny189.out] at ho6 | (simp only [Int.reduceToNat] at ho6; rw [← Ny189.out] at ho6)); have n_ : _ ∧ _ ∧ _ ∧ _ := ⟨AsM (Kd.R_lower ho6 (below_size BG)), AsM (blk_below (BD BK187) hb), AsM (blk_below (BD BK188) hb), AsM (below_step BG hb)⟩; clear BK187 BK188 HB; obtain ⟨HO191, BK187, BK188, HB⟩ := n_; clear hb ho6; have hnb7 := NB187_188.out; have hnc7 := NB188_187.out; obtain ⟨hcz8_0, hcz8_1, hfz8_0, hfz8_1⟩ := bk2 BK187.out) | ((with_reducible refine gate_builtin (b := .append) (xs := #[.tmp 3, .tmp 5]) rfl ?_); at_builtin; refine Kd.R_append_rows k49 (w0 := w) w.heap.size rfl (.tmp 3) (.tmp 5) 23 49 (.agg #[(.int .i64 0), (.string ⟨#[]⟩)]) 24 rfl Try.underlying23 info49 rfl (by decide) (by omega) v190 y189 l0_1 _ _ _ (fun _ => True) (fun _ => False) rfl rfl ?aO ?aR (fun _ _ h => h) (fun _ h => h.elim) ?aF ?aB ?aS ?aL ?_; (case aR => repeat (first | exact (Kd.C_below HR0_1.out HB.out) | (with_reducible refine Kd.C_alloc ?_ _) | (with_reducible refine Kd.C_drewN ?_ _) | (with_reducible refine Kd.C_drew ?_))); (case aB => exact BG); (case aF => exact (fun _ _ => trivial)); (case aO => exact (RD HO191)); (case aS => exact (below_size BG)); (case aL => have := LMc2.out; omega); intro v193 w9 ho hb hg hat; rw [← Ny192.out] at ho; have n_ : _ ∧ _ ∧ _ ∧ _ := ⟨AsM (blk_grown (g := gb187) (o := .cells #[.int .i64 a0_0, .slice A0_1 l0_1.length c0_1] 25 (0, 0)) (BD BK187) hg (Kd.R_ne HO191.out BK187.out (by decide))), AsM (blk_grown (g := gb188) (o := .cells #[.int .i64 0, .slice none 0 0] 25 (0, 0)) (BD BK188) hg (Kd.R_ne HO191.out BK188.out (by decide))), AsM (hb), AsM (ho)⟩; clear BK187 BK188 HB HO191; obtain ⟨BK187, BK188, HB, HO194⟩ := n_; clear ho hb hg hat; obtain ⟨Ao10, co10, eo10⟩ := Kd.R_slice HO194.out; subst eo10; obtain ⟨hcz11_0, hcz11_1, hfz11_0, hfz11_1⟩ := bk2 BK187.out; obtain ⟨hcz12_0, hcz12_1, hfz12_0, hfz12_1⟩ := bk2 BK188.out))
  refine bodyPost_ret (results_cell_row rfl _ _ gb188 25 #[.int .i64 a0_0, .slice Ao10 y192.length co10] (0, 0) _ rfl (by refine PX ?_; refine blk_put (cs := #[.int .i64 a0_0, .slice none 0 0]) ?_ 1 _ rfl; refine PX ?_; refine blk_put (cs := #[.int .i64 0, .slice none 0 0]) ?_ 0 _ rfl; refine PX ?_; refine blk_far ?_ NB188_187.out _; exact BD BK188) Try.underlying25 rfl (by kernel_rfl)) rfl ?_
  exact ⟨_, ER, by refine PRx ?_; exact Kd.R_mono (FR (FR (Kd.R_far (p := ⟨gb187, 1, none⟩) (Kd.R_types (Kd.R_types HO194.out BK187.out (by decide)) BK188.out (by decide)) (fun _ hk => hk.1.2) (.slice Ao10 y192.length co10)))) (fun _ hk => trivial), BG⟩
 ·rw [if_neg c2] at H
  exact absurd H (by simp)
def spec_Grow.f (k : Nat) (a0_0 : Int) (l0_1 : List (S49)) : Option (Int × (List (S49)) × Bool) := (spec_TableOk.f k a0_0 l0_1).bind fun t197 => (if t197 = true then ((spec_l19Copy.f a0_0 l0_1).bind fun bt198 => (if a0_0 = 64 then (some (bt198.1, bt198.2, false)) else (some (wrap64 (2 * a0_0), bt198.2, true)))) else (some (0, ([] : List (S49)), false)))
theorem spec_Grow.mono : ∀ a0 a1 k, LeO (spec_Grow.f k a0 a1) (spec_Grow.f (k + 1) a0 a1) := by
 intro a0 a1 k
 unfold spec_Grow.f
 repeat' first | (with_reducible first | exact spec_TableOk.mono _ _ _ | exact LeO.refl _ | exact LeO.none _ | refine LeO.ite ?_ ?_ | refine LeO.bind ?_ (fun _ => ?_)) | exact spec_TableOk.mono _ _ _ | exact LeO.none _ | refine LeO.ite ?_ ?_ | refine LeO.bind ?_ (fun _ => ?_)
theorem spec_Grow.z0 {P : Prop} (h : P := by rw [hg]; exact Nat.ne_of_lt (blk_lt (BD BK195))) : P := h
theorem spec_Grow.z1 {P : Prop} (h : P := by rw [hg]; exact Nat.ne_of_gt (blk_lt (BD BK195))) : P := h
set_option maxHeartbeats 8000000 in
set_option maxRecDepth 100000 in
theorem spec_Grow.calls (k : Nat) (a0_0 : Int) (A0_1 : Option Addr) (c0_1 : Nat) (l0_1 : List (S49)) (r1 : Int) (r2 : List (S49)) (r3 : Bool) (w : World) (hr0_1 : Kd.C k49 w A0_1 l0_1.length l0_1) (hc0_1 : l0_1.length ≤ c0_1) (h : spec_Grow.f k a0_0 l0_1 = some (r1, r2, r3)) :
  Calls Try.prog 60 #[.agg #[.int .i64 a0_0, .slice A0_1 l0_1.length c0_1]] w fun e w' => ∃ v1_ : Value, e = .returned (.tuple #[.agg #[.int .i64 r1, v1_], .bool r3]) ∧ Kd.R k49 49 w' w.heap.size (fun _ => True) v1_ r2 ∧ Below w.heap.size w w' := by
 have hu25 := Try.underlying25
 have HR0_1 := Aside0.mk hr0_1
 have HC0_1 := Aside0.mk hc0_1
 clear hr0_1 hc0_1
 have HB := Aside0.mk (Below.refl w.heap.size w)
 have H : ((spec_TableOk.f k a0_0 l0_1).bind fun t197 => (if t197 = true then ((spec_l19Copy.f a0_0 l0_1).bind fun bt198 => (if a0_0 = 64 then (some (bt198.1, bt198.2, false)) else (some (wrap64 (2 * a0_0), bt198.2, true)))) else (some (0, ([] : List (S49)), false)))) = some (r1, r2, r3) := h
 clear h
 replace H := BS H
 obtain ⟨t197, A20, H⟩ := H
 have A2 := Aside0.mk A20
 clear A20
 by_cases c3 : t197 = true
 ·subst c3
  replace H := IP H
  replace H := BS H
  obtain ⟨⟨t198, t199⟩, A40, H⟩ := H
  have A4 := Aside0.mk A40
  clear A40
  by_cases c5 : a0_0 = 64
  ·rw [if_pos c5] at H
   have c5b0 : (a0_0 == 64) = true := beq_iff_eq.mpr c5
   have c5b1 : (a0_0 != 64) = false := bne_eq_false_iff_eq.mpr c5
   clear c5
   simp only [Option.some.injEq, Prod.mk.injEq] at H
   obtain ⟨rfl, rfl, rfl⟩ := H
   go_enter Try.func60, Try.ntmps60
   go_wp2_with (first | ((with_reducible refine gate_dst (N := 1) rfl ?_); refine box_event ?hg (N := 1) ?hd (cs := #[.int .i64 a0_0, .slice A0_1 l0_1.length c0_1]) (t := 25) ?hr ?_; (case hd => rfl); (case hg => rfl); (case hr => first | (go_simp; done) | (go_simp; rfl)); intro gb195 hg w6 hbox hb; have n_ : _ ∧ _ ∧ _ ∧ _ := ⟨AsM (below_step BL hb), AsM (hbox), AsM ((GL : w.heap.size ≤ gb195)), AsM ((GL : w.heap.size ≤ gb195))⟩; clear HB; obtain ⟨HB, BK195, GW195, GE195⟩ := n_; clear hb hbox hg) | ((with_reducible refine gate_dst (N := 2) rfl ?_); refine box_event ?hg (N := 2) ?hd (cs := #[.int .i64 0, .slice none 0 0]) (t := 25) ?hr ?_; (case hd => rfl); (case hg => rfl); (case hr => first | (go_simp; done) | (go_simp; rfl)); intro gb196 hg w7 hbox hb; have n_ : _ ∧ _ ∧ _ ∧ _ ∧ _ ∧ _ ∧ _ := ⟨AsM (blk_below (BD BK195) hb), AsM (below_step BG hb), AsM (hbox), AsM ((GM : w.heap.size ≤ gb196)), AsM ((GM : w.heap.size ≤ gb196)), AsM ((spec_Grow.z0 : gb195 ≠ gb196)), AsM ((spec_Grow.z1 : gb196 ≠ gb195))⟩; clear BK195 HB; obtain ⟨BK195, HB, BK196, GW196, GE196, NB195_196, NB196_195⟩ := n_; clear hb hbox hg; have hnb8 := NB195_196.out; have hnc8 := NB196_195.out; obtain ⟨hcz9_0, hcz9_1, hfz9_0, hfz9_1⟩ := bk2 BK195.out) | ((with_reducible refine gate_callee (f := 40) rfl ?_); refine goesL_ (some 6) rfl rfl Try.func40 (by kernel_rfl) rfl #[.agg #[.int .i64 a0_0, .slice A0_1 l0_1.length c0_1]] rfl AQ ?_; (with_reducible refine (spec_TableOk.calls k a0_0 _ _ l0_1 true _ ?side1 ?side2 A2.out).mono ?_); (case side1 => exact SC HR0_1); (case side2 => exact HC0_1.out); rintro e w10 ⟨rfl, hb⟩; refine ⟨_, rfl, ?_⟩; have n_ : _ ∧ _ ∧ _ := ⟨AsM (blk_below (BD BK195) hb), AsM (blk_below (BD BK196) hb), AsM (below_step BG hb)⟩; clear BK195 BK196 HB; obtain ⟨BK195, BK196, HB⟩ := n_; (try clear hb); (try clear hb2); (try clear hk); (try clear hi); obtain ⟨hcz11_0, hcz11_1, hfz11_0, hfz11_1⟩ := bk2 BK195.out) | ((with_reducible refine gate_callee (f := 76) rfl ?_); refine goesL_ (some 10) rfl rfl Try.func76 (by kernel_rfl) rfl #[.agg #[.int .i64 a0_0, .slice A0_1 l0_1.length c0_1]] rfl AQ ?_; (with_reducible refine (spec_l19Copy.calls a0_0 _ _ l0_1 t198 t199 _ ?side1 ?side2 A4.out).mono ?_); (case side1 => exact SC HR0_1); (case side2 => exact HC0_1.out); rintro e w12 ⟨v200, rfl, ho0, hb⟩; refine ⟨_, rfl, ?_⟩; have n_ : _ ∧ _ ∧ _ ∧ _ := ⟨AsM (Kd.R_lower ho0 (below_size BG)), AsM (blk_below (BD BK195) hb), AsM (blk_below (BD BK196) hb), AsM (below_step BG hb)⟩; clear BK195 BK196 HB; obtain ⟨HO201, BK195, BK196, HB⟩ := n_; (try clear hb); (try clear hb2); (try clear hk); (try clear hi); (try clear ho0)) | ((with_reducible refine gate_dst (N := 4) rfl ?_); refine box_event ?hg (N := 4) ?hd (cs := #[.int .i64 0, .slice none 0 0]) (t := 25) ?hr ?_; (case hd => rfl); (case hg => rfl); (case hr => first | (go_simp; done) | (go_simp; rfl)); intro gb202 hg w13 hbox hb; have n_ : _ ∧ _ ∧ _ ∧ _ ∧ _ ∧ _ ∧ _ ∧ _ ∧ _ ∧ _ ∧ _ := ⟨AsM (Kd.R_below (RD HO201) hb), AsM (blk_below (BD BK195) hb), AsM (blk_below (BD BK196) hb), AsM (below_step BG hb), AsM (hbox), AsM ((GM : w.heap.size ≤ gb202)), AsM ((GM : w.heap.size ≤ gb202)), AsM ((spec_Grow.z0 : gb195 ≠ gb202)), AsM ((spec_Grow.z1 : gb202 ≠ gb195)), AsM ((by rw [hg]; exact Nat.ne_of_lt (blk_lt (BD BK196)) : gb196 ≠ gb202)), AsM ((by rw [hg]; exact Nat.ne_of_gt (blk_lt (BD BK196)) : gb202 ≠ gb196))⟩; clear HO201 BK195 BK196 HB; obtain ⟨HO201, BK195, BK196, HB, BK202, GW202, GE202, NB195_202, NB202_195, NB196_202, NB202_196⟩ := n_; clear hb hbox hg; have hnb14 := NB202_195.out; have hnc14 := NB195_202.out; have hnb15 := NB202_196.out; have hnc15 := NB196_202.out; obtain ⟨hcz16_0, hcz16_1, hfz16_0, hfz16_1⟩ := bk2 BK202.out; obtain ⟨Ao17, co17, eo17⟩ := Kd.R_slice HO201.out; subst eo17; obtain ⟨hcz18_0, hcz18_1, hfz18_0, hfz18_1⟩ := bk2 BK195.out; obtain ⟨hcz19_0, hcz19_1, hfz19_0, hfz19_1⟩ := bk2 BK196.out))
   refine bodyPost_ret (results_ct rfl _ _ gb196 25 #[.int .i64 t198, .slice Ao17 t199.length co17] (0, 0) _ rfl (by refine PX ?_; refine blk_put (cs := #[.int .i64 t198, .slice none 0 0]) ?_ 1 _ rfl; refine PX ?_; refine blk_put (cs := #[.int .i64 0, .slice none 0 0]) ?_ 0 _ rfl; refine PX ?_; refine blk_far ?_ NB196_202.out _; refine PX ?_; refine blk_far ?_ NB196_202.out _; exact BD BK196) Try.underlying25 rfl (by kernel_rfl)) rfl ?_
   exact ⟨_, ER, by refine PRx ?_; exact Kd.R_mono (FR (FR (Kd.R_far (p := ⟨gb202, 1, none⟩) (Kd.R_far (p := ⟨gb202, 0, none⟩) (Kd.R_types (Kd.R_types HO201.out BK202.out (by decide)) BK196.out (by decide)) (fun _ hk => hk.1.2) (.int .i64 t198)) (fun _ hk => hk.1.2) (.slice Ao17 t199.length co17)))) (fun _ hk => trivial), BG⟩
  ·rw [if_neg c5] at H
   have c5b0 : (a0_0 == 64) = false := beq_eq_false_iff_ne.mpr c5
   have c5b1 : (a0_0 != 64) = true := bne_iff_ne.mpr c5
   simp only [Option.some.injEq, Prod.mk.injEq] at H
   obtain ⟨rfl, rfl, rfl⟩ := H
   go_enter Try.func60, Try.ntmps60
   go_wp2_with (first | ((with_reducible refine gate_dst (N := 1) rfl ?_); refine box_event ?hg (N := 1) ?hd (cs := #[.int .i64 a0_0, .slice A0_1 l0_1.length c0_1]) (t := 25) ?hr ?_; (case hd => rfl); (case hg => rfl); (case hr => first | (go_simp; done) | (go_simp; rfl)); intro gb195 hg w20 hbox hb; have n_ : _ ∧ _ ∧ _ ∧ _ := ⟨AsM (below_step BL hb), AsM (hbox), AsM ((GL : w.heap.size ≤ gb195)), AsM ((GL : w.heap.size ≤ gb195))⟩; clear HB; obtain ⟨HB, BK195, GW195, GE195⟩ := n_; clear hb hbox hg) | ((with_reducible refine gate_dst (N := 2) rfl ?_); refine box_event ?hg (N := 2) ?hd (cs := #[.int .i64 0, .slice none 0 0]) (t := 25) ?hr ?_; (case hd => rfl); (case hg => rfl); (case hr => first | (go_simp; done) | (go_simp; rfl)); intro gb196 hg w21 hbox hb; have n_ : _ ∧ _ ∧ _ ∧ _ ∧ _ ∧ _ ∧ _ := ⟨AsM (blk_below (BD BK195) hb), AsM (below_step BG hb), AsM (hbox), AsM ((GM : w.heap.size ≤ gb196)), AsM ((GM : w.heap.size ≤ gb196)), AsM ((spec_Grow.z0 : gb195 ≠ gb196)), AsM ((spec_Grow.z1 : gb196 ≠ gb195))⟩; clear BK195 HB; obtain ⟨BK195, HB, BK196, GW196, GE196, NB195_196, NB196_195⟩ := n_; clear hb hbox hg; have hnb22 := NB195_196.out; have hnc22 := NB196_195.out; obtain ⟨hcz23_0, hcz23_1, hfz23_0, hfz23_1⟩ := bk2 BK195.out) | ((with_reducible refine gate_callee (f := 40) rfl ?_); refine goesL_ (some 6) rfl rfl Try.func40 (by kernel_rfl) rfl #[.agg #[.int .i64 a0_0, .slice A0_1 l0_1.length c0_1]] rfl AQ ?_; (with_reducible refine (spec_TableOk.calls k a0_0 _ _ l0_1 true _ ?side1 ?side2 A2.out).mono ?_); (case side1 => exact SC HR0_1); (case side2 => exact HC0_1.out); rintro e w24 ⟨rfl, hb⟩; refine ⟨_, rfl, ?_⟩; have n_ : _ ∧ _ ∧ _ := ⟨AsM (blk_below (BD BK195) hb), AsM (blk_below (BD BK196) hb), AsM (below_step BG hb)⟩; clear BK195 BK196 HB; obtain ⟨BK195, BK196, HB⟩ := n_; (try clear hb); (try clear hb2); (try clear hk); (try clear hi); obtain ⟨hcz25_0, hcz25_1, hfz25_0, hfz25_1⟩ := bk2 BK195.out) | ((with_reducible refine gate_callee (f := 76) rfl ?_); refine goesL_ (some 10) rfl rfl Try.func76 (by kernel_rfl) rfl #[.agg #[.int .i64 a0_0, .slice A0_1 l0_1.length c0_1]] rfl AQ ?_; (with_reducible refine (spec_l19Copy.calls a0_0 _ _ l0_1 t198 t199 _ ?side1 ?side2 A4.out).mono ?_); (case side1 => exact SC HR0_1); (case side2 => exact HC0_1.out); rintro e w26 ⟨v200, rfl, ho0, hb⟩; refine ⟨_, rfl, ?_⟩; have n_ : _ ∧ _ ∧ _ ∧ _ := ⟨AsM (Kd.R_lower ho0 (below_size BG)), AsM (blk_below (BD BK195) hb), AsM (blk_below (BD BK196) hb), AsM (below_step BG hb)⟩; clear BK195 BK196 HB; obtain ⟨HO201, BK195, BK196, HB⟩ := n_; (try clear hb); (try clear hb2); (try clear hk); (try clear hi); (try clear ho0)) | ((with_reducible refine gate_dst (N := 4) rfl ?_); refine box_event ?hg (N := 4) ?hd (cs := #[.int .i64 0, .slice none 0 0]) (t := 25) ?hr ?_; (case hd => rfl); (case hg => rfl); (case hr => first | (go_simp; done) | (go_simp; rfl)); intro gb202 hg w27 hbox hb; have n_ : _ ∧ _ ∧ _ ∧ _ ∧ _ ∧ _ ∧ _ ∧ _ ∧ _ ∧ _ ∧ _ := ⟨AsM (Kd.R_below (RD HO201) hb), AsM (blk_below (BD BK195) hb), AsM (blk_below (BD BK196) hb), AsM (below_step BG hb), AsM (hbox), AsM ((GM : w.heap.size ≤ gb202)), AsM ((GM : w.heap.size ≤ gb202)), AsM ((spec_Grow.z0 : gb195 ≠ gb202)), AsM ((spec_Grow.z1 : gb202 ≠ gb195)), AsM ((by rw [hg]; exact Nat.ne_of_lt (blk_lt (BD BK196)) : gb196 ≠ gb202)), AsM ((by rw [hg]; exact Nat.ne_of_gt (blk_lt (BD BK196)) : gb202 ≠ gb196))⟩; clear HO201 BK195 BK196 HB; obtain ⟨HO201, BK195, BK196, HB, BK202, GW202, GE202, NB195_202, NB202_195, NB196_202, NB202_196⟩ := n_; clear hb hbox hg; have hnb28 := NB202_195.out; have hnc28 := NB195_202.out; have hnb29 := NB202_196.out; have hnc29 := NB196_202.out; obtain ⟨hcz30_0, hcz30_1, hfz30_0, hfz30_1⟩ := bk2 BK202.out; obtain ⟨Ao31, co31, eo31⟩ := Kd.R_slice HO201.out; subst eo31; obtain ⟨hcz32_0, hcz32_1, hfz32_0, hfz32_1⟩ := bk2 BK195.out; obtain ⟨hcz33_0, hcz33_1, hfz33_0, hfz33_1⟩ := bk2 BK196.out))
   refine bodyPost_ret (results_ct rfl _ _ gb196 25 #[.int .i64 (wrap64 (2 * a0_0)), .slice Ao31 t199.length co31] (0, 0) _ rfl (by refine PX ?_; refine blk_put (cs := #[.int .i64 (wrap64 (2 * a0_0)), .slice none 0 0]) ?_ 1 _ rfl; refine PX ?_; refine blk_put (cs := #[.int .i64 0, .slice none 0 0]) ?_ 0 _ rfl; refine PX ?_; refine blk_far ?_ NB196_202.out _; refine PX ?_; refine blk_far ?_ NB196_202.out _; refine PX ?_; refine blk_far ?_ NB196_202.out _; exact BD BK196) Try.underlying25 rfl (by kernel_rfl)) rfl ?_
   exact ⟨_, ER, by refine PRx ?_; exact Kd.R_mono (FR (FR (Kd.R_far (p := ⟨gb202, 0, none⟩) (Kd.R_far (p := ⟨gb202, 1, none⟩) (Kd.R_far (p := ⟨gb202, 0, none⟩) (Kd.R_types (Kd.R_types HO201.out BK202.out (by decide)) BK196.out (by decide)) (fun _ hk => hk.1.2) (.int .i64 t198)) (fun _ hk => hk.1.2) (.slice Ao31 t199.length co31)) (fun _ hk => hk.1.2) (.int .i64 (wrap64 (2 * a0_0)))))) (fun _ hk => trivial), BG⟩
 ·replace c3 := Bool.eq_false_iff.mpr c3
  subst c3
  replace H := IN H
  simp only [Option.some.injEq, Prod.mk.injEq] at H
  obtain ⟨rfl, rfl, rfl⟩ := H
  go_enter Try.func60, Try.ntmps60
  go_wp2_with (first | ((with_reducible refine gate_dst (N := 1) rfl ?_); refine box_event ?hg (N := 1) ?hd (cs := #[.int .i64 a0_0, .slice A0_1 l0_1.length c0_1]) (t := 25) ?hr ?_; (case hd => rfl); (case hg => rfl); (case hr => first | (go_simp; done) | (go_simp; rfl)); intro gb195 hg w34 hbox hb; have n_ : _ ∧ _ ∧ _ ∧ _ := ⟨AsM (below_step BL hb), AsM (hbox), AsM ((GL : w.heap.size ≤ gb195)), AsM ((GL : w.heap.size ≤ gb195))⟩; clear HB; obtain ⟨HB, BK195, GW195, GE195⟩ := n_; clear hb hbox hg) | ((with_reducible refine gate_dst (N := 2) rfl ?_); refine box_event ?hg (N := 2) ?hd (cs := #[.int .i64 0, .slice none 0 0]) (t := 25) ?hr ?_; (case hd => rfl); (case hg => rfl); (case hr => first | (go_simp; done) | (go_simp; rfl)); intro gb196 hg w35 hbox hb; have n_ : _ ∧ _ ∧ _ ∧ _ ∧ _ ∧ _ ∧ _ := ⟨AsM (blk_below (BD BK195) hb), AsM (below_step BG hb), AsM (hbox), AsM ((GM : w.heap.size ≤ gb196)), AsM ((GM : w.heap.size ≤ gb196)), AsM ((spec_Grow.z0 : gb195 ≠ gb196)), AsM ((spec_Grow.z1 : gb196 ≠ gb195))⟩; clear BK195 HB; obtain ⟨BK195, HB, BK196, GW196, GE196, NB195_196, NB196_195⟩ := n_; clear hb hbox hg; have hnb36 := NB195_196.out; have hnc36 := NB196_195.out; obtain ⟨hcz37_0, hcz37_1, hfz37_0, hfz37_1⟩ := bk2 BK195.out) | ((with_reducible refine gate_callee (f := 40) rfl ?_); refine goesL_ (some 6) rfl rfl Try.func40 (by kernel_rfl) rfl #[.agg #[.int .i64 a0_0, .slice A0_1 l0_1.length c0_1]] rfl AQ ?_; (with_reducible refine (spec_TableOk.calls k a0_0 _ _ l0_1 false _ ?side1 ?side2 A2.out).mono ?_); (case side1 => exact SC HR0_1); (case side2 => exact HC0_1.out); rintro e w38 ⟨rfl, hb⟩; refine ⟨_, rfl, ?_⟩; have n_ : _ ∧ _ ∧ _ := ⟨AsM (blk_below (BD BK195) hb), AsM (blk_below (BD BK196) hb), AsM (below_step BG hb)⟩; clear BK195 BK196 HB; obtain ⟨BK195, BK196, HB⟩ := n_; (try clear hb); (try clear hb2); (try clear hk); (try clear hi); obtain ⟨hcz39_0, hcz39_1, hfz39_0, hfz39_1⟩ := bk2 BK196.out))
  refine bodyPost_ret (results_ct rfl _ _ gb196 25 #[.int .i64 0, .slice none 0 0] (0, 0) _ rfl (by refine PX ?_; refine blk_put (cs := #[.int .i64 0, .slice none 0 0]) ?_ 1 _ rfl; refine PX ?_; refine blk_put (cs := #[.int .i64 0, .slice none 0 0]) ?_ 0 _ rfl; exact BD BK196) Try.underlying25 rfl (by kernel_rfl)) rfl ?_
  exact ⟨_, ER, by first | exact Kd.R_nil _ _ _ _ _ | exact Kd.N_nil _ _ _ _ _ | exact Kd.V_nil _ _ _ _ _ | exact Kd.Q_nil _ _ _ _ _ | exact Kd.S_nil _ _ _ _ _, BG⟩
end Go.Proofs.Ytbjlldjkkdiblaa.G
