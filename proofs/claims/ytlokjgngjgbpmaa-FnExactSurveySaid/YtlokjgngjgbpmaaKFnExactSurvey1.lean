/- Part 1 of the claim FnExactSurvey, merged by pack.py (this session's program) out of: the print's words, cut to what is needed; texts that gen.py printed (it runs the kit's print in place); texts of this session. -/
import Derived.Test.YtlokjgngjgbpmaaProg
import Derived.Below
import Derived.Deep.Draws
import Derived.Deep.AppendLies
import Derived.Maps.AppendAt
import Derived.OwnWalk
import Derived.Laws.BytesArg
import Derived.Laws.MakeOwn
import Derived.Laws.OwnMore
import Derived.Deep.OwnRows
import Derived.Tactics
import Derived.Lib.ConvBytes
import Derived.Laws.Slices
import Derived.WalkKit
import Derived.KernelRfl
import Derived.RowKit3
import Derived.Deep.LoopGhost
import Derived.Deep.QuietTactic
import Derived.BigQuiet
import Derived.WideLaws
import Derived.Deep.DeepCutAuto
import Derived.Deep.CutBlock
import Derived.Deep.RegionHeld3
import Derived.Laws.Rows
import Derived.Lib.AppendStr
import Derived.ArgAppend
import Derived.Laws.IdiomCopy
import Derived.OrdersHeld
import Derived.Laws.BitsLemmas
import Derived.RowKit
import Derived.Laws.StructEq
import Derived.Test.YtlokjgngjgbpmaaKFnExactSurvey0
namespace Go.Proofs.Ytlokjgngjgbpmaa.Mm
end Go.Proofs.Ytlokjgngjgbpmaa.Mm
namespace Go.Proofs.Ytlokjgngjgbpmaa.Sh
end Go.Proofs.Ytlokjgngjgbpmaa.Sh
set_option maxHeartbeats 8000000
set_option maxRecDepth 100000
namespace Go.Proofs.Ytlokjgngjgbpmaa.Sh
open Go.RowKit Go.Proofs.YtlokjgngjgbpmaaW.PrintWords Go.Proofs.YtlokjgngjgbpmaaW.PrintLast Go.Proofs.YtlokjgngjgbpmaaW.PrintMore
set_option linter.unusedVariables false
theorem BL {P : Prop} (h : P := by repeat (first | (with_reducible first | exact HB.out | apply below_alloc | apply pw_below_drewN | apply below_drew1) | exact HB.out)) : P := h
theorem AQ {P : Prop} (h : P := by (try simp only [List.map_toArray, List.map_cons, List.map_nil]); first | done | rfl | (simp only [List.length_drop, List.length_take]; rfl)) : P := h
theorem AS {P : Prop} (h : P := by first | (with_reducible assumption) | assumption) : P := h
theorem RS {P : Prop} (h : P := by first | rfl | (simp; done) | (simp [*]; done)) : P := h
section
variable {α : Type} {d : Kd α} {e n : Nat} {w w2 : World} {base g i : Nat} {ok : Nat → Prop} {v u : Value} {xs : List α} {A : Option Addr}
theorem RD (b : Aside0 (Kd.R d e w base ok v xs)) (f : Kd.R d e w base ok v xs → Kd.R d e w2 base ok v xs := by intro h_; (with_reducible repeat (first | apply Kd.R_alloc | apply Kd.R_drewN | apply Kd.R_drew)); exact h_) : Kd.R d e w2 base ok v xs := f b.out
end
theorem BS {α β : Type} {f : Option α} {g : α → Option β} {r : β} (h : f.bind g = some r) : ∃ t, f = some t ∧ g t = some r := Option.bind_eq_some_iff.mp h
theorem IP {α : Type} {c : Prop} {i : Decidable c} {a b r : α} (h : @ite α c i a b = r) (hc : c := by first | rfl | decide | simp) : a = r := by rw [if_pos hc] at h; exact h
theorem IN {α : Type} {c : Prop} {i : Decidable c} {a b r : α} (h : @ite α c i a b = r) (hc : ¬ c := by first | exact Bool.false_ne_true | decide | simp) : b = r := by rw [if_neg hc] at h; exact h
def tf (m n : Nat) : Array Bool := ⟨List.replicate m true ++ List.replicate n false⟩
section
variable {P : Program} {ops : Array Oper} {Q : Exit → Act → World → Prop} {md : Region.Mode} {S : World → Prop} {ds : List Nat} {T : Bool × List (List Nat × List Nat)} {B : List Nat} {i : Nat} {N : Option Tmp} {oi : Oper} {v : Value} {fuel : Nat} {l : Array Bool} {a a' : Act} {w : World}
theorem PU (l' : Array Bool) (hi : ops[i]? = some oi) (hN : oi.dst = N) (HT : Aside0 (rtab md ops = T))
  (h : wpAnyLast P md ops Q S ds fuel l' a' w) (hc : anyT T l.toList l'.toList i = true := by kernel_rfl) (hQ : ∀ c a w, Q (.panic c) (a.put oi.dst v) w → Q (.panic c) a w := by exact fun _ _ _ h => h) (hp : Region.wanted oi (yielded ops a.tmps) = true := by rfl) (hy : ∀ w, (execOp a.eval oi).run P w = .ok (.value v) w := by intro w'; go_simp; with_reducible rfl) (ha : a.put N v = a' := by simp only [Act.put, List.setIfInBounds_toArray, List.set_cons_zero, List.set_cons_succ, i64_w, i32_w]; rfl) : wpAnyLast P md ops Q S ds (fuel + 1) l a w :=
 pure_ l' hi hN (any_of HT.out hc) hQ (Or.inl ⟨hp, hy⟩) ha h
theorem NM (N : Option Tmp) (h : wpAnyLast P md ops Q S ds fuel l a' w) (ha : a.put N v = a' := by simp only [Act.put, List.setIfInBounds_toArray, List.set_cons_zero, List.set_cons_succ, i64_w, i32_w]; rfl) : wpAnyLast P md ops Q S ds fuel l (a.put N v) w := norm_ ha h
end
theorem AsM {p : Prop} (h : p) : Aside0 p := ⟨h⟩
theorem ER {P : Prop} (h : P := by first | rfl | (simp [errW_none, errW_some] <;> rfl) | (simp [*, errW_none, errW_some] <;> rfl)) : P := h
theorem DR {P : Prop} (h : P := by repeat (first | exact Drawn0.refl _ | apply Drawn0.step)) : P := h
theorem HK1 {P : Prop} (h : P := by repeat (first | (with_reducible first | exact HK.out | apply Kept.alloc | apply Kept.drewN | apply Kept.drew) | exact HK.out)) : P := h
theorem bk1 {W : World} {g : Nat} {t : TypeId} {a0 : Value} (h : W.heap[g]? = some (.cells #[a0] t (0, 0))) : W.cell? ⟨g, 0, none⟩ = some a0 ∧ W.frozen? ⟨g, 0, none⟩ = false := ⟨(blk_cell h 0).trans rfl, blk_frozen h 0⟩
theorem bk3 {W : World} {g : Nat} {t : TypeId} {a0 a1 a2 : Value} (h : W.heap[g]? = some (.cells #[a0, a1, a2] t (0, 0))) : W.cell? ⟨g, 0, none⟩ = some a0 ∧ W.cell? ⟨g, 1, none⟩ = some a1 ∧ W.cell? ⟨g, 2, none⟩ = some a2 ∧ W.frozen? ⟨g, 0, none⟩ = false ∧ W.frozen? ⟨g, 1, none⟩ = false ∧ W.frozen? ⟨g, 2, none⟩ = false := ⟨(blk_cell h 0).trans rfl, (blk_cell h 1).trans rfl, (blk_cell h 2).trans rfl, blk_frozen h 0, blk_frozen h 1, blk_frozen h 2⟩
theorem bk4 {W : World} {g : Nat} {t : TypeId} {a0 a1 a2 a3 : Value} (h : W.heap[g]? = some (.cells #[a0, a1, a2, a3] t (0, 0))) : W.cell? ⟨g, 0, none⟩ = some a0 ∧ W.cell? ⟨g, 1, none⟩ = some a1 ∧ W.cell? ⟨g, 2, none⟩ = some a2 ∧ W.cell? ⟨g, 3, none⟩ = some a3 ∧ W.frozen? ⟨g, 0, none⟩ = false ∧ W.frozen? ⟨g, 1, none⟩ = false ∧ W.frozen? ⟨g, 2, none⟩ = false ∧ W.frozen? ⟨g, 3, none⟩ = false := ⟨(blk_cell h 0).trans rfl, (blk_cell h 1).trans rfl, (blk_cell h 2).trans rfl, (blk_cell h 3).trans rfl, blk_frozen h 0, blk_frozen h 1, blk_frozen h 2, blk_frozen h 3⟩
theorem bk5 {W : World} {g : Nat} {t : TypeId} {a0 a1 a2 a3 a4 : Value} (h : W.heap[g]? = some (.cells #[a0, a1, a2, a3, a4] t (0, 0))) : W.cell? ⟨g, 0, none⟩ = some a0 ∧ W.cell? ⟨g, 1, none⟩ = some a1 ∧ W.cell? ⟨g, 2, none⟩ = some a2 ∧ W.cell? ⟨g, 3, none⟩ = some a3 ∧ W.cell? ⟨g, 4, none⟩ = some a4 ∧ W.frozen? ⟨g, 0, none⟩ = false ∧ W.frozen? ⟨g, 1, none⟩ = false ∧ W.frozen? ⟨g, 2, none⟩ = false ∧ W.frozen? ⟨g, 3, none⟩ = false ∧ W.frozen? ⟨g, 4, none⟩ = false := ⟨(blk_cell h 0).trans rfl, (blk_cell h 1).trans rfl, (blk_cell h 2).trans rfl, (blk_cell h 3).trans rfl, (blk_cell h 4).trans rfl, blk_frozen h 0, blk_frozen h 1, blk_frozen h 2, blk_frozen h 3, blk_frozen h 4⟩
theorem bk8 {W : World} {g : Nat} {t : TypeId} {a0 a1 a2 a3 a4 a5 a6 a7 : Value} (h : W.heap[g]? = some (.cells #[a0, a1, a2, a3, a4, a5, a6, a7] t (0, 0))) : W.cell? ⟨g, 0, none⟩ = some a0 ∧ W.cell? ⟨g, 1, none⟩ = some a1 ∧ W.cell? ⟨g, 2, none⟩ = some a2 ∧ W.cell? ⟨g, 3, none⟩ = some a3 ∧ W.cell? ⟨g, 4, none⟩ = some a4 ∧ W.cell? ⟨g, 5, none⟩ = some a5 ∧ W.cell? ⟨g, 6, none⟩ = some a6 ∧ W.cell? ⟨g, 7, none⟩ = some a7 ∧ W.frozen? ⟨g, 0, none⟩ = false ∧ W.frozen? ⟨g, 1, none⟩ = false ∧ W.frozen? ⟨g, 2, none⟩ = false ∧ W.frozen? ⟨g, 3, none⟩ = false ∧ W.frozen? ⟨g, 4, none⟩ = false ∧ W.frozen? ⟨g, 5, none⟩ = false ∧ W.frozen? ⟨g, 6, none⟩ = false ∧ W.frozen? ⟨g, 7, none⟩ = false := ⟨(blk_cell h 0).trans rfl, (blk_cell h 1).trans rfl, (blk_cell h 2).trans rfl, (blk_cell h 3).trans rfl, (blk_cell h 4).trans rfl, (blk_cell h 5).trans rfl, (blk_cell h 6).trans rfl, (blk_cell h 7).trans rfl, blk_frozen h 0, blk_frozen h 1, blk_frozen h 2, blk_frozen h 3, blk_frozen h 4, blk_frozen h 5, blk_frozen h 6, blk_frozen h 7⟩
end Go.Proofs.Ytlokjgngjgbpmaa.Sh

namespace Go.Proofs.Ytlokjgngjgbpmaa.G
open Go.RowKit Go.Proofs.YtlokjgngjgbpmaaW.PrintWords Go.Proofs.YtlokjgngjgbpmaaW.PrintLast Go.Proofs.YtlokjgngjgbpmaaW.PrintMore Go.Proofs.Ytlokjgngjgbpmaa.Sh
attribute [local go_sem] max2_int min2_int max_two min_two max_three min_three max_four min_four
set_option linter.unusedVariables false
set_option linter.unusedSimpArgs false
def errW : Option Int → Value
 | none => .nilIface
 | some c => .iface 0 (.int .i64 c)
theorem errW_none : errW none = .nilIface := rfl
theorem errW_some (c : Int) : errW (some c) = .iface 0 (.int .i64 c) := rfl
theorem info3 : (Try.prog.info? 3).map (fun i => (i.zero, i.size, i.bytes)) = some (some (.int .i64 0), 1, 8) := by kernel_rfl
theorem info4 : (Try.prog.info? 4).map (fun i => (i.zero, i.size, i.bytes)) = some (some (.bool false), 1, 1) := by kernel_rfl
theorem info9 : (Try.prog.info? 9).map (fun i => (i.zero, i.size, i.bytes)) = some (some (.string ⟨#[]⟩), 1, 16) := by kernel_rfl
theorem info33 : (Try.prog.info? 33).map (fun i => (i.zero, i.size, i.bytes)) = some (some (.agg #[(.int .i64 0), (.int .i64 0), (.int .i64 0), (.int .i64 0), (.int .i64 0)]), 5, 40) := by kernel_rfl
theorem info67 : (Try.prog.info? 67).map (fun i => (i.zero, i.size, i.bytes)) = some (some (.agg #[(.string ⟨#[]⟩), (.string ⟨#[]⟩), (.int .i64 0)]), 3, 40) := by kernel_rfl
structure S67 where
 f0 : ByteArray
 f1 : ByteArray
 f2 : Int
def z67 : S67 := ⟨(⟨#[]⟩ : ByteArray), (⟨#[]⟩ : ByteArray), (0 : Int)⟩
def k67 : Kd S67 := Kd.iso (Kd.pair Kd.string (Kd.pair Kd.string (Kd.int .i64))) (fun x : S67 => (x.f0, x.f1, x.f2))
theorem k67_open {w : World} {x : S67} {cs : List Value} (h : k67.K w x cs) : cs = [.string x.f0, .string x.f1, .int .i64 x.f2] := by
 obtain ⟨_, _, rfl, rfl, ⟨_, _, rfl, rfl, rfl⟩⟩ := h
 exact rfl
theorem k67_openM {w : World} {base : Nat} {ok : Nat → Prop} {x : S67} {cs : List Value} (h : k67.M w base ok x cs) : cs = [.string x.f0, .string x.f1, .int .i64 x.f2] := by
 obtain ⟨_, _, rfl, rfl, ⟨_, _, rfl, rfl, rfl⟩⟩ := h
 exact rfl
theorem k67_mkM (w : World) (base : Nat) (ok : Nat → Prop) (x : S67)  : k67.M w base ok x [.string x.f0, .string x.f1, .int .i64 x.f2] := ⟨[.string x.f0], [.string x.f1, .int .i64 x.f2], rfl, rfl, ⟨[.string x.f1], [.int .i64 x.f2], rfl, rfl, rfl⟩⟩
def rd_T67 (xs : List S67) (i : Int) : S67 := xs.getD i.toNat z67
theorem at_T67 {w : World} {A : Option Addr} {n : Nat} {xs : List S67} (h : Kd.C k67 w A n xs) (i : Int) (h0 : 0 ≤ i) (h1 : i < n) : ∃ ad , A = some ad ∧ w.cell? (ad.add (i.toNat * 3)) = some (.string (rd_T67 xs i).f0) ∧ w.cell? ⟨(ad.add (i.toNat * 3)).block, (ad.add (i.toNat * 3)).off + 1, none⟩ = some (.string (rd_T67 xs i).f1) ∧ w.cell? ⟨(ad.add (i.toNat * 3)).block, (ad.add (i.toNat * 3)).off + 2, none⟩ = some (.int .i64 (rd_T67 xs i).f2) := by
 obtain ⟨ad, c, e, _, hK, hc0⟩ := Kd.C_get h z67 i h0 h1
 have hc : ∀ j u, c[j]? = some u → w.cell? (ad.add (i.toNat * 3 + j)) = some u := hc0
 obtain rfl := k67_open hK
 exact ⟨ad, e, hc 0 _ rfl, by rw [← add_field _ _ 1 (by omega)]; exact hc 1 _ rfl, by rw [← add_field _ _ 2 (by omega)]; exact hc 2 _ rfl⟩
structure S31 where
 f0 : Int
 f1 : Int
 f2 : Int
def z31 : S31 := ⟨(0 : Int), (0 : Int), (0 : Int)⟩
def k31 : Kd S31 := Kd.iso (Kd.pair (Kd.int .i64) (Kd.pair (Kd.int .i64) (Kd.int .i64))) (fun x : S31 => (x.f0, x.f1, x.f2))
theorem k31_open {w : World} {x : S31} {cs : List Value} (h : k31.K w x cs) : cs = [.int .i64 x.f0, .int .i64 x.f1, .int .i64 x.f2] := by
 obtain ⟨_, _, rfl, rfl, ⟨_, _, rfl, rfl, rfl⟩⟩ := h
 exact rfl
theorem k31_mkM (w : World) (base : Nat) (ok : Nat → Prop) (x : S31)  : k31.M w base ok x [.int .i64 x.f0, .int .i64 x.f1, .int .i64 x.f2] := ⟨[.int .i64 x.f0], [.int .i64 x.f1, .int .i64 x.f2], rfl, rfl, ⟨[.int .i64 x.f1], [.int .i64 x.f2], rfl, rfl, rfl⟩⟩
def rd_T31 (xs : List S31) (i : Int) : S31 := xs.getD i.toNat z31
theorem at_T31 {w : World} {A : Option Addr} {n : Nat} {xs : List S31} (h : Kd.C k31 w A n xs) (i : Int) (h0 : 0 ≤ i) (h1 : i < n) : ∃ ad , A = some ad ∧ w.cell? (ad.add (i.toNat * 3)) = some (.int .i64 (rd_T31 xs i).f0) ∧ w.cell? ⟨(ad.add (i.toNat * 3)).block, (ad.add (i.toNat * 3)).off + 1, none⟩ = some (.int .i64 (rd_T31 xs i).f1) ∧ w.cell? ⟨(ad.add (i.toNat * 3)).block, (ad.add (i.toNat * 3)).off + 2, none⟩ = some (.int .i64 (rd_T31 xs i).f2) := by
 obtain ⟨ad, c, e, _, hK, hc0⟩ := Kd.C_get h z31 i h0 h1
 have hc : ∀ j u, c[j]? = some u → w.cell? (ad.add (i.toNat * 3 + j)) = some u := hc0
 obtain rfl := k31_open hK
 exact ⟨ad, e, hc 0 _ rfl, by rw [← add_field _ _ 1 (by omega)]; exact hc 1 _ rfl, by rw [← add_field _ _ 2 (by omega)]; exact hc 2 _ rfl⟩
structure S33 where
 f0 : S31
 f1 : Int
 f2 : Int
def z33 : S33 := ⟨z31, (0 : Int), (0 : Int)⟩
def k33 : Kd S33 := Kd.iso (Kd.pair k31 (Kd.pair (Kd.int .i64) (Kd.int .i64))) (fun x : S33 => (x.f0, x.f1, x.f2))
theorem k33_open {w : World} {x : S33} {cs : List Value} (h : k33.K w x cs) : cs = [.int .i64 x.f0.f0, .int .i64 x.f0.f1, .int .i64 x.f0.f2, .int .i64 x.f1, .int .i64 x.f2] := by
 obtain ⟨_, _, rfl, s0, ⟨_, _, rfl, rfl, rfl⟩⟩ := h
 obtain rfl := k31_open s0
 exact rfl
theorem k33_mkM (w : World) (base : Nat) (ok : Nat → Prop) (x : S33)  : k33.M w base ok x [.int .i64 x.f0.f0, .int .i64 x.f0.f1, .int .i64 x.f0.f2, .int .i64 x.f1, .int .i64 x.f2] := ⟨[.int .i64 x.f0.f0, .int .i64 x.f0.f1, .int .i64 x.f0.f2], [.int .i64 x.f1, .int .i64 x.f2], rfl, (k31_mkM w base ok x.f0 ), ⟨[.int .i64 x.f1], [.int .i64 x.f2], rfl, rfl, rfl⟩⟩
def rd_T33 (xs : List S33) (i : Int) : S33 := xs.getD i.toNat z33
theorem at_T33 {w : World} {A : Option Addr} {n : Nat} {xs : List S33} (h : Kd.C k33 w A n xs) (i : Int) (h0 : 0 ≤ i) (h1 : i < n) : ∃ ad , A = some ad ∧ w.cell? (ad.add (i.toNat * 5)) = some (.int .i64 (rd_T33 xs i).f0.f0) ∧ w.cell? ⟨(ad.add (i.toNat * 5)).block, (ad.add (i.toNat * 5)).off + 1, none⟩ = some (.int .i64 (rd_T33 xs i).f0.f1) ∧ w.cell? ⟨(ad.add (i.toNat * 5)).block, (ad.add (i.toNat * 5)).off + 2, none⟩ = some (.int .i64 (rd_T33 xs i).f0.f2) ∧ w.cell? ⟨(ad.add (i.toNat * 5)).block, (ad.add (i.toNat * 5)).off + 3, none⟩ = some (.int .i64 (rd_T33 xs i).f1) ∧ w.cell? ⟨(ad.add (i.toNat * 5)).block, (ad.add (i.toNat * 5)).off + 4, none⟩ = some (.int .i64 (rd_T33 xs i).f2) := by
 obtain ⟨ad, c, e, _, hK, hc0⟩ := Kd.C_get h z33 i h0 h1
 have hc : ∀ j u, c[j]? = some u → w.cell? (ad.add (i.toNat * 5 + j)) = some u := hc0
 obtain rfl := k33_open hK
 exact ⟨ad, e, hc 0 _ rfl, by rw [← add_field _ _ 1 (by omega)]; exact hc 1 _ rfl, by rw [← add_field _ _ 2 (by omega)]; exact hc 2 _ rfl, by rw [← add_field _ _ 3 (by omega)]; exact hc 3 _ rfl, by rw [← add_field _ _ 4 (by omega)]; exact hc 4 _ rfl⟩
end Go.Proofs.Ytlokjgngjgbpmaa.G

namespace Go.Proofs.Ytlokjgngjgbpmaa.Sh
open Go.RowKit Go.Proofs.YtlokjgngjgbpmaaW.PrintWords Go.Proofs.YtlokjgngjgbpmaaW.PrintLast Go.Proofs.YtlokjgngjgbpmaaW.PrintMore
set_option linter.unusedVariables false
section
variable {P : Program} {ops : Array Oper} {rest : List Oper} {o : Oper} {a : Act} {Q : Exit → Act → World → Prop} {Kc : Act → World → Prop} {α : Type}
theorem Kd.Q_rows_run (d : Kd α) {Rr : α → List Value → Prop} {w0 W : World} (base : Nat) (t ty e : TypeId) (z : Value) (bytes : Nat)
  (ht : P.underlying t = some (.slice e)) (hinfo : (P.info? e).map (fun i => (i.zero, i.size, i.bytes)) = some (some z, d.sz, bytes)) (hz : z.cells.size = d.sz) (hs0 : 0 < d.sz) (hb0 : 0 < bytes)
  (v : Value) (xs ys : List α) (A : Option Addr) (m c : Nat) (ok okp : Nat → Prop) (hm0 : 0 < m)
  (HO : d.Q e W base ok v xs) (HR : ReadsRow Rr d.sz W A m ys) (hKM : ∀ x cs, Rr x cs → d.M W base okp x cs) (hokp : ∀ k, okp k → ok k ∧ some k ≠ v.ownBlock) (hfresh : ∀ k, W.heap.size ≤ k → ok k)
  (HB : Below base w0 W) (hbase : base ≤ W.heap.size) (hl : (xs.length + m) * bytes ≤ 140737488355328) :
  ∃ v1 w1, (Builtin.append_ #[t, t] ty #[v, .slice A m c]).run P W = .ok v1 w1 ∧ d.Q e w1 base ok v1 (xs ++ ys) ∧ Below base w0 w1 ∧ W.grownBy w1 v.ownBlock ∧ (v1.ownBlock = v.ownBlock ∨ ∃ b, v1.ownBlock = some b ∧ W.heap.size ≤ b) := by
 obtain ⟨i0, hi, hzz⟩ := Option.map_eq_some_iff.1 hinfo
 simp only [Prod.mk.injEq] at hzz
 obtain ⟨hz0, hz1, hz2⟩ := hzz
 have hm : ys.length = m := HR.1
 have hlen : xs.length + m ≤ 140737488355328 := Nat.le_trans (Nat.le_mul_of_pos_right _ hb0) hl
 obtain ⟨hok, inner, hown, hr⟩ := HO
 obtain ⟨ad, hA, _⟩ := HR.2.2 hm0
 subst hA
 obtain ⟨news, hnr, hnc⟩ := ReadsRow.inner_ HR
 have hnM : Reps (d.M W base okp) d.sz ys news := hnr.imp_ (fun p c hp => hKM p c hp)
 have hone : ∀ u ∈ news, u.oneCell' = true := by
  intro u hu
  obtain ⟨q, hq, rfl⟩ := List.mem_iff_getElem.1 hu
  have hql : q / d.sz < ys.length := by
   rw [Nat.div_lt_iff_lt_mul hs0]
   rw [← hnM.1]
   exact hq
  have hc := hnM.2 (q / d.sz) _ (List.getElem?_eq_getElem hql)
  refine d.K_one (d.K_of_M hc) _ ?_
  rw [List.mem_iff_getElem?]
  refine ⟨q % d.sz, ?_⟩
  rw [List.getElem?_take, if_pos (Nat.mod_lt _ hs0), List.getElem?_drop, Nat.mul_comm, Nat.div_add_mod, List.getElem?_eq_getElem hq]
 obtain ⟨v1, w1, hrun, h2, hg, hat'⟩ := q_append (P := P) W base t ty e i0 z d.sz bytes ht hi hz0 hz1 hz2 hz hs0 v xs.length inner hown ad m c news (by rw [hnM.1, hm]) hnc hone hm0 (by simp only [maxLen]; omega) hl hbase
 have hne : ∀ k, some k ≠ v.ownBlock → k < W.heap.size → some k ≠ v1.ownBlock := by
  intro k hk hlt
  rcases hat' with hat | ⟨b, hb, hle⟩
  ·rw [hat]; exact hk
  ·rw [hb]
   intro he
   injection he with he
   omega
 have step : ∀ {q : α} {c : List Value} {o : Nat → Prop}, d.M W base o q c → (∀ k, o k → ok k ∧ some k ≠ v.ownBlock) → d.M w1 base (fun k => ok k ∧ some k ≠ v1.ownBlock) q c := by
  intro q c o hq ho
  have h1 := d.M_move (w1 := w1) (fun k hk => hg.block k hk.2.2.1 (ho k hk.1).2) (d.M_bound hq)
  exact d.M_mono (fun k hk => ⟨(ho k hk.1).1, hne k (ho k hk.1).2 hk.2.2.1⟩) h1
 refine ⟨v1, w1, hrun, ⟨fun k hk => ?_, inner ++ news, by rw [List.length_append, hm]; exact h2, Kd.reps_append (hr.imp_ (fun _ _ hq => step hq (fun _ hk => hk))) (hnM.imp_ (fun _ _ hq => step hq hokp))⟩, HB.grown hg hbase (fun k hk => (q_typed hown k hk).1), hg, hat'⟩
 rcases hat' with hat | ⟨b, hb, hle⟩
 ·exact hok k (hat ▸ hk)
 ·rw [hb] at hk
  injection hk with hk
  exact hfresh k (by omega)
theorem Kd.Q_append_rows_step (d : Kd α) {Rr : α → List Value → Prop} {w0 W : World} (base : Nat) (hw : Region.wanted o (yielded ops a.tmps) = true) (s x : Operand) (t e : TypeId) (z : Value) (bytes : Nat)
  (ho : o.op = .call { callee := .builtin .append, args := #[s, x], argTypes := #[t, t] })
  (ht : P.underlying t = some (.slice e)) (hinfo : (P.info? e).map (fun i => (i.zero, i.size, i.bytes)) = some (some z, d.sz, bytes)) (hz : z.cells.size = d.sz) (hs0 : 0 < d.sz) (hb0 : 0 < bytes)
  (v : Value) (xs ys : List α) (A : Option Addr) (m c : Nat) (ok okp : Nat → Prop) (hs : a.eval s = v) (hx : a.eval x = .slice A m c)
  (HO : d.Q e W base ok v xs) (HR : ReadsRow Rr d.sz W A m ys) (hKM : ∀ x cs, Rr x cs → d.M W base okp x cs) (hokp : ∀ k, okp k → ok k ∧ some k ≠ v.ownBlock) (hfresh : ∀ k, W.heap.size ≤ k → ok k)
  (HB : Below base w0 W) (hbase : base ≤ W.heap.size) (hl : (xs.length + m) * bytes ≤ 140737488355328)
  (h : ∀ v1 w1, d.Q e w1 base ok v1 (xs ++ ys) → Below base w0 w1 → W.grownBy w1 v.ownBlock → (v1.ownBlock = v.ownBlock ∨ ∃ b, v1.ownBlock = some b ∧ W.heap.size ≤ b) → Kc (a.put o.dst v1) w1) (hm0 : 0 < m) :
  if Region.wanted o (yielded ops a.tmps) = true then Oper.wp P o a W Kc Q else Kc (a.put o.dst undef) W := by
 obtain ⟨v1, w1, hr, h1, h2, h3, h4⟩ := Kd.Q_rows_run (P := P) d base t o.type e z bytes ht hinfo hz hs0 hb0 v xs ys A m c ok okp hm0 HO HR hKM hokp hfresh HB hbase hl
 rw [if_pos hw]
 unfold Oper.wp execOp
 simp only [ho, resolve, invoke, builtin, Sem.run_bind, Sem.run_pure, Result.andThen_ok, List.map_toArray, List.map_cons, List.map_nil, hs, hx, hr]
 exact h v1 w1 h1 h2 h3 h4
end
end Go.Proofs.Ytlokjgngjgbpmaa.Sh

namespace Go.Proofs.Ytlokjgngjgbpmaa.Mm
open Go.RowKit Go.Proofs.YtlokjgngjgbpmaaW.PrintWords Go.Proofs.YtlokjgngjgbpmaaW.PrintLast Go.Proofs.YtlokjgngjgbpmaaW.PrintMore Go.Proofs.Ytlokjgngjgbpmaa.Sh
set_option linter.unusedVariables false
/-- A thing that is held: what it says of the world, given the blocks that are its own. -/
structure SP where
 At : World → (Nat → Prop) → Prop
 loc : ∀ {w w' : World} {S : Nat → Prop}, At w S → (∀ k, S k → w'.heap[k]? = w.heap[k]?) → At w' S
def emp : SP := ⟨fun _ _ => True, fun _ _ => trivial⟩
def sel (c : Bool) (A B : SP) : SP := match c with
 | true => A
 | false => B
/-- A variable in memory. -/
def box (t : TypeId) (g : Nat) (cs : List Value) : SP := ⟨fun w S => w.heap[g]? = some (.cells cs.toArray t (0, 0)) ∧ S g, fun h hm => ⟨(hm _ h.2).trans h.1, h.2⟩⟩
/-- A row of the call's own (it may begin inside its block). -/
def row {α : Type} (d : Kd α) (e : Nat) (v : Value) (xs : List α) : SP := ⟨fun w S => d.Q e w 0 S v xs, fun h hm => Kd.Q_move h hm⟩
def rowR {α : Type} (d : Kd α) (e : Nat) (v : Value) (xs : List α) : SP := ⟨fun w S => d.R e w 0 S v xs, fun h hm => Kd.R_move h hm⟩
/-- From w to w' nothing has turned but blocks of S and what is new. -/
structure Chg (S : Nat → Prop) (w w' : World) : Prop where
 os : w'.os = w.os
 tape : w'.tape = w.tape
 output : w'.output = w.output
 size : w.heap.size ≤ w'.heap.size
 block : ∀ k, k < w.heap.size → ¬ S k → w'.heap[k]? = w.heap[k]?
theorem Chg.of_below {w w' : World} (h : Below w.heap.size w w') : Chg (fun _ => False) w w' := ⟨h.os, h.tape, h.output, h.size, fun k hk _ => h.block k hk⟩
theorem Chg.of_grown {w w' : World} {r : Option Nat} (h : w.grownBy w' r) : Chg (fun k => r = some k) w w' := ⟨h.os, h.tape, h.output, h.size, fun k hk hn => h.block k hk (fun e => hn e.symm)⟩
theorem Chg.below {w0 w w' : World} {S : Nat → Prop} (h : Chg S w w') (hb : Below w0.heap.size w0 w) (hS : ∀ k, S k → w0.heap.size ≤ k) : Below w0.heap.size w0 w' :=
 hb.trans ⟨h.os, h.tape, h.output, h.size, fun k hk => h.block k (Nat.lt_of_lt_of_le hk hb.size) (fun hs => by have := hS k hs; omega)⟩
theorem Chg.wide {w w' : World} {S S' : Nat → Prop} (h : Chg S w w') (hs : ∀ k, S k → S' k) : Chg S' w w' := ⟨h.os, h.tape, h.output, h.size, fun k hk hn => h.block k hk (fun e => hn (hs k e))⟩
def Sep (w : World) (b : Nat) (N : List SP) : Prop := ∃ S : Nat → Nat → Prop, (∀ (i : Nat) (A : SP), N[i]? = some A → A.At w (S i)) ∧ (∀ i k, S i k → b ≤ k ∧ k < w.heap.size) ∧ (∀ i j k, S i k → S j k → i = j)
/-- What is held: N, beside a frame F that is left alone; below the call's first block nothing has turned. -/
structure Mem (w0 : World) (F : List SP) (w : World) (N : List SP) : Prop where
 bel : Below w0.heap.size w0 w
 sep : Sep w w0.heap.size (F ++ N)
section
variable {w0 w w' : World} {F N M L R : List SP} {A B : SP} {i j : Nat}
theorem Mem.nil (w : World) : Mem w [] w [] := ⟨Below.refl _ _, fun _ _ => False, fun i A h => by simp at h, fun _ _ h => h.elim, fun _ _ _ h => h.elim⟩
theorem Mem.sub (h : Mem w0 F w N) (σ : Nat → Nat) (hσ : ∀ i j, σ i = σ j → i = j) (hM : ∀ j A, (R ++ M)[j]? = some A → (F ++ N)[σ j]? = some A) : Mem w0 R w M := by
 obtain ⟨hb, S, h1, h2, h3⟩ := h
 exact ⟨hb, fun j => S (σ j), fun j A hA => h1 _ A (hM j A hA), fun j k hk => h2 _ k hk, fun i j k hi hj => hσ i j (h3 _ _ k hi hj)⟩
/-- The index under which number j of the new list stood: a list of numbers, each once; beyond it: beyond all. -/
def idx (m : Nat) (l : List Nat) (j : Nat) : Nat := if h : j < l.length then l[j] else m + j
theorem idx_inj {m : Nat} {l : List Nat} (hl : (l.all (· < m) && decide l.Nodup) = true) : ∀ i j, idx m l i = idx m l j → i = j := by
 simp only [Bool.and_eq_true, List.all_eq_true, decide_eq_true_eq] at hl
 obtain ⟨h1, h2⟩ := hl
 intro i j h
 unfold idx at h
 split at h <;> split at h
 ·exact (List.getElem_inj h2).1 h
 ·have := h1 _ (List.getElem_mem (by assumption)); omega
 ·have := h1 _ (List.getElem_mem (by assumption)); omega
 ·omega
/-- Some of what is held, in another order. -/
theorem Mem.pick (h : Mem w0 F w N) (l : List Nat) (hl : (l.all (· < N.length) && decide l.Nodup) = true := by kernel_rfl) (hM : l.map (fun i => N[i]?) = M.map some := by rfl) : Mem w0 F w M := by
 have hlen : l.length = M.length := by have := congrArg List.length hM; simpa using this
 have key : ∀ j A, M[j]? = some A → ∃ hj : j < l.length, N[l[j]]? = some A := by
  intro j A hA
  have hj : j < M.length := (List.getElem?_eq_some_iff.1 hA).1
  have := congrArg (fun z => z[j]?) hM
  simp only [List.getElem?_map, hA] at this
  rw [List.getElem?_eq_getElem (by omega)] at this
  simp only [Option.map_some, Option.some.injEq] at this
  exact ⟨by omega, this⟩
 refine Mem.sub h (fun q => if q < F.length then q else F.length + idx N.length l (q - F.length)) ?_ ?_
 ·intro i j e
  (try dsimp only at e)
  split at e <;> split at e
  ·exact e
  ·omega
  ·omega
  ·have := idx_inj hl _ _ (Nat.add_left_cancel e)
   omega
 ·intro q A hA
  (try dsimp only)
  split
  ·rename_i hq
   rw [List.getElem?_append_left hq] at hA ⊢
   exact hA
  ·rename_i hq
   rw [List.getElem?_append_right (by omega)] at hA
   obtain ⟨hj, hN⟩ := key _ _ hA
   rw [List.getElem?_append_right (by omega), Nat.add_sub_cancel_left]
   unfold idx
   rw [dif_pos hj]
   exact hN
/-- The things of these numbers. -/
def pk (N : List SP) : List Nat → List SP
 | [] => []
 | i :: r => match N[i]? with
  | some A => A :: pk N r
  | none => pk N r
theorem pk_map : ∀ (r : List Nat), r.all (· < N.length) = true → r.map (fun i => N[i]?) = (pk N r).map some
 | [], _ => rfl
 | i :: r, h => by
  rw [List.all_cons, Bool.and_eq_true, decide_eq_true_eq] at h
  unfold pk
  rw [List.getElem?_eq_getElem h.1]
  simp only [List.map_cons, List.getElem?_eq_getElem h.1, pk_map r h.2]
/-- What is given to a call (l) stands alone; the rest (r) joins the frame. -/
theorem Mem.focus (h : Mem w0 F w N) (r l : List Nat) (hl : ((r ++ l).all (· < N.length) && decide (r ++ l).Nodup) = true := by kernel_rfl) (hM : l.map (fun i => N[i]?) = M.map some := by rfl) : Mem w0 (F ++ pk N r) w M := by
 have hr : r.all (· < N.length) = true := by
  rw [Bool.and_eq_true, List.all_append, Bool.and_eq_true] at hl
  exact hl.1.1
 have h1 : Mem w0 F w (pk N r ++ M) := Mem.pick h (r ++ l) hl (by rw [List.map_append, pk_map r hr, hM, List.map_append])
 refine ⟨h1.bel, ?_⟩
 rw [List.append_assoc]
 exact h1.sep
theorem Mem.unfocus (h : Mem w0 (F ++ R) w M) : Mem w0 F w (R ++ M) := ⟨h.bel, by rw [← List.append_assoc]; exact h.sep⟩
theorem Mem.at_ (h : Mem w0 F w N) (hi : N[i]? = some A) : ∃ S, A.At w S ∧ ∀ k, S k → w0.heap.size ≤ k ∧ k < w.heap.size := by
 obtain ⟨hb, S, h1, h2, h3⟩ := h
 exact ⟨S (F.length + i), h1 _ A (by rw [List.getElem?_append_right (by omega), Nat.add_sub_cancel_left]; exact hi), fun k hk => h2 _ k hk⟩
/-- Thing number i: its blocks, and how it may turn. -/
theorem Mem.opn (h : Mem w0 F w N) (hi : N[i]? = some A) : ∃ S : Nat → Prop, A.At w S ∧ (∀ k, S k → w0.heap.size ≤ k ∧ k < w.heap.size) ∧ ∀ (w' : World) (B : SP) (S' : Nat → Prop), B.At w' S' → (∀ k, S' k → (S k ∨ w.heap.size ≤ k) ∧ k < w'.heap.size) → Chg S w w' → Mem w0 F w' (N.set i B) := by
 obtain ⟨hb, S, h1, h2, h3⟩ := h
 have hil : i < N.length := (List.getElem?_eq_some_iff.1 hi).1
 refine ⟨S (F.length + i), h1 (F.length + i) A (by rw [List.getElem?_append_right (by omega), Nat.add_sub_cancel_left]; exact hi), fun k hk => h2 _ k hk, ?_⟩
 intro w' B S' hB hS' hc
 refine ⟨hc.below hb (fun k hk => (h2 _ k hk).1), fun q => if q = F.length + i then S' else S q, ?_, ?_, ?_⟩
 ·intro q D hD
  have e : F ++ N.set i B = (F ++ N).set (F.length + i) B := by rw [List.set_append_right _ _ (by omega), Nat.add_sub_cancel_left]
  rw [e, List.getElem?_set] at hD
  dsimp only
  by_cases hq : q = F.length + i
  ·rw [if_pos hq]
   rw [if_pos hq.symm] at hD
   split at hD
   ·rw [← Option.some.inj hD]; exact hB
   ·cases hD
  ·rw [if_neg hq]
   rw [if_neg (fun e => hq e.symm)] at hD
   exact D.loc (h1 q D hD) (fun k hk => hc.block k (h2 _ k hk).2 (fun hk' => hq (h3 _ _ k hk hk')))
 ·intro q k hk
  (try dsimp only at hk)
  split at hk
  ·have := hS' k hk
   exact ⟨this.1.elim (fun e => (h2 _ k e).1) (fun e => Nat.le_trans hb.size e), this.2⟩
  ·exact ⟨(h2 _ k hk).1, Nat.lt_of_lt_of_le (h2 _ k hk).2 hc.size⟩
 ·intro q p k hq hp
  (try dsimp only at hq hp)
  split at hq <;> split at hp
  ·omega
  ·rcases (hS' k hq).1 with e | e
   ·have := h3 _ _ k e hp; omega
   ·have := (h2 _ k hp).2; omega
  ·rcases (hS' k hp).1 with e | e
   ·have := h3 _ _ k e hq; omega
   ·have := (h2 _ k hq).2; omega
  ·exact h3 _ _ k hq hp
theorem Mem.move (h : Mem w0 F w N) (hc : Chg (fun _ => False) w w') : Mem w0 F w' N := by
 obtain ⟨hb, S, h1, h2, h3⟩ := h
 exact ⟨hc.below hb (fun _ hk => hk.elim), S, fun q D hD => D.loc (h1 q D hD) (fun k hk => hc.block k (h2 _ k hk).2 (fun e => e)), fun q k hk => ⟨(h2 _ k hk).1, Nat.lt_of_lt_of_le (h2 _ k hk).2 hc.size⟩, h3⟩
theorem Mem.below (h : Mem w0 F w N) (hb : Below w.heap.size w w') : Mem w0 F w' N := h.move (Chg.of_below hb)
theorem Mem.drew (h : Mem w0 F w N) : Mem w0 F w.drew N := h.below (below_drew (Below.refl _ _))
theorem Mem.drewN (h : Mem w0 F w N) (n : Nat) : Mem w0 F (w.drewN n) N := h.below (pw_below_drewN (Below.refl _ _) n)
theorem Mem.drawn (h : Mem w0 F w N) (hd : Drawn0 w w') : Mem w0 F w' N := by
 obtain ⟨n, rfl⟩ := hd.out
 exact h.drewN n
/-- Something new. -/
theorem Mem.push (h : Mem w0 F w N) (A : SP) {S' : Nat → Prop} (hA : A.At w' S') (hS : ∀ k, S' k → w.heap.size ≤ k ∧ k < w'.heap.size) (hc : Chg (fun _ => False) w w') : Mem w0 F w' (N ++ [A]) := by
 have h0 := h.move hc
 obtain ⟨hb, S, h1, h2, h3⟩ := h
 refine ⟨h0.bel, fun q => if q = (F ++ N).length then S' else S q, ?_, ?_, ?_⟩
 ·intro q D hD
  rw [← List.append_assoc] at hD
  (try dsimp only)
  split
  ·rename_i hq
   rw [hq, List.getElem?_append_right (Nat.le_refl _), Nat.sub_self] at hD
   obtain rfl : A = D := by simpa using hD
   exact hA
  ·rename_i hq
   have hlt : q < (F ++ N).length := by
    have := (List.getElem?_eq_some_iff.1 hD).1
    rw [List.length_append, List.length_singleton] at this
    omega
   rw [List.getElem?_append_left hlt] at hD
   exact D.loc (h1 q D hD) (fun k hk => hc.block k (h2 _ k hk).2 (fun e => e))
 ·intro q k hk
  (try dsimp only at hk)
  split at hk
  ·exact ⟨Nat.le_trans hb.size (hS k hk).1, (hS k hk).2⟩
  ·exact ⟨(h2 _ k hk).1, Nat.lt_of_lt_of_le (h2 _ k hk).2 hc.size⟩
 ·intro q p k hq hp
  (try dsimp only at hq hp)
  split at hq <;> split at hp
  ·omega
  ·have := (hS k hq).1; have := (h2 _ k hp).2; omega
  ·have := (hS k hp).1; have := (h2 _ k hq).2; omega
  ·exact h3 _ _ k hq hp
/-- A call has ended that was given nothing: what it made is held, too. -/
theorem Mem.call (h : Mem w0 F w N) (k : Mem w [] w' L) : Mem w0 F w' (N ++ L) := by
 have h0 := h.below k.bel
 obtain ⟨hb, S, h1, h2, h3⟩ := h
 obtain ⟨kb, T, k1, k2, k3⟩ := k
 rw [List.nil_append] at k1
 refine ⟨h0.bel, fun q => if q < (F ++ N).length then S q else T (q - (F ++ N).length), ?_, ?_, ?_⟩
 ·intro q D hD
  rw [← List.append_assoc] at hD
  (try dsimp only)
  split
  ·rename_i hq
   rw [List.getElem?_append_left hq] at hD
   exact D.loc (h1 q D hD) (fun k hk => kb.block k (h2 _ k hk).2)
  ·rename_i hq
   rw [List.getElem?_append_right (by omega)] at hD
   exact k1 _ D hD
 ·intro q k hk
  (try dsimp only at hk)
  split at hk
  ·exact ⟨(h2 _ k hk).1, Nat.lt_of_lt_of_le (h2 _ k hk).2 kb.size⟩
  ·exact ⟨Nat.le_trans hb.size (k2 _ k hk).1, (k2 _ k hk).2⟩
 ·intro q p k hq hp
  (try dsimp only at hq hp)
  split at hq <;> split at hp
  ·exact h3 _ _ k hq hp
  ·have := (h2 _ k hq).2; have := (k2 _ k hp).1; omega
  ·have := (h2 _ k hp).2; have := (k2 _ k hq).1; omega
  ·have := k3 _ _ k hq hp; omega
/-- Thing number i is told otherwise. -/
theorem Mem.tell (h : Mem w0 F w N) (hi : N[i]? = some A) (B : SP) (hB : ∀ S, A.At w S → B.At w S) : Mem w0 F w (N.set i B) := by
 obtain ⟨S, hA, hS, k⟩ := h.opn hi
 exact k w B S (hB S hA) (fun k hk => ⟨.inl hk, (hS k hk).2⟩) ⟨rfl, rfl, rfl, Nat.le_refl _, fun _ _ _ => rfl⟩
-- reads
theorem Mem.bx {t g : Nat} {cs : List Value} (h : Mem w0 F w N) (i : Nat) (hi : N[i]? = some (box t g cs)) : w.heap[g]? = some (.cells cs.toArray t (0, 0)) := by
 obtain ⟨S, hA, _⟩ := h.at_ hi
 exact hA.1
theorem Mem.q {α : Type} {d : Kd α} {e : Nat} {v : Value} {xs : List α} (h : Mem w0 F w N) (i : Nat) (hi : N[i]? = some (row d e v xs)) : ∃ S, d.Q e w 0 S v xs := by
 obtain ⟨S, hA, _⟩ := h.at_ hi
 exact ⟨S, hA⟩
/-- A row's form, its room, and what is read of it. -/
theorem Mem.rd {α : Type} {d : Kd α} {e : Nat} {v : Value} {xs : List α} (h : Mem w0 F w N) (i : Nat) (hi : N[i]? = some (row d e v xs)) : ∃ X c, v = .slice X xs.length c := by
 obtain ⟨S, hq⟩ := h.q i hi
 obtain ⟨X, c, hv, _⟩ := Kd.Q_slice hq
 exact ⟨X, c, hv⟩
theorem Mem.C {α : Type} {d : Kd α} {e n c : Nat} {X : Option Addr} {xs : List α} (h : Mem w0 F w N) (i : Nat) (hi : N[i]? = some (row d e (.slice X n c) xs)) : n = xs.length ∧ n ≤ c ∧ d.C w X xs.length xs := by
 obtain ⟨S, hq⟩ := h.q i hi
 exact Kd.Q_reads' hq
theorem Mem.rdR {α : Type} {d : Kd α} {e : Nat} {v : Value} {xs : List α} (h : Mem w0 F w N) (i : Nat) (hi : N[i]? = some (rowR d e v xs)) : ∃ X c, v = .slice X xs.length c := by
 obtain ⟨S, hq, _⟩ := h.at_ hi
 exact Kd.R_slice hq
theorem Mem.CR {α : Type} {d : Kd α} {e n c : Nat} {X : Option Addr} {xs : List α} (h : Mem w0 F w N) (i : Nat) (hi : N[i]? = some (rowR d e (.slice X n c) xs)) : n = xs.length ∧ n ≤ c ∧ d.C w X xs.length xs := by
 obtain ⟨S, hq, _⟩ := h.at_ hi
 exact Kd.R_reads' hq
/-- A queue that begins where its block begins is a row. -/
theorem R_of_Q0 {α : Type} {d : Kd α} {e g n c : Nat} {w : World} {base : Nat} {ok : Nat → Prop} {xs : List α} (h : d.Q e w base ok (.slice (some ⟨g, 0, none⟩) n c) xs) (hc : 0 < c) (hs : 0 < d.sz) : d.R e w base ok (.slice (some ⟨g, 0, none⟩) n c) xs := by
 obtain ⟨h0, inner, ⟨hl, ho⟩, hr⟩ := h
 refine ⟨h0, inner, ⟨hl, ?_⟩, hr⟩
 rcases ho with ⟨_, A, hv, _⟩ | ⟨g', off, cap, cur, hv, hb, hh, hnc, hcm, hcs, ht⟩
 ·injection hv with _ _ h3
  omega
 ·injection hv with ha h2 h3
  injection ha with ha
  injection ha with hg hoff
  have : off = 0 := by
   rcases Nat.eq_zero_or_pos off with h | h
   ·exact h
   ·have := Nat.mul_pos h hs
    omega
  subst this
  subst hg
  subst h3
  refine .inr ⟨g, c, cur, by rw [h2], hb, hh, hnc, by omega, by rw [hcs, Nat.zero_add], ?_⟩
  rw [Nat.zero_mul, List.drop_zero] at ht
  exact ht
/-- An empty row is always there. -/
theorem Mem.nl {α : Type} (h : Mem w0 F w N) (d : Kd α) (e : Nat) : Mem w0 F w (N ++ [rowR d e (.slice none 0 0) []]) := h.push _ (S' := fun _ => False) (Kd.R_nil d e w 0 _) (fun _ h => h.elim) ⟨rfl, rfl, rfl, Nat.le_refl _, fun _ _ _ => rfl⟩
theorem Mem.form {α : Type} {d : Kd α} {e n c : Nat} {X : Option Addr} {xs : List α} (h : Mem w0 F w N) (i : Nat) (hi : N[i]? = some (rowR d e (.slice X n c) xs)) (hp : 0 < xs.length) : ∃ g, X = some ⟨g, 0, none⟩ := by
 obtain ⟨S, hq, _⟩ := h.at_ hi
 obtain ⟨g, cap, hv, _⟩ := Kd.R_form hq hp
 injection hv with h1
 exact ⟨g, h1⟩
/-- The cells of element j. -/
theorem Mem.el {α : Type} {d : Kd α} {e g n c : Nat} {xs : List α} (h : Mem w0 F w N) (i : Nat) (hi : N[i]? = some (rowR d e (.slice (some ⟨g, 0, none⟩) n c) xs)) (z : α) (j : Int) (h0 : 0 ≤ j) (h1 : j < n) (cells : List Value) (ho : ∀ ok cs, d.M w 0 ok (xs.getD j.toNat z) cs → cs = cells) :
  (∀ q u, cells[q]? = some u → w.cell? ⟨g, j.toNat * d.sz + q, none⟩ = some u) ∧ ∀ q, w.frozen? ⟨g, j.toNat * d.sz + q, none⟩ = false := by
 obtain ⟨S, hq, _⟩ := h.at_ hi
 obtain ⟨cs, _, hm, hc, hf⟩ := Kd.R_elem hq z j h0 h1
 obtain rfl := ho _ cs hm
 exact ⟨hc, hf⟩
theorem Mem.el3 {α : Type} {d : Kd α} {e g n c : Nat} {xs : List α} (h : Mem w0 F w N) (i : Nat) (hi : N[i]? = some (rowR d e (.slice (some ⟨g, 0, none⟩) n c) xs)) (z : α) (j : Int) (h0 : 0 ≤ j) (h1 : j < n) (c0 c1 c2 : Value) (ho : ∀ ok cs, d.M w 0 ok (xs.getD j.toNat z) cs → cs = [c0, c1, c2]) (hs : d.sz = 3 := by rfl) :
  w.cell? ⟨g, j.toNat * 3, none⟩ = some c0 ∧ w.cell? ⟨g, j.toNat * 3 + 1, none⟩ = some c1 ∧ w.cell? ⟨g, j.toNat * 3 + 2, none⟩ = some c2 ∧ w.frozen? ⟨g, j.toNat * 3, none⟩ = false ∧ w.frozen? ⟨g, j.toNat * 3 + 1, none⟩ = false ∧ w.frozen? ⟨g, j.toNat * 3 + 2, none⟩ = false := by
 obtain ⟨hc, hf⟩ := h.el i hi z j h0 h1 [c0, c1, c2] ho
 rw [hs] at hc hf
 exact ⟨hc 0 _ rfl, hc 1 _ rfl, hc 2 _ rfl, hf 0, hf 1, hf 2⟩
/-- A name for a row's elements. -/
theorem Mem.nm {α : Type} {d : Kd α} {e : Nat} {v : Value} {xs y : List α} (h : Mem w0 F w N) (i : Nat) (hi : N[i]? = some (rowR d e v xs)) (hy : y = xs) : Mem w0 F w (N.set i (rowR d e v y)) := h.tell hi _ (fun S hA => hy ▸ hA)
theorem Mem.nmQ {α : Type} {d : Kd α} {e : Nat} {v : Value} {xs y : List α} (h : Mem w0 F w N) (i : Nat) (hi : N[i]? = some (row d e v xs)) (hy : y = xs) : Mem w0 F w (N.set i (row d e v y)) := h.tell hi _ (fun S hA => hy ▸ hA)
theorem Mem.str {P : Program} {src dst e e' : TypeId} {v : Value} {xs : List Int} (h : Mem w0 F w N) (i : Nat) (hi : N[i]? = some (rowR (Kd.int .u8) e' v xs)) (hs : P.underlying src = some (.slice e)) (he : P.underlying e = some (.int .u8)) (hd : P.underlying dst = some .string) : (convert src dst v).run P w = .ok (.string (strOfNums xs)) w := by
 obtain ⟨S, hq, _⟩ := h.at_ hi
 exact own_string hs he hd (Kd.own_of_R hq)
theorem Mem.toQ {α : Type} {d : Kd α} {e : Nat} {v : Value} {xs : List α} (h : Mem w0 F w N) (i : Nat) (hi : N[i]? = some (rowR d e v xs)) : Mem w0 F w (N.set i (row d e v xs)) := h.tell hi _ (fun S hA => Kd.Q_of_R hA)
theorem Mem.cell {p : Addr} {v : Value} (h : Mem w0 F w N) (hc : w0.cell? p = some v) : w.cell? p = some v := (h.bel.cell (World.block_lt_of_cell? w0 _ hc)).trans hc
theorem Mem.came {α : Type} {d : Kd α} {n : Nat} {X : Option Addr} {xs : List α} (h : Mem w0 F w N) (hc : d.C w0 X n xs) : d.C w X n xs := Kd.C_below hc h.bel
end
end Go.Proofs.Ytlokjgngjgbpmaa.Mm

namespace Go.Proofs.Ytlokjgngjgbpmaa.Mm
open Go.RowKit Go.Proofs.YtlokjgngjgbpmaaW.PrintWords Go.Proofs.YtlokjgngjgbpmaaW.PrintLast Go.Proofs.YtlokjgngjgbpmaaW.PrintMore Go.Proofs.Ytlokjgngjgbpmaa.Sh
set_option linter.unusedVariables false
section
variable {P : Program} {ops : Array Oper} {rest : List Oper} {o : Oper} {a : Act} {Q : Exit → Act → World → Prop} {K : Act → World → Prop} {w0 W W0 : World} {F N L : List SP} {A : SP} {α : Type}
/-- An event in a plain region. -/
theorem PL (h : ∀ K : Act → World → Prop, (∀ a w, wpList P ops Q rest a w → K a w) → Region.wanted o (yielded ops a.tmps) = true → Oper.wp P o a W K Q) (hg : Region.wanted o (yielded ops a.tmps) = true := by rfl) : wpList P ops Q (o :: rest) a W := by
 unfold wpList
 rw [if_pos hg]
 exact .inl (h _ (fun _ _ h => h) hg)
/-- An event as_ a step of a region that draws. -/
theorem ST (h : Oper.wp P o a W K Q) (hw : Region.wanted o (yielded ops a.tmps) = true := by rfl) : if Region.wanted o (yielded ops a.tmps) = true then Oper.wp P o a W K Q else K (a.put o.dst undef) W := by
 rw [if_pos hw]
 exact h
theorem wp_value {v : Value} {w1 : World} (hrun : (execOp a.eval o).run P W = .ok (.value v) w1) (h : K (a.put o.dst v) w1) : Oper.wp P o a W K Q := by
 unfold Oper.wp
 rw [hrun]
 exact h
/-- A variable in memory. -/
theorem eB (d : Tmp) (T : TypeId) (cs : List Value) (hM : Mem w0 F W0 N) (hd : o.dst = some d) (h : ∀ g w1, Mem w0 F w1 (N ++ [box T g cs]) → K (a.put o.dst (.pointer (some ⟨g, 0, none⟩))) w1)
  (hq : Drawn0 W0 W := by repeat (first | exact Drawn0.refl _ | apply Drawn0.step)) (hrun : (execOp a.eval o).run P W = .ok (.value (.pointer (some ⟨W.heap.size, 0, none⟩))) (W.alloc (.cells cs.toArray T (0, 0))) := by first | (go_simp; done) | (go_simp; rfl)) : Oper.wp P o a W K Q :=
 wp_value hrun (h _ _ ((hM.drawn hq).push (box T W.heap.size cs) (S' := fun k => k = W.heap.size) ⟨blk_new W _, rfl⟩ (fun k hk => by subst hk; exact ⟨Nat.le_refl _, by simp⟩) (Chg.of_below (below_alloc (Below.refl _ _) _))))
/-- A literal. -/
theorem eL (d : Tmp) (kd : Kd α) (e : Nat) (xs : List α) (inner : List Value) (hrep : Reps (kd.M W 0 (fun _ => False)) kd.sz xs inner) (hM : Mem w0 F W0 N) (hd : o.dst = some d) (h : ∀ v w1, Mem w0 F w1 (N ++ [rowR kd e v xs]) → K (a.put o.dst v) w1)
  (hq : Drawn0 W0 W := by repeat (first | exact Drawn0.refl _ | apply Drawn0.step)) (hm : xs.length ≤ 9223372036854775807 := by simp) (hrun : (execOp a.eval o).run P W = .ok (.value (.slice (some ⟨W.heap.size, 0, none⟩) xs.length xs.length)) (W.alloc (.cells inner.toArray e)) := by first | (go_simp; done) | (go_simp; rfl)) : Oper.wp P o a W K Q := by
 refine wp_value hrun (h _ _ ((hM.drawn hq).push (rowR kd e _ xs) (S' := fun k => k = W.heap.size) ⟨fun k hk => ?_, inner, ?_, ?_⟩ (fun k hk => by subst hk; exact ⟨Nat.le_refl _, by simp⟩) (Chg.of_below (below_alloc (Below.refl _ _) _))))
 ·have : W.heap.size = k := by simpa [Value.ownBlock] using hk
  exact this.symm
 ·have h2 := World.ownsRow_lit (base := 0) (e := e) (size := kd.sz) W inner.toArray xs.length (Nat.zero_le _) (by simpa [maxLen] using hm) (by simpa using hrep.1)
  simpa using h2
 ·exact hrep.imp_ (fun p c hp => kd.M_mono (fun k (hk : False ∧ _) => hk.1.elim) (Kd.M_below (kd.M_bound hp) (below_alloc (Below.refl _ _) _)))
/-- make([]T, n). -/
theorem eM (d : Tmp) (kd : Kd α) (e : Nat) (t : TypeId) (x y : Operand) (n : Int) (z : Value) (bytes : Nat) (z0 : α) (hM : Mem w0 F W0 N) (hd : o.dst = some d) (ht : P.underlying t = some (.slice e)) (hinfo : (P.info? e).map (fun i => (i.zero, i.size, i.bytes)) = some (some z, kd.sz, bytes)) (h0 : 0 ≤ n) (hl : n.toNat * bytes ≤ 281474976710656)
  (h : ∀ v w1, Mem w0 F w1 (N ++ [rowR kd e v (List.replicate n.toNat z0)]) → K (a.put o.dst v) w1) (hzero : kd.M W 0 (fun _ => False) z0 z.cells.toList := by rfl) (hz : z.cells.size = kd.sz := by rfl) (hs0 : 0 < kd.sz := by decide) (hb0 : 0 < bytes := by omega)
  (hq : Drawn0 W0 W := by repeat (first | exact Drawn0.refl _ | apply Drawn0.step)) (ho : o.op = .makeSlice t x y := by rfl) (hx : a.eval x = .int .i64 n := by first | rfl | (go_simp; done)) (hy : a.eval y = .int .i64 n := by first | rfl | (go_simp; done)) : Oper.wp P o a W K Q := by
 obtain ⟨m, rfl⟩ := Int.eq_ofNat_of_zero_le h0
 simp only [Int.toNat_natCast] at hl h
 obtain ⟨i0, hi, hzz⟩ := Option.map_eq_some_iff.1 hinfo
 simp only [Prod.mk.injEq] at hzz
 obtain ⟨hz0, hz1, hz2⟩ := hzz
 have hm : m ≤ 281474976710656 := Nat.le_trans (Nat.le_mul_of_pos_right _ hb0) hl
 have hr := run_make (P := P) W t e i0 z ht hi hz0 .i64 .i64 (m : Int) (m : Int) (by omega) (by omega)
  (by
   have h3 : ((i0.bytes * m : Nat) : Int) ≤ 281474976710656 := by rw [hz2, Nat.mul_comm]; omega
   rwa [Int.natCast_mul] at h3) (by omega)
 simp only [Int.toNat_natCast] at hr
 rw [hz1] at hr
 refine eL d kd e (List.replicate m z0) ((madeCells z.cells (m * kd.sz)).toList) (Kd.reps_made hz hs0 hzero m) hM hd h hq (by simp; omega) ?_
 simp [execOp, ho, hx, hy, hr]
/-- append(v, ys...) onto a row of the call's own (number i). Rr: what is known of a read element's cells. -/
theorem eA (i : Nat) (s x : Operand) (t e : TypeId) (d : Kd α) (v : Value) (xs ys : List α) (X : Option Addr) (m c : Nat) {Rr : α → List Value → Prop} {z : Value} {bytes : Nat} (hw : Region.wanted o (yielded ops a.tmps) = true) (hM : Mem w0 F W0 N) (ho : o.op = .call { callee := .builtin .append, args := #[s, x], argTypes := #[t, t] })
  (ht : P.underlying t = some (.slice e)) (hinfo : (P.info? e).map (fun i => (i.zero, i.size, i.bytes)) = some (some z, d.sz, bytes)) (hi : N[i]? = some (rowR d e v xs)) (HR : ReadsRow Rr d.sz W X m ys) (hl : (xs.length + m) * bytes ≤ 140737488355328)
  (h : ∀ v1 w1, Mem w0 F w1 (N.set i (rowR d e v1 (xs ++ ys))) → K (a.put o.dst v1) w1)
  (hq : Drawn0 W0 W := by repeat (first | exact Drawn0.refl _ | apply Drawn0.step)) (hKM : ∀ x cs, Rr x cs → d.M W 0 (fun _ => False) x cs := by exact fun _ _ h => h) (hs : a.eval s = v := by first | rfl | (simp only [List.length_drop, List.length_take, List.length_append, List.length_set, List.length_cons, List.length_nil, Int.reduceToNat]; rfl)) (hx : a.eval x = .slice X m c := by first | rfl | (simp only [List.length_drop, List.length_take, List.length_append, List.length_set, List.length_cons, List.length_nil, Int.reduceToNat]; rfl)) (hz : z.cells.size = d.sz := by rfl) (hs0 : 0 < d.sz := by decide) (hb0 : 0 < bytes := by omega) : Oper.wp P o a W K Q := by
 obtain ⟨S, hA, hS, fin⟩ := (hM.drawn hq).opn hi
 have key := Kd.R_append_rows_step (P := P) (Q := Q) (Kc := K) (w0 := W) d 0 hw s x t e z bytes ho ht hinfo hz hs0 hb0 v xs ys X m c (fun k => S k ∨ W.heap.size ≤ k) (fun _ => False) hs hx (Kd.R_mono hA (fun _ h => .inl h)) HR hKM (fun _ h => h.elim) (fun _ h => .inr h) (Below.mono (Below.refl W.heap.size W) (Nat.zero_le _)) (Nat.zero_le _) hl
  (fun v1 w1 h1 _ h3 _ => h v1 w1 (fin w1 _ _ (Kd.R_bound h1) (fun k hk => ⟨hk.1, hk.2.2.1⟩) ((Chg.of_grown h3).wide (fun k hk => hA.1 k hk))))
 rwa [if_pos hw] at key
/-- The same onto a queue; what is appended isn't empty. -/
theorem eAq (i : Nat) (s x : Operand) (t e : TypeId) (d : Kd α) (v : Value) (xs ys : List α) (X : Option Addr) (m c : Nat) {Rr : α → List Value → Prop} {z : Value} {bytes : Nat} (hw : Region.wanted o (yielded ops a.tmps) = true) (hM : Mem w0 F W0 N) (ho : o.op = .call { callee := .builtin .append, args := #[s, x], argTypes := #[t, t] })
  (ht : P.underlying t = some (.slice e)) (hinfo : (P.info? e).map (fun i => (i.zero, i.size, i.bytes)) = some (some z, d.sz, bytes)) (hi : N[i]? = some (row d e v xs)) (HR : ReadsRow Rr d.sz W X m ys) (hl : (xs.length + m) * bytes ≤ 140737488355328) (hm : 0 < m)
  (h : ∀ v1 w1, Mem w0 F w1 (N.set i (row d e v1 (xs ++ ys))) → K (a.put o.dst v1) w1)
  (hq : Drawn0 W0 W := by repeat (first | exact Drawn0.refl _ | apply Drawn0.step)) (hKM : ∀ x cs, Rr x cs → d.M W 0 (fun _ => False) x cs := by exact fun _ _ h => h) (hs : a.eval s = v := by first | rfl | (simp only [List.length_drop, List.length_take, List.length_append, List.length_set, List.length_cons, List.length_nil, Int.reduceToNat]; rfl)) (hx : a.eval x = .slice X m c := by first | rfl | (simp only [List.length_drop, List.length_take, List.length_append, List.length_set, List.length_cons, List.length_nil, Int.reduceToNat]; rfl)) (hz : z.cells.size = d.sz := by rfl) (hs0 : 0 < d.sz := by decide) (hb0 : 0 < bytes := by omega) : Oper.wp P o a W K Q := by
 obtain ⟨S, hA, hS, fin⟩ := (hM.drawn hq).opn hi
 have key := Kd.Q_append_rows_step (P := P) (Q := Q) (Kc := K) (w0 := W) d 0 hw s x t e z bytes ho ht hinfo hz hs0 hb0 v xs ys X m c (fun k => S k ∨ W.heap.size ≤ k) (fun _ => False) hs hx (Kd.Q_mono hA (fun _ h => .inl h)) HR hKM (fun _ h => h.elim) (fun _ h => .inr h) (Below.mono (Below.refl W.heap.size W) (Nat.zero_le _)) (Nat.zero_le _) hl
  (fun v1 w1 h1 _ h3 _ => h v1 w1 (fin w1 _ _ (Kd.Q_bound h1) (fun k hk => ⟨hk.1, hk.2.2.1⟩) ((Chg.of_grown h3).wide (fun k hk => hA.1 k hk)))) hm
 rwa [if_pos hw] at key
/-- append([]T(nil), ys...): a row is new. -/
theorem eAn (s x : Operand) (t e : TypeId) (d : Kd α) (ys : List α) (X : Option Addr) (m c : Nat) {Rr : α → List Value → Prop} {z : Value} {bytes : Nat} (hw : Region.wanted o (yielded ops a.tmps) = true) (hM : Mem w0 F W0 N) (ho : o.op = .call { callee := .builtin .append, args := #[s, x], argTypes := #[t, t] })
  (ht : P.underlying t = some (.slice e)) (hinfo : (P.info? e).map (fun i => (i.zero, i.size, i.bytes)) = some (some z, d.sz, bytes)) (HR : ReadsRow Rr d.sz W X m ys) (hl : m * bytes ≤ 140737488355328)
  (h : ∀ v1 w1, Mem w0 F w1 (N ++ [rowR d e v1 ys]) → K (a.put o.dst v1) w1)
  (hq : Drawn0 W0 W := by repeat (first | exact Drawn0.refl _ | apply Drawn0.step)) (hKM : ∀ x cs, Rr x cs → d.M W 0 (fun _ => False) x cs := by exact fun _ _ h => h) (hs : a.eval s = .slice none 0 0 := by first | rfl | (simp only [List.length_drop, List.length_take, List.length_append, List.length_set, List.length_cons, List.length_nil, Int.reduceToNat]; rfl)) (hx : a.eval x = .slice X m c := by first | rfl | (simp only [List.length_drop, List.length_take, List.length_append, List.length_set, List.length_cons, List.length_nil, Int.reduceToNat]; rfl)) (hz : z.cells.size = d.sz := by rfl) (hs0 : 0 < d.sz := by decide) (hb0 : 0 < bytes := by omega) : Oper.wp P o a W K Q := by
 have hM1 := hM.drawn hq
 have key := Kd.R_append_rows_step (P := P) (Q := Q) (Kc := K) (w0 := W) d 0 hw s x t e z bytes ho ht hinfo hz hs0 hb0 (.slice none 0 0) [] ys X m c (fun k => W.heap.size ≤ k) (fun _ => False) hs hx (Kd.R_nil _ _ _ _ _) HR hKM (fun _ h => h.elim) (fun _ h => h) (Below.mono (Below.refl W.heap.size W) (Nat.zero_le _)) (Nat.zero_le _) (by simpa using hl)
  (fun v1 w1 h1 _ h3 _ => h v1 w1 (hM1.push _ (Kd.R_bound h1) (fun k hk => ⟨hk.1, hk.2.2.1⟩) ((Chg.of_grown h3).wide (fun k hk => by simp [Value.ownBlock] at hk))))
 rwa [if_pos hw] at key
/-- Cells off, off + 1, .. get new values. -/
def putAt (cs : List Value) (off : Nat) (seg : List Value) : List Value := cs.take off ++ seg ++ cs.drop (off + seg.length)
/-- A store into a variable. -/
theorem eS (i : Nat) (p : Tmp) (off : Nat) (seg : List Value) {T g : Nat} {cs : List Value} {t : TypeId} {x : Operand} (hM : Mem w0 F W0 N) (ho : o.op = .store t (.tmp p) x) (hi : N[i]? = some (box T g cs)) (h : ∀ w1, Mem w0 F w1 (N.set i (box T g (putAt cs off seg))) → K a w1)
  (hfit : (decide (off + seg.length ≤ cs.length) && seg.all (·.oneCell')) = true := by rfl) (hp : a.eval (.tmp p) = .pointer (some ⟨g, off, none⟩) := by rfl) (hx : (a.eval x).cells.toList = seg := by first | rfl | (simp only [List.length_drop, List.length_take, List.length_append, List.length_set, List.length_cons, List.length_nil, Int.reduceToNat]; rfl)) (ht : (P.info? t).map (·.size) = some seg.length := by kernel_rfl)
  (hN : o.dst = none := by rfl) (hq : Drawn0 W0 W := by repeat (first | exact Drawn0.refl _ | apply Drawn0.step)) : Oper.wp P o a W K Q := by
 obtain ⟨S, ⟨hA, hg⟩, hS, fin⟩ := (hM.drawn hq).opn hi
 simp only [Bool.and_eq_true, decide_eq_true_eq, List.all_eq_true] at hfit
 have hr := run_store_run (P := P) (w := W) (g := g) (o := off) t (a.eval x) seg hA hx ht (by simpa using hfit.1) (fun q hq => hfit.2 q hq)
 obtain ⟨cur', h3, h4, h5⟩ := setCells_row seg off W cs.toArray hA (by simpa using hfit.1)
 obtain ⟨s1, s2, s3, s4⟩ := setCells_same g seg off W
 have he : cur' = (putAt cs off seg).toArray := by
  apply Array.toList_inj.1
  rw [h5]
  simp [putAt]
 unfold Oper.wp execOp
 simp only [ho, hp, Sem.run_bind, Sem.run_pure, Result.andThen_ok, hr]
 show K (a.put o.dst undef) _
 rw [hN]
 refine h _ (fin _ _ (fun k => k = g) ⟨by rw [h3, he], rfl⟩ (fun k hk => by subst hk; exact ⟨.inl hg, blk_lt h3⟩) ⟨s1, s2, s3, by rw [s4]; exact Nat.le_refl _, fun k _ hn => setCells_far seg _ k (fun e => hn (e ▸ hg))⟩)
/-- A call of a Go function. -/
theorem eC {f : FuncId} {fn : Func} {as_ : Array Operand} {ts : Array TypeId} {R : Ending → World → Prop} (dd : Option Tmp) (hd : o.dst = dd) (args : Array Value) (hop : o.op = .call { callee := .value (.func f), args := as_, argTypes := ts }) (hf : P.funcs[f]? = some fn) (hc : Calls P f args W R) (h : ∀ e w', R e w' → ∃ v, e = .returned v ∧ K (a.put dd v) w')
  (hargs : as_.map a.eval = args := by (try simp only [List.map_toArray, List.map_cons, List.map_nil]); first | done | rfl | (simp only [List.length_drop, List.length_take, List.length_append, List.length_set, List.length_cons, List.length_nil, Nat.zero_add, Int.reduceToNat]; done) | (simp only [List.length_drop, List.length_take, List.length_append, List.length_set, List.length_cons, List.length_nil, Nat.zero_add, Int.reduceToNat]; rfl)) (hname : (fn.name == "runtime.NumGoroutine") = false := by kernel_rfl) (hb : fn.body.isSome = true := by rfl) : Oper.wp P o a W K Q := by
 subst hd
 have he := enters_ hf hname hb args W
 have hrun : (execOp a.eval o).run P W = .ok (.enter f args) W := by
  unfold execOp
  simp [hop, resolve, Deferred.ofValue, invoke, Act.eval, hargs, he]
 unfold Oper.wp
 rw [hrun, Oper.upon_enter]
 refine hc.mono ?_
 intro e w' hR
 obtain ⟨v, rfl, hK⟩ := h e w' hR
 exact hK
/-- xs[k:] of a row of the call's own: a queue. -/
theorem eD (i : Nat) (t e : TypeId) (d : Kd α) (x lo : Operand) (k : Int) (xs : List α) (X : Option Addr) (c : Nat) {z : Value} {bytes : Nat} (hM : Mem w0 F W0 N) (ho : o.op = .slice t x (some lo) none none) (ht : P.underlying t = some (.slice e)) (hinfo : (P.info? e).map (fun i => (i.zero, i.size, i.bytes)) = some (some z, d.sz, bytes)) (hi : N[i]? = some A) (hA : ∀ w S, A.At w S → d.Q e w 0 S (.slice X xs.length c) xs) (h0 : 0 ≤ k) (h1 : k ≤ xs.length)
  (h : ∀ v1, Mem w0 F W (N.set i (row d e v1 (xs.drop k.toNat))) → K (a.put o.dst v1) W) (hx : a.eval x = .slice X xs.length c := by first | rfl | (simp only [List.length_drop, List.length_take, List.length_append, List.length_set, List.length_cons, List.length_nil, Int.reduceToNat]; rfl)) (hl : a.eval lo = .int .i64 k := by rfl)
  (hq : Drawn0 W0 W := by repeat (first | exact Drawn0.refl _ | apply Drawn0.step)) : Oper.wp P o a W K Q := by
 have hel : P.elem t = e := by simp [Program.elem, ht]
 have hu : P.underlying t = some (.slice (P.elem t)) := by rw [hel]; exact ht
 obtain ⟨S, hS, hb, fin⟩ := (hM.drawn hq).opn hi
 obtain ⟨i0, hi0, _, hsz, _⟩ := info_parts hinfo
 have hcut := cut_from (P := P) t e .i64 ht hi0 d.sz hsz X xs.length c k h0 h1 W
 have hd := Kd.Q_drop (k := k.toNat) (hA W S hS) (by omega)
 refine wp_value (by unfold execOp; simp [ho, hx, hl, run_sliceAt_slice (h := hu), hcut]) (h _ (fin W _ S hd (fun q hq => ⟨.inl hq, (hb q hq).2⟩) ⟨rfl, rfl, rfl, Nat.le_refl _, fun _ _ _ => rfl⟩))
/-- xs[k:], only read. -/
theorem eRd (t e : TypeId) (d : Kd α) (x lo : Operand) (k : Int) (xs : List α) (X : Option Addr) (c : Nat) {z : Value} {bytes : Nat} (ho : o.op = .slice t x (some lo) none none) (ht : P.underlying t = some (.slice e)) (hinfo : (P.info? e).map (fun i => (i.zero, i.size, i.bytes)) = some (some z, d.sz, bytes)) (hC : d.C W X xs.length xs) (hc : xs.length ≤ c) (h0 : 0 ≤ k) (h1 : k ≤ xs.length)
  (h : ∀ X' c', d.C W X' (xs.drop k.toNat).length (xs.drop k.toNat) → (xs.drop k.toNat).length ≤ c' → K (a.put o.dst (.slice X' (xs.drop k.toNat).length c')) W) (hx : a.eval x = .slice X xs.length c := by first | rfl | (simp only [List.length_drop, List.length_take, List.length_append, List.length_set, List.length_cons, List.length_nil, Int.reduceToNat]; rfl)) (hl : a.eval lo = .int .i64 k := by rfl) : Oper.wp P o a W K Q := by
 have hel : P.elem t = e := by simp [Program.elem, ht]
 have hu : P.underlying t = some (.slice (P.elem t)) := by rw [hel]; exact ht
 obtain ⟨i0, hi0, _, hsz, _⟩ := info_parts hinfo
 have hcut := cut_from (P := P) t e .i64 ht hi0 d.sz hsz X xs.length c k h0 h1 W
 have hd := Kd.C_drop (m := k.toNat) hC (by omega) hc
 have hl2 : (xs.drop k.toNat).length = xs.length - k.toNat := List.length_drop
 refine wp_value (v := .slice (if c = k.toNat then X else X.map (·.add (k.toNat * d.sz))) (xs.drop k.toNat).length (c - k.toNat)) (by rw [hl2]; unfold execOp; simp [ho, hx, hl, run_sliceAt_slice (h := hu), hcut]) (h _ _ hd (by omega))
/-- xs[:k], only read. -/
theorem eRt (t e : TypeId) (d : Kd α) (x hi_ : Operand) (k : Int) (xs : List α) (X : Option Addr) (c : Nat) {z : Value} {bytes : Nat} (ho : o.op = .slice t x none (some hi_) none) (ht : P.underlying t = some (.slice e)) (hinfo : (P.info? e).map (fun i => (i.zero, i.size, i.bytes)) = some (some z, d.sz, bytes)) (hC : d.C W X xs.length xs) (hc : xs.length ≤ c) (h0 : 0 ≤ k) (h1 : k ≤ xs.length)
  (h : ∀ X' c', d.C W X' (xs.take k.toNat).length (xs.take k.toNat) → (xs.take k.toNat).length ≤ c' → K (a.put o.dst (.slice X' (xs.take k.toNat).length c')) W) (hx : a.eval x = .slice X xs.length c := by first | rfl | (simp only [List.length_drop, List.length_take, List.length_append, List.length_set, List.length_cons, List.length_nil, Int.reduceToNat]; rfl)) (hl : a.eval hi_ = .int .i64 k := by rfl) : Oper.wp P o a W K Q := by
 have hel : P.elem t = e := by simp [Program.elem, ht]
 have hu : P.underlying t = some (.slice (P.elem t)) := by rw [hel]; exact ht
 obtain ⟨i0, hi0, _, hsz, _⟩ := info_parts hinfo
 have hcut := cut_to (P := P) t e .i64 ht hi0 X xs.length c k h0 h1 hc W
 have hl2 : (xs.take k.toNat).length = k.toNat := by rw [List.length_take]; omega
 refine wp_value (v := .slice X (xs.take k.toNat).length c) (by rw [hl2]; unfold execOp; simp [ho, hx, hl, run_sliceAt_slice (h := hu), hcut]) (h _ _ (Kd.C_take hC (by omega)) (by omega))
/-- out[j].f = u of a row of the call's own: z0 is the kind's zero, cells what element j was before. -/
theorem eP (i : Nat) (p : Tmp) (j : Int) (off : Nat) (seg : List Value) (d : Kd α) (e : TypeId) (xs : List α) (x' z0 : α) (cells : List Value) {t : TypeId} {x : Operand} {g g2 n c o' : Nat} (hM : Mem w0 F W0 N) (ho : o.op = .store t (.tmp p) x) (hi : N[i]? = some A) (hA : ∀ w S, A.At w S → d.Q e w 0 S (.slice (some ⟨g, g2, none⟩) n c) xs) (B : SP) (hB : ∀ w S, d.Q e w 0 S (.slice (some ⟨g, g2, none⟩) n c) (xs.set j.toNat x') → A.At W S → B.At w S) (h0 : 0 ≤ j) (h1 : j < n)
  (hopn : ∀ ok cs, d.M W 0 ok (xs.getD j.toNat z0) cs → cs = cells) (hmk : d.M W 0 (fun _ => False) x' (cells.take off ++ seg ++ cells.drop (off + seg.length))) (h : ∀ w1, Mem w0 F w1 (N.set i B) → K a w1)
  (hp : a.eval (.tmp p) = .pointer (some ⟨g, o', none⟩) := by rfl) (hoff : o' = g2 + j.toNat * d.sz + off := by first | rfl | exact congrArg (g2 + ·) (Nat.mul_one _).symm) (hx : (a.eval x).cells.toList = seg := by first | rfl | (simp only [List.length_drop, List.length_take, List.length_append, List.length_set, List.length_cons, List.length_nil, Int.reduceToNat]; rfl)) (ht : (P.info? t).map (·.size) = some seg.length := by kernel_rfl) (hone : seg.all (·.oneCell') = true := by rfl) (hj : off + seg.length ≤ d.sz := by exact Nat.le_of_ble_eq_true rfl) (hN : o.dst = none := by rfl)
  (hq : Drawn0 W0 W := by repeat (first | exact Drawn0.refl _ | apply Drawn0.step)) : Oper.wp P o a W K Q := by
 subst hoff
 obtain ⟨S, hS, hb, fin⟩ := (hM.drawn hq).opn hi
 have hQ := hA W S hS
 obtain ⟨hn, hnc, _⟩ := Kd.Q_reads' hQ
 obtain ⟨cs, hcl, hMc, hcc, _⟩ := Kd.Q_elem hQ z0 j h0 h1
 obtain rfl := hopn _ cs hMc
 obtain ⟨hrow, hg⟩ := Kd.Q_seg hQ j h0 h1 hcl hcc hj hmk (fun _ hk => hk.elim)
 have hgS : S g := hQ.1 g rfl
 have hrun : (Instr.storeAt t (.pointer (some ⟨g, g2 + j.toNat * d.sz + off, none⟩)) (a.eval x)).run P W = .ok () (W.setCells g (g2 + j.toNat * d.sz + off) seg) := by
  obtain ⟨_, inner, ⟨_, hv | ⟨g', of, cap', cur, hv, _, hh, _, _, hcs, _⟩⟩, _⟩ := hQ
  ·have hn0 := hv.1
   omega
  injection hv with ha _ hc'
  injection ha with ha
  injection ha with hg' ho'
  subst hg'; subst hc'; subst ho'
  refine run_store_run t _ seg hh hx ht ?_ (fun q hq => List.all_eq_true.1 hone q hq)
  have h3 : j.toNat * d.sz + d.sz ≤ n * d.sz := by rw [← Nat.succ_mul]; exact Nat.mul_le_mul_right _ (by omega)
  have h4 : n * d.sz ≤ c * d.sz := Nat.mul_le_mul_right _ hnc
  have h5 : (of + c) * d.sz = of * d.sz + c * d.sz := Nat.add_mul _ _ _
  omega
 unfold Oper.wp execOp
 simp only [ho, hp, Sem.run_bind, Sem.run_pure, Result.andThen_ok, hrun]
 show K (a.put o.dst undef) _
 rw [hN]
 refine h _ (fin _ _ S (hB _ S hrow hS) (fun k hk => ⟨.inl hk, Nat.lt_of_lt_of_le (hb k hk).2 hg.size⟩) ((Chg.of_grown hg).wide (fun k hk => by injection hk with hk; exact hk ▸ hgS)))
theorem ePR (i : Nat) (p : Tmp) (j : Int) (off : Nat) (seg : List Value) (d : Kd α) (e : TypeId) (xs : List α) (x' z0 : α) (cells : List Value) {t : TypeId} {x : Operand} {g n c o' : Nat} (hM : Mem w0 F W0 N) (ho : o.op = .store t (.tmp p) x) (hi : N[i]? = some (rowR d e (.slice (some ⟨g, 0, none⟩) n c) xs)) (h0 : 0 ≤ j) (h1 : j < n)
  (hopn : ∀ ok cs, d.M W 0 ok (xs.getD j.toNat z0) cs → cs = cells) (hmk : d.M W 0 (fun _ => False) x' (cells.take off ++ seg ++ cells.drop (off + seg.length))) (h : ∀ w1, Mem w0 F w1 (N.set i (rowR d e (.slice (some ⟨g, 0, none⟩) n c) (xs.set j.toNat x'))) → K a w1)
  (hp : a.eval (.tmp p) = .pointer (some ⟨g, o', none⟩) := by rfl) (hoff : o' = j.toNat * d.sz + off := by first | rfl | exact (Nat.mul_one _).symm) (hx : (a.eval x).cells.toList = seg := by first | rfl | (simp only [List.length_drop, List.length_take, List.length_append, List.length_set, List.length_cons, List.length_nil, Int.reduceToNat]; rfl)) (ht : (P.info? t).map (·.size) = some seg.length := by kernel_rfl) (hone : seg.all (·.oneCell') = true := by rfl) (hj : off + seg.length ≤ d.sz := by exact Nat.le_of_ble_eq_true rfl) (hN : o.dst = none := by rfl) (hs0 : 0 < d.sz := by decide)
  (hq : Drawn0 W0 W := by repeat (first | exact Drawn0.refl _ | apply Drawn0.step)) : Oper.wp P o a W K Q :=
 eP i p j off seg d e xs x' z0 cells (g := g) (g2 := 0) (o' := o') hM ho hi (fun _ _ h => Kd.Q_of_R h) _ (fun w S hQ hR => R_of_Q0 hQ (by have := (Kd.R_reads' hR).2.1; omega) hs0) h0 h1 hopn hmk h hp (by rw [hoff, Nat.zero_add]) hx ht hone hj hN hq
-- P-FORMS: the same in a plain region
theorem pB (d : Tmp) (T : TypeId) (cs : List Value) (hM : Mem w0 F W0 N) (hd : o.dst = some d) (h : ∀ g w1, Mem w0 F w1 (N ++ [box T g cs]) → wpList P ops Q rest (a.put o.dst (.pointer (some ⟨g, 0, none⟩))) w1) (hq : Drawn0 W0 W := by repeat (first | exact Drawn0.refl _ | apply Drawn0.step)) (hrun : (execOp a.eval o).run P W = .ok (.value (.pointer (some ⟨W.heap.size, 0, none⟩))) (W.alloc (.cells cs.toArray T (0, 0))) := by first | (go_simp; done) | (go_simp; rfl)) (hg : Region.wanted o (yielded ops a.tmps) = true := by rfl) : wpList P ops Q (o :: rest) a W :=
 PL (fun K hK hw => eB d T cs hM hd (fun g w1 h0_ => hK _ _ (h g w1 h0_)) hq hrun) hg
theorem pL (d : Tmp) (kd : Kd α) (e : Nat) (xs : List α) (inner : List Value) (hrep : Reps (kd.M W 0 (fun _ => False)) kd.sz xs inner) (hM : Mem w0 F W0 N) (hd : o.dst = some d) (h : ∀ v w1, Mem w0 F w1 (N ++ [rowR kd e v xs]) → wpList P ops Q rest (a.put o.dst v) w1) (hq : Drawn0 W0 W := by repeat (first | exact Drawn0.refl _ | apply Drawn0.step)) (hm : xs.length ≤ 9223372036854775807 := by simp) (hrun : (execOp a.eval o).run P W = .ok (.value (.slice (some ⟨W.heap.size, 0, none⟩) xs.length xs.length)) (W.alloc (.cells inner.toArray e)) := by first | (go_simp; done) | (go_simp; rfl)) (hg : Region.wanted o (yielded ops a.tmps) = true := by rfl) : wpList P ops Q (o :: rest) a W :=
 PL (fun K hK hw => eL d kd e xs inner hrep hM hd (fun v w1 h0_ => hK _ _ (h v w1 h0_)) hq hm hrun) hg
theorem pM (d : Tmp) (kd : Kd α) (e : Nat) (t : TypeId) (x y : Operand) (n : Int) (z : Value) (bytes : Nat) (z0 : α) (hM : Mem w0 F W0 N) (hd : o.dst = some d) (ht : P.underlying t = some (.slice e)) (hinfo : (P.info? e).map (fun i => (i.zero, i.size, i.bytes)) = some (some z, kd.sz, bytes)) (h0 : 0 ≤ n) (hl : n.toNat * bytes ≤ 281474976710656) (h : ∀ v w1, Mem w0 F w1 (N ++ [rowR kd e v (List.replicate n.toNat z0)]) → wpList P ops Q rest (a.put o.dst v) w1) (hzero : kd.M W 0 (fun _ => False) z0 z.cells.toList := by rfl) (hz : z.cells.size = kd.sz := by rfl) (hs0 : 0 < kd.sz := by decide) (hb0 : 0 < bytes := by omega) (hq : Drawn0 W0 W := by repeat (first | exact Drawn0.refl _ | apply Drawn0.step)) (ho : o.op = .makeSlice t x y := by rfl) (hx : a.eval x = .int .i64 n := by first | rfl | (go_simp; done)) (hy : a.eval y = .int .i64 n := by first | rfl | (go_simp; done)) (hg : Region.wanted o (yielded ops a.tmps) = true := by rfl) : wpList P ops Q (o :: rest) a W :=
 PL (fun K hK hw => eM d kd e t x y n z bytes z0 hM hd ht hinfo h0 hl (fun v w1 h0_ => hK _ _ (h v w1 h0_)) hzero hz hs0 hb0 hq ho hx hy) hg
theorem pA (i : Nat) (s x : Operand) (t e : TypeId) (d : Kd α) (v : Value) (xs ys : List α) (X : Option Addr) (m c : Nat) {Rr : α → List Value → Prop} {z : Value} {bytes : Nat} (hM : Mem w0 F W0 N) (ho : o.op = .call { callee := .builtin .append, args := #[s, x], argTypes := #[t, t] }) (ht : P.underlying t = some (.slice e)) (hinfo : (P.info? e).map (fun i => (i.zero, i.size, i.bytes)) = some (some z, d.sz, bytes)) (hi : N[i]? = some (rowR d e v xs)) (HR : ReadsRow Rr d.sz W X m ys) (hl : (xs.length + m) * bytes ≤ 140737488355328) (h : ∀ v1 w1, Mem w0 F w1 (N.set i (rowR d e v1 (xs ++ ys))) → wpList P ops Q rest (a.put o.dst v1) w1) (hq : Drawn0 W0 W := by repeat (first | exact Drawn0.refl _ | apply Drawn0.step)) (hKM : ∀ x cs, Rr x cs → d.M W 0 (fun _ => False) x cs := by exact fun _ _ h => h) (hs : a.eval s = v := by first | rfl | (simp only [List.length_drop, List.length_take, List.length_append, List.length_set, List.length_cons, List.length_nil, Int.reduceToNat]; rfl)) (hx : a.eval x = .slice X m c := by first | rfl | (simp only [List.length_drop, List.length_take, List.length_append, List.length_set, List.length_cons, List.length_nil, Int.reduceToNat]; rfl)) (hz : z.cells.size = d.sz := by rfl) (hs0 : 0 < d.sz := by decide) (hb0 : 0 < bytes := by omega) (hg : Region.wanted o (yielded ops a.tmps) = true := by rfl) : wpList P ops Q (o :: rest) a W :=
 PL (fun K hK hw => eA i s x t e d v xs ys X m c hw hM ho ht hinfo hi HR hl (fun v1 w1 h0_ => hK _ _ (h v1 w1 h0_)) hq hKM hs hx hz hs0 hb0) hg
theorem pAq (i : Nat) (s x : Operand) (t e : TypeId) (d : Kd α) (v : Value) (xs ys : List α) (X : Option Addr) (m c : Nat) {Rr : α → List Value → Prop} {z : Value} {bytes : Nat} (hM : Mem w0 F W0 N) (ho : o.op = .call { callee := .builtin .append, args := #[s, x], argTypes := #[t, t] }) (ht : P.underlying t = some (.slice e)) (hinfo : (P.info? e).map (fun i => (i.zero, i.size, i.bytes)) = some (some z, d.sz, bytes)) (hi : N[i]? = some (row d e v xs)) (HR : ReadsRow Rr d.sz W X m ys) (hl : (xs.length + m) * bytes ≤ 140737488355328) (hm : 0 < m) (h : ∀ v1 w1, Mem w0 F w1 (N.set i (row d e v1 (xs ++ ys))) → wpList P ops Q rest (a.put o.dst v1) w1) (hq : Drawn0 W0 W := by repeat (first | exact Drawn0.refl _ | apply Drawn0.step)) (hKM : ∀ x cs, Rr x cs → d.M W 0 (fun _ => False) x cs := by exact fun _ _ h => h) (hs : a.eval s = v := by first | rfl | (simp only [List.length_drop, List.length_take, List.length_append, List.length_set, List.length_cons, List.length_nil, Int.reduceToNat]; rfl)) (hx : a.eval x = .slice X m c := by first | rfl | (simp only [List.length_drop, List.length_take, List.length_append, List.length_set, List.length_cons, List.length_nil, Int.reduceToNat]; rfl)) (hz : z.cells.size = d.sz := by rfl) (hs0 : 0 < d.sz := by decide) (hb0 : 0 < bytes := by omega) (hg : Region.wanted o (yielded ops a.tmps) = true := by rfl) : wpList P ops Q (o :: rest) a W :=
 PL (fun K hK hw => eAq i s x t e d v xs ys X m c hw hM ho ht hinfo hi HR hl hm (fun v1 w1 h0_ => hK _ _ (h v1 w1 h0_)) hq hKM hs hx hz hs0 hb0) hg
theorem pAn (s x : Operand) (t e : TypeId) (d : Kd α) (ys : List α) (X : Option Addr) (m c : Nat) {Rr : α → List Value → Prop} {z : Value} {bytes : Nat} (hM : Mem w0 F W0 N) (ho : o.op = .call { callee := .builtin .append, args := #[s, x], argTypes := #[t, t] }) (ht : P.underlying t = some (.slice e)) (hinfo : (P.info? e).map (fun i => (i.zero, i.size, i.bytes)) = some (some z, d.sz, bytes)) (HR : ReadsRow Rr d.sz W X m ys) (hl : m * bytes ≤ 140737488355328) (h : ∀ v1 w1, Mem w0 F w1 (N ++ [rowR d e v1 ys]) → wpList P ops Q rest (a.put o.dst v1) w1) (hq : Drawn0 W0 W := by repeat (first | exact Drawn0.refl _ | apply Drawn0.step)) (hKM : ∀ x cs, Rr x cs → d.M W 0 (fun _ => False) x cs := by exact fun _ _ h => h) (hs : a.eval s = .slice none 0 0 := by first | rfl | (simp only [List.length_drop, List.length_take, List.length_append, List.length_set, List.length_cons, List.length_nil, Int.reduceToNat]; rfl)) (hx : a.eval x = .slice X m c := by first | rfl | (simp only [List.length_drop, List.length_take, List.length_append, List.length_set, List.length_cons, List.length_nil, Int.reduceToNat]; rfl)) (hz : z.cells.size = d.sz := by rfl) (hs0 : 0 < d.sz := by decide) (hb0 : 0 < bytes := by omega) (hg : Region.wanted o (yielded ops a.tmps) = true := by rfl) : wpList P ops Q (o :: rest) a W :=
 PL (fun K hK hw => eAn s x t e d ys X m c hw hM ho ht hinfo HR hl (fun v1 w1 h0_ => hK _ _ (h v1 w1 h0_)) hq hKM hs hx hz hs0 hb0) hg
theorem pS (i : Nat) (p : Tmp) (off : Nat) (seg : List Value) {T g : Nat} {cs : List Value} {t : TypeId} {x : Operand} (hM : Mem w0 F W0 N) (ho : o.op = .store t (.tmp p) x) (hi : N[i]? = some (box T g cs)) (h : ∀ w1, Mem w0 F w1 (N.set i (box T g (putAt cs off seg))) → wpList P ops Q rest a w1) (hfit : (decide (off + seg.length ≤ cs.length) && seg.all (·.oneCell')) = true := by rfl) (hp : a.eval (.tmp p) = .pointer (some ⟨g, off, none⟩) := by rfl) (hx : (a.eval x).cells.toList = seg := by first | rfl | (simp only [List.length_drop, List.length_take, List.length_append, List.length_set, List.length_cons, List.length_nil, Int.reduceToNat]; rfl)) (ht : (P.info? t).map (·.size) = some seg.length := by kernel_rfl) (hN : o.dst = none := by rfl) (hq : Drawn0 W0 W := by repeat (first | exact Drawn0.refl _ | apply Drawn0.step)) (hg : Region.wanted o (yielded ops a.tmps) = true := by rfl) : wpList P ops Q (o :: rest) a W :=
 PL (fun K hK hw => eS i p off seg hM ho hi (fun w1 h0_ => hK _ _ (h w1 h0_)) hfit hp hx ht hN hq) hg
theorem pC {f : FuncId} {fn : Func} {as_ : Array Operand} {ts : Array TypeId} {R : Ending → World → Prop} (dd : Option Tmp) (hd : o.dst = dd) (args : Array Value) (hop : o.op = .call { callee := .value (.func f), args := as_, argTypes := ts }) (hf : P.funcs[f]? = some fn) (hc : Calls P f args W R) (h : ∀ e w', R e w' → ∃ v, e = .returned v ∧ wpList P ops Q rest (a.put dd v) w') (hargs : as_.map a.eval = args := by (try simp only [List.map_toArray, List.map_cons, List.map_nil]); first | done | rfl | (simp only [List.length_drop, List.length_take, List.length_append, List.length_set, List.length_cons, List.length_nil, Nat.zero_add, Int.reduceToNat]; done) | (simp only [List.length_drop, List.length_take, List.length_append, List.length_set, List.length_cons, List.length_nil, Nat.zero_add, Int.reduceToNat]; rfl)) (hname : (fn.name == "runtime.NumGoroutine") = false := by kernel_rfl) (hb : fn.body.isSome = true := by rfl) (hg : Region.wanted o (yielded ops a.tmps) = true := by rfl) : wpList P ops Q (o :: rest) a W :=
 PL (fun K hK hw => eC dd hd args hop hf hc (fun e w' hR => (h e w' hR).imp (fun v hv => ⟨hv.1, hK _ _ hv.2⟩)) hargs hname hb) hg
theorem pD (i : Nat) (t e : TypeId) (d : Kd α) (x lo : Operand) (k : Int) (xs : List α) (X : Option Addr) (c : Nat) {z : Value} {bytes : Nat} (hM : Mem w0 F W0 N) (ho : o.op = .slice t x (some lo) none none) (ht : P.underlying t = some (.slice e)) (hinfo : (P.info? e).map (fun i => (i.zero, i.size, i.bytes)) = some (some z, d.sz, bytes)) (hi : N[i]? = some A) (hA : ∀ w S, A.At w S → d.Q e w 0 S (.slice X xs.length c) xs) (h0 : 0 ≤ k) (h1 : k ≤ xs.length) (h : ∀ v1, Mem w0 F W (N.set i (row d e v1 (xs.drop k.toNat))) → wpList P ops Q rest (a.put o.dst v1) W) (hx : a.eval x = .slice X xs.length c := by first | rfl | (simp only [List.length_drop, List.length_take, List.length_append, List.length_set, List.length_cons, List.length_nil, Int.reduceToNat]; rfl)) (hl : a.eval lo = .int .i64 k := by rfl) (hq : Drawn0 W0 W := by repeat (first | exact Drawn0.refl _ | apply Drawn0.step)) (hg : Region.wanted o (yielded ops a.tmps) = true := by rfl) : wpList P ops Q (o :: rest) a W :=
 PL (fun K hK hw => eD i t e d x lo k xs X c hM ho ht hinfo hi hA h0 h1 (fun v1 h0_ => hK _ _ (h v1 h0_)) hx hl hq) hg
theorem pRd (t e : TypeId) (d : Kd α) (x lo : Operand) (k : Int) (xs : List α) (X : Option Addr) (c : Nat) {z : Value} {bytes : Nat} (ho : o.op = .slice t x (some lo) none none) (ht : P.underlying t = some (.slice e)) (hinfo : (P.info? e).map (fun i => (i.zero, i.size, i.bytes)) = some (some z, d.sz, bytes)) (hC : d.C W X xs.length xs) (hc : xs.length ≤ c) (h0 : 0 ≤ k) (h1 : k ≤ xs.length) (h : ∀ X' c', d.C W X' (xs.drop k.toNat).length (xs.drop k.toNat) → (xs.drop k.toNat).length ≤ c' → wpList P ops Q rest (a.put o.dst (.slice X' (xs.drop k.toNat).length c')) W) (hx : a.eval x = .slice X xs.length c := by first | rfl | (simp only [List.length_drop, List.length_take, List.length_append, List.length_set, List.length_cons, List.length_nil, Int.reduceToNat]; rfl)) (hl : a.eval lo = .int .i64 k := by rfl) (hg : Region.wanted o (yielded ops a.tmps) = true := by rfl) : wpList P ops Q (o :: rest) a W :=
 PL (fun K hK hw => eRd t e d x lo k xs X c ho ht hinfo hC hc h0 h1 (fun X' c' h0_ h1_ => hK _ _ (h X' c' h0_ h1_)) hx hl) hg
theorem pRt (t e : TypeId) (d : Kd α) (x hi_ : Operand) (k : Int) (xs : List α) (X : Option Addr) (c : Nat) {z : Value} {bytes : Nat} (ho : o.op = .slice t x none (some hi_) none) (ht : P.underlying t = some (.slice e)) (hinfo : (P.info? e).map (fun i => (i.zero, i.size, i.bytes)) = some (some z, d.sz, bytes)) (hC : d.C W X xs.length xs) (hc : xs.length ≤ c) (h0 : 0 ≤ k) (h1 : k ≤ xs.length) (h : ∀ X' c', d.C W X' (xs.take k.toNat).length (xs.take k.toNat) → (xs.take k.toNat).length ≤ c' → wpList P ops Q rest (a.put o.dst (.slice X' (xs.take k.toNat).length c')) W) (hx : a.eval x = .slice X xs.length c := by first | rfl | (simp only [List.length_drop, List.length_take, List.length_append, List.length_set, List.length_cons, List.length_nil, Int.reduceToNat]; rfl)) (hl : a.eval hi_ = .int .i64 k := by rfl) (hg : Region.wanted o (yielded ops a.tmps) = true := by rfl) : wpList P ops Q (o :: rest) a W :=
 PL (fun K hK hw => eRt t e d x hi_ k xs X c ho ht hinfo hC hc h0 h1 (fun X' c' h0_ h1_ => hK _ _ (h X' c' h0_ h1_)) hx hl) hg
theorem pPR (i : Nat) (p : Tmp) (j : Int) (off : Nat) (seg : List Value) (d : Kd α) (e : TypeId) (xs : List α) (x' z0 : α) (cells : List Value) {t : TypeId} {x : Operand} {g n c o' : Nat} (hM : Mem w0 F W0 N) (ho : o.op = .store t (.tmp p) x) (hi : N[i]? = some (rowR d e (.slice (some ⟨g, 0, none⟩) n c) xs)) (h0 : 0 ≤ j) (h1 : j < n) (hopn : ∀ ok cs, d.M W 0 ok (xs.getD j.toNat z0) cs → cs = cells) (hmk : d.M W 0 (fun _ => False) x' (cells.take off ++ seg ++ cells.drop (off + seg.length))) (h : ∀ w1, Mem w0 F w1 (N.set i (rowR d e (.slice (some ⟨g, 0, none⟩) n c) (xs.set j.toNat x'))) → wpList P ops Q rest a w1) (hp : a.eval (.tmp p) = .pointer (some ⟨g, o', none⟩) := by rfl) (hoff : o' = j.toNat * d.sz + off := by first | rfl | exact (Nat.mul_one _).symm) (hx : (a.eval x).cells.toList = seg := by first | rfl | (simp only [List.length_drop, List.length_take, List.length_append, List.length_set, List.length_cons, List.length_nil, Int.reduceToNat]; rfl)) (ht : (P.info? t).map (·.size) = some seg.length := by kernel_rfl) (hone : seg.all (·.oneCell') = true := by rfl) (hj : off + seg.length ≤ d.sz := by exact Nat.le_of_ble_eq_true rfl) (hN : o.dst = none := by rfl) (hs0 : 0 < d.sz := by decide) (hq : Drawn0 W0 W := by repeat (first | exact Drawn0.refl _ | apply Drawn0.step)) (hg : Region.wanted o (yielded ops a.tmps) = true := by rfl) : wpList P ops Q (o :: rest) a W :=
 PL (fun K hK hw => ePR i p j off seg d e xs x' z0 cells hM ho hi h0 h1 hopn hmk (fun w1 h0_ => hK _ _ (h w1 h0_)) hp hoff hx ht hone hj hN hs0 hq) hg
-- the pure function's own steps
/-- The next operation calls this function, writes this variable, stores by this address. -/
theorem gC {as_ : Array Operand} {ts : Array TypeId} (f : FuncId) (_ho : o.op = .call { callee := .value (.func f), args := as_, argTypes := ts }) (h : wpList P ops Q (o :: rest) a W) : wpList P ops Q (o :: rest) a W := h
theorem gN (N : Tmp) (_ho : o.dst = some N) (h : wpList P ops Q (o :: rest) a W) : wpList P ops Q (o :: rest) a W := h
theorem gS {t : TypeId} {x : Operand} (p : Tmp) (_ho : o.op = .store t (.tmp p) x) (h : wpList P ops Q (o :: rest) a W) : wpList P ops Q (o :: rest) a W := h
theorem gate_sl {t : TypeId} {x : Operand} {lo hi mx : Option Operand} (_ho : o.op = .slice t x lo hi mx) (h : wpList P ops Q (o :: rest) a W) : wpList P ops Q (o :: rest) a W := h
/-- What is held, as_ one plain list. -/
theorem nzM {M : List SP} {w : World} (h : Mem w0 F w N) (hN : N = M := by (try dsimp only [pk, List.getElem?_cons_zero, List.getElem?_cons_succ, List.nil_append, List.cons_append, List.set_cons_zero, List.set_cons_succ, putAt, List.take_zero, List.take_succ_cons, List.drop_succ_cons, List.drop_nil, List.drop_zero, List.length_cons, List.length_nil, Nat.reduceAdd]); (try rfl)) : Mem w0 F w M := hN ▸ h
/-- What is held, some orders having been drawn since. -/
theorem MD (h : Mem w0 F W0 N) (hq : Drawn0 W0 W := by repeat (first | exact Drawn0.refl _ | apply Drawn0.step)) : Mem w0 F W N := h.drawn hq
theorem GD {β : Type} {p : Prop} {i : Decidable p} {x : Option β} {r : β} (h : @ite (Option β) p i x none = some r) : p ∧ x = some r := by
 by_cases c : p
 ·rw [if_pos c] at h; exact ⟨c, h⟩
 ·rw [if_neg c] at h; cases h
theorem GN {β : Type} {p : Prop} {i : Decidable p} {x : Option β} {r : β} (h : @ite (Option β) p i none x = some r) : ¬ p ∧ x = some r := by
 by_cases c : p
 ·rw [if_pos c] at h; cases h
 ·rw [if_neg c] at h; exact ⟨c, h⟩
theorem IT {β : Type} {p : Prop} {i : Decidable p} {x y : Option β} {r : β} (h : @ite (Option β) p i x y = some r) : (p ∧ x = some r) ∨ (¬ p ∧ y = some r) := by
 by_cases c : p
 ·rw [if_pos c] at h; exact .inl ⟨c, h⟩
 ·rw [if_neg c] at h; exact .inr ⟨c, h⟩
theorem IB {β : Type} {b : Bool} {i : Decidable (b = true)} {x y : Option β} {r : β} (h : @ite (Option β) (b = true) i x y = some r) : (b = true ∧ x = some r) ∨ (b = false ∧ y = some r) := by
 cases b
 ·rw [if_neg Bool.false_ne_true] at h; exact .inr ⟨rfl, h⟩
 ·rw [if_pos rfl] at h; exact .inl ⟨rfl, h⟩
theorem BN {β γ : Type} {x : Option β} {g : β → Option γ} {r : γ} (h : x.bind g = some r) : ∃ t, Aside0 (x = some t) ∧ g t = some r := by
 obtain ⟨t, h1, h2⟩ := Option.bind_eq_some_iff.mp h
 exact ⟨t, ⟨h1⟩, h2⟩
theorem BE {β : Type} [BEq β] [LawfulBEq β] {x y : β} (h : x = y) : (x == y) = true ∧ (x != y) = false := ⟨beq_iff_eq.mpr h, bne_eq_false_iff_eq.mpr h⟩
theorem BF {β : Type} [BEq β] [LawfulBEq β] {x y : β} (h : ¬ x = y) : (x == y) = false ∧ (x != y) = true := ⟨beq_eq_false_iff_ne.mpr h, bne_iff_ne.mpr h⟩
theorem BLt {β γ : Type} {e : β} {g : β → Option γ} {r : γ} (h : (some e).bind g = some r) : ∃ y, y = e ∧ g y = some r := ⟨e, rfl, h⟩
end
end Go.Proofs.Ytlokjgngjgbpmaa.Mm

namespace Go.Proofs.Ytlokjgngjgbpmaa.Mm
open Go.RowKit Go.Proofs.YtlokjgngjgbpmaaW.PrintWords Go.Proofs.YtlokjgngjgbpmaaW.PrintLast Go.Proofs.YtlokjgngjgbpmaaW.PrintMore Go.Proofs.Ytlokjgngjgbpmaa.Sh
set_option linter.unusedVariables false
def vs (c : Bool) (x y : Value) : Value := match c with
 | true => x
 | false => y
section
variable {P : Program} {ops : Array Oper} {o og : Oper} {a a0 : Act} {Q : Exit → Act → World → Prop} {K : Act → World → Prop} {w0 w w' W W0 : World} {F N L R M : List SP} {A B : SP} {c : Bool} {b : Nat → Bool} {i j g : Nat} {t : Tmp} {u v v0 : Value} {LL LL' : List (Nat × Tmp × Value)}
theorem Mem.sT (h : Mem w0 F w N) (q : Nat) (hi : N[q]? = some (sel c A B)) (hc : c = true) : Mem w0 F w (N.set q A) := by
 subst hc
 exact h.tell hi A (fun _ h => h)
theorem Mem.sF (h : Mem w0 F w N) (q : Nat) (hi : N[q]? = some (sel c A B)) (hc : c = false) : Mem w0 F w (N.set q B) := by
 subst hc
 exact h.tell hi B (fun _ h => h)
theorem Mem.iF (h : Mem w0 F w N) (q : Nat) (hi : N[q]? = some A) (hc : c = false) : Mem w0 F w (N.set q (sel c B A)) := by
 subst hc
 exact h.tell hi (sel false B A) (fun _ h => h)
theorem Mem.iT (h : Mem w0 F w N) (q : Nat) (hi : N[q]? = some A) (hc : c = true) : Mem w0 F w (N.set q (sel c A B)) := by
 subst hc
 exact h.tell hi (sel true A B) (fun _ h => h)
theorem Mem.em (h : Mem w0 F w N) : Mem w0 F w (N ++ [emp]) := h.push emp (S' := fun _ => False) trivial (fun _ h => h.elim) ⟨rfl, rfl, rfl, Nat.le_refl _, fun _ _ _ => rfl⟩
theorem evc : a.eval (.const v) = v := rfl
/-- A slot of a listed operation; of one that no operation fills; the next entry. -/
theorem PON (ha : a = putSel a0 b LL) (k : Nat) (hb : b j = true) (hL : LL[k]? = some (j, t, v) := by rfl) (hd : ((LL.drop (k + 1)).all fun x => !(x.2.1 == t)) = true := by rfl) (hs : Nat.ble (t + 1) a0.tmps.size = true := by rfl) : a.tmps[t]? = some v := by
 subst ha
 exact putSel_on k hL hd hb hs
theorem POF (ha : a = putSel a0 b LL) (t : Tmp) (h0 : a0.tmps[t]? = some v := by rfl) (hL : (LL.all fun e => !(e.2.1 == t)) = true := by rfl) : a.tmps[t]? = some v := by
 subst ha
 exact (putSel_off hL).trans h0
theorem POJ (ha : a = putSel a0 b LL) (t : Tmp) (hj : b j = false) (h0 : a0.tmps[t]? = some v := by rfl) (hL : (LL.all fun e => !(e.2.1 == t) || e.1 == j) = true := by rfl) : a.tmps[t]? = some v := by
 subst ha
 exact (putSel_not hj hL).trans h0
/-- An entry that isn't listed may say anything. -/
theorem PCH_ {j : Nat} (hj : b j = false) : ∀ (LL : List (Nat × Tmp × Value)) (a0 : Act) (k : Nat) {t : Tmp} {v0 v : Value}, LL[k]? = some (j, t, v0) → putSel a0 b LL = putSel a0 b (LL.set k (j, t, v))
 | [], _, _, _, _, _, h => by cases h
 | e :: r, a0, 0, t, v0, v, h => by
  obtain rfl : e = (j, t, v0) := by simpa using h
  simp only [List.set_cons_zero]
  unfold putSel
  rw [if_neg (by rw [hj]; decide), if_neg (by rw [hj]; decide)]
 | e :: r, a0, k + 1, t, v0, v, h => by
  simp only [List.set_cons_succ]
  unfold putSel
  exact PCH_ hj r _ k (by simpa using h)
theorem PCH (ha : Aside0 (a = putSel a0 b LL)) (k : Nat) (hj : b j = false) (hL : LL[k]? = some (j, t, v0) := by rfl) : Aside0 (a = putSel a0 b (LL.set k (j, t, v))) := ⟨ha.out.trans (PCH_ hj LL a0 k hL)⟩
theorem PUT (ha : Aside0 (a = putSel a0 b LL)) (k : Nat) (hb : b i = false) (hL : LL[k]? = some (i, t, v0) := by rfl) (hL' : LL.set k (i, t, v) = LL' := by rfl) (hd : ((LL.take k ++ LL.drop (k + 1)).all fun e => !(e.1 == i) && !(e.2.1 == t)) = true := by rfl) : a.put (some t) v = putSel a0 (up b i) LL' := by
 obtain ⟨rfl⟩ := ha
 exact putSel_upk k hb hL hL' hd
theorem PUS (ha : Aside0 (a = putSel a0 b LL)) (h : (LL.all fun e => !(e.1 == i)) = true := by rfl) : a = putSel a0 (up b i) LL := by
 obtain ⟨rfl⟩ := ha
 exact (putSel_same h).symm
/-- One step of the relation, told apart; slots read out of it. -/
theorem SY {i : Nat} {oi : Oper} {B O rs : List Nat} {Y : (Nat → Bool) → World → Prop} (h : ∀ b a w, Aside0 (a = putSel a0 b LL) → Y b w → b i = false → (∀ j, (O.contains j && (B.getD i 0).testBit j) = true → b j = true) → (∀ d, (O.contains d && (B.getD d 0).testBit i) = true → b d = false) → ∀ K : Act → World → Prop, Shut (∀ a' w', (a' = putSel a0 (up b i) LL ∧ Y (up b i) w') → K a' w') → if Region.wanted oi (yielded ops a.tmps) = true then Oper.wp P oi a w K Q else K (a.put oi.dst undef) w)
  (hs : ∀ j ∈ rs, StepAt P ops Q B O (fun b a' w' => a' = putSel a0 b LL ∧ Y b w') j) (ho : ops[i]? = some oi := by rfl) : ∀ j ∈ i :: rs, StepAt P ops Q B O (fun b a' w' => a' = putSel a0 b LL ∧ Y b w') j :=
 steps_cons (fun b a w hI hb hon hoff => ⟨oi, ho, fun K hK => h b a w (Aside0.mk hI.1) hI.2 hb hon hoff K hK⟩) hs
theorem SZ {i : Nat} {oi : Oper} {B O rs : List Nat} {I : (Nat → Bool) → Act → World → Prop} (h : ∀ b a w, I b a w → b i = false → (∀ j, (O.contains j && (B.getD i 0).testBit j) = true → b j = true) → (∀ d, (O.contains d && (B.getD d 0).testBit i) = true → b d = false) → ∀ K : Act → World → Prop, Shut (∀ a' w', I (up b i) a' w' → K a' w') → if Region.wanted oi (yielded ops a.tmps) = true then Oper.wp P oi a w K Q else K (a.put oi.dst undef) w)
  (hs : ∀ j ∈ rs, StepAt P ops Q B O I j) (ho : ops[i]? = some oi := by rfl) : ∀ j ∈ i :: rs, StepAt P ops Q B O I j :=
 steps_cons (fun b a w hI hb hon hoff => ⟨oi, ho, fun K hK => h b a w hI hb hon hoff K hK⟩) hs
theorem PE {B O : List Nat} (ha : Aside0 (a = putSel a0 b LL)) (k : Nat) (hon : ∀ j, (O.contains j && (B.getD i 0).testBit j) = true → b j = true) (hL : LL[k]? = some (j, t, v) := by rfl) (hm : (O.contains j && (B.getD i 0).testBit j) = true := by kernel_rfl) (hd : ((LL.drop (k + 1)).all fun x => !(x.2.1 == t)) = true := by rfl) (hs : Nat.ble (t + 1) a0.tmps.size = true := by rfl) : a.tmps[t]? = some v := PON ha.out k (hon j hm) hL hd hs
theorem PG (ha : Aside0 (a = putSel a0 b LL)) (t : Tmp) (h0 : a0.tmps[t]? = some v := by rfl) (hL : (LL.all fun e => !(e.2.1 == t)) = true := by rfl) : a.tmps[t]? = some v := POF ha.out t h0 hL
theorem PH (ha : Aside0 (a = putSel a0 b LL)) (t : Tmp) (hj : b j = false) (h0 : a0.tmps[t]? = some v := by rfl) (hL : (LL.all fun e => !(e.2.1 == t) || e.1 == j) = true := by rfl) : a.tmps[t]? = some v := POJ ha.out t hj h0 hL
/-- A step that yields a value, the world unchanged. -/
theorem VL (v : Value) (h : K (a.put o.dst v) W) (hrun : (execOp a.eval o).run P W = .ok (.value v) W := by first | (go_simp; done) | (go_simp; rfl) | (go_simp; simp only [i64_w]; done) | (go_simp; simp only [i64_w]; rfl) | (go_simp; simp only [bne, Bool.not_not])) (hw : Region.wanted o (yielded ops a.tmps) = true := by rfl) : if Region.wanted o (yielded ops a.tmps) = true then Oper.wp P o a W K Q else K (a.put o.dst undef) W := ST (wp_value hrun h) hw
/-- A guarded step that isn't carried out. -/
theorem VN (hw : Region.wanted o (yielded ops a.tmps) = false) (h : K (a.put o.dst undef) W) : if Region.wanted o (yielded ops a.tmps) = true then Oper.wp P o a W K Q else K (a.put o.dst undef) W := by
 rw [if_neg (by rw [hw]; decide)]
 exact h
/-- What is listed, of the region's operations alone. -/
def inN (n : Nat) (b : Nat → Bool) : Nat → Bool := fun j => decide (n ≤ j) || b j
theorem inN_lt {n : Nat} (h : j < n) : inN n b j = b j := by simp [inN, Nat.not_le.2 h]
theorem inN_up {n : Nat} : inN n (up b i) = up (inN n b) i := by
 funext j
 unfold inN up
 by_cases h : j = i
 ·simp [h]
 ·simp [h]
theorem inN_all {n : Nat} (h : ∀ j, (List.range n).contains j = true → b j = true) : inN n b = fun _ => true := by
 funext j
 by_cases hj : j < n
 ·rw [inN_lt hj]
  exact h j (by simpa using hj)
 ·simp [inN, Nat.not_lt.1 hj]
theorem PS0' {n : Nat} (hn : (LL.all fun e => decide (e.1 < n)) = true) (a : Act) : a = putSel a (inN n fun _ => false) LL := by
 induction LL generalizing a with
 | nil => rfl
 | cons e r ih =>
  rw [List.all_cons, Bool.and_eq_true, decide_eq_true_eq] at hn
  unfold putSel
  rw [inN_lt hn.1, if_neg (by decide)]
  exact ih hn.2 a
/-- The region, all its operations in one relation. -/
theorem RGN {id : Nat} {T : Bool × List (List Nat × List Nat)} {B : List Nat} (n : Nat) (O : List Nat) (I : Act → (Nat → Bool) → Act → World → Prop) (hT : rtab .any ops = T) (hw : waitsOk T.2 B = true) (h0 : I a (inN n fun _ => false) a w.drew) (hs : ∀ i ∈ O, StepAt P ops Q B O (I a) i)
  (hend : ∀ a' w, I a (fun _ => true) a' w → Q .normal a' w) (hn : ops.size = n := by rfl) (hO : O = List.range n := by rfl) (hk : baseOk T.2 (List.range n) = true := by kernel_rfl) (hl : (lof T.2.length (List.range n) (fun _ => false) == List.replicate n false && (List.range n).length == n) = true := by kernel_rfl) (hm : P.follows .mixedOrders = true := by kernel_rfl) : (Code.region id ops true).wp P Q a w := by
 subst hO
 refine start_ (S := fun _ => True) (ds := []) (Array.replicate n false) hm hn rfl trivial (fun _ => inv_at (List.range n) (fun a0 b => I a0 (inN n b)) hT hw hk (by simpa using hl) h0 ?_ ?_)
 ·intro i hi b a' w' hI hb hon hoff
  have hi' : i < n := List.mem_range.1 hi
  obtain ⟨oi, ho, hK⟩ := hs i hi (inN n b) a' w' hI (by rw [inN_lt hi']; exact hb) (fun j hj => by
   have hl : j < n := by rw [Bool.and_eq_true] at hj; simpa using hj.1
   rw [inN_lt hl]; exact hon j hj) (fun d hd => by
   have hl : d < n := by rw [Bool.and_eq_true] at hd; simpa using hd.1
   rw [inN_lt hl]; exact hoff d hd)
  refine ⟨oi, ho, fun K hKK => hK K ?_⟩
  have hKK : Shut (∀ a' w', I a (inN n (up b i)) a' w' → K a' w') := hKK
  rw [inN_up] at hKK
  exact hKK
 ·intro b a' w' hall hI
  rw [inN_all hall] at hI
  exact hend a' w' hI
theorem Mem.ems (h : Mem w0 F w N) : ∀ n, Mem w0 F w (N ++ List.replicate n emp)
 | 0 => by simpa using h
 | n + 1 => by
  rw [List.replicate_succ', ← List.append_assoc]
  exact (h.ems n).em
end
end Go.Proofs.Ytlokjgngjgbpmaa.Mm

namespace Go.Proofs.Ytlokjgngjgbpmaa.Mm
open Go.RowKit Go.Proofs.YtlokjgngjgbpmaaW.PrintWords Go.Proofs.YtlokjgngjgbpmaaW.PrintLast Go.Proofs.YtlokjgngjgbpmaaW.PrintMore Go.Proofs.Ytlokjgngjgbpmaa.Sh
set_option linter.unusedVariables false
section
variable {w0 w : World} {F N : List SP}
/-- The same world without its blocks: below it nothing is asked. -/
def bare (w : World) : World := { w with heap := #[] }
theorem bare_below (w : World) : Below (bare w).heap.size (bare w) w := ⟨rfl, rfl, rfl, Nat.zero_le _, fun k hk => absurd hk (Nat.not_lt_zero k)⟩
theorem chg_of {w' : World} {P0 : Nat → Prop} (hb : Below (bare w).heap.size (bare w) w') (hk : Kept w w' P0) : Chg P0 w w' := ⟨hb.os, hb.tape, hb.output, hk.1, fun k hk' hn => hk.2 k hk' hn⟩
/-- A row: what a hand-made contract asks, and what is held behind it. -/
theorem Mem.man1_ {A : SP} (h : Mem w0 F w N) (i : Nat) (hi : N[i]? = some A) :
  ∃ P0 : Nat → Prop, A.At w P0 ∧ (∀ (j t g : Nat) (cs : List Value), N[j]? = some (box t g cs) → i ≠ j → ∀ k, P0 k → k ≠ g) ∧ ∀ (w' : World) (B : SP), B.At w' (fun k => (P0 k ∨ w.heap.size ≤ k) ∧ k < w'.heap.size) → Chg P0 w w' → Mem w0 F w' (N.set i B) := by
 obtain ⟨hb, S, h1, h2, h3⟩ := h
 have hil : i < N.length := (List.getElem?_eq_some_iff.1 hi).1
 have hA : A.At w (S (F.length + i)) := h1 _ A (by rw [List.getElem?_append_right (by omega), Nat.add_sub_cancel_left]; exact hi)
 refine ⟨S (F.length + i), hA, fun j t g cs hj hij k hk e => hij (by
  have hB : (box t g cs).At w (S (F.length + j)) := h1 _ _ (by rw [List.getElem?_append_right (by omega), Nat.add_sub_cancel_left]; exact hj)
  have := h3 _ _ k hk (e ▸ hB.2); omega), fun w' B hB' hc => ?_⟩
 refine ⟨hc.below hb (fun k hk => (h2 _ k hk).1), fun q => if q = F.length + i then (fun k => (S (F.length + i) k ∨ w.heap.size ≤ k) ∧ k < w'.heap.size) else S q, ?_, ?_, ?_⟩
 ·intro q D hD
  have e : F ++ N.set i B = (F ++ N).set (F.length + i) B := by rw [List.set_append_right _ _ (by omega), Nat.add_sub_cancel_left]
  rw [e, List.getElem?_set] at hD
  dsimp only
  by_cases hq : q = F.length + i
  ·rw [if_pos hq]
   rw [if_pos hq.symm] at hD
   split at hD
   ·rw [← Option.some.inj hD]; exact hB'
   ·cases hD
  ·rw [if_neg hq]
   rw [if_neg (fun e => hq e.symm)] at hD
   exact D.loc (h1 q D hD) (fun k hk => hc.block k (h2 _ k hk).2 (fun hk' => hq (h3 _ _ k hk hk')))
 ·intro q k hk
  (try dsimp only at hk)
  split at hk
  ·exact ⟨hk.1.elim (fun e => (h2 _ k e).1) (fun e => Nat.le_trans hb.size e), hk.2⟩
  ·exact ⟨(h2 _ k hk).1, Nat.lt_of_lt_of_le (h2 _ k hk).2 hc.size⟩
 ·intro q p k hq hp
  (try dsimp only at hq hp)
  split at hq <;> split at hp
  ·omega
  ·rcases hq.1 with e | e
   ·have := h3 _ _ k e hp; omega
   ·have := (h2 _ k hp).2; omega
  ·rcases hp.1 with e | e
   ·have := h3 _ _ k e hq; omega
   ·have := (h2 _ k hq).2; omega
  ·exact h3 _ _ k hq hp
/-- A row and a variable beside it. -/
theorem Mem.man_ {A : SP} (h : Mem w0 F w N) (i j : Nat) {t g : Nat} {cs : List Value} (hi : N[i]? = some A) (hj : N[j]? = some (box t g cs)) (hij : i ≠ j) :
  ∃ P0 : Nat → Prop, A.At w P0 ∧ (∀ k, P0 k → k ≠ g) ∧ ∀ (w' : World) (B : SP), B.At w' (fun k => (P0 k ∨ w.heap.size ≤ k) ∧ k < w'.heap.size) → Chg P0 w w' → Mem w0 F w' (N.set i B) := by
 obtain ⟨P0, a, b, c⟩ := h.man1_ i hi
 exact ⟨P0, a, b j t g cs hj hij, c⟩
theorem Mem.man1R {α : Type} {d : Kd α} {e : Nat} {v : Value} {xs : List α} (h : Mem w0 F w N) (i : Nat) (hi : N[i]? = some (rowR d e v xs)) :
  ∃ P0 : Nat → Prop, d.R e w (bare w).heap.size P0 v xs ∧ ∀ (w' : World) (v' : Value) (ys : List α), d.R e w' (bare w).heap.size (fun k => P0 k ∨ w.heap.size ≤ k) v' ys → Below (bare w).heap.size (bare w) w' → Kept w w' P0 → Mem w0 F w' (N.set i (rowR d e v' ys)) := by
 obtain ⟨P0, h1, _, h3⟩ := h.man1_ i hi
 exact ⟨P0, h1, fun w' v' ys hq hb hk => h3 w' (rowR d e v' ys) (Kd.R_mono (Kd.R_bound hq) (fun k hk => ⟨hk.1, hk.2.2.1⟩)) (chg_of hb hk)⟩
theorem Mem.man {α : Type} {d : Kd α} {e : Nat} {v : Value} {xs : List α} (h : Mem w0 F w N) (i j : Nat) {t g : Nat} {cs : List Value} (hi : N[i]? = some (row d e v xs)) (hj : N[j]? = some (box t g cs)) (hij : i ≠ j := by decide) :
  ∃ P0 : Nat → Prop, d.Q e w (bare w).heap.size P0 v xs ∧ (∀ k, P0 k → k ≠ g) ∧ ∀ (w' : World) (v' : Value) (ys : List α), d.Q e w' (bare w).heap.size (fun k => P0 k ∨ w.heap.size ≤ k) v' ys → Below (bare w).heap.size (bare w) w' → Kept w w' P0 → Mem w0 F w' (N.set i (row d e v' ys)) := by
 obtain ⟨P0, h1, h2, h3⟩ := h.man_ i j hi hj hij
 exact ⟨P0, h1, h2, fun w' v' ys hq hb hk => h3 w' (row d e v' ys) (Kd.Q_mono (Kd.Q_bound hq) (fun k hk => ⟨hk.1, hk.2.2.1⟩)) (chg_of hb hk)⟩
end
end Go.Proofs.Ytlokjgngjgbpmaa.Mm

namespace Go.Proofs.Ytlokjgngjgbpmaa.Man
open Go.RowKit Go.Proofs.YtlokjgngjgbpmaaW.PrintWords Go.Proofs.YtlokjgngjgbpmaaW.PrintLast Go.Proofs.YtlokjgngjgbpmaaW.PrintMore
set_option linter.unusedVariables false
theorem wsucc_ {i : Nat} (h : i < 9223372036854775807) : wrap64 ((i : Int) + 1) = ((i + 1 : Nat) : Int) := by
 unfold wrap64
 omega
section
variable {P : Program}
theorem cycle_len (zc : Array Value) (n : Nat) (h : 0 < n) : (Builtin.zeroCells zc n).toList.length = n * zc.size := by
 simp [Builtin.zeroCells]
/-- 'clear(s)' of what lies behind a row of the call's own, in its spare room: the row stays. -/
theorem R_clear_run {α : Type} (d : Kd α) {W : World} (base : Nat) (t ty e : TypeId) (z : Value) (ht : P.underlying t = some (.slice e)) (hz : ∀ w, (zeroValue e).run P w = .ok z w) (hzs : z.cells.size = d.sz) (hz1 : ∀ u ∈ z.cells.toList, u.oneCell' = true)
  {g n c m : Nat} {xs : List α} {ok : Nat → Prop} (HO : d.R e W base ok (.slice (some ⟨g, 0, none⟩) n c) xs) (hm : n + m ≤ c) (hm0 : 0 < m) (c2 : Nat) :
  ∃ w1, (Builtin.clear_ #[t] ty #[.slice (some ⟨g, n * d.sz, none⟩) m c2]).run P W = .ok (.tuple #[]) w1 ∧ d.R e w1 base ok (.slice (some ⟨g, 0, none⟩) n c) xs ∧ W.grownBy w1 (some g) := by
 obtain ⟨hn, hnc, _⟩ := Kd.R_reads' HO
 obtain ⟨hok, inner, hown, hr⟩ := HO
 have hin : inner.length = n * d.sz := by rw [hr.1, hn]
 rcases hown.2 with ⟨hv, _⟩ | ⟨g', cap', cur, hv, hb, hh, _, hcm, hcs, htake⟩
 ·cases hv
 injection hv with ha _ hc
 injection ha with ha
 injection ha with hg
 subst hg; subst hc
 rw [← hn] at htake
 obtain ⟨news, hnews⟩ : ∃ news, news = (Builtin.zeroCells z.cells m).toList := ⟨_, rfl⟩
 have hnl : news.length = m * d.sz := by rw [hnews, cycle_len _ _ hm0, hzs]
 have hone : ∀ u ∈ news, u.oneCell' = true := by
  intro u hu
  rw [hnews] at hu
  have hp : 0 < z.cells.size := by
   rcases Nat.eq_zero_or_pos z.cells.size with h | h
   ·simp [Builtin.zeroCells, h] at hu
   ·exact h
  simp only [Builtin.zeroCells, Array.toList_map, List.mem_map] at hu
  obtain ⟨i, _, rfl⟩ := hu
  have hi := Nat.mod_lt i hp
  rw [getElem!_pos z.cells _ hi]
  exact hz1 _ (by simp)
 have hnm : (n + m) * d.sz ≤ c * d.sz := Nat.mul_le_mul_right _ hm
 have hnm2 : (n + m) * d.sz = n * d.sz + m * d.sz := Nat.add_mul _ _ _
 have hfit : n * d.sz + news.length ≤ cur.size := by omega
 have hst := run_storeCells_cells (P := P) g (n * d.sz) news 0 W (fun j hj => by rw [cell_of_row W g _ cur e (0, 0) hh]; simp; omega) (fun j _ => blk_frozen hh _) hone
 simp only [Nat.add_zero] at hst
 obtain ⟨cur', h3, h4, h5⟩ := setCells_row news (n * d.sz) W cur hh hfit
 obtain ⟨s1, s2, s3, s4⟩ := setCells_same g news (n * d.sz) W
 have hfar : ∀ k', k' ≠ g → (W.setCells g (n * d.sz) news).heap[k']? = W.heap[k']? := fun k' hk' => setCells_far news _ k' hk'
 refine ⟨_, ?_, ⟨hok, inner, ⟨by rw [hin, hn], .inr ⟨g, c, cur', by rw [hn], hb, h3, by omega, hcm, by rw [h4, hcs], ?_⟩⟩, ?_⟩, ⟨s1, s2, s3, by rw [s4]; exact Nat.le_refl _, fun k' _ hk' => hfar k' (fun he => hk' (by rw [he]))⟩⟩
 ·obtain ⟨k, rfl⟩ : ∃ k, m = k + 1 := ⟨m - 1, by omega⟩
  have hzc : (Builtin.zeroCells z.cells (k + 1)).toList = news := hnews.symm
  simp [Builtin.clear_, run_underlying ht, hz, hzc, hst]
 ·rw [← hn, h5, List.append_assoc, htake]
  exact List.take_left' hin
 ·exact hr.imp_ (fun p q hp => d.M_move (fun k' hk' => hfar k' (fun he => hk'.2 (by simp [Value.ownBlock, he]))) hp)
end
end Go.Proofs.Ytlokjgngjgbpmaa.Man

namespace Go.Proofs.Ytlokjgngjgbpmaa.Mm
open Go.RowKit Go.Proofs.YtlokjgngjgbpmaaW.PrintWords Go.Proofs.YtlokjgngjgbpmaaW.PrintLast Go.Proofs.YtlokjgngjgbpmaaW.PrintMore Go.Proofs.Ytlokjgngjgbpmaa.Sh
set_option linter.unusedVariables false
section
variable {P : Program} {ops : Array Oper} {rest : List Oper} {o : Oper} {a : Act} {Q : Exit → Act → World → Prop} {K : Act → World → Prop} {w0 W W0 : World} {F N L : List SP} {A : SP} {α : Type}
/-- Where a cut from the front begins. -/
def cutA (X : Option Addr) (c m s : Nat) : Option Addr := if c = m then X else X.map (·.add (m * s))
theorem C_dropA {d : Kd α} {w : World} {X : Option Addr} {c m : Nat} {xs : List α} (hC : d.C w X xs.length xs) (hm : m ≤ xs.length) (hc : xs.length ≤ c) : d.C w (cutA X c m d.sz) (xs.drop m).length (xs.drop m) := Kd.C_drop (m := m) hC hm hc
/-- Cuts, told by what they are. -/
theorem eXd (t e : TypeId) (d : Kd α) (x lo : Operand) (k : Int) (xs : List α) (X : Option Addr) (c : Nat) {z : Value} {bytes : Nat} (ho : o.op = .slice t x (some lo) none none) (ht : P.underlying t = some (.slice e)) (hinfo : (P.info? e).map (fun i => (i.zero, i.size, i.bytes)) = some (some z, d.sz, bytes)) (h0 : 0 ≤ k) (h1 : k ≤ xs.length)
  (h : K (a.put o.dst (.slice (cutA X c k.toNat d.sz) (xs.drop k.toNat).length (c - k.toNat))) W) (hx : a.eval x = .slice X xs.length c) (hl : a.eval lo = .int .i64 k := by rfl) : Oper.wp P o a W K Q := by
 have hel : P.elem t = e := by simp [Program.elem, ht]
 have hu : P.underlying t = some (.slice (P.elem t)) := by rw [hel]; exact ht
 obtain ⟨i0, hi0, _, hsz, _⟩ := info_parts hinfo
 have hcut := cut_from (P := P) t e .i64 ht hi0 d.sz hsz X xs.length c k h0 h1 W
 have hl2 : (xs.drop k.toNat).length = xs.length - k.toNat := List.length_drop
 refine wp_value (v := .slice (if c = k.toNat then X else X.map (·.add (k.toNat * d.sz))) (xs.drop k.toNat).length (c - k.toNat)) (by rw [hl2]; unfold execOp; simp [ho, hx, hl, run_sliceAt_slice (h := hu), hcut]) h
theorem eXt (t e : TypeId) (d : Kd α) (x hi_ : Operand) (k : Int) (xs : List α) (X : Option Addr) (c : Nat) {z : Value} {bytes : Nat} (ho : o.op = .slice t x none (some hi_) none) (ht : P.underlying t = some (.slice e)) (hinfo : (P.info? e).map (fun i => (i.zero, i.size, i.bytes)) = some (some z, d.sz, bytes)) (hc : xs.length ≤ c) (h0 : 0 ≤ k) (h1 : k ≤ xs.length)
  (h : K (a.put o.dst (.slice X (xs.take k.toNat).length c)) W) (hx : a.eval x = .slice X xs.length c) (hl : a.eval hi_ = .int .i64 k := by rfl) : Oper.wp P o a W K Q := by
 have hel : P.elem t = e := by simp [Program.elem, ht]
 have hu : P.underlying t = some (.slice (P.elem t)) := by rw [hel]; exact ht
 obtain ⟨i0, hi0, _, hsz, _⟩ := info_parts hinfo
 have hcut := cut_to (P := P) t e .i64 ht hi0 X xs.length c k h0 h1 hc W
 have hl2 : (xs.take k.toNat).length = k.toNat := by rw [List.length_take]; omega
 refine wp_value (v := .slice X (xs.take k.toNat).length c) (by rw [hl2]; unfold execOp; simp [ho, hx, hl, run_sliceAt_slice (h := hu), hcut]) h
end
end Go.Proofs.Ytlokjgngjgbpmaa.Mm

namespace Go.Proofs.Ytlokjgngjgbpmaa.G
open Go.RowKit Go.Proofs.YtlokjgngjgbpmaaW.PrintWords Go.Proofs.YtlokjgngjgbpmaaW.PrintLast Go.Proofs.YtlokjgngjgbpmaaW.PrintMore Go.Proofs.Ytlokjgngjgbpmaa.Sh
attribute [local go_sem] max2_int min2_int max_two min_two max_three min_three max_four min_four
set_option linter.unusedVariables false
set_option linter.unusedSimpArgs false
def spec_l01In.f (a0 : Int) (a1 : Int) (a2 : Int) : Option (Bool) := if a0 ≥ a1 then (some (decide (a0 ≤ a2))) else (some false)
theorem spec_l01In.calls (a0 : Int) (a1 : Int) (a2 : Int) (r : Bool) (w : World) (h : spec_l01In.f a0 a1 a2 = some r) :
  Calls Try.prog 51 #[.int .i64 a0, .int .i64 a1, .int .i64 a2] w fun e w' => e = .returned (.bool r) ∧ Drawn0 w w' := by
 have H : (if a0 ≥ a1 then (some (decide (a0 ≤ a2))) else (some false)) = some r := h
 clear h
 by_cases c4 : a0 ≥ a1
 ·rw [if_pos c4] at H
  have c4b0 : decide (a1 ≤ a0) = true := decide_eq_true c4
  clear c4
  obtain rfl := Option.some.inj H
  go_enter Try.func51, Try.ntmps51
  go_wp2
  go_ret
  exact ⟨by first | rfl | (simp; done) | (simp [*]; done), DR⟩
 ·rw [if_neg c4] at H
  have c4b0 : decide (a1 ≤ a0) = false := decide_eq_false c4
  clear c4
  obtain rfl := Option.some.inj H
  go_enter Try.func51, Try.ntmps51
  go_wp2
  go_ret
  exact ⟨by first | rfl | (simp; done) | (simp [*]; done), DR⟩
def spec_l10Clean.l0 : Nat → ByteArray → Int → Option (Bool)
 | 0, _, _ => none
 | k + 1, x0, x3 => if x3 < (x0.size : Int) then (if 0 ≤ x3 then (if (bt x0 x3) = 32 then (some false) else (if (bt x0 x3) = 10 then (some false) else (spec_l10Clean.l0 k x0 (wrap64 (x3 + 1))))) else (none)) else (some true)
def spec_l10Clean.f (k : Nat) (a0 : ByteArray) : Option (Bool) := spec_l10Clean.l0 k a0 0
theorem spec_l10Clean.calls (k : Nat) (a0 : ByteArray) (r : Bool) (w : World) (h : spec_l10Clean.f k a0 = some r) :
  Calls Try.prog 88 #[.string a0] w fun e w' => e = .returned (.bool r) ∧ Drawn0 w w' := by
 have H : (spec_l10Clean.l0 k a0 0) = some r := h
 clear h
 have H' := Aside0.mk H
 clear H
 go_enter Try.func88, Try.ntmps88
 go_wp2
 go_loopg [3] k (fun kq v3 w' => ∃ (x3_1 : Int), v3 = .int .i64 x3_1 ∧ Aside0 (spec_l10Clean.l0 kq a0 x3_1 = some r) ∧ Aside0 (kq ≤ k) ∧ Drawn0 w w')
 case atStart => exact ⟨(0), RS, H', ⟨Nat.le_refl _⟩, DR⟩
 case round =>
  clear H'
  obtain ⟨x3_1, rfl, HA, HK1, ⟨m1, rfl⟩⟩ := hrel
  cases gk with
  | zero => exact absurd HA.out (by simp [spec_l10Clean.l0])
  | succ k1 =>
   have H := HA.out
   clear HA
   simp only [spec_l10Clean.l0] at H
   by_cases c2 : x3_1 < (a0.size : Int)
   ·rw [if_pos c2] at H
    have c2b0 : decide (x3_1 < (a0.size : Int)) = true := decide_eq_true c2
    clear c2
    by_cases c3 : 0 ≤ x3_1
    ·rw [if_pos c3] at H
     have c3b0 : decide (0 ≤ x3_1) = true := decide_eq_true c3
     clear c3
     by_cases c5 : (bt a0 x3_1) = 32
     ·rw [if_pos c5] at H
      have c5b0 : ((bt a0 x3_1) == 32) = true := beq_iff_eq.mpr c5
      have c5b1 : ((bt a0 x3_1) != 32) = false := bne_eq_false_iff_eq.mpr c5
      clear c5
      obtain rfl := Option.some.inj H
      have p4 : 0 ≤ (x3_1 : Int) := of_decide_eq_true AS
      have q4 : x3_1 < (a0.size : Int) := of_decide_eq_true AS
      have hx4 := bt_at a0 x3_1
      replace p4 := eq_true p4
      replace q4 := eq_true q4
      go_wp2
      go_ret
      exact ⟨by first | rfl | (simp; done) | (simp [*]; done), DR⟩
     ·rw [if_neg c5] at H
      have c5b0 : ((bt a0 x3_1) == 32) = false := beq_eq_false_iff_ne.mpr c5
      have c5b1 : ((bt a0 x3_1) != 32) = true := bne_iff_ne.mpr c5
      by_cases c7 : (bt a0 x3_1) = 10
      ·rw [if_pos c7] at H
       have c7b0 : ((bt a0 x3_1) == 10) = true := beq_iff_eq.mpr c7
       have c7b1 : ((bt a0 x3_1) != 10) = false := bne_eq_false_iff_eq.mpr c7
       clear c7
       obtain rfl := Option.some.inj H
       have p4 : 0 ≤ (x3_1 : Int) := of_decide_eq_true AS
       have q4 : x3_1 < (a0.size : Int) := of_decide_eq_true AS
       have hx4 := bt_at a0 x3_1
       replace p4 := eq_true p4
       replace q4 := eq_true q4
       have p6 : 0 ≤ (x3_1 : Int) := of_decide_eq_true AS
       have q6 : x3_1 < (a0.size : Int) := of_decide_eq_true AS
       have hx6 := bt_at a0 x3_1
       replace p6 := eq_true p6
       replace q6 := eq_true q6
       go_wp2
       go_ret
       exact ⟨by first | rfl | (simp; done) | (simp [*]; done), DR⟩
      ·rw [if_neg c7] at H
       have c7b0 : ((bt a0 x3_1) == 10) = false := beq_eq_false_iff_ne.mpr c7
       have c7b1 : ((bt a0 x3_1) != 10) = true := bne_iff_ne.mpr c7
       have H' := Aside0.mk H
       clear H
       have p4 : 0 ≤ (x3_1 : Int) := of_decide_eq_true AS
       have q4 : x3_1 < (a0.size : Int) := of_decide_eq_true AS
       have hx4 := bt_at a0 x3_1
       replace p4 := eq_true p4
       replace q4 := eq_true q4
       have p6 : 0 ≤ (x3_1 : Int) := of_decide_eq_true AS
       have q6 : x3_1 < (a0.size : Int) := of_decide_eq_true AS
       have hx6 := bt_at a0 x3_1
       replace p6 := eq_true p6
       replace q6 := eq_true q6
       go_wp2
       go_roundg k1
       case measure => have := HK1.out; omega
       case rel => exact ⟨(wrap64 (x3_1 + 1)), RS, H', ⟨by have := HK1.out; omega⟩, DR⟩
    ·rw [if_neg c3] at H
     exact absurd H (by simp)
   ·rw [if_neg c2] at H
    have c2b0 : decide (x3_1 < (a0.size : Int)) = false := decide_eq_false c2
    clear c2
    obtain rfl := Option.some.inj H
    go_wp2
    go_ret
    exact ⟨by first | rfl | (simp; done) | (simp [*]; done), DR⟩
end Go.Proofs.Ytlokjgngjgbpmaa.G

namespace Go.Proofs.Ytlokjgngjgbpmaa.G
open Go.RowKit Go.Proofs.YtlokjgngjgbpmaaW.PrintWords Go.Proofs.YtlokjgngjgbpmaaW.PrintLast Go.Proofs.YtlokjgngjgbpmaaW.PrintMore Go.Proofs.Ytlokjgngjgbpmaa.Sh
attribute [local go_sem] max2_int min2_int max_two min_two max_three min_three max_four min_four
set_option linter.unusedVariables false
set_option linter.unusedSimpArgs false
open Go.Proofs.Ytlokjgngjgbpmaa.Mm
def spec_ItemOk.f (k : Nat) (a0_0 : ByteArray) (a0_1 : ByteArray) (a0_2 : Int) : Option (Bool) := if (a0_0.size : Int) ≥ 1 then (if (a0_0.size : Int) ≤ 20 then ((spec_l10Clean.f k a0_0).bind fun t773 => (if t773 = true then (if (a0_1.size : Int) ≤ 40 then ((spec_l10Clean.f k a0_1).bind fun t774 => (if t774 = true then ((spec_l01In.f a0_2 0 3).bind fun t775 => (some t775)) else (some false))) else (some false)) else (some false))) else (some false)) else (some false)
theorem spec_ItemOk.calls (k : Nat) (a0_0 : ByteArray) (a0_1 : ByteArray) (a0_2 : Int) (r : Bool) (w : World)  (h : spec_ItemOk.f k a0_0 a0_1 a0_2 = some r) :
  Calls Try.prog 67 #[.agg #[.string a0_0, .string a0_1, .int .i64 a0_2]] w fun e w' => e = .returned (.bool r) ∧ Mem w [] w' [] := by
 have hu67 := Try.underlying67
 have HM := Mem.nil w
 have H := h
 clear h
 unfold spec_ItemOk.f at H
 go_enter Try.func67, Try.ntmps67
 replace H := IT H; rcases H with ⟨c4, H⟩ | ⟨c4, H⟩
 ·replace c4 : (a0_0.size : Int) ≥ 1 := c4
  have c4b0 : decide (1 ≤ (a0_0.size : Int)) = true := decide_eq_true c4
  have c4b1 : decide (1 ≤ a0_0.size) = true := decide_eq_true (by omega)
  clear c4
  replace H := IT H; rcases H with ⟨c5, H⟩ | ⟨c5, H⟩
  ·replace c5 : (a0_0.size : Int) ≤ 20 := c5
   have c5b0 := decide_eq_true c5
   have c5b1 : decide (a0_0.size ≤ 20) = true := decide_eq_true (by omega)
   clear c5
   replace H := BN H; obtain ⟨t773, A6, H⟩ := H
   replace H := IB H
   rcases H with ⟨c8, H⟩ | ⟨c8, H⟩
   ·subst c8
    replace H := IT H; rcases H with ⟨c10, H⟩ | ⟨c10, H⟩
    ·replace c10 : (a0_1.size : Int) ≤ 40 := c10
     have c10b0 := decide_eq_true c10
     have c10b1 : decide (a0_1.size ≤ 40) = true := decide_eq_true (by omega)
     clear c10
     replace H := BN H; obtain ⟨t774, A11, H⟩ := H
     replace H := IB H
     rcases H with ⟨c13, H⟩ | ⟨c13, H⟩
     ·subst c13
      replace H := BN H; obtain ⟨t775, A15, H⟩ := H
      obtain rfl := Option.some.inj H
      go_wp2_with (first | ((with_reducible refine gN 1 rfl ?_); refine pB 1 67 [.string a0_0, .string a0_1, .int .i64 a0_2] HM rfl ?_; clear HM; intro gb772 w2 HM; obtain ⟨_,_,_,_,_,_⟩ := bk3 (HM.bx 0 rfl)) | ((with_reducible refine gC 88 rfl ?_); refine pC (some 16) rfl #[.string a0_0] rfl Try.func88 (spec_l10Clean.calls k a0_0 true _ A6.out) ?_; rintro e w7 ⟨rfl, hd⟩; refine ⟨_, rfl, ?_⟩; replace HM := HM.drawn hd; clear hd; obtain ⟨_,_,_,_,_,_⟩ := bk3 (HM.bx 0 rfl)) | ((with_reducible refine gC 88 rfl ?_); refine pC (some 27) rfl #[.string a0_1] rfl Try.func88 (spec_l10Clean.calls k a0_1 true _ A11.out) ?_; rintro e w12 ⟨rfl, hd⟩; refine ⟨_, rfl, ?_⟩; replace HM := HM.drawn hd; clear hd; obtain ⟨_,_,_,_,_,_⟩ := bk3 (HM.bx 0 rfl)) | ((with_reducible refine gC 51 rfl ?_); refine pC (some 32) rfl #[.int .i64 a0_2, .int .i64 0, .int .i64 3] rfl Try.func51 (spec_l01In.calls a0_2 0 3 t775 _ A15.out) ?_; rintro e w16 ⟨rfl, hd⟩; refine ⟨_, rfl, ?_⟩; replace HM := HM.drawn hd; clear hd))
      go_ret
      exact ⟨ER, (MD HM).pick []⟩
     ·subst c13
      obtain rfl := Option.some.inj H
      go_wp2_with (first | ((with_reducible refine gN 1 rfl ?_); refine pB 1 67 [.string a0_0, .string a0_1, .int .i64 a0_2] HM rfl ?_; clear HM; intro gb772 w2 HM; obtain ⟨_,_,_,_,_,_⟩ := bk3 (HM.bx 0 rfl)) | ((with_reducible refine gC 88 rfl ?_); refine pC (some 16) rfl #[.string a0_0] rfl Try.func88 (spec_l10Clean.calls k a0_0 true _ A6.out) ?_; rintro e w7 ⟨rfl, hd⟩; refine ⟨_, rfl, ?_⟩; replace HM := HM.drawn hd; clear hd; obtain ⟨_,_,_,_,_,_⟩ := bk3 (HM.bx 0 rfl)) | ((with_reducible refine gC 88 rfl ?_); refine pC (some 27) rfl #[.string a0_1] rfl Try.func88 (spec_l10Clean.calls k a0_1 false _ A11.out) ?_; rintro e w12 ⟨rfl, hd⟩; refine ⟨_, rfl, ?_⟩; replace HM := HM.drawn hd; clear hd))
      go_ret
      exact ⟨ER, (MD HM).pick []⟩
    ·replace c10 : ¬ ((a0_1.size : Int) ≤ 40) := c10
     have c10b0 := decide_eq_false c10
     have c10b1 : decide (a0_1.size ≤ 40) = false := decide_eq_false (by omega)
     clear c10
     obtain rfl := Option.some.inj H
     go_wp2_with (first | ((with_reducible refine gN 1 rfl ?_); refine pB 1 67 [.string a0_0, .string a0_1, .int .i64 a0_2] HM rfl ?_; clear HM; intro gb772 w2 HM; obtain ⟨_,_,_,_,_,_⟩ := bk3 (HM.bx 0 rfl)) | ((with_reducible refine gC 88 rfl ?_); refine pC (some 16) rfl #[.string a0_0] rfl Try.func88 (spec_l10Clean.calls k a0_0 true _ A6.out) ?_; rintro e w7 ⟨rfl, hd⟩; refine ⟨_, rfl, ?_⟩; replace HM := HM.drawn hd; clear hd; obtain ⟨_,_,_,_,_,_⟩ := bk3 (HM.bx 0 rfl)))
     go_ret
     exact ⟨ER, (MD HM).pick []⟩
   ·subst c8
    obtain rfl := Option.some.inj H
    go_wp2_with (first | ((with_reducible refine gN 1 rfl ?_); refine pB 1 67 [.string a0_0, .string a0_1, .int .i64 a0_2] HM rfl ?_; clear HM; intro gb772 w2 HM; obtain ⟨_,_,_,_,_,_⟩ := bk3 (HM.bx 0 rfl)) | ((with_reducible refine gC 88 rfl ?_); refine pC (some 16) rfl #[.string a0_0] rfl Try.func88 (spec_l10Clean.calls k a0_0 false _ A6.out) ?_; rintro e w7 ⟨rfl, hd⟩; refine ⟨_, rfl, ?_⟩; replace HM := HM.drawn hd; clear hd))
    go_ret
    exact ⟨ER, (MD HM).pick []⟩
  ·replace c5 : ¬ ((a0_0.size : Int) ≤ 20) := c5
   have c5b0 := decide_eq_false c5
   have c5b1 : decide (a0_0.size ≤ 20) = false := decide_eq_false (by omega)
   clear c5
   obtain rfl := Option.some.inj H
   go_wp2_with (first | ((with_reducible refine gN 1 rfl ?_); refine pB 1 67 [.string a0_0, .string a0_1, .int .i64 a0_2] HM rfl ?_; clear HM; intro gb772 w2 HM; obtain ⟨_,_,_,_,_,_⟩ := bk3 (HM.bx 0 rfl)))
   go_ret
   exact ⟨ER, (MD HM).pick []⟩
 ·replace c4 : ¬ ((a0_0.size : Int) ≥ 1) := c4
  have c4b0 : decide (1 ≤ (a0_0.size : Int)) = false := decide_eq_false c4
  have c4b1 : decide (1 ≤ a0_0.size) = false := decide_eq_false (by omega)
  clear c4
  obtain rfl := Option.some.inj H
  go_wp2_with (first | ((with_reducible refine gN 1 rfl ?_); refine pB 1 67 [.string a0_0, .string a0_1, .int .i64 a0_2] HM rfl ?_; clear HM; intro gb772 w2 HM; obtain ⟨_,_,_,_,_,_⟩ := bk3 (HM.bx 0 rfl)))
  go_ret
  exact ⟨ER, (MD HM).pick []⟩
def spec_AsksOk.l0 : Nat → List ByteArray → List ByteArray → Int → Int → Option (Bool)
 | 0, _, _, _, _ => none
 | k + 1, x0, x5, x6, x7 => if x7 < x6 then (if 0 ≤ x7 then (if x7 < (x5.length : Int) then ((spec_ItemOk.f k (rdOf ByteArray.empty x5 x7) (⟨#[]⟩ : ByteArray) 0).bind fun t777 => (if t777 = true then (spec_AsksOk.l0 k x0 x5 x6 (wrap64 (x7 + 1))) else (some false))) else (none)) else (none)) else (some (decide ((x0.length : Int) ≤ 300)))
def spec_AsksOk.f (k : Nat) (l0 : List ByteArray) : Option (Bool) := spec_AsksOk.l0 k l0 l0 (l0.length : Int) 0
theorem spec_AsksOk.calls (k : Nat) (A0 : Option Addr) (c0 : Nat) (l0 : List ByteArray) (r : Bool) (w : World) (hr0 : Kd.C Kd.string w A0 l0.length l0) (hc0 : l0.length ≤ c0) (h : spec_AsksOk.f k l0 = some r) :
  Calls Try.prog 50 #[.slice A0 l0.length c0] w fun e w' => e = .returned (.bool r) ∧ Mem w [] w' [] := by
 have hu67 := Try.underlying67
 have HR0 := Aside0.mk hr0
 have HC0 := Aside0.mk hc0
 clear hr0 hc0
 have HM := Mem.nil w
 have H := h
 clear h
 unfold spec_AsksOk.f at H
 go_enter Try.func50, Try.ntmps50
 have H' := Aside0.mk H
 clear H
 go_wp2
 go_loopg [7] k (fun kq v7 w' => ∃ (x7_1 : Int), v7 = .int .i64 x7_1 ∧ Aside0 (spec_AsksOk.l0 kq l0 l0 (l0.length : Int) x7_1 = some r) ∧ Aside0 (kq ≤ k) ∧ Mem w [] w' [])
 case atStart => exact ⟨(0), RS, H', ⟨Nat.le_refl _⟩, (MD HM).pick []⟩
 case round =>
  clear H' HM
  obtain ⟨x7_1, rfl, HA, HK1, HM⟩ := hrel
  cases gk with
  | zero => exact absurd HA.out (by simp [spec_AsksOk.l0])
  | succ k1 =>
   have H := HA.out
   clear HA
   simp only [spec_AsksOk.l0] at H
   go_upto_if 8 with (fail)
   replace H := IT H; rcases H with ⟨c2, H⟩ | ⟨c2, H⟩
   ·have c2b0 := decide_eq_true c2
    clear c2
    first|rw [c2b0]|(simp only [i64_w, i32_w]; rw [c2b0])|skip
    replace H := GD H; obtain ⟨c3, H⟩ := H
    have c3b0 := decide_eq_true c3
    clear c3
    replace H := GD H; obtain ⟨c4, H⟩ := H
    have c4b0 := decide_eq_true c4
    clear c4
    replace H := BN H; obtain ⟨t777, A5, H⟩ := H
    have p776 : 0 ≤ (x7_1 : Int) := of_decide_eq_true AS
    have q776 : (x7_1 : Int) < (l0.length : Int) := of_decide_eq_true AS
    obtain ⟨ad776, e776, hx776_0⟩ := Kd.at_string (HM.came HR0.out) x7_1 p776 q776
    cases e776
    replace p776 := eq_true p776
    replace q776 := eq_true q776
    go_upto_if 14 with (first | ((with_reducible refine gC 67 rfl ?_); refine pC (some 13) rfl #[.agg #[.string (rdOf ByteArray.empty l0 x7_1), .string (⟨#[]⟩ : ByteArray), .int .i64 0]] rfl Try.func67 (spec_ItemOk.calls k1 (rdOf ByteArray.empty l0 x7_1) (⟨#[]⟩ : ByteArray) 0 t777 _ A5.out) ?_; rintro e w6 ⟨rfl, hR⟩; refine ⟨_, rfl, ?_⟩; replace HM := HM.call hR; clear hR))
    replace H := IB H
    rcases H with ⟨c7, H⟩ | ⟨c7, H⟩
    ·subst c7
     have H' := Aside0.mk H
     clear H
     go_wp2
     go_roundg k1
     case measure => have := HK1.out; omega
     case rel => exact ⟨(wrap64 (x7_1 + 1)), RS, H', ⟨by have := HK1.out; omega⟩, (MD HM).pick []⟩
    ·subst c7
     obtain rfl := Option.some.inj H
     go_wp2
     go_ret
     exact ⟨ER, (MD HM).pick []⟩
   ·have c2b0 := decide_eq_false c2
    clear c2
    first|rw [c2b0]|(simp only [i64_w, i32_w]; rw [c2b0])|skip
    obtain rfl := Option.some.inj H
    go_wp2
    go_ret
    exact ⟨ER, (MD HM).pick []⟩
def spec_l13Ok.f (k : Nat) (l0 : List ByteArray) (a1 : Int) : Option (Bool) := (spec_AsksOk.f k l0).bind fun t778 => (if t778 = true then ((spec_l01In.f a1 1 60).bind fun t779 => (some t779)) else (some false))
theorem spec_l13Ok.calls (k : Nat) (A0 : Option Addr) (c0 : Nat) (l0 : List ByteArray) (a1 : Int) (r : Bool) (w : World) (hr0 : Kd.C Kd.string w A0 l0.length l0) (hc0 : l0.length ≤ c0) (h : spec_l13Ok.f k l0 a1 = some r) :
  Calls Try.prog 34 #[.slice A0 l0.length c0, .int .i64 a1] w fun e w' => e = .returned (.bool r) ∧ Mem w [] w' [] := by
 have HR0 := Aside0.mk hr0
 have HC0 := Aside0.mk hc0
 clear hr0 hc0
 have HM := Mem.nil w
 have H := h
 clear h
 unfold spec_l13Ok.f at H
 go_enter Try.func34, Try.ntmps34
 replace H := BN H; obtain ⟨t778, A3, H⟩ := H
 replace H := IB H
 rcases H with ⟨c5, H⟩ | ⟨c5, H⟩
 ·subst c5
  replace H := BN H; obtain ⟨t779, A6, H⟩ := H
  obtain rfl := Option.some.inj H
  go_wp2_with (first | ((with_reducible refine gC 50 rfl ?_); refine pC (some 6) rfl #[.slice A0 l0.length c0] rfl Try.func50 (spec_AsksOk.calls k _ _ l0 true _ (HM.came HR0.out) HC0.out A3.out) ?_; rintro e w4 ⟨rfl, hR⟩; refine ⟨_, rfl, ?_⟩; replace HM := HM.call hR; clear hR) | ((with_reducible refine gC 51 rfl ?_); refine pC (some 9) rfl #[.int .i64 a1, .int .i64 1, .int .i64 60] rfl Try.func51 (spec_l01In.calls a1 1 60 t779 _ A6.out) ?_; rintro e w7 ⟨rfl, hd⟩; refine ⟨_, rfl, ?_⟩; replace HM := HM.drawn hd; clear hd))
  go_ret
  exact ⟨ER, (MD HM).pick []⟩
 ·subst c5
  obtain rfl := Option.some.inj H
  go_wp2_with (first | ((with_reducible refine gC 50 rfl ?_); refine pC (some 6) rfl #[.slice A0 l0.length c0] rfl Try.func50 (spec_AsksOk.calls k _ _ l0 false _ (HM.came HR0.out) HC0.out A3.out) ?_; rintro e w4 ⟨rfl, hR⟩; refine ⟨_, rfl, ?_⟩; replace HM := HM.call hR; clear hR))
  go_ret
  exact ⟨ER, (MD HM).pick []⟩
end Go.Proofs.Ytlokjgngjgbpmaa.G

namespace Go.Proofs.Ytlokjgngjgbpmaa.G
open Go.RowKit Go.Proofs.YtlokjgngjgbpmaaW.PrintWords Go.Proofs.YtlokjgngjgbpmaaW.PrintLast Go.Proofs.YtlokjgngjgbpmaaW.PrintMore Go.Proofs.Ytlokjgngjgbpmaa.Sh
attribute [local go_sem] max2_int min2_int max_two min_two max_three min_three max_four min_four
set_option linter.unusedVariables false
set_option linter.unusedSimpArgs false
def spec_l12Has.l0 : Nat → ByteArray → List ByteArray → Int → Int → Option (Bool)
 | 0, _, _, _, _ => none
 | k + 1, x1, x7, x8, x9 => if x9 < x8 then (if 0 ≤ x9 then (if x9 < (x7.length : Int) then (if (rdOf ByteArray.empty x7 x9).toList = x1.toList then (some true) else (spec_l12Has.l0 k x1 x7 x8 (wrap64 (x9 + 1)))) else (none)) else (none)) else (some false)
def spec_l12Has.f (k : Nat) (l0 : List ByteArray) (a1 : ByteArray) : Option (Bool) := spec_l12Has.l0 k a1 l0 (l0.length : Int) 0
theorem spec_l12Has.calls (k : Nat) (A0 : Option Addr) (c0 : Nat) (l0 : List ByteArray) (a1 : ByteArray) (r : Bool) (w : World) (hr0 : Kd.C Kd.string w A0 l0.length l0) (hc0 : l0.length ≤ c0) (h : spec_l12Has.f k l0 a1 = some r) :
  Calls Try.prog 68 #[.slice A0 l0.length c0, .string a1] w fun e w' => e = .returned (.bool r) ∧ Drawn0 w w' := by
 have HR0 := Aside0.mk hr0
 have HC0 := Aside0.mk hc0
 clear hr0 hc0
 have H : (spec_l12Has.l0 k a1 l0 (l0.length : Int) 0) = some r := h
 clear h
 have H' := Aside0.mk H
 clear H
 go_enter Try.func68, Try.ntmps68
 go_wp2
 go_loopg [9] k (fun kq v9 w' => ∃ (x9_1 : Int), v9 = .int .i64 x9_1 ∧ Aside0 (spec_l12Has.l0 kq a1 l0 (l0.length : Int) x9_1 = some r) ∧ Aside0 (kq ≤ k) ∧ Drawn0 w w')
 case atStart => exact ⟨(0), RS, H', ⟨Nat.le_refl _⟩, DR⟩
 case round =>
  clear H'
  try clear p2
  obtain ⟨x9_1, rfl, HA, HK1, ⟨m1, rfl⟩⟩ := hrel
  cases gk with
  | zero => exact absurd HA.out (by simp [spec_l12Has.l0])
  | succ k1 =>
   have H := HA.out
   clear HA
   simp only [spec_l12Has.l0] at H
   by_cases c3 : x9_1 < (l0.length : Int)
   ·rw [if_pos c3] at H
    have c3b0 : decide (x9_1 < (l0.length : Int)) = true := decide_eq_true c3
    clear c3
    by_cases c4 : 0 ≤ x9_1
    ·rw [if_pos c4] at H
     have c4b0 : decide (0 ≤ x9_1) = true := decide_eq_true c4
     clear c4
     by_cases c5 : x9_1 < (l0.length : Int)
     ·rw [if_pos c5] at H
      have c5b0 : decide (x9_1 < (l0.length : Int)) = true := decide_eq_true c5
      clear c5
      by_cases c6 : (rdOf ByteArray.empty l0 x9_1).toList = a1.toList
      ·rw [if_pos c6] at H
       have c6b0 : ((rdOf ByteArray.empty l0 x9_1).toList == a1.toList) = true := beq_iff_eq.mpr c6
       have c6b1 : ((rdOf ByteArray.empty l0 x9_1).toList != a1.toList) = false := bne_eq_false_iff_eq.mpr c6
       clear c6
       obtain rfl := Option.some.inj H
       have p781 : 0 ≤ (x9_1 : Int) := of_decide_eq_true AS
       have q781 : x9_1 < (l0.length : Int) := of_decide_eq_true AS
       obtain ⟨ad781, e781, hx781_0⟩ := Kd.at_string HR0.out x9_1 p781 q781
       cases e781
       replace p781 := eq_true p781
       replace q781 := eq_true q781
       go_wp2
       go_ret
       exact ⟨by first | rfl | (simp; done) | (simp [*]; done), DR⟩
      ·rw [if_neg c6] at H
       have c6b0 : ((rdOf ByteArray.empty l0 x9_1).toList == a1.toList) = false := beq_eq_false_iff_ne.mpr c6
       have c6b1 : ((rdOf ByteArray.empty l0 x9_1).toList != a1.toList) = true := bne_iff_ne.mpr c6
       have H' := Aside0.mk H
       clear H
       have p781 : 0 ≤ (x9_1 : Int) := of_decide_eq_true AS
       have q781 : x9_1 < (l0.length : Int) := of_decide_eq_true AS
       obtain ⟨ad781, e781, hx781_0⟩ := Kd.at_string HR0.out x9_1 p781 q781
       cases e781
       replace p781 := eq_true p781
       replace q781 := eq_true q781
       go_wp2
       go_roundg k1
       case measure => have := HK1.out; omega
       case rel => exact ⟨(wrap64 (x9_1 + 1)), RS, H', ⟨by have := HK1.out; omega⟩, DR⟩
     ·rw [if_neg c5] at H
      exact absurd H (by simp)
    ·rw [if_neg c4] at H
     exact absurd H (by simp)
   ·rw [if_neg c3] at H
    have c3b0 : decide (x9_1 < (l0.length : Int)) = false := decide_eq_false c3
    clear c3
    obtain rfl := Option.some.inj H
    go_wp2
    go_ret
    exact ⟨by first | rfl | (simp; done) | (simp [*]; done), DR⟩
end Go.Proofs.Ytlokjgngjgbpmaa.G

namespace Go.Proofs.Ytlokjgngjgbpmaa.G
open Go.RowKit Go.Proofs.YtlokjgngjgbpmaaW.PrintWords Go.Proofs.YtlokjgngjgbpmaaW.PrintLast Go.Proofs.YtlokjgngjgbpmaaW.PrintMore Go.Proofs.Ytlokjgngjgbpmaa.Sh
attribute [local go_sem] max2_int min2_int max_two min_two max_three min_three max_four min_four
set_option linter.unusedVariables false
set_option linter.unusedSimpArgs false
open Go.Proofs.Ytlokjgngjgbpmaa.Mm
def spec_l13But.f (l0 : List ByteArray) (a1 : Int) : Option (List ByteArray) := (some (([] : List ByteArray) : List ByteArray)).bind fun y782 => (if 0 ≤ a1 then (if a1 ≤ (l0.length : Int) then (if y782.length + (l0.take (a1 : Int).toNat).length < 8796093022208 then ((some (y782 ++ (l0.take (a1 : Int).toNat) : List ByteArray)).bind fun y786 => (if 0 ≤ (wrap64 (a1 + 1)) then (if (wrap64 (a1 + 1)) ≤ (l0.length : Int) then (if y786.length + (l0.drop ((wrap64 (a1 + 1)) : Int).toNat).length < 8796093022208 then (some (y786 ++ (l0.drop ((wrap64 (a1 + 1)) : Int).toNat))) else (none)) else (none)) else (none))) else (none)) else (none)) else (none))
def spec_l13But.T1 : Bool × List (List Nat × List Nat) := (true, [([], []), ([], []), ([], []), ([1, 2], [1, 2]), ([0, 3], [0, 3]), ([], []), ([], []), ([6], [6]), ([5, 7], [5, 7]), ([4, 8, 4], [4, 8]), ([9, 9, 0, 1, 2, 3, 4, 5, 6, 7, 8, 9], [9])])
def spec_l13But.B1 : List Nat := [0, 0, 0, 6, 15, 0, 0, 64, 224, 511, 1023]
theorem spec_l13But.tab1 : rtab .any (opsOf Try.f69 1) = spec_l13But.T1 := by kernel_rfl
theorem spec_l13But.bits1 : waitsOk spec_l13But.T1.2 spec_l13But.B1 = true := by kernel_rfl
theorem spec_l13But.calls (A0 : Option Addr) (c0 : Nat) (l0 : List ByteArray) (a1 : Int) (r : List ByteArray) (w : World) (hr0 : Kd.C Kd.string w A0 l0.length l0) (hc0 : l0.length ≤ c0) (h : spec_l13But.f l0 a1 = some r) :
  Calls Try.prog 69 #[.slice A0 l0.length c0, .int .i64 a1] w fun e w' => ∃ v0_ : Value, e = .returned (v0_) ∧ Mem w [] w' [rowR Kd.string 9 v0_ r] := by
 have HR0 := Aside0.mk hr0
 have HC0 := Aside0.mk hc0
 clear hr0 hc0
 have HM := Mem.nil w
 have H := h
 clear h
 unfold spec_l13But.f at H
 go_enter Try.func69, Try.ntmps69
 try go_wp2
 replace H := BLt H; obtain ⟨y782, Ny782, H⟩ := H
 replace Ny782 := Aside0.mk Ny782
 replace H := GD H; obtain ⟨c3, H⟩ := H
 have c3b0 := eq_true c3
 have c3b1 : decide (0 ≤ a1) = true := decide_eq_true c3
 clear c3
 replace H := GD H; obtain ⟨c4, H⟩ := H
 have c4b0 := eq_true c4
 have c4b1 : decide (a1 ≤ (l0.length : Int)) = true := decide_eq_true c4
 clear c4
 replace H := GD H; obtain ⟨c5, H⟩ := H
 have LMc5 := Aside0.mk c5
 clear c5
 replace H := BLt H; obtain ⟨y786, Ny786, H⟩ := H
 replace Ny786 := Aside0.mk Ny786
 replace H := GD H; obtain ⟨c6, H⟩ := H
 have c6b0 := eq_true c6
 have c6b1 : decide (0 ≤ (wrap64 (a1 + 1))) = true := decide_eq_true c6
 replace H := GD H; obtain ⟨c7, H⟩ := H
 have c7b0 := eq_true c7
 have c7b1 : decide ((wrap64 (a1 + 1)) ≤ (l0.length : Int)) = true := decide_eq_true c7
 replace H := GD H; obtain ⟨c8, H⟩ := H
 have LMc8 := Aside0.mk c8
 clear c8
 refine RGN 11 [0, 1, 2, 3, 4, 5, 6, 7, 8, 9, 10] (fun a0 b a w' => ∃ (v783 : Value) (v787 : Value) (v791 : Value), a = putSel a0 b [(0, 5, v783), (1, 6, .slice A0 l0.length c0), (2, 7, .int .i64 a1), (3, 8, .slice A0 (l0.take (a1 : Int).toNat).length c0), (4, 9, v787), (5, 10, .slice A0 l0.length c0), (6, 11, .int .i64 a1), (7, 12, .int .i64 (wrap64 (a1 + 1))), (8, 13, .slice (cutA A0 c0 ((wrap64 (a1 + 1)) : Int).toNat Kd.string.sz) (l0.drop ((wrap64 (a1 + 1)) : Int).toNat).length (c0 - ((wrap64 (a1 + 1)) : Int).toNat)), (9, 14, v791), (10, 4, v791)] ∧ Mem w [] w' [sel (b 9) (rowR Kd.string 9 v791 (y786 ++ (l0.drop ((wrap64 (a1 + 1)) : Int).toNat))) (sel (b 4) (rowR Kd.string 9 v787 y786) (sel (b 0) (rowR Kd.string 9 v783 y782) (emp)))]) spec_l13But.tab1 spec_l13But.bits1 ?_ ?_ ?_
 ·exact ⟨.bool false, .bool false, .bool false, PS0' rfl _, (HM.drew.ems 1).pick [0]⟩
 ·clear HM
  refine SZ ?_ ?_
  ·rintro b a w ⟨v783, v787, v791, ha, HM⟩ hb hon hoff K hK
   replace ha := Aside0.mk ha
   refine ST (eL 5 Kd.string 9 ([] : List ByteArray) [] (Reps.none _ _) HM rfl ?_)
   clear HM
   intro v783 w12 HM
   replace HM := HM.nm 1 rfl Ny782.out
   exact hK.out _ _ ⟨v783, v787, v791, PUT ha 0 hb, ((HM.iF 1 rfl (hoff 4 rfl)).iF 1 rfl (hoff 9 rfl)).pick [1]⟩
  refine SZ ?_ ?_
  ·rintro b a w ⟨v783, v787, v791, ha, HM⟩ hb hon hoff K hK
   replace ha := Aside0.mk ha
   have e0 := PG ha 0
   exact VL (.slice A0 l0.length c0) (hK.out _ _ ⟨v783, v787, v791, PUT ha 1 hb, HM⟩)
  refine SZ ?_ ?_
  ·rintro b a w ⟨v783, v787, v791, ha, HM⟩ hb hon hoff K hK
   replace ha := Aside0.mk ha
   have e1 := PG ha 1
   exact VL (.int .i64 a1) (hK.out _ _ ⟨v783, v787, v791, PUT ha 2 hb, HM⟩)
  refine SZ ?_ ?_
  ·rintro b a w ⟨v783, v787, v791, ha, HM⟩ hb hon hoff K hK
   replace ha := Aside0.mk ha
   have e6 := PE ha 1 hon
   have e7 := PE ha 2 hon
   exact ST (eXt 23 9 Kd.string _ _ a1 l0 A0 c0 rfl Try.underlying23 info9 HC0.out (of_decide_eq_true AS) (of_decide_eq_true AS) (hK.out _ _ ⟨v783, v787, v791, PUT ha 3 hb, HM⟩) (hx := (eval_of e6)) (hl := (eval_of e7)))
  refine SZ ?_ ?_
  ·rintro b a w ⟨v783, v787, v791, ha, HM⟩ hb hon hoff K hK
   replace ha := Aside0.mk ha
   replace HM := ((HM.sF 0 rfl (hoff 9 rfl)).sF 0 rfl hb).sT 0 rfl (hon 0 rfl)
   have e5 := PE ha 0 hon
   have e8 := PE ha 3 hon
   refine ST (eA 0 (.tmp 5) (.tmp 8) 23 9 Kd.string v783 y782 (l0.take (a1 : Int).toNat) A0 ((l0.take (a1 : Int).toNat).length) c0 HM rfl Try.underlying23 info9 rfl (Kd.C_take (m := (a1 : Int).toNat) (HM.came HR0.out) (by have h_ : (a1 : Int) ≤ ((l0.length : Int) : Int) := of_decide_eq_true AS; omega)) (by have h_ := LMc5.out; omega) ?_ (ops := #[]) (hw := by rfl) (hs := (eval_of e5)) (hx := (eval_of e8)))
   clear HM
   intro v787 w13 HM
   replace HM := HM.nm 0 rfl Ny786.out
   exact hK.out _ _ ⟨v783, v787, v791, PUT ha 4 hb, (HM.iF 0 rfl (hoff 9 rfl)).pick [0]⟩
  refine SZ ?_ ?_
  ·rintro b a w ⟨v783, v787, v791, ha, HM⟩ hb hon hoff K hK
   replace ha := Aside0.mk ha
   have e0 := PG ha 0
   exact VL (.slice A0 l0.length c0) (hK.out _ _ ⟨v783, v787, v791, PUT ha 5 hb, HM⟩)
  refine SZ ?_ ?_
  ·rintro b a w ⟨v783, v787, v791, ha, HM⟩ hb hon hoff K hK
   replace ha := Aside0.mk ha
   have e1 := PG ha 1
   exact VL (.int .i64 a1) (hK.out _ _ ⟨v783, v787, v791, PUT ha 6 hb, HM⟩)
  refine SZ ?_ ?_
  ·rintro b a w ⟨v783, v787, v791, ha, HM⟩ hb hon hoff K hK
   replace ha := Aside0.mk ha
   have e11 := PE ha 6 hon
   exact VL (.int .i64 (wrap64 (a1 + 1))) (hK.out _ _ ⟨v783, v787, v791, PUT ha 7 hb, HM⟩)
  refine SZ ?_ ?_
  ·rintro b a w ⟨v783, v787, v791, ha, HM⟩ hb hon hoff K hK
   replace ha := Aside0.mk ha
   have e10 := PE ha 5 hon
   have e12 := PE ha 7 hon
   exact ST (eXd 23 9 Kd.string _ _ (wrap64 (a1 + 1)) l0 A0 c0 rfl Try.underlying23 info9 (of_decide_eq_true AS) (of_decide_eq_true AS) (hK.out _ _ ⟨v783, v787, v791, PUT ha 8 hb, HM⟩) (hx := (eval_of e10)) (hl := (eval_of e12)))
  refine SZ ?_ ?_
  ·rintro b a w ⟨v783, v787, v791, ha, HM⟩ hb hon hoff K hK
   replace ha := Aside0.mk ha
   replace HM := (HM.sF 0 rfl hb).sT 0 rfl (hon 4 rfl)
   have e9 := PE ha 4 hon
   have e13 := PE ha 8 hon
   refine ST (eA 0 (.tmp 9) (.tmp 13) 23 9 Kd.string v787 y786 (l0.drop ((wrap64 (a1 + 1)) : Int).toNat) (cutA A0 c0 ((wrap64 (a1 + 1)) : Int).toNat Kd.string.sz) ((l0.drop ((wrap64 (a1 + 1)) : Int).toNat).length) (c0 - ((wrap64 (a1 + 1)) : Int).toNat) HM rfl Try.underlying23 info9 rfl (C_dropA (m := ((wrap64 (a1 + 1)) : Int).toNat) (HM.came HR0.out) (by have h_ : ((wrap64 (a1 + 1)) : Int) ≤ ((l0.length : Int) : Int) := of_decide_eq_true AS; omega) HC0.out) (by have h_ := LMc8.out; omega) ?_ (ops := #[]) (hw := by rfl) (hs := (eval_of e9)) (hx := (eval_of e13)))
   clear HM
   intro v791 w14 HM
   exact hK.out _ _ ⟨v783, v787, v791, PUT (PCH ha 10 (hoff 10 rfl)) 9 hb, (HM).pick [0]⟩
  refine SZ ?_ ?_
  ·rintro b a w ⟨v783, v787, v791, ha, HM⟩ hb hon hoff K hK
   replace ha := Aside0.mk ha
   have e14 := PE ha 9 hon
   exact VL (v791) (hK.out _ _ ⟨v783, v787, v791, PUT ha 10 hb, HM⟩)
  exact steps_nil
 rintro _ w15 ⟨v783, v787, v791, rfl, HM⟩
 replace HM := HM.sT 0 rfl rfl
 simp only [putSel, if_true, Act.put, List.setIfInBounds_toArray, List.set_cons_zero, List.set_cons_succ, gt_iff_lt, ge_iff_le]
 obtain rfl := Option.some.inj H
 go_wp2
 go_ret
 exact ⟨_, ER, (MD HM).pick [0]⟩
end Go.Proofs.Ytlokjgngjgbpmaa.G

namespace Go.Proofs.Ytlokjgngjgbpmaa.G
open Go.RowKit Go.Proofs.YtlokjgngjgbpmaaW.PrintWords Go.Proofs.YtlokjgngjgbpmaaW.PrintLast Go.Proofs.YtlokjgngjgbpmaaW.PrintMore Go.Proofs.Ytlokjgngjgbpmaa.Sh
attribute [local go_sem] max2_int min2_int max_two min_two max_three min_three max_four min_four
set_option linter.unusedVariables false
set_option linter.unusedSimpArgs false
mutual
def spec_NextAsk.j0 : Nat → List ByteArray → ByteArray → Int → Option (Int)
 | 0, _, _, _ => none
 | k + 1, x0, x1, x2 => spec_NextAsk.l0 k x0 x1 x2
def spec_NextAsk.l0 : Nat → List ByteArray → ByteArray → Int → Option (Int)
 | 0, _, _, _ => none
 | k + 1, x0, x1, x7 => if x7 < (x0.length : Int) then (if 0 ≤ x7 then (if (rdOf ByteArray.empty x0 x7).toList = x1.toList then (some x7) else (spec_NextAsk.l0 k x0 x1 (wrap64 (x7 + 1)))) else (none)) else (some (x0.length : Int))
end
def spec_NextAsk.f (k : Nat) (l0 : List ByteArray) (a1 : ByteArray) (a2 : Int) : Option (Int) := if a2 < 0 then (spec_NextAsk.j0 k l0 a1 0) else (spec_NextAsk.j0 k l0 a1 a2)
theorem spec_NextAsk.mono_l : ∀ k, (∀ y0 y1 y2, LeO (spec_NextAsk.j0 k y0 y1 y2) (spec_NextAsk.j0 (k + 1) y0 y1 y2)) ∧ (∀ y0 y1 y2, LeO (spec_NextAsk.l0 k y0 y1 y2) (spec_NextAsk.l0 (k + 1) y0 y1 y2))
 | 0 => ⟨fun _ _ _ r h => by simp [spec_NextAsk.j0] at h, fun _ _ _ r h => by simp [spec_NextAsk.l0] at h⟩
 | k + 1 => by
  obtain ⟨ih0, ih1⟩ := spec_NextAsk.mono_l k
  refine ⟨?_, ?_⟩
  ·intro y0 y1 y2
   unfold spec_NextAsk.j0
   repeat' first | (with_reducible first | exact ih0 _ _ _ | exact ih1 _ _ _ | exact LeO.refl _ | exact LeO.none _ | refine LeO.ite ?_ ?_ | refine LeO.bind ?_ (fun _ => ?_)) | exact LeO.none _ | refine LeO.ite ?_ ?_ | refine LeO.bind ?_ (fun _ => ?_)
  ·intro y0 y1 y2
   unfold spec_NextAsk.l0
   repeat' first | (with_reducible first | exact ih0 _ _ _ | exact ih1 _ _ _ | exact LeO.refl _ | exact LeO.none _ | refine LeO.ite ?_ ?_ | refine LeO.bind ?_ (fun _ => ?_)) | exact LeO.none _ | refine LeO.ite ?_ ?_ | refine LeO.bind ?_ (fun _ => ?_)
theorem spec_NextAsk.mono : ∀ a0 a1 a2 k, LeO (spec_NextAsk.f k a0 a1 a2) (spec_NextAsk.f (k + 1) a0 a1 a2) := by
 intro a0 a1 a2 k
 obtain ⟨ih0, ih1⟩ := spec_NextAsk.mono_l k
 unfold spec_NextAsk.f
 repeat' first | (with_reducible first | exact ih0 _ _ _ | exact ih1 _ _ _ | exact LeO.refl _ | exact LeO.none _ | refine LeO.ite ?_ ?_ | refine LeO.bind ?_ (fun _ => ?_)) | exact LeO.none _ | refine LeO.ite ?_ ?_ | refine LeO.bind ?_ (fun _ => ?_)
theorem spec_NextAsk.calls (k : Nat) (A0 : Option Addr) (c0 : Nat) (l0 : List ByteArray) (a1 : ByteArray) (a2 : Int) (r : Int) (w : World) (hr0 : Kd.C Kd.string w A0 l0.length l0) (hc0 : l0.length ≤ c0) (h : spec_NextAsk.f k l0 a1 a2 = some r) :
  Calls Try.prog 89 #[.slice A0 l0.length c0, .string a1, .int .i64 a2] w fun e w' => e = .returned (.int .i64 r) ∧ Drawn0 w w' := by
 have HR0 := Aside0.mk hr0
 have HC0 := Aside0.mk hc0
 clear hr0 hc0
 have H : (if a2 < 0 then (spec_NextAsk.j0 k l0 a1 0) else (spec_NextAsk.j0 k l0 a1 a2)) = some r := h
 clear h
 have HC4 := Aside0.mk H
 clear H
 go_enter Try.func89, Try.ntmps89
 go_upto_if 9 with (fail)
 go_cut [2] (fun v2 wc => ∃ (kq : Nat) (x2_3 : Int), v2 = .int .i64 x2_3 ∧ Aside0 (spec_NextAsk.j0 kq l0 a1 x2_3 = some r) ∧ Aside0 (kq ≤ k) ∧ Drawn0 w wc)
 case first =>
  have H := HC4.out
  clear HC4
  by_cases c5 : a2 < 0
  ·rw [if_pos c5] at H
   have c5b0 : decide (a2 < 0) = true := decide_eq_true c5
   clear c5
   first|rw [c5b0]|(simp only [i64_w, i32_w]; rw [c5b0])|skip
   have H' := Aside0.mk H
   clear H
   go_wp2
   go_meet
   case rel => exact ⟨_, (0), RS, H', ⟨by first | omega | exact Nat.le_refl _⟩, DR⟩
  ·rw [if_neg c5] at H
   have c5b0 : decide (a2 < 0) = false := decide_eq_false c5
   clear c5
   first|rw [c5b0]|(simp only [i64_w, i32_w]; rw [c5b0])|skip
   have H' := Aside0.mk H
   clear H
   go_wp2
   go_meet
   case rel => exact ⟨_, (a2), RS, H', ⟨by first | omega | exact Nat.le_refl _⟩, DR⟩
 case rest =>
  clear HC4
  try clear p2
  try clear c5
  try clear c5b0
  obtain ⟨kq, x2_3, rfl, HA, HJ3, ⟨mc3, rfl⟩⟩ := hcut
  cases kq with
  | zero => exact absurd HA.out (by simp [spec_NextAsk.j0])
  | succ kj3 =>
   have H := HA.out
   clear HA
   simp only [spec_NextAsk.j0] at H
   have H' := Aside0.mk H
   clear H
   go_wp2
   go_loopg [7] kj3 (fun kq v7 w' => ∃ (x7_2 : Int), v7 = .int .i64 x7_2 ∧ Aside0 (spec_NextAsk.l0 kq l0 a1 x7_2 = some r) ∧ Aside0 (kq ≤ kj3) ∧ Drawn0 w w')
   case atStart => exact ⟨(x2_3), RS, H', ⟨Nat.le_refl _⟩, DR⟩
   case round =>
    clear H'
    try clear p2
    try clear c3
    try clear c5
    try clear c5b0
    try clear p2
    obtain ⟨x7_2, rfl, HA, HK2, ⟨m2, rfl⟩⟩ := hrel
    cases gk with
    | zero => exact absurd HA.out (by simp [spec_NextAsk.l0])
    | succ k2 =>
     have H := HA.out
     clear HA
     simp only [spec_NextAsk.l0] at H
     by_cases c6 : x7_2 < (l0.length : Int)
     ·rw [if_pos c6] at H
      have c6b0 : decide (x7_2 < (l0.length : Int)) = true := decide_eq_true c6
      clear c6
      by_cases c7 : 0 ≤ x7_2
      ·rw [if_pos c7] at H
       have c7b0 : decide (0 ≤ x7_2) = true := decide_eq_true c7
       clear c7
       by_cases c8 : (rdOf ByteArray.empty l0 x7_2).toList = a1.toList
       ·rw [if_pos c8] at H
        have c8b0 : ((rdOf ByteArray.empty l0 x7_2).toList == a1.toList) = true := beq_iff_eq.mpr c8
        have c8b1 : ((rdOf ByteArray.empty l0 x7_2).toList != a1.toList) = false := bne_eq_false_iff_eq.mpr c8
        clear c8
        obtain rfl := Option.some.inj H
        have p794 : 0 ≤ (x7_2 : Int) := of_decide_eq_true AS
        have q794 : x7_2 < (l0.length : Int) := of_decide_eq_true AS
        obtain ⟨ad794, e794, hx794_0⟩ := Kd.at_string HR0.out x7_2 p794 q794
        cases e794
        replace p794 := eq_true p794
        replace q794 := eq_true q794
        go_wp2
        go_ret
        exact ⟨by first | rfl | (simp; done) | (simp [*]; done), DR⟩
       ·rw [if_neg c8] at H
        have c8b0 : ((rdOf ByteArray.empty l0 x7_2).toList == a1.toList) = false := beq_eq_false_iff_ne.mpr c8
        have c8b1 : ((rdOf ByteArray.empty l0 x7_2).toList != a1.toList) = true := bne_iff_ne.mpr c8
        have H' := Aside0.mk H
        clear H
        have p794 : 0 ≤ (x7_2 : Int) := of_decide_eq_true AS
        have q794 : x7_2 < (l0.length : Int) := of_decide_eq_true AS
        obtain ⟨ad794, e794, hx794_0⟩ := Kd.at_string HR0.out x7_2 p794 q794
        cases e794
        replace p794 := eq_true p794
        replace q794 := eq_true q794
        go_wp2
        go_roundg k2
        case measure => have := HJ3.out; have := HK2.out; omega
        case rel => exact ⟨(wrap64 (x7_2 + 1)), RS, H', ⟨by have := HJ3.out; have := HK2.out; omega⟩, DR⟩
      ·rw [if_neg c7] at H
       exact absurd H (by simp)
     ·rw [if_neg c6] at H
      have c6b0 : decide (x7_2 < (l0.length : Int)) = false := decide_eq_false c6
      clear c6
      obtain rfl := Option.some.inj H
      go_wp2
      go_ret
      exact ⟨by first | rfl | (simp; done) | (simp [*]; done), DR⟩
def spec_BestGo.l0 : Nat → List ByteArray → Int → Int → Int → List ByteArray → Int → Int → Option (Int)
 | 0, _, _, _, _, _, _, _ => none
 | k + 1, x0, x2, x7, x8, x12, x13, x14 => if x14 < x13 then (if 0 ≤ x14 then (if x14 < (x12.length : Int) then ((spec_NextAsk.f k x0 (rdOf ByteArray.empty x12 x14) x2).bind fun t798 => (if t798 > x8 then (spec_BestGo.l0 k x0 x2 x14 t798 x12 x13 (wrap64 (x14 + 1))) else (spec_BestGo.l0 k x0 x2 x7 x8 x12 x13 (wrap64 (x14 + 1))))) else (none)) else (none)) else (some x7)
def spec_BestGo.f (k : Nat) (l0 : List ByteArray) (l1 : List ByteArray) (a2 : Int) : Option (Int) := spec_BestGo.l0 k l0 a2 (-1) (-1) l1 (l1.length : Int) 0
theorem spec_BestGo.mono_l : ∀ k, (∀ y0 y1 y2 y3 y4 y5 y6, LeO (spec_BestGo.l0 k y0 y1 y2 y3 y4 y5 y6) (spec_BestGo.l0 (k + 1) y0 y1 y2 y3 y4 y5 y6))
 | 0 => fun _ _ _ _ _ _ _ r h => by simp [spec_BestGo.l0] at h
 | k + 1 => by
  have ih0 := spec_BestGo.mono_l k
  ·intro y0 y1 y2 y3 y4 y5 y6
   unfold spec_BestGo.l0
   repeat' first | (with_reducible first | exact ih0 _ _ _ _ _ _ _ | exact spec_NextAsk.mono _ _ _ _ | exact LeO.refl _ | exact LeO.none _ | refine LeO.ite ?_ ?_ | refine LeO.bind ?_ (fun _ => ?_)) | exact LeO.none _ | refine LeO.ite ?_ ?_ | refine LeO.bind ?_ (fun _ => ?_)
theorem spec_BestGo.mono : ∀ a0 a1 a2 k, LeO (spec_BestGo.f k a0 a1 a2) (spec_BestGo.f (k + 1) a0 a1 a2) := by
 intro a0 a1 a2 k
 have ih0 := spec_BestGo.mono_l k
 unfold spec_BestGo.f
 repeat' first | (with_reducible first | exact ih0 _ _ _ _ _ _ _ | exact spec_NextAsk.mono _ _ _ _ | exact LeO.refl _ | exact LeO.none _ | refine LeO.ite ?_ ?_ | refine LeO.bind ?_ (fun _ => ?_)) | exact LeO.none _ | refine LeO.ite ?_ ?_ | refine LeO.bind ?_ (fun _ => ?_)
theorem spec_BestGo.calls (k : Nat) (A0 : Option Addr) (c0 : Nat) (l0 : List ByteArray) (A1 : Option Addr) (c1 : Nat) (l1 : List ByteArray) (a2 : Int) (r : Int) (w : World) (hr0 : Kd.C Kd.string w A0 l0.length l0) (hc0 : l0.length ≤ c0) (hr1 : Kd.C Kd.string w A1 l1.length l1) (hc1 : l1.length ≤ c1) (h : spec_BestGo.f k l0 l1 a2 = some r) :
  Calls Try.prog 70 #[.slice A0 l0.length c0, .slice A1 l1.length c1, .int .i64 a2] w fun e w' => e = .returned (.int .i64 r) ∧ Drawn0 w w' := by
 have HR0 := Aside0.mk hr0
 have HC0 := Aside0.mk hc0
 clear hr0 hc0
 have HR1 := Aside0.mk hr1
 have HC1 := Aside0.mk hc1
 clear hr1 hc1
 have H : (spec_BestGo.l0 k l0 a2 (-1) (-1) l1 (l1.length : Int) 0) = some r := h
 clear h
 have H' := Aside0.mk H
 clear H
 go_enter Try.func70, Try.ntmps70
 go_wp2
 go_loopg [7, 8, 14] k (fun kq v7 v8 v14 w' => ∃ (x7_1 : Int) (x8_1 : Int) (x14_1 : Int), v7 = .int .i64 x7_1 ∧ v8 = .int .i64 x8_1 ∧ v14 = .int .i64 x14_1 ∧ Aside0 (spec_BestGo.l0 kq l0 a2 x7_1 x8_1 l1 (l1.length : Int) x14_1 = some r) ∧ Aside0 (kq ≤ k) ∧ Drawn0 w w')
 case atStart => exact ⟨((-1)), ((-1)), (0), RS, RS, RS, H', ⟨Nat.le_refl _⟩, DR⟩
 case round =>
  clear H'
  try clear c1
  try clear p2
  obtain ⟨x7_1, x8_1, x14_1, rfl, rfl, rfl, HA, HK1, ⟨m1, rfl⟩⟩ := hrel
  cases gk with
  | zero => exact absurd HA.out (by simp [spec_BestGo.l0])
  | succ k1 =>
   have H := HA.out
   clear HA
   simp only [spec_BestGo.l0] at H
   by_cases c4 : x14_1 < (l1.length : Int)
   ·rw [if_pos c4] at H
    have c4b0 : decide (x14_1 < (l1.length : Int)) = true := decide_eq_true c4
    clear c4
    by_cases c5 : 0 ≤ x14_1
    ·rw [if_pos c5] at H
     have c5b0 : decide (0 ≤ x14_1) = true := decide_eq_true c5
     clear c5
     by_cases c6 : x14_1 < (l1.length : Int)
     ·rw [if_pos c6] at H
      have c6b0 : decide (x14_1 < (l1.length : Int)) = true := decide_eq_true c6
      clear c6
      replace H := BS H
      obtain ⟨t798, A70, H⟩ := H
      have A7 := Aside0.mk A70
      clear A70
      by_cases c8 : t798 > x8_1
      ·rw [if_pos c8] at H
       have c8b0 : decide (x8_1 < t798) = true := decide_eq_true c8
       clear c8
       have H' := Aside0.mk H
       clear H
       have p797 : 0 ≤ (x14_1 : Int) := of_decide_eq_true AS
       have q797 : x14_1 < (l1.length : Int) := of_decide_eq_true AS
       obtain ⟨ad797, e797, hx797_0⟩ := Kd.at_string HR1.out x14_1 p797 q797
       cases e797
       replace p797 := eq_true p797
       replace q797 := eq_true q797
       go_wp2_with (first | ((with_reducible refine gate_callee (f := 89) rfl ?_); refine goesL_ (some 22) rfl rfl Try.func89 (by kernel_rfl) rfl #[.slice A0 l0.length c0, .string (rdOf ByteArray.empty l1 x14_1), .int .i64 a2] rfl AQ ?_; (with_reducible refine (spec_NextAsk.calls k1 _ _ l0 (rdOf ByteArray.empty l1 x14_1) a2 t798 _ ?side1 ?side2 A7.out).mono ?_); (case side1 => repeat (first | exact HR0.out | (with_reducible refine Kd.C_alloc ?_ _) | (with_reducible refine Kd.C_drewN ?_ _) | (with_reducible refine Kd.C_drew ?_))); (case side2 => exact HC0.out); rintro e w' ⟨rfl, ⟨nd, rfl⟩⟩; refine ⟨_, rfl, ?_⟩))
       go_roundg k1
       case measure => have := HK1.out; omega
       case rel => exact ⟨(x14_1), (t798), (wrap64 (x14_1 + 1)), RS, RS, RS, H', ⟨by have := HK1.out; omega⟩, DR⟩
      ·rw [if_neg c8] at H
       have c8b0 : decide (x8_1 < t798) = false := decide_eq_false c8
       clear c8
       have H' := Aside0.mk H
       clear H
       have p797 : 0 ≤ (x14_1 : Int) := of_decide_eq_true AS
       have q797 : x14_1 < (l1.length : Int) := of_decide_eq_true AS
       obtain ⟨ad797, e797, hx797_0⟩ := Kd.at_string HR1.out x14_1 p797 q797
       cases e797
       replace p797 := eq_true p797
       replace q797 := eq_true q797
       go_wp2_with (first | ((with_reducible refine gate_callee (f := 89) rfl ?_); refine goesL_ (some 22) rfl rfl Try.func89 (by kernel_rfl) rfl #[.slice A0 l0.length c0, .string (rdOf ByteArray.empty l1 x14_1), .int .i64 a2] rfl AQ ?_; (with_reducible refine (spec_NextAsk.calls k1 _ _ l0 (rdOf ByteArray.empty l1 x14_1) a2 t798 _ ?side1 ?side2 A7.out).mono ?_); (case side1 => repeat (first | exact HR0.out | (with_reducible refine Kd.C_alloc ?_ _) | (with_reducible refine Kd.C_drewN ?_ _) | (with_reducible refine Kd.C_drew ?_))); (case side2 => exact HC0.out); rintro e w' ⟨rfl, ⟨nd, rfl⟩⟩; refine ⟨_, rfl, ?_⟩))
       go_roundg k1
       case measure => have := HK1.out; omega
       case rel => exact ⟨(x7_1), (x8_1), (wrap64 (x14_1 + 1)), RS, RS, RS, H', ⟨by have := HK1.out; omega⟩, DR⟩
     ·rw [if_neg c6] at H
      exact absurd H (by simp)
    ·rw [if_neg c5] at H
     exact absurd H (by simp)
   ·rw [if_neg c4] at H
    have c4b0 : decide (x14_1 < (l1.length : Int)) = false := decide_eq_false c4
    clear c4
    obtain rfl := Option.some.inj H
    go_wp2
    go_ret
    exact ⟨by first | rfl | (simp; done) | (simp [*]; done), DR⟩
end Go.Proofs.Ytlokjgngjgbpmaa.G

namespace Go.Proofs.Ytlokjgngjgbpmaa.G
open Go.RowKit Go.Proofs.YtlokjgngjgbpmaaW.PrintWords Go.Proofs.YtlokjgngjgbpmaaW.PrintLast Go.Proofs.YtlokjgngjgbpmaaW.PrintMore Go.Proofs.Ytlokjgngjgbpmaa.Sh
attribute [local go_sem] max2_int min2_int max_two min_two max_three min_three max_four min_four
set_option linter.unusedVariables false
set_option linter.unusedSimpArgs false
open Go.Proofs.Ytlokjgngjgbpmaa.Mm
def spec_BestHits.l0 : Nat → List ByteArray → Int → List Bool → List ByteArray → List ByteArray → Int → Int → Option (List Bool)
 | 0, _, _, _, _, _, _, _ => none
 | k + 1, x0, x1, x5, x6, x17, x18, x19 => if x19 < x18 then (if 0 ≤ x19 then (if x19 < (x17.length : Int) then ((spec_l12Has.f k x6 (rdOf ByteArray.empty x17 x19)).bind fun t807 => (if x5.length < 140737488355328 then ((some (x5 ++ [t807] : List Bool)).bind fun y808 => (if t807 = true then (spec_BestHits.l0 k x0 x1 y808 x6 x17 x18 (wrap64 (x19 + 1))) else (if (x6.length : Int) = x1 then ((spec_BestGo.f k x0 x6 (wrap64 (x19 + 1))).bind fun t811 => ((spec_l13But.f x6 t811).bind fun t812 => (if t812.length < 8796093022208 then (spec_BestHits.l0 k x0 x1 y808 (t812 ++ [rdOf ByteArray.empty x17 x19]) x17 x18 (wrap64 (x19 + 1))) else (none)))) else (if x6.length < 8796093022208 then (spec_BestHits.l0 k x0 x1 y808 (x6 ++ [rdOf ByteArray.empty x17 x19]) x17 x18 (wrap64 (x19 + 1))) else (none))))) else (none))) else (none)) else (none)) else (some x5)
def spec_BestHits.f (k : Nat) (l0 : List ByteArray) (a1 : Int) : Option (List Bool) := (some (([] : List Bool) : List Bool)).bind fun y799 => ((spec_l13Ok.f k l0 a1).bind fun t802 => (if t802 = true then (spec_BestHits.l0 k l0 a1 y799 (([] : List ByteArray)) l0 (l0.length : Int) 0) else (some y799)))
theorem spec_BestHits.calls (k : Nat) (A0 : Option Addr) (c0 : Nat) (l0 : List ByteArray) (a1 : Int) (r : List Bool) (w : World) (hr0 : Kd.C Kd.string w A0 l0.length l0) (hc0 : l0.length ≤ c0) (h : spec_BestHits.f k l0 a1 = some r) :
  Calls Try.prog 53 #[.slice A0 l0.length c0, .int .i64 a1] w fun e w' => ∃ v0_ : Value, e = .returned (v0_) ∧ Mem w [] w' [rowR Kd.bool 4 v0_ r] := by
 have HR0 := Aside0.mk hr0
 have HC0 := Aside0.mk hc0
 clear hr0 hc0
 have HM := Mem.nil w
 have H := h
 clear h
 unfold spec_BestHits.f at H
 go_enter Try.func53, Try.ntmps53
 replace H := BLt H; obtain ⟨y799, Ny799, H⟩ := H
 replace Ny799 := Aside0.mk Ny799
 replace H := BN H; obtain ⟨t802, A4, H⟩ := H
 go_upto_if 14 with (first | ((with_reducible refine gN 10 rfl ?_); refine pL 10 Kd.bool 4 ([] : List Bool) [] (Reps.none _ _) HM rfl ?_; clear HM; intro v800 w3 HM; replace HM := HM.nm 0 rfl Ny799.out) | ((with_reducible refine gC 34 rfl ?_); refine pC (some 13) rfl #[.slice A0 l0.length c0, .int .i64 a1] rfl Try.func34 (spec_l13Ok.calls k _ _ l0 a1 t802 _ (HM.came HR0.out) HC0.out A4.out) ?_; rintro e w5 ⟨rfl, hR⟩; refine ⟨_, rfl, ?_⟩; replace HM := HM.call hR; clear hR))
 replace H := IB H
 rcases H with ⟨c6, H⟩ | ⟨c6, H⟩
 ·subst c6
  have H' := Aside0.mk H
  clear H
  go_wp2_with (first | ((with_reducible refine gN 16 rfl ?_); refine pL 16 Kd.string 9 ([] : List ByteArray) [] (Reps.none _ _) HM rfl ?_; clear HM; intro v804 w7 HM))
  go_loopg [5, 6, 19] k (fun kq v5 v6 v19 w' => ∃ (x5_1 : List Bool) (x6_1 : List ByteArray) (x19_1 : Int), v19 = .int .i64 x19_1 ∧ Aside0 (spec_BestHits.l0 kq l0 a1 x5_1 x6_1 l0 (l0.length : Int) x19_1 = some r) ∧ Aside0 (kq ≤ k) ∧ Mem w [] w' [rowR Kd.bool 4 v5 x5_1, rowR Kd.string 9 v6 x6_1])
  case atStart => exact ⟨(y799), ((([] : List ByteArray))), (0), RS, H', ⟨Nat.le_refl _⟩, (MD HM).pick [0, 1]⟩
  case round =>
   clear H' HM
   obtain ⟨x5_1, x6_1, x19_1, rfl, HA, HK1, HM⟩ := hrel
   cases gk with
   | zero => exact absurd HA.out (by simp [spec_BestHits.l0])
   | succ k1 =>
    have H := HA.out
    clear HA
    simp only [spec_BestHits.l0] at H
    go_upto_if 20 with (fail)
    replace H := IT H; rcases H with ⟨c8, H⟩ | ⟨c8, H⟩
    ·have c8b0 := decide_eq_true c8
     clear c8
     first|rw [c8b0]|(simp only [i64_w, i32_w]; rw [c8b0])|skip
     replace H := GD H; obtain ⟨c9, H⟩ := H
     have c9b0 := decide_eq_true c9
     clear c9
     replace H := GD H; obtain ⟨c10, H⟩ := H
     have c10b0 := decide_eq_true c10
     clear c10
     replace H := BN H; obtain ⟨t807, A11, H⟩ := H
     replace H := GD H; obtain ⟨c14, H⟩ := H
     have LMc14 := Aside0.mk c14
     clear c14
     replace H := BLt H; obtain ⟨y808, Ny808, H⟩ := H
     replace Ny808 := Aside0.mk Ny808
     have p806 : 0 ≤ (x19_1 : Int) := of_decide_eq_true AS
     have q806 : (x19_1 : Int) < (l0.length : Int) := of_decide_eq_true AS
     obtain ⟨ad806, e806, hx806_0⟩ := Kd.at_string (HM.came HR0.out) x19_1 p806 q806
     cases e806
     replace p806 := eq_true p806
     replace q806 := eq_true q806
     obtain ⟨Xo13, ko13, rfl⟩ := HM.rdR 1 rfl
     go_upto_if 31 with (first | ((with_reducible refine gC 68 rfl ?_); refine pC (some 26) rfl #[.slice Xo13 x6_1.length ko13, .string (rdOf ByteArray.empty l0 x19_1)] rfl Try.func68 (spec_l12Has.calls k1 _ _ x6_1 (rdOf ByteArray.empty l0 x19_1) t807 _ (HM.CR 1 rfl).2.2 (HM.CR 1 rfl).2.1 A11.out) ?_; rintro e w12 ⟨rfl, hd⟩; refine ⟨_, rfl, ?_⟩; replace HM := HM.drawn hd; clear hd) | ((with_reducible refine gN 29 rfl ?_); refine pL 29 Kd.bool 4 [t807] [.bool t807] (Reps.one (show Kd.M Kd.bool _ _ _ t807 [.bool t807] from rfl) (Reps.none _ _)) HM rfl ?_; clear HM; intro v16 w15 HM; obtain ⟨Xv16, kv16, rfl⟩ := HM.rdR 2 rfl) | ((with_reducible refine gate_builtin (b := .append) (xs := #[.tmp 27, .tmp 29]) rfl ?_); refine pA 0 (.tmp 27) (.tmp 29) 57 4 Kd.bool u5 x5_1 [t807] Xv16 ([t807].length) kv16 HM rfl Try.underlying57 info4 rfl (HM.CR 2 rfl).2.2 (by have h_ := LMc14.out; simp only [List.length_singleton]; omega) ?_; clear HM; intro v809 w17 HM; replace HM := HM.nm 0 rfl Ny808.out))
     replace H := IB H
     rcases H with ⟨c18, H⟩ | ⟨c18, H⟩
     ·subst c18
      have H' := Aside0.mk H
      clear H
      go_wp2
      go_roundg k1
      case measure => have := HK1.out; omega
      case rel => exact ⟨(y808), (x6_1), (wrap64 (x19_1 + 1)), RS, H', ⟨by have := HK1.out; omega⟩, (MD HM).pick [0, 1]⟩
     ·subst c18
      go_upto_if 35 with (fail)
      replace H := IT H; rcases H with ⟨c19, H⟩ | ⟨c19, H⟩
      ·obtain ⟨c19b0, c19b1⟩ := BE c19
       clear c19
       first|rw [c19b0]|(simp only [i64_w, i32_w]; rw [c19b0])|skip
       replace H := BN H; obtain ⟨t811, A20, H⟩ := H
       replace H := BN H; obtain ⟨t812, A22, H⟩ := H
       replace H := GD H; obtain ⟨c24, H⟩ := H
       have LMc24 := Aside0.mk c24
       clear c24
       have H' := Aside0.mk H
       clear H
       go_wp2_with (first | ((with_reducible refine gC 70 rfl ?_); refine pC (some 41) rfl #[.slice (some ad806) l0.length c0, .slice Xo13 x6_1.length ko13, .int .i64 (wrap64 (x19_1 + 1))] rfl Try.func70 (spec_BestGo.calls k1 _ _ l0 _ _ x6_1 (wrap64 (x19_1 + 1)) t811 _ (HM.came HR0.out) HC0.out (HM.CR 1 rfl).2.2 (HM.CR 1 rfl).2.1 A20.out) ?_; rintro e w21 ⟨rfl, hd⟩; refine ⟨_, rfl, ?_⟩; replace HM := HM.drawn hd; clear hd) | ((with_reducible refine gC 69 rfl ?_); refine pC (some 42) rfl #[.slice Xo13 x6_1.length ko13, .int .i64 t811] rfl Try.func69 (spec_l13But.calls _ _ x6_1 t811 t812 _ (HM.CR 1 rfl).2.2 (HM.CR 1 rfl).2.1 A22.out) ?_; rintro e w23 ⟨v813, rfl, hR⟩; refine ⟨_, rfl, ?_⟩; replace HM := HM.call hR; clear hR) | ((with_reducible refine gN 45 rfl ?_); refine pL 45 Kd.string 9 [rdOf ByteArray.empty l0 x19_1] [.string (rdOf ByteArray.empty l0 x19_1)] (Reps.one (show Kd.M Kd.string _ _ _ (rdOf ByteArray.empty l0 x19_1) [.string (rdOf ByteArray.empty l0 x19_1)] from rfl) (Reps.none _ _)) HM rfl ?_; clear HM; intro v26 w25 HM; obtain ⟨Xv26, kv26, rfl⟩ := HM.rdR 4 rfl) | ((with_reducible refine gate_builtin (b := .append) (xs := #[.tmp 43, .tmp 45]) rfl ?_); refine pA 3 (.tmp 43) (.tmp 45) 23 9 Kd.string v813 t812 [rdOf ByteArray.empty l0 x19_1] Xv26 ([rdOf ByteArray.empty l0 x19_1].length) kv26 HM rfl Try.underlying23 info9 rfl (HM.CR 4 rfl).2.2 (by have h_ := LMc24.out; simp only [List.length_singleton]; omega) ?_; clear HM; intro v816 w27 HM))
       go_roundg k1
       case measure => have := HK1.out; omega
       case rel => exact ⟨(y808), ((t812 ++ [rdOf ByteArray.empty l0 x19_1])), (wrap64 (x19_1 + 1)), RS, H', ⟨by have := HK1.out; omega⟩, (MD HM).pick [0, 3]⟩
      ·obtain ⟨c19b0, c19b1⟩ := BF c19
       first|rw [c19b0]|(simp only [i64_w, i32_w]; rw [c19b0])|skip
       replace H := GD H; obtain ⟨c28, H⟩ := H
       have LMc28 := Aside0.mk c28
       clear c28
       have H' := Aside0.mk H
       clear H
       go_wp2_with (first | ((with_reducible refine gN 45 rfl ?_); refine pL 45 Kd.string 9 [rdOf ByteArray.empty l0 x19_1] [.string (rdOf ByteArray.empty l0 x19_1)] (Reps.one (show Kd.M Kd.string _ _ _ (rdOf ByteArray.empty l0 x19_1) [.string (rdOf ByteArray.empty l0 x19_1)] from rfl) (Reps.none _ _)) HM rfl ?_; clear HM; intro v30 w29 HM; obtain ⟨Xv30, kv30, rfl⟩ := HM.rdR 3 rfl) | ((with_reducible refine gate_builtin (b := .append) (xs := #[.tmp 43, .tmp 45]) rfl ?_); refine pA 1 (.tmp 43) (.tmp 45) 23 9 Kd.string (.slice Xo13 x6_1.length ko13) x6_1 [rdOf ByteArray.empty l0 x19_1] Xv30 ([rdOf ByteArray.empty l0 x19_1].length) kv30 HM rfl Try.underlying23 info9 rfl (HM.CR 3 rfl).2.2 (by have h_ := LMc28.out; simp only [List.length_singleton]; omega) ?_; clear HM; intro v819 w31 HM))
       go_roundg k1
       case measure => have := HK1.out; omega
       case rel => exact ⟨(y808), ((x6_1 ++ [rdOf ByteArray.empty l0 x19_1])), (wrap64 (x19_1 + 1)), RS, H', ⟨by have := HK1.out; omega⟩, (MD HM).pick [0, 1]⟩
    ·have c8b0 := decide_eq_false c8
     clear c8
     first|rw [c8b0]|(simp only [i64_w, i32_w]; rw [c8b0])|skip
     obtain rfl := Option.some.inj H
     go_wp2
     go_ret
     exact ⟨_, ER, (MD HM).pick [0]⟩
 ·subst c6
  obtain rfl := Option.some.inj H
  go_wp2
  go_ret
  exact ⟨_, ER, (MD HM).pick [0]⟩
def spec_BestMisses.l0 : Nat → Int → List Bool → Int → Int → Option (Int)
 | 0, _, _, _, _ => none
 | k + 1, x5, x10, x11, x12 => if x12 < x11 then (if 0 ≤ x12 then (if x12 < (x10.length : Int) then (if rdOf false x10 x12 = true then (spec_BestMisses.l0 k x5 x10 x11 (wrap64 (x12 + 1))) else (spec_BestMisses.l0 k (wrap64 (x5 + 1)) x10 x11 (wrap64 (x12 + 1)))) else (none)) else (none)) else (some x5)
def spec_BestMisses.f (k : Nat) (l0 : List ByteArray) (a1 : Int) : Option (Int) := (spec_BestHits.f k l0 a1).bind fun t821 => (spec_BestMisses.l0 k 0 t821 (t821.length : Int) 0)
theorem spec_BestMisses.calls (k : Nat) (A0 : Option Addr) (c0 : Nat) (l0 : List ByteArray) (a1 : Int) (r : Int) (w : World) (hr0 : Kd.C Kd.string w A0 l0.length l0) (hc0 : l0.length ≤ c0) (h : spec_BestMisses.f k l0 a1 = some r) :
  Calls Try.prog 36 #[.slice A0 l0.length c0, .int .i64 a1] w fun e w' => e = .returned (.int .i64 r) ∧ Mem w [] w' [] := by
 have HR0 := Aside0.mk hr0
 have HC0 := Aside0.mk hc0
 clear hr0 hc0
 have HM := Mem.nil w
 have H := h
 clear h
 unfold spec_BestMisses.f at H
 go_enter Try.func36, Try.ntmps36
 replace H := BN H; obtain ⟨t821, A3, H⟩ := H
 have H' := Aside0.mk H
 clear H
 go_wp2_with (first | ((with_reducible refine gC 53 rfl ?_); refine pC (some 10) rfl #[.slice A0 l0.length c0, .int .i64 a1] rfl Try.func53 (spec_BestHits.calls k _ _ l0 a1 t821 _ (HM.came HR0.out) HC0.out A3.out) ?_; rintro e w4 ⟨v822, rfl, hR⟩; refine ⟨_, rfl, ?_⟩; replace HM := HM.call hR; clear hR; obtain ⟨Xo5, ko5, rfl⟩ := HM.rdR 0 rfl))
 go_loopg [5, 12] k (fun kq v5 v12 w' => ∃ (x5_1 : Int) (x12_1 : Int), v5 = .int .i64 x5_1 ∧ v12 = .int .i64 x12_1 ∧ Aside0 (spec_BestMisses.l0 kq x5_1 t821 (t821.length : Int) x12_1 = some r) ∧ Aside0 (kq ≤ k) ∧ Mem w [] w' [rowR Kd.bool 4 (.slice Xo5 t821.length ko5) t821])
 case atStart => exact ⟨(0), (0), RS, RS, H', ⟨Nat.le_refl _⟩, (MD HM).pick [0]⟩
 case round =>
  clear H' HM
  obtain ⟨x5_1, x12_1, rfl, rfl, HA, HK1, HM⟩ := hrel
  cases gk with
  | zero => exact absurd HA.out (by simp [spec_BestMisses.l0])
  | succ k1 =>
   have H := HA.out
   clear HA
   simp only [spec_BestMisses.l0] at H
   go_upto_if 13 with (fail)
   replace H := IT H; rcases H with ⟨c6, H⟩ | ⟨c6, H⟩
   ·have c6b0 := decide_eq_true c6
    clear c6
    first|rw [c6b0]|(simp only [i64_w, i32_w]; rw [c6b0])|skip
    replace H := GD H; obtain ⟨c7, H⟩ := H
    have c7b0 := decide_eq_true c7
    clear c7
    replace H := GD H; obtain ⟨c8, H⟩ := H
    have c8b0 := decide_eq_true c8
    clear c8
    have p824 : 0 ≤ (x12_1 : Int) := of_decide_eq_true AS
    have q824 : (x12_1 : Int) < (t821.length : Int) := of_decide_eq_true AS
    obtain ⟨ad824, e824, hx824_0⟩ := Kd.at_bool (HM.CR 0 rfl).2.2 x12_1 p824 q824
    cases e824
    replace p824 := eq_true p824
    replace q824 := eq_true q824
    go_upto_if 17 with (fail)
    replace H := IT H; rcases H with ⟨c9, H⟩ | ⟨c9, H⟩
    ·have c9b0 : rdOf false t821 x12_1 = true := c9
     clear c9
     first|rw [c9b0]|(simp only [i64_w, i32_w]; rw [c9b0])|skip
     have H' := Aside0.mk H
     clear H
     go_wp2
     go_roundg k1
     case measure => have := HK1.out; omega
     case rel => exact ⟨(x5_1), (wrap64 (x12_1 + 1)), RS, RS, H', ⟨by have := HK1.out; omega⟩, (MD HM).pick [0]⟩
    ·have c9b0 : rdOf false t821 x12_1 = false := by simpa using c9
     clear c9
     first|rw [c9b0]|(simp only [i64_w, i32_w]; rw [c9b0])|skip
     have H' := Aside0.mk H
     clear H
     go_wp2
     go_roundg k1
     case measure => have := HK1.out; omega
     case rel => exact ⟨(wrap64 (x5_1 + 1)), (wrap64 (x12_1 + 1)), RS, RS, H', ⟨by have := HK1.out; omega⟩, (MD HM).pick [0]⟩
   ·have c6b0 := decide_eq_false c6
    clear c6
    first|rw [c6b0]|(simp only [i64_w, i32_w]; rw [c6b0])|skip
    obtain rfl := Option.some.inj H
    go_wp2
    go_ret
    exact ⟨ER, (MD HM).pick []⟩
def spec_l10At.l0 : Nat → ByteArray → List (S67) → Int → Int → Option (Int)
 | 0, _, _, _, _ => none
 | k + 1, x1, x7, x8, x9 => if x9 < x8 then (if 0 ≤ x9 then (if x9 < (x7.length : Int) then (if ((rd_T67 x7 x9).f0).toList = x1.toList then (some x9) else (spec_l10At.l0 k x1 x7 x8 (wrap64 (x9 + 1)))) else (none)) else (none)) else (some (-1))
def spec_l10At.f (k : Nat) (l0 : List (S67)) (a1 : ByteArray) : Option (Int) := spec_l10At.l0 k a1 l0 (l0.length : Int) 0
theorem spec_l10At.calls (k : Nat) (A0 : Option Addr) (c0 : Nat) (l0 : List (S67)) (a1 : ByteArray) (r : Int) (w : World) (hr0 : Kd.C k67 w A0 l0.length l0) (hc0 : l0.length ≤ c0) (h : spec_l10At.f k l0 a1 = some r) :
  Calls Try.prog 104 #[.slice A0 l0.length c0, .string a1] w fun e w' => e = .returned (.int .i64 r) ∧ Mem w [] w' [] := by
 have hu67 := Try.underlying67
 have HR0 := Aside0.mk hr0
 have HC0 := Aside0.mk hc0
 clear hr0 hc0
 have HM := Mem.nil w
 have H := h
 clear h
 unfold spec_l10At.f at H
 go_enter Try.func104, Try.ntmps104
 have H' := Aside0.mk H
 clear H
 go_wp2
 go_loopg [9] k (fun kq v9 w' => ∃ (x9_1 : Int), v9 = .int .i64 x9_1 ∧ Aside0 (spec_l10At.l0 kq a1 l0 (l0.length : Int) x9_1 = some r) ∧ Aside0 (kq ≤ k) ∧ Mem w [] w' [])
 case atStart => exact ⟨(0), RS, H', ⟨Nat.le_refl _⟩, (MD HM).pick []⟩
 case round =>
  clear H' HM
  obtain ⟨x9_1, rfl, HA, HK1, HM⟩ := hrel
  cases gk with
  | zero => exact absurd HA.out (by simp [spec_l10At.l0])
  | succ k1 =>
   have H := HA.out
   clear HA
   simp only [spec_l10At.l0] at H
   go_upto_if 10 with (fail)
   replace H := IT H; rcases H with ⟨c3, H⟩ | ⟨c3, H⟩
   ·have c3b0 := decide_eq_true c3
    clear c3
    first|rw [c3b0]|(simp only [i64_w, i32_w]; rw [c3b0])|skip
    replace H := GD H; obtain ⟨c4, H⟩ := H
    have c4b0 := decide_eq_true c4
    clear c4
    replace H := GD H; obtain ⟨c5, H⟩ := H
    have c5b0 := decide_eq_true c5
    clear c5
    have p825 : 0 ≤ (x9_1 : Int) := of_decide_eq_true AS
    have q825 : (x9_1 : Int) < (l0.length : Int) := of_decide_eq_true AS
    obtain ⟨ad825, e825, hx825_0, hx825_1, hx825_2⟩ := at_T67 (HM.came HR0.out) x9_1 p825 q825
    cases e825
    replace p825 := eq_true p825
    replace q825 := eq_true q825
    go_upto_if 17 with (first | ((with_reducible refine gN 6 rfl ?_); refine pB 6 67 [.string (⟨#[]⟩ : ByteArray), .string (⟨#[]⟩ : ByteArray), .int .i64 0] HM rfl ?_; clear HM; intro gb826 w6 HM) | ((with_reducible refine gS 6 rfl ?_); refine pS 0 6 0 [.string ((rd_T67 l0 x9_1).f0), .string ((rd_T67 l0 x9_1).f1), .int .i64 ((rd_T67 l0 x9_1).f2)] HM rfl rfl ?_; clear HM; intro w7 HM; obtain ⟨_,_,_,_,_,_⟩ := bk3 (HM.bx 0 rfl)))
    replace HM := nzM HM
    replace H := IT H; rcases H with ⟨c9, H⟩ | ⟨c9, H⟩
    ·obtain ⟨c9b0, c9b1⟩ := BE c9
     clear c9
     first|rw [c9b0]|(simp only [i64_w, i32_w]; rw [c9b0])|skip
     obtain rfl := Option.some.inj H
     go_wp2
     go_ret
     exact ⟨ER, (MD HM).pick []⟩
    ·obtain ⟨c9b0, c9b1⟩ := BF c9
     first|rw [c9b0]|(simp only [i64_w, i32_w]; rw [c9b0])|skip
     have H' := Aside0.mk H
     clear H
     go_wp2
     go_roundg k1
     case measure => have := HK1.out; omega
     case rel => exact ⟨(wrap64 (x9_1 + 1)), RS, H', ⟨by have := HK1.out; omega⟩, (MD HM).pick []⟩
   ·have c3b0 := decide_eq_false c3
    clear c3
    first|rw [c3b0]|(simp only [i64_w, i32_w]; rw [c3b0])|skip
    obtain rfl := Option.some.inj H
    go_wp2
    go_ret
    exact ⟨ER, (MD HM).pick []⟩
mutual
def spec_RowOk.j0 : Nat → Bool → Int → Int → List (S67) → Option (Bool)
 | 0, _, _, _, _ => none
 | k + 1, x26, x828000, x828001, x828002 => if x26 = true then (some false) else (spec_RowOk.l0 k x828002 (x828002.length : Int) 0 x828000 x828001 x828002)
def spec_RowOk.l0 : Nat → List (S67) → Int → Int → Int → Int → List (S67) → Option (Bool)
 | 0, _, _, _, _, _, _ => none
 | k + 1, x28, x29, x30, x828000, x828001, x828002 => if x30 < x29 then (if 0 ≤ x30 then (if x30 < (x28.length : Int) then ((spec_ItemOk.f k ((rd_T67 x28 x30).f0) ((rd_T67 x28 x30).f1) ((rd_T67 x28 x30).f2)).bind fun t831 => (if t831 = true then ((spec_l10At.f k x828002 ((rd_T67 x28 x30).f0)).bind fun t832 => (if t832 = x30 then (if ((rd_T67 x28 x30).f2) > 1 then (some false) else (if ((rd_T67 x28 x30).f2) = 1 then (if x828000 = 3 then (spec_RowOk.l0 k x28 x29 (wrap64 (x30 + 1)) x828000 x828001 x828002) else (some false)) else (spec_RowOk.l0 k x28 x29 (wrap64 (x30 + 1)) x828000 x828001 x828002))) else (some false))) else (some false))) else (none)) else (none)) else (some true)
end
def spec_RowOk.f (k : Nat) (a0_0 : Int) (a0_1 : Int) (l0_2 : List (S67)) : Option (Bool) := if a0_0 < 1 then (spec_RowOk.j0 k true a0_0 a0_1 l0_2) else (if a0_0 > 3 then (spec_RowOk.j0 k true a0_0 a0_1 l0_2) else ((spec_l01In.f a0_1 1 60).bind fun t828 => (if t828 = true then (spec_RowOk.j0 k (decide ((l0_2.length : Int) > a0_1)) a0_0 a0_1 l0_2) else (spec_RowOk.j0 k true a0_0 a0_1 l0_2))))
theorem spec_RowOk.calls (k : Nat) (a0_0 : Int) (a0_1 : Int) (A0_2 : Option Addr) (c0_2 : Nat) (l0_2 : List (S67)) (r : Bool) (w : World) (hr0_2 : Kd.C k67 w A0_2 l0_2.length l0_2) (hc0_2 : l0_2.length ≤ c0_2) (h : spec_RowOk.f k a0_0 a0_1 l0_2 = some r) :
  Calls Try.prog 90 #[.agg #[.int .i64 a0_0, .int .i64 a0_1, .slice A0_2 l0_2.length c0_2]] w fun e w' => e = .returned (.bool r) ∧ Mem w [] w' [] := by
 have hu75 := Try.underlying75
 have hu67 := Try.underlying67
 have HR0_2 := Aside0.mk hr0_2
 have HC0_2 := Aside0.mk hc0_2
 clear hr0_2 hc0_2
 have HM := Mem.nil w
 have H := h
 clear h
 unfold spec_RowOk.f at H
 go_enter Try.func90, Try.ntmps90
 have HC3 := Aside0.mk H
 clear H
 go_upto_region 1 with (first | ((with_reducible refine gN 1 rfl ?_); refine pB 1 75 [.int .i64 a0_0, .int .i64 a0_1, .slice A0_2 l0_2.length c0_2] HM rfl ?_; clear HM; intro gb827 w2 HM))
 go_cut [26] (fun v26 wc => ∃ (kq : Nat) (x26_2 : Bool), v26 = .bool x26_2 ∧ Aside0 (spec_RowOk.j0 kq x26_2 a0_0 a0_1 l0_2 = some r) ∧ Aside0 (kq ≤ k) ∧ Mem w [] wc [box 75 gb827 [.int .i64 a0_0, .int .i64 a0_1, .slice A0_2 l0_2.length c0_2]])
 case first =>
  have H := HC3.out
  clear HC3
  replace H := IT H; rcases H with ⟨c5, H⟩ | ⟨c5, H⟩
  ·have c5b0 := decide_eq_true c5
   clear c5
   have H' := Aside0.mk H
   clear H
   obtain ⟨_,_,_,_,_,_⟩ := bk3 (HM.bx 0 rfl)
   go_wp2
   go_meet
   case rel => exact ⟨_, (true), RS, H', ⟨by first | omega | exact Nat.le_refl _⟩, (MD HM).pick [0]⟩
  ·have c5b0 := decide_eq_false c5
   clear c5
   replace H := IT H; rcases H with ⟨c6, H⟩ | ⟨c6, H⟩
   ·have c6b0 : decide (3 < a0_0) = true := decide_eq_true c6
    clear c6
    have H' := Aside0.mk H
    clear H
    obtain ⟨_,_,_,_,_,_⟩ := bk3 (HM.bx 0 rfl)
    go_wp2
    go_meet
    case rel => exact ⟨_, (true), RS, H', ⟨by first | omega | exact Nat.le_refl _⟩, (MD HM).pick [0]⟩
   ·have c6b0 : decide (3 < a0_0) = false := decide_eq_false c6
    clear c6
    replace H := BN H; obtain ⟨t828, A7, H⟩ := H
    replace H := IB H
    rcases H with ⟨c9, H⟩ | ⟨c9, H⟩
    ·subst c9
     have H' := Aside0.mk H
     clear H
     obtain ⟨_,_,_,_,_,_⟩ := bk3 (HM.bx 0 rfl)
     go_wp2_with (first | ((with_reducible refine gC 51 rfl ?_); refine pC (some 16) rfl #[.int .i64 a0_1, .int .i64 1, .int .i64 60] rfl Try.func51 (spec_l01In.calls a0_1 1 60 true _ A7.out) ?_; rintro e w8 ⟨rfl, hd⟩; refine ⟨_, rfl, ?_⟩; replace HM := HM.drawn hd; clear hd; obtain ⟨_,_,_,_,_,_⟩ := bk3 (HM.bx 0 rfl)))
     go_meet
     case rel => exact ⟨_, (decide ((l0_2.length : Int) > a0_1)), RS, H', ⟨by first | omega | exact Nat.le_refl _⟩, (MD HM).pick [0]⟩
    ·subst c9
     have H' := Aside0.mk H
     clear H
     obtain ⟨_,_,_,_,_,_⟩ := bk3 (HM.bx 0 rfl)
     go_wp2_with (first | ((with_reducible refine gC 51 rfl ?_); refine pC (some 16) rfl #[.int .i64 a0_1, .int .i64 1, .int .i64 60] rfl Try.func51 (spec_l01In.calls a0_1 1 60 false _ A7.out) ?_; rintro e w8 ⟨rfl, hd⟩; refine ⟨_, rfl, ?_⟩; replace HM := HM.drawn hd; clear hd))
     go_meet
     case rel => exact ⟨_, (true), RS, H', ⟨by first | omega | exact Nat.le_refl _⟩, (MD HM).pick [0]⟩
 case rest =>
  clear HC3 HM
  obtain ⟨kq, x26_2, rfl, HA, HJ2, HM⟩ := hcut
  cases kq with
  | zero => exact absurd HA.out (by simp [spec_RowOk.j0])
  | succ kj2 =>
   have H := HA.out
   clear HA
   simp only [spec_RowOk.j0] at H
   go_upto_if 26 with (fail)
   replace H := IB H
   rcases H with ⟨c11, H⟩ | ⟨c11, H⟩
   ·subst c11
    obtain rfl := Option.some.inj H
    go_wp2
    go_ret
    exact ⟨ER, (MD HM).pick []⟩
   ·subst c11
    have H' := Aside0.mk H
    clear H
    obtain ⟨_,_,_,_,_,_⟩ := bk3 (HM.bx 0 rfl)
    go_wp2
    go_loopg [30] kj2 (fun kq v30 w' => ∃ (x30_2 : Int), v30 = .int .i64 x30_2 ∧ Aside0 (spec_RowOk.l0 kq l0_2 (l0_2.length : Int) x30_2 a0_0 a0_1 l0_2 = some r) ∧ Aside0 (kq ≤ kj2) ∧ Mem w [] w' [box 75 gb827 [.int .i64 a0_0, .int .i64 a0_1, .slice A0_2 l0_2.length c0_2]])
    case atStart => exact ⟨(0), RS, H', ⟨Nat.le_refl _⟩, (MD HM).pick [0]⟩
    case round =>
     clear H' HM
     obtain ⟨x30_2, rfl, HA, HK2, HM⟩ := hrel
     cases gk with
     | zero => exact absurd HA.out (by simp [spec_RowOk.l0])
     | succ k2 =>
      have H := HA.out
      clear HA
      simp only [spec_RowOk.l0] at H
      go_upto_if 31 with (fail)
      replace H := IT H; rcases H with ⟨c13, H⟩ | ⟨c13, H⟩
      ·have c13b0 := decide_eq_true c13
       clear c13
       first|rw [c13b0]|(simp only [i64_w, i32_w]; rw [c13b0])|skip
       replace H := GD H; obtain ⟨c14, H⟩ := H
       have c14b0 := decide_eq_true c14
       clear c14
       replace H := GD H; obtain ⟨c15, H⟩ := H
       have c15b0 := decide_eq_true c15
       clear c15
       replace H := BN H; obtain ⟨t831, A19, H⟩ := H
       replace H := IB H
       rcases H with ⟨c21, H⟩ | ⟨c21, H⟩
       ·subst c21
        replace H := BN H; obtain ⟨t832, A24, H⟩ := H
        replace H := IT H; rcases H with ⟨c26, H⟩ | ⟨c26, H⟩
        ·obtain ⟨c26b0, c26b1⟩ := BE c26
         clear c26
         replace H := IT H; rcases H with ⟨c28, H⟩ | ⟨c28, H⟩
         ·have c28b0 : decide (1 < ((rd_T67 l0_2 x30_2).f2)) = true := decide_eq_true c28
          clear c28
          obtain rfl := Option.some.inj H
          have p829 : 0 ≤ (x30_2 : Int) := of_decide_eq_true AS
          have q829 : (x30_2 : Int) < (l0_2.length : Int) := of_decide_eq_true AS
          obtain ⟨ad829, e829, hx829_0, hx829_1, hx829_2⟩ := at_T67 (HM.came HR0_2.out) x30_2 p829 q829
          cases e829
          replace p829 := eq_true p829
          replace q829 := eq_true q829
          go_wp2_with (first | ((with_reducible refine gN 4 rfl ?_); refine pB 4 67 [.string (⟨#[]⟩ : ByteArray), .string (⟨#[]⟩ : ByteArray), .int .i64 0] HM rfl ?_; clear HM; intro gb830 w16 HM) | ((with_reducible refine gS 4 rfl ?_); refine pS 1 4 0 [.string ((rd_T67 l0_2 x30_2).f0), .string ((rd_T67 l0_2 x30_2).f1), .int .i64 ((rd_T67 l0_2 x30_2).f2)] HM rfl rfl ?_; clear HM; intro w17 HM; obtain ⟨_,_,_,_,_,_⟩ := bk3 (HM.bx 1 rfl)) | ((with_reducible refine gC 67 rfl ?_); refine pC (some 36) rfl #[.agg #[.string ((rd_T67 l0_2 x30_2).f0), .string ((rd_T67 l0_2 x30_2).f1), .int .i64 ((rd_T67 l0_2 x30_2).f2)]] rfl Try.func67 (spec_ItemOk.calls k2 ((rd_T67 l0_2 x30_2).f0) ((rd_T67 l0_2 x30_2).f1) ((rd_T67 l0_2 x30_2).f2) true _ A19.out) ?_; rintro e w20 ⟨rfl, hR⟩; refine ⟨_, rfl, ?_⟩; replace HM := HM.call hR; clear hR; obtain ⟨_,_,_,_,_,_⟩ := bk3 (HM.bx 0 rfl); obtain ⟨_,_,_,_,_,_⟩ := bk3 (HM.bx 1 rfl)) | ((with_reducible refine gC 104 rfl ?_); refine pC (some 43) rfl #[.slice (some ad829) l0_2.length c0_2, .string ((rd_T67 l0_2 x30_2).f0)] rfl Try.func104 (spec_l10At.calls k2 _ _ l0_2 ((rd_T67 l0_2 x30_2).f0) t832 _ (HM.came HR0_2.out) HC0_2.out A24.out) ?_; rintro e w25 ⟨rfl, hR⟩; refine ⟨_, rfl, ?_⟩; replace HM := HM.call hR; clear hR; obtain ⟨_,_,_,_,_,_⟩ := bk3 (HM.bx 1 rfl)))
          go_ret
          exact ⟨ER, (MD HM).pick []⟩
         ·have c28b0 : decide (1 < ((rd_T67 l0_2 x30_2).f2)) = false := decide_eq_false c28
          clear c28
          replace H := IT H; rcases H with ⟨c29, H⟩ | ⟨c29, H⟩
          ·obtain ⟨c29b0, c29b1⟩ := BE c29
           clear c29
           have p829 : 0 ≤ (x30_2 : Int) := of_decide_eq_true AS
           have q829 : (x30_2 : Int) < (l0_2.length : Int) := of_decide_eq_true AS
           obtain ⟨ad829, e829, hx829_0, hx829_1, hx829_2⟩ := at_T67 (HM.came HR0_2.out) x30_2 p829 q829
           cases e829
           replace p829 := eq_true p829
           replace q829 := eq_true q829
           go_upto_if 61 with (first | ((with_reducible refine gN 4 rfl ?_); refine pB 4 67 [.string (⟨#[]⟩ : ByteArray), .string (⟨#[]⟩ : ByteArray), .int .i64 0] HM rfl ?_; clear HM; intro gb830 w16 HM) | ((with_reducible refine gS 4 rfl ?_); refine pS 1 4 0 [.string ((rd_T67 l0_2 x30_2).f0), .string ((rd_T67 l0_2 x30_2).f1), .int .i64 ((rd_T67 l0_2 x30_2).f2)] HM rfl rfl ?_; clear HM; intro w17 HM; obtain ⟨_,_,_,_,_,_⟩ := bk3 (HM.bx 1 rfl)) | ((with_reducible refine gC 67 rfl ?_); refine pC (some 36) rfl #[.agg #[.string ((rd_T67 l0_2 x30_2).f0), .string ((rd_T67 l0_2 x30_2).f1), .int .i64 ((rd_T67 l0_2 x30_2).f2)]] rfl Try.func67 (spec_ItemOk.calls k2 ((rd_T67 l0_2 x30_2).f0) ((rd_T67 l0_2 x30_2).f1) ((rd_T67 l0_2 x30_2).f2) true _ A19.out) ?_; rintro e w20 ⟨rfl, hR⟩; refine ⟨_, rfl, ?_⟩; replace HM := HM.call hR; clear hR; obtain ⟨_,_,_,_,_,_⟩ := bk3 (HM.bx 0 rfl); obtain ⟨_,_,_,_,_,_⟩ := bk3 (HM.bx 1 rfl)) | ((with_reducible refine gC 104 rfl ?_); refine pC (some 43) rfl #[.slice (some ad829) l0_2.length c0_2, .string ((rd_T67 l0_2 x30_2).f0)] rfl Try.func104 (spec_l10At.calls k2 _ _ l0_2 ((rd_T67 l0_2 x30_2).f0) t832 _ (HM.came HR0_2.out) HC0_2.out A24.out) ?_; rintro e w25 ⟨rfl, hR⟩; refine ⟨_, rfl, ?_⟩; replace HM := HM.call hR; clear hR; obtain ⟨_,_,_,_,_,_⟩ := bk3 (HM.bx 1 rfl); obtain ⟨_,_,_,_,_,_⟩ := bk3 (HM.bx 0 rfl)))
           replace HM := nzM HM
           replace H := IT H; rcases H with ⟨c31, H⟩ | ⟨c31, H⟩
           ·obtain ⟨c31b0, c31b1⟩ := BE c31
            clear c31
            first|rw [c31b0]|(simp only [i64_w, i32_w]; rw [c31b0])|skip
            have H' := Aside0.mk H
            clear H
            go_wp2
            go_roundg k2
            case measure => have := HJ2.out; have := HK2.out; omega
            case rel => exact ⟨(wrap64 (x30_2 + 1)), RS, H', ⟨by have := HJ2.out; have := HK2.out; omega⟩, (MD HM).pick [0]⟩
           ·obtain ⟨c31b0, c31b1⟩ := BF c31
            first|rw [c31b0]|(simp only [i64_w, i32_w]; rw [c31b0])|skip
            obtain rfl := Option.some.inj H
            go_wp2
            go_ret
            exact ⟨ER, (MD HM).pick []⟩
          ·obtain ⟨c29b0, c29b1⟩ := BF c29
           have H' := Aside0.mk H
           clear H
           have p829 : 0 ≤ (x30_2 : Int) := of_decide_eq_true AS
           have q829 : (x30_2 : Int) < (l0_2.length : Int) := of_decide_eq_true AS
           obtain ⟨ad829, e829, hx829_0, hx829_1, hx829_2⟩ := at_T67 (HM.came HR0_2.out) x30_2 p829 q829
           cases e829
           replace p829 := eq_true p829
           replace q829 := eq_true q829
           go_wp2_with (first | ((with_reducible refine gN 4 rfl ?_); refine pB 4 67 [.string (⟨#[]⟩ : ByteArray), .string (⟨#[]⟩ : ByteArray), .int .i64 0] HM rfl ?_; clear HM; intro gb830 w16 HM) | ((with_reducible refine gS 4 rfl ?_); refine pS 1 4 0 [.string ((rd_T67 l0_2 x30_2).f0), .string ((rd_T67 l0_2 x30_2).f1), .int .i64 ((rd_T67 l0_2 x30_2).f2)] HM rfl rfl ?_; clear HM; intro w17 HM; obtain ⟨_,_,_,_,_,_⟩ := bk3 (HM.bx 1 rfl)) | ((with_reducible refine gC 67 rfl ?_); refine pC (some 36) rfl #[.agg #[.string ((rd_T67 l0_2 x30_2).f0), .string ((rd_T67 l0_2 x30_2).f1), .int .i64 ((rd_T67 l0_2 x30_2).f2)]] rfl Try.func67 (spec_ItemOk.calls k2 ((rd_T67 l0_2 x30_2).f0) ((rd_T67 l0_2 x30_2).f1) ((rd_T67 l0_2 x30_2).f2) true _ A19.out) ?_; rintro e w20 ⟨rfl, hR⟩; refine ⟨_, rfl, ?_⟩; replace HM := HM.call hR; clear hR; obtain ⟨_,_,_,_,_,_⟩ := bk3 (HM.bx 0 rfl); obtain ⟨_,_,_,_,_,_⟩ := bk3 (HM.bx 1 rfl)) | ((with_reducible refine gC 104 rfl ?_); refine pC (some 43) rfl #[.slice (some ad829) l0_2.length c0_2, .string ((rd_T67 l0_2 x30_2).f0)] rfl Try.func104 (spec_l10At.calls k2 _ _ l0_2 ((rd_T67 l0_2 x30_2).f0) t832 _ (HM.came HR0_2.out) HC0_2.out A24.out) ?_; rintro e w25 ⟨rfl, hR⟩; refine ⟨_, rfl, ?_⟩; replace HM := HM.call hR; clear hR; obtain ⟨_,_,_,_,_,_⟩ := bk3 (HM.bx 1 rfl)))
           go_roundg k2
           case measure => have := HJ2.out; have := HK2.out; omega
           case rel => exact ⟨(wrap64 (x30_2 + 1)), RS, H', ⟨by have := HJ2.out; have := HK2.out; omega⟩, (MD HM).pick [0]⟩
        ·obtain ⟨c26b0, c26b1⟩ := BF c26
         obtain rfl := Option.some.inj H
         have p829 : 0 ≤ (x30_2 : Int) := of_decide_eq_true AS
         have q829 : (x30_2 : Int) < (l0_2.length : Int) := of_decide_eq_true AS
         obtain ⟨ad829, e829, hx829_0, hx829_1, hx829_2⟩ := at_T67 (HM.came HR0_2.out) x30_2 p829 q829
         cases e829
         replace p829 := eq_true p829
         replace q829 := eq_true q829
         go_wp2_with (first | ((with_reducible refine gN 4 rfl ?_); refine pB 4 67 [.string (⟨#[]⟩ : ByteArray), .string (⟨#[]⟩ : ByteArray), .int .i64 0] HM rfl ?_; clear HM; intro gb830 w16 HM) | ((with_reducible refine gS 4 rfl ?_); refine pS 1 4 0 [.string ((rd_T67 l0_2 x30_2).f0), .string ((rd_T67 l0_2 x30_2).f1), .int .i64 ((rd_T67 l0_2 x30_2).f2)] HM rfl rfl ?_; clear HM; intro w17 HM; obtain ⟨_,_,_,_,_,_⟩ := bk3 (HM.bx 1 rfl)) | ((with_reducible refine gC 67 rfl ?_); refine pC (some 36) rfl #[.agg #[.string ((rd_T67 l0_2 x30_2).f0), .string ((rd_T67 l0_2 x30_2).f1), .int .i64 ((rd_T67 l0_2 x30_2).f2)]] rfl Try.func67 (spec_ItemOk.calls k2 ((rd_T67 l0_2 x30_2).f0) ((rd_T67 l0_2 x30_2).f1) ((rd_T67 l0_2 x30_2).f2) true _ A19.out) ?_; rintro e w20 ⟨rfl, hR⟩; refine ⟨_, rfl, ?_⟩; replace HM := HM.call hR; clear hR; obtain ⟨_,_,_,_,_,_⟩ := bk3 (HM.bx 0 rfl); obtain ⟨_,_,_,_,_,_⟩ := bk3 (HM.bx 1 rfl)) | ((with_reducible refine gC 104 rfl ?_); refine pC (some 43) rfl #[.slice (some ad829) l0_2.length c0_2, .string ((rd_T67 l0_2 x30_2).f0)] rfl Try.func104 (spec_l10At.calls k2 _ _ l0_2 ((rd_T67 l0_2 x30_2).f0) t832 _ (HM.came HR0_2.out) HC0_2.out A24.out) ?_; rintro e w25 ⟨rfl, hR⟩; refine ⟨_, rfl, ?_⟩; replace HM := HM.call hR; clear hR))
         go_ret
         exact ⟨ER, (MD HM).pick []⟩
       ·subst c21
        obtain rfl := Option.some.inj H
        have p829 : 0 ≤ (x30_2 : Int) := of_decide_eq_true AS
        have q829 : (x30_2 : Int) < (l0_2.length : Int) := of_decide_eq_true AS
        obtain ⟨ad829, e829, hx829_0, hx829_1, hx829_2⟩ := at_T67 (HM.came HR0_2.out) x30_2 p829 q829
        cases e829
        replace p829 := eq_true p829
        replace q829 := eq_true q829
        go_wp2_with (first | ((with_reducible refine gN 4 rfl ?_); refine pB 4 67 [.string (⟨#[]⟩ : ByteArray), .string (⟨#[]⟩ : ByteArray), .int .i64 0] HM rfl ?_; clear HM; intro gb830 w16 HM) | ((with_reducible refine gS 4 rfl ?_); refine pS 1 4 0 [.string ((rd_T67 l0_2 x30_2).f0), .string ((rd_T67 l0_2 x30_2).f1), .int .i64 ((rd_T67 l0_2 x30_2).f2)] HM rfl rfl ?_; clear HM; intro w17 HM; obtain ⟨_,_,_,_,_,_⟩ := bk3 (HM.bx 1 rfl)) | ((with_reducible refine gC 67 rfl ?_); refine pC (some 36) rfl #[.agg #[.string ((rd_T67 l0_2 x30_2).f0), .string ((rd_T67 l0_2 x30_2).f1), .int .i64 ((rd_T67 l0_2 x30_2).f2)]] rfl Try.func67 (spec_ItemOk.calls k2 ((rd_T67 l0_2 x30_2).f0) ((rd_T67 l0_2 x30_2).f1) ((rd_T67 l0_2 x30_2).f2) false _ A19.out) ?_; rintro e w20 ⟨rfl, hR⟩; refine ⟨_, rfl, ?_⟩; replace HM := HM.call hR; clear hR))
        go_ret
        exact ⟨ER, (MD HM).pick []⟩
      ·have c13b0 := decide_eq_false c13
       clear c13
       first|rw [c13b0]|(simp only [i64_w, i32_w]; rw [c13b0])|skip
       obtain rfl := Option.some.inj H
       go_wp2
       go_ret
       exact ⟨ER, (MD HM).pick []⟩
def spec_RowNew.f (k : Nat) (a0 : Int) (a1 : Int) : Option (Int × Int × (List (S67)) × Bool) := (spec_RowOk.f k a0 a1 ([] : List (S67))).bind fun t835 => (if t835 = true then (some (a0, a1, ([] : List (S67)), true)) else (some (0, 0, ([] : List (S67)), false)))
theorem spec_RowNew.calls (k : Nat) (a0 : Int) (a1 : Int) (r1 : Int) (r2 : Int) (r3 : List (S67)) (r4 : Bool) (w : World)  (h : spec_RowNew.f k a0 a1 = some (r1, r2, r3, r4)) :
  Calls Try.prog 71 #[.int .i64 a0, .int .i64 a1] w fun e w' => ∃ v2_ : Value, e = .returned (.tuple #[.agg #[.int .i64 r1, .int .i64 r2, v2_], .bool r4]) ∧ Mem w [] w' [rowR k67 67 v2_ r3] := by
 have hu75 := Try.underlying75
 have HM := Mem.nil w
 have H := h
 clear h
 unfold spec_RowNew.f at H
 go_enter Try.func71, Try.ntmps71
 replace H := BN H; obtain ⟨t835, A7, H⟩ := H
 go_upto_if 12 with (first | ((with_reducible refine gN 4 rfl ?_); refine pB 4 75 [.int .i64 0, .int .i64 0, .slice none 0 0] HM rfl ?_; clear HM; intro gb833 w3 HM) | ((with_reducible refine gN 6 rfl ?_); refine pB 6 75 [.int .i64 0, .int .i64 0, .slice none 0 0] HM rfl ?_; clear HM; intro gb834 w4 HM) | ((with_reducible refine gS 6 rfl ?_); refine pS 1 6 0 [.int .i64 a0, .int .i64 a1, .slice none 0 0] HM rfl rfl ?_; clear HM; intro w5 HM; obtain ⟨_,_,_,_,_,_⟩ := bk3 (HM.bx 1 rfl)) | ((with_reducible refine gC 90 rfl ?_); refine pC (some 11) rfl #[.agg #[.int .i64 a0, .int .i64 a1, .slice none 0 0]] rfl Try.func90 (spec_RowOk.calls k a0 a1 _ _ ([] : List (S67)) t835 _ (Kd.C_nil _ _) (Nat.le_refl _) A7.out) ?_; rintro e w8 ⟨rfl, hR⟩; refine ⟨_, rfl, ?_⟩; replace HM := HM.call hR; clear hR))
 replace HM := nzM HM
 replace H := IB H
 rcases H with ⟨c9, H⟩ | ⟨c9, H⟩
 ·subst c9
  simp only [Option.some.injEq, Prod.mk.injEq] at H
  obtain ⟨rfl, rfl, rfl, rfl⟩ := H
  obtain ⟨_,_,_,_,_,_⟩ := bk3 (HM.bx 1 rfl)
  go_wp2_with (first | ((with_reducible refine gS 4 rfl ?_); refine pS 0 4 0 [.int .i64 a0, .int .i64 a1, .slice none 0 0] HM rfl rfl ?_; clear HM; intro w11 HM; replace HM := HM.nl k67 67))
  refine bodyPost_ret (results_ct rfl _ _ gb833 75 #[.int .i64 a0, .int .i64 a1, .slice none 0 0] (0, 0) _ rfl (HM.bx 0 rfl) Try.underlying75 rfl (by kernel_rfl)) rfl ?_
  exact ⟨_, ER, (MD HM).pick [2]⟩
 ·subst c9
  simp only [Option.some.injEq, Prod.mk.injEq] at H
  obtain ⟨rfl, rfl, rfl, rfl⟩ := H
  go_wp2_with (first | ((with_reducible refine gS 4 rfl ?_); refine pS 0 4 0 [.int .i64 0, .int .i64 0, .slice none 0 0] HM rfl rfl ?_; clear HM; intro w12 HM; replace HM := HM.nl k67 67))
  refine bodyPost_ret (results_ct rfl _ _ gb833 75 #[.int .i64 0, .int .i64 0, .slice none 0 0] (0, 0) _ rfl (HM.bx 0 rfl) Try.underlying75 rfl (by kernel_rfl)) rfl ?_
  exact ⟨_, ER, (MD HM).pick [2]⟩
end Go.Proofs.Ytlokjgngjgbpmaa.G

namespace Go.Proofs.Ytlokjgngjgbpmaa.G
open Go.RowKit Go.Proofs.YtlokjgngjgbpmaaW.PrintWords Go.Proofs.YtlokjgngjgbpmaaW.PrintLast Go.Proofs.YtlokjgngjgbpmaaW.PrintMore Go.Proofs.Ytlokjgngjgbpmaa.Sh
attribute [local go_sem] max2_int min2_int max_two min_two max_three min_three max_four min_four
set_option linter.unusedVariables false
set_option linter.unusedSimpArgs false
def spec_l01Num.f (a0 : Int) : Option (Bool) := if a0 ≥ 0 then (some (decide (a0 ≤ 4294967295))) else (some false)
theorem spec_l01Num.calls (a0 : Int) (r : Bool) (w : World) (h : spec_l01Num.f a0 = some r) :
  Calls Try.prog 52 #[.int .i64 a0] w fun e w' => e = .returned (.bool r) ∧ Drawn0 w w' := by
 have H : (if a0 ≥ 0 then (some (decide (a0 ≤ 4294967295))) else (some false)) = some r := h
 clear h
 by_cases c2 : a0 ≥ 0
 ·rw [if_pos c2] at H
  have c2b0 : decide (0 ≤ a0) = true := decide_eq_true c2
  clear c2
  obtain rfl := Option.some.inj H
  go_enter Try.func52, Try.ntmps52
  go_wp2
  go_ret
  exact ⟨by first | rfl | (simp; done) | (simp [*]; done), DR⟩
 ·rw [if_neg c2] at H
  have c2b0 : decide (0 ≤ a0) = false := decide_eq_false c2
  clear c2
  obtain rfl := Option.some.inj H
  go_enter Try.func52, Try.ntmps52
  go_wp2
  go_ret
  exact ⟨by first | rfl | (simp; done) | (simp [*]; done), DR⟩
end Go.Proofs.Ytlokjgngjgbpmaa.G

namespace Go.Proofs.Ytlokjgngjgbpmaa.G
open Go.RowKit Go.Proofs.YtlokjgngjgbpmaaW.PrintWords Go.Proofs.YtlokjgngjgbpmaaW.PrintLast Go.Proofs.YtlokjgngjgbpmaaW.PrintMore Go.Proofs.Ytlokjgngjgbpmaa.Sh
attribute [local go_sem] max2_int min2_int max_two min_two max_three min_three max_four min_four
set_option linter.unusedVariables false
set_option linter.unusedSimpArgs false
open Go.Proofs.Ytlokjgngjgbpmaa.Mm
def spec_l10Ghosts.f (a0_0 : Int) (a0_1 : Int) (l0_2 : List (S67)) (l0_3 : List (S67)) (l0_4 : List Int) : Option (Int) := if (wrap64 (a0_0 - a0_1)) < 1 then (some 1) else (some (wrap64 (a0_0 - a0_1)))
theorem spec_l10Ghosts.calls (a0_0 : Int) (a0_1 : Int) (A0_2 : Option Addr) (c0_2 : Nat) (l0_2 : List (S67)) (A0_3 : Option Addr) (c0_3 : Nat) (l0_3 : List (S67)) (A0_4 : Option Addr) (c0_4 : Nat) (l0_4 : List Int) (r : Int) (w : World) (hr0_2 : Kd.C k67 w A0_2 l0_2.length l0_2) (hc0_2 : l0_2.length ≤ c0_2) (hr0_3 : Kd.C k67 w A0_3 l0_3.length l0_3) (hc0_3 : l0_3.length ≤ c0_3) (hr0_4 : Kd.C (Kd.int .i64) w A0_4 l0_4.length l0_4) (hc0_4 : l0_4.length ≤ c0_4) (h : spec_l10Ghosts.f a0_0 a0_1 l0_2 l0_3 l0_4 = some r) :
  Calls Try.prog 105 #[.agg #[.int .i64 a0_0, .int .i64 a0_1, .slice A0_2 l0_2.length c0_2, .slice A0_3 l0_3.length c0_3, .slice A0_4 l0_4.length c0_4]] w fun e w' => e = .returned (.int .i64 r) ∧ Mem w [] w' [] := by
 have hu71 := Try.underlying71
 have HR0_2 := Aside0.mk hr0_2
 have HC0_2 := Aside0.mk hc0_2
 clear hr0_2 hc0_2
 have HR0_3 := Aside0.mk hr0_3
 have HC0_3 := Aside0.mk hc0_3
 clear hr0_3 hc0_3
 have HR0_4 := Aside0.mk hr0_4
 have HC0_4 := Aside0.mk hc0_4
 clear hr0_4 hc0_4
 have HM := Mem.nil w
 have H := h
 clear h
 unfold spec_l10Ghosts.f at H
 go_enter Try.func105, Try.ntmps105
 go_upto_if 8 with (first | ((with_reducible refine gN 1 rfl ?_); refine pB 1 71 [.int .i64 a0_0, .int .i64 a0_1, .slice A0_2 l0_2.length c0_2, .slice A0_3 l0_3.length c0_3, .slice A0_4 l0_4.length c0_4] HM rfl ?_; clear HM; intro gb838 w2 HM; obtain ⟨_,_,_,_,_,_,_,_,_,_⟩ := bk5 (HM.bx 0 rfl)))
 replace H := IT H; rcases H with ⟨c4, H⟩ | ⟨c4, H⟩
 ·have c4b0 := decide_eq_true c4
  clear c4
  first|rw [c4b0]|(simp only [i64_w, i32_w]; rw [c4b0])|skip
  obtain rfl := Option.some.inj H
  go_wp2
  go_ret
  exact ⟨ER, (MD HM).pick []⟩
 ·have c4b0 := decide_eq_false c4
  clear c4
  first|rw [c4b0]|(simp only [i64_w, i32_w]; rw [c4b0])|skip
  obtain rfl := Option.some.inj H
  go_wp2
  go_ret
  exact ⟨ER, (MD HM).pick []⟩
end Go.Proofs.Ytlokjgngjgbpmaa.G

namespace Go.Proofs.Ytlokjgngjgbpmaa.G
open Go.RowKit Go.Proofs.YtlokjgngjgbpmaaW.PrintWords Go.Proofs.YtlokjgngjgbpmaaW.PrintLast Go.Proofs.YtlokjgngjgbpmaaW.PrintMore Go.Proofs.Ytlokjgngjgbpmaa.Sh
attribute [local go_sem] max2_int min2_int max_two min_two max_three min_three max_four min_four
set_option linter.unusedVariables false
set_option linter.unusedSimpArgs false
def spec_l03Has.l0 : Nat → Int → List Int → Int → Int → Option (Bool)
 | 0, _, _, _, _ => none
 | k + 1, x1, x7, x8, x9 => if x9 < x8 then (if 0 ≤ x9 then (if x9 < (x7.length : Int) then (if (rd x7 x9) = x1 then (some true) else (spec_l03Has.l0 k x1 x7 x8 (wrap64 (x9 + 1)))) else (none)) else (none)) else (some false)
def spec_l03Has.f (k : Nat) (l0 : List Int) (a1 : Int) : Option (Bool) := spec_l03Has.l0 k a1 l0 (l0.length : Int) 0
theorem spec_l03Has.calls (k : Nat) (A0 : Option Addr) (c0 : Nat) (l0 : List Int) (a1 : Int) (r : Bool) (w : World) (hr0 : Kd.C (Kd.int .i64) w A0 l0.length l0) (hc0 : l0.length ≤ c0) (h : spec_l03Has.f k l0 a1 = some r) :
  Calls Try.prog 106 #[.slice A0 l0.length c0, .int .i64 a1] w fun e w' => e = .returned (.bool r) ∧ Drawn0 w w' := by
 have HR0 := Aside0.mk hr0
 have HC0 := Aside0.mk hc0
 clear hr0 hc0
 have H : (spec_l03Has.l0 k a1 l0 (l0.length : Int) 0) = some r := h
 clear h
 have H' := Aside0.mk H
 clear H
 go_enter Try.func106, Try.ntmps106
 go_wp2
 go_loopg [9] k (fun kq v9 w' => ∃ (x9_1 : Int), v9 = .int .i64 x9_1 ∧ Aside0 (spec_l03Has.l0 kq a1 l0 (l0.length : Int) x9_1 = some r) ∧ Aside0 (kq ≤ k) ∧ Drawn0 w w')
 case atStart => exact ⟨(0), RS, H', ⟨Nat.le_refl _⟩, DR⟩
 case round =>
  clear H'
  try clear c1
  try clear p2
  obtain ⟨x9_1, rfl, HA, HK1, ⟨m1, rfl⟩⟩ := hrel
  cases gk with
  | zero => exact absurd HA.out (by simp [spec_l03Has.l0])
  | succ k1 =>
   have H := HA.out
   clear HA
   simp only [spec_l03Has.l0] at H
   by_cases c3 : x9_1 < (l0.length : Int)
   ·rw [if_pos c3] at H
    have c3b0 : decide (x9_1 < (l0.length : Int)) = true := decide_eq_true c3
    clear c3
    by_cases c4 : 0 ≤ x9_1
    ·rw [if_pos c4] at H
     have c4b0 : decide (0 ≤ x9_1) = true := decide_eq_true c4
     clear c4
     by_cases c5 : x9_1 < (l0.length : Int)
     ·rw [if_pos c5] at H
      have c5b0 : decide (x9_1 < (l0.length : Int)) = true := decide_eq_true c5
      clear c5
      by_cases c6 : (rd l0 x9_1) = a1
      ·rw [if_pos c6] at H
       have c6b0 : ((rd l0 x9_1) == a1) = true := beq_iff_eq.mpr c6
       have c6b1 : ((rd l0 x9_1) != a1) = false := bne_eq_false_iff_eq.mpr c6
       clear c6
       obtain rfl := Option.some.inj H
       have p840 : 0 ≤ (x9_1 : Int) := of_decide_eq_true AS
       have q840 : x9_1 < (l0.length : Int) := of_decide_eq_true AS
       obtain ⟨ad840, e840, hx840_0⟩ := Kd.at_int HR0.out x9_1 p840 q840
       cases e840
       replace p840 := eq_true p840
       replace q840 := eq_true q840
       go_wp2
       go_ret
       exact ⟨by first | rfl | (simp; done) | (simp [*]; done), DR⟩
      ·rw [if_neg c6] at H
       have c6b0 : ((rd l0 x9_1) == a1) = false := beq_eq_false_iff_ne.mpr c6
       have c6b1 : ((rd l0 x9_1) != a1) = true := bne_iff_ne.mpr c6
       have H' := Aside0.mk H
       clear H
       have p840 : 0 ≤ (x9_1 : Int) := of_decide_eq_true AS
       have q840 : x9_1 < (l0.length : Int) := of_decide_eq_true AS
       obtain ⟨ad840, e840, hx840_0⟩ := Kd.at_int HR0.out x9_1 p840 q840
       cases e840
       replace p840 := eq_true p840
       replace q840 := eq_true q840
       go_wp2
       go_roundg k1
       case measure => have := HK1.out; omega
       case rel => exact ⟨(wrap64 (x9_1 + 1)), RS, H', ⟨by have := HK1.out; omega⟩, DR⟩
     ·rw [if_neg c5] at H
      exact absurd H (by simp)
    ·rw [if_neg c4] at H
     exact absurd H (by simp)
   ·rw [if_neg c3] at H
    have c3b0 : decide (x9_1 < (l0.length : Int)) = false := decide_eq_false c3
    clear c3
    obtain rfl := Option.some.inj H
    go_wp2
    go_ret
    exact ⟨by first | rfl | (simp; done) | (simp [*]; done), DR⟩
end Go.Proofs.Ytlokjgngjgbpmaa.G
