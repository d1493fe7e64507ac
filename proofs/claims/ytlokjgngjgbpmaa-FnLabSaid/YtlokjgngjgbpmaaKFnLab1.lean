/- Part 1 of the claim FnLab, merged by pack.py (this session's program) out of: the print's words, cut to what is needed; texts that gen.py printed (it runs the kit's print in place); texts of this session. -/
import Derived.Test.YtlokjgngjgbpmaaProg
import Derived.Below
import Derived.Deep.Draws
import Derived.Deep.AppendLies
import Derived.Maps.AppendAt
import Derived.OwnWalk
import Derived.Laws.BytesArg
import Derived.Laws.MakeOwn
import Derived.Laws.OwnMore
import Derived.Deep.OwnRows
import Derived.Tactics
import Derived.Lib.ConvBytes
import Derived.Laws.Slices
import Derived.WalkKit
import Derived.KernelRfl
import Derived.RowKit3
import Derived.Deep.LoopGhost
import Derived.Deep.QuietTactic
import Derived.BigQuiet
import Derived.WideLaws
import Derived.Deep.DeepCutAuto
import Derived.Deep.CutBlock
import Derived.Deep.RegionHeld3
import Derived.Laws.Rows
import Derived.Lib.AppendStr
import Derived.ArgAppend
import Derived.Laws.IdiomCopy
import Derived.OrdersHeld
import Derived.Laws.BitsLemmas
import Derived.RowKit
import Derived.Laws.StructEq
import Derived.RegionTactic
import Derived.Shelf.RegionOpenPlain
import Derived.Test.YtlokjgngjgbpmaaKFnLab0
namespace Go.Proofs.Ytlokjgngjgbpmaa.Man
end Go.Proofs.Ytlokjgngjgbpmaa.Man
namespace Go.Proofs.Ytlokjgngjgbpmaa.Mm
end Go.Proofs.Ytlokjgngjgbpmaa.Mm
namespace Go.Proofs.Ytlokjgngjgbpmaa.Sh
end Go.Proofs.Ytlokjgngjgbpmaa.Sh
namespace Go.Proofs.Ytlokjgngjgbpmaa.Sh
open Go.RowKit Go.Proofs.YtlokjgngjgbpmaaW.PrintWords Go.Proofs.YtlokjgngjgbpmaaW.PrintLast Go.Proofs.YtlokjgngjgbpmaaW.PrintMore
set_option linter.unusedVariables false
theorem AQ {P : Prop} (h : P := by (try simp only [List.map_toArray, List.map_cons, List.map_nil]); first | done | rfl | (simp only [List.length_drop, List.length_take]; rfl)) : P := h
theorem AS {P : Prop} (h : P := by first | (with_reducible assumption) | assumption) : P := h
theorem RS {P : Prop} (h : P := by first | rfl | (simp; done) | (simp [*]; done)) : P := h
theorem BS {α β : Type} {f : Option α} {g : α → Option β} {r : β} (h : f.bind g = some r) : ∃ t, f = some t ∧ g t = some r := Option.bind_eq_some_iff.mp h
theorem IP {α : Type} {c : Prop} {i : Decidable c} {a b r : α} (h : @ite α c i a b = r) (hc : c := by first | rfl | decide | simp) : a = r := by rw [if_pos hc] at h; exact h
theorem IN {α : Type} {c : Prop} {i : Decidable c} {a b r : α} (h : @ite α c i a b = r) (hc : ¬ c := by first | exact Bool.false_ne_true | decide | simp) : b = r := by rw [if_neg hc] at h; exact h
theorem ER {P : Prop} (h : P := by first | rfl | (simp [errW_none, errW_some] <;> rfl) | (simp [*, errW_none, errW_some] <;> rfl)) : P := h
theorem DR {P : Prop} (h : P := by repeat (first | exact Drawn0.refl _ | apply Drawn0.step)) : P := h
theorem HK1 {P : Prop} (h : P := by repeat (first | (with_reducible first | exact HK.out | apply Kept.alloc | apply Kept.drewN | apply Kept.drew) | exact HK.out)) : P := h
theorem bk1 {W : World} {g : Nat} {t : TypeId} {a0 : Value} (h : W.heap[g]? = some (.cells #[a0] t (0, 0))) : W.cell? ⟨g, 0, none⟩ = some a0 ∧ W.frozen? ⟨g, 0, none⟩ = false := ⟨(blk_cell h 0).trans rfl, blk_frozen h 0⟩
theorem bk3 {W : World} {g : Nat} {t : TypeId} {a0 a1 a2 : Value} (h : W.heap[g]? = some (.cells #[a0, a1, a2] t (0, 0))) : W.cell? ⟨g, 0, none⟩ = some a0 ∧ W.cell? ⟨g, 1, none⟩ = some a1 ∧ W.cell? ⟨g, 2, none⟩ = some a2 ∧ W.frozen? ⟨g, 0, none⟩ = false ∧ W.frozen? ⟨g, 1, none⟩ = false ∧ W.frozen? ⟨g, 2, none⟩ = false := ⟨(blk_cell h 0).trans rfl, (blk_cell h 1).trans rfl, (blk_cell h 2).trans rfl, blk_frozen h 0, blk_frozen h 1, blk_frozen h 2⟩
theorem bk4 {W : World} {g : Nat} {t : TypeId} {a0 a1 a2 a3 : Value} (h : W.heap[g]? = some (.cells #[a0, a1, a2, a3] t (0, 0))) : W.cell? ⟨g, 0, none⟩ = some a0 ∧ W.cell? ⟨g, 1, none⟩ = some a1 ∧ W.cell? ⟨g, 2, none⟩ = some a2 ∧ W.cell? ⟨g, 3, none⟩ = some a3 ∧ W.frozen? ⟨g, 0, none⟩ = false ∧ W.frozen? ⟨g, 1, none⟩ = false ∧ W.frozen? ⟨g, 2, none⟩ = false ∧ W.frozen? ⟨g, 3, none⟩ = false := ⟨(blk_cell h 0).trans rfl, (blk_cell h 1).trans rfl, (blk_cell h 2).trans rfl, (blk_cell h 3).trans rfl, blk_frozen h 0, blk_frozen h 1, blk_frozen h 2, blk_frozen h 3⟩
theorem bk5 {W : World} {g : Nat} {t : TypeId} {a0 a1 a2 a3 a4 : Value} (h : W.heap[g]? = some (.cells #[a0, a1, a2, a3, a4] t (0, 0))) : W.cell? ⟨g, 0, none⟩ = some a0 ∧ W.cell? ⟨g, 1, none⟩ = some a1 ∧ W.cell? ⟨g, 2, none⟩ = some a2 ∧ W.cell? ⟨g, 3, none⟩ = some a3 ∧ W.cell? ⟨g, 4, none⟩ = some a4 ∧ W.frozen? ⟨g, 0, none⟩ = false ∧ W.frozen? ⟨g, 1, none⟩ = false ∧ W.frozen? ⟨g, 2, none⟩ = false ∧ W.frozen? ⟨g, 3, none⟩ = false ∧ W.frozen? ⟨g, 4, none⟩ = false := ⟨(blk_cell h 0).trans rfl, (blk_cell h 1).trans rfl, (blk_cell h 2).trans rfl, (blk_cell h 3).trans rfl, (blk_cell h 4).trans rfl, blk_frozen h 0, blk_frozen h 1, blk_frozen h 2, blk_frozen h 3, blk_frozen h 4⟩
theorem bk8 {W : World} {g : Nat} {t : TypeId} {a0 a1 a2 a3 a4 a5 a6 a7 : Value} (h : W.heap[g]? = some (.cells #[a0, a1, a2, a3, a4, a5, a6, a7] t (0, 0))) : W.cell? ⟨g, 0, none⟩ = some a0 ∧ W.cell? ⟨g, 1, none⟩ = some a1 ∧ W.cell? ⟨g, 2, none⟩ = some a2 ∧ W.cell? ⟨g, 3, none⟩ = some a3 ∧ W.cell? ⟨g, 4, none⟩ = some a4 ∧ W.cell? ⟨g, 5, none⟩ = some a5 ∧ W.cell? ⟨g, 6, none⟩ = some a6 ∧ W.cell? ⟨g, 7, none⟩ = some a7 ∧ W.frozen? ⟨g, 0, none⟩ = false ∧ W.frozen? ⟨g, 1, none⟩ = false ∧ W.frozen? ⟨g, 2, none⟩ = false ∧ W.frozen? ⟨g, 3, none⟩ = false ∧ W.frozen? ⟨g, 4, none⟩ = false ∧ W.frozen? ⟨g, 5, none⟩ = false ∧ W.frozen? ⟨g, 6, none⟩ = false ∧ W.frozen? ⟨g, 7, none⟩ = false := ⟨(blk_cell h 0).trans rfl, (blk_cell h 1).trans rfl, (blk_cell h 2).trans rfl, (blk_cell h 3).trans rfl, (blk_cell h 4).trans rfl, (blk_cell h 5).trans rfl, (blk_cell h 6).trans rfl, (blk_cell h 7).trans rfl, blk_frozen h 0, blk_frozen h 1, blk_frozen h 2, blk_frozen h 3, blk_frozen h 4, blk_frozen h 5, blk_frozen h 6, blk_frozen h 7⟩
end Go.Proofs.Ytlokjgngjgbpmaa.Sh

namespace Go.Proofs.Ytlokjgngjgbpmaa.G
open Go.RowKit Go.Proofs.YtlokjgngjgbpmaaW.PrintWords Go.Proofs.YtlokjgngjgbpmaaW.PrintLast Go.Proofs.YtlokjgngjgbpmaaW.PrintMore Go.Proofs.Ytlokjgngjgbpmaa.Sh
attribute [local go_sem] max2_int min2_int max_two min_two max_three min_three max_four min_four
set_option linter.unusedVariables false
set_option linter.unusedSimpArgs false
def errW : Option Int → Value
 | none => .nilIface
 | some c => .iface 0 (.int .i64 c)
theorem errW_none : errW none = .nilIface := rfl
theorem errW_some (c : Int) : errW (some c) = .iface 0 (.int .i64 c) := rfl
theorem info3 : (Try.prog.info? 3).map (fun i => (i.zero, i.size, i.bytes)) = some (some (.int .i64 0), 1, 8) := by kernel_rfl
theorem info4 : (Try.prog.info? 4).map (fun i => (i.zero, i.size, i.bytes)) = some (some (.bool false), 1, 1) := by kernel_rfl
theorem info9 : (Try.prog.info? 9).map (fun i => (i.zero, i.size, i.bytes)) = some (some (.string ⟨#[]⟩), 1, 16) := by kernel_rfl
theorem info33 : (Try.prog.info? 33).map (fun i => (i.zero, i.size, i.bytes)) = some (some (.agg #[(.int .i64 0), (.int .i64 0), (.int .i64 0), (.int .i64 0), (.int .i64 0)]), 5, 40) := by kernel_rfl
theorem info67 : (Try.prog.info? 67).map (fun i => (i.zero, i.size, i.bytes)) = some (some (.agg #[(.string ⟨#[]⟩), (.string ⟨#[]⟩), (.int .i64 0)]), 3, 40) := by kernel_rfl
structure S67 where
 f0 : ByteArray
 f1 : ByteArray
 f2 : Int
def z67 : S67 := ⟨(⟨#[]⟩ : ByteArray), (⟨#[]⟩ : ByteArray), (0 : Int)⟩
def k67 : Kd S67 := Kd.iso (Kd.pair Kd.string (Kd.pair Kd.string (Kd.int .i64))) (fun x : S67 => (x.f0, x.f1, x.f2))
theorem k67_open {w : World} {x : S67} {cs : List Value} (h : k67.K w x cs) : cs = [.string x.f0, .string x.f1, .int .i64 x.f2] := by
 obtain ⟨_, _, rfl, rfl, ⟨_, _, rfl, rfl, rfl⟩⟩ := h
 exact rfl
theorem k67_openM {w : World} {base : Nat} {ok : Nat → Prop} {x : S67} {cs : List Value} (h : k67.M w base ok x cs) : cs = [.string x.f0, .string x.f1, .int .i64 x.f2] := by
 obtain ⟨_, _, rfl, rfl, ⟨_, _, rfl, rfl, rfl⟩⟩ := h
 exact rfl
theorem k67_mkM (w : World) (base : Nat) (ok : Nat → Prop) (x : S67)  : k67.M w base ok x [.string x.f0, .string x.f1, .int .i64 x.f2] := ⟨[.string x.f0], [.string x.f1, .int .i64 x.f2], rfl, rfl, ⟨[.string x.f1], [.int .i64 x.f2], rfl, rfl, rfl⟩⟩
def rd_T67 (xs : List S67) (i : Int) : S67 := xs.getD i.toNat z67
theorem at_T67 {w : World} {A : Option Addr} {n : Nat} {xs : List S67} (h : Kd.C k67 w A n xs) (i : Int) (h0 : 0 ≤ i) (h1 : i < n) : ∃ ad , A = some ad ∧ w.cell? (ad.add (i.toNat * 3)) = some (.string (rd_T67 xs i).f0) ∧ w.cell? ⟨(ad.add (i.toNat * 3)).block, (ad.add (i.toNat * 3)).off + 1, none⟩ = some (.string (rd_T67 xs i).f1) ∧ w.cell? ⟨(ad.add (i.toNat * 3)).block, (ad.add (i.toNat * 3)).off + 2, none⟩ = some (.int .i64 (rd_T67 xs i).f2) := by
 obtain ⟨ad, c, e, _, hK, hc0⟩ := Kd.C_get h z67 i h0 h1
 have hc : ∀ j u, c[j]? = some u → w.cell? (ad.add (i.toNat * 3 + j)) = some u := hc0
 obtain rfl := k67_open hK
 exact ⟨ad, e, hc 0 _ rfl, by rw [← add_field _ _ 1 (by omega)]; exact hc 1 _ rfl, by rw [← add_field _ _ 2 (by omega)]; exact hc 2 _ rfl⟩
structure S31 where
 f0 : Int
 f1 : Int
 f2 : Int
def z31 : S31 := ⟨(0 : Int), (0 : Int), (0 : Int)⟩
def k31 : Kd S31 := Kd.iso (Kd.pair (Kd.int .i64) (Kd.pair (Kd.int .i64) (Kd.int .i64))) (fun x : S31 => (x.f0, x.f1, x.f2))
theorem k31_open {w : World} {x : S31} {cs : List Value} (h : k31.K w x cs) : cs = [.int .i64 x.f0, .int .i64 x.f1, .int .i64 x.f2] := by
 obtain ⟨_, _, rfl, rfl, ⟨_, _, rfl, rfl, rfl⟩⟩ := h
 exact rfl
theorem k31_mkM (w : World) (base : Nat) (ok : Nat → Prop) (x : S31)  : k31.M w base ok x [.int .i64 x.f0, .int .i64 x.f1, .int .i64 x.f2] := ⟨[.int .i64 x.f0], [.int .i64 x.f1, .int .i64 x.f2], rfl, rfl, ⟨[.int .i64 x.f1], [.int .i64 x.f2], rfl, rfl, rfl⟩⟩
def rd_T31 (xs : List S31) (i : Int) : S31 := xs.getD i.toNat z31
theorem at_T31 {w : World} {A : Option Addr} {n : Nat} {xs : List S31} (h : Kd.C k31 w A n xs) (i : Int) (h0 : 0 ≤ i) (h1 : i < n) : ∃ ad , A = some ad ∧ w.cell? (ad.add (i.toNat * 3)) = some (.int .i64 (rd_T31 xs i).f0) ∧ w.cell? ⟨(ad.add (i.toNat * 3)).block, (ad.add (i.toNat * 3)).off + 1, none⟩ = some (.int .i64 (rd_T31 xs i).f1) ∧ w.cell? ⟨(ad.add (i.toNat * 3)).block, (ad.add (i.toNat * 3)).off + 2, none⟩ = some (.int .i64 (rd_T31 xs i).f2) := by
 obtain ⟨ad, c, e, _, hK, hc0⟩ := Kd.C_get h z31 i h0 h1
 have hc : ∀ j u, c[j]? = some u → w.cell? (ad.add (i.toNat * 3 + j)) = some u := hc0
 obtain rfl := k31_open hK
 exact ⟨ad, e, hc 0 _ rfl, by rw [← add_field _ _ 1 (by omega)]; exact hc 1 _ rfl, by rw [← add_field _ _ 2 (by omega)]; exact hc 2 _ rfl⟩
structure S33 where
 f0 : S31
 f1 : Int
 f2 : Int
def z33 : S33 := ⟨z31, (0 : Int), (0 : Int)⟩
def k33 : Kd S33 := Kd.iso (Kd.pair k31 (Kd.pair (Kd.int .i64) (Kd.int .i64))) (fun x : S33 => (x.f0, x.f1, x.f2))
theorem k33_open {w : World} {x : S33} {cs : List Value} (h : k33.K w x cs) : cs = [.int .i64 x.f0.f0, .int .i64 x.f0.f1, .int .i64 x.f0.f2, .int .i64 x.f1, .int .i64 x.f2] := by
 obtain ⟨_, _, rfl, s0, ⟨_, _, rfl, rfl, rfl⟩⟩ := h
 obtain rfl := k31_open s0
 exact rfl
theorem k33_mkM (w : World) (base : Nat) (ok : Nat → Prop) (x : S33)  : k33.M w base ok x [.int .i64 x.f0.f0, .int .i64 x.f0.f1, .int .i64 x.f0.f2, .int .i64 x.f1, .int .i64 x.f2] := ⟨[.int .i64 x.f0.f0, .int .i64 x.f0.f1, .int .i64 x.f0.f2], [.int .i64 x.f1, .int .i64 x.f2], rfl, (k31_mkM w base ok x.f0 ), ⟨[.int .i64 x.f1], [.int .i64 x.f2], rfl, rfl, rfl⟩⟩
def rd_T33 (xs : List S33) (i : Int) : S33 := xs.getD i.toNat z33
theorem at_T33 {w : World} {A : Option Addr} {n : Nat} {xs : List S33} (h : Kd.C k33 w A n xs) (i : Int) (h0 : 0 ≤ i) (h1 : i < n) : ∃ ad , A = some ad ∧ w.cell? (ad.add (i.toNat * 5)) = some (.int .i64 (rd_T33 xs i).f0.f0) ∧ w.cell? ⟨(ad.add (i.toNat * 5)).block, (ad.add (i.toNat * 5)).off + 1, none⟩ = some (.int .i64 (rd_T33 xs i).f0.f1) ∧ w.cell? ⟨(ad.add (i.toNat * 5)).block, (ad.add (i.toNat * 5)).off + 2, none⟩ = some (.int .i64 (rd_T33 xs i).f0.f2) ∧ w.cell? ⟨(ad.add (i.toNat * 5)).block, (ad.add (i.toNat * 5)).off + 3, none⟩ = some (.int .i64 (rd_T33 xs i).f1) ∧ w.cell? ⟨(ad.add (i.toNat * 5)).block, (ad.add (i.toNat * 5)).off + 4, none⟩ = some (.int .i64 (rd_T33 xs i).f2) := by
 obtain ⟨ad, c, e, _, hK, hc0⟩ := Kd.C_get h z33 i h0 h1
 have hc : ∀ j u, c[j]? = some u → w.cell? (ad.add (i.toNat * 5 + j)) = some u := hc0
 obtain rfl := k33_open hK
 exact ⟨ad, e, hc 0 _ rfl, by rw [← add_field _ _ 1 (by omega)]; exact hc 1 _ rfl, by rw [← add_field _ _ 2 (by omega)]; exact hc 2 _ rfl, by rw [← add_field _ _ 3 (by omega)]; exact hc 3 _ rfl, by rw [← add_field _ _ 4 (by omega)]; exact hc 4 _ rfl⟩
end Go.Proofs.Ytlokjgngjgbpmaa.G

namespace Go.Proofs.Ytlokjgngjgbpmaa.Sh
open Go.RowKit Go.Proofs.YtlokjgngjgbpmaaW.PrintWords Go.Proofs.YtlokjgngjgbpmaaW.PrintLast Go.Proofs.YtlokjgngjgbpmaaW.PrintMore
set_option linter.unusedVariables false
section
variable {P : Program} {ops : Array Oper} {rest : List Oper} {o : Oper} {a : Act} {Q : Exit → Act → World → Prop} {Kc : Act → World → Prop} {α : Type}
theorem Kd.Q_rows_run (d : Kd α) {Rr : α → List Value → Prop} {w0 W : World} (base : Nat) (t ty e : TypeId) (z : Value) (bytes : Nat)
  (ht : P.underlying t = some (.slice e)) (hinfo : (P.info? e).map (fun i => (i.zero, i.size, i.bytes)) = some (some z, d.sz, bytes)) (hz : z.cells.size = d.sz) (hs0 : 0 < d.sz) (hb0 : 0 < bytes)
  (v : Value) (xs ys : List α) (A : Option Addr) (m c : Nat) (ok okp : Nat → Prop) (hm0 : 0 < m)
  (HO : d.Q e W base ok v xs) (HR : ReadsRow Rr d.sz W A m ys) (hKM : ∀ x cs, Rr x cs → d.M W base okp x cs) (hokp : ∀ k, okp k → ok k ∧ some k ≠ v.ownBlock) (hfresh : ∀ k, W.heap.size ≤ k → ok k)
  (HB : Below base w0 W) (hbase : base ≤ W.heap.size) (hl : (xs.length + m) * bytes ≤ 140737488355328) :
  ∃ v1 w1, (Builtin.append_ #[t, t] ty #[v, .slice A m c]).run P W = .ok v1 w1 ∧ d.Q e w1 base ok v1 (xs ++ ys) ∧ Below base w0 w1 ∧ W.grownBy w1 v.ownBlock ∧ (v1.ownBlock = v.ownBlock ∨ ∃ b, v1.ownBlock = some b ∧ W.heap.size ≤ b) := by
 obtain ⟨i0, hi, hzz⟩ := Option.map_eq_some_iff.1 hinfo
 simp only [Prod.mk.injEq] at hzz
 obtain ⟨hz0, hz1, hz2⟩ := hzz
 have hm : ys.length = m := HR.1
 have hlen : xs.length + m ≤ 140737488355328 := Nat.le_trans (Nat.le_mul_of_pos_right _ hb0) hl
 obtain ⟨hok, inner, hown, hr⟩ := HO
 obtain ⟨ad, hA, _⟩ := HR.2.2 hm0
 subst hA
 obtain ⟨news, hnr, hnc⟩ := ReadsRow.inner_ HR
 have hnM : Reps (d.M W base okp) d.sz ys news := hnr.imp_ (fun p c hp => hKM p c hp)
 have hone : ∀ u ∈ news, u.oneCell' = true := by
  intro u hu
  obtain ⟨q, hq, rfl⟩ := List.mem_iff_getElem.1 hu
  have hql : q / d.sz < ys.length := by
   rw [Nat.div_lt_iff_lt_mul hs0]
   rw [← hnM.1]
   exact hq
  have hc := hnM.2 (q / d.sz) _ (List.getElem?_eq_getElem hql)
  refine d.K_one (d.K_of_M hc) _ ?_
  rw [List.mem_iff_getElem?]
  refine ⟨q % d.sz, ?_⟩
  rw [List.getElem?_take, if_pos (Nat.mod_lt _ hs0), List.getElem?_drop, Nat.mul_comm, Nat.div_add_mod, List.getElem?_eq_getElem hq]
 obtain ⟨v1, w1, hrun, h2, hg, hat'⟩ := q_append (P := P) W base t ty e i0 z d.sz bytes ht hi hz0 hz1 hz2 hz hs0 v xs.length inner hown ad m c news (by rw [hnM.1, hm]) hnc hone hm0 (by simp only [maxLen]; omega) hl hbase
 have hne : ∀ k, some k ≠ v.ownBlock → k < W.heap.size → some k ≠ v1.ownBlock := by
  intro k hk hlt
  rcases hat' with hat | ⟨b, hb, hle⟩
  ·rw [hat]; exact hk
  ·rw [hb]
   intro he
   injection he with he
   omega
 have step : ∀ {q : α} {c : List Value} {o : Nat → Prop}, d.M W base o q c → (∀ k, o k → ok k ∧ some k ≠ v.ownBlock) → d.M w1 base (fun k => ok k ∧ some k ≠ v1.ownBlock) q c := by
  intro q c o hq ho
  have h1 := d.M_move (w1 := w1) (fun k hk => hg.block k hk.2.2.1 (ho k hk.1).2) (d.M_bound hq)
  exact d.M_mono (fun k hk => ⟨(ho k hk.1).1, hne k (ho k hk.1).2 hk.2.2.1⟩) h1
 refine ⟨v1, w1, hrun, ⟨fun k hk => ?_, inner ++ news, by rw [List.length_append, hm]; exact h2, Kd.reps_append (hr.imp_ (fun _ _ hq => step hq (fun _ hk => hk))) (hnM.imp_ (fun _ _ hq => step hq hokp))⟩, HB.grown hg hbase (fun k hk => (q_typed hown k hk).1), hg, hat'⟩
 rcases hat' with hat | ⟨b, hb, hle⟩
 ·exact hok k (hat ▸ hk)
 ·rw [hb] at hk
  injection hk with hk
  exact hfresh k (by omega)
theorem Kd.Q_append_rows_step (d : Kd α) {Rr : α → List Value → Prop} {w0 W : World} (base : Nat) (hw : Region.wanted o (yielded ops a.tmps) = true) (s x : Operand) (t e : TypeId) (z : Value) (bytes : Nat)
  (ho : o.op = .call { callee := .builtin .append, args := #[s, x], argTypes := #[t, t] })
  (ht : P.underlying t = some (.slice e)) (hinfo : (P.info? e).map (fun i => (i.zero, i.size, i.bytes)) = some (some z, d.sz, bytes)) (hz : z.cells.size = d.sz) (hs0 : 0 < d.sz) (hb0 : 0 < bytes)
  (v : Value) (xs ys : List α) (A : Option Addr) (m c : Nat) (ok okp : Nat → Prop) (hs : a.eval s = v) (hx : a.eval x = .slice A m c)
  (HO : d.Q e W base ok v xs) (HR : ReadsRow Rr d.sz W A m ys) (hKM : ∀ x cs, Rr x cs → d.M W base okp x cs) (hokp : ∀ k, okp k → ok k ∧ some k ≠ v.ownBlock) (hfresh : ∀ k, W.heap.size ≤ k → ok k)
  (HB : Below base w0 W) (hbase : base ≤ W.heap.size) (hl : (xs.length + m) * bytes ≤ 140737488355328)
  (h : ∀ v1 w1, d.Q e w1 base ok v1 (xs ++ ys) → Below base w0 w1 → W.grownBy w1 v.ownBlock → (v1.ownBlock = v.ownBlock ∨ ∃ b, v1.ownBlock = some b ∧ W.heap.size ≤ b) → Kc (a.put o.dst v1) w1) (hm0 : 0 < m) :
  if Region.wanted o (yielded ops a.tmps) = true then Oper.wp P o a W Kc Q else Kc (a.put o.dst undef) W := by
 obtain ⟨v1, w1, hr, h1, h2, h3, h4⟩ := Kd.Q_rows_run (P := P) d base t o.type e z bytes ht hinfo hz hs0 hb0 v xs ys A m c ok okp hm0 HO HR hKM hokp hfresh HB hbase hl
 rw [if_pos hw]
 unfold Oper.wp execOp
 simp only [ho, resolve, invoke, builtin, Sem.run_bind, Sem.run_pure, Result.andThen_ok, List.map_toArray, List.map_cons, List.map_nil, hs, hx, hr]
 exact h v1 w1 h1 h2 h3 h4
end
end Go.Proofs.Ytlokjgngjgbpmaa.Sh

namespace Go.Proofs.Ytlokjgngjgbpmaa.Mm
open Go.RowKit Go.Proofs.YtlokjgngjgbpmaaW.PrintWords Go.Proofs.YtlokjgngjgbpmaaW.PrintLast Go.Proofs.YtlokjgngjgbpmaaW.PrintMore Go.Proofs.Ytlokjgngjgbpmaa.Sh
set_option linter.unusedVariables false
/-- A thing that is held: what it says of the world, given the blocks that are its own. -/
structure SP where
 At : World → (Nat → Prop) → Prop
 loc : ∀ {w w' : World} {S : Nat → Prop}, At w S → (∀ k, S k → w'.heap[k]? = w.heap[k]?) → At w' S
def emp : SP := ⟨fun _ _ => True, fun _ _ => trivial⟩
def sel (c : Bool) (A B : SP) : SP := match c with
 | true => A
 | false => B
/-- A variable in memory. -/
def box (t : TypeId) (g : Nat) (cs : List Value) : SP := ⟨fun w S => w.heap[g]? = some (.cells cs.toArray t (0, 0)) ∧ S g, fun h hm => ⟨(hm _ h.2).trans h.1, h.2⟩⟩
/-- A row of the call's own (it may begin inside its block). -/
def row {α : Type} (d : Kd α) (e : Nat) (v : Value) (xs : List α) : SP := ⟨fun w S => d.Q e w 0 S v xs, fun h hm => Kd.Q_move h hm⟩
def rowR {α : Type} (d : Kd α) (e : Nat) (v : Value) (xs : List α) : SP := ⟨fun w S => d.R e w 0 S v xs, fun h hm => Kd.R_move h hm⟩
/-- From w to w' nothing has turned but blocks of S and what is new. -/
structure Chg (S : Nat → Prop) (w w' : World) : Prop where
 os : w'.os = w.os
 tape : w'.tape = w.tape
 output : w'.output = w.output
 size : w.heap.size ≤ w'.heap.size
 block : ∀ k, k < w.heap.size → ¬ S k → w'.heap[k]? = w.heap[k]?
theorem Chg.of_below {w w' : World} (h : Below w.heap.size w w') : Chg (fun _ => False) w w' := ⟨h.os, h.tape, h.output, h.size, fun k hk _ => h.block k hk⟩
theorem Chg.of_grown {w w' : World} {r : Option Nat} (h : w.grownBy w' r) : Chg (fun k => r = some k) w w' := ⟨h.os, h.tape, h.output, h.size, fun k hk hn => h.block k hk (fun e => hn e.symm)⟩
theorem Chg.below {w0 w w' : World} {S : Nat → Prop} (h : Chg S w w') (hb : Below w0.heap.size w0 w) (hS : ∀ k, S k → w0.heap.size ≤ k) : Below w0.heap.size w0 w' :=
 hb.trans ⟨h.os, h.tape, h.output, h.size, fun k hk => h.block k (Nat.lt_of_lt_of_le hk hb.size) (fun hs => by have := hS k hs; omega)⟩
theorem Chg.wide {w w' : World} {S S' : Nat → Prop} (h : Chg S w w') (hs : ∀ k, S k → S' k) : Chg S' w w' := ⟨h.os, h.tape, h.output, h.size, fun k hk hn => h.block k hk (fun e => hn (hs k e))⟩
def Sep (w : World) (b : Nat) (N : List SP) : Prop := ∃ S : Nat → Nat → Prop, (∀ (i : Nat) (A : SP), N[i]? = some A → A.At w (S i)) ∧ (∀ i k, S i k → b ≤ k ∧ k < w.heap.size) ∧ (∀ i j k, S i k → S j k → i = j)
/-- What is held: N, beside a frame F that is left alone; below the call's first block nothing has turned. -/
structure Mem (w0 : World) (F : List SP) (w : World) (N : List SP) : Prop where
 bel : Below w0.heap.size w0 w
 sep : Sep w w0.heap.size (F ++ N)
section
variable {w0 w w' : World} {F N M L R : List SP} {A B : SP} {i j : Nat}
theorem Mem.nil (w : World) : Mem w [] w [] := ⟨Below.refl _ _, fun _ _ => False, fun i A h => by simp at h, fun _ _ h => h.elim, fun _ _ _ h => h.elim⟩
theorem Mem.sub (h : Mem w0 F w N) (σ : Nat → Nat) (hσ : ∀ i j, σ i = σ j → i = j) (hM : ∀ j A, (R ++ M)[j]? = some A → (F ++ N)[σ j]? = some A) : Mem w0 R w M := by
 obtain ⟨hb, S, h1, h2, h3⟩ := h
 exact ⟨hb, fun j => S (σ j), fun j A hA => h1 _ A (hM j A hA), fun j k hk => h2 _ k hk, fun i j k hi hj => hσ i j (h3 _ _ k hi hj)⟩
/-- The index under which number j of the new list stood: a list of numbers, each once; beyond it: beyond all. -/
def idx (m : Nat) (l : List Nat) (j : Nat) : Nat := if h : j < l.length then l[j] else m + j
theorem idx_inj {m : Nat} {l : List Nat} (hl : (l.all (· < m) && decide l.Nodup) = true) : ∀ i j, idx m l i = idx m l j → i = j := by
 simp only [Bool.and_eq_true, List.all_eq_true, decide_eq_true_eq] at hl
 obtain ⟨h1, h2⟩ := hl
 intro i j h
 unfold idx at h
 split at h <;> split at h
 ·exact (List.getElem_inj h2).1 h
 ·have := h1 _ (List.getElem_mem (by assumption)); omega
 ·have := h1 _ (List.getElem_mem (by assumption)); omega
 ·omega
/-- Some of what is held, in another order. -/
theorem Mem.pick (h : Mem w0 F w N) (l : List Nat) (hl : (l.all (· < N.length) && decide l.Nodup) = true := by kernel_rfl) (hM : l.map (fun i => N[i]?) = M.map some := by rfl) : Mem w0 F w M := by
 have hlen : l.length = M.length := by have := congrArg List.length hM; simpa using this
 have key : ∀ j A, M[j]? = some A → ∃ hj : j < l.length, N[l[j]]? = some A := by
  intro j A hA
  have hj : j < M.length := (List.getElem?_eq_some_iff.1 hA).1
  have := congrArg (fun z => z[j]?) hM
  simp only [List.getElem?_map, hA] at this
  rw [List.getElem?_eq_getElem (by omega)] at this
  simp only [Option.map_some, Option.some.injEq] at this
  exact ⟨by omega, this⟩
 refine Mem.sub h (fun q => if q < F.length then q else F.length + idx N.length l (q - F.length)) ?_ ?_
 ·intro i j e
  (try dsimp only at e)
  split at e <;> split at e
  ·exact e
  ·omega
  ·omega
  ·have := idx_inj hl _ _ (Nat.add_left_cancel e)
   omega
 ·intro q A hA
  (try dsimp only)
  split
  ·rename_i hq
   rw [List.getElem?_append_left hq] at hA ⊢
   exact hA
  ·rename_i hq
   rw [List.getElem?_append_right (by omega)] at hA
   obtain ⟨hj, hN⟩ := key _ _ hA
   rw [List.getElem?_append_right (by omega), Nat.add_sub_cancel_left]
   unfold idx
   rw [dif_pos hj]
   exact hN
/-- The things of these numbers. -/
def pk (N : List SP) : List Nat → List SP
 | [] => []
 | i :: r => match N[i]? with
  | some A => A :: pk N r
  | none => pk N r
theorem pk_map : ∀ (r : List Nat), r.all (· < N.length) = true → r.map (fun i => N[i]?) = (pk N r).map some
 | [], _ => rfl
 | i :: r, h => by
  rw [List.all_cons, Bool.and_eq_true, decide_eq_true_eq] at h
  unfold pk
  rw [List.getElem?_eq_getElem h.1]
  simp only [List.map_cons, List.getElem?_eq_getElem h.1, pk_map r h.2]
/-- What is given to a call (l) stands alone; the rest (r) joins the frame. -/
theorem Mem.focus (h : Mem w0 F w N) (r l : List Nat) (hl : ((r ++ l).all (· < N.length) && decide (r ++ l).Nodup) = true := by kernel_rfl) (hM : l.map (fun i => N[i]?) = M.map some := by rfl) : Mem w0 (F ++ pk N r) w M := by
 have hr : r.all (· < N.length) = true := by
  rw [Bool.and_eq_true, List.all_append, Bool.and_eq_true] at hl
  exact hl.1.1
 have h1 : Mem w0 F w (pk N r ++ M) := Mem.pick h (r ++ l) hl (by rw [List.map_append, pk_map r hr, hM, List.map_append])
 refine ⟨h1.bel, ?_⟩
 rw [List.append_assoc]
 exact h1.sep
theorem Mem.unfocus (h : Mem w0 (F ++ R) w M) : Mem w0 F w (R ++ M) := ⟨h.bel, by rw [← List.append_assoc]; exact h.sep⟩
theorem Mem.at_ (h : Mem w0 F w N) (hi : N[i]? = some A) : ∃ S, A.At w S ∧ ∀ k, S k → w0.heap.size ≤ k ∧ k < w.heap.size := by
 obtain ⟨hb, S, h1, h2, h3⟩ := h
 exact ⟨S (F.length + i), h1 _ A (by rw [List.getElem?_append_right (by omega), Nat.add_sub_cancel_left]; exact hi), fun k hk => h2 _ k hk⟩
/-- Thing number i: its blocks, and how it may turn. -/
theorem Mem.opn (h : Mem w0 F w N) (hi : N[i]? = some A) : ∃ S : Nat → Prop, A.At w S ∧ (∀ k, S k → w0.heap.size ≤ k ∧ k < w.heap.size) ∧ ∀ (w' : World) (B : SP) (S' : Nat → Prop), B.At w' S' → (∀ k, S' k → (S k ∨ w.heap.size ≤ k) ∧ k < w'.heap.size) → Chg S w w' → Mem w0 F w' (N.set i B) := by
 obtain ⟨hb, S, h1, h2, h3⟩ := h
 have hil : i < N.length := (List.getElem?_eq_some_iff.1 hi).1
 refine ⟨S (F.length + i), h1 (F.length + i) A (by rw [List.getElem?_append_right (by omega), Nat.add_sub_cancel_left]; exact hi), fun k hk => h2 _ k hk, ?_⟩
 intro w' B S' hB hS' hc
 refine ⟨hc.below hb (fun k hk => (h2 _ k hk).1), fun q => if q = F.length + i then S' else S q, ?_, ?_, ?_⟩
 ·intro q D hD
  have e : F ++ N.set i B = (F ++ N).set (F.length + i) B := by rw [List.set_append_right _ _ (by omega), Nat.add_sub_cancel_left]
  rw [e, List.getElem?_set] at hD
  dsimp only
  by_cases hq : q = F.length + i
  ·rw [if_pos hq]
   rw [if_pos hq.symm] at hD
   split at hD
   ·rw [← Option.some.inj hD]; exact hB
   ·cases hD
  ·rw [if_neg hq]
   rw [if_neg (fun e => hq e.symm)] at hD
   exact D.loc (h1 q D hD) (fun k hk => hc.block k (h2 _ k hk).2 (fun hk' => hq (h3 _ _ k hk hk')))
 ·intro q k hk
  (try dsimp only at hk)
  split at hk
  ·have := hS' k hk
   exact ⟨this.1.elim (fun e => (h2 _ k e).1) (fun e => Nat.le_trans hb.size e), this.2⟩
  ·exact ⟨(h2 _ k hk).1, Nat.lt_of_lt_of_le (h2 _ k hk).2 hc.size⟩
 ·intro q p k hq hp
  (try dsimp only at hq hp)
  split at hq <;> split at hp
  ·omega
  ·rcases (hS' k hq).1 with e | e
   ·have := h3 _ _ k e hp; omega
   ·have := (h2 _ k hp).2; omega
  ·rcases (hS' k hp).1 with e | e
   ·have := h3 _ _ k e hq; omega
   ·have := (h2 _ k hq).2; omega
  ·exact h3 _ _ k hq hp
theorem Mem.move (h : Mem w0 F w N) (hc : Chg (fun _ => False) w w') : Mem w0 F w' N := by
 obtain ⟨hb, S, h1, h2, h3⟩ := h
 exact ⟨hc.below hb (fun _ hk => hk.elim), S, fun q D hD => D.loc (h1 q D hD) (fun k hk => hc.block k (h2 _ k hk).2 (fun e => e)), fun q k hk => ⟨(h2 _ k hk).1, Nat.lt_of_lt_of_le (h2 _ k hk).2 hc.size⟩, h3⟩
theorem Mem.below (h : Mem w0 F w N) (hb : Below w.heap.size w w') : Mem w0 F w' N := h.move (Chg.of_below hb)
theorem Mem.drew (h : Mem w0 F w N) : Mem w0 F w.drew N := h.below (below_drew (Below.refl _ _))
theorem Mem.drewN (h : Mem w0 F w N) (n : Nat) : Mem w0 F (w.drewN n) N := h.below (pw_below_drewN (Below.refl _ _) n)
theorem Mem.drawn (h : Mem w0 F w N) (hd : Drawn0 w w') : Mem w0 F w' N := by
 obtain ⟨n, rfl⟩ := hd.out
 exact h.drewN n
/-- Something new. -/
theorem Mem.push (h : Mem w0 F w N) (A : SP) {S' : Nat → Prop} (hA : A.At w' S') (hS : ∀ k, S' k → w.heap.size ≤ k ∧ k < w'.heap.size) (hc : Chg (fun _ => False) w w') : Mem w0 F w' (N ++ [A]) := by
 have h0 := h.move hc
 obtain ⟨hb, S, h1, h2, h3⟩ := h
 refine ⟨h0.bel, fun q => if q = (F ++ N).length then S' else S q, ?_, ?_, ?_⟩
 ·intro q D hD
  rw [← List.append_assoc] at hD
  (try dsimp only)
  split
  ·rename_i hq
   rw [hq, List.getElem?_append_right (Nat.le_refl _), Nat.sub_self] at hD
   obtain rfl : A = D := by simpa using hD
   exact hA
  ·rename_i hq
   have hlt : q < (F ++ N).length := by
    have := (List.getElem?_eq_some_iff.1 hD).1
    rw [List.length_append, List.length_singleton] at this
    omega
   rw [List.getElem?_append_left hlt] at hD
   exact D.loc (h1 q D hD) (fun k hk => hc.block k (h2 _ k hk).2 (fun e => e))
 ·intro q k hk
  (try dsimp only at hk)
  split at hk
  ·exact ⟨Nat.le_trans hb.size (hS k hk).1, (hS k hk).2⟩
  ·exact ⟨(h2 _ k hk).1, Nat.lt_of_lt_of_le (h2 _ k hk).2 hc.size⟩
 ·intro q p k hq hp
  (try dsimp only at hq hp)
  split at hq <;> split at hp
  ·omega
  ·have := (hS k hq).1; have := (h2 _ k hp).2; omega
  ·have := (hS k hp).1; have := (h2 _ k hq).2; omega
  ·exact h3 _ _ k hq hp
/-- A call has ended that was given nothing: what it made is held, too. -/
theorem Mem.call (h : Mem w0 F w N) (k : Mem w [] w' L) : Mem w0 F w' (N ++ L) := by
 have h0 := h.below k.bel
 obtain ⟨hb, S, h1, h2, h3⟩ := h
 obtain ⟨kb, T, k1, k2, k3⟩ := k
 rw [List.nil_append] at k1
 refine ⟨h0.bel, fun q => if q < (F ++ N).length then S q else T (q - (F ++ N).length), ?_, ?_, ?_⟩
 ·intro q D hD
  rw [← List.append_assoc] at hD
  (try dsimp only)
  split
  ·rename_i hq
   rw [List.getElem?_append_left hq] at hD
   exact D.loc (h1 q D hD) (fun k hk => kb.block k (h2 _ k hk).2)
  ·rename_i hq
   rw [List.getElem?_append_right (by omega)] at hD
   exact k1 _ D hD
 ·intro q k hk
  (try dsimp only at hk)
  split at hk
  ·exact ⟨(h2 _ k hk).1, Nat.lt_of_lt_of_le (h2 _ k hk).2 kb.size⟩
  ·exact ⟨Nat.le_trans hb.size (k2 _ k hk).1, (k2 _ k hk).2⟩
 ·intro q p k hq hp
  (try dsimp only at hq hp)
  split at hq <;> split at hp
  ·exact h3 _ _ k hq hp
  ·have := (h2 _ k hq).2; have := (k2 _ k hp).1; omega
  ·have := (h2 _ k hp).2; have := (k2 _ k hq).1; omega
  ·have := k3 _ _ k hq hp; omega
/-- Thing number i is told otherwise. -/
theorem Mem.tell (h : Mem w0 F w N) (hi : N[i]? = some A) (B : SP) (hB : ∀ S, A.At w S → B.At w S) : Mem w0 F w (N.set i B) := by
 obtain ⟨S, hA, hS, k⟩ := h.opn hi
 exact k w B S (hB S hA) (fun k hk => ⟨.inl hk, (hS k hk).2⟩) ⟨rfl, rfl, rfl, Nat.le_refl _, fun _ _ _ => rfl⟩
-- reads
theorem Mem.bx {t g : Nat} {cs : List Value} (h : Mem w0 F w N) (i : Nat) (hi : N[i]? = some (box t g cs)) : w.heap[g]? = some (.cells cs.toArray t (0, 0)) := by
 obtain ⟨S, hA, _⟩ := h.at_ hi
 exact hA.1
theorem Mem.q {α : Type} {d : Kd α} {e : Nat} {v : Value} {xs : List α} (h : Mem w0 F w N) (i : Nat) (hi : N[i]? = some (row d e v xs)) : ∃ S, d.Q e w 0 S v xs := by
 obtain ⟨S, hA, _⟩ := h.at_ hi
 exact ⟨S, hA⟩
/-- A row's form, its room, and what is read of it. -/
theorem Mem.rd {α : Type} {d : Kd α} {e : Nat} {v : Value} {xs : List α} (h : Mem w0 F w N) (i : Nat) (hi : N[i]? = some (row d e v xs)) : ∃ X c, v = .slice X xs.length c := by
 obtain ⟨S, hq⟩ := h.q i hi
 obtain ⟨X, c, hv, _⟩ := Kd.Q_slice hq
 exact ⟨X, c, hv⟩
theorem Mem.C {α : Type} {d : Kd α} {e n c : Nat} {X : Option Addr} {xs : List α} (h : Mem w0 F w N) (i : Nat) (hi : N[i]? = some (row d e (.slice X n c) xs)) : n = xs.length ∧ n ≤ c ∧ d.C w X xs.length xs := by
 obtain ⟨S, hq⟩ := h.q i hi
 exact Kd.Q_reads' hq
theorem Mem.rdR {α : Type} {d : Kd α} {e : Nat} {v : Value} {xs : List α} (h : Mem w0 F w N) (i : Nat) (hi : N[i]? = some (rowR d e v xs)) : ∃ X c, v = .slice X xs.length c := by
 obtain ⟨S, hq, _⟩ := h.at_ hi
 exact Kd.R_slice hq
theorem Mem.CR {α : Type} {d : Kd α} {e n c : Nat} {X : Option Addr} {xs : List α} (h : Mem w0 F w N) (i : Nat) (hi : N[i]? = some (rowR d e (.slice X n c) xs)) : n = xs.length ∧ n ≤ c ∧ d.C w X xs.length xs := by
 obtain ⟨S, hq, _⟩ := h.at_ hi
 exact Kd.R_reads' hq
/-- A queue that begins where its block begins is a row. -/
theorem R_of_Q0 {α : Type} {d : Kd α} {e g n c : Nat} {w : World} {base : Nat} {ok : Nat → Prop} {xs : List α} (h : d.Q e w base ok (.slice (some ⟨g, 0, none⟩) n c) xs) (hc : 0 < c) (hs : 0 < d.sz) : d.R e w base ok (.slice (some ⟨g, 0, none⟩) n c) xs := by
 obtain ⟨h0, inner, ⟨hl, ho⟩, hr⟩ := h
 refine ⟨h0, inner, ⟨hl, ?_⟩, hr⟩
 rcases ho with ⟨_, A, hv, _⟩ | ⟨g', off, cap, cur, hv, hb, hh, hnc, hcm, hcs, ht⟩
 ·injection hv with _ _ h3
  omega
 ·injection hv with ha h2 h3
  injection ha with ha
  injection ha with hg hoff
  have : off = 0 := by
   rcases Nat.eq_zero_or_pos off with h | h
   ·exact h
   ·have := Nat.mul_pos h hs
    omega
  subst this
  subst hg
  subst h3
  refine .inr ⟨g, c, cur, by rw [h2], hb, hh, hnc, by omega, by rw [hcs, Nat.zero_add], ?_⟩
  rw [Nat.zero_mul, List.drop_zero] at ht
  exact ht
/-- An empty row is always there. -/
theorem Mem.nl {α : Type} (h : Mem w0 F w N) (d : Kd α) (e : Nat) : Mem w0 F w (N ++ [rowR d e (.slice none 0 0) []]) := h.push _ (S' := fun _ => False) (Kd.R_nil d e w 0 _) (fun _ h => h.elim) ⟨rfl, rfl, rfl, Nat.le_refl _, fun _ _ _ => rfl⟩
theorem Mem.form {α : Type} {d : Kd α} {e n c : Nat} {X : Option Addr} {xs : List α} (h : Mem w0 F w N) (i : Nat) (hi : N[i]? = some (rowR d e (.slice X n c) xs)) (hp : 0 < xs.length) : ∃ g, X = some ⟨g, 0, none⟩ := by
 obtain ⟨S, hq, _⟩ := h.at_ hi
 obtain ⟨g, cap, hv, _⟩ := Kd.R_form hq hp
 injection hv with h1
 exact ⟨g, h1⟩
/-- The cells of element j. -/
theorem Mem.el {α : Type} {d : Kd α} {e g n c : Nat} {xs : List α} (h : Mem w0 F w N) (i : Nat) (hi : N[i]? = some (rowR d e (.slice (some ⟨g, 0, none⟩) n c) xs)) (z : α) (j : Int) (h0 : 0 ≤ j) (h1 : j < n) (cells : List Value) (ho : ∀ ok cs, d.M w 0 ok (xs.getD j.toNat z) cs → cs = cells) :
  (∀ q u, cells[q]? = some u → w.cell? ⟨g, j.toNat * d.sz + q, none⟩ = some u) ∧ ∀ q, w.frozen? ⟨g, j.toNat * d.sz + q, none⟩ = false := by
 obtain ⟨S, hq, _⟩ := h.at_ hi
 obtain ⟨cs, _, hm, hc, hf⟩ := Kd.R_elem hq z j h0 h1
 obtain rfl := ho _ cs hm
 exact ⟨hc, hf⟩
theorem Mem.el3 {α : Type} {d : Kd α} {e g n c : Nat} {xs : List α} (h : Mem w0 F w N) (i : Nat) (hi : N[i]? = some (rowR d e (.slice (some ⟨g, 0, none⟩) n c) xs)) (z : α) (j : Int) (h0 : 0 ≤ j) (h1 : j < n) (c0 c1 c2 : Value) (ho : ∀ ok cs, d.M w 0 ok (xs.getD j.toNat z) cs → cs = [c0, c1, c2]) (hs : d.sz = 3 := by rfl) :
  w.cell? ⟨g, j.toNat * 3, none⟩ = some c0 ∧ w.cell? ⟨g, j.toNat * 3 + 1, none⟩ = some c1 ∧ w.cell? ⟨g, j.toNat * 3 + 2, none⟩ = some c2 ∧ w.frozen? ⟨g, j.toNat * 3, none⟩ = false ∧ w.frozen? ⟨g, j.toNat * 3 + 1, none⟩ = false ∧ w.frozen? ⟨g, j.toNat * 3 + 2, none⟩ = false := by
 obtain ⟨hc, hf⟩ := h.el i hi z j h0 h1 [c0, c1, c2] ho
 rw [hs] at hc hf
 exact ⟨hc 0 _ rfl, hc 1 _ rfl, hc 2 _ rfl, hf 0, hf 1, hf 2⟩
/-- A name for a row's elements. -/
theorem Mem.nm {α : Type} {d : Kd α} {e : Nat} {v : Value} {xs y : List α} (h : Mem w0 F w N) (i : Nat) (hi : N[i]? = some (rowR d e v xs)) (hy : y = xs) : Mem w0 F w (N.set i (rowR d e v y)) := h.tell hi _ (fun S hA => hy ▸ hA)
theorem Mem.nmQ {α : Type} {d : Kd α} {e : Nat} {v : Value} {xs y : List α} (h : Mem w0 F w N) (i : Nat) (hi : N[i]? = some (row d e v xs)) (hy : y = xs) : Mem w0 F w (N.set i (row d e v y)) := h.tell hi _ (fun S hA => hy ▸ hA)
theorem Mem.str {P : Program} {src dst e e' : TypeId} {v : Value} {xs : List Int} (h : Mem w0 F w N) (i : Nat) (hi : N[i]? = some (rowR (Kd.int .u8) e' v xs)) (hs : P.underlying src = some (.slice e)) (he : P.underlying e = some (.int .u8)) (hd : P.underlying dst = some .string) : (convert src dst v).run P w = .ok (.string (strOfNums xs)) w := by
 obtain ⟨S, hq, _⟩ := h.at_ hi
 exact own_string hs he hd (Kd.own_of_R hq)
theorem Mem.toQ {α : Type} {d : Kd α} {e : Nat} {v : Value} {xs : List α} (h : Mem w0 F w N) (i : Nat) (hi : N[i]? = some (rowR d e v xs)) : Mem w0 F w (N.set i (row d e v xs)) := h.tell hi _ (fun S hA => Kd.Q_of_R hA)
theorem Mem.cell {p : Addr} {v : Value} (h : Mem w0 F w N) (hc : w0.cell? p = some v) : w.cell? p = some v := (h.bel.cell (World.block_lt_of_cell? w0 _ hc)).trans hc
theorem Mem.came {α : Type} {d : Kd α} {n : Nat} {X : Option Addr} {xs : List α} (h : Mem w0 F w N) (hc : d.C w0 X n xs) : d.C w X n xs := Kd.C_below hc h.bel
end
end Go.Proofs.Ytlokjgngjgbpmaa.Mm

namespace Go.Proofs.Ytlokjgngjgbpmaa.Mm
open Go.RowKit Go.Proofs.YtlokjgngjgbpmaaW.PrintWords Go.Proofs.YtlokjgngjgbpmaaW.PrintLast Go.Proofs.YtlokjgngjgbpmaaW.PrintMore Go.Proofs.Ytlokjgngjgbpmaa.Sh
set_option linter.unusedVariables false
section
variable {P : Program} {ops : Array Oper} {rest : List Oper} {o : Oper} {a : Act} {Q : Exit → Act → World → Prop} {K : Act → World → Prop} {w0 W W0 : World} {F N L : List SP} {A : SP} {α : Type}
/-- An event in a plain region. -/
theorem PL (h : ∀ K : Act → World → Prop, (∀ a w, wpList P ops Q rest a w → K a w) → Region.wanted o (yielded ops a.tmps) = true → Oper.wp P o a W K Q) (hg : Region.wanted o (yielded ops a.tmps) = true := by rfl) : wpList P ops Q (o :: rest) a W := by
 unfold wpList
 rw [if_pos hg]
 exact .inl (h _ (fun _ _ h => h) hg)
/-- An event as_ a step of a region that draws. -/
theorem ST (h : Oper.wp P o a W K Q) (hw : Region.wanted o (yielded ops a.tmps) = true := by rfl) : if Region.wanted o (yielded ops a.tmps) = true then Oper.wp P o a W K Q else K (a.put o.dst undef) W := by
 rw [if_pos hw]
 exact h
theorem wp_value {v : Value} {w1 : World} (hrun : (execOp a.eval o).run P W = .ok (.value v) w1) (h : K (a.put o.dst v) w1) : Oper.wp P o a W K Q := by
 unfold Oper.wp
 rw [hrun]
 exact h
/-- A variable in memory. -/
theorem eB (d : Tmp) (T : TypeId) (cs : List Value) (hM : Mem w0 F W0 N) (hd : o.dst = some d) (h : ∀ g w1, Mem w0 F w1 (N ++ [box T g cs]) → K (a.put o.dst (.pointer (some ⟨g, 0, none⟩))) w1)
  (hq : Drawn0 W0 W := by repeat (first | exact Drawn0.refl _ | apply Drawn0.step)) (hrun : (execOp a.eval o).run P W = .ok (.value (.pointer (some ⟨W.heap.size, 0, none⟩))) (W.alloc (.cells cs.toArray T (0, 0))) := by first | (go_simp; done) | (go_simp; rfl)) : Oper.wp P o a W K Q :=
 wp_value hrun (h _ _ ((hM.drawn hq).push (box T W.heap.size cs) (S' := fun k => k = W.heap.size) ⟨blk_new W _, rfl⟩ (fun k hk => by subst hk; exact ⟨Nat.le_refl _, by simp⟩) (Chg.of_below (below_alloc (Below.refl _ _) _))))
/-- A literal. -/
theorem eL (d : Tmp) (kd : Kd α) (e : Nat) (xs : List α) (inner : List Value) (hrep : Reps (kd.M W 0 (fun _ => False)) kd.sz xs inner) (hM : Mem w0 F W0 N) (hd : o.dst = some d) (h : ∀ v w1, Mem w0 F w1 (N ++ [rowR kd e v xs]) → K (a.put o.dst v) w1)
  (hq : Drawn0 W0 W := by repeat (first | exact Drawn0.refl _ | apply Drawn0.step)) (hm : xs.length ≤ 9223372036854775807 := by simp) (hrun : (execOp a.eval o).run P W = .ok (.value (.slice (some ⟨W.heap.size, 0, none⟩) xs.length xs.length)) (W.alloc (.cells inner.toArray e)) := by first | (go_simp; done) | (go_simp; rfl)) : Oper.wp P o a W K Q := by
 refine wp_value hrun (h _ _ ((hM.drawn hq).push (rowR kd e _ xs) (S' := fun k => k = W.heap.size) ⟨fun k hk => ?_, inner, ?_, ?_⟩ (fun k hk => by subst hk; exact ⟨Nat.le_refl _, by simp⟩) (Chg.of_below (below_alloc (Below.refl _ _) _))))
 ·have : W.heap.size = k := by simpa [Value.ownBlock] using hk
  exact this.symm
 ·have h2 := World.ownsRow_lit (base := 0) (e := e) (size := kd.sz) W inner.toArray xs.length (Nat.zero_le _) (by simpa [maxLen] using hm) (by simpa using hrep.1)
  simpa using h2
 ·exact hrep.imp_ (fun p c hp => kd.M_mono (fun k (hk : False ∧ _) => hk.1.elim) (Kd.M_below (kd.M_bound hp) (below_alloc (Below.refl _ _) _)))
/-- append(v, ys...) onto a row of the call's own (number i). Rr: what is known of a read element's cells. -/
theorem eA (i : Nat) (s x : Operand) (t e : TypeId) (d : Kd α) (v : Value) (xs ys : List α) (X : Option Addr) (m c : Nat) {Rr : α → List Value → Prop} {z : Value} {bytes : Nat} (hw : Region.wanted o (yielded ops a.tmps) = true) (hM : Mem w0 F W0 N) (ho : o.op = .call { callee := .builtin .append, args := #[s, x], argTypes := #[t, t] })
  (ht : P.underlying t = some (.slice e)) (hinfo : (P.info? e).map (fun i => (i.zero, i.size, i.bytes)) = some (some z, d.sz, bytes)) (hi : N[i]? = some (rowR d e v xs)) (HR : ReadsRow Rr d.sz W X m ys) (hl : (xs.length + m) * bytes ≤ 140737488355328)
  (h : ∀ v1 w1, Mem w0 F w1 (N.set i (rowR d e v1 (xs ++ ys))) → K (a.put o.dst v1) w1)
  (hq : Drawn0 W0 W := by repeat (first | exact Drawn0.refl _ | apply Drawn0.step)) (hKM : ∀ x cs, Rr x cs → d.M W 0 (fun _ => False) x cs := by exact fun _ _ h => h) (hs : a.eval s = v := by first | rfl | (simp only [List.length_drop, List.length_take, List.length_append, List.length_set, List.length_cons, List.length_nil, Int.reduceToNat]; rfl)) (hx : a.eval x = .slice X m c := by first | rfl | (simp only [List.length_drop, List.length_take, List.length_append, List.length_set, List.length_cons, List.length_nil, Int.reduceToNat]; rfl)) (hz : z.cells.size = d.sz := by rfl) (hs0 : 0 < d.sz := by decide) (hb0 : 0 < bytes := by omega) : Oper.wp P o a W K Q := by
 obtain ⟨S, hA, hS, fin⟩ := (hM.drawn hq).opn hi
 have key := Kd.R_append_rows_step (P := P) (Q := Q) (Kc := K) (w0 := W) d 0 hw s x t e z bytes ho ht hinfo hz hs0 hb0 v xs ys X m c (fun k => S k ∨ W.heap.size ≤ k) (fun _ => False) hs hx (Kd.R_mono hA (fun _ h => .inl h)) HR hKM (fun _ h => h.elim) (fun _ h => .inr h) (Below.mono (Below.refl W.heap.size W) (Nat.zero_le _)) (Nat.zero_le _) hl
  (fun v1 w1 h1 _ h3 _ => h v1 w1 (fin w1 _ _ (Kd.R_bound h1) (fun k hk => ⟨hk.1, hk.2.2.1⟩) ((Chg.of_grown h3).wide (fun k hk => hA.1 k hk))))
 rwa [if_pos hw] at key
/-- The same onto a queue; what is appended isn't empty. -/
theorem eAq (i : Nat) (s x : Operand) (t e : TypeId) (d : Kd α) (v : Value) (xs ys : List α) (X : Option Addr) (m c : Nat) {Rr : α → List Value → Prop} {z : Value} {bytes : Nat} (hw : Region.wanted o (yielded ops a.tmps) = true) (hM : Mem w0 F W0 N) (ho : o.op = .call { callee := .builtin .append, args := #[s, x], argTypes := #[t, t] })
  (ht : P.underlying t = some (.slice e)) (hinfo : (P.info? e).map (fun i => (i.zero, i.size, i.bytes)) = some (some z, d.sz, bytes)) (hi : N[i]? = some (row d e v xs)) (HR : ReadsRow Rr d.sz W X m ys) (hl : (xs.length + m) * bytes ≤ 140737488355328) (hm : 0 < m)
  (h : ∀ v1 w1, Mem w0 F w1 (N.set i (row d e v1 (xs ++ ys))) → K (a.put o.dst v1) w1)
  (hq : Drawn0 W0 W := by repeat (first | exact Drawn0.refl _ | apply Drawn0.step)) (hKM : ∀ x cs, Rr x cs → d.M W 0 (fun _ => False) x cs := by exact fun _ _ h => h) (hs : a.eval s = v := by first | rfl | (simp only [List.length_drop, List.length_take, List.length_append, List.length_set, List.length_cons, List.length_nil, Int.reduceToNat]; rfl)) (hx : a.eval x = .slice X m c := by first | rfl | (simp only [List.length_drop, List.length_take, List.length_append, List.length_set, List.length_cons, List.length_nil, Int.reduceToNat]; rfl)) (hz : z.cells.size = d.sz := by rfl) (hs0 : 0 < d.sz := by decide) (hb0 : 0 < bytes := by omega) : Oper.wp P o a W K Q := by
 obtain ⟨S, hA, hS, fin⟩ := (hM.drawn hq).opn hi
 have key := Kd.Q_append_rows_step (P := P) (Q := Q) (Kc := K) (w0 := W) d 0 hw s x t e z bytes ho ht hinfo hz hs0 hb0 v xs ys X m c (fun k => S k ∨ W.heap.size ≤ k) (fun _ => False) hs hx (Kd.Q_mono hA (fun _ h => .inl h)) HR hKM (fun _ h => h.elim) (fun _ h => .inr h) (Below.mono (Below.refl W.heap.size W) (Nat.zero_le _)) (Nat.zero_le _) hl
  (fun v1 w1 h1 _ h3 _ => h v1 w1 (fin w1 _ _ (Kd.Q_bound h1) (fun k hk => ⟨hk.1, hk.2.2.1⟩) ((Chg.of_grown h3).wide (fun k hk => hA.1 k hk)))) hm
 rwa [if_pos hw] at key
/-- append([]T(nil), ys...): a row is new. -/
theorem eAn (s x : Operand) (t e : TypeId) (d : Kd α) (ys : List α) (X : Option Addr) (m c : Nat) {Rr : α → List Value → Prop} {z : Value} {bytes : Nat} (hw : Region.wanted o (yielded ops a.tmps) = true) (hM : Mem w0 F W0 N) (ho : o.op = .call { callee := .builtin .append, args := #[s, x], argTypes := #[t, t] })
  (ht : P.underlying t = some (.slice e)) (hinfo : (P.info? e).map (fun i => (i.zero, i.size, i.bytes)) = some (some z, d.sz, bytes)) (HR : ReadsRow Rr d.sz W X m ys) (hl : m * bytes ≤ 140737488355328)
  (h : ∀ v1 w1, Mem w0 F w1 (N ++ [rowR d e v1 ys]) → K (a.put o.dst v1) w1)
  (hq : Drawn0 W0 W := by repeat (first | exact Drawn0.refl _ | apply Drawn0.step)) (hKM : ∀ x cs, Rr x cs → d.M W 0 (fun _ => False) x cs := by exact fun _ _ h => h) (hs : a.eval s = .slice none 0 0 := by first | rfl | (simp only [List.length_drop, List.length_take, List.length_append, List.length_set, List.length_cons, List.length_nil, Int.reduceToNat]; rfl)) (hx : a.eval x = .slice X m c := by first | rfl | (simp only [List.length_drop, List.length_take, List.length_append, List.length_set, List.length_cons, List.length_nil, Int.reduceToNat]; rfl)) (hz : z.cells.size = d.sz := by rfl) (hs0 : 0 < d.sz := by decide) (hb0 : 0 < bytes := by omega) : Oper.wp P o a W K Q := by
 have hM1 := hM.drawn hq
 have key := Kd.R_append_rows_step (P := P) (Q := Q) (Kc := K) (w0 := W) d 0 hw s x t e z bytes ho ht hinfo hz hs0 hb0 (.slice none 0 0) [] ys X m c (fun k => W.heap.size ≤ k) (fun _ => False) hs hx (Kd.R_nil _ _ _ _ _) HR hKM (fun _ h => h.elim) (fun _ h => h) (Below.mono (Below.refl W.heap.size W) (Nat.zero_le _)) (Nat.zero_le _) (by simpa using hl)
  (fun v1 w1 h1 _ h3 _ => h v1 w1 (hM1.push _ (Kd.R_bound h1) (fun k hk => ⟨hk.1, hk.2.2.1⟩) ((Chg.of_grown h3).wide (fun k hk => by simp [Value.ownBlock] at hk))))
 rwa [if_pos hw] at key
/-- Cells off, off + 1, .. get new values. -/
def putAt (cs : List Value) (off : Nat) (seg : List Value) : List Value := cs.take off ++ seg ++ cs.drop (off + seg.length)
/-- A store into a variable. -/
theorem eS (i : Nat) (p : Tmp) (off : Nat) (seg : List Value) {T g : Nat} {cs : List Value} {t : TypeId} {x : Operand} (hM : Mem w0 F W0 N) (ho : o.op = .store t (.tmp p) x) (hi : N[i]? = some (box T g cs)) (h : ∀ w1, Mem w0 F w1 (N.set i (box T g (putAt cs off seg))) → K a w1)
  (hfit : (decide (off + seg.length ≤ cs.length) && seg.all (·.oneCell')) = true := by rfl) (hp : a.eval (.tmp p) = .pointer (some ⟨g, off, none⟩) := by rfl) (hx : (a.eval x).cells.toList = seg := by first | rfl | (simp only [List.length_drop, List.length_take, List.length_append, List.length_set, List.length_cons, List.length_nil, Int.reduceToNat]; rfl)) (ht : (P.info? t).map (·.size) = some seg.length := by kernel_rfl)
  (hN : o.dst = none := by rfl) (hq : Drawn0 W0 W := by repeat (first | exact Drawn0.refl _ | apply Drawn0.step)) : Oper.wp P o a W K Q := by
 obtain ⟨S, ⟨hA, hg⟩, hS, fin⟩ := (hM.drawn hq).opn hi
 simp only [Bool.and_eq_true, decide_eq_true_eq, List.all_eq_true] at hfit
 have hr := run_store_run (P := P) (w := W) (g := g) (o := off) t (a.eval x) seg hA hx ht (by simpa using hfit.1) (fun q hq => hfit.2 q hq)
 obtain ⟨cur', h3, h4, h5⟩ := setCells_row seg off W cs.toArray hA (by simpa using hfit.1)
 obtain ⟨s1, s2, s3, s4⟩ := setCells_same g seg off W
 have he : cur' = (putAt cs off seg).toArray := by
  apply Array.toList_inj.1
  rw [h5]
  simp [putAt]
 unfold Oper.wp execOp
 simp only [ho, hp, Sem.run_bind, Sem.run_pure, Result.andThen_ok, hr]
 show K (a.put o.dst undef) _
 rw [hN]
 refine h _ (fin _ _ (fun k => k = g) ⟨by rw [h3, he], rfl⟩ (fun k hk => by subst hk; exact ⟨.inl hg, blk_lt h3⟩) ⟨s1, s2, s3, by rw [s4]; exact Nat.le_refl _, fun k _ hn => setCells_far seg _ k (fun e => hn (e ▸ hg))⟩)
/-- A call of a Go function. -/
theorem eC {f : FuncId} {fn : Func} {as_ : Array Operand} {ts : Array TypeId} {R : Ending → World → Prop} (dd : Option Tmp) (hd : o.dst = dd) (args : Array Value) (hop : o.op = .call { callee := .value (.func f), args := as_, argTypes := ts }) (hf : P.funcs[f]? = some fn) (hc : Calls P f args W R) (h : ∀ e w', R e w' → ∃ v, e = .returned v ∧ K (a.put dd v) w')
  (hargs : as_.map a.eval = args := by (try simp only [List.map_toArray, List.map_cons, List.map_nil]); first | done | rfl | (simp only [List.length_drop, List.length_take, List.length_append, List.length_set, List.length_cons, List.length_nil, Nat.zero_add, Int.reduceToNat]; done) | (simp only [List.length_drop, List.length_take, List.length_append, List.length_set, List.length_cons, List.length_nil, Nat.zero_add, Int.reduceToNat]; rfl)) (hname : (fn.name == "runtime.NumGoroutine") = false := by kernel_rfl) (hb : fn.body.isSome = true := by rfl) : Oper.wp P o a W K Q := by
 subst hd
 have he := enters_ hf hname hb args W
 have hrun : (execOp a.eval o).run P W = .ok (.enter f args) W := by
  unfold execOp
  simp [hop, resolve, Deferred.ofValue, invoke, Act.eval, hargs, he]
 unfold Oper.wp
 rw [hrun, Oper.upon_enter]
 refine hc.mono ?_
 intro e w' hR
 obtain ⟨v, rfl, hK⟩ := h e w' hR
 exact hK
/-- xs[k:] of a row of the call's own: a queue. -/
theorem eD (i : Nat) (t e : TypeId) (d : Kd α) (x lo : Operand) (k : Int) (xs : List α) (X : Option Addr) (c : Nat) {z : Value} {bytes : Nat} (hM : Mem w0 F W0 N) (ho : o.op = .slice t x (some lo) none none) (ht : P.underlying t = some (.slice e)) (hinfo : (P.info? e).map (fun i => (i.zero, i.size, i.bytes)) = some (some z, d.sz, bytes)) (hi : N[i]? = some A) (hA : ∀ w S, A.At w S → d.Q e w 0 S (.slice X xs.length c) xs) (h0 : 0 ≤ k) (h1 : k ≤ xs.length)
  (h : ∀ v1, Mem w0 F W (N.set i (row d e v1 (xs.drop k.toNat))) → K (a.put o.dst v1) W) (hx : a.eval x = .slice X xs.length c := by first | rfl | (simp only [List.length_drop, List.length_take, List.length_append, List.length_set, List.length_cons, List.length_nil, Int.reduceToNat]; rfl)) (hl : a.eval lo = .int .i64 k := by rfl)
  (hq : Drawn0 W0 W := by repeat (first | exact Drawn0.refl _ | apply Drawn0.step)) : Oper.wp P o a W K Q := by
 have hel : P.elem t = e := by simp [Program.elem, ht]
 have hu : P.underlying t = some (.slice (P.elem t)) := by rw [hel]; exact ht
 obtain ⟨S, hS, hb, fin⟩ := (hM.drawn hq).opn hi
 obtain ⟨i0, hi0, _, hsz, _⟩ := info_parts hinfo
 have hcut := cut_from (P := P) t e .i64 ht hi0 d.sz hsz X xs.length c k h0 h1 W
 have hd := Kd.Q_drop (k := k.toNat) (hA W S hS) (by omega)
 refine wp_value (by unfold execOp; simp [ho, hx, hl, run_sliceAt_slice (h := hu), hcut]) (h _ (fin W _ S hd (fun q hq => ⟨.inl hq, (hb q hq).2⟩) ⟨rfl, rfl, rfl, Nat.le_refl _, fun _ _ _ => rfl⟩))
/-- xs[:k], only read. -/
theorem eRt (t e : TypeId) (d : Kd α) (x hi_ : Operand) (k : Int) (xs : List α) (X : Option Addr) (c : Nat) {z : Value} {bytes : Nat} (ho : o.op = .slice t x none (some hi_) none) (ht : P.underlying t = some (.slice e)) (hinfo : (P.info? e).map (fun i => (i.zero, i.size, i.bytes)) = some (some z, d.sz, bytes)) (hC : d.C W X xs.length xs) (hc : xs.length ≤ c) (h0 : 0 ≤ k) (h1 : k ≤ xs.length)
  (h : ∀ X' c', d.C W X' (xs.take k.toNat).length (xs.take k.toNat) → (xs.take k.toNat).length ≤ c' → K (a.put o.dst (.slice X' (xs.take k.toNat).length c')) W) (hx : a.eval x = .slice X xs.length c := by first | rfl | (simp only [List.length_drop, List.length_take, List.length_append, List.length_set, List.length_cons, List.length_nil, Int.reduceToNat]; rfl)) (hl : a.eval hi_ = .int .i64 k := by rfl) : Oper.wp P o a W K Q := by
 have hel : P.elem t = e := by simp [Program.elem, ht]
 have hu : P.underlying t = some (.slice (P.elem t)) := by rw [hel]; exact ht
 obtain ⟨i0, hi0, _, hsz, _⟩ := info_parts hinfo
 have hcut := cut_to (P := P) t e .i64 ht hi0 X xs.length c k h0 h1 hc W
 have hl2 : (xs.take k.toNat).length = k.toNat := by rw [List.length_take]; omega
 refine wp_value (v := .slice X (xs.take k.toNat).length c) (by rw [hl2]; unfold execOp; simp [ho, hx, hl, run_sliceAt_slice (h := hu), hcut]) (h _ _ (Kd.C_take hC (by omega)) (by omega))
/-- out[j].f = u of a row of the call's own: z0 is the kind's zero, cells what element j was before. -/
theorem eP (i : Nat) (p : Tmp) (j : Int) (off : Nat) (seg : List Value) (d : Kd α) (e : TypeId) (xs : List α) (x' z0 : α) (cells : List Value) {t : TypeId} {x : Operand} {g g2 n c o' : Nat} (hM : Mem w0 F W0 N) (ho : o.op = .store t (.tmp p) x) (hi : N[i]? = some A) (hA : ∀ w S, A.At w S → d.Q e w 0 S (.slice (some ⟨g, g2, none⟩) n c) xs) (B : SP) (hB : ∀ w S, d.Q e w 0 S (.slice (some ⟨g, g2, none⟩) n c) (xs.set j.toNat x') → A.At W S → B.At w S) (h0 : 0 ≤ j) (h1 : j < n)
  (hopn : ∀ ok cs, d.M W 0 ok (xs.getD j.toNat z0) cs → cs = cells) (hmk : d.M W 0 (fun _ => False) x' (cells.take off ++ seg ++ cells.drop (off + seg.length))) (h : ∀ w1, Mem w0 F w1 (N.set i B) → K a w1)
  (hp : a.eval (.tmp p) = .pointer (some ⟨g, o', none⟩) := by rfl) (hoff : o' = g2 + j.toNat * d.sz + off := by first | rfl | exact congrArg (g2 + ·) (Nat.mul_one _).symm) (hx : (a.eval x).cells.toList = seg := by first | rfl | (simp only [List.length_drop, List.length_take, List.length_append, List.length_set, List.length_cons, List.length_nil, Int.reduceToNat]; rfl)) (ht : (P.info? t).map (·.size) = some seg.length := by kernel_rfl) (hone : seg.all (·.oneCell') = true := by rfl) (hj : off + seg.length ≤ d.sz := by exact Nat.le_of_ble_eq_true rfl) (hN : o.dst = none := by rfl)
  (hq : Drawn0 W0 W := by repeat (first | exact Drawn0.refl _ | apply Drawn0.step)) : Oper.wp P o a W K Q := by
 subst hoff
 obtain ⟨S, hS, hb, fin⟩ := (hM.drawn hq).opn hi
 have hQ := hA W S hS
 obtain ⟨hn, hnc, _⟩ := Kd.Q_reads' hQ
 obtain ⟨cs, hcl, hMc, hcc, _⟩ := Kd.Q_elem hQ z0 j h0 h1
 obtain rfl := hopn _ cs hMc
 obtain ⟨hrow, hg⟩ := Kd.Q_seg hQ j h0 h1 hcl hcc hj hmk (fun _ hk => hk.elim)
 have hgS : S g := hQ.1 g rfl
 have hrun : (Instr.storeAt t (.pointer (some ⟨g, g2 + j.toNat * d.sz + off, none⟩)) (a.eval x)).run P W = .ok () (W.setCells g (g2 + j.toNat * d.sz + off) seg) := by
  obtain ⟨_, inner, ⟨_, hv | ⟨g', of, cap', cur, hv, _, hh, _, _, hcs, _⟩⟩, _⟩ := hQ
  ·have hn0 := hv.1
   omega
  injection hv with ha _ hc'
  injection ha with ha
  injection ha with hg' ho'
  subst hg'; subst hc'; subst ho'
  refine run_store_run t _ seg hh hx ht ?_ (fun q hq => List.all_eq_true.1 hone q hq)
  have h3 : j.toNat * d.sz + d.sz ≤ n * d.sz := by rw [← Nat.succ_mul]; exact Nat.mul_le_mul_right _ (by omega)
  have h4 : n * d.sz ≤ c * d.sz := Nat.mul_le_mul_right _ hnc
  have h5 : (of + c) * d.sz = of * d.sz + c * d.sz := Nat.add_mul _ _ _
  omega
 unfold Oper.wp execOp
 simp only [ho, hp, Sem.run_bind, Sem.run_pure, Result.andThen_ok, hrun]
 show K (a.put o.dst undef) _
 rw [hN]
 refine h _ (fin _ _ S (hB _ S hrow hS) (fun k hk => ⟨.inl hk, Nat.lt_of_lt_of_le (hb k hk).2 hg.size⟩) ((Chg.of_grown hg).wide (fun k hk => by injection hk with hk; exact hk ▸ hgS)))
theorem ePR (i : Nat) (p : Tmp) (j : Int) (off : Nat) (seg : List Value) (d : Kd α) (e : TypeId) (xs : List α) (x' z0 : α) (cells : List Value) {t : TypeId} {x : Operand} {g n c o' : Nat} (hM : Mem w0 F W0 N) (ho : o.op = .store t (.tmp p) x) (hi : N[i]? = some (rowR d e (.slice (some ⟨g, 0, none⟩) n c) xs)) (h0 : 0 ≤ j) (h1 : j < n)
  (hopn : ∀ ok cs, d.M W 0 ok (xs.getD j.toNat z0) cs → cs = cells) (hmk : d.M W 0 (fun _ => False) x' (cells.take off ++ seg ++ cells.drop (off + seg.length))) (h : ∀ w1, Mem w0 F w1 (N.set i (rowR d e (.slice (some ⟨g, 0, none⟩) n c) (xs.set j.toNat x'))) → K a w1)
  (hp : a.eval (.tmp p) = .pointer (some ⟨g, o', none⟩) := by rfl) (hoff : o' = j.toNat * d.sz + off := by first | rfl | exact (Nat.mul_one _).symm) (hx : (a.eval x).cells.toList = seg := by first | rfl | (simp only [List.length_drop, List.length_take, List.length_append, List.length_set, List.length_cons, List.length_nil, Int.reduceToNat]; rfl)) (ht : (P.info? t).map (·.size) = some seg.length := by kernel_rfl) (hone : seg.all (·.oneCell') = true := by rfl) (hj : off + seg.length ≤ d.sz := by exact Nat.le_of_ble_eq_true rfl) (hN : o.dst = none := by rfl) (hs0 : 0 < d.sz := by decide)
  (hq : Drawn0 W0 W := by repeat (first | exact Drawn0.refl _ | apply Drawn0.step)) : Oper.wp P o a W K Q :=
 eP i p j off seg d e xs x' z0 cells (g := g) (g2 := 0) (o' := o') hM ho hi (fun _ _ h => Kd.Q_of_R h) _ (fun w S hQ hR => R_of_Q0 hQ (by have := (Kd.R_reads' hR).2.1; omega) hs0) h0 h1 hopn hmk h hp (by rw [hoff, Nat.zero_add]) hx ht hone hj hN hq
-- P-FORMS: the same in a plain region
theorem pB (d : Tmp) (T : TypeId) (cs : List Value) (hM : Mem w0 F W0 N) (hd : o.dst = some d) (h : ∀ g w1, Mem w0 F w1 (N ++ [box T g cs]) → wpList P ops Q rest (a.put o.dst (.pointer (some ⟨g, 0, none⟩))) w1) (hq : Drawn0 W0 W := by repeat (first | exact Drawn0.refl _ | apply Drawn0.step)) (hrun : (execOp a.eval o).run P W = .ok (.value (.pointer (some ⟨W.heap.size, 0, none⟩))) (W.alloc (.cells cs.toArray T (0, 0))) := by first | (go_simp; done) | (go_simp; rfl)) (hg : Region.wanted o (yielded ops a.tmps) = true := by rfl) : wpList P ops Q (o :: rest) a W :=
 PL (fun K hK hw => eB d T cs hM hd (fun g w1 h0_ => hK _ _ (h g w1 h0_)) hq hrun) hg
theorem pL (d : Tmp) (kd : Kd α) (e : Nat) (xs : List α) (inner : List Value) (hrep : Reps (kd.M W 0 (fun _ => False)) kd.sz xs inner) (hM : Mem w0 F W0 N) (hd : o.dst = some d) (h : ∀ v w1, Mem w0 F w1 (N ++ [rowR kd e v xs]) → wpList P ops Q rest (a.put o.dst v) w1) (hq : Drawn0 W0 W := by repeat (first | exact Drawn0.refl _ | apply Drawn0.step)) (hm : xs.length ≤ 9223372036854775807 := by simp) (hrun : (execOp a.eval o).run P W = .ok (.value (.slice (some ⟨W.heap.size, 0, none⟩) xs.length xs.length)) (W.alloc (.cells inner.toArray e)) := by first | (go_simp; done) | (go_simp; rfl)) (hg : Region.wanted o (yielded ops a.tmps) = true := by rfl) : wpList P ops Q (o :: rest) a W :=
 PL (fun K hK hw => eL d kd e xs inner hrep hM hd (fun v w1 h0_ => hK _ _ (h v w1 h0_)) hq hm hrun) hg
theorem pA (i : Nat) (s x : Operand) (t e : TypeId) (d : Kd α) (v : Value) (xs ys : List α) (X : Option Addr) (m c : Nat) {Rr : α → List Value → Prop} {z : Value} {bytes : Nat} (hM : Mem w0 F W0 N) (ho : o.op = .call { callee := .builtin .append, args := #[s, x], argTypes := #[t, t] }) (ht : P.underlying t = some (.slice e)) (hinfo : (P.info? e).map (fun i => (i.zero, i.size, i.bytes)) = some (some z, d.sz, bytes)) (hi : N[i]? = some (rowR d e v xs)) (HR : ReadsRow Rr d.sz W X m ys) (hl : (xs.length + m) * bytes ≤ 140737488355328) (h : ∀ v1 w1, Mem w0 F w1 (N.set i (rowR d e v1 (xs ++ ys))) → wpList P ops Q rest (a.put o.dst v1) w1) (hq : Drawn0 W0 W := by repeat (first | exact Drawn0.refl _ | apply Drawn0.step)) (hKM : ∀ x cs, Rr x cs → d.M W 0 (fun _ => False) x cs := by exact fun _ _ h => h) (hs : a.eval s = v := by first | rfl | (simp only [List.length_drop, List.length_take, List.length_append, List.length_set, List.length_cons, List.length_nil, Int.reduceToNat]; rfl)) (hx : a.eval x = .slice X m c := by first | rfl | (simp only [List.length_drop, List.length_take, List.length_append, List.length_set, List.length_cons, List.length_nil, Int.reduceToNat]; rfl)) (hz : z.cells.size = d.sz := by rfl) (hs0 : 0 < d.sz := by decide) (hb0 : 0 < bytes := by omega) (hg : Region.wanted o (yielded ops a.tmps) = true := by rfl) : wpList P ops Q (o :: rest) a W :=
 PL (fun K hK hw => eA i s x t e d v xs ys X m c hw hM ho ht hinfo hi HR hl (fun v1 w1 h0_ => hK _ _ (h v1 w1 h0_)) hq hKM hs hx hz hs0 hb0) hg
theorem pAq (i : Nat) (s x : Operand) (t e : TypeId) (d : Kd α) (v : Value) (xs ys : List α) (X : Option Addr) (m c : Nat) {Rr : α → List Value → Prop} {z : Value} {bytes : Nat} (hM : Mem w0 F W0 N) (ho : o.op = .call { callee := .builtin .append, args := #[s, x], argTypes := #[t, t] }) (ht : P.underlying t = some (.slice e)) (hinfo : (P.info? e).map (fun i => (i.zero, i.size, i.bytes)) = some (some z, d.sz, bytes)) (hi : N[i]? = some (row d e v xs)) (HR : ReadsRow Rr d.sz W X m ys) (hl : (xs.length + m) * bytes ≤ 140737488355328) (hm : 0 < m) (h : ∀ v1 w1, Mem w0 F w1 (N.set i (row d e v1 (xs ++ ys))) → wpList P ops Q rest (a.put o.dst v1) w1) (hq : Drawn0 W0 W := by repeat (first | exact Drawn0.refl _ | apply Drawn0.step)) (hKM : ∀ x cs, Rr x cs → d.M W 0 (fun _ => False) x cs := by exact fun _ _ h => h) (hs : a.eval s = v := by first | rfl | (simp only [List.length_drop, List.length_take, List.length_append, List.length_set, List.length_cons, List.length_nil, Int.reduceToNat]; rfl)) (hx : a.eval x = .slice X m c := by first | rfl | (simp only [List.length_drop, List.length_take, List.length_append, List.length_set, List.length_cons, List.length_nil, Int.reduceToNat]; rfl)) (hz : z.cells.size = d.sz := by rfl) (hs0 : 0 < d.sz := by decide) (hb0 : 0 < bytes := by omega) (hg : Region.wanted o (yielded ops a.tmps) = true := by rfl) : wpList P ops Q (o :: rest) a W :=
 PL (fun K hK hw => eAq i s x t e d v xs ys X m c hw hM ho ht hinfo hi HR hl hm (fun v1 w1 h0_ => hK _ _ (h v1 w1 h0_)) hq hKM hs hx hz hs0 hb0) hg
theorem pAn (s x : Operand) (t e : TypeId) (d : Kd α) (ys : List α) (X : Option Addr) (m c : Nat) {Rr : α → List Value → Prop} {z : Value} {bytes : Nat} (hM : Mem w0 F W0 N) (ho : o.op = .call { callee := .builtin .append, args := #[s, x], argTypes := #[t, t] }) (ht : P.underlying t = some (.slice e)) (hinfo : (P.info? e).map (fun i => (i.zero, i.size, i.bytes)) = some (some z, d.sz, bytes)) (HR : ReadsRow Rr d.sz W X m ys) (hl : m * bytes ≤ 140737488355328) (h : ∀ v1 w1, Mem w0 F w1 (N ++ [rowR d e v1 ys]) → wpList P ops Q rest (a.put o.dst v1) w1) (hq : Drawn0 W0 W := by repeat (first | exact Drawn0.refl _ | apply Drawn0.step)) (hKM : ∀ x cs, Rr x cs → d.M W 0 (fun _ => False) x cs := by exact fun _ _ h => h) (hs : a.eval s = .slice none 0 0 := by first | rfl | (simp only [List.length_drop, List.length_take, List.length_append, List.length_set, List.length_cons, List.length_nil, Int.reduceToNat]; rfl)) (hx : a.eval x = .slice X m c := by first | rfl | (simp only [List.length_drop, List.length_take, List.length_append, List.length_set, List.length_cons, List.length_nil, Int.reduceToNat]; rfl)) (hz : z.cells.size = d.sz := by rfl) (hs0 : 0 < d.sz := by decide) (hb0 : 0 < bytes := by omega) (hg : Region.wanted o (yielded ops a.tmps) = true := by rfl) : wpList P ops Q (o :: rest) a W :=
 PL (fun K hK hw => eAn s x t e d ys X m c hw hM ho ht hinfo HR hl (fun v1 w1 h0_ => hK _ _ (h v1 w1 h0_)) hq hKM hs hx hz hs0 hb0) hg
theorem pS (i : Nat) (p : Tmp) (off : Nat) (seg : List Value) {T g : Nat} {cs : List Value} {t : TypeId} {x : Operand} (hM : Mem w0 F W0 N) (ho : o.op = .store t (.tmp p) x) (hi : N[i]? = some (box T g cs)) (h : ∀ w1, Mem w0 F w1 (N.set i (box T g (putAt cs off seg))) → wpList P ops Q rest a w1) (hfit : (decide (off + seg.length ≤ cs.length) && seg.all (·.oneCell')) = true := by rfl) (hp : a.eval (.tmp p) = .pointer (some ⟨g, off, none⟩) := by rfl) (hx : (a.eval x).cells.toList = seg := by first | rfl | (simp only [List.length_drop, List.length_take, List.length_append, List.length_set, List.length_cons, List.length_nil, Int.reduceToNat]; rfl)) (ht : (P.info? t).map (·.size) = some seg.length := by kernel_rfl) (hN : o.dst = none := by rfl) (hq : Drawn0 W0 W := by repeat (first | exact Drawn0.refl _ | apply Drawn0.step)) (hg : Region.wanted o (yielded ops a.tmps) = true := by rfl) : wpList P ops Q (o :: rest) a W :=
 PL (fun K hK hw => eS i p off seg hM ho hi (fun w1 h0_ => hK _ _ (h w1 h0_)) hfit hp hx ht hN hq) hg
theorem pC {f : FuncId} {fn : Func} {as_ : Array Operand} {ts : Array TypeId} {R : Ending → World → Prop} (dd : Option Tmp) (hd : o.dst = dd) (args : Array Value) (hop : o.op = .call { callee := .value (.func f), args := as_, argTypes := ts }) (hf : P.funcs[f]? = some fn) (hc : Calls P f args W R) (h : ∀ e w', R e w' → ∃ v, e = .returned v ∧ wpList P ops Q rest (a.put dd v) w') (hargs : as_.map a.eval = args := by (try simp only [List.map_toArray, List.map_cons, List.map_nil]); first | done | rfl | (simp only [List.length_drop, List.length_take, List.length_append, List.length_set, List.length_cons, List.length_nil, Nat.zero_add, Int.reduceToNat]; done) | (simp only [List.length_drop, List.length_take, List.length_append, List.length_set, List.length_cons, List.length_nil, Nat.zero_add, Int.reduceToNat]; rfl)) (hname : (fn.name == "runtime.NumGoroutine") = false := by kernel_rfl) (hb : fn.body.isSome = true := by rfl) (hg : Region.wanted o (yielded ops a.tmps) = true := by rfl) : wpList P ops Q (o :: rest) a W :=
 PL (fun K hK hw => eC dd hd args hop hf hc (fun e w' hR => (h e w' hR).imp (fun v hv => ⟨hv.1, hK _ _ hv.2⟩)) hargs hname hb) hg
theorem pD (i : Nat) (t e : TypeId) (d : Kd α) (x lo : Operand) (k : Int) (xs : List α) (X : Option Addr) (c : Nat) {z : Value} {bytes : Nat} (hM : Mem w0 F W0 N) (ho : o.op = .slice t x (some lo) none none) (ht : P.underlying t = some (.slice e)) (hinfo : (P.info? e).map (fun i => (i.zero, i.size, i.bytes)) = some (some z, d.sz, bytes)) (hi : N[i]? = some A) (hA : ∀ w S, A.At w S → d.Q e w 0 S (.slice X xs.length c) xs) (h0 : 0 ≤ k) (h1 : k ≤ xs.length) (h : ∀ v1, Mem w0 F W (N.set i (row d e v1 (xs.drop k.toNat))) → wpList P ops Q rest (a.put o.dst v1) W) (hx : a.eval x = .slice X xs.length c := by first | rfl | (simp only [List.length_drop, List.length_take, List.length_append, List.length_set, List.length_cons, List.length_nil, Int.reduceToNat]; rfl)) (hl : a.eval lo = .int .i64 k := by rfl) (hq : Drawn0 W0 W := by repeat (first | exact Drawn0.refl _ | apply Drawn0.step)) (hg : Region.wanted o (yielded ops a.tmps) = true := by rfl) : wpList P ops Q (o :: rest) a W :=
 PL (fun K hK hw => eD i t e d x lo k xs X c hM ho ht hinfo hi hA h0 h1 (fun v1 h0_ => hK _ _ (h v1 h0_)) hx hl hq) hg
theorem pRt (t e : TypeId) (d : Kd α) (x hi_ : Operand) (k : Int) (xs : List α) (X : Option Addr) (c : Nat) {z : Value} {bytes : Nat} (ho : o.op = .slice t x none (some hi_) none) (ht : P.underlying t = some (.slice e)) (hinfo : (P.info? e).map (fun i => (i.zero, i.size, i.bytes)) = some (some z, d.sz, bytes)) (hC : d.C W X xs.length xs) (hc : xs.length ≤ c) (h0 : 0 ≤ k) (h1 : k ≤ xs.length) (h : ∀ X' c', d.C W X' (xs.take k.toNat).length (xs.take k.toNat) → (xs.take k.toNat).length ≤ c' → wpList P ops Q rest (a.put o.dst (.slice X' (xs.take k.toNat).length c')) W) (hx : a.eval x = .slice X xs.length c := by first | rfl | (simp only [List.length_drop, List.length_take, List.length_append, List.length_set, List.length_cons, List.length_nil, Int.reduceToNat]; rfl)) (hl : a.eval hi_ = .int .i64 k := by rfl) (hg : Region.wanted o (yielded ops a.tmps) = true := by rfl) : wpList P ops Q (o :: rest) a W :=
 PL (fun K hK hw => eRt t e d x hi_ k xs X c ho ht hinfo hC hc h0 h1 (fun X' c' h0_ h1_ => hK _ _ (h X' c' h0_ h1_)) hx hl) hg
theorem pPR (i : Nat) (p : Tmp) (j : Int) (off : Nat) (seg : List Value) (d : Kd α) (e : TypeId) (xs : List α) (x' z0 : α) (cells : List Value) {t : TypeId} {x : Operand} {g n c o' : Nat} (hM : Mem w0 F W0 N) (ho : o.op = .store t (.tmp p) x) (hi : N[i]? = some (rowR d e (.slice (some ⟨g, 0, none⟩) n c) xs)) (h0 : 0 ≤ j) (h1 : j < n) (hopn : ∀ ok cs, d.M W 0 ok (xs.getD j.toNat z0) cs → cs = cells) (hmk : d.M W 0 (fun _ => False) x' (cells.take off ++ seg ++ cells.drop (off + seg.length))) (h : ∀ w1, Mem w0 F w1 (N.set i (rowR d e (.slice (some ⟨g, 0, none⟩) n c) (xs.set j.toNat x'))) → wpList P ops Q rest a w1) (hp : a.eval (.tmp p) = .pointer (some ⟨g, o', none⟩) := by rfl) (hoff : o' = j.toNat * d.sz + off := by first | rfl | exact (Nat.mul_one _).symm) (hx : (a.eval x).cells.toList = seg := by first | rfl | (simp only [List.length_drop, List.length_take, List.length_append, List.length_set, List.length_cons, List.length_nil, Int.reduceToNat]; rfl)) (ht : (P.info? t).map (·.size) = some seg.length := by kernel_rfl) (hone : seg.all (·.oneCell') = true := by rfl) (hj : off + seg.length ≤ d.sz := by exact Nat.le_of_ble_eq_true rfl) (hN : o.dst = none := by rfl) (hs0 : 0 < d.sz := by decide) (hq : Drawn0 W0 W := by repeat (first | exact Drawn0.refl _ | apply Drawn0.step)) (hg : Region.wanted o (yielded ops a.tmps) = true := by rfl) : wpList P ops Q (o :: rest) a W :=
 PL (fun K hK hw => ePR i p j off seg d e xs x' z0 cells hM ho hi h0 h1 hopn hmk (fun w1 h0_ => hK _ _ (h w1 h0_)) hp hoff hx ht hone hj hN hs0 hq) hg
-- the pure function's own steps
/-- The next operation calls this function, writes this variable, stores by this address. -/
theorem gC {as_ : Array Operand} {ts : Array TypeId} (f : FuncId) (_ho : o.op = .call { callee := .value (.func f), args := as_, argTypes := ts }) (h : wpList P ops Q (o :: rest) a W) : wpList P ops Q (o :: rest) a W := h
theorem gN (N : Tmp) (_ho : o.dst = some N) (h : wpList P ops Q (o :: rest) a W) : wpList P ops Q (o :: rest) a W := h
theorem gS {t : TypeId} {x : Operand} (p : Tmp) (_ho : o.op = .store t (.tmp p) x) (h : wpList P ops Q (o :: rest) a W) : wpList P ops Q (o :: rest) a W := h
theorem gate_sl {t : TypeId} {x : Operand} {lo hi mx : Option Operand} (_ho : o.op = .slice t x lo hi mx) (h : wpList P ops Q (o :: rest) a W) : wpList P ops Q (o :: rest) a W := h
/-- What is held, as_ one plain list. -/
theorem nzM {M : List SP} {w : World} (h : Mem w0 F w N) (hN : N = M := by (try dsimp only [pk, List.getElem?_cons_zero, List.getElem?_cons_succ, List.nil_append, List.cons_append, List.set_cons_zero, List.set_cons_succ, putAt, List.take_zero, List.take_succ_cons, List.drop_succ_cons, List.drop_nil, List.drop_zero, List.length_cons, List.length_nil, Nat.reduceAdd]); (try rfl)) : Mem w0 F w M := hN ▸ h
/-- What is held, some orders having been drawn since. -/
theorem MD (h : Mem w0 F W0 N) (hq : Drawn0 W0 W := by repeat (first | exact Drawn0.refl _ | apply Drawn0.step)) : Mem w0 F W N := h.drawn hq
theorem GD {β : Type} {p : Prop} {i : Decidable p} {x : Option β} {r : β} (h : @ite (Option β) p i x none = some r) : p ∧ x = some r := by
 by_cases c : p
 ·rw [if_pos c] at h; exact ⟨c, h⟩
 ·rw [if_neg c] at h; cases h
theorem GN {β : Type} {p : Prop} {i : Decidable p} {x : Option β} {r : β} (h : @ite (Option β) p i none x = some r) : ¬ p ∧ x = some r := by
 by_cases c : p
 ·rw [if_pos c] at h; cases h
 ·rw [if_neg c] at h; exact ⟨c, h⟩
theorem IT {β : Type} {p : Prop} {i : Decidable p} {x y : Option β} {r : β} (h : @ite (Option β) p i x y = some r) : (p ∧ x = some r) ∨ (¬ p ∧ y = some r) := by
 by_cases c : p
 ·rw [if_pos c] at h; exact .inl ⟨c, h⟩
 ·rw [if_neg c] at h; exact .inr ⟨c, h⟩
theorem IB {β : Type} {b : Bool} {i : Decidable (b = true)} {x y : Option β} {r : β} (h : @ite (Option β) (b = true) i x y = some r) : (b = true ∧ x = some r) ∨ (b = false ∧ y = some r) := by
 cases b
 ·rw [if_neg Bool.false_ne_true] at h; exact .inr ⟨rfl, h⟩
 ·rw [if_pos rfl] at h; exact .inl ⟨rfl, h⟩
theorem BN {β γ : Type} {x : Option β} {g : β → Option γ} {r : γ} (h : x.bind g = some r) : ∃ t, Aside0 (x = some t) ∧ g t = some r := by
 obtain ⟨t, h1, h2⟩ := Option.bind_eq_some_iff.mp h
 exact ⟨t, ⟨h1⟩, h2⟩
theorem BLt {β γ : Type} {e : β} {g : β → Option γ} {r : γ} (h : (some e).bind g = some r) : ∃ y, y = e ∧ g y = some r := ⟨e, rfl, h⟩
end
end Go.Proofs.Ytlokjgngjgbpmaa.Mm

namespace Go.Proofs.Ytlokjgngjgbpmaa.Mm
open Go.RowKit Go.Proofs.YtlokjgngjgbpmaaW.PrintWords Go.Proofs.YtlokjgngjgbpmaaW.PrintLast Go.Proofs.YtlokjgngjgbpmaaW.PrintMore Go.Proofs.Ytlokjgngjgbpmaa.Sh
set_option linter.unusedVariables false
def vs (c : Bool) (x y : Value) : Value := match c with
 | true => x
 | false => y
section
variable {P : Program} {ops : Array Oper} {o og : Oper} {a a0 : Act} {Q : Exit → Act → World → Prop} {K : Act → World → Prop} {w0 w w' W W0 : World} {F N L R M : List SP} {A B : SP} {c : Bool} {b : Nat → Bool} {i j g : Nat} {t : Tmp} {u v v0 : Value} {LL LL' : List (Nat × Tmp × Value)}
theorem Mem.sT (h : Mem w0 F w N) (q : Nat) (hi : N[q]? = some (sel c A B)) (hc : c = true) : Mem w0 F w (N.set q A) := by
 subst hc
 exact h.tell hi A (fun _ h => h)
theorem Mem.sF (h : Mem w0 F w N) (q : Nat) (hi : N[q]? = some (sel c A B)) (hc : c = false) : Mem w0 F w (N.set q B) := by
 subst hc
 exact h.tell hi B (fun _ h => h)
theorem Mem.iF (h : Mem w0 F w N) (q : Nat) (hi : N[q]? = some A) (hc : c = false) : Mem w0 F w (N.set q (sel c B A)) := by
 subst hc
 exact h.tell hi (sel false B A) (fun _ h => h)
theorem Mem.iT (h : Mem w0 F w N) (q : Nat) (hi : N[q]? = some A) (hc : c = true) : Mem w0 F w (N.set q (sel c A B)) := by
 subst hc
 exact h.tell hi (sel true A B) (fun _ h => h)
theorem Mem.em (h : Mem w0 F w N) : Mem w0 F w (N ++ [emp]) := h.push emp (S' := fun _ => False) trivial (fun _ h => h.elim) ⟨rfl, rfl, rfl, Nat.le_refl _, fun _ _ _ => rfl⟩
theorem evc : a.eval (.const v) = v := rfl
/-- A slot of a listed operation; of one that no operation fills; the next entry. -/
theorem PON (ha : a = putSel a0 b LL) (k : Nat) (hb : b j = true) (hL : LL[k]? = some (j, t, v) := by rfl) (hd : ((LL.drop (k + 1)).all fun x => !(x.2.1 == t)) = true := by rfl) (hs : Nat.ble (t + 1) a0.tmps.size = true := by rfl) : a.tmps[t]? = some v := by
 subst ha
 exact putSel_on k hL hd hb hs
theorem POF (ha : a = putSel a0 b LL) (t : Tmp) (h0 : a0.tmps[t]? = some v := by rfl) (hL : (LL.all fun e => !(e.2.1 == t)) = true := by rfl) : a.tmps[t]? = some v := by
 subst ha
 exact (putSel_off hL).trans h0
theorem POJ (ha : a = putSel a0 b LL) (t : Tmp) (hj : b j = false) (h0 : a0.tmps[t]? = some v := by rfl) (hL : (LL.all fun e => !(e.2.1 == t) || e.1 == j) = true := by rfl) : a.tmps[t]? = some v := by
 subst ha
 exact (putSel_not hj hL).trans h0
/-- An entry that isn't listed may say anything. -/
theorem PCH_ {j : Nat} (hj : b j = false) : ∀ (LL : List (Nat × Tmp × Value)) (a0 : Act) (k : Nat) {t : Tmp} {v0 v : Value}, LL[k]? = some (j, t, v0) → putSel a0 b LL = putSel a0 b (LL.set k (j, t, v))
 | [], _, _, _, _, _, h => by cases h
 | e :: r, a0, 0, t, v0, v, h => by
  obtain rfl : e = (j, t, v0) := by simpa using h
  simp only [List.set_cons_zero]
  unfold putSel
  rw [if_neg (by rw [hj]; decide), if_neg (by rw [hj]; decide)]
 | e :: r, a0, k + 1, t, v0, v, h => by
  simp only [List.set_cons_succ]
  unfold putSel
  exact PCH_ hj r _ k (by simpa using h)
theorem PCH (ha : Aside0 (a = putSel a0 b LL)) (k : Nat) (hj : b j = false) (hL : LL[k]? = some (j, t, v0) := by rfl) : Aside0 (a = putSel a0 b (LL.set k (j, t, v))) := ⟨ha.out.trans (PCH_ hj LL a0 k hL)⟩
theorem PUT (ha : Aside0 (a = putSel a0 b LL)) (k : Nat) (hb : b i = false) (hL : LL[k]? = some (i, t, v0) := by rfl) (hL' : LL.set k (i, t, v) = LL' := by rfl) (hd : ((LL.take k ++ LL.drop (k + 1)).all fun e => !(e.1 == i) && !(e.2.1 == t)) = true := by rfl) : a.put (some t) v = putSel a0 (up b i) LL' := by
 obtain ⟨rfl⟩ := ha
 exact putSel_upk k hb hL hL' hd
theorem PUS (ha : Aside0 (a = putSel a0 b LL)) (h : (LL.all fun e => !(e.1 == i)) = true := by rfl) : a = putSel a0 (up b i) LL := by
 obtain ⟨rfl⟩ := ha
 exact (putSel_same h).symm
/-- One step of the relation, told apart; slots read out of it. -/
theorem SY {i : Nat} {oi : Oper} {B O rs : List Nat} {Y : (Nat → Bool) → World → Prop} (h : ∀ b a w, Aside0 (a = putSel a0 b LL) → Y b w → b i = false → (∀ j, (O.contains j && (B.getD i 0).testBit j) = true → b j = true) → (∀ d, (O.contains d && (B.getD d 0).testBit i) = true → b d = false) → ∀ K : Act → World → Prop, Shut (∀ a' w', (a' = putSel a0 (up b i) LL ∧ Y (up b i) w') → K a' w') → if Region.wanted oi (yielded ops a.tmps) = true then Oper.wp P oi a w K Q else K (a.put oi.dst undef) w)
  (hs : ∀ j ∈ rs, StepAt P ops Q B O (fun b a' w' => a' = putSel a0 b LL ∧ Y b w') j) (ho : ops[i]? = some oi := by rfl) : ∀ j ∈ i :: rs, StepAt P ops Q B O (fun b a' w' => a' = putSel a0 b LL ∧ Y b w') j :=
 steps_cons (fun b a w hI hb hon hoff => ⟨oi, ho, fun K hK => h b a w (Aside0.mk hI.1) hI.2 hb hon hoff K hK⟩) hs
theorem PE {B O : List Nat} (ha : Aside0 (a = putSel a0 b LL)) (k : Nat) (hon : ∀ j, (O.contains j && (B.getD i 0).testBit j) = true → b j = true) (hL : LL[k]? = some (j, t, v) := by rfl) (hm : (O.contains j && (B.getD i 0).testBit j) = true := by kernel_rfl) (hd : ((LL.drop (k + 1)).all fun x => !(x.2.1 == t)) = true := by rfl) (hs : Nat.ble (t + 1) a0.tmps.size = true := by rfl) : a.tmps[t]? = some v := PON ha.out k (hon j hm) hL hd hs
theorem PG (ha : Aside0 (a = putSel a0 b LL)) (t : Tmp) (h0 : a0.tmps[t]? = some v := by rfl) (hL : (LL.all fun e => !(e.2.1 == t)) = true := by rfl) : a.tmps[t]? = some v := POF ha.out t h0 hL
theorem PH (ha : Aside0 (a = putSel a0 b LL)) (t : Tmp) (hj : b j = false) (h0 : a0.tmps[t]? = some v := by rfl) (hL : (LL.all fun e => !(e.2.1 == t) || e.1 == j) = true := by rfl) : a.tmps[t]? = some v := POJ ha.out t hj h0 hL
/-- A step that yields a value, the world unchanged. -/
theorem VL (v : Value) (h : K (a.put o.dst v) W) (hrun : (execOp a.eval o).run P W = .ok (.value v) W := by first | (go_simp; done) | (go_simp; rfl) | (go_simp; simp only [i64_w]; done) | (go_simp; simp only [i64_w]; rfl) | (go_simp; simp only [bne, Bool.not_not])) (hw : Region.wanted o (yielded ops a.tmps) = true := by rfl) : if Region.wanted o (yielded ops a.tmps) = true then Oper.wp P o a W K Q else K (a.put o.dst undef) W := ST (wp_value hrun h) hw
/-- A guarded step that isn't carried out. -/
theorem VN (hw : Region.wanted o (yielded ops a.tmps) = false) (h : K (a.put o.dst undef) W) : if Region.wanted o (yielded ops a.tmps) = true then Oper.wp P o a W K Q else K (a.put o.dst undef) W := by
 rw [if_neg (by rw [hw]; decide)]
 exact h
/-- What is listed, of the region's operations alone. -/
def inN (n : Nat) (b : Nat → Bool) : Nat → Bool := fun j => decide (n ≤ j) || b j
theorem inN_lt {n : Nat} (h : j < n) : inN n b j = b j := by simp [inN, Nat.not_le.2 h]
theorem inN_up {n : Nat} : inN n (up b i) = up (inN n b) i := by
 funext j
 unfold inN up
 by_cases h : j = i
 ·simp [h]
 ·simp [h]
theorem inN_all {n : Nat} (h : ∀ j, (List.range n).contains j = true → b j = true) : inN n b = fun _ => true := by
 funext j
 by_cases hj : j < n
 ·rw [inN_lt hj]
  exact h j (by simpa using hj)
 ·simp [inN, Nat.not_lt.1 hj]
theorem PS0' {n : Nat} (hn : (LL.all fun e => decide (e.1 < n)) = true) (a : Act) : a = putSel a (inN n fun _ => false) LL := by
 induction LL generalizing a with
 | nil => rfl
 | cons e r ih =>
  rw [List.all_cons, Bool.and_eq_true, decide_eq_true_eq] at hn
  unfold putSel
  rw [inN_lt hn.1, if_neg (by decide)]
  exact ih hn.2 a
/-- The region, all its operations in one relation. -/
theorem RGN {id : Nat} {T : Bool × List (List Nat × List Nat)} {B : List Nat} (n : Nat) (O : List Nat) (I : Act → (Nat → Bool) → Act → World → Prop) (hT : rtab .any ops = T) (hw : waitsOk T.2 B = true) (h0 : I a (inN n fun _ => false) a w.drew) (hs : ∀ i ∈ O, StepAt P ops Q B O (I a) i)
  (hend : ∀ a' w, I a (fun _ => true) a' w → Q .normal a' w) (hn : ops.size = n := by rfl) (hO : O = List.range n := by rfl) (hk : baseOk T.2 (List.range n) = true := by kernel_rfl) (hl : (lof T.2.length (List.range n) (fun _ => false) == List.replicate n false && (List.range n).length == n) = true := by kernel_rfl) (hm : P.follows .mixedOrders = true := by kernel_rfl) : (Code.region id ops true).wp P Q a w := by
 subst hO
 refine start_ (S := fun _ => True) (ds := []) (Array.replicate n false) hm hn rfl trivial (fun _ => inv_at (List.range n) (fun a0 b => I a0 (inN n b)) hT hw hk (by simpa using hl) h0 ?_ ?_)
 ·intro i hi b a' w' hI hb hon hoff
  have hi' : i < n := List.mem_range.1 hi
  obtain ⟨oi, ho, hK⟩ := hs i hi (inN n b) a' w' hI (by rw [inN_lt hi']; exact hb) (fun j hj => by
   have hl : j < n := by rw [Bool.and_eq_true] at hj; simpa using hj.1
   rw [inN_lt hl]; exact hon j hj) (fun d hd => by
   have hl : d < n := by rw [Bool.and_eq_true] at hd; simpa using hd.1
   rw [inN_lt hl]; exact hoff d hd)
  refine ⟨oi, ho, fun K hKK => hK K ?_⟩
  have hKK : Shut (∀ a' w', I a (inN n (up b i)) a' w' → K a' w') := hKK
  rw [inN_up] at hKK
  exact hKK
 ·intro b a' w' hall hI
  rw [inN_all hall] at hI
  exact hend a' w' hI
theorem Mem.ems (h : Mem w0 F w N) : ∀ n, Mem w0 F w (N ++ List.replicate n emp)
 | 0 => by simpa using h
 | n + 1 => by
  rw [List.replicate_succ', ← List.append_assoc]
  exact (h.ems n).em
end
end Go.Proofs.Ytlokjgngjgbpmaa.Mm

namespace Go.Proofs.Ytlokjgngjgbpmaa.Mm
open Go.RowKit Go.Proofs.YtlokjgngjgbpmaaW.PrintWords Go.Proofs.YtlokjgngjgbpmaaW.PrintLast Go.Proofs.YtlokjgngjgbpmaaW.PrintMore Go.Proofs.Ytlokjgngjgbpmaa.Sh
set_option linter.unusedVariables false
section
variable {w0 w : World} {F N : List SP}
/-- The same world without its blocks: below it nothing is asked. -/
def bare (w : World) : World := { w with heap := #[] }
theorem bare_below (w : World) : Below (bare w).heap.size (bare w) w := ⟨rfl, rfl, rfl, Nat.zero_le _, fun k hk => absurd hk (Nat.not_lt_zero k)⟩
theorem chg_of {w' : World} {P0 : Nat → Prop} (hb : Below (bare w).heap.size (bare w) w') (hk : Kept w w' P0) : Chg P0 w w' := ⟨hb.os, hb.tape, hb.output, hk.1, fun k hk' hn => hk.2 k hk' hn⟩
/-- A row: what a hand-made contract asks, and what is held behind it. -/
theorem Mem.man1_ {A : SP} (h : Mem w0 F w N) (i : Nat) (hi : N[i]? = some A) :
  ∃ P0 : Nat → Prop, A.At w P0 ∧ (∀ (j t g : Nat) (cs : List Value), N[j]? = some (box t g cs) → i ≠ j → ∀ k, P0 k → k ≠ g) ∧ ∀ (w' : World) (B : SP), B.At w' (fun k => (P0 k ∨ w.heap.size ≤ k) ∧ k < w'.heap.size) → Chg P0 w w' → Mem w0 F w' (N.set i B) := by
 obtain ⟨hb, S, h1, h2, h3⟩ := h
 have hil : i < N.length := (List.getElem?_eq_some_iff.1 hi).1
 have hA : A.At w (S (F.length + i)) := h1 _ A (by rw [List.getElem?_append_right (by omega), Nat.add_sub_cancel_left]; exact hi)
 refine ⟨S (F.length + i), hA, fun j t g cs hj hij k hk e => hij (by
  have hB : (box t g cs).At w (S (F.length + j)) := h1 _ _ (by rw [List.getElem?_append_right (by omega), Nat.add_sub_cancel_left]; exact hj)
  have := h3 _ _ k hk (e ▸ hB.2); omega), fun w' B hB' hc => ?_⟩
 refine ⟨hc.below hb (fun k hk => (h2 _ k hk).1), fun q => if q = F.length + i then (fun k => (S (F.length + i) k ∨ w.heap.size ≤ k) ∧ k < w'.heap.size) else S q, ?_, ?_, ?_⟩
 ·intro q D hD
  have e : F ++ N.set i B = (F ++ N).set (F.length + i) B := by rw [List.set_append_right _ _ (by omega), Nat.add_sub_cancel_left]
  rw [e, List.getElem?_set] at hD
  dsimp only
  by_cases hq : q = F.length + i
  ·rw [if_pos hq]
   rw [if_pos hq.symm] at hD
   split at hD
   ·rw [← Option.some.inj hD]; exact hB'
   ·cases hD
  ·rw [if_neg hq]
   rw [if_neg (fun e => hq e.symm)] at hD
   exact D.loc (h1 q D hD) (fun k hk => hc.block k (h2 _ k hk).2 (fun hk' => hq (h3 _ _ k hk hk')))
 ·intro q k hk
  (try dsimp only at hk)
  split at hk
  ·exact ⟨hk.1.elim (fun e => (h2 _ k e).1) (fun e => Nat.le_trans hb.size e), hk.2⟩
  ·exact ⟨(h2 _ k hk).1, Nat.lt_of_lt_of_le (h2 _ k hk).2 hc.size⟩
 ·intro q p k hq hp
  (try dsimp only at hq hp)
  split at hq <;> split at hp
  ·omega
  ·rcases hq.1 with e | e
   ·have := h3 _ _ k e hp; omega
   ·have := (h2 _ k hp).2; omega
  ·rcases hp.1 with e | e
   ·have := h3 _ _ k e hq; omega
   ·have := (h2 _ k hq).2; omega
  ·exact h3 _ _ k hq hp
/-- A row and a variable beside it. -/
theorem Mem.man_ {A : SP} (h : Mem w0 F w N) (i j : Nat) {t g : Nat} {cs : List Value} (hi : N[i]? = some A) (hj : N[j]? = some (box t g cs)) (hij : i ≠ j) :
  ∃ P0 : Nat → Prop, A.At w P0 ∧ (∀ k, P0 k → k ≠ g) ∧ ∀ (w' : World) (B : SP), B.At w' (fun k => (P0 k ∨ w.heap.size ≤ k) ∧ k < w'.heap.size) → Chg P0 w w' → Mem w0 F w' (N.set i B) := by
 obtain ⟨P0, a, b, c⟩ := h.man1_ i hi
 exact ⟨P0, a, b j t g cs hj hij, c⟩
theorem Mem.man1R {α : Type} {d : Kd α} {e : Nat} {v : Value} {xs : List α} (h : Mem w0 F w N) (i : Nat) (hi : N[i]? = some (rowR d e v xs)) :
  ∃ P0 : Nat → Prop, d.R e w (bare w).heap.size P0 v xs ∧ ∀ (w' : World) (v' : Value) (ys : List α), d.R e w' (bare w).heap.size (fun k => P0 k ∨ w.heap.size ≤ k) v' ys → Below (bare w).heap.size (bare w) w' → Kept w w' P0 → Mem w0 F w' (N.set i (rowR d e v' ys)) := by
 obtain ⟨P0, h1, _, h3⟩ := h.man1_ i hi
 exact ⟨P0, h1, fun w' v' ys hq hb hk => h3 w' (rowR d e v' ys) (Kd.R_mono (Kd.R_bound hq) (fun k hk => ⟨hk.1, hk.2.2.1⟩)) (chg_of hb hk)⟩
theorem Mem.man {α : Type} {d : Kd α} {e : Nat} {v : Value} {xs : List α} (h : Mem w0 F w N) (i j : Nat) {t g : Nat} {cs : List Value} (hi : N[i]? = some (row d e v xs)) (hj : N[j]? = some (box t g cs)) (hij : i ≠ j := by decide) :
  ∃ P0 : Nat → Prop, d.Q e w (bare w).heap.size P0 v xs ∧ (∀ k, P0 k → k ≠ g) ∧ ∀ (w' : World) (v' : Value) (ys : List α), d.Q e w' (bare w).heap.size (fun k => P0 k ∨ w.heap.size ≤ k) v' ys → Below (bare w).heap.size (bare w) w' → Kept w w' P0 → Mem w0 F w' (N.set i (row d e v' ys)) := by
 obtain ⟨P0, h1, h2, h3⟩ := h.man_ i j hi hj hij
 exact ⟨P0, h1, h2, fun w' v' ys hq hb hk => h3 w' (row d e v' ys) (Kd.Q_mono (Kd.Q_bound hq) (fun k hk => ⟨hk.1, hk.2.2.1⟩)) (chg_of hb hk)⟩
end
end Go.Proofs.Ytlokjgngjgbpmaa.Mm

namespace Go.Proofs.Ytlokjgngjgbpmaa.G
open Go.RowKit Go.Proofs.YtlokjgngjgbpmaaW.PrintWords Go.Proofs.YtlokjgngjgbpmaaW.PrintLast Go.Proofs.YtlokjgngjgbpmaaW.PrintMore Go.Proofs.Ytlokjgngjgbpmaa.Sh
attribute [local go_sem] max2_int min2_int max_two min_two max_three min_three max_four min_four
set_option linter.unusedVariables false
set_option linter.unusedSimpArgs false
open Go.Proofs.Ytlokjgngjgbpmaa.Mm
/-- A state of type 48 at block g of W; what its slices lead to came in by w0. -/
def IsS48 (w0 W : World) (g : Nat) (f0 : List Int) (f1 : Int) (f2 : Int) : Prop := ∃ A0 c0, W.heap[g]? = some (.cells #[.slice A0 f0.length c0, .int .i64 f1, .int .i64 f2] 48 (0, 0)) ∧ w0.heap.size ≤ g ∧ Kd.C (Kd.int .u8) w0 A0 f0.length f0
theorem IsS48.grown {w0 W : World} {g : Nat} {f0 : List Int} {f1 : Int} {f2 : Int} {W1 : World} {row : Option Nat} (h : IsS48 w0 W g f0 f1 f2) (hw : W.grownBy W1 row) (hne : some g ≠ row) : IsS48 w0 W1 g f0 f1 f2 := by
 obtain ⟨A0, c0, hb, hg, hr0⟩ := h
 exact ⟨A0, c0, blk_grown hb hw hne, hg, hr0⟩
theorem IsS48.kept {w0 W : World} {g : Nat} {f0 : List Int} {f1 : Int} {f2 : Int} {W1 : World} {S : Nat → Prop} (h : IsS48 w0 W g f0 f1 f2) (hk : Kept W W1 S) (hne : ¬ S g) : IsS48 w0 W1 g f0 f1 f2 := by
 obtain ⟨A0, c0, hb, hg, hr0⟩ := h
 exact ⟨A0, c0, blk_kept hb hk hne, hg, hr0⟩
theorem IsS48.below {w0 W : World} {g : Nat} {f0 : List Int} {f1 : Int} {f2 : Int} {W1 : World} (h : IsS48 w0 W g f0 f1 f2) (hw : Below W.heap.size W W1) : IsS48 w0 W1 g f0 f1 f2 := h.grown (grown_of_below hw none) (by simp)
theorem IsS48.alloc {w0 W : World} {g : Nat} {f0 : List Int} {f1 : Int} {f2 : Int} (h : IsS48 w0 W g f0 f1 f2) (o : Obj) : IsS48 w0 (W.alloc o) g f0 f1 f2 := h.below (below_alloc (Below.refl _ _) o)
theorem IsS48.drewN {w0 W : World} {g : Nat} {f0 : List Int} {f1 : Int} {f2 : Int} (h : IsS48 w0 W g f0 f1 f2) (m : Nat) : IsS48 w0 (W.drewN m) g f0 f1 f2 := h
theorem IsS48.drew {w0 W : World} {g : Nat} {f0 : List Int} {f1 : Int} {f2 : Int} (h : IsS48 w0 W g f0 f1 f2) : IsS48 w0 W.drew g f0 f1 f2 := h
theorem IsS48.at_ {w0 W : World} {g : Nat} {f0 : List Int} {f1 : Int} {f2 : Int} {w' : World} {m : Nat} (hq : W.drewN m = w') (h : IsS48 w0 W g f0 f1 f2) : IsS48 w0 w' g f0 f1 f2 := by subst hq; exact IsS48.drewN h m
theorem IsS48.apart {w0 W : World} {g : Nat} {f0 : List Int} {f1 : Int} {f2 : Int} {α : Type} {d : Kd α} {e : Nat} {base : Nat} {ok : Nat → Prop} {v : Value} {xs : List α} (h : IsS48 w0 W g f0 f1 f2) (ho : d.R e W base ok v xs) (ht : ∀ q, q ∈ e :: d.E → q ≠ 48) : d.R e W base (fun k => ok k ∧ k ≠ g) v xs := by
 obtain ⟨A0, c0, hb, hg, hr0⟩ := h
 exact Kd.R_types ho hb ht
theorem IsS48.lt {w0 W : World} {g : Nat} {f0 : List Int} {f1 : Int} {f2 : Int} (h : IsS48 w0 W g f0 f1 f2) : g < W.heap.size := by
 obtain ⟨A0, c0, hb, hg, hr0⟩ := h
 exact blk_lt hb
def spec_l01New.l0 : Nat → List Int → Int → Int → Option (List Int × Int × Int)
 | 0, _, _, _ => none
 | k + 1, x0, x3, x4 => if x4 < (x0.length : Int) then (if x4 < 4000 then (if 0 ≤ x4 then (spec_l01New.l0 k x0 (Go.bits .and .i64 (wrap64 ((wrap64 ((wrap64 (x3 * 179)) + (wrap64 (rd x0 x4)))) + 7)) 1073741823) (wrap64 (x4 + 1))) else (none)) else (some (x0, 0, x3))) else (some (x0, 0, x3))
def spec_l01New.f (k : Nat) (l0 : List Int) : Option (List Int × Int × Int) := spec_l01New.l0 k l0 (wrap64 (774119 + (l0.length : Int))) 0
set_option maxHeartbeats 8000000 in
set_option maxRecDepth 100000 in
theorem spec_l01New.calls (k : Nat) (A0 : Option Addr) (c0 : Nat) (l0 : List Int) (r1 : List Int) (r2 : Int) (r3 : Int) (w0 w : World) (hB : Below w0.heap.size w0 w) (hr0 : Kd.C (Kd.int .u8) w0 A0 l0.length l0) (hc0 : l0.length ≤ c0) (h : spec_l01New.f k l0 = some (r1, r2, r3)) :
  Calls Try.prog 24 #[.slice A0 l0.length c0] w fun e w' => ∃ g_ : Nat, ∃ (X0_ : Option Addr) (c0_ : Nat), e = .returned (.pointer (some ⟨g_, 0, none⟩)) ∧ Mem w [] w' [box 48 g_ [.slice X0_ r1.length c0_, .int .i64 r2, .int .i64 r3]] ∧ Kd.C (Kd.int .u8) w0 X0_ r1.length r1 ∧ r1.length ≤ c0_ := by
 have hu48 := Try.underlying48
 have HZ0 := Aside0.mk hr0
 have HR0 := Aside0.mk (Kd.C_below hr0 hB)
 have HC0 := Aside0.mk hc0
 clear hr0 hc0
 clear hB
 have HM := Mem.nil w
 have H := h
 clear h
 unfold spec_l01New.f at H
 go_enter Try.func24, Try.ntmps24
 have H' := Aside0.mk H
 clear H
 go_wp2
 go_loopg [3, 4] k (fun kq v3 v4 w' => ∃ (x3_1 : Int) (x4_1 : Int), v3 = .int .i64 x3_1 ∧ v4 = .int .i64 x4_1 ∧ Aside0 (spec_l01New.l0 kq l0 x3_1 x4_1 = some (r1, r2, r3)) ∧ Aside0 (kq ≤ k) ∧ Mem w [] w' [])
 case atStart => exact ⟨(wrap64 (774119 + (l0.length : Int))), (0), RS, RS, H', ⟨Nat.le_refl _⟩, (MD HM).pick []⟩
 case round =>
  clear H' HM
  obtain ⟨x3_1, x4_1, rfl, rfl, HA, HK1, HM⟩ := hrel
  cases gk with
  | zero => exact absurd HA.out (by simp [spec_l01New.l0])
  | succ k1 =>
   have H := HA.out
   clear HA
   simp only [spec_l01New.l0] at H
   replace H := IT H; rcases H with ⟨c2, H⟩ | ⟨c2, H⟩
   ·have c2b0 : decide (x4_1 < (l0.length : Int)) = true := decide_eq_true c2
    clear c2
    go_upto_if 15 with (fail)
    replace H := IT H; rcases H with ⟨c3, H⟩ | ⟨c3, H⟩
    ·have c3b0 : decide (x4_1 < 4000) = true := decide_eq_true c3
     clear c3
     (first | rw [c3b0] | (simp only [i64_w, i32_w]; rw [c3b0]) | skip)
     replace H := GD H; obtain ⟨c4, H⟩ := H
     have c4b0 : decide (0 ≤ x4_1) = true := decide_eq_true c4
     clear c4
     have H' := Aside0.mk H
     clear H
     have p101 : 0 ≤ (x4_1 : Int) := of_decide_eq_true AS
     have q101 : (x4_1 : Int) < (l0.length : Int) := of_decide_eq_true AS
     obtain ⟨ad101, e101, hx101_0⟩ := Kd.at_int (HM.came HR0.out) x4_1 p101 q101
     cases e101
     replace p101 := eq_true p101
     replace q101 := eq_true q101
     go_wp2
     go_roundg k1
     case measure => have := HK1.out; omega
     case rel => exact ⟨(Go.bits .and .i64 (wrap64 ((wrap64 ((wrap64 (x3_1 * 179)) + (wrap64 (rd l0 x4_1)))) + 7)) 1073741823), (wrap64 (x4_1 + 1)), RS, RS, H', ⟨by have := HK1.out; omega⟩, (MD HM).pick []⟩
    ·have c3b0 : decide (x4_1 < 4000) = false := decide_eq_false c3
     clear c3
     (first | rw [c3b0] | (simp only [i64_w, i32_w]; rw [c3b0]) | skip)
     simp only [Option.some.injEq, Prod.mk.injEq] at H
     obtain ⟨rfl, rfl, rfl⟩ := H
     go_wp2_with (first | ((with_reducible refine gN 31 rfl ?_); refine pB 31 48 [.slice A0 l0.length c0, .int .i64 0, .int .i64 x3_1] HM rfl ?_; clear HM; intro gb102 w5 HM))
     go_ret
     exact ⟨_, _, _, ER, (MD HM).pick [0], HZ0.out, HC0.out⟩
   ·have c2b0 : decide (x4_1 < (l0.length : Int)) = false := decide_eq_false c2
    clear c2
    simp only [Option.some.injEq, Prod.mk.injEq] at H
    obtain ⟨rfl, rfl, rfl⟩ := H
    go_wp2_with (first | ((with_reducible refine gN 31 rfl ?_); refine pB 31 48 [.slice A0 l0.length c0, .int .i64 0, .int .i64 x3_1] HM rfl ?_; clear HM; intro gb103 w6 HM))
    go_ret
    exact ⟨_, _, _, ER, (MD HM).pick [0], HZ0.out, HC0.out⟩
def spec_l01Byte.f (s0_0 : List Int) (s0_1 : Int) (s0_2 : Int) : Option (Int × Int × Int) := if s0_1 < (s0_0.length : Int) then (if 0 ≤ s0_1 then (some (Go.bits .and .i64 (wrap64 ((Go.bits .and .i64 (Go.bits .xor .i64 ((wrap64 ((wrap64 (s0_2 * 6364136223846793005)) + 1442695040888963407)) / 8589934592) ((wrap64 ((wrap64 (s0_2 * 6364136223846793005)) + 1442695040888963407)) / 35184372088832)) 255) + (wrap64 (rd s0_0 s0_1)))) 255, wrap64 (s0_1 + 1), wrap64 ((wrap64 (s0_2 * 6364136223846793005)) + 1442695040888963407))) else (none)) else (some (Go.bits .and .i64 (Go.bits .xor .i64 ((wrap64 ((wrap64 (s0_2 * 6364136223846793005)) + 1442695040888963407)) / 8589934592) ((wrap64 ((wrap64 (s0_2 * 6364136223846793005)) + 1442695040888963407)) / 35184372088832)) 255, s0_1, wrap64 ((wrap64 (s0_2 * 6364136223846793005)) + 1442695040888963407)))
set_option maxHeartbeats 8000000 in
set_option maxRecDepth 100000 in
theorem spec_l01Byte.calls (g : Nat) (A0_0 : Option Addr) (c0_0 : Nat) (s0_0 : List Int) (s0_1 : Int) (s0_2 : Int) (r1 : Int) (r2 : Int) (r3 : Int) (w0 w : World) (F : List SP) (hrs0_0 : Kd.C (Kd.int .u8) w0 A0_0 s0_0.length s0_0) (hcs0_0 : s0_0.length ≤ c0_0) (hM : Mem w0 F w [box 48 g [.slice A0_0 s0_0.length c0_0, .int .i64 s0_1, .int .i64 s0_2]]) (h : spec_l01Byte.f s0_0 s0_1 s0_2 = some (r1, r2, r3)) :
  Calls Try.prog 41 #[.pointer (some ⟨g, 0, none⟩)] w fun e w' => e = .returned (.int .i64 r1) ∧ Mem w0 F w' [box 48 g [.slice A0_0 s0_0.length c0_0, .int .i64 r2, .int .i64 r3]] := by
 have HRs0_0 := Aside0.mk hrs0_0
 have HCs0_0 := Aside0.mk hcs0_0
 clear hrs0_0 hcs0_0
 have HM := hM
 clear hM
 have H := h
 clear h
 unfold spec_l01Byte.f at H
 go_enter Try.func41, Try.ntmps41
 obtain ⟨z2_0, z2_1, z2_2, Z2_0, Z2_1, Z2_2⟩ := bk3 (HM.bx 0 rfl)
 go_upto_if 34 with (first | ((with_reducible refine gS 12 rfl ?_); refine pS 0 12 2 [.int .i64 (wrap64 ((wrap64 (s0_2 * 6364136223846793005)) + 1442695040888963407))] HM rfl rfl ?_; clear HM; intro w3 HM; obtain ⟨z4_0, z4_1, z4_2, Z4_0, Z4_1, Z4_2⟩ := bk3 (HM.bx 0 rfl)))
 repeat (go_quiet (first | ((with_reducible refine gS 12 rfl ?_); refine pS 0 12 2 [.int .i64 (wrap64 ((wrap64 (s0_2 * 6364136223846793005)) + 1442695040888963407))] HM rfl rfl ?_; clear HM; intro w3 HM; obtain ⟨z4_0, z4_1, z4_2, Z4_0, Z4_1, Z4_2⟩ := bk3 (HM.bx 0 rfl))); go_upto_if 34 with (first | ((with_reducible refine gS 12 rfl ?_); refine pS 0 12 2 [.int .i64 (wrap64 ((wrap64 (s0_2 * 6364136223846793005)) + 1442695040888963407))] HM rfl rfl ?_; clear HM; intro w3 HM; obtain ⟨z4_0, z4_1, z4_2, Z4_0, Z4_1, Z4_2⟩ := bk3 (HM.bx 0 rfl))))
 replace H := IT H; rcases H with ⟨c5, H⟩ | ⟨c5, H⟩
 ·have c5b0 : decide (s0_1 < (s0_0.length : Int)) = true := decide_eq_true c5
  clear c5
  (first | rw [c5b0] | (simp only [i64_w, i32_w]; rw [c5b0]) | skip)
  replace H := GD H; obtain ⟨c6, H⟩ := H
  have c6b0 : decide (0 ≤ s0_1) = true := decide_eq_true c6
  clear c6
  simp only [Option.some.injEq, Prod.mk.injEq] at H
  obtain ⟨rfl, rfl, rfl⟩ := H
  have p104 : 0 ≤ (s0_1 : Int) := of_decide_eq_true AS
  have q104 : (s0_1 : Int) < (s0_0.length : Int) := of_decide_eq_true AS
  obtain ⟨ad104, e104, hx104_0⟩ := Kd.at_int (HM.came HRs0_0.out) s0_1 p104 q104
  cases e104
  replace p104 := eq_true p104
  replace q104 := eq_true q104
  go_wp2_with (first | ((with_reducible refine gS 56 rfl ?_); refine pS 0 56 1 [.int .i64 (wrap64 (s0_1 + 1))] HM rfl rfl ?_; clear HM; intro w7 HM))
  repeat (go_quiet (first | ((with_reducible refine gS 56 rfl ?_); refine pS 0 56 1 [.int .i64 (wrap64 (s0_1 + 1))] HM rfl rfl ?_; clear HM; intro w7 HM)); try go_wp2_with (first | ((with_reducible refine gS 56 rfl ?_); refine pS 0 56 1 [.int .i64 (wrap64 (s0_1 + 1))] HM rfl rfl ?_; clear HM; intro w7 HM)))
  go_ret
  exact ⟨ER, (MD HM).pick [0]⟩
 ·have c5b0 : decide (s0_1 < (s0_0.length : Int)) = false := decide_eq_false c5
  clear c5
  (first | rw [c5b0] | (simp only [i64_w, i32_w]; rw [c5b0]) | skip)
  simp only [Option.some.injEq, Prod.mk.injEq] at H
  obtain ⟨rfl, rfl, rfl⟩ := H
  go_wp2
  repeat (go_quiet (fail); try go_wp2_with (fail))
  go_ret
  exact ⟨ER, (MD HM).pick [0]⟩
def spec_l01Below.f (s0_0 : List Int) (s0_1 : Int) (s0_2 : Int) (a1 : Int) : Option (Int × Int × Int) := if a1 ≤ 0 then (some (0, s0_1, s0_2)) else (if a1 ≤ 256 then ((spec_l01Byte.f s0_0 s0_1 s0_2).bind fun bt105 => (if a1 = 0 then (none) else (some (Int.tmod bt105.1 a1, bt105.2.1, bt105.2.2)))) else ((spec_l01Byte.f s0_0 s0_1 s0_2).bind fun bt108 => ((spec_l01Byte.f s0_0 bt108.2.1 bt108.2.2).bind fun bt111 => ((spec_l01Byte.f s0_0 bt111.2.1 bt111.2.2).bind fun bt114 => ((spec_l01Byte.f s0_0 bt114.2.1 bt114.2.2).bind fun bt117 => (if a1 = 0 then (none) else (some (Int.tmod (wrap64 ((wrap64 ((wrap64 ((wrap64 (bt108.1 * 16777216)) + (wrap64 (bt111.1 * 65536)))) + (wrap64 (bt114.1 * 256)))) + bt117.1)) a1, bt117.2.1, bt117.2.2))))))))
set_option maxHeartbeats 8000000 in
set_option maxRecDepth 100000 in
theorem spec_l01Below.calls (g : Nat) (A0_0 : Option Addr) (c0_0 : Nat) (s0_0 : List Int) (s0_1 : Int) (s0_2 : Int) (a1 : Int) (r1 : Int) (r2 : Int) (r3 : Int) (w0 w : World) (F : List SP) (hrs0_0 : Kd.C (Kd.int .u8) w0 A0_0 s0_0.length s0_0) (hcs0_0 : s0_0.length ≤ c0_0) (hM : Mem w0 F w [box 48 g [.slice A0_0 s0_0.length c0_0, .int .i64 s0_1, .int .i64 s0_2]]) (h : spec_l01Below.f s0_0 s0_1 s0_2 a1 = some (r1, r2, r3)) :
  Calls Try.prog 26 #[.pointer (some ⟨g, 0, none⟩), .int .i64 a1] w fun e w' => e = .returned (.int .i64 r1) ∧ Mem w0 F w' [box 48 g [.slice A0_0 s0_0.length c0_0, .int .i64 r2, .int .i64 r3]] := by
 have HRs0_0 := Aside0.mk hrs0_0
 have HCs0_0 := Aside0.mk hcs0_0
 clear hrs0_0 hcs0_0
 have HM := hM
 clear hM
 have H := h
 clear h
 unfold spec_l01Below.f at H
 go_enter Try.func26, Try.ntmps26
 go_upto_if 10 with (fail)
 replace H := IT H; rcases H with ⟨c3, H⟩ | ⟨c3, H⟩
 ·have c3b0 : decide (a1 ≤ 0) = true := decide_eq_true c3
  clear c3
  (first | rw [c3b0] | (simp only [i64_w, i32_w]; rw [c3b0]) | skip)
  simp only [Option.some.injEq, Prod.mk.injEq] at H
  obtain ⟨rfl, rfl, rfl⟩ := H
  go_wp2
  go_ret
  exact ⟨ER, (MD HM).pick [0]⟩
 ·have c3b0 : decide (a1 ≤ 0) = false := decide_eq_false c3
  clear c3
  (first | rw [c3b0] | (simp only [i64_w, i32_w]; rw [c3b0]) | skip)
  go_upto_if 12 with (fail)
  replace H := IT H; rcases H with ⟨c4, H⟩ | ⟨c4, H⟩
  ·have c4b0 : decide (a1 ≤ 256) = true := decide_eq_true c4
   clear c4
   (first | rw [c4b0] | (simp only [i64_w, i32_w]; rw [c4b0]) | skip)
   replace H := BN H; obtain ⟨⟨t105, t106, t107⟩, A5, H⟩ := H
   replace H := GN H; obtain ⟨c7, H⟩ := H
   have c7b0 : (a1 == 0) = false := beq_eq_false_iff_ne.mpr c7
   have c7b1 : (a1 != 0) = true := bne_iff_ne.mpr c7
   simp only [Option.some.injEq, Prod.mk.injEq] at H
   obtain ⟨rfl, rfl, rfl⟩ := H
   go_wp2_with (first | ((with_reducible refine gC 41 rfl ?_); refine pC (some 14) rfl #[.pointer (some ⟨g, 0, none⟩)] rfl Try.func41 (spec_l01Byte.calls g A0_0 c0_0 s0_0 s0_1 s0_2 t105 t106 t107 _ _ _ HRs0_0.out HCs0_0.out (HM.focus [] [0]) A5.out) ?_; rintro e w6 ⟨rfl, hR⟩; refine ⟨_, rfl, ?_⟩; replace HM := nzM hR.unfocus; clear hR))
   go_ret
   exact ⟨ER, (MD HM).pick [0]⟩
  ·have c4b0 : decide (a1 ≤ 256) = false := decide_eq_false c4
   clear c4
   (first | rw [c4b0] | (simp only [i64_w, i32_w]; rw [c4b0]) | skip)
   replace H := BN H; obtain ⟨⟨t108, t109, t110⟩, A8, H⟩ := H
   replace H := BN H; obtain ⟨⟨t111, t112, t113⟩, A10, H⟩ := H
   replace H := BN H; obtain ⟨⟨t114, t115, t116⟩, A12, H⟩ := H
   replace H := BN H; obtain ⟨⟨t117, t118, t119⟩, A14, H⟩ := H
   replace H := GN H; obtain ⟨c16, H⟩ := H
   have c16b0 : (a1 == 0) = false := beq_eq_false_iff_ne.mpr c16
   have c16b1 : (a1 != 0) = true := bne_iff_ne.mpr c16
   simp only [Option.some.injEq, Prod.mk.injEq] at H
   obtain ⟨rfl, rfl, rfl⟩ := H
   go_wp2_with (first | ((with_reducible refine gC 41 rfl ?_); refine pC (some 18) rfl #[.pointer (some ⟨g, 0, none⟩)] rfl Try.func41 (spec_l01Byte.calls g A0_0 c0_0 s0_0 s0_1 s0_2 t108 t109 t110 _ _ _ HRs0_0.out HCs0_0.out (HM.focus [] [0]) A8.out) ?_; rintro e w9 ⟨rfl, hR⟩; refine ⟨_, rfl, ?_⟩; replace HM := nzM hR.unfocus; clear hR) | ((with_reducible refine gC 41 rfl ?_); refine pC (some 20) rfl #[.pointer (some ⟨g, 0, none⟩)] rfl Try.func41 (spec_l01Byte.calls g A0_0 c0_0 s0_0 t109 t110 t111 t112 t113 _ _ _ HRs0_0.out HCs0_0.out (HM.focus [] [0]) A10.out) ?_; rintro e w11 ⟨rfl, hR⟩; refine ⟨_, rfl, ?_⟩; replace HM := nzM hR.unfocus; clear hR) | ((with_reducible refine gC 41 rfl ?_); refine pC (some 22) rfl #[.pointer (some ⟨g, 0, none⟩)] rfl Try.func41 (spec_l01Byte.calls g A0_0 c0_0 s0_0 t112 t113 t114 t115 t116 _ _ _ HRs0_0.out HCs0_0.out (HM.focus [] [0]) A12.out) ?_; rintro e w13 ⟨rfl, hR⟩; refine ⟨_, rfl, ?_⟩; replace HM := nzM hR.unfocus; clear hR) | ((with_reducible refine gC 41 rfl ?_); refine pC (some 24) rfl #[.pointer (some ⟨g, 0, none⟩)] rfl Try.func41 (spec_l01Byte.calls g A0_0 c0_0 s0_0 t115 t116 t117 t118 t119 _ _ _ HRs0_0.out HCs0_0.out (HM.focus [] [0]) A14.out) ?_; rintro e w15 ⟨rfl, hR⟩; refine ⟨_, rfl, ?_⟩; replace HM := nzM hR.unfocus; clear hR))
   go_ret
   exact ⟨ER, (MD HM).pick [0]⟩
def spec_l01Of.f (s0_0 : List Int) (s0_1 : Int) (s0_2 : Int) (l1 : List ByteArray) : Option (ByteArray × Int × Int) := (spec_l01Below.f s0_0 s0_1 s0_2 (l1.length : Int)).bind fun bt120 => (if 0 ≤ bt120.1 then (if bt120.1 < (l1.length : Int) then (some (rdOf ByteArray.empty l1 bt120.1, bt120.2.1, bt120.2.2)) else (none)) else (none))
set_option maxHeartbeats 8000000 in
set_option maxRecDepth 100000 in
theorem spec_l01Of.calls (g : Nat) (A0_0 : Option Addr) (c0_0 : Nat) (s0_0 : List Int) (s0_1 : Int) (s0_2 : Int) (A1 : Option Addr) (c1 : Nat) (l1 : List ByteArray) (r1 : ByteArray) (r2 : Int) (r3 : Int) (w0 w : World) (F : List SP) (hrs0_0 : Kd.C (Kd.int .u8) w0 A0_0 s0_0.length s0_0) (hcs0_0 : s0_0.length ≤ c0_0) (hM : Mem w0 F w [box 48 g [.slice A0_0 s0_0.length c0_0, .int .i64 s0_1, .int .i64 s0_2], row Kd.string 9 (.slice A1 l1.length c1) l1]) (h : spec_l01Of.f s0_0 s0_1 s0_2 l1 = some (r1, r2, r3)) :
  Calls Try.prog 57 #[.pointer (some ⟨g, 0, none⟩), .slice A1 l1.length c1] w fun e w' => e = .returned (.string r1) ∧ Mem w0 F w' [box 48 g [.slice A0_0 s0_0.length c0_0, .int .i64 r2, .int .i64 r3], row Kd.string 9 (.slice A1 l1.length c1) l1] := by
 have HRs0_0 := Aside0.mk hrs0_0
 have HCs0_0 := Aside0.mk hcs0_0
 clear hrs0_0 hcs0_0
 have HM := hM
 clear hM
 have H := h
 clear h
 unfold spec_l01Of.f at H
 go_enter Try.func57, Try.ntmps57
 replace H := BN H; obtain ⟨⟨t120, t121, t122⟩, A3, H⟩ := H
 replace H := GD H; obtain ⟨c5, H⟩ := H
 have c5b0 : decide (0 ≤ t120) = true := decide_eq_true c5
 clear c5
 replace H := GD H; obtain ⟨c6, H⟩ := H
 have c6b0 : decide (t120 < (l1.length : Int)) = true := decide_eq_true c6
 clear c6
 simp only [Option.some.injEq, Prod.mk.injEq] at H
 obtain ⟨rfl, rfl, rfl⟩ := H
 go_wp2_with (first | ((with_reducible refine gC 26 rfl ?_); refine pC (some 9) rfl #[.pointer (some ⟨g, 0, none⟩), .int .i64 (l1.length : Int)] rfl Try.func26 (spec_l01Below.calls g A0_0 c0_0 s0_0 s0_1 s0_2 (l1.length : Int) t120 t121 t122 _ _ _ HRs0_0.out HCs0_0.out (HM.focus [1] [0]) A3.out) ?_; rintro e w4 ⟨rfl, hR⟩; refine ⟨_, rfl, ?_⟩; replace HM := nzM hR.unfocus; clear hR; have p123 : 0 ≤ (t120 : Int) := of_decide_eq_true AS; have q123 : (t120 : Int) < (l1.length : Int) := of_decide_eq_true AS; obtain ⟨ad123, e123, hx123_0⟩ := Kd.at_string (HM.C 0 rfl).2.2 t120 p123 q123; cases e123; replace p123 := eq_true p123; replace q123 := eq_true q123))
 go_ret
 exact ⟨ER, (MD HM).pick [1, 0]⟩
def spec_l10Key.f (s0_0 : List Int) (s0_1 : Int) (s0_2 : Int) : Option (ByteArray × Int × Int) := (spec_l01Of.f s0_0 s0_1 s0_2 (([(⟨#[97]⟩ : ByteArray), (⟨#[98]⟩ : ByteArray), (⟨#[99]⟩ : ByteArray), (⟨#[100]⟩ : ByteArray), (⟨#[101]⟩ : ByteArray), (⟨#[102]⟩ : ByteArray), (⟨#[103]⟩ : ByteArray), (⟨#[104]⟩ : ByteArray)] : List ByteArray))).bind fun bt127 => (some (bt127.1, bt127.2.1, bt127.2.2))
set_option maxHeartbeats 8000000 in
set_option maxRecDepth 100000 in
theorem spec_l10Key.calls (g : Nat) (A0_0 : Option Addr) (c0_0 : Nat) (s0_0 : List Int) (s0_1 : Int) (s0_2 : Int) (r1 : ByteArray) (r2 : Int) (r3 : Int) (w0 w : World) (F : List SP) (hrs0_0 : Kd.C (Kd.int .u8) w0 A0_0 s0_0.length s0_0) (hcs0_0 : s0_0.length ≤ c0_0) (hM : Mem w0 F w [box 48 g [.slice A0_0 s0_0.length c0_0, .int .i64 s0_1, .int .i64 s0_2]]) (h : spec_l10Key.f s0_0 s0_1 s0_2 = some (r1, r2, r3)) :
  Calls Try.prog 40 #[.pointer (some ⟨g, 0, none⟩)] w fun e w' => e = .returned (.string r1) ∧ Mem w0 F w' [box 48 g [.slice A0_0 s0_0.length c0_0, .int .i64 r2, .int .i64 r3]] := by
 have HRs0_0 := Aside0.mk hrs0_0
 have HCs0_0 := Aside0.mk hcs0_0
 clear hrs0_0 hcs0_0
 have HM := hM
 clear hM
 have H := h
 clear h
 unfold spec_l10Key.f at H
 go_enter Try.func40, Try.ntmps40
 replace H := BN H; obtain ⟨⟨t127, t128, t129⟩, A3, H⟩ := H
 simp only [Option.some.injEq, Prod.mk.injEq] at H
 obtain ⟨rfl, rfl, rfl⟩ := H
 go_wp2_with (first | ((with_reducible refine gN 4 rfl ?_); refine pL 4 Kd.string 9 ([(⟨#[97]⟩ : ByteArray), (⟨#[98]⟩ : ByteArray), (⟨#[99]⟩ : ByteArray), (⟨#[100]⟩ : ByteArray), (⟨#[101]⟩ : ByteArray), (⟨#[102]⟩ : ByteArray), (⟨#[103]⟩ : ByteArray), (⟨#[104]⟩ : ByteArray)] : List ByteArray) [.string (⟨#[97]⟩ : ByteArray), .string (⟨#[98]⟩ : ByteArray), .string (⟨#[99]⟩ : ByteArray), .string (⟨#[100]⟩ : ByteArray), .string (⟨#[101]⟩ : ByteArray), .string (⟨#[102]⟩ : ByteArray), .string (⟨#[103]⟩ : ByteArray), .string (⟨#[104]⟩ : ByteArray)] (Reps.one (show Kd.M Kd.string _ _ _ (⟨#[97]⟩ : ByteArray) [.string (⟨#[97]⟩ : ByteArray)] from rfl) (Reps.one (show Kd.M Kd.string _ _ _ (⟨#[98]⟩ : ByteArray) [.string (⟨#[98]⟩ : ByteArray)] from rfl) (Reps.one (show Kd.M Kd.string _ _ _ (⟨#[99]⟩ : ByteArray) [.string (⟨#[99]⟩ : ByteArray)] from rfl) (Reps.one (show Kd.M Kd.string _ _ _ (⟨#[100]⟩ : ByteArray) [.string (⟨#[100]⟩ : ByteArray)] from rfl) (Reps.one (show Kd.M Kd.string _ _ _ (⟨#[101]⟩ : ByteArray) [.string (⟨#[101]⟩ : ByteArray)] from rfl) (Reps.one (show Kd.M Kd.string _ _ _ (⟨#[102]⟩ : ByteArray) [.string (⟨#[102]⟩ : ByteArray)] from rfl) (Reps.one (show Kd.M Kd.string _ _ _ (⟨#[103]⟩ : ByteArray) [.string (⟨#[103]⟩ : ByteArray)] from rfl) (Reps.one (show Kd.M Kd.string _ _ _ (⟨#[104]⟩ : ByteArray) [.string (⟨#[104]⟩ : ByteArray)] from rfl) (Reps.none _ _))))))))) HM rfl ?_; clear HM; intro v125 w2 HM; obtain ⟨Xo5, ko5, eo5⟩ := HM.rdR 1 rfl; subst eo5; replace HM := HM.toQ 1 rfl) | ((with_reducible refine gC 57 rfl ?_); refine pC (some 5) rfl #[.pointer (some ⟨g, 0, none⟩), .slice Xo5 (([(⟨#[97]⟩ : ByteArray), (⟨#[98]⟩ : ByteArray), (⟨#[99]⟩ : ByteArray), (⟨#[100]⟩ : ByteArray), (⟨#[101]⟩ : ByteArray), (⟨#[102]⟩ : ByteArray), (⟨#[103]⟩ : ByteArray), (⟨#[104]⟩ : ByteArray)] : List ByteArray)).length ko5] rfl Try.func57 (spec_l01Of.calls g A0_0 c0_0 s0_0 s0_1 s0_2 Xo5 ko5 (([(⟨#[97]⟩ : ByteArray), (⟨#[98]⟩ : ByteArray), (⟨#[99]⟩ : ByteArray), (⟨#[100]⟩ : ByteArray), (⟨#[101]⟩ : ByteArray), (⟨#[102]⟩ : ByteArray), (⟨#[103]⟩ : ByteArray), (⟨#[104]⟩ : ByteArray)] : List ByteArray)) t127 t128 t129 _ _ _ HRs0_0.out HCs0_0.out (HM.focus [] [0, 1]) A3.out) ?_; rintro e w4 ⟨rfl, hR⟩; refine ⟨_, rfl, ?_⟩; replace HM := nzM hR.unfocus; clear hR))
 go_ret
 exact ⟨ER, (MD HM).pick [0]⟩
mutual
def spec_l12Asks.l0 : Nat → List ByteArray → Int → List Int → Int → Int → Option (List ByteArray × Int × Int)
 | 0, _, _, _, _, _ => none
 | k + 1, x5, x6, x1000, x1001, x1002 => if x6 > 0 then ((spec_l01Below.f x1000 x1001 x1002 3).bind fun bt136 => (if bt136.1 = 0 then (spec_l12Asks.j1 k x5 x6 (decide ((x5.length : Int) > 0)) x1000 bt136.2.1 bt136.2.2) else (spec_l12Asks.j1 k x5 x6 false x1000 bt136.2.1 bt136.2.2))) else (some (x5, x1001, x1002))
def spec_l12Asks.j1 : Nat → List ByteArray → Int → Bool → List Int → Int → Int → Option (List ByteArray × Int × Int)
 | 0, _, _, _, _, _, _ => none
 | k + 1, x5, x6, x25, x1000, x1001, x1002 => if x25 = true then ((spec_l01Below.f x1000 x1001 x1002 (x5.length : Int)).bind fun bt139 => (if 0 ≤ bt139.1 then (if bt139.1 < (x5.length : Int) then (if x5.length < 8796093022208 then (spec_l12Asks.l0 k (x5 ++ [rdOf ByteArray.empty x5 bt139.1]) (wrap64 (x6 - 1)) x1000 bt139.2.1 bt139.2.2) else (none)) else (none)) else (none))) else ((spec_l10Key.f x1000 x1001 x1002).bind fun bt146 => (if x5.length < 8796093022208 then (spec_l12Asks.l0 k (x5 ++ [bt146.1]) (wrap64 (x6 - 1)) x1000 bt146.2.1 bt146.2.2) else (none)))
end
def spec_l12Asks.f (k : Nat) (s0_0 : List Int) (s0_1 : Int) (s0_2 : Int) (a1 : Int) : Option (List ByteArray × Int × Int) := (spec_l01Below.f s0_0 s0_1 s0_2 (wrap64 (a1 + 1))).bind fun bt133 => (spec_l12Asks.l0 k (([] : List ByteArray)) bt133.1 s0_0 bt133.2.1 bt133.2.2)
set_option maxHeartbeats 8000000 in
set_option maxRecDepth 100000 in
theorem spec_l12Asks.calls (k : Nat) (g : Nat) (A0_0 : Option Addr) (c0_0 : Nat) (s0_0 : List Int) (s0_1 : Int) (s0_2 : Int) (a1 : Int) (r1 : List ByteArray) (r2 : Int) (r3 : Int) (w0 w : World) (F : List SP) (hrs0_0 : Kd.C (Kd.int .u8) w0 A0_0 s0_0.length s0_0) (hcs0_0 : s0_0.length ≤ c0_0) (hM : Mem w0 F w [box 48 g [.slice A0_0 s0_0.length c0_0, .int .i64 s0_1, .int .i64 s0_2]]) (h : spec_l12Asks.f k s0_0 s0_1 s0_2 a1 = some (r1, r2, r3)) :
  Calls Try.prog 25 #[.pointer (some ⟨g, 0, none⟩), .int .i64 a1] w fun e w' => ∃ v0_ : Value, e = .returned (v0_) ∧ Mem w0 F w' [rowR Kd.string 9 v0_ r1, box 48 g [.slice A0_0 s0_0.length c0_0, .int .i64 r2, .int .i64 r3]] := by
 have HRs0_0 := Aside0.mk hrs0_0
 have HCs0_0 := Aside0.mk hcs0_0
 clear hrs0_0 hcs0_0
 have HM := hM
 clear hM
 have H := h
 clear h
 unfold spec_l12Asks.f at H
 go_enter Try.func25, Try.ntmps25
 replace H := BN H; obtain ⟨⟨t133, t134, t135⟩, A4, H⟩ := H
 have H' := Aside0.mk H
 clear H
 go_wp2_with (first | ((with_reducible refine gN 8 rfl ?_); refine pL 8 Kd.string 9 ([] : List ByteArray) [] (Reps.none _ _) HM rfl ?_; clear HM; intro v131 w3 HM) | ((with_reducible refine gC 26 rfl ?_); refine pC (some 12) rfl #[.pointer (some ⟨g, 0, none⟩), .int .i64 (wrap64 (a1 + 1))] rfl Try.func26 (spec_l01Below.calls g A0_0 c0_0 s0_0 s0_1 s0_2 (wrap64 (a1 + 1)) t133 t134 t135 _ _ _ HRs0_0.out HCs0_0.out (HM.focus [1] [0]) A4.out) ?_; rintro e w5 ⟨rfl, hR⟩; refine ⟨_, rfl, ?_⟩; replace HM := nzM hR.unfocus; clear hR))
 go_loopg [5, 6] k (fun kq v5 v6 w' => ∃ (x5_1 : List ByteArray) (x6_1 : Int) (x1001_1 : Int) (x1002_1 : Int), v6 = .int .i64 x6_1 ∧ Aside0 (spec_l12Asks.l0 kq x5_1 x6_1 s0_0 x1001_1 x1002_1 = some (r1, r2, r3)) ∧ Aside0 (kq ≤ k) ∧ Mem w0 F w' [rowR Kd.string 9 v5 x5_1, box 48 g [.slice A0_0 s0_0.length c0_0, .int .i64 x1001_1, .int .i64 x1002_1]])
 case atStart => exact ⟨((([] : List ByteArray))), (t133), (t134), (t135), RS, H', ⟨Nat.le_refl _⟩, (MD HM).pick [0, 1]⟩
 case round =>
  clear H' HM
  obtain ⟨x5_1, x6_1, x1001_1, x1002_1, rfl, HA, HK1, HM⟩ := hrel
  cases gk with
  | zero => exact absurd HA.out (by simp [spec_l12Asks.l0])
  | succ k1 =>
   have H := HA.out
   clear HA
   simp only [spec_l12Asks.l0] at H
   go_upto_if 14 with (fail)
   replace H := IT H; rcases H with ⟨c6, H⟩ | ⟨c6, H⟩
   ·have c6b0 : decide (0 < x6_1) = true := decide_eq_true c6
    clear c6
    (first | rw [c6b0] | (simp only [i64_w, i32_w]; rw [c6b0]) | skip)
    replace H := BN H; obtain ⟨⟨t136, t137, t138⟩, A7, H⟩ := H
    have HC9 := Aside0.mk H
    clear H
    go_upto_region 6 with (first | ((with_reducible refine gC 26 rfl ?_); refine pC (some 18) rfl #[.pointer (some ⟨g, 0, none⟩), .int .i64 3] rfl Try.func26 (spec_l01Below.calls g A0_0 c0_0 s0_0 x1001_1 x1002_1 3 t136 t137 t138 _ _ _ HRs0_0.out HCs0_0.out (HM.focus [0] [1]) A7.out) ?_; rintro e w8 ⟨rfl, hR⟩; refine ⟨_, rfl, ?_⟩; replace HM := nzM hR.unfocus; clear hR))
    go_cut [25] (fun v25 wc => ∃ (kq : Nat) (x25_8 : Bool), v25 = .bool x25_8 ∧ Aside0 (spec_l12Asks.j1 kq x5_1 x6_1 x25_8 s0_0 t137 t138 = some (r1, r2, r3)) ∧ Aside0 (kq ≤ k1) ∧ Mem w0 F wc [rowR Kd.string 9 u5 x5_1, box 48 g [.slice A0_0 s0_0.length c0_0, .int .i64 t137, .int .i64 t138]])
    case first =>
     have H := HC9.out
     clear HC9
     replace H := IT H; rcases H with ⟨c10, H⟩ | ⟨c10, H⟩
     ·have c10b0 : (t136 == 0) = true := beq_iff_eq.mpr c10
      have c10b1 : (t136 != 0) = false := bne_eq_false_iff_eq.mpr c10
      clear c10
      have H' := Aside0.mk H
      clear H
      obtain ⟨Xo11, ko11, eo11⟩ := HM.rdR 0 rfl
      subst eo11
      go_wp2
      go_meet
      case rel => exact ⟨_, (decide ((x5_1.length : Int) > 0)), RS, H', ⟨by have := HK1.out; first | omega | exact Nat.le_refl _⟩, (MD HM).pick [0, 1]⟩
     ·have c10b0 : (t136 == 0) = false := beq_eq_false_iff_ne.mpr c10
      have c10b1 : (t136 != 0) = true := bne_iff_ne.mpr c10
      have H' := Aside0.mk H
      clear H
      go_wp2
      go_meet
      case rel => exact ⟨_, (false), RS, H', ⟨by have := HK1.out; first | omega | exact Nat.le_refl _⟩, (MD HM).pick [0, 1]⟩
    case rest =>
     clear HC9 HM
     obtain ⟨kq, x25_8, rfl, HA, HJ8, HM⟩ := hcut
     cases kq with
     | zero => exact absurd HA.out (by simp [spec_l12Asks.j1])
     | succ kj8 =>
      have H := HA.out
      clear HA
      simp only [spec_l12Asks.j1] at H
      go_upto_if 25 with (fail)
      replace H := IB H
      rcases H with ⟨c12, H⟩ | ⟨c12, H⟩
      ·subst c12
       replace H := BN H; obtain ⟨⟨t139, t140, t141⟩, A14, H⟩ := H
       replace H := GD H; obtain ⟨c16, H⟩ := H
       have c16b0 : decide (0 ≤ t139) = true := decide_eq_true c16
       clear c16
       replace H := GD H; obtain ⟨c17, H⟩ := H
       have c17b0 : decide (t139 < (x5_1.length : Int)) = true := decide_eq_true c17
       clear c17
       replace H := GD H; obtain ⟨c18, H⟩ := H
       have LMc18 := Aside0.mk c18
       clear c18
       have H' := Aside0.mk H
       clear H
       obtain ⟨Xo13, ko13, eo13⟩ := HM.rdR 0 rfl
       subst eo13
       go_wp2_with (first | ((with_reducible refine gC 26 rfl ?_); refine pC (some 31) rfl #[.pointer (some ⟨g, 0, none⟩), .int .i64 (x5_1.length : Int)] rfl Try.func26 (spec_l01Below.calls g A0_0 c0_0 s0_0 t137 t138 (x5_1.length : Int) t139 t140 t141 _ _ _ HRs0_0.out HCs0_0.out (HM.focus [0] [1]) A14.out) ?_; rintro e w15 ⟨rfl, hR⟩; refine ⟨_, rfl, ?_⟩; replace HM := nzM hR.unfocus; clear hR; have p142 : 0 ≤ (t139 : Int) := of_decide_eq_true AS; have q142 : (t139 : Int) < (x5_1.length : Int) := of_decide_eq_true AS; obtain ⟨ad142, e142, hx142_0⟩ := Kd.at_string (HM.CR 0 rfl).2.2 t139 p142 q142; cases e142; replace p142 := eq_true p142; replace q142 := eq_true q142) | ((with_reducible refine gN 34 rfl ?_); refine pL 34 Kd.string 9 [rdOf ByteArray.empty x5_1 t139] [.string (rdOf ByteArray.empty x5_1 t139)] (Reps.one (show Kd.M Kd.string _ _ _ (rdOf ByteArray.empty x5_1 t139) [.string (rdOf ByteArray.empty x5_1 t139)] from rfl) (Reps.none _ _)) HM rfl ?_; clear HM; intro v20 w19 HM; obtain ⟨Xv20, kv20, ev20⟩ := HM.rdR 2 rfl; subst ev20) | ((with_reducible refine gate_builtin (b := .append) (xs := #[.tmp 26, .tmp 34]) rfl ?_); refine pA 0 (.tmp 26) (.tmp 34) 23 9 Kd.string (.slice (some ad142) x5_1.length ko13) x5_1 [rdOf ByteArray.empty x5_1 t139] Xv20 ([rdOf ByteArray.empty x5_1 t139].length) kv20 HM rfl Try.underlying23 info9 rfl (HM.CR 2 rfl).2.2 (by have h_ := LMc18.out; simp only [List.length_singleton]; omega) ?_; clear HM; intro v144 w21 HM))
       go_roundg kj8
       case measure => have := HK1.out; have := HJ8.out; omega
       case rel => exact ⟨((x5_1 ++ [rdOf ByteArray.empty x5_1 t139])), (wrap64 (x6_1 - 1)), (t140), (t141), RS, H', ⟨by have := HK1.out; have := HJ8.out; omega⟩, (MD HM).pick [0, 1]⟩
      ·subst c12
       replace H := BN H; obtain ⟨⟨t146, t147, t148⟩, A22, H⟩ := H
       replace H := GD H; obtain ⟨c24, H⟩ := H
       have LMc24 := Aside0.mk c24
       clear c24
       have H' := Aside0.mk H
       clear H
       go_wp2_with (first | ((with_reducible refine gC 40 rfl ?_); refine pC (some 38) rfl #[.pointer (some ⟨g, 0, none⟩)] rfl Try.func40 (spec_l10Key.calls g A0_0 c0_0 s0_0 t137 t138 t146 t147 t148 _ _ _ HRs0_0.out HCs0_0.out (HM.focus [0] [1]) A22.out) ?_; rintro e w23 ⟨rfl, hR⟩; refine ⟨_, rfl, ?_⟩; replace HM := nzM hR.unfocus; clear hR) | ((with_reducible refine gN 39 rfl ?_); refine pL 39 Kd.string 9 [t146] [.string t146] (Reps.one (show Kd.M Kd.string _ _ _ t146 [.string t146] from rfl) (Reps.none _ _)) HM rfl ?_; clear HM; intro v26 w25 HM; obtain ⟨Xv26, kv26, ev26⟩ := HM.rdR 2 rfl; subst ev26) | ((with_reducible refine gate_builtin (b := .append) (xs := #[.tmp 36, .tmp 39]) rfl ?_); refine pA 0 (.tmp 36) (.tmp 39) 23 9 Kd.string u5 x5_1 [t146] Xv26 ([t146].length) kv26 HM rfl Try.underlying23 info9 rfl (HM.CR 2 rfl).2.2 (by have h_ := LMc24.out; simp only [List.length_singleton]; omega) ?_; clear HM; intro v150 w27 HM))
       go_roundg kj8
       case measure => have := HK1.out; have := HJ8.out; omega
       case rel => exact ⟨((x5_1 ++ [t146])), (wrap64 (x6_1 - 1)), (t147), (t148), RS, H', ⟨by have := HK1.out; have := HJ8.out; omega⟩, (MD HM).pick [0, 1]⟩
   ·have c6b0 : decide (0 < x6_1) = false := decide_eq_false c6
    clear c6
    (first | rw [c6b0] | (simp only [i64_w, i32_w]; rw [c6b0]) | skip)
    simp only [Option.some.injEq, Prod.mk.injEq] at H
    obtain ⟨rfl, rfl, rfl⟩ := H
    go_wp2
    go_ret
    exact ⟨_, ER, (MD HM).pick [0, 1]⟩
def spec_MakeAsks.f (k : Nat) (l0 : List Int) (a1 : Int) : Option (List ByteArray) := (spec_l01New.f k l0).bind fun bt152 => ((spec_l12Asks.f k bt152.1 bt152.2.1 (wrap64 (bt152.2.2 + 17)) a1).bind fun bt156 => (some bt156.1))
set_option maxHeartbeats 8000000 in
set_option maxRecDepth 100000 in
theorem spec_MakeAsks.calls (k : Nat) (A0 : Option Addr) (c0 : Nat) (l0 : List Int) (a1 : Int) (r : List ByteArray) (w : World) (hr0 : Kd.C (Kd.int .u8) w A0 l0.length l0) (hc0 : l0.length ≤ c0) (h : spec_MakeAsks.f k l0 a1 = some r) :
  Calls Try.prog 6 #[.slice A0 l0.length c0, .int .i64 a1] w fun e w' => ∃ v0_ : Value, e = .returned (v0_) ∧ Mem w [] w' [rowR Kd.string 9 v0_ r] := by
 have HR0 := Aside0.mk hr0
 have HC0 := Aside0.mk hc0
 clear hr0 hc0
 have HM := Mem.nil w
 have H := h
 clear h
 unfold spec_MakeAsks.f at H
 go_enter Try.func6, Try.ntmps6
 replace H := BN H; obtain ⟨⟨t152, t153, t154⟩, A3, H⟩ := H
 replace H := BN H; obtain ⟨⟨t156, t159, t160⟩, A8, H⟩ := H
 obtain rfl := Option.some.inj H
 go_wp2_with (first | ((with_reducible refine gC 24 rfl ?_); refine pC (some 8) rfl #[.slice A0 l0.length c0] rfl Try.func24 (spec_l01New.calls k _ _ l0 t152 t153 t154 _ _ HM.bel HR0.out HC0.out A3.out) ?_; rintro e w4 ⟨gb155, Xn5, kn5, rfl, hR, hRn5, hCn5⟩; refine ⟨_, rfl, ?_⟩; have HRn5 := Aside0.mk hRn5; have HCn5 := Aside0.mk hCn5; clear hRn5 hCn5; replace HM := HM.call hR; clear hR; obtain ⟨z6_0, z6_1, z6_2, Z6_0, Z6_1, Z6_2⟩ := bk3 (HM.bx 0 rfl)) | ((with_reducible refine gS 16 rfl ?_); refine pS 0 16 2 [.int .i64 (wrap64 (t154 + 17))] HM rfl rfl ?_; clear HM; intro w7 HM) | ((with_reducible refine gC 25 rfl ?_); refine pC (some 19) rfl #[.pointer (some ⟨gb155, 0, none⟩), .int .i64 a1] rfl Try.func25 (spec_l12Asks.calls k gb155 Xn5 kn5 t152 t153 (wrap64 (t154 + 17)) a1 t156 t159 t160 _ _ _ HRn5.out HCn5.out (HM.focus [] [0]) A8.out) ?_; rintro e w9 ⟨v157, rfl, hR⟩; refine ⟨_, rfl, ?_⟩; replace HM := nzM hR.unfocus; clear hR))
 go_ret
 exact ⟨_, ER, (MD HM).pick [0]⟩
def spec_MakeNum.f (k : Nat) (l0 : List Int) (a1 : Int) : Option (Int) := (spec_l01New.f k l0).bind fun bt161 => ((spec_l01Below.f bt161.1 bt161.2.1 (wrap64 (bt161.2.2 + 777)) a1).bind fun bt165 => (some bt165.1))
set_option maxHeartbeats 8000000 in
set_option maxRecDepth 100000 in
theorem spec_MakeNum.calls (k : Nat) (A0 : Option Addr) (c0 : Nat) (l0 : List Int) (a1 : Int) (r : Int) (w : World) (hr0 : Kd.C (Kd.int .u8) w A0 l0.length l0) (hc0 : l0.length ≤ c0) (h : spec_MakeNum.f k l0 a1 = some r) :
  Calls Try.prog 7 #[.slice A0 l0.length c0, .int .i64 a1] w fun e w' => e = .returned (.int .i64 r) ∧ Mem w [] w' [] := by
 have HR0 := Aside0.mk hr0
 have HC0 := Aside0.mk hc0
 clear hr0 hc0
 have HM := Mem.nil w
 have H := h
 clear h
 unfold spec_MakeNum.f at H
 go_enter Try.func7, Try.ntmps7
 replace H := BN H; obtain ⟨⟨t161, t162, t163⟩, A3, H⟩ := H
 replace H := BN H; obtain ⟨⟨t165, t166, t167⟩, A8, H⟩ := H
 obtain rfl := Option.some.inj H
 go_wp2_with (first | ((with_reducible refine gC 24 rfl ?_); refine pC (some 7) rfl #[.slice A0 l0.length c0] rfl Try.func24 (spec_l01New.calls k _ _ l0 t161 t162 t163 _ _ HM.bel HR0.out HC0.out A3.out) ?_; rintro e w4 ⟨gb164, Xn5, kn5, rfl, hR, hRn5, hCn5⟩; refine ⟨_, rfl, ?_⟩; have HRn5 := Aside0.mk hRn5; have HCn5 := Aside0.mk hCn5; clear hRn5 hCn5; replace HM := HM.call hR; clear hR; obtain ⟨z6_0, z6_1, z6_2, Z6_0, Z6_1, Z6_2⟩ := bk3 (HM.bx 0 rfl)) | ((with_reducible refine gS 15 rfl ?_); refine pS 0 15 2 [.int .i64 (wrap64 (t163 + 777))] HM rfl rfl ?_; clear HM; intro w7 HM) | ((with_reducible refine gC 26 rfl ?_); refine pC (some 18) rfl #[.pointer (some ⟨gb164, 0, none⟩), .int .i64 a1] rfl Try.func26 (spec_l01Below.calls gb164 Xn5 kn5 t161 t162 (wrap64 (t163 + 777)) a1 t165 t166 t167 _ _ _ HRn5.out HCn5.out (HM.focus [] [0]) A8.out) ?_; rintro e w9 ⟨rfl, hR⟩; refine ⟨_, rfl, ?_⟩; replace HM := nzM hR.unfocus; clear hR))
 go_ret
 exact ⟨ER, (MD HM).pick []⟩
end Go.Proofs.Ytlokjgngjgbpmaa.G

namespace Go.Proofs.Ytlokjgngjgbpmaa.G
open Go.RowKit Go.Proofs.YtlokjgngjgbpmaaW.PrintWords Go.Proofs.YtlokjgngjgbpmaaW.PrintLast Go.Proofs.YtlokjgngjgbpmaaW.PrintMore Go.Proofs.Ytlokjgngjgbpmaa.Sh
attribute [local go_sem] max2_int min2_int max_two min_two max_three min_three max_four min_four
set_option linter.unusedVariables false
set_option linter.unusedSimpArgs false
def impl_within.f (a0 : Int) (a1 : Int) (a2 : Int) : Option (Bool) := if a0 ≥ a1 then (some (decide (a0 ≤ a2))) else (some false)
set_option maxHeartbeats 8000000 in
set_option maxRecDepth 100000 in
theorem impl_within.calls (a0 : Int) (a1 : Int) (a2 : Int) (r : Bool) (w : World) (h : impl_within.f a0 a1 a2 = some r) :
  Calls Try.prog 28 #[.int .i64 a0, .int .i64 a1, .int .i64 a2] w fun e w' => e = .returned (.bool r) ∧ Drawn0 w w' := by
 have H : (if a0 ≥ a1 then (some (decide (a0 ≤ a2))) else (some false)) = some r := h
 clear h
 by_cases c4 : a0 ≥ a1
 ·rw [if_pos c4] at H
  have c4b0 : decide (a1 ≤ a0) = true := decide_eq_true c4
  clear c4
  obtain rfl := Option.some.inj H
  go_enter Try.func28, Try.ntmps28
  go_wp2
  go_ret
  exact ⟨by first | rfl | (simp; done) | (simp [*]; done), DR⟩
 ·rw [if_neg c4] at H
  have c4b0 : decide (a1 ≤ a0) = false := decide_eq_false c4
  clear c4
  obtain rfl := Option.some.inj H
  go_enter Try.func28, Try.ntmps28
  go_wp2
  go_ret
  exact ⟨by first | rfl | (simp; done) | (simp [*]; done), DR⟩
def impl_isPlain.l0 : Nat → ByteArray → Int → Option (Bool)
 | 0, _, _ => none
 | k + 1, x0, x3 => if x3 < (x0.size : Int) then (if 0 ≤ x3 then (if (bt x0 x3) = 32 then (some false) else (if (bt x0 x3) = 10 then (some false) else (impl_isPlain.l0 k x0 (wrap64 (x3 + 1))))) else (none)) else (some true)
def impl_isPlain.f (k : Nat) (a0 : ByteArray) : Option (Bool) := impl_isPlain.l0 k a0 0
set_option maxHeartbeats 8000000 in
set_option maxRecDepth 100000 in
theorem impl_isPlain.calls (k : Nat) (a0 : ByteArray) (r : Bool) (w : World) (h : impl_isPlain.f k a0 = some r) :
  Calls Try.prog 58 #[.string a0] w fun e w' => e = .returned (.bool r) ∧ Drawn0 w w' := by
 have H : (impl_isPlain.l0 k a0 0) = some r := h
 clear h
 have H' := Aside0.mk H
 clear H
 go_enter Try.func58, Try.ntmps58
 go_wp2
 go_loopg [3] k (fun kq v3 w' => ∃ (x3_1 : Int), v3 = .int .i64 x3_1 ∧ Aside0 (impl_isPlain.l0 kq a0 x3_1 = some r) ∧ Aside0 (kq ≤ k) ∧ Drawn0 w w')
 case atStart => exact ⟨(0), RS, H', ⟨Nat.le_refl _⟩, DR⟩
 case round =>
  clear H'
  obtain ⟨x3_1, rfl, HA, HK1, ⟨m1, rfl⟩⟩ := hrel
  cases gk with
  | zero => exact absurd HA.out (by simp [impl_isPlain.l0])
  | succ k1 =>
   have H := HA.out
   clear HA
   simp only [impl_isPlain.l0] at H
   by_cases c2 : x3_1 < (a0.size : Int)
   ·rw [if_pos c2] at H
    have c2b0 : decide (x3_1 < (a0.size : Int)) = true := decide_eq_true c2
    clear c2
    by_cases c3 : 0 ≤ x3_1
    ·rw [if_pos c3] at H
     have c3b0 : decide (0 ≤ x3_1) = true := decide_eq_true c3
     clear c3
     by_cases c5 : (bt a0 x3_1) = 32
     ·rw [if_pos c5] at H
      have c5b0 : ((bt a0 x3_1) == 32) = true := beq_iff_eq.mpr c5
      have c5b1 : ((bt a0 x3_1) != 32) = false := bne_eq_false_iff_eq.mpr c5
      clear c5
      obtain rfl := Option.some.inj H
      have p4 : 0 ≤ (x3_1 : Int) := of_decide_eq_true AS
      have q4 : x3_1 < (a0.size : Int) := of_decide_eq_true AS
      have hx4 := bt_at a0 x3_1
      replace p4 := eq_true p4
      replace q4 := eq_true q4
      go_wp2
      go_ret
      exact ⟨by first | rfl | (simp; done) | (simp [*]; done), DR⟩
     ·rw [if_neg c5] at H
      have c5b0 : ((bt a0 x3_1) == 32) = false := beq_eq_false_iff_ne.mpr c5
      have c5b1 : ((bt a0 x3_1) != 32) = true := bne_iff_ne.mpr c5
      by_cases c7 : (bt a0 x3_1) = 10
      ·rw [if_pos c7] at H
       have c7b0 : ((bt a0 x3_1) == 10) = true := beq_iff_eq.mpr c7
       have c7b1 : ((bt a0 x3_1) != 10) = false := bne_eq_false_iff_eq.mpr c7
       clear c7
       obtain rfl := Option.some.inj H
       have p4 : 0 ≤ (x3_1 : Int) := of_decide_eq_true AS
       have q4 : x3_1 < (a0.size : Int) := of_decide_eq_true AS
       have hx4 := bt_at a0 x3_1
       replace p4 := eq_true p4
       replace q4 := eq_true q4
       have p6 : 0 ≤ (x3_1 : Int) := of_decide_eq_true AS
       have q6 : x3_1 < (a0.size : Int) := of_decide_eq_true AS
       have hx6 := bt_at a0 x3_1
       replace p6 := eq_true p6
       replace q6 := eq_true q6
       go_wp2
       go_ret
       exact ⟨by first | rfl | (simp; done) | (simp [*]; done), DR⟩
      ·rw [if_neg c7] at H
       have c7b0 : ((bt a0 x3_1) == 10) = false := beq_eq_false_iff_ne.mpr c7
       have c7b1 : ((bt a0 x3_1) != 10) = true := bne_iff_ne.mpr c7
       have H' := Aside0.mk H
       clear H
       have p4 : 0 ≤ (x3_1 : Int) := of_decide_eq_true AS
       have q4 : x3_1 < (a0.size : Int) := of_decide_eq_true AS
       have hx4 := bt_at a0 x3_1
       replace p4 := eq_true p4
       replace q4 := eq_true q4
       have p6 : 0 ≤ (x3_1 : Int) := of_decide_eq_true AS
       have q6 : x3_1 < (a0.size : Int) := of_decide_eq_true AS
       have hx6 := bt_at a0 x3_1
       replace p6 := eq_true p6
       replace q6 := eq_true q6
       go_wp2
       go_roundg k1
       case measure => have := HK1.out; omega
       case rel => exact ⟨(wrap64 (x3_1 + 1)), RS, H', ⟨by have := HK1.out; omega⟩, DR⟩
    ·rw [if_neg c3] at H
     exact absurd H (by simp)
   ·rw [if_neg c2] at H
    have c2b0 : decide (x3_1 < (a0.size : Int)) = false := decide_eq_false c2
    clear c2
    obtain rfl := Option.some.inj H
    go_wp2
    go_ret
    exact ⟨by first | rfl | (simp; done) | (simp [*]; done), DR⟩
end Go.Proofs.Ytlokjgngjgbpmaa.G

namespace Go.Proofs.Ytlokjgngjgbpmaa.G
open Go.RowKit Go.Proofs.YtlokjgngjgbpmaaW.PrintWords Go.Proofs.YtlokjgngjgbpmaaW.PrintLast Go.Proofs.YtlokjgngjgbpmaaW.PrintMore Go.Proofs.Ytlokjgngjgbpmaa.Sh
attribute [local go_sem] max2_int min2_int max_two min_two max_three min_three max_four min_four
set_option linter.unusedVariables false
set_option linter.unusedSimpArgs false
open Go.Proofs.Ytlokjgngjgbpmaa.Mm
def impl_ItemOk.f (k : Nat) (a0_0 : ByteArray) (a0_1 : ByteArray) (a0_2 : Int) : Option (Bool) := (impl_within.f (a0_0.size : Int) 1 20).bind fun t169 => (if t169 = true then (if (a0_1.size : Int) ≤ 40 then ((impl_isPlain.f k a0_0).bind fun t170 => (if t170 = true then ((impl_isPlain.f k a0_1).bind fun t171 => (if t171 = true then ((impl_within.f a0_2 0 3).bind fun t172 => (some t172)) else (some false))) else (some false))) else (some false)) else (some false))
set_option maxHeartbeats 8000000 in
set_option maxRecDepth 100000 in
theorem impl_ItemOk.calls (k : Nat) (a0_0 : ByteArray) (a0_1 : ByteArray) (a0_2 : Int) (r : Bool) (w : World)  (h : impl_ItemOk.f k a0_0 a0_1 a0_2 = some r) :
  Calls Try.prog 42 #[.agg #[.string a0_0, .string a0_1, .int .i64 a0_2]] w fun e w' => e = .returned (.bool r) ∧ Mem w [] w' [] := by
 have hu67 := Try.underlying67
 have HM := Mem.nil w
 have H := h
 clear h
 unfold impl_ItemOk.f at H
 go_enter Try.func42, Try.ntmps42
 replace H := BN H; obtain ⟨t169, A4, H⟩ := H
 replace H := IB H
 rcases H with ⟨c6, H⟩ | ⟨c6, H⟩
 ·subst c6
  replace H := IT H; rcases H with ⟨c8, H⟩ | ⟨c8, H⟩
  ·replace c8 : (a0_1.size : Int) ≤ 40 := c8
   have c8b0 : decide ((a0_1.size : Int) ≤ 40) = true := decide_eq_true c8
   have c8b1 : decide (a0_1.size ≤ 40) = true := decide_eq_true (by omega)
   clear c8
   replace H := BN H; obtain ⟨t170, A9, H⟩ := H
   replace H := IB H
   rcases H with ⟨c11, H⟩ | ⟨c11, H⟩
   ·subst c11
    replace H := BN H; obtain ⟨t171, A13, H⟩ := H
    replace H := IB H
    rcases H with ⟨c15, H⟩ | ⟨c15, H⟩
    ·subst c15
     replace H := BN H; obtain ⟨t172, A17, H⟩ := H
     obtain rfl := Option.some.inj H
     go_wp2_with (first | ((with_reducible refine gN 1 rfl ?_); refine pB 1 67 [.string a0_0, .string a0_1, .int .i64 a0_2] HM rfl ?_; clear HM; intro gb168 w2 HM; obtain ⟨z3_0, z3_1, z3_2, Z3_0, Z3_1, Z3_2⟩ := bk3 (HM.bx 0 rfl)) | ((with_reducible refine gC 28 rfl ?_); refine pC (some 6) rfl #[.int .i64 (a0_0.size : Int), .int .i64 1, .int .i64 20] rfl Try.func28 (impl_within.calls (a0_0.size : Int) 1 20 true _ A4.out) ?_; rintro e w5 ⟨rfl, hd⟩; refine ⟨_, rfl, ?_⟩; replace HM := HM.drawn hd; clear hd; obtain ⟨z7_0, z7_1, z7_2, Z7_0, Z7_1, Z7_2⟩ := bk3 (HM.bx 0 rfl)) | ((with_reducible refine gC 58 rfl ?_); refine pC (some 16) rfl #[.string a0_0] rfl Try.func58 (impl_isPlain.calls k a0_0 true _ A9.out) ?_; rintro e w10 ⟨rfl, hd⟩; refine ⟨_, rfl, ?_⟩; replace HM := HM.drawn hd; clear hd; obtain ⟨z12_0, z12_1, z12_2, Z12_0, Z12_1, Z12_2⟩ := bk3 (HM.bx 0 rfl)) | ((with_reducible refine gC 58 rfl ?_); refine pC (some 21) rfl #[.string a0_1] rfl Try.func58 (impl_isPlain.calls k a0_1 true _ A13.out) ?_; rintro e w14 ⟨rfl, hd⟩; refine ⟨_, rfl, ?_⟩; replace HM := HM.drawn hd; clear hd; obtain ⟨z16_0, z16_1, z16_2, Z16_0, Z16_1, Z16_2⟩ := bk3 (HM.bx 0 rfl)) | ((with_reducible refine gC 28 rfl ?_); refine pC (some 26) rfl #[.int .i64 a0_2, .int .i64 0, .int .i64 3] rfl Try.func28 (impl_within.calls a0_2 0 3 t172 _ A17.out) ?_; rintro e w18 ⟨rfl, hd⟩; refine ⟨_, rfl, ?_⟩; replace HM := HM.drawn hd; clear hd))
     go_ret
     exact ⟨ER, (MD HM).pick []⟩
    ·subst c15
     obtain rfl := Option.some.inj H
     go_wp2_with (first | ((with_reducible refine gN 1 rfl ?_); refine pB 1 67 [.string a0_0, .string a0_1, .int .i64 a0_2] HM rfl ?_; clear HM; intro gb168 w2 HM; obtain ⟨z3_0, z3_1, z3_2, Z3_0, Z3_1, Z3_2⟩ := bk3 (HM.bx 0 rfl)) | ((with_reducible refine gC 28 rfl ?_); refine pC (some 6) rfl #[.int .i64 (a0_0.size : Int), .int .i64 1, .int .i64 20] rfl Try.func28 (impl_within.calls (a0_0.size : Int) 1 20 true _ A4.out) ?_; rintro e w5 ⟨rfl, hd⟩; refine ⟨_, rfl, ?_⟩; replace HM := HM.drawn hd; clear hd; obtain ⟨z7_0, z7_1, z7_2, Z7_0, Z7_1, Z7_2⟩ := bk3 (HM.bx 0 rfl)) | ((with_reducible refine gC 58 rfl ?_); refine pC (some 16) rfl #[.string a0_0] rfl Try.func58 (impl_isPlain.calls k a0_0 true _ A9.out) ?_; rintro e w10 ⟨rfl, hd⟩; refine ⟨_, rfl, ?_⟩; replace HM := HM.drawn hd; clear hd; obtain ⟨z12_0, z12_1, z12_2, Z12_0, Z12_1, Z12_2⟩ := bk3 (HM.bx 0 rfl)) | ((with_reducible refine gC 58 rfl ?_); refine pC (some 21) rfl #[.string a0_1] rfl Try.func58 (impl_isPlain.calls k a0_1 false _ A13.out) ?_; rintro e w14 ⟨rfl, hd⟩; refine ⟨_, rfl, ?_⟩; replace HM := HM.drawn hd; clear hd))
     go_ret
     exact ⟨ER, (MD HM).pick []⟩
   ·subst c11
    obtain rfl := Option.some.inj H
    go_wp2_with (first | ((with_reducible refine gN 1 rfl ?_); refine pB 1 67 [.string a0_0, .string a0_1, .int .i64 a0_2] HM rfl ?_; clear HM; intro gb168 w2 HM; obtain ⟨z3_0, z3_1, z3_2, Z3_0, Z3_1, Z3_2⟩ := bk3 (HM.bx 0 rfl)) | ((with_reducible refine gC 28 rfl ?_); refine pC (some 6) rfl #[.int .i64 (a0_0.size : Int), .int .i64 1, .int .i64 20] rfl Try.func28 (impl_within.calls (a0_0.size : Int) 1 20 true _ A4.out) ?_; rintro e w5 ⟨rfl, hd⟩; refine ⟨_, rfl, ?_⟩; replace HM := HM.drawn hd; clear hd; obtain ⟨z7_0, z7_1, z7_2, Z7_0, Z7_1, Z7_2⟩ := bk3 (HM.bx 0 rfl)) | ((with_reducible refine gC 58 rfl ?_); refine pC (some 16) rfl #[.string a0_0] rfl Try.func58 (impl_isPlain.calls k a0_0 false _ A9.out) ?_; rintro e w10 ⟨rfl, hd⟩; refine ⟨_, rfl, ?_⟩; replace HM := HM.drawn hd; clear hd))
    go_ret
    exact ⟨ER, (MD HM).pick []⟩
  ·replace c8 : ¬ ((a0_1.size : Int) ≤ 40) := c8
   have c8b0 : decide ((a0_1.size : Int) ≤ 40) = false := decide_eq_false c8
   have c8b1 : decide (a0_1.size ≤ 40) = false := decide_eq_false (by omega)
   clear c8
   obtain rfl := Option.some.inj H
   go_wp2_with (first | ((with_reducible refine gN 1 rfl ?_); refine pB 1 67 [.string a0_0, .string a0_1, .int .i64 a0_2] HM rfl ?_; clear HM; intro gb168 w2 HM; obtain ⟨z3_0, z3_1, z3_2, Z3_0, Z3_1, Z3_2⟩ := bk3 (HM.bx 0 rfl)) | ((with_reducible refine gC 28 rfl ?_); refine pC (some 6) rfl #[.int .i64 (a0_0.size : Int), .int .i64 1, .int .i64 20] rfl Try.func28 (impl_within.calls (a0_0.size : Int) 1 20 true _ A4.out) ?_; rintro e w5 ⟨rfl, hd⟩; refine ⟨_, rfl, ?_⟩; replace HM := HM.drawn hd; clear hd; obtain ⟨z7_0, z7_1, z7_2, Z7_0, Z7_1, Z7_2⟩ := bk3 (HM.bx 0 rfl)))
   go_ret
   exact ⟨ER, (MD HM).pick []⟩
 ·subst c6
  obtain rfl := Option.some.inj H
  go_wp2_with (first | ((with_reducible refine gN 1 rfl ?_); refine pB 1 67 [.string a0_0, .string a0_1, .int .i64 a0_2] HM rfl ?_; clear HM; intro gb168 w2 HM; obtain ⟨z3_0, z3_1, z3_2, Z3_0, Z3_1, Z3_2⟩ := bk3 (HM.bx 0 rfl)) | ((with_reducible refine gC 28 rfl ?_); refine pC (some 6) rfl #[.int .i64 (a0_0.size : Int), .int .i64 1, .int .i64 20] rfl Try.func28 (impl_within.calls (a0_0.size : Int) 1 20 false _ A4.out) ?_; rintro e w5 ⟨rfl, hd⟩; refine ⟨_, rfl, ?_⟩; replace HM := HM.drawn hd; clear hd))
  go_ret
  exact ⟨ER, (MD HM).pick []⟩
def impl_AsksOk.l0 : Nat → List ByteArray → List ByteArray → Int → Int → Option (Bool)
 | 0, _, _, _, _ => none
 | k + 1, x0, x5, x6, x7 => if x7 < x6 then (if 0 ≤ x7 then (if x7 < (x5.length : Int) then ((impl_ItemOk.f k (rdOf ByteArray.empty x5 x7) (⟨#[]⟩ : ByteArray) 0).bind fun t174 => (if t174 = true then (impl_AsksOk.l0 k x0 x5 x6 (wrap64 (x7 + 1))) else (some false))) else (none)) else (none)) else (some (decide ((x0.length : Int) ≤ 300)))
def impl_AsksOk.f (k : Nat) (l0 : List ByteArray) : Option (Bool) := impl_AsksOk.l0 k l0 l0 (l0.length : Int) 0
set_option maxHeartbeats 8000000 in
set_option maxRecDepth 100000 in
theorem impl_AsksOk.calls (k : Nat) (A0 : Option Addr) (c0 : Nat) (l0 : List ByteArray) (r : Bool) (w : World) (hr0 : Kd.C Kd.string w A0 l0.length l0) (hc0 : l0.length ≤ c0) (h : impl_AsksOk.f k l0 = some r) :
  Calls Try.prog 27 #[.slice A0 l0.length c0] w fun e w' => e = .returned (.bool r) ∧ Mem w [] w' [] := by
 have hu67 := Try.underlying67
 have HR0 := Aside0.mk hr0
 have HC0 := Aside0.mk hc0
 clear hr0 hc0
 have HM := Mem.nil w
 have H := h
 clear h
 unfold impl_AsksOk.f at H
 go_enter Try.func27, Try.ntmps27
 have H' := Aside0.mk H
 clear H
 go_wp2
 go_loopg [7] k (fun kq v7 w' => ∃ (x7_1 : Int), v7 = .int .i64 x7_1 ∧ Aside0 (impl_AsksOk.l0 kq l0 l0 (l0.length : Int) x7_1 = some r) ∧ Aside0 (kq ≤ k) ∧ Mem w [] w' [])
 case atStart => exact ⟨(0), RS, H', ⟨Nat.le_refl _⟩, (MD HM).pick []⟩
 case round =>
  clear H' HM
  obtain ⟨x7_1, rfl, HA, HK1, HM⟩ := hrel
  cases gk with
  | zero => exact absurd HA.out (by simp [impl_AsksOk.l0])
  | succ k1 =>
   have H := HA.out
   clear HA
   simp only [impl_AsksOk.l0] at H
   go_upto_if 8 with (fail)
   replace H := IT H; rcases H with ⟨c2, H⟩ | ⟨c2, H⟩
   ·have c2b0 : decide (x7_1 < (l0.length : Int)) = true := decide_eq_true c2
    clear c2
    (first | rw [c2b0] | (simp only [i64_w, i32_w]; rw [c2b0]) | skip)
    replace H := GD H; obtain ⟨c3, H⟩ := H
    have c3b0 : decide (0 ≤ x7_1) = true := decide_eq_true c3
    clear c3
    replace H := GD H; obtain ⟨c4, H⟩ := H
    have c4b0 : decide (x7_1 < (l0.length : Int)) = true := decide_eq_true c4
    clear c4
    replace H := BN H; obtain ⟨t174, A5, H⟩ := H
    have p173 : 0 ≤ (x7_1 : Int) := of_decide_eq_true AS
    have q173 : (x7_1 : Int) < (l0.length : Int) := of_decide_eq_true AS
    obtain ⟨ad173, e173, hx173_0⟩ := Kd.at_string (HM.came HR0.out) x7_1 p173 q173
    cases e173
    replace p173 := eq_true p173
    replace q173 := eq_true q173
    go_upto_if 14 with (first | ((with_reducible refine gC 42 rfl ?_); refine pC (some 13) rfl #[.agg #[.string (rdOf ByteArray.empty l0 x7_1), .string (⟨#[]⟩ : ByteArray), .int .i64 0]] rfl Try.func42 (impl_ItemOk.calls k1 (rdOf ByteArray.empty l0 x7_1) (⟨#[]⟩ : ByteArray) 0 t174 _ A5.out) ?_; rintro e w6 ⟨rfl, hR⟩; refine ⟨_, rfl, ?_⟩; replace HM := HM.call hR; clear hR))
    replace H := IB H
    rcases H with ⟨c7, H⟩ | ⟨c7, H⟩
    ·subst c7
     have H' := Aside0.mk H
     clear H
     go_wp2
     go_roundg k1
     case measure => have := HK1.out; omega
     case rel => exact ⟨(wrap64 (x7_1 + 1)), RS, H', ⟨by have := HK1.out; omega⟩, (MD HM).pick []⟩
    ·subst c7
     obtain rfl := Option.some.inj H
     go_wp2
     go_ret
     exact ⟨ER, (MD HM).pick []⟩
   ·have c2b0 : decide (x7_1 < (l0.length : Int)) = false := decide_eq_false c2
    clear c2
    (first | rw [c2b0] | (simp only [i64_w, i32_w]; rw [c2b0]) | skip)
    obtain rfl := Option.some.inj H
    go_wp2
    go_ret
    exact ⟨ER, (MD HM).pick []⟩
end Go.Proofs.Ytlokjgngjgbpmaa.G

namespace Go.Proofs.Ytlokjgngjgbpmaa.G
open Go.RowKit Go.Proofs.YtlokjgngjgbpmaaW.PrintWords Go.Proofs.YtlokjgngjgbpmaaW.PrintLast Go.Proofs.YtlokjgngjgbpmaaW.PrintMore Go.Proofs.Ytlokjgngjgbpmaa.Sh
attribute [local go_sem] max2_int min2_int max_two min_two max_three min_three max_four min_four
set_option linter.unusedVariables false
set_option linter.unusedSimpArgs false
def impl_isNum.f (a0 : Int) : Option (Bool) := (impl_within.f a0 0 4294967295).bind fun t176 => (some t176)
set_option maxHeartbeats 8000000 in
set_option maxRecDepth 100000 in
theorem impl_isNum.calls (a0 : Int) (r : Bool) (w : World) (h : impl_isNum.f a0 = some r) :
  Calls Try.prog 29 #[.int .i64 a0] w fun e w' => e = .returned (.bool r) ∧ Drawn0 w w' := by
 have H : ((impl_within.f a0 0 4294967295).bind fun t176 => (some t176)) = some r := h
 clear h
 replace H := BS H
 obtain ⟨t176, A20, H⟩ := H
 have A2 := Aside0.mk A20
 clear A20
 obtain rfl := Option.some.inj H
 go_enter Try.func29, Try.ntmps29
 go_wp2_with (first | ((with_reducible refine gate_callee (f := 28) rfl ?_); refine goesL_ (some 4) rfl rfl Try.func28 (by kernel_rfl) rfl #[.int .i64 a0, .int .i64 0, .int .i64 4294967295] rfl AQ ?_; (with_reducible refine (impl_within.calls a0 0 4294967295 t176 _ A2.out).mono ?_); rintro e w' ⟨rfl, ⟨nd, rfl⟩⟩; refine ⟨_, rfl, ?_⟩))
 go_ret
 exact ⟨by first | rfl | (simp; done) | (simp [*]; done), DR⟩
end Go.Proofs.Ytlokjgngjgbpmaa.G

namespace Go.Proofs.Ytlokjgngjgbpmaa.Man
open Go.RowKit Go.Proofs.YtlokjgngjgbpmaaW.PrintWords Go.Proofs.YtlokjgngjgbpmaaW.PrintLast Go.Proofs.YtlokjgngjgbpmaaW.PrintMore
set_option linter.unusedVariables false
theorem wsucc_ {i : Nat} (h : i < 9223372036854775807) : wrap64 ((i : Int) + 1) = ((i + 1 : Nat) : Int) := by
 unfold wrap64
 omega
section
variable {P : Program}
theorem cycle_len (zc : Array Value) (n : Nat) (h : 0 < n) : (Builtin.zeroCells zc n).toList.length = n * zc.size := by
 simp [Builtin.zeroCells]
/-- 'clear(s)' of what lies behind a row of the call's own, in its spare room: the row stays. -/
theorem R_clear_run {α : Type} (d : Kd α) {W : World} (base : Nat) (t ty e : TypeId) (z : Value) (ht : P.underlying t = some (.slice e)) (hz : ∀ w, (zeroValue e).run P w = .ok z w) (hzs : z.cells.size = d.sz) (hz1 : ∀ u ∈ z.cells.toList, u.oneCell' = true)
  {g n c m : Nat} {xs : List α} {ok : Nat → Prop} (HO : d.R e W base ok (.slice (some ⟨g, 0, none⟩) n c) xs) (hm : n + m ≤ c) (hm0 : 0 < m) (c2 : Nat) :
  ∃ w1, (Builtin.clear_ #[t] ty #[.slice (some ⟨g, n * d.sz, none⟩) m c2]).run P W = .ok (.tuple #[]) w1 ∧ d.R e w1 base ok (.slice (some ⟨g, 0, none⟩) n c) xs ∧ W.grownBy w1 (some g) := by
 obtain ⟨hn, hnc, _⟩ := Kd.R_reads' HO
 obtain ⟨hok, inner, hown, hr⟩ := HO
 have hin : inner.length = n * d.sz := by rw [hr.1, hn]
 rcases hown.2 with ⟨hv, _⟩ | ⟨g', cap', cur, hv, hb, hh, _, hcm, hcs, htake⟩
 ·cases hv
 injection hv with ha _ hc
 injection ha with ha
 injection ha with hg
 subst hg; subst hc
 rw [← hn] at htake
 obtain ⟨news, hnews⟩ : ∃ news, news = (Builtin.zeroCells z.cells m).toList := ⟨_, rfl⟩
 have hnl : news.length = m * d.sz := by rw [hnews, cycle_len _ _ hm0, hzs]
 have hone : ∀ u ∈ news, u.oneCell' = true := by
  intro u hu
  rw [hnews] at hu
  have hp : 0 < z.cells.size := by
   rcases Nat.eq_zero_or_pos z.cells.size with h | h
   ·simp [Builtin.zeroCells, h] at hu
   ·exact h
  simp only [Builtin.zeroCells, Array.toList_map, List.mem_map] at hu
  obtain ⟨i, _, rfl⟩ := hu
  have hi := Nat.mod_lt i hp
  rw [getElem!_pos z.cells _ hi]
  exact hz1 _ (by simp)
 have hnm : (n + m) * d.sz ≤ c * d.sz := Nat.mul_le_mul_right _ hm
 have hnm2 : (n + m) * d.sz = n * d.sz + m * d.sz := Nat.add_mul _ _ _
 have hfit : n * d.sz + news.length ≤ cur.size := by omega
 have hst := run_storeCells_cells (P := P) g (n * d.sz) news 0 W (fun j hj => by rw [cell_of_row W g _ cur e (0, 0) hh]; simp; omega) (fun j _ => blk_frozen hh _) hone
 simp only [Nat.add_zero] at hst
 obtain ⟨cur', h3, h4, h5⟩ := setCells_row news (n * d.sz) W cur hh hfit
 obtain ⟨s1, s2, s3, s4⟩ := setCells_same g news (n * d.sz) W
 have hfar : ∀ k', k' ≠ g → (W.setCells g (n * d.sz) news).heap[k']? = W.heap[k']? := fun k' hk' => setCells_far news _ k' hk'
 refine ⟨_, ?_, ⟨hok, inner, ⟨by rw [hin, hn], .inr ⟨g, c, cur', by rw [hn], hb, h3, by omega, hcm, by rw [h4, hcs], ?_⟩⟩, ?_⟩, ⟨s1, s2, s3, by rw [s4]; exact Nat.le_refl _, fun k' _ hk' => hfar k' (fun he => hk' (by rw [he]))⟩⟩
 ·obtain ⟨k, rfl⟩ : ∃ k, m = k + 1 := ⟨m - 1, by omega⟩
  have hzc : (Builtin.zeroCells z.cells (k + 1)).toList = news := hnews.symm
  simp [Builtin.clear_, run_underlying ht, hz, hzc, hst]
 ·rw [← hn, h5, List.append_assoc, htake]
  exact List.take_left' hin
 ·exact hr.imp_ (fun p q hp => d.M_move (fun k' hk' => hfar k' (fun he => hk'.2 (by simp [Value.ownBlock, he]))) hp)
end
end Go.Proofs.Ytlokjgngjgbpmaa.Man

namespace Go.Proofs.Ytlokjgngjgbpmaa.G
open Go.RowKit Go.Proofs.YtlokjgngjgbpmaaW.PrintWords Go.Proofs.YtlokjgngjgbpmaaW.PrintLast Go.Proofs.YtlokjgngjgbpmaaW.PrintMore Go.Proofs.Ytlokjgngjgbpmaa.Sh
attribute [local go_sem] max2_int min2_int max_two min_two max_three min_three max_four min_four
set_option linter.unusedVariables false
set_option linter.unusedSimpArgs false
open Go.Proofs.Ytlokjgngjgbpmaa.Man
def impl_Three_ghosts.f (a0 : Int) (a1 : Int) : Option Int := some (max 1 (wrap64 (a0 - a1)))
set_option maxHeartbeats 2000000 in
set_option maxRecDepth 100000 in
theorem impl_Three_ghosts.calls (g : Nat) (a0 : Int) (a1 : Int) (x2 x3 x4 : Value) (r : Int) (w : World) (hb : w.heap[g]? = some (.cells #[.int .i64 a0, .int .i64 a1, x2, x3, x4] 71 (0, 0))) (h : impl_Three_ghosts.f a0 a1 = some r) :
  Calls Try.prog 75 #[.pointer (some ⟨g, 0, none⟩)] w fun e w' => e = .returned (.int .i64 r) ∧ ∃ nd, w' = w.drewN nd := by
 unfold impl_Three_ghosts.f at h
 obtain rfl := Option.some.inj h
 clear h
 have hu45 := Try.underlying71
 have c0 : w.cell? ⟨g, 0, none⟩ = some (.int .i64 a0) := blk_cell hb 0
 have c1 : w.cell? ⟨g, 1, none⟩ = some (.int .i64 a1) := blk_cell hb 1
 have c2 : w.drew.cell? ⟨g, 0, none⟩ = some (.int .i64 a0) := blk_cell (blk_drew hb) 0
 have c3 : w.drew.cell? ⟨g, 1, none⟩ = some (.int .i64 a1) := blk_cell (blk_drew hb) 1
 have mixed : Try.prog.follows .mixedOrders = true := by kernel_rfl
 clear hb
 go_enter Try.func75, Try.ntmps75
 go_wp2
 go_region_o
 go_wp2
 ·go_ret
  exact ⟨by rw [show max 1 (wrap64 (a0 - a1)) = wrap64 (a0 - a1) by omega]; rfl, 1, rfl⟩
 ·go_ret
  exact ⟨by rw [show max 1 (wrap64 (a0 - a1)) = 1 by omega]; rfl, 1, rfl⟩
end Go.Proofs.Ytlokjgngjgbpmaa.G

namespace Go.Proofs.Ytlokjgngjgbpmaa.G
open Go.RowKit Go.Proofs.YtlokjgngjgbpmaaW.PrintWords Go.Proofs.YtlokjgngjgbpmaaW.PrintLast Go.Proofs.YtlokjgngjgbpmaaW.PrintMore Go.Proofs.Ytlokjgngjgbpmaa.Sh
attribute [local go_sem] max2_int min2_int max_two min_two max_three min_three max_four min_four
set_option linter.unusedVariables false
set_option linter.unusedSimpArgs false
def slices_Index_int_int.l0 : Nat → List Int → Int → Int → Int → Option (Int)
 | 0, _, _, _, _ => none
 | k + 1, x0, x1, x7, x8 => if x8 < x7 then (if 0 ≤ x8 then (if x8 < (x0.length : Int) then (if x1 = (rd x0 x8) then (some x8) else (slices_Index_int_int.l0 k x0 x1 x7 (wrap64 (x8 + 1)))) else (none)) else (none)) else (some (-1))
def slices_Index_int_int.f (k : Nat) (l0 : List Int) (a1 : Int) : Option (Int) := slices_Index_int_int.l0 k l0 a1 (l0.length : Int) 0
theorem slices_Index_int_int.mono_l : ∀ k, (∀ y0 y1 y2 y3, LeO (slices_Index_int_int.l0 k y0 y1 y2 y3) (slices_Index_int_int.l0 (k + 1) y0 y1 y2 y3))
 | 0 => fun _ _ _ _ r h => by simp [slices_Index_int_int.l0] at h
 | k + 1 => by
  have ih0 := slices_Index_int_int.mono_l k
  ·intro y0 y1 y2 y3
   unfold slices_Index_int_int.l0
   repeat' first | (with_reducible first | exact ih0 _ _ _ _ | exact LeO.refl _ | exact LeO.none _ | refine LeO.ite ?_ ?_ | refine LeO.bind ?_ (fun _ => ?_)) | exact LeO.none _ | refine LeO.ite ?_ ?_ | refine LeO.bind ?_ (fun _ => ?_)
theorem slices_Index_int_int.mono : ∀ a0 a1 k, LeO (slices_Index_int_int.f k a0 a1) (slices_Index_int_int.f (k + 1) a0 a1) := by
 intro a0 a1 k
 have ih0 := slices_Index_int_int.mono_l k
 unfold slices_Index_int_int.f
 repeat' first | (with_reducible first | exact ih0 _ _ _ _ | exact LeO.refl _ | exact LeO.none _ | refine LeO.ite ?_ ?_ | refine LeO.bind ?_ (fun _ => ?_)) | exact LeO.none _ | refine LeO.ite ?_ ?_ | refine LeO.bind ?_ (fun _ => ?_)
set_option maxHeartbeats 8000000 in
set_option maxRecDepth 100000 in
theorem slices_Index_int_int.calls (k : Nat) (A0 : Option Addr) (c0 : Nat) (l0 : List Int) (a1 : Int) (r : Int) (w : World) (hr0 : Kd.C (Kd.int .i64) w A0 l0.length l0) (hc0 : l0.length ≤ c0) (h : slices_Index_int_int.f k l0 a1 = some r) :
  Calls Try.prog 96 #[.slice A0 l0.length c0, .int .i64 a1] w fun e w' => e = .returned (.int .i64 r) ∧ Drawn0 w w' := by
 have HR0 := Aside0.mk hr0
 have HC0 := Aside0.mk hc0
 clear hr0 hc0
 have H : (slices_Index_int_int.l0 k l0 a1 (l0.length : Int) 0) = some r := h
 clear h
 have H' := Aside0.mk H
 clear H
 go_enter Try.func96, Try.ntmps96
 go_wp2
 go_loopg [8] k (fun kq v8 w' => ∃ (x8_1 : Int), v8 = .int .i64 x8_1 ∧ Aside0 (slices_Index_int_int.l0 kq l0 a1 (l0.length : Int) x8_1 = some r) ∧ Aside0 (kq ≤ k) ∧ Drawn0 w w')
 case atStart => exact ⟨(0), RS, H', ⟨Nat.le_refl _⟩, DR⟩
 case round =>
  clear H'
  try clear p2
  obtain ⟨x8_1, rfl, HA, HK1, ⟨m1, rfl⟩⟩ := hrel
  cases gk with
  | zero => exact absurd HA.out (by simp [slices_Index_int_int.l0])
  | succ k1 =>
   have H := HA.out
   clear HA
   simp only [slices_Index_int_int.l0] at H
   by_cases c3 : x8_1 < (l0.length : Int)
   ·rw [if_pos c3] at H
    have c3b0 : decide (x8_1 < (l0.length : Int)) = true := decide_eq_true c3
    clear c3
    by_cases c4 : 0 ≤ x8_1
    ·rw [if_pos c4] at H
     have c4b0 : decide (0 ≤ x8_1) = true := decide_eq_true c4
     clear c4
     by_cases c5 : x8_1 < (l0.length : Int)
     ·rw [if_pos c5] at H
      have c5b0 : decide (x8_1 < (l0.length : Int)) = true := decide_eq_true c5
      clear c5
      by_cases c6 : a1 = (rd l0 x8_1)
      ·rw [if_pos c6] at H
       have c6b0 : (a1 == (rd l0 x8_1)) = true := beq_iff_eq.mpr c6
       have c6b1 : (a1 != (rd l0 x8_1)) = false := bne_eq_false_iff_eq.mpr c6
       clear c6
       obtain rfl := Option.some.inj H
       have p178 : 0 ≤ (x8_1 : Int) := of_decide_eq_true AS
       have q178 : x8_1 < (l0.length : Int) := of_decide_eq_true AS
       obtain ⟨ad178, e178, hx178_0⟩ := Kd.at_int HR0.out x8_1 p178 q178
       cases e178
       replace p178 := eq_true p178
       replace q178 := eq_true q178
       go_wp2
       go_ret
       exact ⟨by first | rfl | (simp; done) | (simp [*]; done), DR⟩
      ·rw [if_neg c6] at H
       have c6b0 : (a1 == (rd l0 x8_1)) = false := beq_eq_false_iff_ne.mpr c6
       have c6b1 : (a1 != (rd l0 x8_1)) = true := bne_iff_ne.mpr c6
       have H' := Aside0.mk H
       clear H
       have p178 : 0 ≤ (x8_1 : Int) := of_decide_eq_true AS
       have q178 : x8_1 < (l0.length : Int) := of_decide_eq_true AS
       obtain ⟨ad178, e178, hx178_0⟩ := Kd.at_int HR0.out x8_1 p178 q178
       cases e178
       replace p178 := eq_true p178
       replace q178 := eq_true q178
       go_wp2
       go_roundg k1
       case measure => have := HK1.out; omega
       case rel => exact ⟨(wrap64 (x8_1 + 1)), RS, H', ⟨by have := HK1.out; omega⟩, DR⟩
     ·rw [if_neg c5] at H
      exact absurd H (by simp)
    ·rw [if_neg c4] at H
     exact absurd H (by simp)
   ·rw [if_neg c3] at H
    have c3b0 : decide (x8_1 < (l0.length : Int)) = false := decide_eq_false c3
    clear c3
    obtain rfl := Option.some.inj H
    go_wp2
    go_ret
    exact ⟨by first | rfl | (simp; done) | (simp [*]; done), DR⟩
def slices_Contains_int_int.f (k : Nat) (l0 : List Int) (a1 : Int) : Option (Bool) := (slices_Index_int_int.f k l0 a1).bind fun t180 => (some (decide (t180 ≥ 0)))
theorem slices_Contains_int_int.mono : ∀ a0 a1 k, LeO (slices_Contains_int_int.f k a0 a1) (slices_Contains_int_int.f (k + 1) a0 a1) := by
 intro a0 a1 k
 unfold slices_Contains_int_int.f
 repeat' first | (with_reducible first | exact slices_Index_int_int.mono _ _ _ | exact LeO.refl _ | exact LeO.none _ | refine LeO.ite ?_ ?_ | refine LeO.bind ?_ (fun _ => ?_)) | exact LeO.none _ | refine LeO.ite ?_ ?_ | refine LeO.bind ?_ (fun _ => ?_)
set_option maxHeartbeats 8000000 in
set_option maxRecDepth 100000 in
theorem slices_Contains_int_int.calls (k : Nat) (A0 : Option Addr) (c0 : Nat) (l0 : List Int) (a1 : Int) (r : Bool) (w : World) (hr0 : Kd.C (Kd.int .i64) w A0 l0.length l0) (hc0 : l0.length ≤ c0) (h : slices_Contains_int_int.f k l0 a1 = some r) :
  Calls Try.prog 76 #[.slice A0 l0.length c0, .int .i64 a1] w fun e w' => e = .returned (.bool r) ∧ Drawn0 w w' := by
 have HR0 := Aside0.mk hr0
 have HC0 := Aside0.mk hc0
 clear hr0 hc0
 have H : ((slices_Index_int_int.f k l0 a1).bind fun t180 => (some (decide (t180 ≥ 0)))) = some r := h
 clear h
 replace H := BS H
 obtain ⟨t180, A30, H⟩ := H
 have A3 := Aside0.mk A30
 clear A30
 obtain rfl := Option.some.inj H
 go_enter Try.func76, Try.ntmps76
 go_wp2_with (first | ((with_reducible refine gate_callee (f := 96) rfl ?_); refine goesL_ (some 7) rfl rfl Try.func96 (by kernel_rfl) rfl #[.slice A0 l0.length c0, .int .i64 a1] rfl AQ ?_; (with_reducible refine (slices_Index_int_int.calls k _ _ l0 a1 t180 _ ?side1 ?side2 A3.out).mono ?_); (case side1 => repeat (first | exact HR0.out | (with_reducible refine Kd.C_alloc ?_ _) | (with_reducible refine Kd.C_drewN ?_ _) | (with_reducible refine Kd.C_drew ?_))); (case side2 => exact HC0.out); rintro e w' ⟨rfl, ⟨nd, rfl⟩⟩; refine ⟨_, rfl, ?_⟩))
 go_ret
 exact ⟨by first | rfl | (simp; done) | (simp [*]; done), DR⟩
end Go.Proofs.Ytlokjgngjgbpmaa.G

namespace Go.Proofs.Ytlokjgngjgbpmaa.G
open Go.RowKit Go.Proofs.YtlokjgngjgbpmaaW.PrintWords Go.Proofs.YtlokjgngjgbpmaaW.PrintLast Go.Proofs.YtlokjgngjgbpmaaW.PrintMore Go.Proofs.Ytlokjgngjgbpmaa.Sh
attribute [local go_sem] max2_int min2_int max_two min_two max_three min_three max_four min_four
set_option linter.unusedVariables false
set_option linter.unusedSimpArgs false
open Go.Proofs.Ytlokjgngjgbpmaa.Mm
def impl_copyItems.f (l0 : List (S67)) : Option ((List (S67))) := if ([] : List (S67)).length + l0.length < 3518437208883 then (some (([] : List (S67)) ++ l0)) else (none)
set_option maxHeartbeats 8000000 in
set_option maxRecDepth 100000 in
theorem impl_copyItems.calls (A0 : Option Addr) (c0 : Nat) (l0 : List (S67)) (r : List (S67)) (w : World) (hr0 : Kd.C k67 w A0 l0.length l0) (hc0 : l0.length ≤ c0) (h : impl_copyItems.f l0 = some r) :
  Calls Try.prog 77 #[.slice A0 l0.length c0] w fun e w' => ∃ v0_ : Value, e = .returned (v0_) ∧ Mem w [] w' [rowR k67 67 v0_ r] := by
 have HR0 := Aside0.mk hr0
 have HC0 := Aside0.mk hc0
 clear hr0 hc0
 have HM := Mem.nil w
 have H := h
 clear h
 unfold impl_copyItems.f at H
 go_enter Try.func77, Try.ntmps77
 replace H := GD H; obtain ⟨c2, H⟩ := H
 have LMc2 := Aside0.mk c2
 clear c2
 obtain rfl := Option.some.inj H
 go_wp2_with (first | ((with_reducible refine gate_builtin (b := .append) (xs := #[.const (.slice none 0 0), .tmp 3]) rfl ?_); refine pAn (.const (.slice none 0 0)) (.tmp 3) 68 67 k67 l0 A0 l0.length c0 HM rfl Try.underlying68 info67 (HM.came HR0.out) (by have h_ := LMc2.out; omega) ?_; clear HM; intro v182 w3 HM))
 go_ret
 exact ⟨_, ER, (MD HM).pick [0]⟩
end Go.Proofs.Ytlokjgngjgbpmaa.G

namespace Go.Proofs.Ytlokjgngjgbpmaa.G
open Go.RowKit Go.Proofs.YtlokjgngjgbpmaaW.PrintWords Go.Proofs.YtlokjgngjgbpmaaW.PrintLast Go.Proofs.YtlokjgngjgbpmaaW.PrintMore Go.Proofs.Ytlokjgngjgbpmaa.Sh
attribute [local go_sem] max2_int min2_int max_two min_two max_three min_three max_four min_four
set_option linter.unusedVariables false
set_option linter.unusedSimpArgs false
open Go.Proofs.Ytlokjgngjgbpmaa.Man
theorem impl_itemAt.closure (key : ByteArray) (B : Nat) (W : World) (x0 x1 : ByteArray) (x2 : Int) (hcell : W.cell? ⟨B, 0, none⟩ = some (.string key)) (hB : B < W.heap.size) :
  Calls Try.prog 102 #[.agg #[.string x0, .string x1, .int .i64 x2], .pointer (some ⟨B, 0, none⟩)] W fun e w' => e = .returned (.bool (x0.toList == key.toList)) ∧ Below W.heap.size W w' := by
 have hne : B ≠ W.heap.size := by omega
 have hu := Try.underlying67
 go_enter Try.func102, Try.ntmps102
 go_wp2
 go_ret
 exact ⟨rfl, by repeat (first | exact Below.refl _ _ | apply below_alloc)⟩
def impl_itemAt.idx (key : ByteArray) : List S67 → Nat → Int
 | [], _ => -1
 | x :: r, i => if x.f0.toList = key.toList then (i : Int) else impl_itemAt.idx key r (i + 1)
theorem impl_itemAt.idx_at (key : ByteArray) (l : List S67) (i : Nat) (h : i < l.length) : impl_itemAt.idx key (l.drop i) i = if (rd_T67 l (i : Int)).f0.toList = key.toList then (i : Int) else impl_itemAt.idx key (l.drop (i + 1)) (i + 1) := by
 rw [List.drop_eq_getElem_cons h, impl_itemAt.idx]
 have e : rd_T67 l (i : Int) = l[i] := by
  show l.getD (i : Int).toNat _ = _
  simp [List.getD_eq_getElem?_getD, h]
 rw [e]
theorem impl_itemAt.idx_end (key : ByteArray) (l : List S67) (i : Nat) (h : ¬ i < l.length) : impl_itemAt.idx key (l.drop i) i = -1 := by
 rw [List.drop_of_length_le (by omega)]; rfl
set_option maxHeartbeats 1000000 in
theorem impl_itemAt.indexFunc (key : ByteArray) (B : Nat) (A0 : Option Addr) (c0 : Nat) (l0 : List S67) (w : World) (hcell : w.cell? ⟨B, 0, none⟩ = some (.string key)) (hB : B < w.heap.size) (hr0 : Kd.C k67 w A0 l0.length l0) (hc0 : l0.length ≤ c0) :
  Calls Try.prog 101 #[.slice A0 l0.length c0, .func (.func 102) #[] #[.pointer (some ⟨B, 0, none⟩)]] w fun e w' => e = .returned (.int .i64 (impl_itemAt.idx key l0 0)) ∧ Below w.heap.size w w' := by
 have HR0 := Aside0.mk hr0
 have HC0 := Aside0.mk hc0
 have HL := Aside0.mk (show l0.length ≤ 9223372036854775807 from hr0.2.1)
 have HX := Aside0.mk hcell
 have HBB := Aside0.mk hB
 clear hr0 hc0 hcell hB
 have HB := Aside0.mk (Below.refl w.heap.size w)
 obtain ⟨R, hR⟩ : ∃ R, R = impl_itemAt.idx key l0 0 := ⟨_, rfl⟩
 rw [← hR]
 have HN := Aside0.mk (show impl_itemAt.idx key (l0.drop 0) 0 = R from hR.symm)
 clear hR
 go_enter Try.func101, Try.ntmps101
 go_wp2
 go_loopg [5, 8] l0.length (fun kq _ v8 w' => ∃ x : Int, v8 = .int .i64 x ∧ Aside0 (∃ n : Nat, x = (n : Int) ∧ impl_itemAt.idx key (l0.drop n) n = R ∧ n + kq = l0.length) ∧ Aside0 (Below w.heap.size w w'))
 case atStart => exact ⟨0, rfl, ⟨0, rfl, HN.out, Nat.zero_add _⟩, HB⟩
 case round =>
  clear HN
  obtain ⟨x, rfl, HN, HB⟩ := hrel
  have hcl : ∀ y : S67, Calls Try.prog 102 #[.agg #[.string y.f0, .string y.f1, .int .i64 y.f2], .pointer (some ⟨B, 0, none⟩)] wr fun e w' => e = .returned (.bool (y.f0.toList == key.toList)) ∧ Below wr.heap.size wr w' := fun y => impl_itemAt.closure key B wr y.f0 y.f1 y.f2 ((HB.out.cell (World.block_lt_of_cell? w _ HX.out)).trans HX.out) (Nat.lt_of_lt_of_le HBB.out HB.out.size)
  by_cases hlt : x < (l0.length : Int)
  ·have hd : decide (x < (l0.length : Int)) = true := decide_eq_true hlt
   have hn0 : 0 ≤ x := by obtain ⟨n, rfl, _⟩ := HN.out; exact Int.natCast_nonneg n
   obtain ⟨ad, hA, hx0, hx1, hx2⟩ := at_T67 HR0.out x hn0 hlt
   subst hA
   replace hx0 := (HB.out.cell (World.block_lt_of_cell? w _ hx0)).trans hx0
   replace hx1 := (HB.out.cell (World.block_lt_of_cell? w _ hx1)).trans hx1
   replace hx2 := (HB.out.cell (World.block_lt_of_cell? w _ hx2)).trans hx2
   have hcall := hcl (rd_T67 l0 x)
   clear hcl
   have H0 := Aside0.mk hn0
   have H1 := Aside0.mk hlt
   replace hn0 := eq_true hn0
   replace hlt := eq_true hlt
   obtain ⟨y, hy⟩ : ∃ y, rd_T67 l0 x = y := ⟨_, rfl⟩
   rw [hy] at hx0 hx1 hx2 hcall
   have HY := Aside0.mk hy
   clear hy
   by_cases c : y.f0.toList = key.toList
   ·rw [show (y.f0.toList == key.toList) = true from beq_iff_eq.mpr c] at hcall
    have C := Aside0.mk c
    clear c
    go_wp2_with fail
    refine hcall.mono ?_
    rintro e w' ⟨rfl, hb'⟩
    have HB' := Aside0.mk hb'
    clear hb' hcall
    go_wp2
    go_ret
    refine ⟨?_, below_step HB.out HB'.out⟩
    obtain ⟨n, rfl, hn, hk⟩ := HN.out
    have e := impl_itemAt.idx_at key l0 n (Int.ofNat_lt.mp H1.out)
    rw [HY.out, if_pos C.out, hn] at e
    rw [e]
    rfl
   ·rw [show (y.f0.toList == key.toList) = false from beq_eq_false_iff_ne.mpr c] at hcall
    have C := Aside0.mk c
    clear c
    go_wp2_with fail
    refine hcall.mono ?_
    rintro e w' ⟨rfl, hb'⟩
    have HB' := Aside0.mk hb'
    clear hb' hcall
    go_wp2
    obtain ⟨n, rfl, hn, hk⟩ := HN.out
    have hlt' := Int.ofNat_lt.mp H1.out
    go_roundg (gk - 1)
    case measure => omega
    case rel =>
     have e := impl_itemAt.idx_at key l0 n hlt'
     rw [HY.out, if_neg C.out, hn] at e
     exact ⟨_, rfl, ⟨n + 1, wsucc_ (by have := HL.out; omega), e.symm, by omega⟩, ⟨below_step HB.out HB'.out⟩⟩
  ·have hd : decide (x < (l0.length : Int)) = false := decide_eq_false hlt
   clear hcl
   have HLT := Aside0.mk hlt
   clear hlt
   go_wp2
   go_ret
   obtain ⟨n, rfl, hn, hk⟩ := HN.out
   have hlt' := HLT.out
   rw [impl_itemAt.idx_end key l0 n (by omega)] at hn
   exact ⟨by rw [← hn]; rfl, HB.out⟩
def impl_itemAt.f (l0 : List S67) (a1 : ByteArray) : Option Int := some (impl_itemAt.idx a1 l0 0)
theorem impl_itemAt.calls (A0 : Option Addr) (c0 : Nat) (l0 : List S67) (a1 : ByteArray) (r : Int) (w : World) (hr0 : Kd.C k67 w A0 l0.length l0) (hc0 : l0.length ≤ c0) (h : impl_itemAt.f l0 a1 = some r) :
  Calls Try.prog 86 #[.slice A0 l0.length c0, .string a1] w fun e w' => e = .returned (.int .i64 r) ∧ Below w.heap.size w w' := by
 obtain rfl := Option.some.inj h
 have hb0 : Below w.heap.size w (w.alloc (.cells #[.string a1] 9)) := below_alloc (Below.refl _ w) _
 have hcall := impl_itemAt.indexFunc a1 w.heap.size A0 c0 l0 (w.alloc (.cells #[.string a1] 9)) (by simp) (by simp) (Kd.C_below hr0 hb0) hc0
 have HB := Aside0.mk hb0
 clear h hr0 hc0 hb0
 obtain ⟨R, hR⟩ : ∃ R, R = impl_itemAt.idx a1 l0 0 := ⟨_, rfl⟩
 rw [← hR] at hcall ⊢
 have HR := Aside0.mk hR
 clear hR
 go_enter Try.func86, Try.ntmps86
 go_wp2_with fail
 refine hcall.mono ?_
 rintro e w' ⟨rfl, hb'⟩
 have HB' := Aside0.mk hb'
 clear hb' hcall
 go_wp2
 go_ret
 exact ⟨rfl, below_step HB.out HB'.out⟩
end Go.Proofs.Ytlokjgngjgbpmaa.G

namespace Go.Proofs.Ytlokjgngjgbpmaa.G
open Go.RowKit Go.Proofs.YtlokjgngjgbpmaaW.PrintWords Go.Proofs.YtlokjgngjgbpmaaW.PrintLast Go.Proofs.YtlokjgngjgbpmaaW.PrintMore Go.Proofs.Ytlokjgngjgbpmaa.Sh
attribute [local go_sem] max2_int min2_int max_two min_two max_three min_three max_four min_four
set_option linter.unusedVariables false
set_option linter.unusedSimpArgs false
open Go.Proofs.Ytlokjgngjgbpmaa.Mm
def impl_areItems.l0 : Nat → List (S67) → List (S67) → Int → Int → Option (Bool)
 | 0, _, _, _, _ => none
 | k + 1, x0, x5, x6, x7 => if x7 < x6 then (if 0 ≤ x7 then (if x7 < (x5.length : Int) then ((impl_ItemOk.f k ((rd_T67 x5 x7).f0) ((rd_T67 x5 x7).f1) ((rd_T67 x5 x7).f2)).bind fun t186 => (if t186 = true then ((impl_itemAt.f x0 ((rd_T67 x5 x7).f0)).bind fun t187 => (if t187 = x7 then (impl_areItems.l0 k x0 x5 x6 (wrap64 (x7 + 1))) else (some false))) else (some false))) else (none)) else (none)) else (some true)
def impl_areItems.f (k : Nat) (l0 : List (S67)) : Option (Bool) := impl_areItems.l0 k l0 l0 (l0.length : Int) 0
set_option maxHeartbeats 8000000 in
set_option maxRecDepth 100000 in
theorem impl_areItems.calls (k : Nat) (A0 : Option Addr) (c0 : Nat) (l0 : List (S67)) (r : Bool) (w : World) (hr0 : Kd.C k67 w A0 l0.length l0) (hc0 : l0.length ≤ c0) (h : impl_areItems.f k l0 = some r) :
  Calls Try.prog 78 #[.slice A0 l0.length c0] w fun e w' => e = .returned (.bool r) ∧ Mem w [] w' [] := by
 have hu67 := Try.underlying67
 have HR0 := Aside0.mk hr0
 have HC0 := Aside0.mk hc0
 clear hr0 hc0
 have HM := Mem.nil w
 have H := h
 clear h
 unfold impl_areItems.f at H
 go_enter Try.func78, Try.ntmps78
 have H' := Aside0.mk H
 clear H
 go_wp2
 go_loopg [7] k (fun kq v7 w' => ∃ (x7_1 : Int), v7 = .int .i64 x7_1 ∧ Aside0 (impl_areItems.l0 kq l0 l0 (l0.length : Int) x7_1 = some r) ∧ Aside0 (kq ≤ k) ∧ Mem w [] w' [])
 case atStart => exact ⟨(0), RS, H', ⟨Nat.le_refl _⟩, (MD HM).pick []⟩
 case round =>
  clear H' HM
  obtain ⟨x7_1, rfl, HA, HK1, HM⟩ := hrel
  cases gk with
  | zero => exact absurd HA.out (by simp [impl_areItems.l0])
  | succ k1 =>
   have H := HA.out
   clear HA
   simp only [impl_areItems.l0] at H
   go_upto_if 8 with (fail)
   replace H := IT H; rcases H with ⟨c2, H⟩ | ⟨c2, H⟩
   ·have c2b0 : decide (x7_1 < (l0.length : Int)) = true := decide_eq_true c2
    clear c2
    (first | rw [c2b0] | (simp only [i64_w, i32_w]; rw [c2b0]) | skip)
    replace H := GD H; obtain ⟨c3, H⟩ := H
    have c3b0 : decide (0 ≤ x7_1) = true := decide_eq_true c3
    clear c3
    replace H := GD H; obtain ⟨c4, H⟩ := H
    have c4b0 : decide (x7_1 < (l0.length : Int)) = true := decide_eq_true c4
    clear c4
    replace H := BN H; obtain ⟨t186, A8, H⟩ := H
    replace H := IB H
    rcases H with ⟨c10, H⟩ | ⟨c10, H⟩
    ·subst c10
     replace H := BN H; obtain ⟨t187, A12, H⟩ := H
     have p184 : 0 ≤ (x7_1 : Int) := of_decide_eq_true AS
     have q184 : (x7_1 : Int) < (l0.length : Int) := of_decide_eq_true AS
     obtain ⟨ad184, e184, hx184_0, hx184_1, hx184_2⟩ := at_T67 (HM.came HR0.out) x7_1 p184 q184
     cases e184
     replace p184 := eq_true p184
     replace q184 := eq_true q184
     go_upto_if 22 with (first | ((with_reducible refine gN 4 rfl ?_); refine pB 4 67 [.string (⟨#[]⟩ : ByteArray), .string (⟨#[]⟩ : ByteArray), .int .i64 0] HM rfl ?_; clear HM; intro gb185 w5 HM) | ((with_reducible refine gS 4 rfl ?_); refine pS 0 4 0 [.string ((rd_T67 l0 x7_1).f0), .string ((rd_T67 l0 x7_1).f1), .int .i64 ((rd_T67 l0 x7_1).f2)] HM rfl rfl ?_; clear HM; intro w6 HM; obtain ⟨z7_0, z7_1, z7_2, Z7_0, Z7_1, Z7_2⟩ := bk3 (HM.bx 0 rfl)) | ((with_reducible refine gC 42 rfl ?_); refine pC (some 13) rfl #[.agg #[.string ((rd_T67 l0 x7_1).f0), .string ((rd_T67 l0 x7_1).f1), .int .i64 ((rd_T67 l0 x7_1).f2)]] rfl Try.func42 (impl_ItemOk.calls k1 ((rd_T67 l0 x7_1).f0) ((rd_T67 l0 x7_1).f1) ((rd_T67 l0 x7_1).f2) true _ A8.out) ?_; rintro e w9 ⟨rfl, hR⟩; refine ⟨_, rfl, ?_⟩; replace HM := HM.call hR; clear hR; obtain ⟨z11_0, z11_1, z11_2, Z11_0, Z11_1, Z11_2⟩ := bk3 (HM.bx 0 rfl)) | ((with_reducible refine gC 86 rfl ?_); refine pC (some 19) rfl #[.slice (some ad184) l0.length c0, .string ((rd_T67 l0 x7_1).f0)] rfl Try.func86 (impl_itemAt.calls (some ad184) c0 l0 ((rd_T67 l0 x7_1).f0) t187 _ (HM.came HR0.out) HC0.out A12.out) ?_; rintro e w13 ⟨rfl, hb⟩; refine ⟨_, rfl, ?_⟩; replace HM := HM.below hb; clear hb))
     replace HM := nzM HM
     replace H := IT H; rcases H with ⟨c14, H⟩ | ⟨c14, H⟩
     ·have c14b0 : (t187 == x7_1) = true := beq_iff_eq.mpr c14
      have c14b1 : (t187 != x7_1) = false := bne_eq_false_iff_eq.mpr c14
      clear c14
      (first | rw [c14b0] | (simp only [i64_w, i32_w]; rw [c14b0]) | skip)
      have H' := Aside0.mk H
      clear H
      go_wp2
      go_roundg k1
      case measure => have := HK1.out; omega
      case rel => exact ⟨(wrap64 (x7_1 + 1)), RS, H', ⟨by have := HK1.out; omega⟩, (MD HM).pick []⟩
     ·have c14b0 : (t187 == x7_1) = false := beq_eq_false_iff_ne.mpr c14
      have c14b1 : (t187 != x7_1) = true := bne_iff_ne.mpr c14
      (first | rw [c14b0] | (simp only [i64_w, i32_w]; rw [c14b0]) | skip)
      obtain rfl := Option.some.inj H
      go_wp2
      go_ret
      exact ⟨ER, (MD HM).pick []⟩
    ·subst c10
     obtain rfl := Option.some.inj H
     have p184 : 0 ≤ (x7_1 : Int) := of_decide_eq_true AS
     have q184 : (x7_1 : Int) < (l0.length : Int) := of_decide_eq_true AS
     obtain ⟨ad184, e184, hx184_0, hx184_1, hx184_2⟩ := at_T67 (HM.came HR0.out) x7_1 p184 q184
     cases e184
     replace p184 := eq_true p184
     replace q184 := eq_true q184
     go_wp2_with (first | ((with_reducible refine gN 4 rfl ?_); refine pB 4 67 [.string (⟨#[]⟩ : ByteArray), .string (⟨#[]⟩ : ByteArray), .int .i64 0] HM rfl ?_; clear HM; intro gb185 w5 HM) | ((with_reducible refine gS 4 rfl ?_); refine pS 0 4 0 [.string ((rd_T67 l0 x7_1).f0), .string ((rd_T67 l0 x7_1).f1), .int .i64 ((rd_T67 l0 x7_1).f2)] HM rfl rfl ?_; clear HM; intro w6 HM; obtain ⟨z7_0, z7_1, z7_2, Z7_0, Z7_1, Z7_2⟩ := bk3 (HM.bx 0 rfl)) | ((with_reducible refine gC 42 rfl ?_); refine pC (some 13) rfl #[.agg #[.string ((rd_T67 l0 x7_1).f0), .string ((rd_T67 l0 x7_1).f1), .int .i64 ((rd_T67 l0 x7_1).f2)]] rfl Try.func42 (impl_ItemOk.calls k1 ((rd_T67 l0 x7_1).f0) ((rd_T67 l0 x7_1).f1) ((rd_T67 l0 x7_1).f2) false _ A8.out) ?_; rintro e w9 ⟨rfl, hR⟩; refine ⟨_, rfl, ?_⟩; replace HM := HM.call hR; clear hR))
     go_ret
     exact ⟨ER, (MD HM).pick []⟩
   ·have c2b0 : decide (x7_1 < (l0.length : Int)) = false := decide_eq_false c2
    clear c2
    (first | rw [c2b0] | (simp only [i64_w, i32_w]; rw [c2b0]) | skip)
    obtain rfl := Option.some.inj H
    go_wp2
    go_ret
    exact ⟨ER, (MD HM).pick []⟩
mutual
def impl_ThreeOk.j0 : Nat → Bool → Int → Int → List (S67) → List (S67) → List Int → Option (Bool)
 | 0, _, _, _, _, _, _ => none
 | k + 1, x24, x189000, x189001, x189002, x189003, x189004 => if x24 = true then (some false) else (impl_ThreeOk.l0 k x189004 (x189004.length : Int) 0 x189000 x189001 x189002 x189003 x189004)
def impl_ThreeOk.l0 : Nat → List Int → Int → Int → Int → Int → List (S67) → List (S67) → List Int → Option (Bool)
 | 0, _, _, _, _, _, _, _, _ => none
 | k + 1, x26, x27, x28, x189000, x189001, x189002, x189003, x189004 => if x28 < x27 then (if 0 ≤ x28 then (if x28 < (x26.length : Int) then ((impl_isNum.f (rd x26 x28)).bind fun t200 => (if t200 = true then (if x28 ≤ (x189004.length : Int) then ((slices_Contains_int_int.f k (x189004.take (x28 : Int).toNat) (rd x26 x28)).bind fun t202 => (if t202 = true then (some false) else (impl_ThreeOk.l0 k x26 x27 (wrap64 (x28 + 1)) x189000 x189001 x189002 x189003 x189004))) else (none)) else (some false))) else (none)) else (none)) else ((impl_copyItems.f x189002).bind fun t192 => (if t192.length + x189003.length < 3518437208883 then ((some (t192 ++ x189003 : List (S67))).bind fun y195 => (if (y195.length : Int) ≤ x189000 then ((impl_areItems.f k y195).bind fun t198 => (some t198)) else (some false))) else (none)))
end
def impl_ThreeOk.f (k : Nat) (a0_0 : Int) (a0_1 : Int) (l0_2 : List (S67)) (l0_3 : List (S67)) (l0_4 : List Int) : Option (Bool) := (impl_within.f a0_0 1 60).bind fun t189 => (if t189 = true then ((impl_within.f a0_1 1 a0_0).bind fun t190 => (if t190 = true then ((impl_Three_ghosts.f a0_0 a0_1).bind fun t191 => (impl_ThreeOk.j0 k (decide ((l0_4.length : Int) > t191)) a0_0 a0_1 l0_2 l0_3 l0_4)) else (impl_ThreeOk.j0 k true a0_0 a0_1 l0_2 l0_3 l0_4))) else (impl_ThreeOk.j0 k true a0_0 a0_1 l0_2 l0_3 l0_4))
def impl_ThreeOk.T1 : Bool × List (List Nat × List Nat) := (true, [([], []), ([0], [0]), ([1], [1]), ([2], [2]), ([3, 2], [3]), ([4], [4]), ([5, 4], [4, 5]), ([4], [4]), ([7, 4], [4, 7]), ([6, 8, 4, 4], [4, 6, 8]), ([9, 4], [4, 9]), ([4, 10], [4, 10]), ([11, 9], [11]), ([12], [12]), ([13, 12], [12, 13]), ([14, 12], [12, 14]), ([12, 12], [12]), ([15, 16, 12], [12, 15, 16]), ([12, 17], [12, 17])])
def impl_ThreeOk.B1 : List Nat := [0, 1, 3, 7, 15, 31, 63, 31, 159, 511, 1023, 2047, 4095, 8191, 16383, 32767, 8191, 131071, 262143]
theorem impl_ThreeOk.tab1 : rtab .any (opsOf Try.f59 1) = impl_ThreeOk.T1 := by kernel_rfl
theorem impl_ThreeOk.bits1 : waitsOk impl_ThreeOk.T1.2 impl_ThreeOk.B1 = true := by kernel_rfl
def impl_ThreeOk.T9 : Bool × List (List Nat × List Nat) := (true, [([], []), ([0], [0]), ([1], [1]), ([], []), ([3], [3]), ([2, 4, 2], [2, 4]), ([5, 5, 0, 1, 2, 3, 4, 5], [5])])
def impl_ThreeOk.B9 : List Nat := [0, 1, 3, 0, 8, 31, 63]
theorem impl_ThreeOk.tab9 : rtab .any (opsOf Try.f59 9) = impl_ThreeOk.T9 := by kernel_rfl
theorem impl_ThreeOk.bits9 : waitsOk impl_ThreeOk.T9.2 impl_ThreeOk.B9 = true := by kernel_rfl
set_option maxHeartbeats 8000000 in
set_option maxRecDepth 100000 in
theorem impl_ThreeOk.calls (k : Nat) (a0_0 : Int) (a0_1 : Int) (A0_2 : Option Addr) (c0_2 : Nat) (l0_2 : List (S67)) (A0_3 : Option Addr) (c0_3 : Nat) (l0_3 : List (S67)) (A0_4 : Option Addr) (c0_4 : Nat) (l0_4 : List Int) (r : Bool) (w : World) (hr0_2 : Kd.C k67 w A0_2 l0_2.length l0_2) (hc0_2 : l0_2.length ≤ c0_2) (hr0_3 : Kd.C k67 w A0_3 l0_3.length l0_3) (hc0_3 : l0_3.length ≤ c0_3) (hr0_4 : Kd.C (Kd.int .i64) w A0_4 l0_4.length l0_4) (hc0_4 : l0_4.length ≤ c0_4) (h : impl_ThreeOk.f k a0_0 a0_1 l0_2 l0_3 l0_4 = some r) :
  Calls Try.prog 59 #[.agg #[.int .i64 a0_0, .int .i64 a0_1, .slice A0_2 l0_2.length c0_2, .slice A0_3 l0_3.length c0_3, .slice A0_4 l0_4.length c0_4]] w fun e w' => e = .returned (.bool r) ∧ Mem w [] w' [] := by
 have hu71 := Try.underlying71
 have HR0_2 := Aside0.mk hr0_2
 have HC0_2 := Aside0.mk hc0_2
 clear hr0_2 hc0_2
 have HR0_3 := Aside0.mk hr0_3
 have HC0_3 := Aside0.mk hc0_3
 clear hr0_3 hc0_3
 have HR0_4 := Aside0.mk hr0_4
 have HC0_4 := Aside0.mk hc0_4
 clear hr0_4 hc0_4
 have HM := Mem.nil w
 have H := h
 clear h
 unfold impl_ThreeOk.f at H
 go_enter Try.func59, Try.ntmps59
 have HC3 := Aside0.mk H
 clear H
 go_upto_region 1 with (first | ((with_reducible refine gN 1 rfl ?_); refine pB 1 71 [.int .i64 a0_0, .int .i64 a0_1, .slice A0_2 l0_2.length c0_2, .slice A0_3 l0_3.length c0_3, .slice A0_4 l0_4.length c0_4] HM rfl ?_; clear HM; intro gb188 w2 HM))
 go_cut [24] (fun v24 wc => ∃ (kq : Nat) (x24_2 : Bool), v24 = .bool x24_2 ∧ Aside0 (impl_ThreeOk.j0 kq x24_2 a0_0 a0_1 l0_2 l0_3 l0_4 = some r) ∧ Aside0 (kq ≤ k) ∧ Mem w [] wc [box 71 gb188 [.int .i64 a0_0, .int .i64 a0_1, .slice A0_2 l0_2.length c0_2, .slice A0_3 l0_3.length c0_3, .slice A0_4 l0_4.length c0_4]])
 case first =>
  have H := HC3.out
  clear HC3
  try go_wp2
  replace H := BN H; obtain ⟨t189, A4, H⟩ := H
  replace H := IB H
  rcases H with ⟨c5, H⟩ | ⟨c5, H⟩
  ·subst c5
   replace H := BN H; obtain ⟨t190, A6, H⟩ := H
   replace H := IB H
   rcases H with ⟨c7, H⟩ | ⟨c7, H⟩
   ·subst c7
    replace H := BN H; obtain ⟨t191, A8, H⟩ := H
    refine RGN 19 [0, 1, 2, 3, 4, 5, 6, 7, 8, 9, 10, 11, 12, 13, 14, 15, 16, 17, 18] (fun a0 b a w' => a = putSel a0 b [(0, 6, .pointer (some ⟨gb188, 0, none⟩)), (1, 7, .int .i64 a0_0), (2, 8, .bool true), (3, 9, .bool (!true)), (4, 10, .bool (!true)), (5, 11, .pointer (some ⟨gb188, 1, none⟩)), (6, 12, .int .i64 a0_1), (7, 13, .pointer (some ⟨gb188, 0, none⟩)), (8, 14, .int .i64 a0_0), (9, 15, .bool true), (10, 16, .bool (!true)), (11, 17, .bool (!true)), (12, 18, .bool (!true)), (13, 19, .pointer (some ⟨gb188, 4, none⟩)), (14, 20, .slice A0_4 l0_4.length c0_4), (15, 21, .int .i64 (l0_4.length : Int)), (16, 22, .int .i64 t191), (17, 23, .bool (decide ((l0_4.length : Int) > t191))), (18, 24, .bool (decide ((l0_4.length : Int) > t191)))] ∧ Mem w [] w' [box 71 gb188 [.int .i64 a0_0, .int .i64 a0_1, .slice A0_2 l0_2.length c0_2, .slice A0_3 l0_3.length c0_3, .slice A0_4 l0_4.length c0_4]]) impl_ThreeOk.tab1 impl_ThreeOk.bits1 ?_ ?_ ?_
    ·exact ⟨PS0' rfl _, (HM.drew).pick [0]⟩
    ·clear HM
     refine SY ?_ ?_
     ·intro b a w ha HM hb hon hoff K hK
      have e1 := PG ha 1
      exact VL (.pointer (some ⟨gb188, 0, none⟩)) (hK.out _ _ ⟨PUT ha 0 hb, HM⟩)
     refine SY ?_ ?_
     ·intro b a w ha HM hb hon hoff K hK
      obtain ⟨z16_0, z16_1, z16_2, z16_3, z16_4, Z16_0, Z16_1, Z16_2, Z16_3, Z16_4⟩ := bk5 (HM.bx 0 rfl)
      have e6 := PE ha 0 hon
      exact VL (.int .i64 a0_0) (hK.out _ _ ⟨PUT ha 1 hb, HM⟩)
     refine SY ?_ ?_
     ·intro b a w ha HM hb hon hoff K hK
      have e7 := PE ha 1 hon
      refine ST (eC (some 8) rfl #[.int .i64 a0_0, .int .i64 1, .int .i64 60] rfl Try.func28 (impl_within.calls a0_0 1 60 true _ A4.out) ?_ (hargs := by (simp only [List.map_toArray, List.map_cons, List.map_nil, evc, eval_of e7]) <;> rfl))
      rintro e w17 ⟨rfl, hd⟩
      refine ⟨_, rfl, ?_⟩
      replace HM := HM.drawn hd
      clear hd
      exact hK.out _ _ ⟨PUT ha 2 hb, (HM).pick [0]⟩
     refine SY ?_ ?_
     ·intro b a w ha HM hb hon hoff K hK
      have e8 := PE ha 2 hon
      exact VL (.bool (!true)) (hK.out _ _ ⟨PUT ha 3 hb, HM⟩)
     refine SY ?_ ?_
     ·intro b a w ha HM hb hon hoff K hK
      have e9 := PE ha 3 hon
      exact VL (.bool (!true)) (hK.out _ _ ⟨PUT ha 4 hb, HM⟩)
     refine SY ?_ ?_
     ·intro b a w ha HM hb hon hoff K hK
      have e1 := PG ha 1
      have e10 := PE ha 4 hon
      exact VL (.pointer (some ⟨gb188, 1, none⟩)) (hK.out _ _ ⟨PUT ha 5 hb, HM⟩) (hw := wanted_on rfl rfl rfl (e10.trans (by first | rfl | (simp [*]; done))))
     refine SY ?_ ?_
     ·intro b a w ha HM hb hon hoff K hK
      obtain ⟨z18_0, z18_1, z18_2, z18_3, z18_4, Z18_0, Z18_1, Z18_2, Z18_3, Z18_4⟩ := bk5 (HM.bx 0 rfl)
      have e11 := PE ha 5 hon
      have e10 := PE ha 4 hon
      exact VL (.int .i64 a0_1) (hK.out _ _ ⟨PUT ha 6 hb, HM⟩) (hw := wanted_on rfl rfl rfl (e10.trans (by first | rfl | (simp [*]; done))))
     refine SY ?_ ?_
     ·intro b a w ha HM hb hon hoff K hK
      have e1 := PG ha 1
      have e10 := PE ha 4 hon
      exact VL (.pointer (some ⟨gb188, 0, none⟩)) (hK.out _ _ ⟨PUT ha 7 hb, HM⟩) (hw := wanted_on rfl rfl rfl (e10.trans (by first | rfl | (simp [*]; done))))
     refine SY ?_ ?_
     ·intro b a w ha HM hb hon hoff K hK
      obtain ⟨z19_0, z19_1, z19_2, z19_3, z19_4, Z19_0, Z19_1, Z19_2, Z19_3, Z19_4⟩ := bk5 (HM.bx 0 rfl)
      have e13 := PE ha 7 hon
      have e10 := PE ha 4 hon
      exact VL (.int .i64 a0_0) (hK.out _ _ ⟨PUT ha 8 hb, HM⟩) (hw := wanted_on rfl rfl rfl (e10.trans (by first | rfl | (simp [*]; done))))
     refine SY ?_ ?_
     ·intro b a w ha HM hb hon hoff K hK
      have e12 := PE ha 6 hon
      have e14 := PE ha 8 hon
      have e10 := PE ha 4 hon
      refine ST (eC (some 15) rfl #[.int .i64 a0_1, .int .i64 1, .int .i64 a0_0] rfl Try.func28 (impl_within.calls a0_1 1 a0_0 true _ A6.out) ?_ (hargs := by (simp only [List.map_toArray, List.map_cons, List.map_nil, evc, eval_of e12, eval_of e14]) <;> rfl)) (hw := wanted_on rfl rfl rfl (e10.trans (by first | rfl | (simp [*]; done))))
      rintro e w20 ⟨rfl, hd⟩
      refine ⟨_, rfl, ?_⟩
      replace HM := HM.drawn hd
      clear hd
      exact hK.out _ _ ⟨PUT ha 9 hb, (HM).pick [0]⟩
     refine SY ?_ ?_
     ·intro b a w ha HM hb hon hoff K hK
      have e15 := PE ha 9 hon
      have e10 := PE ha 4 hon
      exact VL (.bool (!true)) (hK.out _ _ ⟨PUT ha 10 hb, HM⟩) (hw := wanted_on rfl rfl rfl (e10.trans (by first | rfl | (simp [*]; done))))
     refine SY ?_ ?_
     ·intro b a w ha HM hb hon hoff K hK
      have e10 := PE ha 4 hon
      have e16 := PE ha 10 hon
      exact VL (.bool (!true)) (hK.out _ _ ⟨PUT ha 11 hb, HM⟩)
     refine SY ?_ ?_
     ·intro b a w ha HM hb hon hoff K hK
      have e17 := PE ha 11 hon
      exact VL (.bool (!true)) (hK.out _ _ ⟨PUT ha 12 hb, HM⟩)
     refine SY ?_ ?_
     ·intro b a w ha HM hb hon hoff K hK
      have e1 := PG ha 1
      have e18 := PE ha 12 hon
      exact VL (.pointer (some ⟨gb188, 4, none⟩)) (hK.out _ _ ⟨PUT ha 13 hb, HM⟩) (hw := wanted_on rfl rfl rfl (e18.trans (by first | rfl | (simp [*]; done))))
     refine SY ?_ ?_
     ·intro b a w ha HM hb hon hoff K hK
      obtain ⟨z21_0, z21_1, z21_2, z21_3, z21_4, Z21_0, Z21_1, Z21_2, Z21_3, Z21_4⟩ := bk5 (HM.bx 0 rfl)
      have e19 := PE ha 13 hon
      have e18 := PE ha 12 hon
      exact VL (.slice A0_4 l0_4.length c0_4) (hK.out _ _ ⟨PUT ha 14 hb, HM⟩) (hw := wanted_on rfl rfl rfl (e18.trans (by first | rfl | (simp [*]; done))))
     refine SY ?_ ?_
     ·intro b a w ha HM hb hon hoff K hK
      have e20 := PE ha 14 hon
      have e18 := PE ha 12 hon
      exact VL (.int .i64 (l0_4.length : Int)) (hK.out _ _ ⟨PUT ha 15 hb, HM⟩) (hw := wanted_on rfl rfl rfl (e18.trans (by first | rfl | (simp [*]; done))))
     refine SY ?_ ?_
     ·intro b a w ha HM hb hon hoff K hK
      have e1 := PG ha 1
      have e18 := PE ha 12 hon
      refine ST (eC (some 22) rfl #[.pointer (some ⟨gb188, 0, none⟩)] rfl Try.func75 (impl_Three_ghosts.calls gb188 a0_0 a0_1 _ _ _ t191 _ (HM.bx 0 rfl) A8.out) ?_ (hargs := by (simp only [List.map_toArray, List.map_cons, List.map_nil, evc, eval_of e1]) <;> rfl)) (hw := wanted_on rfl rfl rfl (e18.trans (by first | rfl | (simp [*]; done))))
      rintro e w22 ⟨rfl, nd_, rfl⟩
      refine ⟨_, rfl, ?_⟩
      replace HM := HM.drewN nd_
      exact hK.out _ _ ⟨PUT ha 16 hb, (HM).pick [0]⟩
     refine SY ?_ ?_
     ·intro b a w ha HM hb hon hoff K hK
      have e21 := PE ha 15 hon
      have e22 := PE ha 16 hon
      have e18 := PE ha 12 hon
      exact VL (.bool (decide ((l0_4.length : Int) > t191))) (hK.out _ _ ⟨PUT ha 17 hb, HM⟩) (hw := wanted_on rfl rfl rfl (e18.trans (by first | rfl | (simp [*]; done))))
     refine SY ?_ ?_
     ·intro b a w ha HM hb hon hoff K hK
      have e18 := PE ha 12 hon
      have e23 := PE ha 17 hon
      exact VL (.bool (decide ((l0_4.length : Int) > t191))) (hK.out _ _ ⟨PUT ha 18 hb, HM⟩)
     exact steps_nil
    rintro _ w23 ⟨rfl, HM⟩
    simp only [putSel, if_true, Act.put, List.setIfInBounds_toArray, List.set_cons_zero, List.set_cons_succ, gt_iff_lt, ge_iff_le]
    have H' := Aside0.mk H
    clear H
    go_wp2
    go_meet
    case rel => exact ⟨_, (decide ((l0_4.length : Int) > t191)), RS, H', ⟨by first | omega | exact Nat.le_refl _⟩, (MD HM).pick [0]⟩
   ·subst c7
    refine RGN 19 [0, 1, 2, 3, 4, 5, 6, 7, 8, 9, 10, 11, 12, 13, 14, 15, 16, 17, 18] (fun a0 b a w' => a = putSel a0 b [(0, 6, .pointer (some ⟨gb188, 0, none⟩)), (1, 7, .int .i64 a0_0), (2, 8, .bool true), (3, 9, .bool (!true)), (4, 10, .bool (!true)), (5, 11, .pointer (some ⟨gb188, 1, none⟩)), (6, 12, .int .i64 a0_1), (7, 13, .pointer (some ⟨gb188, 0, none⟩)), (8, 14, .int .i64 a0_0), (9, 15, .bool false), (10, 16, .bool (!false)), (11, 17, .bool (!false)), (12, 18, .bool (!false)), (13, 19, undef), (14, 20, undef), (15, 21, undef), (16, 22, undef), (17, 23, undef), (18, 24, .bool true)] ∧ Mem w [] w' [box 71 gb188 [.int .i64 a0_0, .int .i64 a0_1, .slice A0_2 l0_2.length c0_2, .slice A0_3 l0_3.length c0_3, .slice A0_4 l0_4.length c0_4]]) impl_ThreeOk.tab1 impl_ThreeOk.bits1 ?_ ?_ ?_
    ·exact ⟨PS0' rfl _, (HM.drew).pick [0]⟩
    ·clear HM
     refine SY ?_ ?_
     ·intro b a w ha HM hb hon hoff K hK
      have e1 := PG ha 1
      exact VL (.pointer (some ⟨gb188, 0, none⟩)) (hK.out _ _ ⟨PUT ha 0 hb, HM⟩)
     refine SY ?_ ?_
     ·intro b a w ha HM hb hon hoff K hK
      obtain ⟨z29_0, z29_1, z29_2, z29_3, z29_4, Z29_0, Z29_1, Z29_2, Z29_3, Z29_4⟩ := bk5 (HM.bx 0 rfl)
      have e6 := PE ha 0 hon
      exact VL (.int .i64 a0_0) (hK.out _ _ ⟨PUT ha 1 hb, HM⟩)
     refine SY ?_ ?_
     ·intro b a w ha HM hb hon hoff K hK
      have e7 := PE ha 1 hon
      refine ST (eC (some 8) rfl #[.int .i64 a0_0, .int .i64 1, .int .i64 60] rfl Try.func28 (impl_within.calls a0_0 1 60 true _ A4.out) ?_ (hargs := by (simp only [List.map_toArray, List.map_cons, List.map_nil, evc, eval_of e7]) <;> rfl))
      rintro e w30 ⟨rfl, hd⟩
      refine ⟨_, rfl, ?_⟩
      replace HM := HM.drawn hd
      clear hd
      exact hK.out _ _ ⟨PUT ha 2 hb, (HM).pick [0]⟩
     refine SY ?_ ?_
     ·intro b a w ha HM hb hon hoff K hK
      have e8 := PE ha 2 hon
      exact VL (.bool (!true)) (hK.out _ _ ⟨PUT ha 3 hb, HM⟩)
     refine SY ?_ ?_
     ·intro b a w ha HM hb hon hoff K hK
      have e9 := PE ha 3 hon
      exact VL (.bool (!true)) (hK.out _ _ ⟨PUT ha 4 hb, HM⟩)
     refine SY ?_ ?_
     ·intro b a w ha HM hb hon hoff K hK
      have e1 := PG ha 1
      have e10 := PE ha 4 hon
      exact VL (.pointer (some ⟨gb188, 1, none⟩)) (hK.out _ _ ⟨PUT ha 5 hb, HM⟩) (hw := wanted_on rfl rfl rfl (e10.trans (by first | rfl | (simp [*]; done))))
     refine SY ?_ ?_
     ·intro b a w ha HM hb hon hoff K hK
      obtain ⟨z31_0, z31_1, z31_2, z31_3, z31_4, Z31_0, Z31_1, Z31_2, Z31_3, Z31_4⟩ := bk5 (HM.bx 0 rfl)
      have e11 := PE ha 5 hon
      have e10 := PE ha 4 hon
      exact VL (.int .i64 a0_1) (hK.out _ _ ⟨PUT ha 6 hb, HM⟩) (hw := wanted_on rfl rfl rfl (e10.trans (by first | rfl | (simp [*]; done))))
     refine SY ?_ ?_
     ·intro b a w ha HM hb hon hoff K hK
      have e1 := PG ha 1
      have e10 := PE ha 4 hon
      exact VL (.pointer (some ⟨gb188, 0, none⟩)) (hK.out _ _ ⟨PUT ha 7 hb, HM⟩) (hw := wanted_on rfl rfl rfl (e10.trans (by first | rfl | (simp [*]; done))))
     refine SY ?_ ?_
     ·intro b a w ha HM hb hon hoff K hK
      obtain ⟨z32_0, z32_1, z32_2, z32_3, z32_4, Z32_0, Z32_1, Z32_2, Z32_3, Z32_4⟩ := bk5 (HM.bx 0 rfl)
      have e13 := PE ha 7 hon
      have e10 := PE ha 4 hon
      exact VL (.int .i64 a0_0) (hK.out _ _ ⟨PUT ha 8 hb, HM⟩) (hw := wanted_on rfl rfl rfl (e10.trans (by first | rfl | (simp [*]; done))))
     refine SY ?_ ?_
     ·intro b a w ha HM hb hon hoff K hK
      have e12 := PE ha 6 hon
      have e14 := PE ha 8 hon
      have e10 := PE ha 4 hon
      refine ST (eC (some 15) rfl #[.int .i64 a0_1, .int .i64 1, .int .i64 a0_0] rfl Try.func28 (impl_within.calls a0_1 1 a0_0 false _ A6.out) ?_ (hargs := by (simp only [List.map_toArray, List.map_cons, List.map_nil, evc, eval_of e12, eval_of e14]) <;> rfl)) (hw := wanted_on rfl rfl rfl (e10.trans (by first | rfl | (simp [*]; done))))
      rintro e w33 ⟨rfl, hd⟩
      refine ⟨_, rfl, ?_⟩
      replace HM := HM.drawn hd
      clear hd
      exact hK.out _ _ ⟨PUT ha 9 hb, (HM).pick [0]⟩
     refine SY ?_ ?_
     ·intro b a w ha HM hb hon hoff K hK
      have e15 := PE ha 9 hon
      have e10 := PE ha 4 hon
      exact VL (.bool (!false)) (hK.out _ _ ⟨PUT ha 10 hb, HM⟩) (hw := wanted_on rfl rfl rfl (e10.trans (by first | rfl | (simp [*]; done))))
     refine SY ?_ ?_
     ·intro b a w ha HM hb hon hoff K hK
      have e10 := PE ha 4 hon
      have e16 := PE ha 10 hon
      exact VL (.bool (!false)) (hK.out _ _ ⟨PUT ha 11 hb, HM⟩)
     refine SY ?_ ?_
     ·intro b a w ha HM hb hon hoff K hK
      have e17 := PE ha 11 hon
      exact VL (.bool (!false)) (hK.out _ _ ⟨PUT ha 12 hb, HM⟩)
     refine SY ?_ ?_
     ·intro b a w ha HM hb hon hoff K hK
      have e18 := PE ha 12 hon
      exact VN ( wanted_off rfl rfl rfl (e18.trans (by first | rfl | (simp [*]; done)))) (hK.out _ _ ⟨PUT ha 13 hb, HM⟩)
     refine SY ?_ ?_
     ·intro b a w ha HM hb hon hoff K hK
      have e18 := PE ha 12 hon
      exact VN ( wanted_off rfl rfl rfl (e18.trans (by first | rfl | (simp [*]; done)))) (hK.out _ _ ⟨PUT ha 14 hb, HM⟩)
     refine SY ?_ ?_
     ·intro b a w ha HM hb hon hoff K hK
      have e18 := PE ha 12 hon
      exact VN ( wanted_off rfl rfl rfl (e18.trans (by first | rfl | (simp [*]; done)))) (hK.out _ _ ⟨PUT ha 15 hb, HM⟩)
     refine SY ?_ ?_
     ·intro b a w ha HM hb hon hoff K hK
      have e18 := PE ha 12 hon
      exact VN ( wanted_off rfl rfl rfl (e18.trans (by first | rfl | (simp [*]; done)))) (hK.out _ _ ⟨PUT ha 16 hb, HM⟩)
     refine SY ?_ ?_
     ·intro b a w ha HM hb hon hoff K hK
      have e18 := PE ha 12 hon
      exact VN ( wanted_off rfl rfl rfl (e18.trans (by first | rfl | (simp [*]; done)))) (hK.out _ _ ⟨PUT ha 17 hb, HM⟩)
     refine SY ?_ ?_
     ·intro b a w ha HM hb hon hoff K hK
      have e18 := PE ha 12 hon
      have e23 := PE ha 17 hon
      exact VL (.bool true) (hK.out _ _ ⟨PUT ha 18 hb, HM⟩)
     exact steps_nil
    rintro _ w34 ⟨rfl, HM⟩
    simp only [putSel, if_true, Act.put, List.setIfInBounds_toArray, List.set_cons_zero, List.set_cons_succ, gt_iff_lt, ge_iff_le]
    have H' := Aside0.mk H
    clear H
    go_wp2
    go_meet
    case rel => exact ⟨_, (true), RS, H', ⟨by first | omega | exact Nat.le_refl _⟩, (MD HM).pick [0]⟩
  ·subst c5
   refine RGN 19 [0, 1, 2, 3, 4, 5, 6, 7, 8, 9, 10, 11, 12, 13, 14, 15, 16, 17, 18] (fun a0 b a w' => a = putSel a0 b [(0, 6, .pointer (some ⟨gb188, 0, none⟩)), (1, 7, .int .i64 a0_0), (2, 8, .bool false), (3, 9, .bool (!false)), (4, 10, .bool (!false)), (5, 11, undef), (6, 12, undef), (7, 13, undef), (8, 14, undef), (9, 15, undef), (10, 16, undef), (11, 17, .bool true), (12, 18, .bool true), (13, 19, undef), (14, 20, undef), (15, 21, undef), (16, 22, undef), (17, 23, undef), (18, 24, .bool true)] ∧ Mem w [] w' [box 71 gb188 [.int .i64 a0_0, .int .i64 a0_1, .slice A0_2 l0_2.length c0_2, .slice A0_3 l0_3.length c0_3, .slice A0_4 l0_4.length c0_4]]) impl_ThreeOk.tab1 impl_ThreeOk.bits1 ?_ ?_ ?_
   ·exact ⟨PS0' rfl _, (HM.drew).pick [0]⟩
   ·clear HM
    refine SY ?_ ?_
    ·intro b a w ha HM hb hon hoff K hK
     have e1 := PG ha 1
     exact VL (.pointer (some ⟨gb188, 0, none⟩)) (hK.out _ _ ⟨PUT ha 0 hb, HM⟩)
    refine SY ?_ ?_
    ·intro b a w ha HM hb hon hoff K hK
     obtain ⟨z37_0, z37_1, z37_2, z37_3, z37_4, Z37_0, Z37_1, Z37_2, Z37_3, Z37_4⟩ := bk5 (HM.bx 0 rfl)
     have e6 := PE ha 0 hon
     exact VL (.int .i64 a0_0) (hK.out _ _ ⟨PUT ha 1 hb, HM⟩)
    refine SY ?_ ?_
    ·intro b a w ha HM hb hon hoff K hK
     have e7 := PE ha 1 hon
     refine ST (eC (some 8) rfl #[.int .i64 a0_0, .int .i64 1, .int .i64 60] rfl Try.func28 (impl_within.calls a0_0 1 60 false _ A4.out) ?_ (hargs := by (simp only [List.map_toArray, List.map_cons, List.map_nil, evc, eval_of e7]) <;> rfl))
     rintro e w38 ⟨rfl, hd⟩
     refine ⟨_, rfl, ?_⟩
     replace HM := HM.drawn hd
     clear hd
     exact hK.out _ _ ⟨PUT ha 2 hb, (HM).pick [0]⟩
    refine SY ?_ ?_
    ·intro b a w ha HM hb hon hoff K hK
     have e8 := PE ha 2 hon
     exact VL (.bool (!false)) (hK.out _ _ ⟨PUT ha 3 hb, HM⟩)
    refine SY ?_ ?_
    ·intro b a w ha HM hb hon hoff K hK
     have e9 := PE ha 3 hon
     exact VL (.bool (!false)) (hK.out _ _ ⟨PUT ha 4 hb, HM⟩)
    refine SY ?_ ?_
    ·intro b a w ha HM hb hon hoff K hK
     have e10 := PE ha 4 hon
     exact VN ( wanted_off rfl rfl rfl (e10.trans (by first | rfl | (simp [*]; done)))) (hK.out _ _ ⟨PUT ha 5 hb, HM⟩)
    refine SY ?_ ?_
    ·intro b a w ha HM hb hon hoff K hK
     have e10 := PE ha 4 hon
     exact VN ( wanted_off rfl rfl rfl (e10.trans (by first | rfl | (simp [*]; done)))) (hK.out _ _ ⟨PUT ha 6 hb, HM⟩)
    refine SY ?_ ?_
    ·intro b a w ha HM hb hon hoff K hK
     have e10 := PE ha 4 hon
     exact VN ( wanted_off rfl rfl rfl (e10.trans (by first | rfl | (simp [*]; done)))) (hK.out _ _ ⟨PUT ha 7 hb, HM⟩)
    refine SY ?_ ?_
    ·intro b a w ha HM hb hon hoff K hK
     have e10 := PE ha 4 hon
     exact VN ( wanted_off rfl rfl rfl (e10.trans (by first | rfl | (simp [*]; done)))) (hK.out _ _ ⟨PUT ha 8 hb, HM⟩)
    refine SY ?_ ?_
    ·intro b a w ha HM hb hon hoff K hK
     have e10 := PE ha 4 hon
     exact VN ( wanted_off rfl rfl rfl (e10.trans (by first | rfl | (simp [*]; done)))) (hK.out _ _ ⟨PUT ha 9 hb, HM⟩)
    refine SY ?_ ?_
    ·intro b a w ha HM hb hon hoff K hK
     have e10 := PE ha 4 hon
     exact VN ( wanted_off rfl rfl rfl (e10.trans (by first | rfl | (simp [*]; done)))) (hK.out _ _ ⟨PUT ha 10 hb, HM⟩)
    refine SY ?_ ?_
    ·intro b a w ha HM hb hon hoff K hK
     have e10 := PE ha 4 hon
     have e16 := PE ha 10 hon
     exact VL (.bool true) (hK.out _ _ ⟨PUT ha 11 hb, HM⟩)
    refine SY ?_ ?_
    ·intro b a w ha HM hb hon hoff K hK
     have e17 := PE ha 11 hon
     exact VL (.bool true) (hK.out _ _ ⟨PUT ha 12 hb, HM⟩)
    refine SY ?_ ?_
    ·intro b a w ha HM hb hon hoff K hK
     have e18 := PE ha 12 hon
     exact VN ( wanted_off rfl rfl rfl (e18.trans (by first | rfl | (simp [*]; done)))) (hK.out _ _ ⟨PUT ha 13 hb, HM⟩)
    refine SY ?_ ?_
    ·intro b a w ha HM hb hon hoff K hK
     have e18 := PE ha 12 hon
     exact VN ( wanted_off rfl rfl rfl (e18.trans (by first | rfl | (simp [*]; done)))) (hK.out _ _ ⟨PUT ha 14 hb, HM⟩)
    refine SY ?_ ?_
    ·intro b a w ha HM hb hon hoff K hK
     have e18 := PE ha 12 hon
     exact VN ( wanted_off rfl rfl rfl (e18.trans (by first | rfl | (simp [*]; done)))) (hK.out _ _ ⟨PUT ha 15 hb, HM⟩)
    refine SY ?_ ?_
    ·intro b a w ha HM hb hon hoff K hK
     have e18 := PE ha 12 hon
     exact VN ( wanted_off rfl rfl rfl (e18.trans (by first | rfl | (simp [*]; done)))) (hK.out _ _ ⟨PUT ha 16 hb, HM⟩)
    refine SY ?_ ?_
    ·intro b a w ha HM hb hon hoff K hK
     have e18 := PE ha 12 hon
     exact VN ( wanted_off rfl rfl rfl (e18.trans (by first | rfl | (simp [*]; done)))) (hK.out _ _ ⟨PUT ha 17 hb, HM⟩)
    refine SY ?_ ?_
    ·intro b a w ha HM hb hon hoff K hK
     have e18 := PE ha 12 hon
     have e23 := PE ha 17 hon
     exact VL (.bool true) (hK.out _ _ ⟨PUT ha 18 hb, HM⟩)
    exact steps_nil
   rintro _ w39 ⟨rfl, HM⟩
   simp only [putSel, if_true, Act.put, List.setIfInBounds_toArray, List.set_cons_zero, List.set_cons_succ, gt_iff_lt, ge_iff_le]
   have H' := Aside0.mk H
   clear H
   go_wp2
   go_meet
   case rel => exact ⟨_, (true), RS, H', ⟨by first | omega | exact Nat.le_refl _⟩, (MD HM).pick [0]⟩
 case rest =>
  clear HC3 HM
  obtain ⟨kq, x24_2, rfl, HA, HJ2, HM⟩ := hcut
  cases kq with
  | zero => exact absurd HA.out (by simp [impl_ThreeOk.j0])
  | succ kj2 =>
   have H := HA.out
   clear HA
   simp only [impl_ThreeOk.j0] at H
   go_upto_if 24 with (fail)
   replace H := IB H
   rcases H with ⟨c40, H⟩ | ⟨c40, H⟩
   ·subst c40
    obtain rfl := Option.some.inj H
    go_wp2
    go_ret
    exact ⟨ER, (MD HM).pick []⟩
   ·subst c40
    have H' := Aside0.mk H
    clear H
    obtain ⟨z41_0, z41_1, z41_2, z41_3, z41_4, Z41_0, Z41_1, Z41_2, Z41_3, Z41_4⟩ := bk5 (HM.bx 0 rfl)
    go_wp2
    go_loopg [28] kj2 (fun kq v28 w' => ∃ (x28_2 : Int), v28 = .int .i64 x28_2 ∧ Aside0 (impl_ThreeOk.l0 kq l0_4 (l0_4.length : Int) x28_2 a0_0 a0_1 l0_2 l0_3 l0_4 = some r) ∧ Aside0 (kq ≤ kj2) ∧ Mem w [] w' [box 71 gb188 [.int .i64 a0_0, .int .i64 a0_1, .slice A0_2 l0_2.length c0_2, .slice A0_3 l0_3.length c0_3, .slice A0_4 l0_4.length c0_4]])
    case atStart => exact ⟨(0), RS, H', ⟨Nat.le_refl _⟩, (MD HM).pick [0]⟩
    case round =>
     clear H' HM
     obtain ⟨x28_2, rfl, HA, HK2, HM⟩ := hrel
     cases gk with
     | zero => exact absurd HA.out (by simp [impl_ThreeOk.l0])
     | succ k2 =>
      have H := HA.out
      clear HA
      simp only [impl_ThreeOk.l0] at H
      go_upto_if 29 with (fail)
      replace H := IT H; rcases H with ⟨c42, H⟩ | ⟨c42, H⟩
      ·have c42b0 : decide (x28_2 < (l0_4.length : Int)) = true := decide_eq_true c42
       clear c42
       (first | rw [c42b0] | (simp only [i64_w, i32_w]; rw [c42b0]) | skip)
       replace H := GD H; obtain ⟨c43, H⟩ := H
       have c43b0 : decide (0 ≤ x28_2) = true := decide_eq_true c43
       clear c43
       replace H := GD H; obtain ⟨c44, H⟩ := H
       have c44b0 : decide (x28_2 < (l0_4.length : Int)) = true := decide_eq_true c44
       clear c44
       replace H := BN H; obtain ⟨t200, A45, H⟩ := H
       replace H := IB H
       rcases H with ⟨c47, H⟩ | ⟨c47, H⟩
       ·subst c47
        have c49b0 := eq_true (of_decide_eq_true AS : 0 ≤ x28_2)
        replace H := GD H; obtain ⟨c50, H⟩ := H
        have c50b0 := eq_true c50
        have c50b1 : decide (x28_2 ≤ (l0_4.length : Int)) = true := decide_eq_true c50
        clear c50
        replace H := BN H; obtain ⟨t202, A52, H⟩ := H
        have p199 : 0 ≤ (x28_2 : Int) := of_decide_eq_true AS
        have q199 : (x28_2 : Int) < (l0_4.length : Int) := of_decide_eq_true AS
        obtain ⟨ad199, e199, hx199_0⟩ := Kd.at_int (HM.came HR0_4.out) x28_2 p199 q199
        cases e199
        replace p199 := eq_true p199
        replace q199 := eq_true q199
        go_upto_if 43 with (first | ((with_reducible refine gC 29 rfl ?_); refine pC (some 34) rfl #[.int .i64 (rd l0_4 x28_2)] rfl Try.func29 (impl_isNum.calls (rd l0_4 x28_2) true _ A45.out) ?_; rintro e w46 ⟨rfl, hd⟩; refine ⟨_, rfl, ?_⟩; replace HM := HM.drawn hd; clear hd; obtain ⟨z48_0, z48_1, z48_2, z48_3, z48_4, Z48_0, Z48_1, Z48_2, Z48_3, Z48_4⟩ := bk5 (HM.bx 0 rfl)) | ((with_reducible refine gate_sl (t := 69) rfl ?_); refine pRt 69 3 (Kd.int .i64) _ _ x28_2 l0_4 (some ad199) c0_4 rfl Try.underlying69 info3 (HM.came HR0_4.out) HC0_4.out (of_decide_eq_true AS) (of_decide_eq_true AS) ?_; intro Yx51 bx51 hYx51 hbx51; have HYx51 := Aside0.mk hYx51; have HBx51 := Aside0.mk hbx51; clear hYx51 hbx51; have hlx51 : (l0_4.take (x28_2 : Int).toNat).length = (x28_2 : Int).toNat := by rw [List.length_take]; have h_ : (x28_2 : Int) ≤ ((l0_4.length : Int) : Int) := of_decide_eq_true AS; omega) | ((with_reducible refine gC 76 rfl ?_); refine pC (some 42) rfl #[.slice Yx51 (l0_4.take (x28_2 : Int).toNat).length bx51, .int .i64 (rd l0_4 x28_2)] rfl Try.func76 (slices_Contains_int_int.calls k2 _ _ (l0_4.take (x28_2 : Int).toNat) (rd l0_4 x28_2) t202 _ HYx51.out HBx51.out A52.out) ?_ (hargs := by (try simp only [List.map_toArray, List.map_cons, List.map_nil]); first | done | rfl | (rw [hlx51]; rfl) | (simp only [List.length_take]; rfl)); rintro e w53 ⟨rfl, hd⟩; refine ⟨_, rfl, ?_⟩; replace HM := HM.drawn hd; clear hd))
        replace H := IB H
        rcases H with ⟨c54, H⟩ | ⟨c54, H⟩
        ·subst c54
         obtain rfl := Option.some.inj H
         go_wp2
         go_ret
         exact ⟨ER, (MD HM).pick []⟩
        ·subst c54
         have H' := Aside0.mk H
         clear H
         go_wp2
         go_roundg k2
         case measure => have := HJ2.out; have := HK2.out; omega
         case rel => exact ⟨(wrap64 (x28_2 + 1)), RS, H', ⟨by have := HJ2.out; have := HK2.out; omega⟩, (MD HM).pick [0]⟩
       ·subst c47
        obtain rfl := Option.some.inj H
        have p199 : 0 ≤ (x28_2 : Int) := of_decide_eq_true AS
        have q199 : (x28_2 : Int) < (l0_4.length : Int) := of_decide_eq_true AS
        obtain ⟨ad199, e199, hx199_0⟩ := Kd.at_int (HM.came HR0_4.out) x28_2 p199 q199
        cases e199
        replace p199 := eq_true p199
        replace q199 := eq_true q199
        go_wp2_with (first | ((with_reducible refine gC 29 rfl ?_); refine pC (some 34) rfl #[.int .i64 (rd l0_4 x28_2)] rfl Try.func29 (impl_isNum.calls (rd l0_4 x28_2) false _ A45.out) ?_; rintro e w46 ⟨rfl, hd⟩; refine ⟨_, rfl, ?_⟩; replace HM := HM.drawn hd; clear hd))
        go_ret
        exact ⟨ER, (MD HM).pick []⟩
      ·have c42b0 : decide (x28_2 < (l0_4.length : Int)) = false := decide_eq_false c42
       clear c42
       (first | rw [c42b0] | (simp only [i64_w, i32_w]; rw [c42b0]) | skip)
       try go_wp2
       replace H := BN H; obtain ⟨t192, A55, H⟩ := H
       replace H := GD H; obtain ⟨c56, H⟩ := H
       have LMc56 := Aside0.mk c56
       clear c56
       replace H := BLt H; obtain ⟨y195, Ny195, H⟩ := H
       replace Ny195 := Aside0.mk Ny195
       refine RGN 7 [0, 1, 2, 3, 4, 5, 6] (fun a0 b a w' => ∃ (v193 : Value) (v196 : Value), a = putSel a0 b [(0, 45, .pointer (some ⟨gb188, 2, none⟩)), (1, 46, .slice A0_2 l0_2.length c0_2), (2, 47, v193), (3, 48, .pointer (some ⟨gb188, 3, none⟩)), (4, 49, .slice A0_3 l0_3.length c0_3), (5, 50, v196), (6, 5, v196)] ∧ Mem w [] w' [box 71 gb188 [.int .i64 a0_0, .int .i64 a0_1, .slice A0_2 l0_2.length c0_2, .slice A0_3 l0_3.length c0_3, .slice A0_4 l0_4.length c0_4], sel (b 5) (rowR k67 67 v196 y195) (sel (b 2) (rowR k67 67 v193 t192) (emp))]) impl_ThreeOk.tab9 impl_ThreeOk.bits9 ?_ ?_ ?_
       ·exact ⟨.bool false, .bool false, PS0' rfl _, (HM.drew.ems 1).pick [0, 1]⟩
       ·clear HM
        refine steps_cons ?_ ?_
        ·rintro b a w ⟨v193, v196, ha, HM⟩ hb hon hoff
         refine ⟨_, rfl, fun K hK => ?_⟩
         replace ha := Aside0.mk ha
         have e1 := PG ha 1
         exact VL (.pointer (some ⟨gb188, 2, none⟩)) (hK.out _ _ ⟨v193, v196, PUT ha 0 hb, HM⟩)
        refine steps_cons ?_ ?_
        ·rintro b a w ⟨v193, v196, ha, HM⟩ hb hon hoff
         refine ⟨_, rfl, fun K hK => ?_⟩
         replace ha := Aside0.mk ha
         obtain ⟨z61_0, z61_1, z61_2, z61_3, z61_4, Z61_0, Z61_1, Z61_2, Z61_3, Z61_4⟩ := bk5 (HM.bx 0 rfl)
         have e45 := PE ha 0 hon
         exact VL (.slice A0_2 l0_2.length c0_2) (hK.out _ _ ⟨v193, v196, PUT ha 1 hb, HM⟩)
        refine steps_cons ?_ ?_
        ·rintro b a w ⟨v193, v196, ha, HM⟩ hb hon hoff
         refine ⟨_, rfl, fun K hK => ?_⟩
         replace ha := Aside0.mk ha
         have e46 := PE ha 1 hon
         refine ST (eC (some 47) rfl #[.slice A0_2 l0_2.length c0_2] rfl Try.func77 (impl_copyItems.calls _ _ l0_2 t192 _ (HM.came HR0_2.out) HC0_2.out A55.out) ?_ (hargs := by (simp only [List.map_toArray, List.map_cons, List.map_nil, evc, eval_of e46]) <;> rfl))
         rintro e w62 ⟨v193, rfl, hR⟩
         refine ⟨_, rfl, ?_⟩
         replace HM := HM.call hR
         clear hR
         exact hK.out _ _ ⟨v193, v196, PUT ha 2 hb, (HM.iF 2 rfl (hoff 5 (by kernel_rfl))).pick [0, 2]⟩
        refine steps_cons ?_ ?_
        ·rintro b a w ⟨v193, v196, ha, HM⟩ hb hon hoff
         refine ⟨_, rfl, fun K hK => ?_⟩
         replace ha := Aside0.mk ha
         have e1 := PG ha 1
         exact VL (.pointer (some ⟨gb188, 3, none⟩)) (hK.out _ _ ⟨v193, v196, PUT ha 3 hb, HM⟩)
        refine steps_cons ?_ ?_
        ·rintro b a w ⟨v193, v196, ha, HM⟩ hb hon hoff
         refine ⟨_, rfl, fun K hK => ?_⟩
         replace ha := Aside0.mk ha
         obtain ⟨z63_0, z63_1, z63_2, z63_3, z63_4, Z63_0, Z63_1, Z63_2, Z63_3, Z63_4⟩ := bk5 (HM.bx 0 rfl)
         have e48 := PE ha 3 hon
         exact VL (.slice A0_3 l0_3.length c0_3) (hK.out _ _ ⟨v193, v196, PUT ha 4 hb, HM⟩)
        refine steps_cons ?_ ?_
        ·rintro b a w ⟨v193, v196, ha, HM⟩ hb hon hoff
         refine ⟨_, rfl, fun K hK => ?_⟩
         replace ha := Aside0.mk ha
         replace HM := (HM.sF 1 rfl hb).sT 1 rfl (hon 2 (by kernel_rfl))
         have e47 := PE ha 2 hon
         have e49 := PE ha 4 hon
         refine ST (eA 1 (.tmp 47) (.tmp 49) 68 67 k67 v193 t192 l0_3 A0_3 l0_3.length c0_3 HM rfl Try.underlying68 info67 rfl (HM.came HR0_3.out) (by have h_ := LMc56.out; omega) ?_ (ops := #[]) (hw := by rfl) (hs := (eval_of e47)) (hx := (eval_of e49)))
         clear HM
         intro v196 w64 HM
         replace HM := HM.nm 1 rfl Ny195.out
         exact hK.out _ _ ⟨v193, v196, PUT (PCH ha 6 (hoff 6 (by kernel_rfl))) 5 hb, (HM).pick [0, 1]⟩
        refine steps_cons ?_ ?_
        ·rintro b a w ⟨v193, v196, ha, HM⟩ hb hon hoff
         refine ⟨_, rfl, fun K hK => ?_⟩
         replace ha := Aside0.mk ha
         have e50 := PE ha 5 hon
         exact VL (v196) (hK.out _ _ ⟨v193, v196, PUT ha 6 hb, HM⟩)
        exact steps_nil
       rintro _ w65 ⟨v193, v196, rfl, HM⟩
       replace HM := HM.sT 1 rfl rfl
       simp only [putSel, if_true, Act.put, List.setIfInBounds_toArray, List.set_cons_zero, List.set_cons_succ, gt_iff_lt, ge_iff_le]
       replace H := IT H; rcases H with ⟨c68, H⟩ | ⟨c68, H⟩
       ·have c68b0 : decide ((y195.length : Int) ≤ a0_0) = true := decide_eq_true c68
        clear c68
        replace H := BN H; obtain ⟨t198, A69, H⟩ := H
        obtain rfl := Option.some.inj H
        obtain ⟨Xo66, ko66, eo66⟩ := HM.rdR 1 rfl
        subst eo66
        obtain ⟨z67_0, z67_1, z67_2, z67_3, z67_4, Z67_0, Z67_1, Z67_2, Z67_3, Z67_4⟩ := bk5 (HM.bx 0 rfl)
        go_wp2_with (first | ((with_reducible refine gC 78 rfl ?_); refine pC (some 58) rfl #[.slice Xo66 y195.length ko66] rfl Try.func78 (impl_areItems.calls k2 _ _ y195 t198 _ (HM.CR 1 rfl).2.2 (HM.CR 1 rfl).2.1 A69.out) ?_; rintro e w70 ⟨rfl, hR⟩; refine ⟨_, rfl, ?_⟩; replace HM := HM.call hR; clear hR))
        go_ret
        exact ⟨ER, (MD HM).pick []⟩
       ·have c68b0 : decide ((y195.length : Int) ≤ a0_0) = false := decide_eq_false c68
        clear c68
        obtain rfl := Option.some.inj H
        obtain ⟨Xo66, ko66, eo66⟩ := HM.rdR 1 rfl
        subst eo66
        obtain ⟨z67_0, z67_1, z67_2, z67_3, z67_4, Z67_0, Z67_1, Z67_2, Z67_3, Z67_4⟩ := bk5 (HM.bx 0 rfl)
        go_wp2
        go_ret
        exact ⟨ER, (MD HM).pick []⟩
def impl_ThreeNew.f (k : Nat) (a0 : Int) (a1 : Int) : Option (Int × Int × (List (S67)) × (List (S67)) × List Int × Bool) := (impl_ThreeOk.f k a0 a1 ([] : List (S67)) ([] : List (S67)) ([] : List Int)).bind fun t205 => (if t205 = true then (some (a0, a1, ([] : List (S67)), ([] : List (S67)), ([] : List Int), true)) else (some (0, 0, ([] : List (S67)), ([] : List (S67)), ([] : List Int), false)))
set_option maxHeartbeats 8000000 in
set_option maxRecDepth 100000 in
theorem impl_ThreeNew.calls (k : Nat) (a0 : Int) (a1 : Int) (r1 : Int) (r2 : Int) (r3 : List (S67)) (r4 : List (S67)) (r5 : List Int) (r6 : Bool) (w : World)  (h : impl_ThreeNew.f k a0 a1 = some (r1, r2, r3, r4, r5, r6)) :
  Calls Try.prog 43 #[.int .i64 a0, .int .i64 a1] w fun e w' => ∃ v2_ v3_ v4_ : Value, e = .returned (.tuple #[.agg #[.int .i64 r1, .int .i64 r2, v2_, v3_, v4_], .bool r6]) ∧ Mem w [] w' [rowR k67 67 v2_ r3, rowR k67 67 v3_ r4, rowR (Kd.int .i64) 3 v4_ r5] := by
 have hu71 := Try.underlying71
 have HM := Mem.nil w
 have H := h
 clear h
 unfold impl_ThreeNew.f at H
 go_enter Try.func43, Try.ntmps43
 replace H := BN H; obtain ⟨t205, A7, H⟩ := H
 go_upto_if 12 with (first | ((with_reducible refine gN 4 rfl ?_); refine pB 4 71 [.int .i64 0, .int .i64 0, .slice none 0 0, .slice none 0 0, .slice none 0 0] HM rfl ?_; clear HM; intro gb203 w3 HM) | ((with_reducible refine gN 6 rfl ?_); refine pB 6 71 [.int .i64 0, .int .i64 0, .slice none 0 0, .slice none 0 0, .slice none 0 0] HM rfl ?_; clear HM; intro gb204 w4 HM) | ((with_reducible refine gS 6 rfl ?_); refine pS 1 6 0 [.int .i64 a0, .int .i64 a1, .slice none 0 0, .slice none 0 0, .slice none 0 0] HM rfl rfl ?_; clear HM; intro w5 HM; obtain ⟨z6_0, z6_1, z6_2, z6_3, z6_4, Z6_0, Z6_1, Z6_2, Z6_3, Z6_4⟩ := bk5 (HM.bx 1 rfl)) | ((with_reducible refine gC 59 rfl ?_); refine pC (some 11) rfl #[.agg #[.int .i64 a0, .int .i64 a1, .slice none 0 0, .slice none 0 0, .slice none 0 0]] rfl Try.func59 (impl_ThreeOk.calls k a0 a1 _ _ ([] : List (S67)) _ _ ([] : List (S67)) _ _ ([] : List Int) t205 _ (Kd.C_nil _ _) (Nat.le_refl _) (Kd.C_nil _ _) (Nat.le_refl _) (Kd.C_nil _ _) (Nat.le_refl _) A7.out) ?_; rintro e w8 ⟨rfl, hR⟩; refine ⟨_, rfl, ?_⟩; replace HM := HM.call hR; clear hR))
 replace HM := nzM HM
 replace H := IB H
 rcases H with ⟨c9, H⟩ | ⟨c9, H⟩
 ·subst c9
  simp only [Option.some.injEq, Prod.mk.injEq] at H
  obtain ⟨rfl, rfl, rfl, rfl, rfl, rfl⟩ := H
  obtain ⟨z10_0, z10_1, z10_2, z10_3, z10_4, Z10_0, Z10_1, Z10_2, Z10_3, Z10_4⟩ := bk5 (HM.bx 1 rfl)
  go_wp2_with (first | ((with_reducible refine gS 4 rfl ?_); refine pS 0 4 0 [.int .i64 a0, .int .i64 a1, .slice none 0 0, .slice none 0 0, .slice none 0 0] HM rfl rfl ?_; clear HM; intro w11 HM; replace HM := HM.nl k67 67; replace HM := HM.nl k67 67; replace HM := HM.nl (Kd.int .i64) 3))
  refine bodyPost_ret (results_ct rfl _ _ gb203 71 #[.int .i64 a0, .int .i64 a1, .slice none 0 0, .slice none 0 0, .slice none 0 0] (0, 0) _ rfl (HM.bx 0 rfl) Try.underlying71 rfl (by kernel_rfl)) rfl ?_
  exact ⟨_, _, _, ER, (MD HM).pick [2, 3, 4]⟩
 ·subst c9
  simp only [Option.some.injEq, Prod.mk.injEq] at H
  obtain ⟨rfl, rfl, rfl, rfl, rfl, rfl⟩ := H
  go_wp2_with (first | ((with_reducible refine gS 4 rfl ?_); refine pS 0 4 0 [.int .i64 0, .int .i64 0, .slice none 0 0, .slice none 0 0, .slice none 0 0] HM rfl rfl ?_; clear HM; intro w12 HM; replace HM := HM.nl k67 67; replace HM := HM.nl k67 67; replace HM := HM.nl (Kd.int .i64) 3))
  refine bodyPost_ret (results_ct rfl _ _ gb203 71 #[.int .i64 0, .int .i64 0, .slice none 0 0, .slice none 0 0, .slice none 0 0] (0, 0) _ rfl (HM.bx 0 rfl) Try.underlying71 rfl (by kernel_rfl)) rfl ?_
  exact ⟨_, _, _, ER, (MD HM).pick [2, 3, 4]⟩
mutual
def impl_RowOk.j0 : Nat → Int → Int → Int → List (S67) → Option (Bool)
 | 0, _, _, _, _ => none
 | k + 1, x3, x213000, x213001, x213002 => impl_RowOk.l0 k x3 x213002 (x213002.length : Int) 0 x213000 x213001 x213002
def impl_RowOk.l0 : Nat → Int → List (S67) → Int → Int → Int → Int → List (S67) → Option (Bool)
 | 0, _, _, _, _, _, _, _ => none
 | k + 1, x3, x10, x11, x12, x213000, x213001, x213002 => if x12 < x11 then (if 0 ≤ x12 then (if x12 < (x10.length : Int) then ((impl_within.f ((rd_T67 x10 x12).f2) 0 x3).bind fun t215 => (if t215 = true then (impl_RowOk.l0 k x3 x10 x11 (wrap64 (x12 + 1)) x213000 x213001 x213002) else (some false))) else (none)) else (none)) else ((impl_within.f x213000 1 3).bind fun t216 => (if t216 = true then ((impl_within.f x213001 1 60).bind fun t217 => (if t217 = true then (if (x213002.length : Int) ≤ x213001 then ((impl_areItems.f k x213002).bind fun t218 => (some t218)) else (some false)) else (some false))) else (some false)))
end
def impl_RowOk.f (k : Nat) (a0_0 : Int) (a0_1 : Int) (l0_2 : List (S67)) : Option (Bool) := if a0_0 = 3 then (impl_RowOk.j0 k 1 a0_0 a0_1 l0_2) else (impl_RowOk.j0 k 0 a0_0 a0_1 l0_2)
set_option maxHeartbeats 8000000 in
set_option maxRecDepth 100000 in
theorem impl_RowOk.calls (k : Nat) (a0_0 : Int) (a0_1 : Int) (A0_2 : Option Addr) (c0_2 : Nat) (l0_2 : List (S67)) (r : Bool) (w : World) (hr0_2 : Kd.C k67 w A0_2 l0_2.length l0_2) (hc0_2 : l0_2.length ≤ c0_2) (h : impl_RowOk.f k a0_0 a0_1 l0_2 = some r) :
  Calls Try.prog 60 #[.agg #[.int .i64 a0_0, .int .i64 a0_1, .slice A0_2 l0_2.length c0_2]] w fun e w' => e = .returned (.bool r) ∧ Mem w [] w' [] := by
 have hu75 := Try.underlying75
 have hu67 := Try.underlying67
 have HR0_2 := Aside0.mk hr0_2
 have HC0_2 := Aside0.mk hc0_2
 clear hr0_2 hc0_2
 have HM := Mem.nil w
 have H := h
 clear h
 unfold impl_RowOk.f at H
 go_enter Try.func60, Try.ntmps60
 have HC4 := Aside0.mk H
 clear H
 go_upto_if 8 with (first | ((with_reducible refine gN 1 rfl ?_); refine pB 1 75 [.int .i64 a0_0, .int .i64 a0_1, .slice A0_2 l0_2.length c0_2] HM rfl ?_; clear HM; intro gb212 w2 HM; obtain ⟨z3_0, z3_1, z3_2, Z3_0, Z3_1, Z3_2⟩ := bk3 (HM.bx 0 rfl)))
 go_cut [3] (fun v3 wc => ∃ (kq : Nat) (x3_3 : Int), v3 = .int .i64 x3_3 ∧ Aside0 (impl_RowOk.j0 kq x3_3 a0_0 a0_1 l0_2 = some r) ∧ Aside0 (kq ≤ k) ∧ Mem w [] wc [box 75 gb212 [.int .i64 a0_0, .int .i64 a0_1, .slice A0_2 l0_2.length c0_2]])
 case first =>
  have H := HC4.out
  clear HC4
  go_upto_if 8 with (fail)
  replace H := IT H; rcases H with ⟨c5, H⟩ | ⟨c5, H⟩
  ·have c5b0 : (a0_0 == 3) = true := beq_iff_eq.mpr c5
   have c5b1 : (a0_0 != 3) = false := bne_eq_false_iff_eq.mpr c5
   clear c5
   (first | rw [c5b0] | (simp only [i64_w, i32_w]; rw [c5b0]) | skip)
   have H' := Aside0.mk H
   clear H
   go_wp2
   go_meet
   case rel => exact ⟨_, (1), RS, H', ⟨by first | omega | exact Nat.le_refl _⟩, (MD HM).pick [0]⟩
  ·have c5b0 : (a0_0 == 3) = false := beq_eq_false_iff_ne.mpr c5
   have c5b1 : (a0_0 != 3) = true := bne_iff_ne.mpr c5
   (first | rw [c5b0] | (simp only [i64_w, i32_w]; rw [c5b0]) | skip)
   have H' := Aside0.mk H
   clear H
   go_wp2
   go_meet
   case rel => exact ⟨_, (0), RS, H', ⟨by first | omega | exact Nat.le_refl _⟩, (MD HM).pick [0]⟩
 case rest =>
  clear HC4 HM
  obtain ⟨kq, x3_3, rfl, HA, HJ3, HM⟩ := hcut
  cases kq with
  | zero => exact absurd HA.out (by simp [impl_RowOk.j0])
  | succ kj3 =>
   have H := HA.out
   clear HA
   simp only [impl_RowOk.j0] at H
   have H' := Aside0.mk H
   clear H
   obtain ⟨z6_0, z6_1, z6_2, Z6_0, Z6_1, Z6_2⟩ := bk3 (HM.bx 0 rfl)
   go_wp2
   go_loopg [12] kj3 (fun kq v12 w' => ∃ (x12_2 : Int), v12 = .int .i64 x12_2 ∧ Aside0 (impl_RowOk.l0 kq x3_3 l0_2 (l0_2.length : Int) x12_2 a0_0 a0_1 l0_2 = some r) ∧ Aside0 (kq ≤ kj3) ∧ Mem w [] w' [box 75 gb212 [.int .i64 a0_0, .int .i64 a0_1, .slice A0_2 l0_2.length c0_2]])
   case atStart => exact ⟨(0), RS, H', ⟨Nat.le_refl _⟩, (MD HM).pick [0]⟩
   case round =>
    clear H' HM
    obtain ⟨x12_2, rfl, HA, HK2, HM⟩ := hrel
    cases gk with
    | zero => exact absurd HA.out (by simp [impl_RowOk.l0])
    | succ k2 =>
     have H := HA.out
     clear HA
     simp only [impl_RowOk.l0] at H
     go_upto_if 13 with (fail)
     replace H := IT H; rcases H with ⟨c7, H⟩ | ⟨c7, H⟩
     ·have c7b0 : decide (x12_2 < (l0_2.length : Int)) = true := decide_eq_true c7
      clear c7
      (first | rw [c7b0] | (simp only [i64_w, i32_w]; rw [c7b0]) | skip)
      replace H := GD H; obtain ⟨c8, H⟩ := H
      have c8b0 : decide (0 ≤ x12_2) = true := decide_eq_true c8
      clear c8
      replace H := GD H; obtain ⟨c9, H⟩ := H
      have c9b0 : decide (x12_2 < (l0_2.length : Int)) = true := decide_eq_true c9
      clear c9
      replace H := BN H; obtain ⟨t215, A13, H⟩ := H
      have p213 : 0 ≤ (x12_2 : Int) := of_decide_eq_true AS
      have q213 : (x12_2 : Int) < (l0_2.length : Int) := of_decide_eq_true AS
      obtain ⟨ad213, e213, hx213_0, hx213_1, hx213_2⟩ := at_T67 (HM.came HR0_2.out) x12_2 p213 q213
      cases e213
      replace p213 := eq_true p213
      replace q213 := eq_true q213
      go_upto_if 20 with (first | ((with_reducible refine gN 5 rfl ?_); refine pB 5 67 [.string (⟨#[]⟩ : ByteArray), .string (⟨#[]⟩ : ByteArray), .int .i64 0] HM rfl ?_; clear HM; intro gb214 w10 HM) | ((with_reducible refine gS 5 rfl ?_); refine pS 1 5 0 [.string ((rd_T67 l0_2 x12_2).f0), .string ((rd_T67 l0_2 x12_2).f1), .int .i64 ((rd_T67 l0_2 x12_2).f2)] HM rfl rfl ?_; clear HM; intro w11 HM; obtain ⟨z12_0, z12_1, z12_2, Z12_0, Z12_1, Z12_2⟩ := bk3 (HM.bx 1 rfl)) | ((with_reducible refine gC 28 rfl ?_); refine pC (some 19) rfl #[.int .i64 ((rd_T67 l0_2 x12_2).f2), .int .i64 0, .int .i64 x3_3] rfl Try.func28 (impl_within.calls ((rd_T67 l0_2 x12_2).f2) 0 x3_3 t215 _ A13.out) ?_; rintro e w14 ⟨rfl, hd⟩; refine ⟨_, rfl, ?_⟩; replace HM := HM.drawn hd; clear hd))
      replace HM := nzM HM
      replace H := IB H
      rcases H with ⟨c15, H⟩ | ⟨c15, H⟩
      ·subst c15
       have H' := Aside0.mk H
       clear H
       go_wp2
       go_roundg k2
       case measure => have := HJ3.out; have := HK2.out; omega
       case rel => exact ⟨(wrap64 (x12_2 + 1)), RS, H', ⟨by have := HJ3.out; have := HK2.out; omega⟩, (MD HM).pick [0]⟩
      ·subst c15
       obtain rfl := Option.some.inj H
       go_wp2
       go_ret
       exact ⟨ER, (MD HM).pick []⟩
     ·have c7b0 : decide (x12_2 < (l0_2.length : Int)) = false := decide_eq_false c7
      clear c7
      (first | rw [c7b0] | (simp only [i64_w, i32_w]; rw [c7b0]) | skip)
      replace H := BN H; obtain ⟨t216, A17, H⟩ := H
      replace H := IB H
      rcases H with ⟨c19, H⟩ | ⟨c19, H⟩
      ·subst c19
       replace H := BN H; obtain ⟨t217, A21, H⟩ := H
       replace H := IB H
       rcases H with ⟨c23, H⟩ | ⟨c23, H⟩
       ·subst c23
        replace H := IT H; rcases H with ⟨c25, H⟩ | ⟨c25, H⟩
        ·have c25b0 : decide ((l0_2.length : Int) ≤ a0_1) = true := decide_eq_true c25
         clear c25
         replace H := BN H; obtain ⟨t218, A26, H⟩ := H
         obtain rfl := Option.some.inj H
         obtain ⟨z16_0, z16_1, z16_2, Z16_0, Z16_1, Z16_2⟩ := bk3 (HM.bx 0 rfl)
         go_wp2_with (first | ((with_reducible refine gC 28 rfl ?_); refine pC (some 24) rfl #[.int .i64 a0_0, .int .i64 1, .int .i64 3] rfl Try.func28 (impl_within.calls a0_0 1 3 true _ A17.out) ?_; rintro e w18 ⟨rfl, hd⟩; refine ⟨_, rfl, ?_⟩; replace HM := HM.drawn hd; clear hd; obtain ⟨z20_0, z20_1, z20_2, Z20_0, Z20_1, Z20_2⟩ := bk3 (HM.bx 0 rfl)) | ((with_reducible refine gC 28 rfl ?_); refine pC (some 28) rfl #[.int .i64 a0_1, .int .i64 1, .int .i64 60] rfl Try.func28 (impl_within.calls a0_1 1 60 true _ A21.out) ?_; rintro e w22 ⟨rfl, hd⟩; refine ⟨_, rfl, ?_⟩; replace HM := HM.drawn hd; clear hd; obtain ⟨z24_0, z24_1, z24_2, Z24_0, Z24_1, Z24_2⟩ := bk3 (HM.bx 0 rfl)) | ((with_reducible refine gC 78 rfl ?_); refine pC (some 41) rfl #[.slice A0_2 l0_2.length c0_2] rfl Try.func78 (impl_areItems.calls k2 _ _ l0_2 t218 _ (HM.came HR0_2.out) HC0_2.out A26.out) ?_; rintro e w27 ⟨rfl, hR⟩; refine ⟨_, rfl, ?_⟩; replace HM := HM.call hR; clear hR))
         go_ret
         exact ⟨ER, (MD HM).pick []⟩
        ·have c25b0 : decide ((l0_2.length : Int) ≤ a0_1) = false := decide_eq_false c25
         clear c25
         obtain rfl := Option.some.inj H
         obtain ⟨z16_0, z16_1, z16_2, Z16_0, Z16_1, Z16_2⟩ := bk3 (HM.bx 0 rfl)
         go_wp2_with (first | ((with_reducible refine gC 28 rfl ?_); refine pC (some 24) rfl #[.int .i64 a0_0, .int .i64 1, .int .i64 3] rfl Try.func28 (impl_within.calls a0_0 1 3 true _ A17.out) ?_; rintro e w18 ⟨rfl, hd⟩; refine ⟨_, rfl, ?_⟩; replace HM := HM.drawn hd; clear hd; obtain ⟨z20_0, z20_1, z20_2, Z20_0, Z20_1, Z20_2⟩ := bk3 (HM.bx 0 rfl)) | ((with_reducible refine gC 28 rfl ?_); refine pC (some 28) rfl #[.int .i64 a0_1, .int .i64 1, .int .i64 60] rfl Try.func28 (impl_within.calls a0_1 1 60 true _ A21.out) ?_; rintro e w22 ⟨rfl, hd⟩; refine ⟨_, rfl, ?_⟩; replace HM := HM.drawn hd; clear hd; obtain ⟨z24_0, z24_1, z24_2, Z24_0, Z24_1, Z24_2⟩ := bk3 (HM.bx 0 rfl)))
         go_ret
         exact ⟨ER, (MD HM).pick []⟩
       ·subst c23
        obtain rfl := Option.some.inj H
        obtain ⟨z16_0, z16_1, z16_2, Z16_0, Z16_1, Z16_2⟩ := bk3 (HM.bx 0 rfl)
        go_wp2_with (first | ((with_reducible refine gC 28 rfl ?_); refine pC (some 24) rfl #[.int .i64 a0_0, .int .i64 1, .int .i64 3] rfl Try.func28 (impl_within.calls a0_0 1 3 true _ A17.out) ?_; rintro e w18 ⟨rfl, hd⟩; refine ⟨_, rfl, ?_⟩; replace HM := HM.drawn hd; clear hd; obtain ⟨z20_0, z20_1, z20_2, Z20_0, Z20_1, Z20_2⟩ := bk3 (HM.bx 0 rfl)) | ((with_reducible refine gC 28 rfl ?_); refine pC (some 28) rfl #[.int .i64 a0_1, .int .i64 1, .int .i64 60] rfl Try.func28 (impl_within.calls a0_1 1 60 false _ A21.out) ?_; rintro e w22 ⟨rfl, hd⟩; refine ⟨_, rfl, ?_⟩; replace HM := HM.drawn hd; clear hd))
        go_ret
        exact ⟨ER, (MD HM).pick []⟩
      ·subst c19
       obtain rfl := Option.some.inj H
       obtain ⟨z16_0, z16_1, z16_2, Z16_0, Z16_1, Z16_2⟩ := bk3 (HM.bx 0 rfl)
       go_wp2_with (first | ((with_reducible refine gC 28 rfl ?_); refine pC (some 24) rfl #[.int .i64 a0_0, .int .i64 1, .int .i64 3] rfl Try.func28 (impl_within.calls a0_0 1 3 false _ A17.out) ?_; rintro e w18 ⟨rfl, hd⟩; refine ⟨_, rfl, ?_⟩; replace HM := HM.drawn hd; clear hd))
       go_ret
       exact ⟨ER, (MD HM).pick []⟩
def impl_RowNew.f (k : Nat) (a0 : Int) (a1 : Int) : Option (Int × Int × (List (S67)) × Bool) := (impl_RowOk.f k a0 a1 ([] : List (S67))).bind fun t221 => (if t221 = true then (some (a0, a1, ([] : List (S67)), true)) else (some (0, 0, ([] : List (S67)), false)))
set_option maxHeartbeats 8000000 in
set_option maxRecDepth 100000 in
theorem impl_RowNew.calls (k : Nat) (a0 : Int) (a1 : Int) (r1 : Int) (r2 : Int) (r3 : List (S67)) (r4 : Bool) (w : World)  (h : impl_RowNew.f k a0 a1 = some (r1, r2, r3, r4)) :
  Calls Try.prog 44 #[.int .i64 a0, .int .i64 a1] w fun e w' => ∃ v2_ : Value, e = .returned (.tuple #[.agg #[.int .i64 r1, .int .i64 r2, v2_], .bool r4]) ∧ Mem w [] w' [rowR k67 67 v2_ r3] := by
 have hu75 := Try.underlying75
 have HM := Mem.nil w
 have H := h
 clear h
 unfold impl_RowNew.f at H
 go_enter Try.func44, Try.ntmps44
 replace H := BN H; obtain ⟨t221, A7, H⟩ := H
 go_upto_if 12 with (first | ((with_reducible refine gN 4 rfl ?_); refine pB 4 75 [.int .i64 0, .int .i64 0, .slice none 0 0] HM rfl ?_; clear HM; intro gb219 w3 HM) | ((with_reducible refine gN 6 rfl ?_); refine pB 6 75 [.int .i64 0, .int .i64 0, .slice none 0 0] HM rfl ?_; clear HM; intro gb220 w4 HM) | ((with_reducible refine gS 6 rfl ?_); refine pS 1 6 0 [.int .i64 a0, .int .i64 a1, .slice none 0 0] HM rfl rfl ?_; clear HM; intro w5 HM; obtain ⟨z6_0, z6_1, z6_2, Z6_0, Z6_1, Z6_2⟩ := bk3 (HM.bx 1 rfl)) | ((with_reducible refine gC 60 rfl ?_); refine pC (some 11) rfl #[.agg #[.int .i64 a0, .int .i64 a1, .slice none 0 0]] rfl Try.func60 (impl_RowOk.calls k a0 a1 _ _ ([] : List (S67)) t221 _ (Kd.C_nil _ _) (Nat.le_refl _) A7.out) ?_; rintro e w8 ⟨rfl, hR⟩; refine ⟨_, rfl, ?_⟩; replace HM := HM.call hR; clear hR))
 replace HM := nzM HM
 replace H := IB H
 rcases H with ⟨c9, H⟩ | ⟨c9, H⟩
 ·subst c9
  simp only [Option.some.injEq, Prod.mk.injEq] at H
  obtain ⟨rfl, rfl, rfl, rfl⟩ := H
  obtain ⟨z10_0, z10_1, z10_2, Z10_0, Z10_1, Z10_2⟩ := bk3 (HM.bx 1 rfl)
  go_wp2_with (first | ((with_reducible refine gS 4 rfl ?_); refine pS 0 4 0 [.int .i64 a0, .int .i64 a1, .slice none 0 0] HM rfl rfl ?_; clear HM; intro w11 HM; replace HM := HM.nl k67 67))
  refine bodyPost_ret (results_ct rfl _ _ gb219 75 #[.int .i64 a0, .int .i64 a1, .slice none 0 0] (0, 0) _ rfl (HM.bx 0 rfl) Try.underlying75 rfl (by kernel_rfl)) rfl ?_
  exact ⟨_, ER, (MD HM).pick [2]⟩
 ·subst c9
  simp only [Option.some.injEq, Prod.mk.injEq] at H
  obtain ⟨rfl, rfl, rfl, rfl⟩ := H
  go_wp2_with (first | ((with_reducible refine gS 4 rfl ?_); refine pS 0 4 0 [.int .i64 0, .int .i64 0, .slice none 0 0] HM rfl rfl ?_; clear HM; intro w12 HM; replace HM := HM.nl k67 67))
  refine bodyPost_ret (results_ct rfl _ _ gb219 75 #[.int .i64 0, .int .i64 0, .slice none 0 0] (0, 0) _ rfl (HM.bx 0 rfl) Try.underlying75 rfl (by kernel_rfl)) rfl ?_
  exact ⟨_, ER, (MD HM).pick [2]⟩
def impl_SetupOk.f (k : Nat) (a0_0 : Int) (a0_1 : Int) (a0_2 : Int) : Option (Bool) := if a0_0 = 4 then ((impl_ThreeNew.f k a0_1 a0_2).bind fun bt225 => (some bt225.2.2.2.2.2)) else ((impl_RowNew.f k a0_0 a0_1).bind fun bt238 => (if bt238.2.2.2 = true then (some (a0_2 == 0)) else (some false)))
set_option maxHeartbeats 8000000 in
set_option maxRecDepth 100000 in
theorem impl_SetupOk.calls (k : Nat) (a0_0 : Int) (a0_1 : Int) (a0_2 : Int) (r : Bool) (w : World)  (h : impl_SetupOk.f k a0_0 a0_1 a0_2 = some r) :
  Calls Try.prog 30 #[.agg #[.int .i64 a0_0, .int .i64 a0_1, .int .i64 a0_2]] w fun e w' => e = .returned (.bool r) ∧ Mem w [] w' [] := by
 have hu31 := Try.underlying31
 have hu71 := Try.underlying71
 have hu75 := Try.underlying75
 have HM := Mem.nil w
 have H := h
 clear h
 unfold impl_SetupOk.f at H
 go_enter Try.func30, Try.ntmps30
 go_upto_if 9 with (first | ((with_reducible refine gN 1 rfl ?_); refine pB 1 31 [.int .i64 a0_0, .int .i64 a0_1, .int .i64 a0_2] HM rfl ?_; clear HM; intro gb224 w2 HM; obtain ⟨z3_0, z3_1, z3_2, Z3_0, Z3_1, Z3_2⟩ := bk3 (HM.bx 0 rfl)))
 replace H := IT H; rcases H with ⟨c4, H⟩ | ⟨c4, H⟩
 ·have c4b0 : (a0_0 == 4) = true := beq_iff_eq.mpr c4
  have c4b1 : (a0_0 != 4) = false := bne_eq_false_iff_eq.mpr c4
  clear c4
  (first | rw [c4b0] | (simp only [i64_w, i32_w]; rw [c4b0]) | skip)
  replace H := BN H; obtain ⟨⟨t225, t226, t227, t230, t233, t236⟩, A5, H⟩ := H
  obtain rfl := Option.some.inj H
  go_wp2_with (first | ((with_reducible refine gC 43 rfl ?_); refine pC (some 15) rfl #[.int .i64 a0_1, .int .i64 a0_2] rfl Try.func43 (impl_ThreeNew.calls k a0_1 a0_2 t225 t226 t227 t230 t233 t236 _ A5.out) ?_; rintro e w6 ⟨v228, v231, v234, rfl, hR⟩; refine ⟨_, rfl, ?_⟩; replace HM := HM.call hR; clear hR) | ((with_reducible refine gN 3 rfl ?_); refine pB 3 71 [.int .i64 0, .int .i64 0, .slice none 0 0, .slice none 0 0, .slice none 0 0] HM rfl ?_; clear HM; intro gb237 w7 HM; obtain ⟨Xo8, ko8, eo8⟩ := HM.rdR 1 rfl; subst eo8; obtain ⟨Xo9, ko9, eo9⟩ := HM.rdR 2 rfl; subst eo9; obtain ⟨Xo10, ko10, eo10⟩ := HM.rdR 3 rfl; subst eo10) | ((with_reducible refine gS 3 rfl ?_); refine pS 4 3 0 [.int .i64 t225, .int .i64 t226, .slice Xo8 t227.length ko8, .slice Xo9 t230.length ko9, .slice Xo10 t233.length ko10] HM rfl rfl ?_; clear HM; intro w11 HM))
  go_ret
  exact ⟨ER, (MD HM).pick []⟩
 ·have c4b0 : (a0_0 == 4) = false := beq_eq_false_iff_ne.mpr c4
  have c4b1 : (a0_0 != 4) = true := bne_iff_ne.mpr c4
  (first | rw [c4b0] | (simp only [i64_w, i32_w]; rw [c4b0]) | skip)
  replace H := BN H; obtain ⟨⟨t238, t239, t240, t243⟩, A12, H⟩ := H
  replace H := IB H
  rcases H with ⟨c17, H⟩ | ⟨c17, H⟩
  ·subst c17
   obtain rfl := Option.some.inj H
   go_wp2_with (first | ((with_reducible refine gC 44 rfl ?_); refine pC (some 24) rfl #[.int .i64 a0_0, .int .i64 a0_1] rfl Try.func44 (impl_RowNew.calls k a0_0 a0_1 t238 t239 t240 true _ A12.out) ?_; rintro e w13 ⟨v241, rfl, hR⟩; refine ⟨_, rfl, ?_⟩; replace HM := HM.call hR; clear hR) | ((with_reducible refine gN 5 rfl ?_); refine pB 5 75 [.int .i64 0, .int .i64 0, .slice none 0 0] HM rfl ?_; clear HM; intro gb244 w14 HM; obtain ⟨Xo15, ko15, eo15⟩ := HM.rdR 1 rfl; subst eo15) | ((with_reducible refine gS 5 rfl ?_); refine pS 2 5 0 [.int .i64 t238, .int .i64 t239, .slice Xo15 t240.length ko15] HM rfl rfl ?_; clear HM; intro w16 HM; obtain ⟨z18_0, z18_1, z18_2, Z18_0, Z18_1, Z18_2⟩ := bk3 (HM.bx 0 rfl)))
   go_ret
   exact ⟨ER, (MD HM).pick []⟩
  ·subst c17
   obtain rfl := Option.some.inj H
   go_wp2_with (first | ((with_reducible refine gC 44 rfl ?_); refine pC (some 24) rfl #[.int .i64 a0_0, .int .i64 a0_1] rfl Try.func44 (impl_RowNew.calls k a0_0 a0_1 t238 t239 t240 false _ A12.out) ?_; rintro e w13 ⟨v241, rfl, hR⟩; refine ⟨_, rfl, ?_⟩; replace HM := HM.call hR; clear hR) | ((with_reducible refine gN 5 rfl ?_); refine pB 5 75 [.int .i64 0, .int .i64 0, .slice none 0 0] HM rfl ?_; clear HM; intro gb244 w14 HM; obtain ⟨Xo15, ko15, eo15⟩ := HM.rdR 1 rfl; subst eo15) | ((with_reducible refine gS 5 rfl ?_); refine pS 2 5 0 [.int .i64 t238, .int .i64 t239, .slice Xo15 t240.length ko15] HM rfl rfl ?_; clear HM; intro w16 HM))
   go_ret
   exact ⟨ER, (MD HM).pick []⟩
def impl_cacheOf.f (k : Nat) (a0_0 : Int) (a0_1 : Int) (a0_2 : Int) : Option (Int × Int × (List (S67)) × Int × Int × (List (S67)) × (List (S67)) × List Int) := if a0_0 = 4 then ((impl_ThreeNew.f k a0_1 a0_2).bind fun bt247 => (some (0, 0, ([] : List (S67)), bt247.1, bt247.2.1, bt247.2.2.1, bt247.2.2.2.1, bt247.2.2.2.2.1))) else ((impl_RowNew.f k a0_0 a0_1).bind fun bt259 => (some (bt259.1, bt259.2.1, bt259.2.2.1, 0, 0, ([] : List (S67)), ([] : List (S67)), ([] : List Int))))
set_option maxHeartbeats 8000000 in
set_option maxRecDepth 100000 in
theorem impl_cacheOf.calls (k : Nat) (a0_0 : Int) (a0_1 : Int) (a0_2 : Int) (r1 : Int) (r2 : Int) (r3 : List (S67)) (r4 : Int) (r5 : Int) (r6 : List (S67)) (r7 : List (S67)) (r8 : List Int) (w : World)  (h : impl_cacheOf.f k a0_0 a0_1 a0_2 = some (r1, r2, r3, r4, r5, r6, r7, r8)) :
  Calls Try.prog 45 #[.agg #[.int .i64 a0_0, .int .i64 a0_1, .int .i64 a0_2]] w fun e w' => ∃ v2_ v5_ v6_ v7_ : Value, ∃ g_ : Nat, e = .returned (.pointer (some ⟨g_, 0, none⟩)) ∧ Mem w [] w' [rowR k67 67 v2_ r3, rowR k67 67 v5_ r6, rowR k67 67 v6_ r7, rowR (Kd.int .i64) 3 v7_ r8, box 95 g_ [.int .i64 r1, .int .i64 r2, v2_, .int .i64 r4, .int .i64 r5, v5_, v6_, v7_]] := by
 have hu31 := Try.underlying31
 have hu95 := Try.underlying95
 have hu71 := Try.underlying71
 have hu75 := Try.underlying75
 have HM := Mem.nil w
 have H := h
 clear h
 unfold impl_cacheOf.f at H
 go_enter Try.func45, Try.ntmps45
 go_upto_if 8 with (first | ((with_reducible refine gN 1 rfl ?_); refine pB 1 31 [.int .i64 a0_0, .int .i64 a0_1, .int .i64 a0_2] HM rfl ?_; clear HM; intro gb245 w2 HM) | ((with_reducible refine gN 5 rfl ?_); refine pB 5 95 [.int .i64 0, .int .i64 0, .slice none 0 0, .int .i64 0, .int .i64 0, .slice none 0 0, .slice none 0 0, .slice none 0 0] HM rfl ?_; clear HM; intro gb246 w3 HM; obtain ⟨z4_0, z4_1, z4_2, Z4_0, Z4_1, Z4_2⟩ := bk3 (HM.bx 0 rfl)))
 replace HM := nzM HM
 replace H := IT H; rcases H with ⟨c5, H⟩ | ⟨c5, H⟩
 ·have c5b0 : (a0_0 == 4) = true := beq_iff_eq.mpr c5
  have c5b1 : (a0_0 != 4) = false := bne_eq_false_iff_eq.mpr c5
  clear c5
  (first | rw [c5b0] | (simp only [i64_w, i32_w]; rw [c5b0]) | skip)
  replace H := BN H; obtain ⟨⟨t247, t248, t249, t252, t255, t258⟩, A6, H⟩ := H
  simp only [Option.some.injEq, Prod.mk.injEq] at H
  obtain ⟨rfl, rfl, rfl, rfl, rfl, rfl, rfl, rfl⟩ := H
  go_wp2_with (first | ((with_reducible refine gC 43 rfl ?_); refine pC (some 15) rfl #[.int .i64 a0_1, .int .i64 a0_2] rfl Try.func43 (impl_ThreeNew.calls k a0_1 a0_2 t247 t248 t249 t252 t255 t258 _ A6.out) ?_; rintro e w7 ⟨v250, v253, v256, rfl, hR⟩; refine ⟨_, rfl, ?_⟩; replace HM := HM.call hR; clear hR; obtain ⟨Xo8, ko8, eo8⟩ := HM.rdR 2 rfl; subst eo8; obtain ⟨Xo9, ko9, eo9⟩ := HM.rdR 3 rfl; subst eo9; obtain ⟨Xo10, ko10, eo10⟩ := HM.rdR 4 rfl; subst eo10) | ((with_reducible refine gS 19 rfl ?_); refine pS 1 19 3 [.int .i64 t247, .int .i64 t248, .slice Xo8 t249.length ko8, .slice Xo9 t252.length ko9, .slice Xo10 t255.length ko10] HM rfl rfl ?_; clear HM; intro w11 HM; replace HM := HM.nl k67 67))
  go_ret
  exact ⟨_, _, _, _, _, ER, (MD HM).pick [5, 2, 3, 4, 1]⟩
 ·have c5b0 : (a0_0 == 4) = false := beq_eq_false_iff_ne.mpr c5
  have c5b1 : (a0_0 != 4) = true := bne_iff_ne.mpr c5
  (first | rw [c5b0] | (simp only [i64_w, i32_w]; rw [c5b0]) | skip)
  replace H := BN H; obtain ⟨⟨t259, t260, t261, t264⟩, A12, H⟩ := H
  simp only [Option.some.injEq, Prod.mk.injEq] at H
  obtain ⟨rfl, rfl, rfl, rfl, rfl, rfl, rfl, rfl⟩ := H
  go_wp2_with (first | ((with_reducible refine gC 44 rfl ?_); refine pC (some 26) rfl #[.int .i64 a0_0, .int .i64 a0_1] rfl Try.func44 (impl_RowNew.calls k a0_0 a0_1 t259 t260 t261 t264 _ A12.out) ?_; rintro e w13 ⟨v262, rfl, hR⟩; refine ⟨_, rfl, ?_⟩; replace HM := HM.call hR; clear hR; obtain ⟨Xo14, ko14, eo14⟩ := HM.rdR 2 rfl; subst eo14) | ((with_reducible refine gS 30 rfl ?_); refine pS 1 30 0 [.int .i64 t259, .int .i64 t260, .slice Xo14 t261.length ko14] HM rfl rfl ?_; clear HM; intro w15 HM; replace HM := HM.nl k67 67; replace HM := HM.nl k67 67; replace HM := HM.nl (Kd.int .i64) 3))
  go_ret
  exact ⟨_, _, _, _, _, ER, (MD HM).pick [2, 3, 4, 5, 1]⟩
def impl_copyInts.f (l0 : List Int) : Option (List Int) := if ([] : List Int).length + l0.length < 17592186044416 then (some (([] : List Int) ++ l0)) else (none)
set_option maxHeartbeats 8000000 in
set_option maxRecDepth 100000 in
theorem impl_copyInts.calls (A0 : Option Addr) (c0 : Nat) (l0 : List Int) (r : List Int) (w : World) (hr0 : Kd.C (Kd.int .i64) w A0 l0.length l0) (hc0 : l0.length ≤ c0) (h : impl_copyInts.f l0 = some r) :
  Calls Try.prog 97 #[.slice A0 l0.length c0] w fun e w' => ∃ v0_ : Value, e = .returned (v0_) ∧ Mem w [] w' [rowR (Kd.int .i64) 3 v0_ r] := by
 have HR0 := Aside0.mk hr0
 have HC0 := Aside0.mk hc0
 clear hr0 hc0
 have HM := Mem.nil w
 have H := h
 clear h
 unfold impl_copyInts.f at H
 go_enter Try.func97, Try.ntmps97
 replace H := GD H; obtain ⟨c2, H⟩ := H
 have LMc2 := Aside0.mk c2
 clear c2
 obtain rfl := Option.some.inj H
 go_wp2_with (first | ((with_reducible refine gate_builtin (b := .append) (xs := #[.const (.slice none 0 0), .tmp 3]) rfl ?_); refine pAn (.const (.slice none 0 0)) (.tmp 3) 69 3 (Kd.int .i64) l0 A0 l0.length c0 HM rfl Try.underlying69 info3 (HM.came HR0.out) (by have h_ := LMc2.out; omega) ?_; clear HM; intro v270 w3 HM))
 go_ret
 exact ⟨_, ER, (MD HM).pick [0]⟩
def impl_copyThree.f (a0_0 : Int) (a0_1 : Int) (l0_2 : List (S67)) (l0_3 : List (S67)) (l0_4 : List Int) : Option (Int × Int × (List (S67)) × (List (S67)) × List Int) := (impl_copyItems.f l0_2).bind fun t274 => ((impl_copyItems.f l0_3).bind fun t277 => ((impl_copyInts.f l0_4).bind fun t280 => (some (a0_0, a0_1, t274, t277, t280))))
def impl_copyThree.T1 : Bool × List (List Nat × List Nat) := (true, [([], []), ([0], [0]), ([], []), ([2], [2]), ([], []), ([4], [4]), ([5], [5]), ([], []), ([7], [7]), ([8, 6], [8]), ([], []), ([10], [10]), ([11, 9], [11]), ([1, 3, 6, 9, 12], [1, 3, 6, 9, 12]), ([13, 12, 0, 1, 2, 3, 4, 5, 6, 7, 8, 9, 10, 11, 12, 13], [13])])
def impl_copyThree.B1 : List Nat := [0, 1, 0, 4, 0, 16, 48, 0, 128, 496, 0, 1024, 4080, 8191, 16383]
theorem impl_copyThree.tab1 : rtab .any (opsOf Try.f79 1) = impl_copyThree.T1 := by kernel_rfl
theorem impl_copyThree.bits1 : waitsOk impl_copyThree.T1.2 impl_copyThree.B1 = true := by kernel_rfl
set_option maxHeartbeats 8000000 in
set_option maxRecDepth 100000 in
theorem impl_copyThree.calls (a0_0 : Int) (a0_1 : Int) (A0_2 : Option Addr) (c0_2 : Nat) (l0_2 : List (S67)) (A0_3 : Option Addr) (c0_3 : Nat) (l0_3 : List (S67)) (A0_4 : Option Addr) (c0_4 : Nat) (l0_4 : List Int) (r1 : Int) (r2 : Int) (r3 : List (S67)) (r4 : List (S67)) (r5 : List Int) (w : World) (hr0_2 : Kd.C k67 w A0_2 l0_2.length l0_2) (hc0_2 : l0_2.length ≤ c0_2) (hr0_3 : Kd.C k67 w A0_3 l0_3.length l0_3) (hc0_3 : l0_3.length ≤ c0_3) (hr0_4 : Kd.C (Kd.int .i64) w A0_4 l0_4.length l0_4) (hc0_4 : l0_4.length ≤ c0_4) (h : impl_copyThree.f a0_0 a0_1 l0_2 l0_3 l0_4 = some (r1, r2, r3, r4, r5)) :
  Calls Try.prog 79 #[.agg #[.int .i64 a0_0, .int .i64 a0_1, .slice A0_2 l0_2.length c0_2, .slice A0_3 l0_3.length c0_3, .slice A0_4 l0_4.length c0_4]] w fun e w' => ∃ v2_ v3_ v4_ : Value, e = .returned (.agg #[.int .i64 r1, .int .i64 r2, v2_, v3_, v4_]) ∧ Mem w [] w' [rowR k67 67 v2_ r3, rowR k67 67 v3_ r4, rowR (Kd.int .i64) 3 v4_ r5] := by
 have hu71 := Try.underlying71
 have HR0_2 := Aside0.mk hr0_2
 have HC0_2 := Aside0.mk hc0_2
 clear hr0_2 hc0_2
 have HR0_3 := Aside0.mk hr0_3
 have HC0_3 := Aside0.mk hc0_3
 clear hr0_3 hc0_3
 have HR0_4 := Aside0.mk hr0_4
 have HC0_4 := Aside0.mk hc0_4
 clear hr0_4 hc0_4
 have HM := Mem.nil w
 have H := h
 clear h
 unfold impl_copyThree.f at H
 go_enter Try.func79, Try.ntmps79
 try go_wp2_with (first | ((with_reducible refine gN 1 rfl ?_); refine pB 1 71 [.int .i64 a0_0, .int .i64 a0_1, .slice A0_2 l0_2.length c0_2, .slice A0_3 l0_3.length c0_3, .slice A0_4 l0_4.length c0_4] HM rfl ?_; clear HM; intro gb272 w2 HM) | ((with_reducible refine gN 2 rfl ?_); refine pB 2 71 [.int .i64 0, .int .i64 0, .slice none 0 0, .slice none 0 0, .slice none 0 0] HM rfl ?_; clear HM; intro gb273 w3 HM))
 replace H := BN H; obtain ⟨t274, A4, H⟩ := H
 replace H := BN H; obtain ⟨t277, A5, H⟩ := H
 replace H := BN H; obtain ⟨t280, A6, H⟩ := H
 refine RGN 15 [0, 1, 2, 3, 4, 5, 6, 7, 8, 9, 10, 11, 12, 13, 14] (fun a0 b a w' => ∃ (v275 : Value) (v278 : Value) (v281 : Value), a = putSel a0 b [(0, 3, .pointer (some ⟨gb272, 0, none⟩)), (1, 4, .int .i64 a0_0), (2, 5, .pointer (some ⟨gb272, 1, none⟩)), (3, 6, .int .i64 a0_1), (4, 7, .pointer (some ⟨gb272, 2, none⟩)), (5, 8, .slice A0_2 l0_2.length c0_2), (6, 9, v275), (7, 10, .pointer (some ⟨gb272, 3, none⟩)), (8, 11, .slice A0_3 l0_3.length c0_3), (9, 12, v278), (10, 13, .pointer (some ⟨gb272, 4, none⟩)), (11, 14, .slice A0_4 l0_4.length c0_4), (12, 15, v281), (13, 16, .agg #[.int .i64 a0_0, .int .i64 a0_1, v275, v278, v281])] ∧ Mem w [] w' [box 71 gb272 [.int .i64 a0_0, .int .i64 a0_1, .slice A0_2 l0_2.length c0_2, .slice A0_3 l0_3.length c0_3, .slice A0_4 l0_4.length c0_4], sel (b 14) (box 71 gb273 [.int .i64 a0_0, .int .i64 a0_1, v275, v278, v281]) (box 71 gb273 [.int .i64 0, .int .i64 0, .slice none 0 0, .slice none 0 0, .slice none 0 0]), sel (b 6) (rowR k67 67 v275 t274) (emp), sel (b 9) (rowR k67 67 v278 t277) (emp), sel (b 12) (rowR (Kd.int .i64) 3 v281 t280) (emp)]) impl_copyThree.tab1 impl_copyThree.bits1 ?_ ?_ ?_
 ·exact ⟨.bool false, .bool false, .bool false, PS0' rfl _, (HM.drew.ems 3).pick [0, 1, 2, 3, 4]⟩
 ·clear HM
  refine steps_cons ?_ ?_
  ·rintro b a w ⟨v275, v278, v281, ha, HM⟩ hb hon hoff
   refine ⟨_, rfl, fun K hK => ?_⟩
   replace ha := Aside0.mk ha
   have e1 := PG ha 1
   exact VL (.pointer (some ⟨gb272, 0, none⟩)) (hK.out _ _ ⟨v275, v278, v281, PUT ha 0 hb, HM⟩)
  refine steps_cons ?_ ?_
  ·rintro b a w ⟨v275, v278, v281, ha, HM⟩ hb hon hoff
   refine ⟨_, rfl, fun K hK => ?_⟩
   replace ha := Aside0.mk ha
   obtain ⟨z22_0, z22_1, z22_2, z22_3, z22_4, Z22_0, Z22_1, Z22_2, Z22_3, Z22_4⟩ := bk5 (HM.bx 0 rfl)
   have e3 := PE ha 0 hon
   exact VL (.int .i64 a0_0) (hK.out _ _ ⟨v275, v278, v281, PUT ha 1 hb, HM⟩)
  refine steps_cons ?_ ?_
  ·rintro b a w ⟨v275, v278, v281, ha, HM⟩ hb hon hoff
   refine ⟨_, rfl, fun K hK => ?_⟩
   replace ha := Aside0.mk ha
   have e1 := PG ha 1
   exact VL (.pointer (some ⟨gb272, 1, none⟩)) (hK.out _ _ ⟨v275, v278, v281, PUT ha 2 hb, HM⟩)
  refine steps_cons ?_ ?_
  ·rintro b a w ⟨v275, v278, v281, ha, HM⟩ hb hon hoff
   refine ⟨_, rfl, fun K hK => ?_⟩
   replace ha := Aside0.mk ha
   obtain ⟨z23_0, z23_1, z23_2, z23_3, z23_4, Z23_0, Z23_1, Z23_2, Z23_3, Z23_4⟩ := bk5 (HM.bx 0 rfl)
   have e5 := PE ha 2 hon
   exact VL (.int .i64 a0_1) (hK.out _ _ ⟨v275, v278, v281, PUT ha 3 hb, HM⟩)
  refine steps_cons ?_ ?_
  ·rintro b a w ⟨v275, v278, v281, ha, HM⟩ hb hon hoff
   refine ⟨_, rfl, fun K hK => ?_⟩
   replace ha := Aside0.mk ha
   have e1 := PG ha 1
   exact VL (.pointer (some ⟨gb272, 2, none⟩)) (hK.out _ _ ⟨v275, v278, v281, PUT ha 4 hb, HM⟩)
  refine steps_cons ?_ ?_
  ·rintro b a w ⟨v275, v278, v281, ha, HM⟩ hb hon hoff
   refine ⟨_, rfl, fun K hK => ?_⟩
   replace ha := Aside0.mk ha
   obtain ⟨z24_0, z24_1, z24_2, z24_3, z24_4, Z24_0, Z24_1, Z24_2, Z24_3, Z24_4⟩ := bk5 (HM.bx 0 rfl)
   have e7 := PE ha 4 hon
   exact VL (.slice A0_2 l0_2.length c0_2) (hK.out _ _ ⟨v275, v278, v281, PUT ha 5 hb, HM⟩)
  refine steps_cons ?_ ?_
  ·rintro b a w ⟨v275, v278, v281, ha, HM⟩ hb hon hoff
   refine ⟨_, rfl, fun K hK => ?_⟩
   replace ha := Aside0.mk ha
   have e8 := PE ha 5 hon
   refine ST (eC (some 9) rfl #[.slice A0_2 l0_2.length c0_2] rfl Try.func77 (impl_copyItems.calls _ _ l0_2 t274 _ (HM.came HR0_2.out) HC0_2.out A4.out) ?_ (hargs := by (simp only [List.map_toArray, List.map_cons, List.map_nil, evc, eval_of e8]) <;> rfl))
   rintro e w25 ⟨v275, rfl, hR⟩
   refine ⟨_, rfl, ?_⟩
   replace HM := HM.call hR
   clear hR
   exact hK.out _ _ ⟨v275, v278, v281, PUT (PCH ha 13 (hoff 13 (by kernel_rfl))) 6 hb, ((HM.sF 1 rfl (hoff 14 (by kernel_rfl))).iF 1 rfl (hoff 14 (by kernel_rfl))).pick [0, 1, 5, 3, 4]⟩
  refine steps_cons ?_ ?_
  ·rintro b a w ⟨v275, v278, v281, ha, HM⟩ hb hon hoff
   refine ⟨_, rfl, fun K hK => ?_⟩
   replace ha := Aside0.mk ha
   have e1 := PG ha 1
   exact VL (.pointer (some ⟨gb272, 3, none⟩)) (hK.out _ _ ⟨v275, v278, v281, PUT ha 7 hb, HM⟩)
  refine steps_cons ?_ ?_
  ·rintro b a w ⟨v275, v278, v281, ha, HM⟩ hb hon hoff
   refine ⟨_, rfl, fun K hK => ?_⟩
   replace ha := Aside0.mk ha
   obtain ⟨z26_0, z26_1, z26_2, z26_3, z26_4, Z26_0, Z26_1, Z26_2, Z26_3, Z26_4⟩ := bk5 (HM.bx 0 rfl)
   have e10 := PE ha 7 hon
   exact VL (.slice A0_3 l0_3.length c0_3) (hK.out _ _ ⟨v275, v278, v281, PUT ha 8 hb, HM⟩)
  refine steps_cons ?_ ?_
  ·rintro b a w ⟨v275, v278, v281, ha, HM⟩ hb hon hoff
   refine ⟨_, rfl, fun K hK => ?_⟩
   replace ha := Aside0.mk ha
   have e11 := PE ha 8 hon
   refine ST (eC (some 12) rfl #[.slice A0_3 l0_3.length c0_3] rfl Try.func77 (impl_copyItems.calls _ _ l0_3 t277 _ (HM.came HR0_3.out) HC0_3.out A5.out) ?_ (hargs := by (simp only [List.map_toArray, List.map_cons, List.map_nil, evc, eval_of e11]) <;> rfl))
   rintro e w27 ⟨v278, rfl, hR⟩
   refine ⟨_, rfl, ?_⟩
   replace HM := HM.call hR
   clear hR
   exact hK.out _ _ ⟨v275, v278, v281, PUT (PCH ha 13 (hoff 13 (by kernel_rfl))) 9 hb, ((HM.sF 1 rfl (hoff 14 (by kernel_rfl))).iF 1 rfl (hoff 14 (by kernel_rfl))).pick [0, 1, 2, 5, 4]⟩
  refine steps_cons ?_ ?_
  ·rintro b a w ⟨v275, v278, v281, ha, HM⟩ hb hon hoff
   refine ⟨_, rfl, fun K hK => ?_⟩
   replace ha := Aside0.mk ha
   have e1 := PG ha 1
   exact VL (.pointer (some ⟨gb272, 4, none⟩)) (hK.out _ _ ⟨v275, v278, v281, PUT ha 10 hb, HM⟩)
  refine steps_cons ?_ ?_
  ·rintro b a w ⟨v275, v278, v281, ha, HM⟩ hb hon hoff
   refine ⟨_, rfl, fun K hK => ?_⟩
   replace ha := Aside0.mk ha
   obtain ⟨z28_0, z28_1, z28_2, z28_3, z28_4, Z28_0, Z28_1, Z28_2, Z28_3, Z28_4⟩ := bk5 (HM.bx 0 rfl)
   have e13 := PE ha 10 hon
   exact VL (.slice A0_4 l0_4.length c0_4) (hK.out _ _ ⟨v275, v278, v281, PUT ha 11 hb, HM⟩)
  refine steps_cons ?_ ?_
  ·rintro b a w ⟨v275, v278, v281, ha, HM⟩ hb hon hoff
   refine ⟨_, rfl, fun K hK => ?_⟩
   replace ha := Aside0.mk ha
   have e14 := PE ha 11 hon
   refine ST (eC (some 15) rfl #[.slice A0_4 l0_4.length c0_4] rfl Try.func97 (impl_copyInts.calls _ _ l0_4 t280 _ (HM.came HR0_4.out) HC0_4.out A6.out) ?_ (hargs := by (simp only [List.map_toArray, List.map_cons, List.map_nil, evc, eval_of e14]) <;> rfl))
   rintro e w29 ⟨v281, rfl, hR⟩
   refine ⟨_, rfl, ?_⟩
   replace HM := HM.call hR
   clear hR
   exact hK.out _ _ ⟨v275, v278, v281, PUT (PCH ha 13 (hoff 13 (by kernel_rfl))) 12 hb, ((HM.sF 1 rfl (hoff 14 (by kernel_rfl))).iF 1 rfl (hoff 14 (by kernel_rfl))).pick [0, 1, 2, 3, 5]⟩
  refine steps_cons ?_ ?_
  ·rintro b a w ⟨v275, v278, v281, ha, HM⟩ hb hon hoff
   refine ⟨_, rfl, fun K hK => ?_⟩
   replace ha := Aside0.mk ha
   have HZ := HM
   replace HM := HM.sT 2 rfl (hon 6 (by kernel_rfl))
   replace HM := HM.sT 3 rfl (hon 9 (by kernel_rfl))
   replace HM := HM.sT 4 rfl (hon 12 (by kernel_rfl))
   obtain ⟨Xo30, ko30, eo30⟩ := HM.rdR 4 rfl
   subst eo30
   obtain ⟨Xo31, ko31, eo31⟩ := HM.rdR 3 rfl
   subst eo31
   obtain ⟨Xo32, ko32, eo32⟩ := HM.rdR 2 rfl
   subst eo32
   have e4 := PE ha 1 hon
   have e6 := PE ha 3 hon
   have e9 := PE ha 6 hon
   have e12 := PE ha 9 hon
   have e15 := PE ha 12 hon
   exact VL (.agg #[.int .i64 a0_0, .int .i64 a0_1, .slice Xo32 t274.length ko32, .slice Xo31 t277.length ko31, .slice Xo30 t280.length ko30]) (hK.out _ _ ⟨.slice Xo32 t274.length ko32, .slice Xo31 t277.length ko31, .slice Xo30 t280.length ko30, PUT ha 13 hb, HZ⟩)
  refine steps_cons ?_ ?_
  ·rintro b a w ⟨v275, v278, v281, ha, HM⟩ hb hon hoff
   refine ⟨_, rfl, fun K hK => ?_⟩
   replace ha := Aside0.mk ha
   replace HM := HM.sF 1 rfl hb
   replace HM := HM.sT 2 rfl (hon 6 (by kernel_rfl))
   replace HM := HM.sT 3 rfl (hon 9 (by kernel_rfl))
   replace HM := HM.sT 4 rfl (hon 12 (by kernel_rfl))
   obtain ⟨Xo33, ko33, eo33⟩ := HM.rdR 2 rfl
   subst eo33
   obtain ⟨Xo34, ko34, eo34⟩ := HM.rdR 3 rfl
   subst eo34
   obtain ⟨Xo35, ko35, eo35⟩ := HM.rdR 4 rfl
   subst eo35
   have e2 := PG ha 2
   have e16 := PE ha 13 hon
   refine ST (eS 1 2 0 [.int .i64 a0_0, .int .i64 a0_1, .slice Xo33 t274.length ko33, .slice Xo34 t277.length ko34, .slice Xo35 t280.length ko35] HM rfl rfl ?_ (hp := (eval_of e2)) (hx := (by rw [eval_of e16]; rfl)))
   clear HM
   intro w36 HM
   exact hK.out _ _ ⟨.slice Xo33 t274.length ko33, .slice Xo34 t277.length ko34, .slice Xo35 t280.length ko35, PUS ha, (((HM.iT 2 rfl (hon 6 (by kernel_rfl))).iT 3 rfl (hon 9 (by kernel_rfl))).iT 4 rfl (hon 12 (by kernel_rfl))).pick [0, 1, 2, 3, 4]⟩
  exact steps_nil
 rintro _ w37 ⟨v275, v278, v281, rfl, HM⟩
 replace HM := HM.sT 1 rfl rfl
 replace HM := HM.sT 2 rfl rfl
 replace HM := HM.sT 3 rfl rfl
 replace HM := HM.sT 4 rfl rfl
 simp only [putSel, if_true, Act.put, List.setIfInBounds_toArray, List.set_cons_zero, List.set_cons_succ, gt_iff_lt, ge_iff_le]
 simp only [Option.some.injEq, Prod.mk.injEq] at H
 obtain ⟨rfl, rfl, rfl, rfl, rfl⟩ := H
 go_wp2
 refine bodyPost_ret (results_cell_row rfl _ _ gb273 71 #[.int .i64 a0_0, .int .i64 a0_1, v275, v278, v281] (0, 0) _ rfl (HM.bx 1 rfl) Try.underlying71 rfl (by kernel_rfl)) rfl ?_
 exact ⟨_, _, _, ER, (MD HM).pick [2, 3, 4]⟩
end Go.Proofs.Ytlokjgngjgbpmaa.G

namespace Go.Proofs.Ytlokjgngjgbpmaa.G
open Go.RowKit Go.Proofs.YtlokjgngjgbpmaaW.PrintWords Go.Proofs.YtlokjgngjgbpmaaW.PrintLast Go.Proofs.YtlokjgngjgbpmaaW.PrintMore Go.Proofs.Ytlokjgngjgbpmaa.Sh
attribute [local go_sem] max2_int min2_int max_two min_two max_three min_three max_four min_four
set_option linter.unusedVariables false
set_option linter.unusedSimpArgs false
open Go.Proofs.Ytlokjgngjgbpmaa.Man
def impl_Three_item.f (l2 l3 : List S67) (a1 : ByteArray) : Option Int := (impl_itemAt.f l2 a1).bind fun a => if 0 ≤ a then some a else (impl_itemAt.f l3 a1).bind fun b => if 0 ≤ b then some ((l2.length : Int) + b) else some (-1)
def impl_Three_item.ptr (A2 A3 : Option Addr) (n : Nat) (r : Int) : Option Addr := if r < 0 then none else if r < (n : Int) then A2.map (·.add (r.toNat * 3)) else A3.map (·.add ((wrap64 (r - (n : Int))).toNat * 3))
theorem impl_Three_item.ptr_nil {A2 A3 : Option Addr} {n : Nat} {r : Int} (h : decide (r < 0) = true) : impl_Three_item.ptr A2 A3 n r = none := if_pos (of_decide_eq_true h)
theorem impl_Three_item.ptr_small {g : Nat} {A3 : Option Addr} {n : Nat} {r : Int} (h : decide (r < 0) = false) (h1 : decide (r < (n : Int)) = true) : impl_Three_item.ptr (some ⟨g, 0, none⟩) A3 n r = some ⟨g, r.toNat * 3, none⟩ := by
 refine (if_neg (of_decide_eq_false h)).trans ((if_pos (of_decide_eq_true h1)).trans ?_)
 rw [Option.map_some, add_plain]
theorem impl_Three_item.ptr_main {A2 : Option Addr} {g : Nat} {n : Nat} {r : Int} (h : decide (r < 0) = false) (h1 : decide (r < (n : Int)) = false) : impl_Three_item.ptr A2 (some ⟨g, 0, none⟩) n r = some ⟨g, (wrap64 (r - (n : Int))).toNat * 3, none⟩ := by
 refine (if_neg (of_decide_eq_false h)).trans ((if_neg (of_decide_eq_false h1)).trans ?_)
 rw [Option.map_some, add_plain]
theorem impl_Three_item.ptr_nil' {A2 A3 : Option Addr} {n : Nat} {r : Int} (h : decide (0 ≤ r) = false) : impl_Three_item.ptr A2 A3 n r = none := impl_Three_item.ptr_nil (decide_eq_true (by have := of_decide_eq_false h; omega))
theorem impl_Three_item.ptr_small' {g : Nat} {A3 : Option Addr} {n : Nat} {r : Int} (h : decide (0 ≤ r) = true) (h1 : decide (r < (n : Int)) = true) : impl_Three_item.ptr (some ⟨g, 0, none⟩) A3 n r = some ⟨g, r.toNat * 3, none⟩ := impl_Three_item.ptr_small (decide_eq_false (by have := of_decide_eq_true h; omega)) h1
theorem impl_Three_item.ptr_main' {A2 : Option Addr} {g : Nat} {n : Nat} {r : Int} (h : decide (0 ≤ r) = true) (h1 : decide (r < (n : Int)) = false) : impl_Three_item.ptr A2 (some ⟨g, 0, none⟩) n r = some ⟨g, (wrap64 (r - (n : Int))).toNat * 3, none⟩ := impl_Three_item.ptr_main (decide_eq_false (by have := of_decide_eq_true h; omega)) h1
theorem impl_itemAt.idx_lt (key : ByteArray) : ∀ (l : List S67) (i : Nat), impl_itemAt.idx key l i < ((i + l.length : Nat) : Int) ∧ (impl_itemAt.idx key l i = -1 ∨ 0 ≤ impl_itemAt.idx key l i)
 | [], i => ⟨by simp [impl_itemAt.idx]; omega, .inl rfl⟩
 | x :: r, i => by
  rw [impl_itemAt.idx]
  by_cases c : x.f0.toList = key.toList
  ·rw [if_pos c]; simp only [List.length_cons]; omega
  ·rw [if_neg c]
   have := impl_itemAt.idx_lt key r (i + 1)
   simp only [List.length_cons]
   omega
set_option maxHeartbeats 4000000 in
set_option maxRecDepth 100000 in
theorem impl_Three_item.calls (g : Nat) (a0 b0 : Int) (x4 : Value) (A2 : Option Addr) (c2 : Nat) (l2 : List S67) (A3 : Option Addr) (c3 : Nat) (l3 : List S67) (a1 : ByteArray) (r : Int) (w : World) (hr2 : Kd.C k67 w A2 l2.length l2) (hc2 : l2.length ≤ c2) (hr3 : Kd.C k67 w A3 l3.length l3) (hc3 : l3.length ≤ c3) (hb : w.heap[g]? = some (.cells #[.int .i64 a0, .int .i64 b0, .slice A2 l2.length c2, .slice A3 l3.length c3, x4] 71 (0, 0))) (h : impl_Three_item.f l2 l3 a1 = some r) :
  Calls Try.prog 80 #[.pointer (some ⟨g, 0, none⟩), .string a1] w fun e w' => e = .returned (.pointer (impl_Three_item.ptr A2 A3 l2.length r)) ∧ Below w.heap.size w w' := by
 have e1 : impl_itemAt.f l2 a1 = some (impl_itemAt.idx a1 l2 0) := rfl
 have e2 : impl_itemAt.f l3 a1 = some (impl_itemAt.idx a1 l3 0) := rfl
 have q1 := impl_itemAt.idx_lt a1 l2 0
 have q2 := impl_itemAt.idx_lt a1 l3 0
 have L2 : l2.length ≤ 9223372036854775807 := hr2.2.1
 have L3 : l3.length ≤ 9223372036854775807 := hr3.2.1
 have HB := Aside0.mk hb
 have HR2 := Aside0.mk hr2
 have HC2 := Aside0.mk hc2
 have HR3 := Aside0.mk hr3
 have HC3 := Aside0.mk hc3
 have hu45 := Try.underlying71
 have k0 : w.cell? ⟨g, 2, none⟩ = some (.slice A2 l2.length c2) := blk_cell hb 2
 unfold impl_Three_item.f at h
 rw [e1, Option.bind_some] at h
 obtain ⟨K1, hK1⟩ : ∃ K1, impl_itemAt.idx a1 l2 0 = K1 := ⟨_, rfl⟩
 rw [hK1] at h e1 q1
 clear hb hr2 hc2 hr3 hc3
 by_cases c1 : 0 ≤ K1
 ·rw [if_pos c1] at h
  obtain rfl := Option.some.inj h
  clear h
  have hlt : K1 < (l2.length : Int) := by have := q1.1; omega
  obtain ⟨ad, hA, _⟩ := at_T67 HR2.out K1 c1 hlt
  subst hA
  have hp : impl_Three_item.ptr (some ad) A3 l2.length K1 = some (ad.add (K1.toNat * 3)) := by
   unfold impl_Three_item.ptr
   rw [if_neg (by omega), if_pos hlt]; rfl
  rw [hp]
  have HE := Aside0.mk e1
  have d1 : decide (0 ≤ K1) = true := decide_eq_true c1
  replace c1 := eq_true c1
  replace hlt := eq_true hlt
  clear e1 e2 q1 q2 hK1 hp
  go_enter Try.func80, Try.ntmps80
  go_wp2_with fail
  refine (impl_itemAt.calls _ _ _ _ _ _ HR2.out HC2.out HE.out).mono ?_
  rintro e w1 ⟨rfl, hb1⟩
  have HB1 := Aside0.mk hb1
  have k1 : w1.cell? ⟨g, 2, none⟩ = some (.slice (some ad) l2.length c2) := blk_cell (blk_below HB.out hb1) 2
  clear hb1
  go_wp2
  go_ret
  exact ⟨rfl, HB1.out⟩
 ·rw [if_neg c1, e2, Option.bind_some] at h
  obtain ⟨K2, hK2⟩ : ∃ K2, impl_itemAt.idx a1 l3 0 = K2 := ⟨_, rfl⟩
  rw [hK2] at h e2 q2
  have k00 : w.cell? ⟨g, 3, none⟩ = some (.slice A3 l3.length c3) := blk_cell HB.out 3
  have d1 : decide (0 ≤ K1) = false := decide_eq_false c1
  by_cases c2' : 0 ≤ K2
  ·rw [if_pos c2'] at h
   obtain rfl := Option.some.inj h
   clear h
   have hlt : K2 < (l3.length : Int) := by have := q2.1; omega
   obtain ⟨ad, hA, _⟩ := at_T67 HR3.out K2 c2' hlt
   subst hA
   have hp : impl_Three_item.ptr A2 (some ad) l2.length ((l2.length : Int) + K2) = some (ad.add (K2.toNat * 3)) := by
    unfold impl_Three_item.ptr
    rw [if_neg (by omega), if_neg (by omega), show wrap64 ((l2.length : Int) + K2 - (l2.length : Int)) = K2 by unfold wrap64; omega]; rfl
   rw [hp]
   have HE := Aside0.mk e1
   have HE2 := Aside0.mk e2
   have d2 : decide (0 ≤ K2) = true := decide_eq_true c2'
   replace c2' := eq_true c2'
   replace hlt := eq_true hlt
   clear e1 e2 q1 q2 hK1 hK2 hp c1
   go_enter Try.func80, Try.ntmps80
   go_wp2_with fail
   refine (impl_itemAt.calls _ _ _ _ _ _ HR2.out HC2.out HE.out).mono ?_
   rintro e w1 ⟨rfl, hb1⟩
   have HB1 := Aside0.mk hb1
   have k1 : w1.cell? ⟨g, 2, none⟩ = some (.slice A2 l2.length c2) := blk_cell (blk_below HB.out hb1) 2
   have k11 : w1.cell? ⟨g, 3, none⟩ = some (.slice (some ad) l3.length c3) := blk_cell (blk_below HB.out hb1) 3
   clear hb1
   go_wp2_with fail
   refine (impl_itemAt.calls _ _ _ _ _ _ (Kd.C_below HR3.out HB1.out) HC3.out HE2.out).mono ?_
   rintro e w2 ⟨rfl, hb2⟩
   have HB2 := Aside0.mk (below_step HB1.out hb2)
   have k2 : w2.cell? ⟨g, 3, none⟩ = some (.slice (some ad) l3.length c3) := blk_cell (blk_below HB.out HB2.out) 3
   clear hb2
   go_wp2
   go_ret
   exact ⟨rfl, HB2.out⟩
  ·rw [if_neg c2'] at h
   obtain rfl := Option.some.inj h
   clear h
   have hp : impl_Three_item.ptr A2 A3 l2.length (-1) = none := by
    unfold impl_Three_item.ptr
    rw [if_pos (by omega)]
   rw [hp]
   have HE := Aside0.mk e1
   have HE2 := Aside0.mk e2
   have d2 : decide (0 ≤ K2) = false := decide_eq_false c2'
   clear e1 e2 q1 q2 hK1 hK2 hp c1 c2'
   go_enter Try.func80, Try.ntmps80
   go_wp2_with fail
   refine (impl_itemAt.calls _ _ _ _ _ _ HR2.out HC2.out HE.out).mono ?_
   rintro e w1 ⟨rfl, hb1⟩
   have HB1 := Aside0.mk hb1
   have k1 : w1.cell? ⟨g, 2, none⟩ = some (.slice A2 l2.length c2) := blk_cell (blk_below HB.out hb1) 2
   have k11 : w1.cell? ⟨g, 3, none⟩ = some (.slice A3 l3.length c3) := blk_cell (blk_below HB.out hb1) 3
   clear hb1
   go_wp2_with fail
   refine (impl_itemAt.calls _ _ _ _ _ _ (Kd.C_below HR3.out HB1.out) HC3.out HE2.out).mono ?_
   rintro e w2 ⟨rfl, hb2⟩
   have HB2 := Aside0.mk (below_step HB1.out hb2)
   clear hb2
   go_wp2
   go_ret
   exact ⟨rfl, HB2.out⟩
end Go.Proofs.Ytlokjgngjgbpmaa.G
