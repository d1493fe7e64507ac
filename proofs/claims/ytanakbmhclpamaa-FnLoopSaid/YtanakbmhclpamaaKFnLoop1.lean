/- Part 1 of the claim FnLoop, merged by pack.py (this session's program) out of: the print's words, cut to what is needed; texts that gen.py printed (it runs the kit's print in place); texts of this session. -/
import Derived.Test.YtanakbmhclpamaaProg
import Derived.Below
import Derived.Deep.Draws
import Derived.Deep.AppendLies
import Derived.Maps.AppendAt
import Derived.OwnWalk
import Derived.Laws.BytesArg
import Derived.Laws.MakeOwn
import Derived.Laws.OwnMore
import Derived.Deep.OwnRows
import Derived.Tactics
import Derived.Lib.ConvBytes
import Derived.Laws.Slices
import Derived.WalkKit
import Derived.KernelRfl
import Derived.RowKit3
import Derived.Deep.LoopGhost
import Derived.Deep.QuietTactic
import Derived.BigQuiet
import Derived.WideLaws
import Derived.Deep.DeepCutAuto
import Derived.Deep.CutBlock
import Derived.Deep.RegionHeld3
import Derived.Laws.Rows
import Derived.Lib.AppendStr
import Derived.ArgAppend
import Derived.Laws.IdiomCopy
import Derived.OrdersHeld
import Derived.Laws.BitsLemmas
import Derived.RowKit
import Derived.Laws.StructEq
import Derived.RegionTactic
import Derived.Shelf.RegionOpenPlain
import Derived.Deep.RegionLaw
import Derived.Test.YtanakbmhclpamaaKFnLoop0
namespace Go.Proofs.Ytanakbmhclpamaa.Man
end Go.Proofs.Ytanakbmhclpamaa.Man
namespace Go.Proofs.Ytanakbmhclpamaa.Mm
end Go.Proofs.Ytanakbmhclpamaa.Mm
namespace Go.Proofs.Ytanakbmhclpamaa.Sh
end Go.Proofs.Ytanakbmhclpamaa.Sh
namespace Go.Proofs.Ytanakbmhclpamaa.Sh
open Go.RowKit Go.Proofs.YtanakbmhclpamaaW.PrintWords Go.Proofs.YtanakbmhclpamaaW.PrintLast Go.Proofs.YtanakbmhclpamaaW.PrintMore
set_option linter.unusedVariables false
theorem AQ {P : Prop} (h : P := by (try simp only [List.map_toArray, List.map_cons, List.map_nil]); first | done | rfl | (simp only [List.length_drop, List.length_take]; rfl)) : P := h
theorem AS {P : Prop} (h : P := by first | (with_reducible assumption) | assumption) : P := h
theorem RS {P : Prop} (h : P := by first | rfl | (simp; done) | (simp [*]; done)) : P := h
theorem BS {α β : Type} {f : Option α} {g : α → Option β} {r : β} (h : f.bind g = some r) : ∃ t, f = some t ∧ g t = some r := Option.bind_eq_some_iff.mp h
theorem IP {α : Type} {c : Prop} {i : Decidable c} {a b r : α} (h : @ite α c i a b = r) (hc : c := by first | rfl | decide | simp) : a = r := by rw [if_pos hc] at h; exact h
theorem IN {α : Type} {c : Prop} {i : Decidable c} {a b r : α} (h : @ite α c i a b = r) (hc : ¬ c := by first | exact Bool.false_ne_true | decide | simp) : b = r := by rw [if_neg hc] at h; exact h
theorem ER {P : Prop} (h : P := by first | rfl | (simp [errW_none, errW_some] <;> rfl) | (simp [*, errW_none, errW_some] <;> rfl)) : P := h
theorem DR {P : Prop} (h : P := by repeat (first | exact Drawn0.refl _ | apply Drawn0.step)) : P := h
theorem HK1 {P : Prop} (h : P := by repeat (first | (with_reducible first | exact HK.out | apply Kept.alloc | apply Kept.drewN | apply Kept.drew) | exact HK.out)) : P := h
theorem bk1 {W : World} {g : Nat} {t : TypeId} {a0 : Value} (h : W.heap[g]? = some (.cells #[a0] t (0, 0))) : W.cell? ⟨g, 0, none⟩ = some a0 ∧ W.frozen? ⟨g, 0, none⟩ = false := ⟨(blk_cell h 0).trans rfl, blk_frozen h 0⟩
theorem bk3 {W : World} {g : Nat} {t : TypeId} {a0 a1 a2 : Value} (h : W.heap[g]? = some (.cells #[a0, a1, a2] t (0, 0))) : W.cell? ⟨g, 0, none⟩ = some a0 ∧ W.cell? ⟨g, 1, none⟩ = some a1 ∧ W.cell? ⟨g, 2, none⟩ = some a2 ∧ W.frozen? ⟨g, 0, none⟩ = false ∧ W.frozen? ⟨g, 1, none⟩ = false ∧ W.frozen? ⟨g, 2, none⟩ = false := ⟨(blk_cell h 0).trans rfl, (blk_cell h 1).trans rfl, (blk_cell h 2).trans rfl, blk_frozen h 0, blk_frozen h 1, blk_frozen h 2⟩
theorem bk4 {W : World} {g : Nat} {t : TypeId} {a0 a1 a2 a3 : Value} (h : W.heap[g]? = some (.cells #[a0, a1, a2, a3] t (0, 0))) : W.cell? ⟨g, 0, none⟩ = some a0 ∧ W.cell? ⟨g, 1, none⟩ = some a1 ∧ W.cell? ⟨g, 2, none⟩ = some a2 ∧ W.cell? ⟨g, 3, none⟩ = some a3 ∧ W.frozen? ⟨g, 0, none⟩ = false ∧ W.frozen? ⟨g, 1, none⟩ = false ∧ W.frozen? ⟨g, 2, none⟩ = false ∧ W.frozen? ⟨g, 3, none⟩ = false := ⟨(blk_cell h 0).trans rfl, (blk_cell h 1).trans rfl, (blk_cell h 2).trans rfl, (blk_cell h 3).trans rfl, blk_frozen h 0, blk_frozen h 1, blk_frozen h 2, blk_frozen h 3⟩
theorem bk5 {W : World} {g : Nat} {t : TypeId} {a0 a1 a2 a3 a4 : Value} (h : W.heap[g]? = some (.cells #[a0, a1, a2, a3, a4] t (0, 0))) : W.cell? ⟨g, 0, none⟩ = some a0 ∧ W.cell? ⟨g, 1, none⟩ = some a1 ∧ W.cell? ⟨g, 2, none⟩ = some a2 ∧ W.cell? ⟨g, 3, none⟩ = some a3 ∧ W.cell? ⟨g, 4, none⟩ = some a4 ∧ W.frozen? ⟨g, 0, none⟩ = false ∧ W.frozen? ⟨g, 1, none⟩ = false ∧ W.frozen? ⟨g, 2, none⟩ = false ∧ W.frozen? ⟨g, 3, none⟩ = false ∧ W.frozen? ⟨g, 4, none⟩ = false := ⟨(blk_cell h 0).trans rfl, (blk_cell h 1).trans rfl, (blk_cell h 2).trans rfl, (blk_cell h 3).trans rfl, (blk_cell h 4).trans rfl, blk_frozen h 0, blk_frozen h 1, blk_frozen h 2, blk_frozen h 3, blk_frozen h 4⟩
theorem bk8 {W : World} {g : Nat} {t : TypeId} {a0 a1 a2 a3 a4 a5 a6 a7 : Value} (h : W.heap[g]? = some (.cells #[a0, a1, a2, a3, a4, a5, a6, a7] t (0, 0))) : W.cell? ⟨g, 0, none⟩ = some a0 ∧ W.cell? ⟨g, 1, none⟩ = some a1 ∧ W.cell? ⟨g, 2, none⟩ = some a2 ∧ W.cell? ⟨g, 3, none⟩ = some a3 ∧ W.cell? ⟨g, 4, none⟩ = some a4 ∧ W.cell? ⟨g, 5, none⟩ = some a5 ∧ W.cell? ⟨g, 6, none⟩ = some a6 ∧ W.cell? ⟨g, 7, none⟩ = some a7 ∧ W.frozen? ⟨g, 0, none⟩ = false ∧ W.frozen? ⟨g, 1, none⟩ = false ∧ W.frozen? ⟨g, 2, none⟩ = false ∧ W.frozen? ⟨g, 3, none⟩ = false ∧ W.frozen? ⟨g, 4, none⟩ = false ∧ W.frozen? ⟨g, 5, none⟩ = false ∧ W.frozen? ⟨g, 6, none⟩ = false ∧ W.frozen? ⟨g, 7, none⟩ = false := ⟨(blk_cell h 0).trans rfl, (blk_cell h 1).trans rfl, (blk_cell h 2).trans rfl, (blk_cell h 3).trans rfl, (blk_cell h 4).trans rfl, (blk_cell h 5).trans rfl, (blk_cell h 6).trans rfl, (blk_cell h 7).trans rfl, blk_frozen h 0, blk_frozen h 1, blk_frozen h 2, blk_frozen h 3, blk_frozen h 4, blk_frozen h 5, blk_frozen h 6, blk_frozen h 7⟩
end Go.Proofs.Ytanakbmhclpamaa.Sh

namespace Go.Proofs.Ytanakbmhclpamaa.G
open Go.RowKit Go.Proofs.YtanakbmhclpamaaW.PrintWords Go.Proofs.YtanakbmhclpamaaW.PrintLast Go.Proofs.YtanakbmhclpamaaW.PrintMore Go.Proofs.Ytanakbmhclpamaa.Sh
attribute [local go_sem] max2_int min2_int max_two min_two max_three min_three max_four min_four
set_option linter.unusedVariables false
set_option linter.unusedSimpArgs false
def errW : Option Int → Value
 | none => .nilIface
 | some c => .iface 0 (.int .i64 c)
theorem errW_none : errW none = .nilIface := rfl
theorem errW_some (c : Int) : errW (some c) = .iface 0 (.int .i64 c) := rfl
theorem info3 : (Try.prog.info? 3).map (fun i => (i.zero, i.size, i.bytes)) = some (some (.int .i64 0), 1, 8) := by kernel_rfl
theorem info4 : (Try.prog.info? 4).map (fun i => (i.zero, i.size, i.bytes)) = some (some (.bool false), 1, 1) := by kernel_rfl
theorem info9 : (Try.prog.info? 9).map (fun i => (i.zero, i.size, i.bytes)) = some (some (.string ⟨#[]⟩), 1, 16) := by kernel_rfl
theorem info76 : (Try.prog.info? 76).map (fun i => (i.zero, i.size, i.bytes)) = some (some (.agg #[(.string ⟨#[]⟩), (.string ⟨#[]⟩), (.int .i64 0)]), 3, 40) := by kernel_rfl
structure S76 where
 f0 : ByteArray
 f1 : ByteArray
 f2 : Int
def z76 : S76 := ⟨(⟨#[]⟩ : ByteArray), (⟨#[]⟩ : ByteArray), (0 : Int)⟩
def k76 : Kd S76 := Kd.iso (Kd.pair Kd.string (Kd.pair Kd.string (Kd.int .i64))) (fun x : S76 => (x.f0, x.f1, x.f2))
theorem k76_open {w : World} {x : S76} {cs : List Value} (h : k76.K w x cs) : cs = [.string x.f0, .string x.f1, .int .i64 x.f2] := by
 obtain ⟨_, _, rfl, rfl, ⟨_, _, rfl, rfl, rfl⟩⟩ := h
 exact rfl
theorem k76_openM {w : World} {base : Nat} {ok : Nat → Prop} {x : S76} {cs : List Value} (h : k76.M w base ok x cs) : cs = [.string x.f0, .string x.f1, .int .i64 x.f2] := by
 obtain ⟨_, _, rfl, rfl, ⟨_, _, rfl, rfl, rfl⟩⟩ := h
 exact rfl
theorem k76_mkM (w : World) (base : Nat) (ok : Nat → Prop) (x : S76)  : k76.M w base ok x [.string x.f0, .string x.f1, .int .i64 x.f2] := ⟨[.string x.f0], [.string x.f1, .int .i64 x.f2], rfl, rfl, ⟨[.string x.f1], [.int .i64 x.f2], rfl, rfl, rfl⟩⟩
def rd_T76 (xs : List S76) (i : Int) : S76 := xs.getD i.toNat z76
theorem at_T76 {w : World} {A : Option Addr} {n : Nat} {xs : List S76} (h : Kd.C k76 w A n xs) (i : Int) (h0 : 0 ≤ i) (h1 : i < n) : ∃ ad , A = some ad ∧ w.cell? (ad.add (i.toNat * 3)) = some (.string (rd_T76 xs i).f0) ∧ w.cell? ⟨(ad.add (i.toNat * 3)).block, (ad.add (i.toNat * 3)).off + 1, none⟩ = some (.string (rd_T76 xs i).f1) ∧ w.cell? ⟨(ad.add (i.toNat * 3)).block, (ad.add (i.toNat * 3)).off + 2, none⟩ = some (.int .i64 (rd_T76 xs i).f2) := by
 obtain ⟨ad, c, e, _, hK, hc0⟩ := Kd.C_get h z76 i h0 h1
 have hc : ∀ j u, c[j]? = some u → w.cell? (ad.add (i.toNat * 3 + j)) = some u := hc0
 obtain rfl := k76_open hK
 exact ⟨ad, e, hc 0 _ rfl, by rw [← add_field _ _ 1 (by omega)]; exact hc 1 _ rfl, by rw [← add_field _ _ 2 (by omega)]; exact hc 2 _ rfl⟩
def impl_within.f (a0 : Int) (a1 : Int) (a2 : Int) : Option (Bool) := if a0 ≥ a1 then (some (decide (a0 ≤ a2))) else (some false)
set_option maxHeartbeats 8000000 in
set_option maxRecDepth 100000 in
theorem impl_within.calls (a0 : Int) (a1 : Int) (a2 : Int) (r : Bool) (w : World) (h : impl_within.f a0 a1 a2 = some r) :
  Calls Try.prog 64 #[.int .i64 a0, .int .i64 a1, .int .i64 a2] w fun e w' => e = .returned (.bool r) ∧ Drawn0 w w' := by
 have H : (if a0 ≥ a1 then (some (decide (a0 ≤ a2))) else (some false)) = some r := h
 clear h
 by_cases c4 : a0 ≥ a1
 ·rw [if_pos c4] at H
  have c4b0 : decide (a1 ≤ a0) = true := decide_eq_true c4
  clear c4
  obtain rfl := Option.some.inj H
  go_enter Try.func64, Try.ntmps64
  go_wp2
  go_ret
  exact ⟨by first | rfl | (simp; done) | (simp [*]; done), DR⟩
 ·rw [if_neg c4] at H
  have c4b0 : decide (a1 ≤ a0) = false := decide_eq_false c4
  clear c4
  obtain rfl := Option.some.inj H
  go_enter Try.func64, Try.ntmps64
  go_wp2
  go_ret
  exact ⟨by first | rfl | (simp; done) | (simp [*]; done), DR⟩
def impl_isPlain.l0 : Nat → ByteArray → Int → Option (Bool)
 | 0, _, _ => none
 | k + 1, x0, x3 => if x3 < (x0.size : Int) then (if 0 ≤ x3 then (if (bt x0 x3) = 32 then (some false) else (if (bt x0 x3) = 10 then (some false) else (impl_isPlain.l0 k x0 (wrap64 (x3 + 1))))) else (none)) else (some true)
def impl_isPlain.f (k : Nat) (a0 : ByteArray) : Option (Bool) := impl_isPlain.l0 k a0 0
set_option maxHeartbeats 8000000 in
set_option maxRecDepth 100000 in
theorem impl_isPlain.calls (k : Nat) (a0 : ByteArray) (r : Bool) (w : World) (h : impl_isPlain.f k a0 = some r) :
  Calls Try.prog 83 #[.string a0] w fun e w' => e = .returned (.bool r) ∧ Drawn0 w w' := by
 have H : (impl_isPlain.l0 k a0 0) = some r := h
 clear h
 have H' := Aside0.mk H
 clear H
 go_enter Try.func83, Try.ntmps83
 go_wp2
 go_loopg [3] k (fun kq v3 w' => ∃ (x3_1 : Int), v3 = .int .i64 x3_1 ∧ Aside0 (impl_isPlain.l0 kq a0 x3_1 = some r) ∧ Aside0 (kq ≤ k) ∧ Drawn0 w w')
 case atStart => exact ⟨(0), RS, H', ⟨Nat.le_refl _⟩, DR⟩
 case round =>
  clear H'
  obtain ⟨x3_1, rfl, HA, HK1, ⟨m1, rfl⟩⟩ := hrel
  cases gk with
  | zero => exact absurd HA.out (by simp [impl_isPlain.l0])
  | succ k1 =>
   have H := HA.out
   clear HA
   simp only [impl_isPlain.l0] at H
   by_cases c2 : x3_1 < (a0.size : Int)
   ·rw [if_pos c2] at H
    have c2b0 : decide (x3_1 < (a0.size : Int)) = true := decide_eq_true c2
    clear c2
    by_cases c3 : 0 ≤ x3_1
    ·rw [if_pos c3] at H
     have c3b0 : decide (0 ≤ x3_1) = true := decide_eq_true c3
     clear c3
     by_cases c5 : (bt a0 x3_1) = 32
     ·rw [if_pos c5] at H
      have c5b0 : ((bt a0 x3_1) == 32) = true := beq_iff_eq.mpr c5
      have c5b1 : ((bt a0 x3_1) != 32) = false := bne_eq_false_iff_eq.mpr c5
      clear c5
      obtain rfl := Option.some.inj H
      have p4 : 0 ≤ (x3_1 : Int) := of_decide_eq_true AS
      have q4 : x3_1 < (a0.size : Int) := of_decide_eq_true AS
      have hx4 := bt_at a0 x3_1
      replace p4 := eq_true p4
      replace q4 := eq_true q4
      go_wp2
      go_ret
      exact ⟨by first | rfl | (simp; done) | (simp [*]; done), DR⟩
     ·rw [if_neg c5] at H
      have c5b0 : ((bt a0 x3_1) == 32) = false := beq_eq_false_iff_ne.mpr c5
      have c5b1 : ((bt a0 x3_1) != 32) = true := bne_iff_ne.mpr c5
      by_cases c7 : (bt a0 x3_1) = 10
      ·rw [if_pos c7] at H
       have c7b0 : ((bt a0 x3_1) == 10) = true := beq_iff_eq.mpr c7
       have c7b1 : ((bt a0 x3_1) != 10) = false := bne_eq_false_iff_eq.mpr c7
       clear c7
       obtain rfl := Option.some.inj H
       have p4 : 0 ≤ (x3_1 : Int) := of_decide_eq_true AS
       have q4 : x3_1 < (a0.size : Int) := of_decide_eq_true AS
       have hx4 := bt_at a0 x3_1
       replace p4 := eq_true p4
       replace q4 := eq_true q4
       have p6 : 0 ≤ (x3_1 : Int) := of_decide_eq_true AS
       have q6 : x3_1 < (a0.size : Int) := of_decide_eq_true AS
       have hx6 := bt_at a0 x3_1
       replace p6 := eq_true p6
       replace q6 := eq_true q6
       go_wp2
       go_ret
       exact ⟨by first | rfl | (simp; done) | (simp [*]; done), DR⟩
      ·rw [if_neg c7] at H
       have c7b0 : ((bt a0 x3_1) == 10) = false := beq_eq_false_iff_ne.mpr c7
       have c7b1 : ((bt a0 x3_1) != 10) = true := bne_iff_ne.mpr c7
       have H' := Aside0.mk H
       clear H
       have p4 : 0 ≤ (x3_1 : Int) := of_decide_eq_true AS
       have q4 : x3_1 < (a0.size : Int) := of_decide_eq_true AS
       have hx4 := bt_at a0 x3_1
       replace p4 := eq_true p4
       replace q4 := eq_true q4
       have p6 : 0 ≤ (x3_1 : Int) := of_decide_eq_true AS
       have q6 : x3_1 < (a0.size : Int) := of_decide_eq_true AS
       have hx6 := bt_at a0 x3_1
       replace p6 := eq_true p6
       replace q6 := eq_true q6
       go_wp2
       go_roundg k1
       case measure => have := HK1.out; omega
       case rel => exact ⟨(wrap64 (x3_1 + 1)), RS, H', ⟨by have := HK1.out; omega⟩, DR⟩
    ·rw [if_neg c3] at H
     exact absurd H (by simp)
   ·rw [if_neg c2] at H
    have c2b0 : decide (x3_1 < (a0.size : Int)) = false := decide_eq_false c2
    clear c2
    obtain rfl := Option.some.inj H
    go_wp2
    go_ret
    exact ⟨by first | rfl | (simp; done) | (simp [*]; done), DR⟩
end Go.Proofs.Ytanakbmhclpamaa.G

namespace Go.Proofs.Ytanakbmhclpamaa.Sh
open Go.RowKit Go.Proofs.YtanakbmhclpamaaW.PrintWords Go.Proofs.YtanakbmhclpamaaW.PrintLast Go.Proofs.YtanakbmhclpamaaW.PrintMore
set_option linter.unusedVariables false
section
variable {P : Program} {ops : Array Oper} {rest : List Oper} {o : Oper} {a : Act} {Q : Exit → Act → World → Prop} {Kc : Act → World → Prop} {α : Type}
theorem Kd.Q_rows_run (d : Kd α) {Rr : α → List Value → Prop} {w0 W : World} (base : Nat) (t ty e : TypeId) (z : Value) (bytes : Nat)
  (ht : P.underlying t = some (.slice e)) (hinfo : (P.info? e).map (fun i => (i.zero, i.size, i.bytes)) = some (some z, d.sz, bytes)) (hz : z.cells.size = d.sz) (hs0 : 0 < d.sz) (hb0 : 0 < bytes)
  (v : Value) (xs ys : List α) (A : Option Addr) (m c : Nat) (ok okp : Nat → Prop) (hm0 : 0 < m)
  (HO : d.Q e W base ok v xs) (HR : ReadsRow Rr d.sz W A m ys) (hKM : ∀ x cs, Rr x cs → d.M W base okp x cs) (hokp : ∀ k, okp k → ok k ∧ some k ≠ v.ownBlock) (hfresh : ∀ k, W.heap.size ≤ k → ok k)
  (HB : Below base w0 W) (hbase : base ≤ W.heap.size) (hl : (xs.length + m) * bytes ≤ 140737488355328) :
  ∃ v1 w1, (Builtin.append_ #[t, t] ty #[v, .slice A m c]).run P W = .ok v1 w1 ∧ d.Q e w1 base ok v1 (xs ++ ys) ∧ Below base w0 w1 ∧ W.grownBy w1 v.ownBlock ∧ (v1.ownBlock = v.ownBlock ∨ ∃ b, v1.ownBlock = some b ∧ W.heap.size ≤ b) := by
 obtain ⟨i0, hi, hzz⟩ := Option.map_eq_some_iff.1 hinfo
 simp only [Prod.mk.injEq] at hzz
 obtain ⟨hz0, hz1, hz2⟩ := hzz
 have hm : ys.length = m := HR.1
 have hlen : xs.length + m ≤ 140737488355328 := Nat.le_trans (Nat.le_mul_of_pos_right _ hb0) hl
 obtain ⟨hok, inner, hown, hr⟩ := HO
 obtain ⟨ad, hA, _⟩ := HR.2.2 hm0
 subst hA
 obtain ⟨news, hnr, hnc⟩ := ReadsRow.inner_ HR
 have hnM : Reps (d.M W base okp) d.sz ys news := hnr.imp_ (fun p c hp => hKM p c hp)
 have hone : ∀ u ∈ news, u.oneCell' = true := by
  intro u hu
  obtain ⟨q, hq, rfl⟩ := List.mem_iff_getElem.1 hu
  have hql : q / d.sz < ys.length := by
   rw [Nat.div_lt_iff_lt_mul hs0]
   rw [← hnM.1]
   exact hq
  have hc := hnM.2 (q / d.sz) _ (List.getElem?_eq_getElem hql)
  refine d.K_one (d.K_of_M hc) _ ?_
  rw [List.mem_iff_getElem?]
  refine ⟨q % d.sz, ?_⟩
  rw [List.getElem?_take, if_pos (Nat.mod_lt _ hs0), List.getElem?_drop, Nat.mul_comm, Nat.div_add_mod, List.getElem?_eq_getElem hq]
 obtain ⟨v1, w1, hrun, h2, hg, hat'⟩ := q_append (P := P) W base t ty e i0 z d.sz bytes ht hi hz0 hz1 hz2 hz hs0 v xs.length inner hown ad m c news (by rw [hnM.1, hm]) hnc hone hm0 (by simp only [maxLen]; omega) hl hbase
 have hne : ∀ k, some k ≠ v.ownBlock → k < W.heap.size → some k ≠ v1.ownBlock := by
  intro k hk hlt
  rcases hat' with hat | ⟨b, hb, hle⟩
  ·rw [hat]; exact hk
  ·rw [hb]
   intro he
   injection he with he
   omega
 have step : ∀ {q : α} {c : List Value} {o : Nat → Prop}, d.M W base o q c → (∀ k, o k → ok k ∧ some k ≠ v.ownBlock) → d.M w1 base (fun k => ok k ∧ some k ≠ v1.ownBlock) q c := by
  intro q c o hq ho
  have h1 := d.M_move (w1 := w1) (fun k hk => hg.block k hk.2.2.1 (ho k hk.1).2) (d.M_bound hq)
  exact d.M_mono (fun k hk => ⟨(ho k hk.1).1, hne k (ho k hk.1).2 hk.2.2.1⟩) h1
 refine ⟨v1, w1, hrun, ⟨fun k hk => ?_, inner ++ news, by rw [List.length_append, hm]; exact h2, Kd.reps_append (hr.imp_ (fun _ _ hq => step hq (fun _ hk => hk))) (hnM.imp_ (fun _ _ hq => step hq hokp))⟩, HB.grown hg hbase (fun k hk => (q_typed hown k hk).1), hg, hat'⟩
 rcases hat' with hat | ⟨b, hb, hle⟩
 ·exact hok k (hat ▸ hk)
 ·rw [hb] at hk
  injection hk with hk
  exact hfresh k (by omega)
theorem Kd.Q_append_rows_step (d : Kd α) {Rr : α → List Value → Prop} {w0 W : World} (base : Nat) (hw : Region.wanted o (yielded ops a.tmps) = true) (s x : Operand) (t e : TypeId) (z : Value) (bytes : Nat)
  (ho : o.op = .call { callee := .builtin .append, args := #[s, x], argTypes := #[t, t] })
  (ht : P.underlying t = some (.slice e)) (hinfo : (P.info? e).map (fun i => (i.zero, i.size, i.bytes)) = some (some z, d.sz, bytes)) (hz : z.cells.size = d.sz) (hs0 : 0 < d.sz) (hb0 : 0 < bytes)
  (v : Value) (xs ys : List α) (A : Option Addr) (m c : Nat) (ok okp : Nat → Prop) (hs : a.eval s = v) (hx : a.eval x = .slice A m c)
  (HO : d.Q e W base ok v xs) (HR : ReadsRow Rr d.sz W A m ys) (hKM : ∀ x cs, Rr x cs → d.M W base okp x cs) (hokp : ∀ k, okp k → ok k ∧ some k ≠ v.ownBlock) (hfresh : ∀ k, W.heap.size ≤ k → ok k)
  (HB : Below base w0 W) (hbase : base ≤ W.heap.size) (hl : (xs.length + m) * bytes ≤ 140737488355328)
  (h : ∀ v1 w1, d.Q e w1 base ok v1 (xs ++ ys) → Below base w0 w1 → W.grownBy w1 v.ownBlock → (v1.ownBlock = v.ownBlock ∨ ∃ b, v1.ownBlock = some b ∧ W.heap.size ≤ b) → Kc (a.put o.dst v1) w1) (hm0 : 0 < m) :
  if Region.wanted o (yielded ops a.tmps) = true then Oper.wp P o a W Kc Q else Kc (a.put o.dst undef) W := by
 obtain ⟨v1, w1, hr, h1, h2, h3, h4⟩ := Kd.Q_rows_run (P := P) d base t o.type e z bytes ht hinfo hz hs0 hb0 v xs ys A m c ok okp hm0 HO HR hKM hokp hfresh HB hbase hl
 rw [if_pos hw]
 unfold Oper.wp execOp
 simp only [ho, resolve, invoke, builtin, Sem.run_bind, Sem.run_pure, Result.andThen_ok, List.map_toArray, List.map_cons, List.map_nil, hs, hx, hr]
 exact h v1 w1 h1 h2 h3 h4
end
end Go.Proofs.Ytanakbmhclpamaa.Sh

namespace Go.Proofs.Ytanakbmhclpamaa.Mm
open Go.RowKit Go.Proofs.YtanakbmhclpamaaW.PrintWords Go.Proofs.YtanakbmhclpamaaW.PrintLast Go.Proofs.YtanakbmhclpamaaW.PrintMore Go.Proofs.Ytanakbmhclpamaa.Sh
set_option linter.unusedVariables false
/-- A thing that is held: what it says of the world, given the blocks that are its own. -/
structure SP where
 At : World → (Nat → Prop) → Prop
 loc : ∀ {w w' : World} {S : Nat → Prop}, At w S → (∀ k, S k → w'.heap[k]? = w.heap[k]?) → At w' S
def emp : SP := ⟨fun _ _ => True, fun _ _ => trivial⟩
def sel (c : Bool) (A B : SP) : SP := match c with
 | true => A
 | false => B
/-- A variable in memory. -/
def box (t : TypeId) (g : Nat) (cs : List Value) : SP := ⟨fun w S => w.heap[g]? = some (.cells cs.toArray t (0, 0)) ∧ S g, fun h hm => ⟨(hm _ h.2).trans h.1, h.2⟩⟩
/-- A row of the call's own (it may begin inside its block). -/
def row {α : Type} (d : Kd α) (e : Nat) (v : Value) (xs : List α) : SP := ⟨fun w S => d.Q e w 0 S v xs, fun h hm => Kd.Q_move h hm⟩
def rowR {α : Type} (d : Kd α) (e : Nat) (v : Value) (xs : List α) : SP := ⟨fun w S => d.R e w 0 S v xs, fun h hm => Kd.R_move h hm⟩
/-- From w to w' nothing has turned but blocks of S and what is new. -/
structure Chg (S : Nat → Prop) (w w' : World) : Prop where
 os : w'.os = w.os
 tape : w'.tape = w.tape
 output : w'.output = w.output
 size : w.heap.size ≤ w'.heap.size
 block : ∀ k, k < w.heap.size → ¬ S k → w'.heap[k]? = w.heap[k]?
theorem Chg.of_below {w w' : World} (h : Below w.heap.size w w') : Chg (fun _ => False) w w' := ⟨h.os, h.tape, h.output, h.size, fun k hk _ => h.block k hk⟩
theorem Chg.of_grown {w w' : World} {r : Option Nat} (h : w.grownBy w' r) : Chg (fun k => r = some k) w w' := ⟨h.os, h.tape, h.output, h.size, fun k hk hn => h.block k hk (fun e => hn e.symm)⟩
theorem Chg.below {w0 w w' : World} {S : Nat → Prop} (h : Chg S w w') (hb : Below w0.heap.size w0 w) (hS : ∀ k, S k → w0.heap.size ≤ k) : Below w0.heap.size w0 w' :=
 hb.trans ⟨h.os, h.tape, h.output, h.size, fun k hk => h.block k (Nat.lt_of_lt_of_le hk hb.size) (fun hs => by have := hS k hs; omega)⟩
theorem Chg.wide {w w' : World} {S S' : Nat → Prop} (h : Chg S w w') (hs : ∀ k, S k → S' k) : Chg S' w w' := ⟨h.os, h.tape, h.output, h.size, fun k hk hn => h.block k hk (fun e => hn (hs k e))⟩
def Sep (w : World) (b : Nat) (N : List SP) : Prop := ∃ S : Nat → Nat → Prop, (∀ (i : Nat) (A : SP), N[i]? = some A → A.At w (S i)) ∧ (∀ i k, S i k → b ≤ k ∧ k < w.heap.size) ∧ (∀ i j k, S i k → S j k → i = j)
/-- What is held: N, beside a frame F that is left alone; below the call's first block nothing has turned. -/
structure Mem (w0 : World) (F : List SP) (w : World) (N : List SP) : Prop where
 bel : Below w0.heap.size w0 w
 sep : Sep w w0.heap.size (F ++ N)
section
variable {w0 w w' : World} {F N M L R : List SP} {A B : SP} {i j : Nat}
theorem Mem.nil (w : World) : Mem w [] w [] := ⟨Below.refl _ _, fun _ _ => False, fun i A h => by simp at h, fun _ _ h => h.elim, fun _ _ _ h => h.elim⟩
theorem Mem.sub (h : Mem w0 F w N) (σ : Nat → Nat) (hσ : ∀ i j, σ i = σ j → i = j) (hM : ∀ j A, (R ++ M)[j]? = some A → (F ++ N)[σ j]? = some A) : Mem w0 R w M := by
 obtain ⟨hb, S, h1, h2, h3⟩ := h
 exact ⟨hb, fun j => S (σ j), fun j A hA => h1 _ A (hM j A hA), fun j k hk => h2 _ k hk, fun i j k hi hj => hσ i j (h3 _ _ k hi hj)⟩
/-- The index under which number j of the new list stood: a list of numbers, each once; beyond it: beyond all. -/
def idx (m : Nat) (l : List Nat) (j : Nat) : Nat := if h : j < l.length then l[j] else m + j
theorem idx_inj {m : Nat} {l : List Nat} (hl : (l.all (· < m) && decide l.Nodup) = true) : ∀ i j, idx m l i = idx m l j → i = j := by
 simp only [Bool.and_eq_true, List.all_eq_true, decide_eq_true_eq] at hl
 obtain ⟨h1, h2⟩ := hl
 intro i j h
 unfold idx at h
 split at h <;> split at h
 ·exact (List.getElem_inj h2).1 h
 ·have := h1 _ (List.getElem_mem (by assumption)); omega
 ·have := h1 _ (List.getElem_mem (by assumption)); omega
 ·omega
/-- Some of what is held, in another order. -/
theorem Mem.pick (h : Mem w0 F w N) (l : List Nat) (hl : (l.all (· < N.length) && decide l.Nodup) = true := by kernel_rfl) (hM : l.map (fun i => N[i]?) = M.map some := by rfl) : Mem w0 F w M := by
 have hlen : l.length = M.length := by have := congrArg List.length hM; simpa using this
 have key : ∀ j A, M[j]? = some A → ∃ hj : j < l.length, N[l[j]]? = some A := by
  intro j A hA
  have hj : j < M.length := (List.getElem?_eq_some_iff.1 hA).1
  have := congrArg (fun z => z[j]?) hM
  simp only [List.getElem?_map, hA] at this
  rw [List.getElem?_eq_getElem (by omega)] at this
  simp only [Option.map_some, Option.some.injEq] at this
  exact ⟨by omega, this⟩
 refine Mem.sub h (fun q => if q < F.length then q else F.length + idx N.length l (q - F.length)) ?_ ?_
 ·intro i j e
  (try dsimp only at e)
  split at e <;> split at e
  ·exact e
  ·omega
  ·omega
  ·have := idx_inj hl _ _ (Nat.add_left_cancel e)
   omega
 ·intro q A hA
  (try dsimp only)
  split
  ·rename_i hq
   rw [List.getElem?_append_left hq] at hA ⊢
   exact hA
  ·rename_i hq
   rw [List.getElem?_append_right (by omega)] at hA
   obtain ⟨hj, hN⟩ := key _ _ hA
   rw [List.getElem?_append_right (by omega), Nat.add_sub_cancel_left]
   unfold idx
   rw [dif_pos hj]
   exact hN
/-- The things of these numbers. -/
def pk (N : List SP) : List Nat → List SP
 | [] => []
 | i :: r => match N[i]? with
  | some A => A :: pk N r
  | none => pk N r
theorem pk_map : ∀ (r : List Nat), r.all (· < N.length) = true → r.map (fun i => N[i]?) = (pk N r).map some
 | [], _ => rfl
 | i :: r, h => by
  rw [List.all_cons, Bool.and_eq_true, decide_eq_true_eq] at h
  unfold pk
  rw [List.getElem?_eq_getElem h.1]
  simp only [List.map_cons, List.getElem?_eq_getElem h.1, pk_map r h.2]
/-- What is given to a call (l) stands alone; the rest (r) joins the frame. -/
theorem Mem.focus (h : Mem w0 F w N) (r l : List Nat) (hl : ((r ++ l).all (· < N.length) && decide (r ++ l).Nodup) = true := by kernel_rfl) (hM : l.map (fun i => N[i]?) = M.map some := by rfl) : Mem w0 (F ++ pk N r) w M := by
 have hr : r.all (· < N.length) = true := by
  rw [Bool.and_eq_true, List.all_append, Bool.and_eq_true] at hl
  exact hl.1.1
 have h1 : Mem w0 F w (pk N r ++ M) := Mem.pick h (r ++ l) hl (by rw [List.map_append, pk_map r hr, hM, List.map_append])
 refine ⟨h1.bel, ?_⟩
 rw [List.append_assoc]
 exact h1.sep
theorem Mem.unfocus (h : Mem w0 (F ++ R) w M) : Mem w0 F w (R ++ M) := ⟨h.bel, by rw [← List.append_assoc]; exact h.sep⟩
theorem Mem.at_ (h : Mem w0 F w N) (hi : N[i]? = some A) : ∃ S, A.At w S ∧ ∀ k, S k → w0.heap.size ≤ k ∧ k < w.heap.size := by
 obtain ⟨hb, S, h1, h2, h3⟩ := h
 exact ⟨S (F.length + i), h1 _ A (by rw [List.getElem?_append_right (by omega), Nat.add_sub_cancel_left]; exact hi), fun k hk => h2 _ k hk⟩
/-- Thing number i: its blocks, and how it may turn. -/
theorem Mem.opn (h : Mem w0 F w N) (hi : N[i]? = some A) : ∃ S : Nat → Prop, A.At w S ∧ (∀ k, S k → w0.heap.size ≤ k ∧ k < w.heap.size) ∧ ∀ (w' : World) (B : SP) (S' : Nat → Prop), B.At w' S' → (∀ k, S' k → (S k ∨ w.heap.size ≤ k) ∧ k < w'.heap.size) → Chg S w w' → Mem w0 F w' (N.set i B) := by
 obtain ⟨hb, S, h1, h2, h3⟩ := h
 have hil : i < N.length := (List.getElem?_eq_some_iff.1 hi).1
 refine ⟨S (F.length + i), h1 (F.length + i) A (by rw [List.getElem?_append_right (by omega), Nat.add_sub_cancel_left]; exact hi), fun k hk => h2 _ k hk, ?_⟩
 intro w' B S' hB hS' hc
 refine ⟨hc.below hb (fun k hk => (h2 _ k hk).1), fun q => if q = F.length + i then S' else S q, ?_, ?_, ?_⟩
 ·intro q D hD
  have e : F ++ N.set i B = (F ++ N).set (F.length + i) B := by rw [List.set_append_right _ _ (by omega), Nat.add_sub_cancel_left]
  rw [e, List.getElem?_set] at hD
  dsimp only
  by_cases hq : q = F.length + i
  ·rw [if_pos hq]
   rw [if_pos hq.symm] at hD
   split at hD
   ·rw [← Option.some.inj hD]; exact hB
   ·cases hD
  ·rw [if_neg hq]
   rw [if_neg (fun e => hq e.symm)] at hD
   exact D.loc (h1 q D hD) (fun k hk => hc.block k (h2 _ k hk).2 (fun hk' => hq (h3 _ _ k hk hk')))
 ·intro q k hk
  (try dsimp only at hk)
  split at hk
  ·have := hS' k hk
   exact ⟨this.1.elim (fun e => (h2 _ k e).1) (fun e => Nat.le_trans hb.size e), this.2⟩
  ·exact ⟨(h2 _ k hk).1, Nat.lt_of_lt_of_le (h2 _ k hk).2 hc.size⟩
 ·intro q p k hq hp
  (try dsimp only at hq hp)
  split at hq <;> split at hp
  ·omega
  ·rcases (hS' k hq).1 with e | e
   ·have := h3 _ _ k e hp; omega
   ·have := (h2 _ k hp).2; omega
  ·rcases (hS' k hp).1 with e | e
   ·have := h3 _ _ k e hq; omega
   ·have := (h2 _ k hq).2; omega
  ·exact h3 _ _ k hq hp
theorem Mem.move (h : Mem w0 F w N) (hc : Chg (fun _ => False) w w') : Mem w0 F w' N := by
 obtain ⟨hb, S, h1, h2, h3⟩ := h
 exact ⟨hc.below hb (fun _ hk => hk.elim), S, fun q D hD => D.loc (h1 q D hD) (fun k hk => hc.block k (h2 _ k hk).2 (fun e => e)), fun q k hk => ⟨(h2 _ k hk).1, Nat.lt_of_lt_of_le (h2 _ k hk).2 hc.size⟩, h3⟩
theorem Mem.below (h : Mem w0 F w N) (hb : Below w.heap.size w w') : Mem w0 F w' N := h.move (Chg.of_below hb)
theorem Mem.drew (h : Mem w0 F w N) : Mem w0 F w.drew N := h.below (below_drew (Below.refl _ _))
theorem Mem.drewN (h : Mem w0 F w N) (n : Nat) : Mem w0 F (w.drewN n) N := h.below (pw_below_drewN (Below.refl _ _) n)
theorem Mem.drawn (h : Mem w0 F w N) (hd : Drawn0 w w') : Mem w0 F w' N := by
 obtain ⟨n, rfl⟩ := hd.out
 exact h.drewN n
/-- Something new. -/
theorem Mem.push (h : Mem w0 F w N) (A : SP) {S' : Nat → Prop} (hA : A.At w' S') (hS : ∀ k, S' k → w.heap.size ≤ k ∧ k < w'.heap.size) (hc : Chg (fun _ => False) w w') : Mem w0 F w' (N ++ [A]) := by
 have h0 := h.move hc
 obtain ⟨hb, S, h1, h2, h3⟩ := h
 refine ⟨h0.bel, fun q => if q = (F ++ N).length then S' else S q, ?_, ?_, ?_⟩
 ·intro q D hD
  rw [← List.append_assoc] at hD
  (try dsimp only)
  split
  ·rename_i hq
   rw [hq, List.getElem?_append_right (Nat.le_refl _), Nat.sub_self] at hD
   obtain rfl : A = D := by simpa using hD
   exact hA
  ·rename_i hq
   have hlt : q < (F ++ N).length := by
    have := (List.getElem?_eq_some_iff.1 hD).1
    rw [List.length_append, List.length_singleton] at this
    omega
   rw [List.getElem?_append_left hlt] at hD
   exact D.loc (h1 q D hD) (fun k hk => hc.block k (h2 _ k hk).2 (fun e => e))
 ·intro q k hk
  (try dsimp only at hk)
  split at hk
  ·exact ⟨Nat.le_trans hb.size (hS k hk).1, (hS k hk).2⟩
  ·exact ⟨(h2 _ k hk).1, Nat.lt_of_lt_of_le (h2 _ k hk).2 hc.size⟩
 ·intro q p k hq hp
  (try dsimp only at hq hp)
  split at hq <;> split at hp
  ·omega
  ·have := (hS k hq).1; have := (h2 _ k hp).2; omega
  ·have := (hS k hp).1; have := (h2 _ k hq).2; omega
  ·exact h3 _ _ k hq hp
/-- A call has ended that was given nothing: what it made is held, too. -/
theorem Mem.call (h : Mem w0 F w N) (k : Mem w [] w' L) : Mem w0 F w' (N ++ L) := by
 have h0 := h.below k.bel
 obtain ⟨hb, S, h1, h2, h3⟩ := h
 obtain ⟨kb, T, k1, k2, k3⟩ := k
 rw [List.nil_append] at k1
 refine ⟨h0.bel, fun q => if q < (F ++ N).length then S q else T (q - (F ++ N).length), ?_, ?_, ?_⟩
 ·intro q D hD
  rw [← List.append_assoc] at hD
  (try dsimp only)
  split
  ·rename_i hq
   rw [List.getElem?_append_left hq] at hD
   exact D.loc (h1 q D hD) (fun k hk => kb.block k (h2 _ k hk).2)
  ·rename_i hq
   rw [List.getElem?_append_right (by omega)] at hD
   exact k1 _ D hD
 ·intro q k hk
  (try dsimp only at hk)
  split at hk
  ·exact ⟨(h2 _ k hk).1, Nat.lt_of_lt_of_le (h2 _ k hk).2 kb.size⟩
  ·exact ⟨Nat.le_trans hb.size (k2 _ k hk).1, (k2 _ k hk).2⟩
 ·intro q p k hq hp
  (try dsimp only at hq hp)
  split at hq <;> split at hp
  ·exact h3 _ _ k hq hp
  ·have := (h2 _ k hq).2; have := (k2 _ k hp).1; omega
  ·have := (h2 _ k hp).2; have := (k2 _ k hq).1; omega
  ·have := k3 _ _ k hq hp; omega
/-- Thing number i is told otherwise. -/
theorem Mem.tell (h : Mem w0 F w N) (hi : N[i]? = some A) (B : SP) (hB : ∀ S, A.At w S → B.At w S) : Mem w0 F w (N.set i B) := by
 obtain ⟨S, hA, hS, k⟩ := h.opn hi
 exact k w B S (hB S hA) (fun k hk => ⟨.inl hk, (hS k hk).2⟩) ⟨rfl, rfl, rfl, Nat.le_refl _, fun _ _ _ => rfl⟩
-- reads
theorem Mem.bx {t g : Nat} {cs : List Value} (h : Mem w0 F w N) (i : Nat) (hi : N[i]? = some (box t g cs)) : w.heap[g]? = some (.cells cs.toArray t (0, 0)) := by
 obtain ⟨S, hA, _⟩ := h.at_ hi
 exact hA.1
theorem Mem.q {α : Type} {d : Kd α} {e : Nat} {v : Value} {xs : List α} (h : Mem w0 F w N) (i : Nat) (hi : N[i]? = some (row d e v xs)) : ∃ S, d.Q e w 0 S v xs := by
 obtain ⟨S, hA, _⟩ := h.at_ hi
 exact ⟨S, hA⟩
/-- A row's form, its room, and what is read of it. -/
theorem Mem.rd {α : Type} {d : Kd α} {e : Nat} {v : Value} {xs : List α} (h : Mem w0 F w N) (i : Nat) (hi : N[i]? = some (row d e v xs)) : ∃ X c, v = .slice X xs.length c := by
 obtain ⟨S, hq⟩ := h.q i hi
 obtain ⟨X, c, hv, _⟩ := Kd.Q_slice hq
 exact ⟨X, c, hv⟩
theorem Mem.C {α : Type} {d : Kd α} {e n c : Nat} {X : Option Addr} {xs : List α} (h : Mem w0 F w N) (i : Nat) (hi : N[i]? = some (row d e (.slice X n c) xs)) : n = xs.length ∧ n ≤ c ∧ d.C w X xs.length xs := by
 obtain ⟨S, hq⟩ := h.q i hi
 exact Kd.Q_reads' hq
theorem Mem.rdR {α : Type} {d : Kd α} {e : Nat} {v : Value} {xs : List α} (h : Mem w0 F w N) (i : Nat) (hi : N[i]? = some (rowR d e v xs)) : ∃ X c, v = .slice X xs.length c := by
 obtain ⟨S, hq, _⟩ := h.at_ hi
 exact Kd.R_slice hq
theorem Mem.CR {α : Type} {d : Kd α} {e n c : Nat} {X : Option Addr} {xs : List α} (h : Mem w0 F w N) (i : Nat) (hi : N[i]? = some (rowR d e (.slice X n c) xs)) : n = xs.length ∧ n ≤ c ∧ d.C w X xs.length xs := by
 obtain ⟨S, hq, _⟩ := h.at_ hi
 exact Kd.R_reads' hq
/-- A queue that begins where its block begins is a row. -/
theorem R_of_Q0 {α : Type} {d : Kd α} {e g n c : Nat} {w : World} {base : Nat} {ok : Nat → Prop} {xs : List α} (h : d.Q e w base ok (.slice (some ⟨g, 0, none⟩) n c) xs) (hc : 0 < c) (hs : 0 < d.sz) : d.R e w base ok (.slice (some ⟨g, 0, none⟩) n c) xs := by
 obtain ⟨h0, inner, ⟨hl, ho⟩, hr⟩ := h
 refine ⟨h0, inner, ⟨hl, ?_⟩, hr⟩
 rcases ho with ⟨_, A, hv, _⟩ | ⟨g', off, cap, cur, hv, hb, hh, hnc, hcm, hcs, ht⟩
 ·injection hv with _ _ h3
  omega
 ·injection hv with ha h2 h3
  injection ha with ha
  injection ha with hg hoff
  have : off = 0 := by
   rcases Nat.eq_zero_or_pos off with h | h
   ·exact h
   ·have := Nat.mul_pos h hs
    omega
  subst this
  subst hg
  subst h3
  refine .inr ⟨g, c, cur, by rw [h2], hb, hh, hnc, by omega, by rw [hcs, Nat.zero_add], ?_⟩
  rw [Nat.zero_mul, List.drop_zero] at ht
  exact ht
/-- An empty row is always there. -/
theorem Mem.nl {α : Type} (h : Mem w0 F w N) (d : Kd α) (e : Nat) : Mem w0 F w (N ++ [rowR d e (.slice none 0 0) []]) := h.push _ (S' := fun _ => False) (Kd.R_nil d e w 0 _) (fun _ h => h.elim) ⟨rfl, rfl, rfl, Nat.le_refl _, fun _ _ _ => rfl⟩
theorem Mem.form {α : Type} {d : Kd α} {e n c : Nat} {X : Option Addr} {xs : List α} (h : Mem w0 F w N) (i : Nat) (hi : N[i]? = some (rowR d e (.slice X n c) xs)) (hp : 0 < xs.length) : ∃ g, X = some ⟨g, 0, none⟩ := by
 obtain ⟨S, hq, _⟩ := h.at_ hi
 obtain ⟨g, cap, hv, _⟩ := Kd.R_form hq hp
 injection hv with h1
 exact ⟨g, h1⟩
/-- The cells of element j. -/
theorem Mem.el {α : Type} {d : Kd α} {e g n c : Nat} {xs : List α} (h : Mem w0 F w N) (i : Nat) (hi : N[i]? = some (rowR d e (.slice (some ⟨g, 0, none⟩) n c) xs)) (z : α) (j : Int) (h0 : 0 ≤ j) (h1 : j < n) (cells : List Value) (ho : ∀ ok cs, d.M w 0 ok (xs.getD j.toNat z) cs → cs = cells) :
  (∀ q u, cells[q]? = some u → w.cell? ⟨g, j.toNat * d.sz + q, none⟩ = some u) ∧ ∀ q, w.frozen? ⟨g, j.toNat * d.sz + q, none⟩ = false := by
 obtain ⟨S, hq, _⟩ := h.at_ hi
 obtain ⟨cs, _, hm, hc, hf⟩ := Kd.R_elem hq z j h0 h1
 obtain rfl := ho _ cs hm
 exact ⟨hc, hf⟩
theorem Mem.el3 {α : Type} {d : Kd α} {e g n c : Nat} {xs : List α} (h : Mem w0 F w N) (i : Nat) (hi : N[i]? = some (rowR d e (.slice (some ⟨g, 0, none⟩) n c) xs)) (z : α) (j : Int) (h0 : 0 ≤ j) (h1 : j < n) (c0 c1 c2 : Value) (ho : ∀ ok cs, d.M w 0 ok (xs.getD j.toNat z) cs → cs = [c0, c1, c2]) (hs : d.sz = 3 := by rfl) :
  w.cell? ⟨g, j.toNat * 3, none⟩ = some c0 ∧ w.cell? ⟨g, j.toNat * 3 + 1, none⟩ = some c1 ∧ w.cell? ⟨g, j.toNat * 3 + 2, none⟩ = some c2 ∧ w.frozen? ⟨g, j.toNat * 3, none⟩ = false ∧ w.frozen? ⟨g, j.toNat * 3 + 1, none⟩ = false ∧ w.frozen? ⟨g, j.toNat * 3 + 2, none⟩ = false := by
 obtain ⟨hc, hf⟩ := h.el i hi z j h0 h1 [c0, c1, c2] ho
 rw [hs] at hc hf
 exact ⟨hc 0 _ rfl, hc 1 _ rfl, hc 2 _ rfl, hf 0, hf 1, hf 2⟩
/-- A name for a row's elements. -/
theorem Mem.nm {α : Type} {d : Kd α} {e : Nat} {v : Value} {xs y : List α} (h : Mem w0 F w N) (i : Nat) (hi : N[i]? = some (rowR d e v xs)) (hy : y = xs) : Mem w0 F w (N.set i (rowR d e v y)) := h.tell hi _ (fun S hA => hy ▸ hA)
theorem Mem.nmQ {α : Type} {d : Kd α} {e : Nat} {v : Value} {xs y : List α} (h : Mem w0 F w N) (i : Nat) (hi : N[i]? = some (row d e v xs)) (hy : y = xs) : Mem w0 F w (N.set i (row d e v y)) := h.tell hi _ (fun S hA => hy ▸ hA)
theorem Mem.str {P : Program} {src dst e e' : TypeId} {v : Value} {xs : List Int} (h : Mem w0 F w N) (i : Nat) (hi : N[i]? = some (rowR (Kd.int .u8) e' v xs)) (hs : P.underlying src = some (.slice e)) (he : P.underlying e = some (.int .u8)) (hd : P.underlying dst = some .string) : (convert src dst v).run P w = .ok (.string (strOfNums xs)) w := by
 obtain ⟨S, hq, _⟩ := h.at_ hi
 exact own_string hs he hd (Kd.own_of_R hq)
theorem Mem.toQ {α : Type} {d : Kd α} {e : Nat} {v : Value} {xs : List α} (h : Mem w0 F w N) (i : Nat) (hi : N[i]? = some (rowR d e v xs)) : Mem w0 F w (N.set i (row d e v xs)) := h.tell hi _ (fun S hA => Kd.Q_of_R hA)
theorem Mem.cell {p : Addr} {v : Value} (h : Mem w0 F w N) (hc : w0.cell? p = some v) : w.cell? p = some v := (h.bel.cell (World.block_lt_of_cell? w0 _ hc)).trans hc
theorem Mem.came {α : Type} {d : Kd α} {n : Nat} {X : Option Addr} {xs : List α} (h : Mem w0 F w N) (hc : d.C w0 X n xs) : d.C w X n xs := Kd.C_below hc h.bel
end
end Go.Proofs.Ytanakbmhclpamaa.Mm

namespace Go.Proofs.Ytanakbmhclpamaa.Mm
open Go.RowKit Go.Proofs.YtanakbmhclpamaaW.PrintWords Go.Proofs.YtanakbmhclpamaaW.PrintLast Go.Proofs.YtanakbmhclpamaaW.PrintMore Go.Proofs.Ytanakbmhclpamaa.Sh
set_option linter.unusedVariables false
section
variable {P : Program} {ops : Array Oper} {rest : List Oper} {o : Oper} {a : Act} {Q : Exit → Act → World → Prop} {K : Act → World → Prop} {w0 W W0 : World} {F N L : List SP} {A : SP} {α : Type}
/-- An event in a plain region. -/
theorem PL (h : ∀ K : Act → World → Prop, (∀ a w, wpList P ops Q rest a w → K a w) → Region.wanted o (yielded ops a.tmps) = true → Oper.wp P o a W K Q) (hg : Region.wanted o (yielded ops a.tmps) = true := by rfl) : wpList P ops Q (o :: rest) a W := by
 unfold wpList
 rw [if_pos hg]
 exact .inl (h _ (fun _ _ h => h) hg)
/-- An event as_ a step of a region that draws. -/
theorem ST (h : Oper.wp P o a W K Q) (hw : Region.wanted o (yielded ops a.tmps) = true := by rfl) : if Region.wanted o (yielded ops a.tmps) = true then Oper.wp P o a W K Q else K (a.put o.dst undef) W := by
 rw [if_pos hw]
 exact h
theorem wp_value {v : Value} {w1 : World} (hrun : (execOp a.eval o).run P W = .ok (.value v) w1) (h : K (a.put o.dst v) w1) : Oper.wp P o a W K Q := by
 unfold Oper.wp
 rw [hrun]
 exact h
/-- A variable in memory. -/
theorem eB (d : Tmp) (T : TypeId) (cs : List Value) (hM : Mem w0 F W0 N) (hd : o.dst = some d) (h : ∀ g w1, Mem w0 F w1 (N ++ [box T g cs]) → K (a.put o.dst (.pointer (some ⟨g, 0, none⟩))) w1)
  (hq : Drawn0 W0 W := by repeat (first | exact Drawn0.refl _ | apply Drawn0.step)) (hrun : (execOp a.eval o).run P W = .ok (.value (.pointer (some ⟨W.heap.size, 0, none⟩))) (W.alloc (.cells cs.toArray T (0, 0))) := by first | (go_simp; done) | (go_simp; rfl)) : Oper.wp P o a W K Q :=
 wp_value hrun (h _ _ ((hM.drawn hq).push (box T W.heap.size cs) (S' := fun k => k = W.heap.size) ⟨blk_new W _, rfl⟩ (fun k hk => by subst hk; exact ⟨Nat.le_refl _, by simp⟩) (Chg.of_below (below_alloc (Below.refl _ _) _))))
/-- A literal. -/
theorem eL (d : Tmp) (kd : Kd α) (e : Nat) (xs : List α) (inner : List Value) (hrep : Reps (kd.M W 0 (fun _ => False)) kd.sz xs inner) (hM : Mem w0 F W0 N) (hd : o.dst = some d) (h : ∀ v w1, Mem w0 F w1 (N ++ [rowR kd e v xs]) → K (a.put o.dst v) w1)
  (hq : Drawn0 W0 W := by repeat (first | exact Drawn0.refl _ | apply Drawn0.step)) (hm : xs.length ≤ 9223372036854775807 := by simp) (hrun : (execOp a.eval o).run P W = .ok (.value (.slice (some ⟨W.heap.size, 0, none⟩) xs.length xs.length)) (W.alloc (.cells inner.toArray e)) := by first | (go_simp; done) | (go_simp; rfl)) : Oper.wp P o a W K Q := by
 refine wp_value hrun (h _ _ ((hM.drawn hq).push (rowR kd e _ xs) (S' := fun k => k = W.heap.size) ⟨fun k hk => ?_, inner, ?_, ?_⟩ (fun k hk => by subst hk; exact ⟨Nat.le_refl _, by simp⟩) (Chg.of_below (below_alloc (Below.refl _ _) _))))
 ·have : W.heap.size = k := by simpa [Value.ownBlock] using hk
  exact this.symm
 ·have h2 := World.ownsRow_lit (base := 0) (e := e) (size := kd.sz) W inner.toArray xs.length (Nat.zero_le _) (by simpa [maxLen] using hm) (by simpa using hrep.1)
  simpa using h2
 ·exact hrep.imp_ (fun p c hp => kd.M_mono (fun k (hk : False ∧ _) => hk.1.elim) (Kd.M_below (kd.M_bound hp) (below_alloc (Below.refl _ _) _)))
/-- append(v, ys...) onto a row of the call's own (number i). Rr: what is known of a read element's cells. -/
theorem eA (i : Nat) (s x : Operand) (t e : TypeId) (d : Kd α) (v : Value) (xs ys : List α) (X : Option Addr) (m c : Nat) {Rr : α → List Value → Prop} {z : Value} {bytes : Nat} (hw : Region.wanted o (yielded ops a.tmps) = true) (hM : Mem w0 F W0 N) (ho : o.op = .call { callee := .builtin .append, args := #[s, x], argTypes := #[t, t] })
  (ht : P.underlying t = some (.slice e)) (hinfo : (P.info? e).map (fun i => (i.zero, i.size, i.bytes)) = some (some z, d.sz, bytes)) (hi : N[i]? = some (rowR d e v xs)) (HR : ReadsRow Rr d.sz W X m ys) (hl : (xs.length + m) * bytes ≤ 140737488355328)
  (h : ∀ v1 w1, Mem w0 F w1 (N.set i (rowR d e v1 (xs ++ ys))) → K (a.put o.dst v1) w1)
  (hq : Drawn0 W0 W := by repeat (first | exact Drawn0.refl _ | apply Drawn0.step)) (hKM : ∀ x cs, Rr x cs → d.M W 0 (fun _ => False) x cs := by exact fun _ _ h => h) (hs : a.eval s = v := by first | rfl | (simp only [List.length_drop, List.length_take, List.length_append, List.length_set, List.length_cons, List.length_nil, Int.reduceToNat]; rfl)) (hx : a.eval x = .slice X m c := by first | rfl | (simp only [List.length_drop, List.length_take, List.length_append, List.length_set, List.length_cons, List.length_nil, Int.reduceToNat]; rfl)) (hz : z.cells.size = d.sz := by rfl) (hs0 : 0 < d.sz := by decide) (hb0 : 0 < bytes := by omega) : Oper.wp P o a W K Q := by
 obtain ⟨S, hA, hS, fin⟩ := (hM.drawn hq).opn hi
 have key := Kd.R_append_rows_step (P := P) (Q := Q) (Kc := K) (w0 := W) d 0 hw s x t e z bytes ho ht hinfo hz hs0 hb0 v xs ys X m c (fun k => S k ∨ W.heap.size ≤ k) (fun _ => False) hs hx (Kd.R_mono hA (fun _ h => .inl h)) HR hKM (fun _ h => h.elim) (fun _ h => .inr h) (Below.mono (Below.refl W.heap.size W) (Nat.zero_le _)) (Nat.zero_le _) hl
  (fun v1 w1 h1 _ h3 _ => h v1 w1 (fin w1 _ _ (Kd.R_bound h1) (fun k hk => ⟨hk.1, hk.2.2.1⟩) ((Chg.of_grown h3).wide (fun k hk => hA.1 k hk))))
 rwa [if_pos hw] at key
/-- The same onto a queue; what is appended isn't empty. -/
theorem eAq (i : Nat) (s x : Operand) (t e : TypeId) (d : Kd α) (v : Value) (xs ys : List α) (X : Option Addr) (m c : Nat) {Rr : α → List Value → Prop} {z : Value} {bytes : Nat} (hw : Region.wanted o (yielded ops a.tmps) = true) (hM : Mem w0 F W0 N) (ho : o.op = .call { callee := .builtin .append, args := #[s, x], argTypes := #[t, t] })
  (ht : P.underlying t = some (.slice e)) (hinfo : (P.info? e).map (fun i => (i.zero, i.size, i.bytes)) = some (some z, d.sz, bytes)) (hi : N[i]? = some (row d e v xs)) (HR : ReadsRow Rr d.sz W X m ys) (hl : (xs.length + m) * bytes ≤ 140737488355328) (hm : 0 < m)
  (h : ∀ v1 w1, Mem w0 F w1 (N.set i (row d e v1 (xs ++ ys))) → K (a.put o.dst v1) w1)
  (hq : Drawn0 W0 W := by repeat (first | exact Drawn0.refl _ | apply Drawn0.step)) (hKM : ∀ x cs, Rr x cs → d.M W 0 (fun _ => False) x cs := by exact fun _ _ h => h) (hs : a.eval s = v := by first | rfl | (simp only [List.length_drop, List.length_take, List.length_append, List.length_set, List.length_cons, List.length_nil, Int.reduceToNat]; rfl)) (hx : a.eval x = .slice X m c := by first | rfl | (simp only [List.length_drop, List.length_take, List.length_append, List.length_set, List.length_cons, List.length_nil, Int.reduceToNat]; rfl)) (hz : z.cells.size = d.sz := by rfl) (hs0 : 0 < d.sz := by decide) (hb0 : 0 < bytes := by omega) : Oper.wp P o a W K Q := by
 obtain ⟨S, hA, hS, fin⟩ := (hM.drawn hq).opn hi
 have key := Kd.Q_append_rows_step (P := P) (Q := Q) (Kc := K) (w0 := W) d 0 hw s x t e z bytes ho ht hinfo hz hs0 hb0 v xs ys X m c (fun k => S k ∨ W.heap.size ≤ k) (fun _ => False) hs hx (Kd.Q_mono hA (fun _ h => .inl h)) HR hKM (fun _ h => h.elim) (fun _ h => .inr h) (Below.mono (Below.refl W.heap.size W) (Nat.zero_le _)) (Nat.zero_le _) hl
  (fun v1 w1 h1 _ h3 _ => h v1 w1 (fin w1 _ _ (Kd.Q_bound h1) (fun k hk => ⟨hk.1, hk.2.2.1⟩) ((Chg.of_grown h3).wide (fun k hk => hA.1 k hk)))) hm
 rwa [if_pos hw] at key
/-- append([]T(nil), ys...): a row is new. -/
theorem eAn (s x : Operand) (t e : TypeId) (d : Kd α) (ys : List α) (X : Option Addr) (m c : Nat) {Rr : α → List Value → Prop} {z : Value} {bytes : Nat} (hw : Region.wanted o (yielded ops a.tmps) = true) (hM : Mem w0 F W0 N) (ho : o.op = .call { callee := .builtin .append, args := #[s, x], argTypes := #[t, t] })
  (ht : P.underlying t = some (.slice e)) (hinfo : (P.info? e).map (fun i => (i.zero, i.size, i.bytes)) = some (some z, d.sz, bytes)) (HR : ReadsRow Rr d.sz W X m ys) (hl : m * bytes ≤ 140737488355328)
  (h : ∀ v1 w1, Mem w0 F w1 (N ++ [rowR d e v1 ys]) → K (a.put o.dst v1) w1)
  (hq : Drawn0 W0 W := by repeat (first | exact Drawn0.refl _ | apply Drawn0.step)) (hKM : ∀ x cs, Rr x cs → d.M W 0 (fun _ => False) x cs := by exact fun _ _ h => h) (hs : a.eval s = .slice none 0 0 := by first | rfl | (simp only [List.length_drop, List.length_take, List.length_append, List.length_set, List.length_cons, List.length_nil, Int.reduceToNat]; rfl)) (hx : a.eval x = .slice X m c := by first | rfl | (simp only [List.length_drop, List.length_take, List.length_append, List.length_set, List.length_cons, List.length_nil, Int.reduceToNat]; rfl)) (hz : z.cells.size = d.sz := by rfl) (hs0 : 0 < d.sz := by decide) (hb0 : 0 < bytes := by omega) : Oper.wp P o a W K Q := by
 have hM1 := hM.drawn hq
 have key := Kd.R_append_rows_step (P := P) (Q := Q) (Kc := K) (w0 := W) d 0 hw s x t e z bytes ho ht hinfo hz hs0 hb0 (.slice none 0 0) [] ys X m c (fun k => W.heap.size ≤ k) (fun _ => False) hs hx (Kd.R_nil _ _ _ _ _) HR hKM (fun _ h => h.elim) (fun _ h => h) (Below.mono (Below.refl W.heap.size W) (Nat.zero_le _)) (Nat.zero_le _) (by simpa using hl)
  (fun v1 w1 h1 _ h3 _ => h v1 w1 (hM1.push _ (Kd.R_bound h1) (fun k hk => ⟨hk.1, hk.2.2.1⟩) ((Chg.of_grown h3).wide (fun k hk => by simp [Value.ownBlock] at hk))))
 rwa [if_pos hw] at key
/-- Cells off, off + 1, .. get new values. -/
def putAt (cs : List Value) (off : Nat) (seg : List Value) : List Value := cs.take off ++ seg ++ cs.drop (off + seg.length)
/-- A store into a variable. -/
theorem eS (i : Nat) (p : Tmp) (off : Nat) (seg : List Value) {T g : Nat} {cs : List Value} {t : TypeId} {x : Operand} (hM : Mem w0 F W0 N) (ho : o.op = .store t (.tmp p) x) (hi : N[i]? = some (box T g cs)) (h : ∀ w1, Mem w0 F w1 (N.set i (box T g (putAt cs off seg))) → K a w1)
  (hfit : (decide (off + seg.length ≤ cs.length) && seg.all (·.oneCell')) = true := by rfl) (hp : a.eval (.tmp p) = .pointer (some ⟨g, off, none⟩) := by rfl) (hx : (a.eval x).cells.toList = seg := by first | rfl | (simp only [List.length_drop, List.length_take, List.length_append, List.length_set, List.length_cons, List.length_nil, Int.reduceToNat]; rfl)) (ht : (P.info? t).map (·.size) = some seg.length := by kernel_rfl)
  (hN : o.dst = none := by rfl) (hq : Drawn0 W0 W := by repeat (first | exact Drawn0.refl _ | apply Drawn0.step)) : Oper.wp P o a W K Q := by
 obtain ⟨S, ⟨hA, hg⟩, hS, fin⟩ := (hM.drawn hq).opn hi
 simp only [Bool.and_eq_true, decide_eq_true_eq, List.all_eq_true] at hfit
 have hr := run_store_run (P := P) (w := W) (g := g) (o := off) t (a.eval x) seg hA hx ht (by simpa using hfit.1) (fun q hq => hfit.2 q hq)
 obtain ⟨cur', h3, h4, h5⟩ := setCells_row seg off W cs.toArray hA (by simpa using hfit.1)
 obtain ⟨s1, s2, s3, s4⟩ := setCells_same g seg off W
 have he : cur' = (putAt cs off seg).toArray := by
  apply Array.toList_inj.1
  rw [h5]
  simp [putAt]
 unfold Oper.wp execOp
 simp only [ho, hp, Sem.run_bind, Sem.run_pure, Result.andThen_ok, hr]
 show K (a.put o.dst undef) _
 rw [hN]
 refine h _ (fin _ _ (fun k => k = g) ⟨by rw [h3, he], rfl⟩ (fun k hk => by subst hk; exact ⟨.inl hg, blk_lt h3⟩) ⟨s1, s2, s3, by rw [s4]; exact Nat.le_refl _, fun k _ hn => setCells_far seg _ k (fun e => hn (e ▸ hg))⟩)
/-- A call of a Go function. -/
theorem eC {f : FuncId} {fn : Func} {as_ : Array Operand} {ts : Array TypeId} {R : Ending → World → Prop} (dd : Option Tmp) (hd : o.dst = dd) (args : Array Value) (hop : o.op = .call { callee := .value (.func f), args := as_, argTypes := ts }) (hf : P.funcs[f]? = some fn) (hc : Calls P f args W R) (h : ∀ e w', R e w' → ∃ v, e = .returned v ∧ K (a.put dd v) w')
  (hargs : as_.map a.eval = args := by (try simp only [List.map_toArray, List.map_cons, List.map_nil]); first | done | rfl | (simp only [List.length_drop, List.length_take, List.length_append, List.length_set, List.length_cons, List.length_nil, Nat.zero_add, Int.reduceToNat]; done) | (simp only [List.length_drop, List.length_take, List.length_append, List.length_set, List.length_cons, List.length_nil, Nat.zero_add, Int.reduceToNat]; rfl)) (hname : (fn.name == "runtime.NumGoroutine") = false := by kernel_rfl) (hb : fn.body.isSome = true := by rfl) : Oper.wp P o a W K Q := by
 subst hd
 have he := enters_ hf hname hb args W
 have hrun : (execOp a.eval o).run P W = .ok (.enter f args) W := by
  unfold execOp
  simp [hop, resolve, Deferred.ofValue, invoke, Act.eval, hargs, he]
 unfold Oper.wp
 rw [hrun, Oper.upon_enter]
 refine hc.mono ?_
 intro e w' hR
 obtain ⟨v, rfl, hK⟩ := h e w' hR
 exact hK
/-- xs[k:] of a row of the call's own: a queue. -/
theorem eD (i : Nat) (t e : TypeId) (d : Kd α) (x lo : Operand) (k : Int) (xs : List α) (X : Option Addr) (c : Nat) {z : Value} {bytes : Nat} (hM : Mem w0 F W0 N) (ho : o.op = .slice t x (some lo) none none) (ht : P.underlying t = some (.slice e)) (hinfo : (P.info? e).map (fun i => (i.zero, i.size, i.bytes)) = some (some z, d.sz, bytes)) (hi : N[i]? = some A) (hA : ∀ w S, A.At w S → d.Q e w 0 S (.slice X xs.length c) xs) (h0 : 0 ≤ k) (h1 : k ≤ xs.length)
  (h : ∀ v1, Mem w0 F W (N.set i (row d e v1 (xs.drop k.toNat))) → K (a.put o.dst v1) W) (hx : a.eval x = .slice X xs.length c := by first | rfl | (simp only [List.length_drop, List.length_take, List.length_append, List.length_set, List.length_cons, List.length_nil, Int.reduceToNat]; rfl)) (hl : a.eval lo = .int .i64 k := by rfl)
  (hq : Drawn0 W0 W := by repeat (first | exact Drawn0.refl _ | apply Drawn0.step)) : Oper.wp P o a W K Q := by
 have hel : P.elem t = e := by simp [Program.elem, ht]
 have hu : P.underlying t = some (.slice (P.elem t)) := by rw [hel]; exact ht
 obtain ⟨S, hS, hb, fin⟩ := (hM.drawn hq).opn hi
 obtain ⟨i0, hi0, _, hsz, _⟩ := info_parts hinfo
 have hcut := cut_from (P := P) t e .i64 ht hi0 d.sz hsz X xs.length c k h0 h1 W
 have hd := Kd.Q_drop (k := k.toNat) (hA W S hS) (by omega)
 refine wp_value (by unfold execOp; simp [ho, hx, hl, run_sliceAt_slice (h := hu), hcut]) (h _ (fin W _ S hd (fun q hq => ⟨.inl hq, (hb q hq).2⟩) ⟨rfl, rfl, rfl, Nat.le_refl _, fun _ _ _ => rfl⟩))
/-- xs[:k], only read. -/
theorem eRt (t e : TypeId) (d : Kd α) (x hi_ : Operand) (k : Int) (xs : List α) (X : Option Addr) (c : Nat) {z : Value} {bytes : Nat} (ho : o.op = .slice t x none (some hi_) none) (ht : P.underlying t = some (.slice e)) (hinfo : (P.info? e).map (fun i => (i.zero, i.size, i.bytes)) = some (some z, d.sz, bytes)) (hC : d.C W X xs.length xs) (hc : xs.length ≤ c) (h0 : 0 ≤ k) (h1 : k ≤ xs.length)
  (h : ∀ X' c', d.C W X' (xs.take k.toNat).length (xs.take k.toNat) → (xs.take k.toNat).length ≤ c' → K (a.put o.dst (.slice X' (xs.take k.toNat).length c')) W) (hx : a.eval x = .slice X xs.length c := by first | rfl | (simp only [List.length_drop, List.length_take, List.length_append, List.length_set, List.length_cons, List.length_nil, Int.reduceToNat]; rfl)) (hl : a.eval hi_ = .int .i64 k := by rfl) : Oper.wp P o a W K Q := by
 have hel : P.elem t = e := by simp [Program.elem, ht]
 have hu : P.underlying t = some (.slice (P.elem t)) := by rw [hel]; exact ht
 obtain ⟨i0, hi0, _, hsz, _⟩ := info_parts hinfo
 have hcut := cut_to (P := P) t e .i64 ht hi0 X xs.length c k h0 h1 hc W
 have hl2 : (xs.take k.toNat).length = k.toNat := by rw [List.length_take]; omega
 refine wp_value (v := .slice X (xs.take k.toNat).length c) (by rw [hl2]; unfold execOp; simp [ho, hx, hl, run_sliceAt_slice (h := hu), hcut]) (h _ _ (Kd.C_take hC (by omega)) (by omega))
/-- out[j].f = u of a row of the call's own: z0 is the kind's zero, cells what element j was before. -/
theorem eP (i : Nat) (p : Tmp) (j : Int) (off : Nat) (seg : List Value) (d : Kd α) (e : TypeId) (xs : List α) (x' z0 : α) (cells : List Value) {t : TypeId} {x : Operand} {g g2 n c o' : Nat} (hM : Mem w0 F W0 N) (ho : o.op = .store t (.tmp p) x) (hi : N[i]? = some A) (hA : ∀ w S, A.At w S → d.Q e w 0 S (.slice (some ⟨g, g2, none⟩) n c) xs) (B : SP) (hB : ∀ w S, d.Q e w 0 S (.slice (some ⟨g, g2, none⟩) n c) (xs.set j.toNat x') → A.At W S → B.At w S) (h0 : 0 ≤ j) (h1 : j < n)
  (hopn : ∀ ok cs, d.M W 0 ok (xs.getD j.toNat z0) cs → cs = cells) (hmk : d.M W 0 (fun _ => False) x' (cells.take off ++ seg ++ cells.drop (off + seg.length))) (h : ∀ w1, Mem w0 F w1 (N.set i B) → K a w1)
  (hp : a.eval (.tmp p) = .pointer (some ⟨g, o', none⟩) := by rfl) (hoff : o' = g2 + j.toNat * d.sz + off := by first | rfl | exact congrArg (g2 + ·) (Nat.mul_one _).symm) (hx : (a.eval x).cells.toList = seg := by first | rfl | (simp only [List.length_drop, List.length_take, List.length_append, List.length_set, List.length_cons, List.length_nil, Int.reduceToNat]; rfl)) (ht : (P.info? t).map (·.size) = some seg.length := by kernel_rfl) (hone : seg.all (·.oneCell') = true := by rfl) (hj : off + seg.length ≤ d.sz := by exact Nat.le_of_ble_eq_true rfl) (hN : o.dst = none := by rfl)
  (hq : Drawn0 W0 W := by repeat (first | exact Drawn0.refl _ | apply Drawn0.step)) : Oper.wp P o a W K Q := by
 subst hoff
 obtain ⟨S, hS, hb, fin⟩ := (hM.drawn hq).opn hi
 have hQ := hA W S hS
 obtain ⟨hn, hnc, _⟩ := Kd.Q_reads' hQ
 obtain ⟨cs, hcl, hMc, hcc, _⟩ := Kd.Q_elem hQ z0 j h0 h1
 obtain rfl := hopn _ cs hMc
 obtain ⟨hrow, hg⟩ := Kd.Q_seg hQ j h0 h1 hcl hcc hj hmk (fun _ hk => hk.elim)
 have hgS : S g := hQ.1 g rfl
 have hrun : (Instr.storeAt t (.pointer (some ⟨g, g2 + j.toNat * d.sz + off, none⟩)) (a.eval x)).run P W = .ok () (W.setCells g (g2 + j.toNat * d.sz + off) seg) := by
  obtain ⟨_, inner, ⟨_, hv | ⟨g', of, cap', cur, hv, _, hh, _, _, hcs, _⟩⟩, _⟩ := hQ
  ·have hn0 := hv.1
   omega
  injection hv with ha _ hc'
  injection ha with ha
  injection ha with hg' ho'
  subst hg'; subst hc'; subst ho'
  refine run_store_run t _ seg hh hx ht ?_ (fun q hq => List.all_eq_true.1 hone q hq)
  have h3 : j.toNat * d.sz + d.sz ≤ n * d.sz := by rw [← Nat.succ_mul]; exact Nat.mul_le_mul_right _ (by omega)
  have h4 : n * d.sz ≤ c * d.sz := Nat.mul_le_mul_right _ hnc
  have h5 : (of + c) * d.sz = of * d.sz + c * d.sz := Nat.add_mul _ _ _
  omega
 unfold Oper.wp execOp
 simp only [ho, hp, Sem.run_bind, Sem.run_pure, Result.andThen_ok, hrun]
 show K (a.put o.dst undef) _
 rw [hN]
 refine h _ (fin _ _ S (hB _ S hrow hS) (fun k hk => ⟨.inl hk, Nat.lt_of_lt_of_le (hb k hk).2 hg.size⟩) ((Chg.of_grown hg).wide (fun k hk => by injection hk with hk; exact hk ▸ hgS)))
theorem ePR (i : Nat) (p : Tmp) (j : Int) (off : Nat) (seg : List Value) (d : Kd α) (e : TypeId) (xs : List α) (x' z0 : α) (cells : List Value) {t : TypeId} {x : Operand} {g n c o' : Nat} (hM : Mem w0 F W0 N) (ho : o.op = .store t (.tmp p) x) (hi : N[i]? = some (rowR d e (.slice (some ⟨g, 0, none⟩) n c) xs)) (h0 : 0 ≤ j) (h1 : j < n)
  (hopn : ∀ ok cs, d.M W 0 ok (xs.getD j.toNat z0) cs → cs = cells) (hmk : d.M W 0 (fun _ => False) x' (cells.take off ++ seg ++ cells.drop (off + seg.length))) (h : ∀ w1, Mem w0 F w1 (N.set i (rowR d e (.slice (some ⟨g, 0, none⟩) n c) (xs.set j.toNat x'))) → K a w1)
  (hp : a.eval (.tmp p) = .pointer (some ⟨g, o', none⟩) := by rfl) (hoff : o' = j.toNat * d.sz + off := by first | rfl | exact (Nat.mul_one _).symm) (hx : (a.eval x).cells.toList = seg := by first | rfl | (simp only [List.length_drop, List.length_take, List.length_append, List.length_set, List.length_cons, List.length_nil, Int.reduceToNat]; rfl)) (ht : (P.info? t).map (·.size) = some seg.length := by kernel_rfl) (hone : seg.all (·.oneCell') = true := by rfl) (hj : off + seg.length ≤ d.sz := by exact Nat.le_of_ble_eq_true rfl) (hN : o.dst = none := by rfl) (hs0 : 0 < d.sz := by decide)
  (hq : Drawn0 W0 W := by repeat (first | exact Drawn0.refl _ | apply Drawn0.step)) : Oper.wp P o a W K Q :=
 eP i p j off seg d e xs x' z0 cells (g := g) (g2 := 0) (o' := o') hM ho hi (fun _ _ h => Kd.Q_of_R h) _ (fun w S hQ hR => R_of_Q0 hQ (by have := (Kd.R_reads' hR).2.1; omega) hs0) h0 h1 hopn hmk h hp (by rw [hoff, Nat.zero_add]) hx ht hone hj hN hq
-- P-FORMS: the same in a plain region
theorem pB (d : Tmp) (T : TypeId) (cs : List Value) (hM : Mem w0 F W0 N) (hd : o.dst = some d) (h : ∀ g w1, Mem w0 F w1 (N ++ [box T g cs]) → wpList P ops Q rest (a.put o.dst (.pointer (some ⟨g, 0, none⟩))) w1) (hq : Drawn0 W0 W := by repeat (first | exact Drawn0.refl _ | apply Drawn0.step)) (hrun : (execOp a.eval o).run P W = .ok (.value (.pointer (some ⟨W.heap.size, 0, none⟩))) (W.alloc (.cells cs.toArray T (0, 0))) := by first | (go_simp; done) | (go_simp; rfl)) (hg : Region.wanted o (yielded ops a.tmps) = true := by rfl) : wpList P ops Q (o :: rest) a W :=
 PL (fun K hK hw => eB d T cs hM hd (fun g w1 h0_ => hK _ _ (h g w1 h0_)) hq hrun) hg
theorem pL (d : Tmp) (kd : Kd α) (e : Nat) (xs : List α) (inner : List Value) (hrep : Reps (kd.M W 0 (fun _ => False)) kd.sz xs inner) (hM : Mem w0 F W0 N) (hd : o.dst = some d) (h : ∀ v w1, Mem w0 F w1 (N ++ [rowR kd e v xs]) → wpList P ops Q rest (a.put o.dst v) w1) (hq : Drawn0 W0 W := by repeat (first | exact Drawn0.refl _ | apply Drawn0.step)) (hm : xs.length ≤ 9223372036854775807 := by simp) (hrun : (execOp a.eval o).run P W = .ok (.value (.slice (some ⟨W.heap.size, 0, none⟩) xs.length xs.length)) (W.alloc (.cells inner.toArray e)) := by first | (go_simp; done) | (go_simp; rfl)) (hg : Region.wanted o (yielded ops a.tmps) = true := by rfl) : wpList P ops Q (o :: rest) a W :=
 PL (fun K hK hw => eL d kd e xs inner hrep hM hd (fun v w1 h0_ => hK _ _ (h v w1 h0_)) hq hm hrun) hg
theorem pA (i : Nat) (s x : Operand) (t e : TypeId) (d : Kd α) (v : Value) (xs ys : List α) (X : Option Addr) (m c : Nat) {Rr : α → List Value → Prop} {z : Value} {bytes : Nat} (hM : Mem w0 F W0 N) (ho : o.op = .call { callee := .builtin .append, args := #[s, x], argTypes := #[t, t] }) (ht : P.underlying t = some (.slice e)) (hinfo : (P.info? e).map (fun i => (i.zero, i.size, i.bytes)) = some (some z, d.sz, bytes)) (hi : N[i]? = some (rowR d e v xs)) (HR : ReadsRow Rr d.sz W X m ys) (hl : (xs.length + m) * bytes ≤ 140737488355328) (h : ∀ v1 w1, Mem w0 F w1 (N.set i (rowR d e v1 (xs ++ ys))) → wpList P ops Q rest (a.put o.dst v1) w1) (hq : Drawn0 W0 W := by repeat (first | exact Drawn0.refl _ | apply Drawn0.step)) (hKM : ∀ x cs, Rr x cs → d.M W 0 (fun _ => False) x cs := by exact fun _ _ h => h) (hs : a.eval s = v := by first | rfl | (simp only [List.length_drop, List.length_take, List.length_append, List.length_set, List.length_cons, List.length_nil, Int.reduceToNat]; rfl)) (hx : a.eval x = .slice X m c := by first | rfl | (simp only [List.length_drop, List.length_take, List.length_append, List.length_set, List.length_cons, List.length_nil, Int.reduceToNat]; rfl)) (hz : z.cells.size = d.sz := by rfl) (hs0 : 0 < d.sz := by decide) (hb0 : 0 < bytes := by omega) (hg : Region.wanted o (yielded ops a.tmps) = true := by rfl) : wpList P ops Q (o :: rest) a W :=
 PL (fun K hK hw => eA i s x t e d v xs ys X m c hw hM ho ht hinfo hi HR hl (fun v1 w1 h0_ => hK _ _ (h v1 w1 h0_)) hq hKM hs hx hz hs0 hb0) hg
theorem pAq (i : Nat) (s x : Operand) (t e : TypeId) (d : Kd α) (v : Value) (xs ys : List α) (X : Option Addr) (m c : Nat) {Rr : α → List Value → Prop} {z : Value} {bytes : Nat} (hM : Mem w0 F W0 N) (ho : o.op = .call { callee := .builtin .append, args := #[s, x], argTypes := #[t, t] }) (ht : P.underlying t = some (.slice e)) (hinfo : (P.info? e).map (fun i => (i.zero, i.size, i.bytes)) = some (some z, d.sz, bytes)) (hi : N[i]? = some (row d e v xs)) (HR : ReadsRow Rr d.sz W X m ys) (hl : (xs.length + m) * bytes ≤ 140737488355328) (hm : 0 < m) (h : ∀ v1 w1, Mem w0 F w1 (N.set i (row d e v1 (xs ++ ys))) → wpList P ops Q rest (a.put o.dst v1) w1) (hq : Drawn0 W0 W := by repeat (first | exact Drawn0.refl _ | apply Drawn0.step)) (hKM : ∀ x cs, Rr x cs → d.M W 0 (fun _ => False) x cs := by exact fun _ _ h => h) (hs : a.eval s = v := by first | rfl | (simp only [List.length_drop, List.length_take, List.length_append, List.length_set, List.length_cons, List.length_nil, Int.reduceToNat]; rfl)) (hx : a.eval x = .slice X m c := by first | rfl | (simp only [List.length_drop, List.length_take, List.length_append, List.length_set, List.length_cons, List.length_nil, Int.reduceToNat]; rfl)) (hz : z.cells.size = d.sz := by rfl) (hs0 : 0 < d.sz := by decide) (hb0 : 0 < bytes := by omega) (hg : Region.wanted o (yielded ops a.tmps) = true := by rfl) : wpList P ops Q (o :: rest) a W :=
 PL (fun K hK hw => eAq i s x t e d v xs ys X m c hw hM ho ht hinfo hi HR hl hm (fun v1 w1 h0_ => hK _ _ (h v1 w1 h0_)) hq hKM hs hx hz hs0 hb0) hg
theorem pAn (s x : Operand) (t e : TypeId) (d : Kd α) (ys : List α) (X : Option Addr) (m c : Nat) {Rr : α → List Value → Prop} {z : Value} {bytes : Nat} (hM : Mem w0 F W0 N) (ho : o.op = .call { callee := .builtin .append, args := #[s, x], argTypes := #[t, t] }) (ht : P.underlying t = some (.slice e)) (hinfo : (P.info? e).map (fun i => (i.zero, i.size, i.bytes)) = some (some z, d.sz, bytes)) (HR : ReadsRow Rr d.sz W X m ys) (hl : m * bytes ≤ 140737488355328) (h : ∀ v1 w1, Mem w0 F w1 (N ++ [rowR d e v1 ys]) → wpList P ops Q rest (a.put o.dst v1) w1) (hq : Drawn0 W0 W := by repeat (first | exact Drawn0.refl _ | apply Drawn0.step)) (hKM : ∀ x cs, Rr x cs → d.M W 0 (fun _ => False) x cs := by exact fun _ _ h => h) (hs : a.eval s = .slice none 0 0 := by first | rfl | (simp only [List.length_drop, List.length_take, List.length_append, List.length_set, List.length_cons, List.length_nil, Int.reduceToNat]; rfl)) (hx : a.eval x = .slice X m c := by first | rfl | (simp only [List.length_drop, List.length_take, List.length_append, List.length_set, List.length_cons, List.length_nil, Int.reduceToNat]; rfl)) (hz : z.cells.size = d.sz := by rfl) (hs0 : 0 < d.sz := by decide) (hb0 : 0 < bytes := by omega) (hg : Region.wanted o (yielded ops a.tmps) = true := by rfl) : wpList P ops Q (o :: rest) a W :=
 PL (fun K hK hw => eAn s x t e d ys X m c hw hM ho ht hinfo HR hl (fun v1 w1 h0_ => hK _ _ (h v1 w1 h0_)) hq hKM hs hx hz hs0 hb0) hg
theorem pS (i : Nat) (p : Tmp) (off : Nat) (seg : List Value) {T g : Nat} {cs : List Value} {t : TypeId} {x : Operand} (hM : Mem w0 F W0 N) (ho : o.op = .store t (.tmp p) x) (hi : N[i]? = some (box T g cs)) (h : ∀ w1, Mem w0 F w1 (N.set i (box T g (putAt cs off seg))) → wpList P ops Q rest a w1) (hfit : (decide (off + seg.length ≤ cs.length) && seg.all (·.oneCell')) = true := by rfl) (hp : a.eval (.tmp p) = .pointer (some ⟨g, off, none⟩) := by rfl) (hx : (a.eval x).cells.toList = seg := by first | rfl | (simp only [List.length_drop, List.length_take, List.length_append, List.length_set, List.length_cons, List.length_nil, Int.reduceToNat]; rfl)) (ht : (P.info? t).map (·.size) = some seg.length := by kernel_rfl) (hN : o.dst = none := by rfl) (hq : Drawn0 W0 W := by repeat (first | exact Drawn0.refl _ | apply Drawn0.step)) (hg : Region.wanted o (yielded ops a.tmps) = true := by rfl) : wpList P ops Q (o :: rest) a W :=
 PL (fun K hK hw => eS i p off seg hM ho hi (fun w1 h0_ => hK _ _ (h w1 h0_)) hfit hp hx ht hN hq) hg
theorem pC {f : FuncId} {fn : Func} {as_ : Array Operand} {ts : Array TypeId} {R : Ending → World → Prop} (dd : Option Tmp) (hd : o.dst = dd) (args : Array Value) (hop : o.op = .call { callee := .value (.func f), args := as_, argTypes := ts }) (hf : P.funcs[f]? = some fn) (hc : Calls P f args W R) (h : ∀ e w', R e w' → ∃ v, e = .returned v ∧ wpList P ops Q rest (a.put dd v) w') (hargs : as_.map a.eval = args := by (try simp only [List.map_toArray, List.map_cons, List.map_nil]); first | done | rfl | (simp only [List.length_drop, List.length_take, List.length_append, List.length_set, List.length_cons, List.length_nil, Nat.zero_add, Int.reduceToNat]; done) | (simp only [List.length_drop, List.length_take, List.length_append, List.length_set, List.length_cons, List.length_nil, Nat.zero_add, Int.reduceToNat]; rfl)) (hname : (fn.name == "runtime.NumGoroutine") = false := by kernel_rfl) (hb : fn.body.isSome = true := by rfl) (hg : Region.wanted o (yielded ops a.tmps) = true := by rfl) : wpList P ops Q (o :: rest) a W :=
 PL (fun K hK hw => eC dd hd args hop hf hc (fun e w' hR => (h e w' hR).imp (fun v hv => ⟨hv.1, hK _ _ hv.2⟩)) hargs hname hb) hg
theorem pD (i : Nat) (t e : TypeId) (d : Kd α) (x lo : Operand) (k : Int) (xs : List α) (X : Option Addr) (c : Nat) {z : Value} {bytes : Nat} (hM : Mem w0 F W0 N) (ho : o.op = .slice t x (some lo) none none) (ht : P.underlying t = some (.slice e)) (hinfo : (P.info? e).map (fun i => (i.zero, i.size, i.bytes)) = some (some z, d.sz, bytes)) (hi : N[i]? = some A) (hA : ∀ w S, A.At w S → d.Q e w 0 S (.slice X xs.length c) xs) (h0 : 0 ≤ k) (h1 : k ≤ xs.length) (h : ∀ v1, Mem w0 F W (N.set i (row d e v1 (xs.drop k.toNat))) → wpList P ops Q rest (a.put o.dst v1) W) (hx : a.eval x = .slice X xs.length c := by first | rfl | (simp only [List.length_drop, List.length_take, List.length_append, List.length_set, List.length_cons, List.length_nil, Int.reduceToNat]; rfl)) (hl : a.eval lo = .int .i64 k := by rfl) (hq : Drawn0 W0 W := by repeat (first | exact Drawn0.refl _ | apply Drawn0.step)) (hg : Region.wanted o (yielded ops a.tmps) = true := by rfl) : wpList P ops Q (o :: rest) a W :=
 PL (fun K hK hw => eD i t e d x lo k xs X c hM ho ht hinfo hi hA h0 h1 (fun v1 h0_ => hK _ _ (h v1 h0_)) hx hl hq) hg
theorem pRt (t e : TypeId) (d : Kd α) (x hi_ : Operand) (k : Int) (xs : List α) (X : Option Addr) (c : Nat) {z : Value} {bytes : Nat} (ho : o.op = .slice t x none (some hi_) none) (ht : P.underlying t = some (.slice e)) (hinfo : (P.info? e).map (fun i => (i.zero, i.size, i.bytes)) = some (some z, d.sz, bytes)) (hC : d.C W X xs.length xs) (hc : xs.length ≤ c) (h0 : 0 ≤ k) (h1 : k ≤ xs.length) (h : ∀ X' c', d.C W X' (xs.take k.toNat).length (xs.take k.toNat) → (xs.take k.toNat).length ≤ c' → wpList P ops Q rest (a.put o.dst (.slice X' (xs.take k.toNat).length c')) W) (hx : a.eval x = .slice X xs.length c := by first | rfl | (simp only [List.length_drop, List.length_take, List.length_append, List.length_set, List.length_cons, List.length_nil, Int.reduceToNat]; rfl)) (hl : a.eval hi_ = .int .i64 k := by rfl) (hg : Region.wanted o (yielded ops a.tmps) = true := by rfl) : wpList P ops Q (o :: rest) a W :=
 PL (fun K hK hw => eRt t e d x hi_ k xs X c ho ht hinfo hC hc h0 h1 (fun X' c' h0_ h1_ => hK _ _ (h X' c' h0_ h1_)) hx hl) hg
theorem pPR (i : Nat) (p : Tmp) (j : Int) (off : Nat) (seg : List Value) (d : Kd α) (e : TypeId) (xs : List α) (x' z0 : α) (cells : List Value) {t : TypeId} {x : Operand} {g n c o' : Nat} (hM : Mem w0 F W0 N) (ho : o.op = .store t (.tmp p) x) (hi : N[i]? = some (rowR d e (.slice (some ⟨g, 0, none⟩) n c) xs)) (h0 : 0 ≤ j) (h1 : j < n) (hopn : ∀ ok cs, d.M W 0 ok (xs.getD j.toNat z0) cs → cs = cells) (hmk : d.M W 0 (fun _ => False) x' (cells.take off ++ seg ++ cells.drop (off + seg.length))) (h : ∀ w1, Mem w0 F w1 (N.set i (rowR d e (.slice (some ⟨g, 0, none⟩) n c) (xs.set j.toNat x'))) → wpList P ops Q rest a w1) (hp : a.eval (.tmp p) = .pointer (some ⟨g, o', none⟩) := by rfl) (hoff : o' = j.toNat * d.sz + off := by first | rfl | exact (Nat.mul_one _).symm) (hx : (a.eval x).cells.toList = seg := by first | rfl | (simp only [List.length_drop, List.length_take, List.length_append, List.length_set, List.length_cons, List.length_nil, Int.reduceToNat]; rfl)) (ht : (P.info? t).map (·.size) = some seg.length := by kernel_rfl) (hone : seg.all (·.oneCell') = true := by rfl) (hj : off + seg.length ≤ d.sz := by exact Nat.le_of_ble_eq_true rfl) (hN : o.dst = none := by rfl) (hs0 : 0 < d.sz := by decide) (hq : Drawn0 W0 W := by repeat (first | exact Drawn0.refl _ | apply Drawn0.step)) (hg : Region.wanted o (yielded ops a.tmps) = true := by rfl) : wpList P ops Q (o :: rest) a W :=
 PL (fun K hK hw => ePR i p j off seg d e xs x' z0 cells hM ho hi h0 h1 hopn hmk (fun w1 h0_ => hK _ _ (h w1 h0_)) hp hoff hx ht hone hj hN hs0 hq) hg
-- the pure function's own steps
/-- The next operation calls this function, writes this variable, stores by this address. -/
theorem gC {as_ : Array Operand} {ts : Array TypeId} (f : FuncId) (_ho : o.op = .call { callee := .value (.func f), args := as_, argTypes := ts }) (h : wpList P ops Q (o :: rest) a W) : wpList P ops Q (o :: rest) a W := h
theorem gN (N : Tmp) (_ho : o.dst = some N) (h : wpList P ops Q (o :: rest) a W) : wpList P ops Q (o :: rest) a W := h
theorem gS {t : TypeId} {x : Operand} (p : Tmp) (_ho : o.op = .store t (.tmp p) x) (h : wpList P ops Q (o :: rest) a W) : wpList P ops Q (o :: rest) a W := h
theorem gate_sl {t : TypeId} {x : Operand} {lo hi mx : Option Operand} (_ho : o.op = .slice t x lo hi mx) (h : wpList P ops Q (o :: rest) a W) : wpList P ops Q (o :: rest) a W := h
/-- What is held, as_ one plain list. -/
theorem nzM {M : List SP} {w : World} (h : Mem w0 F w N) (hN : N = M := by (try dsimp only [pk, List.getElem?_cons_zero, List.getElem?_cons_succ, List.nil_append, List.cons_append, List.set_cons_zero, List.set_cons_succ, putAt, List.take_zero, List.take_succ_cons, List.drop_succ_cons, List.drop_nil, List.drop_zero, List.length_cons, List.length_nil, Nat.reduceAdd]); (try rfl)) : Mem w0 F w M := hN ▸ h
/-- What is held, some orders having been drawn since. -/
theorem MD (h : Mem w0 F W0 N) (hq : Drawn0 W0 W := by repeat (first | exact Drawn0.refl _ | apply Drawn0.step)) : Mem w0 F W N := h.drawn hq
theorem GD {β : Type} {p : Prop} {i : Decidable p} {x : Option β} {r : β} (h : @ite (Option β) p i x none = some r) : p ∧ x = some r := by
 by_cases c : p
 ·rw [if_pos c] at h; exact ⟨c, h⟩
 ·rw [if_neg c] at h; cases h
theorem GN {β : Type} {p : Prop} {i : Decidable p} {x : Option β} {r : β} (h : @ite (Option β) p i none x = some r) : ¬ p ∧ x = some r := by
 by_cases c : p
 ·rw [if_pos c] at h; cases h
 ·rw [if_neg c] at h; exact ⟨c, h⟩
theorem IT {β : Type} {p : Prop} {i : Decidable p} {x y : Option β} {r : β} (h : @ite (Option β) p i x y = some r) : (p ∧ x = some r) ∨ (¬ p ∧ y = some r) := by
 by_cases c : p
 ·rw [if_pos c] at h; exact .inl ⟨c, h⟩
 ·rw [if_neg c] at h; exact .inr ⟨c, h⟩
theorem IB {β : Type} {b : Bool} {i : Decidable (b = true)} {x y : Option β} {r : β} (h : @ite (Option β) (b = true) i x y = some r) : (b = true ∧ x = some r) ∨ (b = false ∧ y = some r) := by
 cases b
 ·rw [if_neg Bool.false_ne_true] at h; exact .inr ⟨rfl, h⟩
 ·rw [if_pos rfl] at h; exact .inl ⟨rfl, h⟩
theorem BN {β γ : Type} {x : Option β} {g : β → Option γ} {r : γ} (h : x.bind g = some r) : ∃ t, Aside0 (x = some t) ∧ g t = some r := by
 obtain ⟨t, h1, h2⟩ := Option.bind_eq_some_iff.mp h
 exact ⟨t, ⟨h1⟩, h2⟩
theorem BLt {β γ : Type} {e : β} {g : β → Option γ} {r : γ} (h : (some e).bind g = some r) : ∃ y, y = e ∧ g y = some r := ⟨e, rfl, h⟩
end
end Go.Proofs.Ytanakbmhclpamaa.Mm

namespace Go.Proofs.Ytanakbmhclpamaa.Mm
open Go.RowKit Go.Proofs.YtanakbmhclpamaaW.PrintWords Go.Proofs.YtanakbmhclpamaaW.PrintLast Go.Proofs.YtanakbmhclpamaaW.PrintMore Go.Proofs.Ytanakbmhclpamaa.Sh
set_option linter.unusedVariables false
def vs (c : Bool) (x y : Value) : Value := match c with
 | true => x
 | false => y
section
variable {P : Program} {ops : Array Oper} {o og : Oper} {a a0 : Act} {Q : Exit → Act → World → Prop} {K : Act → World → Prop} {w0 w w' W W0 : World} {F N L R M : List SP} {A B : SP} {c : Bool} {b : Nat → Bool} {i j g : Nat} {t : Tmp} {u v v0 : Value} {LL LL' : List (Nat × Tmp × Value)}
theorem Mem.sT (h : Mem w0 F w N) (q : Nat) (hi : N[q]? = some (sel c A B)) (hc : c = true) : Mem w0 F w (N.set q A) := by
 subst hc
 exact h.tell hi A (fun _ h => h)
theorem Mem.sF (h : Mem w0 F w N) (q : Nat) (hi : N[q]? = some (sel c A B)) (hc : c = false) : Mem w0 F w (N.set q B) := by
 subst hc
 exact h.tell hi B (fun _ h => h)
theorem Mem.iF (h : Mem w0 F w N) (q : Nat) (hi : N[q]? = some A) (hc : c = false) : Mem w0 F w (N.set q (sel c B A)) := by
 subst hc
 exact h.tell hi (sel false B A) (fun _ h => h)
theorem Mem.iT (h : Mem w0 F w N) (q : Nat) (hi : N[q]? = some A) (hc : c = true) : Mem w0 F w (N.set q (sel c A B)) := by
 subst hc
 exact h.tell hi (sel true A B) (fun _ h => h)
theorem Mem.em (h : Mem w0 F w N) : Mem w0 F w (N ++ [emp]) := h.push emp (S' := fun _ => False) trivial (fun _ h => h.elim) ⟨rfl, rfl, rfl, Nat.le_refl _, fun _ _ _ => rfl⟩
theorem evc : a.eval (.const v) = v := rfl
/-- A slot of a listed operation; of one that no operation fills; the next entry. -/
theorem PON (ha : a = putSel a0 b LL) (k : Nat) (hb : b j = true) (hL : LL[k]? = some (j, t, v) := by rfl) (hd : ((LL.drop (k + 1)).all fun x => !(x.2.1 == t)) = true := by rfl) (hs : Nat.ble (t + 1) a0.tmps.size = true := by rfl) : a.tmps[t]? = some v := by
 subst ha
 exact putSel_on k hL hd hb hs
theorem POF (ha : a = putSel a0 b LL) (t : Tmp) (h0 : a0.tmps[t]? = some v := by rfl) (hL : (LL.all fun e => !(e.2.1 == t)) = true := by rfl) : a.tmps[t]? = some v := by
 subst ha
 exact (putSel_off hL).trans h0
/-- An entry that isn't listed may say anything. -/
theorem PCH_ {j : Nat} (hj : b j = false) : ∀ (LL : List (Nat × Tmp × Value)) (a0 : Act) (k : Nat) {t : Tmp} {v0 v : Value}, LL[k]? = some (j, t, v0) → putSel a0 b LL = putSel a0 b (LL.set k (j, t, v))
 | [], _, _, _, _, _, h => by cases h
 | e :: r, a0, 0, t, v0, v, h => by
  obtain rfl : e = (j, t, v0) := by simpa using h
  simp only [List.set_cons_zero]
  unfold putSel
  rw [if_neg (by rw [hj]; decide), if_neg (by rw [hj]; decide)]
 | e :: r, a0, k + 1, t, v0, v, h => by
  simp only [List.set_cons_succ]
  unfold putSel
  exact PCH_ hj r _ k (by simpa using h)
theorem PCH (ha : Aside0 (a = putSel a0 b LL)) (k : Nat) (hj : b j = false) (hL : LL[k]? = some (j, t, v0) := by rfl) : Aside0 (a = putSel a0 b (LL.set k (j, t, v))) := ⟨ha.out.trans (PCH_ hj LL a0 k hL)⟩
theorem PUT (ha : Aside0 (a = putSel a0 b LL)) (k : Nat) (hb : b i = false) (hL : LL[k]? = some (i, t, v0) := by rfl) (hL' : LL.set k (i, t, v) = LL' := by rfl) (hd : ((LL.take k ++ LL.drop (k + 1)).all fun e => !(e.1 == i) && !(e.2.1 == t)) = true := by rfl) : a.put (some t) v = putSel a0 (up b i) LL' := by
 obtain ⟨rfl⟩ := ha
 exact putSel_upk k hb hL hL' hd
theorem PUS (ha : Aside0 (a = putSel a0 b LL)) (h : (LL.all fun e => !(e.1 == i)) = true := by rfl) : a = putSel a0 (up b i) LL := by
 obtain ⟨rfl⟩ := ha
 exact (putSel_same h).symm
/-- One step of the relation, told apart; slots read out of it. -/
theorem SY {i : Nat} {oi : Oper} {B O rs : List Nat} {Y : (Nat → Bool) → World → Prop} (h : ∀ b a w, Aside0 (a = putSel a0 b LL) → Y b w → b i = false → (∀ j, (O.contains j && (B.getD i 0).testBit j) = true → b j = true) → (∀ d, (O.contains d && (B.getD d 0).testBit i) = true → b d = false) → ∀ K : Act → World → Prop, Shut (∀ a' w', (a' = putSel a0 (up b i) LL ∧ Y (up b i) w') → K a' w') → if Region.wanted oi (yielded ops a.tmps) = true then Oper.wp P oi a w K Q else K (a.put oi.dst undef) w)
  (hs : ∀ j ∈ rs, StepAt P ops Q B O (fun b a' w' => a' = putSel a0 b LL ∧ Y b w') j) (ho : ops[i]? = some oi := by rfl) : ∀ j ∈ i :: rs, StepAt P ops Q B O (fun b a' w' => a' = putSel a0 b LL ∧ Y b w') j :=
 steps_cons (fun b a w hI hb hon hoff => ⟨oi, ho, fun K hK => h b a w (Aside0.mk hI.1) hI.2 hb hon hoff K hK⟩) hs
theorem PE {B O : List Nat} (ha : Aside0 (a = putSel a0 b LL)) (k : Nat) (hon : ∀ j, (O.contains j && (B.getD i 0).testBit j) = true → b j = true) (hL : LL[k]? = some (j, t, v) := by rfl) (hm : (O.contains j && (B.getD i 0).testBit j) = true := by kernel_rfl) (hd : ((LL.drop (k + 1)).all fun x => !(x.2.1 == t)) = true := by rfl) (hs : Nat.ble (t + 1) a0.tmps.size = true := by rfl) : a.tmps[t]? = some v := PON ha.out k (hon j hm) hL hd hs
theorem PG (ha : Aside0 (a = putSel a0 b LL)) (t : Tmp) (h0 : a0.tmps[t]? = some v := by rfl) (hL : (LL.all fun e => !(e.2.1 == t)) = true := by rfl) : a.tmps[t]? = some v := POF ha.out t h0 hL
/-- A step that yields a value, the world unchanged. -/
theorem VL (v : Value) (h : K (a.put o.dst v) W) (hrun : (execOp a.eval o).run P W = .ok (.value v) W := by first | (go_simp; done) | (go_simp; rfl) | (go_simp; simp only [i64_w]; done) | (go_simp; simp only [i64_w]; rfl) | (go_simp; simp only [bne, Bool.not_not])) (hw : Region.wanted o (yielded ops a.tmps) = true := by rfl) : if Region.wanted o (yielded ops a.tmps) = true then Oper.wp P o a W K Q else K (a.put o.dst undef) W := ST (wp_value hrun h) hw
/-- A guarded step that isn't carried out. -/
theorem VN (hw : Region.wanted o (yielded ops a.tmps) = false) (h : K (a.put o.dst undef) W) : if Region.wanted o (yielded ops a.tmps) = true then Oper.wp P o a W K Q else K (a.put o.dst undef) W := by
 rw [if_neg (by rw [hw]; decide)]
 exact h
/-- What is listed, of the region's operations alone. -/
def inN (n : Nat) (b : Nat → Bool) : Nat → Bool := fun j => decide (n ≤ j) || b j
theorem inN_lt {n : Nat} (h : j < n) : inN n b j = b j := by simp [inN, Nat.not_le.2 h]
theorem inN_up {n : Nat} : inN n (up b i) = up (inN n b) i := by
 funext j
 unfold inN up
 by_cases h : j = i
 ·simp [h]
 ·simp [h]
theorem inN_all {n : Nat} (h : ∀ j, (List.range n).contains j = true → b j = true) : inN n b = fun _ => true := by
 funext j
 by_cases hj : j < n
 ·rw [inN_lt hj]
  exact h j (by simpa using hj)
 ·simp [inN, Nat.not_lt.1 hj]
theorem PS0' {n : Nat} (hn : (LL.all fun e => decide (e.1 < n)) = true) (a : Act) : a = putSel a (inN n fun _ => false) LL := by
 induction LL generalizing a with
 | nil => rfl
 | cons e r ih =>
  rw [List.all_cons, Bool.and_eq_true, decide_eq_true_eq] at hn
  unfold putSel
  rw [inN_lt hn.1, if_neg (by decide)]
  exact ih hn.2 a
/-- The region, all its operations in one relation. -/
theorem RGN {id : Nat} {T : Bool × List (List Nat × List Nat)} {B : List Nat} (n : Nat) (O : List Nat) (I : Act → (Nat → Bool) → Act → World → Prop) (hT : rtab .any ops = T) (hw : waitsOk T.2 B = true) (h0 : I a (inN n fun _ => false) a w.drew) (hs : ∀ i ∈ O, StepAt P ops Q B O (I a) i)
  (hend : ∀ a' w, I a (fun _ => true) a' w → Q .normal a' w) (hn : ops.size = n := by rfl) (hO : O = List.range n := by rfl) (hk : baseOk T.2 (List.range n) = true := by kernel_rfl) (hl : (lof T.2.length (List.range n) (fun _ => false) == List.replicate n false && (List.range n).length == n) = true := by kernel_rfl) (hm : P.follows .mixedOrders = true := by kernel_rfl) : (Code.region id ops true).wp P Q a w := by
 subst hO
 refine start_ (S := fun _ => True) (ds := []) (Array.replicate n false) hm hn rfl trivial (fun _ => inv_at (List.range n) (fun a0 b => I a0 (inN n b)) hT hw hk (by simpa using hl) h0 ?_ ?_)
 ·intro i hi b a' w' hI hb hon hoff
  have hi' : i < n := List.mem_range.1 hi
  obtain ⟨oi, ho, hK⟩ := hs i hi (inN n b) a' w' hI (by rw [inN_lt hi']; exact hb) (fun j hj => by
   have hl : j < n := by rw [Bool.and_eq_true] at hj; simpa using hj.1
   rw [inN_lt hl]; exact hon j hj) (fun d hd => by
   have hl : d < n := by rw [Bool.and_eq_true] at hd; simpa using hd.1
   rw [inN_lt hl]; exact hoff d hd)
  refine ⟨oi, ho, fun K hKK => hK K ?_⟩
  have hKK : Shut (∀ a' w', I a (inN n (up b i)) a' w' → K a' w') := hKK
  rw [inN_up] at hKK
  exact hKK
 ·intro b a' w' hall hI
  rw [inN_all hall] at hI
  exact hend a' w' hI
theorem Mem.ems (h : Mem w0 F w N) : ∀ n, Mem w0 F w (N ++ List.replicate n emp)
 | 0 => by simpa using h
 | n + 1 => by
  rw [List.replicate_succ', ← List.append_assoc]
  exact (h.ems n).em
end
end Go.Proofs.Ytanakbmhclpamaa.Mm

namespace Go.Proofs.Ytanakbmhclpamaa.Mm
open Go.RowKit Go.Proofs.YtanakbmhclpamaaW.PrintWords Go.Proofs.YtanakbmhclpamaaW.PrintLast Go.Proofs.YtanakbmhclpamaaW.PrintMore Go.Proofs.Ytanakbmhclpamaa.Sh
set_option linter.unusedVariables false
section
variable {w0 w : World} {F N : List SP}
/-- The same world without its blocks: below it nothing is asked. -/
def bare (w : World) : World := { w with heap := #[] }
theorem bare_below (w : World) : Below (bare w).heap.size (bare w) w := ⟨rfl, rfl, rfl, Nat.zero_le _, fun k hk => absurd hk (Nat.not_lt_zero k)⟩
theorem chg_of {w' : World} {P0 : Nat → Prop} (hb : Below (bare w).heap.size (bare w) w') (hk : Kept w w' P0) : Chg P0 w w' := ⟨hb.os, hb.tape, hb.output, hk.1, fun k hk' hn => hk.2 k hk' hn⟩
/-- A row: what a hand-made contract asks, and what is held behind it. -/
theorem Mem.man1_ {A : SP} (h : Mem w0 F w N) (i : Nat) (hi : N[i]? = some A) :
  ∃ P0 : Nat → Prop, A.At w P0 ∧ (∀ (j t g : Nat) (cs : List Value), N[j]? = some (box t g cs) → i ≠ j → ∀ k, P0 k → k ≠ g) ∧ ∀ (w' : World) (B : SP), B.At w' (fun k => (P0 k ∨ w.heap.size ≤ k) ∧ k < w'.heap.size) → Chg P0 w w' → Mem w0 F w' (N.set i B) := by
 obtain ⟨hb, S, h1, h2, h3⟩ := h
 have hil : i < N.length := (List.getElem?_eq_some_iff.1 hi).1
 have hA : A.At w (S (F.length + i)) := h1 _ A (by rw [List.getElem?_append_right (by omega), Nat.add_sub_cancel_left]; exact hi)
 refine ⟨S (F.length + i), hA, fun j t g cs hj hij k hk e => hij (by
  have hB : (box t g cs).At w (S (F.length + j)) := h1 _ _ (by rw [List.getElem?_append_right (by omega), Nat.add_sub_cancel_left]; exact hj)
  have := h3 _ _ k hk (e ▸ hB.2); omega), fun w' B hB' hc => ?_⟩
 refine ⟨hc.below hb (fun k hk => (h2 _ k hk).1), fun q => if q = F.length + i then (fun k => (S (F.length + i) k ∨ w.heap.size ≤ k) ∧ k < w'.heap.size) else S q, ?_, ?_, ?_⟩
 ·intro q D hD
  have e : F ++ N.set i B = (F ++ N).set (F.length + i) B := by rw [List.set_append_right _ _ (by omega), Nat.add_sub_cancel_left]
  rw [e, List.getElem?_set] at hD
  dsimp only
  by_cases hq : q = F.length + i
  ·rw [if_pos hq]
   rw [if_pos hq.symm] at hD
   split at hD
   ·rw [← Option.some.inj hD]; exact hB'
   ·cases hD
  ·rw [if_neg hq]
   rw [if_neg (fun e => hq e.symm)] at hD
   exact D.loc (h1 q D hD) (fun k hk => hc.block k (h2 _ k hk).2 (fun hk' => hq (h3 _ _ k hk hk')))
 ·intro q k hk
  (try dsimp only at hk)
  split at hk
  ·exact ⟨hk.1.elim (fun e => (h2 _ k e).1) (fun e => Nat.le_trans hb.size e), hk.2⟩
  ·exact ⟨(h2 _ k hk).1, Nat.lt_of_lt_of_le (h2 _ k hk).2 hc.size⟩
 ·intro q p k hq hp
  (try dsimp only at hq hp)
  split at hq <;> split at hp
  ·omega
  ·rcases hq.1 with e | e
   ·have := h3 _ _ k e hp; omega
   ·have := (h2 _ k hp).2; omega
  ·rcases hp.1 with e | e
   ·have := h3 _ _ k e hq; omega
   ·have := (h2 _ k hq).2; omega
  ·exact h3 _ _ k hq hp
/-- A row and a variable beside it. -/
theorem Mem.man_ {A : SP} (h : Mem w0 F w N) (i j : Nat) {t g : Nat} {cs : List Value} (hi : N[i]? = some A) (hj : N[j]? = some (box t g cs)) (hij : i ≠ j) :
  ∃ P0 : Nat → Prop, A.At w P0 ∧ (∀ k, P0 k → k ≠ g) ∧ ∀ (w' : World) (B : SP), B.At w' (fun k => (P0 k ∨ w.heap.size ≤ k) ∧ k < w'.heap.size) → Chg P0 w w' → Mem w0 F w' (N.set i B) := by
 obtain ⟨P0, a, b, c⟩ := h.man1_ i hi
 exact ⟨P0, a, b j t g cs hj hij, c⟩
theorem Mem.man1R {α : Type} {d : Kd α} {e : Nat} {v : Value} {xs : List α} (h : Mem w0 F w N) (i : Nat) (hi : N[i]? = some (rowR d e v xs)) :
  ∃ P0 : Nat → Prop, d.R e w (bare w).heap.size P0 v xs ∧ ∀ (w' : World) (v' : Value) (ys : List α), d.R e w' (bare w).heap.size (fun k => P0 k ∨ w.heap.size ≤ k) v' ys → Below (bare w).heap.size (bare w) w' → Kept w w' P0 → Mem w0 F w' (N.set i (rowR d e v' ys)) := by
 obtain ⟨P0, h1, _, h3⟩ := h.man1_ i hi
 exact ⟨P0, h1, fun w' v' ys hq hb hk => h3 w' (rowR d e v' ys) (Kd.R_mono (Kd.R_bound hq) (fun k hk => ⟨hk.1, hk.2.2.1⟩)) (chg_of hb hk)⟩
theorem Mem.man {α : Type} {d : Kd α} {e : Nat} {v : Value} {xs : List α} (h : Mem w0 F w N) (i j : Nat) {t g : Nat} {cs : List Value} (hi : N[i]? = some (row d e v xs)) (hj : N[j]? = some (box t g cs)) (hij : i ≠ j := by decide) :
  ∃ P0 : Nat → Prop, d.Q e w (bare w).heap.size P0 v xs ∧ (∀ k, P0 k → k ≠ g) ∧ ∀ (w' : World) (v' : Value) (ys : List α), d.Q e w' (bare w).heap.size (fun k => P0 k ∨ w.heap.size ≤ k) v' ys → Below (bare w).heap.size (bare w) w' → Kept w w' P0 → Mem w0 F w' (N.set i (row d e v' ys)) := by
 obtain ⟨P0, h1, h2, h3⟩ := h.man_ i j hi hj hij
 exact ⟨P0, h1, h2, fun w' v' ys hq hb hk => h3 w' (row d e v' ys) (Kd.Q_mono (Kd.Q_bound hq) (fun k hk => ⟨hk.1, hk.2.2.1⟩)) (chg_of hb hk)⟩
end
end Go.Proofs.Ytanakbmhclpamaa.Mm

namespace Go.Proofs.Ytanakbmhclpamaa.G
open Go.RowKit Go.Proofs.YtanakbmhclpamaaW.PrintWords Go.Proofs.YtanakbmhclpamaaW.PrintLast Go.Proofs.YtanakbmhclpamaaW.PrintMore Go.Proofs.Ytanakbmhclpamaa.Sh
attribute [local go_sem] max2_int min2_int max_two min_two max_three min_three max_four min_four
set_option linter.unusedVariables false
set_option linter.unusedSimpArgs false
open Go.Proofs.Ytanakbmhclpamaa.Mm
def impl_ItemOk.f (k : Nat) (a0_0 : ByteArray) (a0_1 : ByteArray) (a0_2 : Int) : Option (Bool) := (impl_within.f (a0_0.size : Int) 1 20).bind fun t719 => (if t719 = true then (if (a0_1.size : Int) ≤ 40 then ((impl_isPlain.f k a0_0).bind fun t720 => (if t720 = true then ((impl_isPlain.f k a0_1).bind fun t721 => (if t721 = true then ((impl_within.f a0_2 0 3).bind fun t722 => (some t722)) else (some false))) else (some false))) else (some false)) else (some false))
set_option maxHeartbeats 8000000 in
set_option maxRecDepth 100000 in
theorem impl_ItemOk.calls (k : Nat) (a0_0 : ByteArray) (a0_1 : ByteArray) (a0_2 : Int) (r : Bool) (w : World)  (h : impl_ItemOk.f k a0_0 a0_1 a0_2 = some r) :
  Calls Try.prog 60 #[.agg #[.string a0_0, .string a0_1, .int .i64 a0_2]] w fun e w' => e = .returned (.bool r) ∧ Mem w [] w' [] := by
 have hu76 := Try.underlying76
 have HM := Mem.nil w
 have H := h
 clear h
 unfold impl_ItemOk.f at H
 go_enter Try.func60, Try.ntmps60
 replace H := BN H; obtain ⟨t719, A4, H⟩ := H
 replace H := IB H
 rcases H with ⟨c6, H⟩ | ⟨c6, H⟩
 ·subst c6
  replace H := IT H; rcases H with ⟨c8, H⟩ | ⟨c8, H⟩
  ·replace c8 : (a0_1.size : Int) ≤ 40 := c8
   have c8b0 : decide ((a0_1.size : Int) ≤ 40) = true := decide_eq_true c8
   have c8b1 : decide (a0_1.size ≤ 40) = true := decide_eq_true (by omega)
   clear c8
   replace H := BN H; obtain ⟨t720, A9, H⟩ := H
   replace H := IB H
   rcases H with ⟨c11, H⟩ | ⟨c11, H⟩
   ·subst c11
    replace H := BN H; obtain ⟨t721, A13, H⟩ := H
    replace H := IB H
    rcases H with ⟨c15, H⟩ | ⟨c15, H⟩
    ·subst c15
     replace H := BN H; obtain ⟨t722, A17, H⟩ := H
     obtain rfl := Option.some.inj H
     go_wp2_with (first | ((with_reducible refine gN 1 rfl ?_); refine pB 1 76 [.string a0_0, .string a0_1, .int .i64 a0_2] HM rfl ?_; clear HM; intro gb718 w2 HM; obtain ⟨z3_0, z3_1, z3_2, Z3_0, Z3_1, Z3_2⟩ := bk3 (HM.bx 0 rfl)) | ((with_reducible refine gC 64 rfl ?_); refine pC (some 6) rfl #[.int .i64 (a0_0.size : Int), .int .i64 1, .int .i64 20] rfl Try.func64 (impl_within.calls (a0_0.size : Int) 1 20 true _ A4.out) ?_; rintro e w5 ⟨rfl, hd⟩; refine ⟨_, rfl, ?_⟩; replace HM := HM.drawn hd; clear hd; obtain ⟨z7_0, z7_1, z7_2, Z7_0, Z7_1, Z7_2⟩ := bk3 (HM.bx 0 rfl)) | ((with_reducible refine gC 83 rfl ?_); refine pC (some 16) rfl #[.string a0_0] rfl Try.func83 (impl_isPlain.calls k a0_0 true _ A9.out) ?_; rintro e w10 ⟨rfl, hd⟩; refine ⟨_, rfl, ?_⟩; replace HM := HM.drawn hd; clear hd; obtain ⟨z12_0, z12_1, z12_2, Z12_0, Z12_1, Z12_2⟩ := bk3 (HM.bx 0 rfl)) | ((with_reducible refine gC 83 rfl ?_); refine pC (some 21) rfl #[.string a0_1] rfl Try.func83 (impl_isPlain.calls k a0_1 true _ A13.out) ?_; rintro e w14 ⟨rfl, hd⟩; refine ⟨_, rfl, ?_⟩; replace HM := HM.drawn hd; clear hd; obtain ⟨z16_0, z16_1, z16_2, Z16_0, Z16_1, Z16_2⟩ := bk3 (HM.bx 0 rfl)) | ((with_reducible refine gC 64 rfl ?_); refine pC (some 26) rfl #[.int .i64 a0_2, .int .i64 0, .int .i64 3] rfl Try.func64 (impl_within.calls a0_2 0 3 t722 _ A17.out) ?_; rintro e w18 ⟨rfl, hd⟩; refine ⟨_, rfl, ?_⟩; replace HM := HM.drawn hd; clear hd))
     go_ret
     exact ⟨ER, (MD HM).pick []⟩
    ·subst c15
     obtain rfl := Option.some.inj H
     go_wp2_with (first | ((with_reducible refine gN 1 rfl ?_); refine pB 1 76 [.string a0_0, .string a0_1, .int .i64 a0_2] HM rfl ?_; clear HM; intro gb718 w2 HM; obtain ⟨z3_0, z3_1, z3_2, Z3_0, Z3_1, Z3_2⟩ := bk3 (HM.bx 0 rfl)) | ((with_reducible refine gC 64 rfl ?_); refine pC (some 6) rfl #[.int .i64 (a0_0.size : Int), .int .i64 1, .int .i64 20] rfl Try.func64 (impl_within.calls (a0_0.size : Int) 1 20 true _ A4.out) ?_; rintro e w5 ⟨rfl, hd⟩; refine ⟨_, rfl, ?_⟩; replace HM := HM.drawn hd; clear hd; obtain ⟨z7_0, z7_1, z7_2, Z7_0, Z7_1, Z7_2⟩ := bk3 (HM.bx 0 rfl)) | ((with_reducible refine gC 83 rfl ?_); refine pC (some 16) rfl #[.string a0_0] rfl Try.func83 (impl_isPlain.calls k a0_0 true _ A9.out) ?_; rintro e w10 ⟨rfl, hd⟩; refine ⟨_, rfl, ?_⟩; replace HM := HM.drawn hd; clear hd; obtain ⟨z12_0, z12_1, z12_2, Z12_0, Z12_1, Z12_2⟩ := bk3 (HM.bx 0 rfl)) | ((with_reducible refine gC 83 rfl ?_); refine pC (some 21) rfl #[.string a0_1] rfl Try.func83 (impl_isPlain.calls k a0_1 false _ A13.out) ?_; rintro e w14 ⟨rfl, hd⟩; refine ⟨_, rfl, ?_⟩; replace HM := HM.drawn hd; clear hd))
     go_ret
     exact ⟨ER, (MD HM).pick []⟩
   ·subst c11
    obtain rfl := Option.some.inj H
    go_wp2_with (first | ((with_reducible refine gN 1 rfl ?_); refine pB 1 76 [.string a0_0, .string a0_1, .int .i64 a0_2] HM rfl ?_; clear HM; intro gb718 w2 HM; obtain ⟨z3_0, z3_1, z3_2, Z3_0, Z3_1, Z3_2⟩ := bk3 (HM.bx 0 rfl)) | ((with_reducible refine gC 64 rfl ?_); refine pC (some 6) rfl #[.int .i64 (a0_0.size : Int), .int .i64 1, .int .i64 20] rfl Try.func64 (impl_within.calls (a0_0.size : Int) 1 20 true _ A4.out) ?_; rintro e w5 ⟨rfl, hd⟩; refine ⟨_, rfl, ?_⟩; replace HM := HM.drawn hd; clear hd; obtain ⟨z7_0, z7_1, z7_2, Z7_0, Z7_1, Z7_2⟩ := bk3 (HM.bx 0 rfl)) | ((with_reducible refine gC 83 rfl ?_); refine pC (some 16) rfl #[.string a0_0] rfl Try.func83 (impl_isPlain.calls k a0_0 false _ A9.out) ?_; rintro e w10 ⟨rfl, hd⟩; refine ⟨_, rfl, ?_⟩; replace HM := HM.drawn hd; clear hd))
    go_ret
    exact ⟨ER, (MD HM).pick []⟩
  ·replace c8 : ¬ ((a0_1.size : Int) ≤ 40) := c8
   have c8b0 : decide ((a0_1.size : Int) ≤ 40) = false := decide_eq_false c8
   have c8b1 : decide (a0_1.size ≤ 40) = false := decide_eq_false (by omega)
   clear c8
   obtain rfl := Option.some.inj H
   go_wp2_with (first | ((with_reducible refine gN 1 rfl ?_); refine pB 1 76 [.string a0_0, .string a0_1, .int .i64 a0_2] HM rfl ?_; clear HM; intro gb718 w2 HM; obtain ⟨z3_0, z3_1, z3_2, Z3_0, Z3_1, Z3_2⟩ := bk3 (HM.bx 0 rfl)) | ((with_reducible refine gC 64 rfl ?_); refine pC (some 6) rfl #[.int .i64 (a0_0.size : Int), .int .i64 1, .int .i64 20] rfl Try.func64 (impl_within.calls (a0_0.size : Int) 1 20 true _ A4.out) ?_; rintro e w5 ⟨rfl, hd⟩; refine ⟨_, rfl, ?_⟩; replace HM := HM.drawn hd; clear hd; obtain ⟨z7_0, z7_1, z7_2, Z7_0, Z7_1, Z7_2⟩ := bk3 (HM.bx 0 rfl)))
   go_ret
   exact ⟨ER, (MD HM).pick []⟩
 ·subst c6
  obtain rfl := Option.some.inj H
  go_wp2_with (first | ((with_reducible refine gN 1 rfl ?_); refine pB 1 76 [.string a0_0, .string a0_1, .int .i64 a0_2] HM rfl ?_; clear HM; intro gb718 w2 HM; obtain ⟨z3_0, z3_1, z3_2, Z3_0, Z3_1, Z3_2⟩ := bk3 (HM.bx 0 rfl)) | ((with_reducible refine gC 64 rfl ?_); refine pC (some 6) rfl #[.int .i64 (a0_0.size : Int), .int .i64 1, .int .i64 20] rfl Try.func64 (impl_within.calls (a0_0.size : Int) 1 20 false _ A4.out) ?_; rintro e w5 ⟨rfl, hd⟩; refine ⟨_, rfl, ?_⟩; replace HM := HM.drawn hd; clear hd))
  go_ret
  exact ⟨ER, (MD HM).pick []⟩
end Go.Proofs.Ytanakbmhclpamaa.G

namespace Go.Proofs.Ytanakbmhclpamaa.Man
open Go.RowKit Go.Proofs.YtanakbmhclpamaaW.PrintWords Go.Proofs.YtanakbmhclpamaaW.PrintLast Go.Proofs.YtanakbmhclpamaaW.PrintMore
set_option linter.unusedVariables false
theorem wsucc_ {i : Nat} (h : i < 9223372036854775807) : wrap64 ((i : Int) + 1) = ((i + 1 : Nat) : Int) := by
 unfold wrap64
 omega
section
variable {P : Program}
theorem cycle_len (zc : Array Value) (n : Nat) (h : 0 < n) : (Builtin.zeroCells zc n).toList.length = n * zc.size := by
 simp [Builtin.zeroCells]
/-- 'clear(s)' of what lies behind a row of the call's own, in its spare room: the row stays. -/
theorem R_clear_run {α : Type} (d : Kd α) {W : World} (base : Nat) (t ty e : TypeId) (z : Value) (ht : P.underlying t = some (.slice e)) (hz : ∀ w, (zeroValue e).run P w = .ok z w) (hzs : z.cells.size = d.sz) (hz1 : ∀ u ∈ z.cells.toList, u.oneCell' = true)
  {g n c m : Nat} {xs : List α} {ok : Nat → Prop} (HO : d.R e W base ok (.slice (some ⟨g, 0, none⟩) n c) xs) (hm : n + m ≤ c) (hm0 : 0 < m) (c2 : Nat) :
  ∃ w1, (Builtin.clear_ #[t] ty #[.slice (some ⟨g, n * d.sz, none⟩) m c2]).run P W = .ok (.tuple #[]) w1 ∧ d.R e w1 base ok (.slice (some ⟨g, 0, none⟩) n c) xs ∧ W.grownBy w1 (some g) := by
 obtain ⟨hn, hnc, _⟩ := Kd.R_reads' HO
 obtain ⟨hok, inner, hown, hr⟩ := HO
 have hin : inner.length = n * d.sz := by rw [hr.1, hn]
 rcases hown.2 with ⟨hv, _⟩ | ⟨g', cap', cur, hv, hb, hh, _, hcm, hcs, htake⟩
 ·cases hv
 injection hv with ha _ hc
 injection ha with ha
 injection ha with hg
 subst hg; subst hc
 rw [← hn] at htake
 obtain ⟨news, hnews⟩ : ∃ news, news = (Builtin.zeroCells z.cells m).toList := ⟨_, rfl⟩
 have hnl : news.length = m * d.sz := by rw [hnews, cycle_len _ _ hm0, hzs]
 have hone : ∀ u ∈ news, u.oneCell' = true := by
  intro u hu
  rw [hnews] at hu
  have hp : 0 < z.cells.size := by
   rcases Nat.eq_zero_or_pos z.cells.size with h | h
   ·simp [Builtin.zeroCells, h] at hu
   ·exact h
  simp only [Builtin.zeroCells, Array.toList_map, List.mem_map] at hu
  obtain ⟨i, _, rfl⟩ := hu
  have hi := Nat.mod_lt i hp
  rw [getElem!_pos z.cells _ hi]
  exact hz1 _ (by simp)
 have hnm : (n + m) * d.sz ≤ c * d.sz := Nat.mul_le_mul_right _ hm
 have hnm2 : (n + m) * d.sz = n * d.sz + m * d.sz := Nat.add_mul _ _ _
 have hfit : n * d.sz + news.length ≤ cur.size := by omega
 have hst := run_storeCells_cells (P := P) g (n * d.sz) news 0 W (fun j hj => by rw [cell_of_row W g _ cur e (0, 0) hh]; simp; omega) (fun j _ => blk_frozen hh _) hone
 simp only [Nat.add_zero] at hst
 obtain ⟨cur', h3, h4, h5⟩ := setCells_row news (n * d.sz) W cur hh hfit
 obtain ⟨s1, s2, s3, s4⟩ := setCells_same g news (n * d.sz) W
 have hfar : ∀ k', k' ≠ g → (W.setCells g (n * d.sz) news).heap[k']? = W.heap[k']? := fun k' hk' => setCells_far news _ k' hk'
 refine ⟨_, ?_, ⟨hok, inner, ⟨by rw [hin, hn], .inr ⟨g, c, cur', by rw [hn], hb, h3, by omega, hcm, by rw [h4, hcs], ?_⟩⟩, ?_⟩, ⟨s1, s2, s3, by rw [s4]; exact Nat.le_refl _, fun k' _ hk' => hfar k' (fun he => hk' (by rw [he]))⟩⟩
 ·obtain ⟨k, rfl⟩ : ∃ k, m = k + 1 := ⟨m - 1, by omega⟩
  have hzc : (Builtin.zeroCells z.cells (k + 1)).toList = news := hnews.symm
  simp [Builtin.clear_, run_underlying ht, hz, hzc, hst]
 ·rw [← hn, h5, List.append_assoc, htake]
  exact List.take_left' hin
 ·exact hr.imp_ (fun p q hp => d.M_move (fun k' hk' => hfar k' (fun he => hk'.2 (by simp [Value.ownBlock, he]))) hp)
end
end Go.Proofs.Ytanakbmhclpamaa.Man

namespace Go.Proofs.Ytanakbmhclpamaa.G
open Go.RowKit Go.Proofs.YtanakbmhclpamaaW.PrintWords Go.Proofs.YtanakbmhclpamaaW.PrintLast Go.Proofs.YtanakbmhclpamaaW.PrintMore Go.Proofs.Ytanakbmhclpamaa.Sh
attribute [local go_sem] max2_int min2_int max_two min_two max_three min_three max_four min_four
set_option linter.unusedVariables false
set_option linter.unusedSimpArgs false
open Go.Proofs.Ytanakbmhclpamaa.Man
theorem impl_itemAt.closure (key : ByteArray) (B : Nat) (W : World) (x0 x1 : ByteArray) (x2 : Int) (hcell : W.cell? ⟨B, 0, none⟩ = some (.string key)) (hB : B < W.heap.size) :
  Calls Try.prog 85 #[.agg #[.string x0, .string x1, .int .i64 x2], .pointer (some ⟨B, 0, none⟩)] W fun e w' => e = .returned (.bool (x0.toList == key.toList)) ∧ Below W.heap.size W w' := by
 have hne : B ≠ W.heap.size := by omega
 have hu := Try.underlying76
 go_enter Try.func85, Try.ntmps85
 go_wp2
 go_ret
 exact ⟨rfl, by repeat (first | exact Below.refl _ _ | apply below_alloc)⟩
def impl_itemAt.idx (key : ByteArray) : List S76 → Nat → Int
 | [], _ => -1
 | x :: r, i => if x.f0.toList = key.toList then (i : Int) else impl_itemAt.idx key r (i + 1)
theorem impl_itemAt.idx_at (key : ByteArray) (l : List S76) (i : Nat) (h : i < l.length) : impl_itemAt.idx key (l.drop i) i = if (rd_T76 l (i : Int)).f0.toList = key.toList then (i : Int) else impl_itemAt.idx key (l.drop (i + 1)) (i + 1) := by
 rw [List.drop_eq_getElem_cons h, impl_itemAt.idx]
 have e : rd_T76 l (i : Int) = l[i] := by
  show l.getD (i : Int).toNat _ = _
  simp [List.getD_eq_getElem?_getD, h]
 rw [e]
theorem impl_itemAt.idx_end (key : ByteArray) (l : List S76) (i : Nat) (h : ¬ i < l.length) : impl_itemAt.idx key (l.drop i) i = -1 := by
 rw [List.drop_of_length_le (by omega)]; rfl
set_option maxHeartbeats 1000000 in
theorem impl_itemAt.indexFunc (key : ByteArray) (B : Nat) (A0 : Option Addr) (c0 : Nat) (l0 : List S76) (w : World) (hcell : w.cell? ⟨B, 0, none⟩ = some (.string key)) (hB : B < w.heap.size) (hr0 : Kd.C k76 w A0 l0.length l0) (hc0 : l0.length ≤ c0) :
  Calls Try.prog 84 #[.slice A0 l0.length c0, .func (.func 85) #[] #[.pointer (some ⟨B, 0, none⟩)]] w fun e w' => e = .returned (.int .i64 (impl_itemAt.idx key l0 0)) ∧ Below w.heap.size w w' := by
 have HR0 := Aside0.mk hr0
 have HC0 := Aside0.mk hc0
 have HL := Aside0.mk (show l0.length ≤ 9223372036854775807 from hr0.2.1)
 have HX := Aside0.mk hcell
 have HBB := Aside0.mk hB
 clear hr0 hc0 hcell hB
 have HB := Aside0.mk (Below.refl w.heap.size w)
 obtain ⟨R, hR⟩ : ∃ R, R = impl_itemAt.idx key l0 0 := ⟨_, rfl⟩
 rw [← hR]
 have HN := Aside0.mk (show impl_itemAt.idx key (l0.drop 0) 0 = R from hR.symm)
 clear hR
 go_enter Try.func84, Try.ntmps84
 go_wp2
 go_loopg [5, 8] l0.length (fun kq _ v8 w' => ∃ x : Int, v8 = .int .i64 x ∧ Aside0 (∃ n : Nat, x = (n : Int) ∧ impl_itemAt.idx key (l0.drop n) n = R ∧ n + kq = l0.length) ∧ Aside0 (Below w.heap.size w w'))
 case atStart => exact ⟨0, rfl, ⟨0, rfl, HN.out, Nat.zero_add _⟩, HB⟩
 case round =>
  clear HN
  obtain ⟨x, rfl, HN, HB⟩ := hrel
  have hcl : ∀ y : S76, Calls Try.prog 85 #[.agg #[.string y.f0, .string y.f1, .int .i64 y.f2], .pointer (some ⟨B, 0, none⟩)] wr fun e w' => e = .returned (.bool (y.f0.toList == key.toList)) ∧ Below wr.heap.size wr w' := fun y => impl_itemAt.closure key B wr y.f0 y.f1 y.f2 ((HB.out.cell (World.block_lt_of_cell? w _ HX.out)).trans HX.out) (Nat.lt_of_lt_of_le HBB.out HB.out.size)
  by_cases hlt : x < (l0.length : Int)
  ·have hd : decide (x < (l0.length : Int)) = true := decide_eq_true hlt
   have hn0 : 0 ≤ x := by obtain ⟨n, rfl, _⟩ := HN.out; exact Int.natCast_nonneg n
   obtain ⟨ad, hA, hx0, hx1, hx2⟩ := at_T76 HR0.out x hn0 hlt
   subst hA
   replace hx0 := (HB.out.cell (World.block_lt_of_cell? w _ hx0)).trans hx0
   replace hx1 := (HB.out.cell (World.block_lt_of_cell? w _ hx1)).trans hx1
   replace hx2 := (HB.out.cell (World.block_lt_of_cell? w _ hx2)).trans hx2
   have hcall := hcl (rd_T76 l0 x)
   clear hcl
   have H0 := Aside0.mk hn0
   have H1 := Aside0.mk hlt
   replace hn0 := eq_true hn0
   replace hlt := eq_true hlt
   obtain ⟨y, hy⟩ : ∃ y, rd_T76 l0 x = y := ⟨_, rfl⟩
   rw [hy] at hx0 hx1 hx2 hcall
   have HY := Aside0.mk hy
   clear hy
   by_cases c : y.f0.toList = key.toList
   ·rw [show (y.f0.toList == key.toList) = true from beq_iff_eq.mpr c] at hcall
    have C := Aside0.mk c
    clear c
    go_wp2_with fail
    refine hcall.mono ?_
    rintro e w' ⟨rfl, hb'⟩
    have HB' := Aside0.mk hb'
    clear hb' hcall
    go_wp2
    go_ret
    refine ⟨?_, below_step HB.out HB'.out⟩
    obtain ⟨n, rfl, hn, hk⟩ := HN.out
    have e := impl_itemAt.idx_at key l0 n (Int.ofNat_lt.mp H1.out)
    rw [HY.out, if_pos C.out, hn] at e
    rw [e]
    rfl
   ·rw [show (y.f0.toList == key.toList) = false from beq_eq_false_iff_ne.mpr c] at hcall
    have C := Aside0.mk c
    clear c
    go_wp2_with fail
    refine hcall.mono ?_
    rintro e w' ⟨rfl, hb'⟩
    have HB' := Aside0.mk hb'
    clear hb' hcall
    go_wp2
    obtain ⟨n, rfl, hn, hk⟩ := HN.out
    have hlt' := Int.ofNat_lt.mp H1.out
    go_roundg (gk - 1)
    case measure => omega
    case rel =>
     have e := impl_itemAt.idx_at key l0 n hlt'
     rw [HY.out, if_neg C.out, hn] at e
     exact ⟨_, rfl, ⟨n + 1, wsucc_ (by have := HL.out; omega), e.symm, by omega⟩, ⟨below_step HB.out HB'.out⟩⟩
  ·have hd : decide (x < (l0.length : Int)) = false := decide_eq_false hlt
   clear hcl
   have HLT := Aside0.mk hlt
   clear hlt
   go_wp2
   go_ret
   obtain ⟨n, rfl, hn, hk⟩ := HN.out
   have hlt' := HLT.out
   rw [impl_itemAt.idx_end key l0 n (by omega)] at hn
   exact ⟨by rw [← hn]; rfl, HB.out⟩
def impl_itemAt.f (l0 : List S76) (a1 : ByteArray) : Option Int := some (impl_itemAt.idx a1 l0 0)
theorem impl_itemAt.calls (A0 : Option Addr) (c0 : Nat) (l0 : List S76) (a1 : ByteArray) (r : Int) (w : World) (hr0 : Kd.C k76 w A0 l0.length l0) (hc0 : l0.length ≤ c0) (h : impl_itemAt.f l0 a1 = some r) :
  Calls Try.prog 62 #[.slice A0 l0.length c0, .string a1] w fun e w' => e = .returned (.int .i64 r) ∧ Below w.heap.size w w' := by
 obtain rfl := Option.some.inj h
 have hb0 : Below w.heap.size w (w.alloc (.cells #[.string a1] 9)) := below_alloc (Below.refl _ w) _
 have hcall := impl_itemAt.indexFunc a1 w.heap.size A0 c0 l0 (w.alloc (.cells #[.string a1] 9)) (by simp) (by simp) (Kd.C_below hr0 hb0) hc0
 have HB := Aside0.mk hb0
 clear h hr0 hc0 hb0
 obtain ⟨R, hR⟩ : ∃ R, R = impl_itemAt.idx a1 l0 0 := ⟨_, rfl⟩
 rw [← hR] at hcall ⊢
 have HR := Aside0.mk hR
 clear hR
 go_enter Try.func62, Try.ntmps62
 go_wp2_with fail
 refine hcall.mono ?_
 rintro e w' ⟨rfl, hb'⟩
 have HB' := Aside0.mk hb'
 clear hb' hcall
 go_wp2
 go_ret
 exact ⟨rfl, below_step HB.out HB'.out⟩
end Go.Proofs.Ytanakbmhclpamaa.G

namespace Go.Proofs.Ytanakbmhclpamaa.G
open Go.RowKit Go.Proofs.YtanakbmhclpamaaW.PrintWords Go.Proofs.YtanakbmhclpamaaW.PrintLast Go.Proofs.YtanakbmhclpamaaW.PrintMore Go.Proofs.Ytanakbmhclpamaa.Sh
attribute [local go_sem] max2_int min2_int max_two min_two max_three min_three max_four min_four
set_option linter.unusedVariables false
set_option linter.unusedSimpArgs false
open Go.Proofs.Ytanakbmhclpamaa.Mm
def impl_areItems.l0 : Nat → List (S76) → List (S76) → Int → Int → Option (Bool)
 | 0, _, _, _, _ => none
 | k + 1, x0, x5, x6, x7 => if x7 < x6 then (if 0 ≤ x7 then (if x7 < (x5.length : Int) then ((impl_ItemOk.f k ((rd_T76 x5 x7).f0) ((rd_T76 x5 x7).f1) ((rd_T76 x5 x7).f2)).bind fun t725 => (if t725 = true then ((impl_itemAt.f x0 ((rd_T76 x5 x7).f0)).bind fun t726 => (if t726 = x7 then (impl_areItems.l0 k x0 x5 x6 (wrap64 (x7 + 1))) else (some false))) else (some false))) else (none)) else (none)) else (some true)
def impl_areItems.f (k : Nat) (l0 : List (S76)) : Option (Bool) := impl_areItems.l0 k l0 l0 (l0.length : Int) 0
set_option maxHeartbeats 8000000 in
set_option maxRecDepth 100000 in
theorem impl_areItems.calls (k : Nat) (A0 : Option Addr) (c0 : Nat) (l0 : List (S76)) (r : Bool) (w : World) (hr0 : Kd.C k76 w A0 l0.length l0) (hc0 : l0.length ≤ c0) (h : impl_areItems.f k l0 = some r) :
  Calls Try.prog 82 #[.slice A0 l0.length c0] w fun e w' => e = .returned (.bool r) ∧ Mem w [] w' [] := by
 have hu76 := Try.underlying76
 have HR0 := Aside0.mk hr0
 have HC0 := Aside0.mk hc0
 clear hr0 hc0
 have HM := Mem.nil w
 have H := h
 clear h
 unfold impl_areItems.f at H
 go_enter Try.func82, Try.ntmps82
 have H' := Aside0.mk H
 clear H
 go_wp2
 go_loopg [7] k (fun kq v7 w' => ∃ (x7_1 : Int), v7 = .int .i64 x7_1 ∧ Aside0 (impl_areItems.l0 kq l0 l0 (l0.length : Int) x7_1 = some r) ∧ Aside0 (kq ≤ k) ∧ Mem w [] w' [])
 case atStart => exact ⟨(0), RS, H', ⟨Nat.le_refl _⟩, (MD HM).pick []⟩
 case round =>
  clear H' HM
  obtain ⟨x7_1, rfl, HA, HK1, HM⟩ := hrel
  cases gk with
  | zero => exact absurd HA.out (by simp [impl_areItems.l0])
  | succ k1 =>
   have H := HA.out
   clear HA
   simp only [impl_areItems.l0] at H
   go_upto_if 8 with (fail)
   replace H := IT H; rcases H with ⟨c2, H⟩ | ⟨c2, H⟩
   ·have c2b0 : decide (x7_1 < (l0.length : Int)) = true := decide_eq_true c2
    clear c2
    (first | rw [c2b0] | (simp only [i64_w, i32_w]; rw [c2b0]) | skip)
    replace H := GD H; obtain ⟨c3, H⟩ := H
    have c3b0 : decide (0 ≤ x7_1) = true := decide_eq_true c3
    clear c3
    replace H := GD H; obtain ⟨c4, H⟩ := H
    have c4b0 : decide (x7_1 < (l0.length : Int)) = true := decide_eq_true c4
    clear c4
    replace H := BN H; obtain ⟨t725, A8, H⟩ := H
    replace H := IB H
    rcases H with ⟨c10, H⟩ | ⟨c10, H⟩
    ·subst c10
     replace H := BN H; obtain ⟨t726, A12, H⟩ := H
     have p723 : 0 ≤ (x7_1 : Int) := of_decide_eq_true AS
     have q723 : (x7_1 : Int) < (l0.length : Int) := of_decide_eq_true AS
     obtain ⟨ad723, e723, hx723_0, hx723_1, hx723_2⟩ := at_T76 (HM.came HR0.out) x7_1 p723 q723
     cases e723
     replace p723 := eq_true p723
     replace q723 := eq_true q723
     go_upto_if 22 with (first | ((with_reducible refine gN 4 rfl ?_); refine pB 4 76 [.string (⟨#[]⟩ : ByteArray), .string (⟨#[]⟩ : ByteArray), .int .i64 0] HM rfl ?_; clear HM; intro gb724 w5 HM) | ((with_reducible refine gS 4 rfl ?_); refine pS 0 4 0 [.string ((rd_T76 l0 x7_1).f0), .string ((rd_T76 l0 x7_1).f1), .int .i64 ((rd_T76 l0 x7_1).f2)] HM rfl rfl ?_; clear HM; intro w6 HM; obtain ⟨z7_0, z7_1, z7_2, Z7_0, Z7_1, Z7_2⟩ := bk3 (HM.bx 0 rfl)) | ((with_reducible refine gC 60 rfl ?_); refine pC (some 13) rfl #[.agg #[.string ((rd_T76 l0 x7_1).f0), .string ((rd_T76 l0 x7_1).f1), .int .i64 ((rd_T76 l0 x7_1).f2)]] rfl Try.func60 (impl_ItemOk.calls k1 ((rd_T76 l0 x7_1).f0) ((rd_T76 l0 x7_1).f1) ((rd_T76 l0 x7_1).f2) true _ A8.out) ?_; rintro e w9 ⟨rfl, hR⟩; refine ⟨_, rfl, ?_⟩; replace HM := HM.call hR; clear hR; obtain ⟨z11_0, z11_1, z11_2, Z11_0, Z11_1, Z11_2⟩ := bk3 (HM.bx 0 rfl)) | ((with_reducible refine gC 62 rfl ?_); refine pC (some 19) rfl #[.slice (some ad723) l0.length c0, .string ((rd_T76 l0 x7_1).f0)] rfl Try.func62 (impl_itemAt.calls (some ad723) c0 l0 ((rd_T76 l0 x7_1).f0) t726 _ (HM.came HR0.out) HC0.out A12.out) ?_; rintro e w13 ⟨rfl, hb⟩; refine ⟨_, rfl, ?_⟩; replace HM := HM.below hb; clear hb))
     replace HM := nzM HM
     replace H := IT H; rcases H with ⟨c14, H⟩ | ⟨c14, H⟩
     ·have c14b0 : (t726 == x7_1) = true := beq_iff_eq.mpr c14
      have c14b1 : (t726 != x7_1) = false := bne_eq_false_iff_eq.mpr c14
      clear c14
      (first | rw [c14b0] | (simp only [i64_w, i32_w]; rw [c14b0]) | skip)
      have H' := Aside0.mk H
      clear H
      go_wp2
      go_roundg k1
      case measure => have := HK1.out; omega
      case rel => exact ⟨(wrap64 (x7_1 + 1)), RS, H', ⟨by have := HK1.out; omega⟩, (MD HM).pick []⟩
     ·have c14b0 : (t726 == x7_1) = false := beq_eq_false_iff_ne.mpr c14
      have c14b1 : (t726 != x7_1) = true := bne_iff_ne.mpr c14
      (first | rw [c14b0] | (simp only [i64_w, i32_w]; rw [c14b0]) | skip)
      obtain rfl := Option.some.inj H
      go_wp2
      go_ret
      exact ⟨ER, (MD HM).pick []⟩
    ·subst c10
     obtain rfl := Option.some.inj H
     have p723 : 0 ≤ (x7_1 : Int) := of_decide_eq_true AS
     have q723 : (x7_1 : Int) < (l0.length : Int) := of_decide_eq_true AS
     obtain ⟨ad723, e723, hx723_0, hx723_1, hx723_2⟩ := at_T76 (HM.came HR0.out) x7_1 p723 q723
     cases e723
     replace p723 := eq_true p723
     replace q723 := eq_true q723
     go_wp2_with (first | ((with_reducible refine gN 4 rfl ?_); refine pB 4 76 [.string (⟨#[]⟩ : ByteArray), .string (⟨#[]⟩ : ByteArray), .int .i64 0] HM rfl ?_; clear HM; intro gb724 w5 HM) | ((with_reducible refine gS 4 rfl ?_); refine pS 0 4 0 [.string ((rd_T76 l0 x7_1).f0), .string ((rd_T76 l0 x7_1).f1), .int .i64 ((rd_T76 l0 x7_1).f2)] HM rfl rfl ?_; clear HM; intro w6 HM; obtain ⟨z7_0, z7_1, z7_2, Z7_0, Z7_1, Z7_2⟩ := bk3 (HM.bx 0 rfl)) | ((with_reducible refine gC 60 rfl ?_); refine pC (some 13) rfl #[.agg #[.string ((rd_T76 l0 x7_1).f0), .string ((rd_T76 l0 x7_1).f1), .int .i64 ((rd_T76 l0 x7_1).f2)]] rfl Try.func60 (impl_ItemOk.calls k1 ((rd_T76 l0 x7_1).f0) ((rd_T76 l0 x7_1).f1) ((rd_T76 l0 x7_1).f2) false _ A8.out) ?_; rintro e w9 ⟨rfl, hR⟩; refine ⟨_, rfl, ?_⟩; replace HM := HM.call hR; clear hR))
     go_ret
     exact ⟨ER, (MD HM).pick []⟩
   ·have c2b0 : decide (x7_1 < (l0.length : Int)) = false := decide_eq_false c2
    clear c2
    (first | rw [c2b0] | (simp only [i64_w, i32_w]; rw [c2b0]) | skip)
    obtain rfl := Option.some.inj H
    go_wp2
    go_ret
    exact ⟨ER, (MD HM).pick []⟩
mutual
def impl_RowOk.j0 : Nat → Int → Int → Int → List (S76) → Option (Bool)
 | 0, _, _, _, _ => none
 | k + 1, x3, x728000, x728001, x728002 => impl_RowOk.l0 k x3 x728002 (x728002.length : Int) 0 x728000 x728001 x728002
def impl_RowOk.l0 : Nat → Int → List (S76) → Int → Int → Int → Int → List (S76) → Option (Bool)
 | 0, _, _, _, _, _, _, _ => none
 | k + 1, x3, x10, x11, x12, x728000, x728001, x728002 => if x12 < x11 then (if 0 ≤ x12 then (if x12 < (x10.length : Int) then ((impl_within.f ((rd_T76 x10 x12).f2) 0 x3).bind fun t730 => (if t730 = true then (impl_RowOk.l0 k x3 x10 x11 (wrap64 (x12 + 1)) x728000 x728001 x728002) else (some false))) else (none)) else (none)) else ((impl_within.f x728000 1 3).bind fun t731 => (if t731 = true then ((impl_within.f x728001 1 60).bind fun t732 => (if t732 = true then (if (x728002.length : Int) ≤ x728001 then ((impl_areItems.f k x728002).bind fun t733 => (some t733)) else (some false)) else (some false))) else (some false)))
end
def impl_RowOk.f (k : Nat) (a0_0 : Int) (a0_1 : Int) (l0_2 : List (S76)) : Option (Bool) := if a0_0 = 3 then (impl_RowOk.j0 k 1 a0_0 a0_1 l0_2) else (impl_RowOk.j0 k 0 a0_0 a0_1 l0_2)
set_option maxHeartbeats 8000000 in
set_option maxRecDepth 100000 in
theorem impl_RowOk.calls (k : Nat) (a0_0 : Int) (a0_1 : Int) (A0_2 : Option Addr) (c0_2 : Nat) (l0_2 : List (S76)) (r : Bool) (w : World) (hr0_2 : Kd.C k76 w A0_2 l0_2.length l0_2) (hc0_2 : l0_2.length ≤ c0_2) (h : impl_RowOk.f k a0_0 a0_1 l0_2 = some r) :
  Calls Try.prog 59 #[.agg #[.int .i64 a0_0, .int .i64 a0_1, .slice A0_2 l0_2.length c0_2]] w fun e w' => e = .returned (.bool r) ∧ Mem w [] w' [] := by
 have hu46 := Try.underlying46
 have hu76 := Try.underlying76
 have HR0_2 := Aside0.mk hr0_2
 have HC0_2 := Aside0.mk hc0_2
 clear hr0_2 hc0_2
 have HM := Mem.nil w
 have H := h
 clear h
 unfold impl_RowOk.f at H
 go_enter Try.func59, Try.ntmps59
 have HC4 := Aside0.mk H
 clear H
 go_upto_if 8 with (first | ((with_reducible refine gN 1 rfl ?_); refine pB 1 46 [.int .i64 a0_0, .int .i64 a0_1, .slice A0_2 l0_2.length c0_2] HM rfl ?_; clear HM; intro gb727 w2 HM; obtain ⟨z3_0, z3_1, z3_2, Z3_0, Z3_1, Z3_2⟩ := bk3 (HM.bx 0 rfl)))
 go_cut [3] (fun v3 wc => ∃ (kq : Nat) (x3_3 : Int), v3 = .int .i64 x3_3 ∧ Aside0 (impl_RowOk.j0 kq x3_3 a0_0 a0_1 l0_2 = some r) ∧ Aside0 (kq ≤ k) ∧ Mem w [] wc [box 46 gb727 [.int .i64 a0_0, .int .i64 a0_1, .slice A0_2 l0_2.length c0_2]])
 case first =>
  have H := HC4.out
  clear HC4
  go_upto_if 8 with (fail)
  replace H := IT H; rcases H with ⟨c5, H⟩ | ⟨c5, H⟩
  ·have c5b0 : (a0_0 == 3) = true := beq_iff_eq.mpr c5
   have c5b1 : (a0_0 != 3) = false := bne_eq_false_iff_eq.mpr c5
   clear c5
   (first | rw [c5b0] | (simp only [i64_w, i32_w]; rw [c5b0]) | skip)
   have H' := Aside0.mk H
   clear H
   go_wp2
   go_meet
   case rel => exact ⟨_, (1), RS, H', ⟨by first | omega | exact Nat.le_refl _⟩, (MD HM).pick [0]⟩
  ·have c5b0 : (a0_0 == 3) = false := beq_eq_false_iff_ne.mpr c5
   have c5b1 : (a0_0 != 3) = true := bne_iff_ne.mpr c5
   (first | rw [c5b0] | (simp only [i64_w, i32_w]; rw [c5b0]) | skip)
   have H' := Aside0.mk H
   clear H
   go_wp2
   go_meet
   case rel => exact ⟨_, (0), RS, H', ⟨by first | omega | exact Nat.le_refl _⟩, (MD HM).pick [0]⟩
 case rest =>
  clear HC4 HM
  obtain ⟨kq, x3_3, rfl, HA, HJ3, HM⟩ := hcut
  cases kq with
  | zero => exact absurd HA.out (by simp [impl_RowOk.j0])
  | succ kj3 =>
   have H := HA.out
   clear HA
   simp only [impl_RowOk.j0] at H
   have H' := Aside0.mk H
   clear H
   obtain ⟨z6_0, z6_1, z6_2, Z6_0, Z6_1, Z6_2⟩ := bk3 (HM.bx 0 rfl)
   go_wp2
   go_loopg [12] kj3 (fun kq v12 w' => ∃ (x12_2 : Int), v12 = .int .i64 x12_2 ∧ Aside0 (impl_RowOk.l0 kq x3_3 l0_2 (l0_2.length : Int) x12_2 a0_0 a0_1 l0_2 = some r) ∧ Aside0 (kq ≤ kj3) ∧ Mem w [] w' [box 46 gb727 [.int .i64 a0_0, .int .i64 a0_1, .slice A0_2 l0_2.length c0_2]])
   case atStart => exact ⟨(0), RS, H', ⟨Nat.le_refl _⟩, (MD HM).pick [0]⟩
   case round =>
    clear H' HM
    obtain ⟨x12_2, rfl, HA, HK2, HM⟩ := hrel
    cases gk with
    | zero => exact absurd HA.out (by simp [impl_RowOk.l0])
    | succ k2 =>
     have H := HA.out
     clear HA
     simp only [impl_RowOk.l0] at H
     go_upto_if 13 with (fail)
     replace H := IT H; rcases H with ⟨c7, H⟩ | ⟨c7, H⟩
     ·have c7b0 : decide (x12_2 < (l0_2.length : Int)) = true := decide_eq_true c7
      clear c7
      (first | rw [c7b0] | (simp only [i64_w, i32_w]; rw [c7b0]) | skip)
      replace H := GD H; obtain ⟨c8, H⟩ := H
      have c8b0 : decide (0 ≤ x12_2) = true := decide_eq_true c8
      clear c8
      replace H := GD H; obtain ⟨c9, H⟩ := H
      have c9b0 : decide (x12_2 < (l0_2.length : Int)) = true := decide_eq_true c9
      clear c9
      replace H := BN H; obtain ⟨t730, A13, H⟩ := H
      have p728 : 0 ≤ (x12_2 : Int) := of_decide_eq_true AS
      have q728 : (x12_2 : Int) < (l0_2.length : Int) := of_decide_eq_true AS
      obtain ⟨ad728, e728, hx728_0, hx728_1, hx728_2⟩ := at_T76 (HM.came HR0_2.out) x12_2 p728 q728
      cases e728
      replace p728 := eq_true p728
      replace q728 := eq_true q728
      go_upto_if 20 with (first | ((with_reducible refine gN 5 rfl ?_); refine pB 5 76 [.string (⟨#[]⟩ : ByteArray), .string (⟨#[]⟩ : ByteArray), .int .i64 0] HM rfl ?_; clear HM; intro gb729 w10 HM) | ((with_reducible refine gS 5 rfl ?_); refine pS 1 5 0 [.string ((rd_T76 l0_2 x12_2).f0), .string ((rd_T76 l0_2 x12_2).f1), .int .i64 ((rd_T76 l0_2 x12_2).f2)] HM rfl rfl ?_; clear HM; intro w11 HM; obtain ⟨z12_0, z12_1, z12_2, Z12_0, Z12_1, Z12_2⟩ := bk3 (HM.bx 1 rfl)) | ((with_reducible refine gC 64 rfl ?_); refine pC (some 19) rfl #[.int .i64 ((rd_T76 l0_2 x12_2).f2), .int .i64 0, .int .i64 x3_3] rfl Try.func64 (impl_within.calls ((rd_T76 l0_2 x12_2).f2) 0 x3_3 t730 _ A13.out) ?_; rintro e w14 ⟨rfl, hd⟩; refine ⟨_, rfl, ?_⟩; replace HM := HM.drawn hd; clear hd))
      replace HM := nzM HM
      replace H := IB H
      rcases H with ⟨c15, H⟩ | ⟨c15, H⟩
      ·subst c15
       have H' := Aside0.mk H
       clear H
       go_wp2
       go_roundg k2
       case measure => have := HJ3.out; have := HK2.out; omega
       case rel => exact ⟨(wrap64 (x12_2 + 1)), RS, H', ⟨by have := HJ3.out; have := HK2.out; omega⟩, (MD HM).pick [0]⟩
      ·subst c15
       obtain rfl := Option.some.inj H
       go_wp2
       go_ret
       exact ⟨ER, (MD HM).pick []⟩
     ·have c7b0 : decide (x12_2 < (l0_2.length : Int)) = false := decide_eq_false c7
      clear c7
      (first | rw [c7b0] | (simp only [i64_w, i32_w]; rw [c7b0]) | skip)
      replace H := BN H; obtain ⟨t731, A17, H⟩ := H
      replace H := IB H
      rcases H with ⟨c19, H⟩ | ⟨c19, H⟩
      ·subst c19
       replace H := BN H; obtain ⟨t732, A21, H⟩ := H
       replace H := IB H
       rcases H with ⟨c23, H⟩ | ⟨c23, H⟩
       ·subst c23
        replace H := IT H; rcases H with ⟨c25, H⟩ | ⟨c25, H⟩
        ·have c25b0 : decide ((l0_2.length : Int) ≤ a0_1) = true := decide_eq_true c25
         clear c25
         replace H := BN H; obtain ⟨t733, A26, H⟩ := H
         obtain rfl := Option.some.inj H
         obtain ⟨z16_0, z16_1, z16_2, Z16_0, Z16_1, Z16_2⟩ := bk3 (HM.bx 0 rfl)
         go_wp2_with (first | ((with_reducible refine gC 64 rfl ?_); refine pC (some 24) rfl #[.int .i64 a0_0, .int .i64 1, .int .i64 3] rfl Try.func64 (impl_within.calls a0_0 1 3 true _ A17.out) ?_; rintro e w18 ⟨rfl, hd⟩; refine ⟨_, rfl, ?_⟩; replace HM := HM.drawn hd; clear hd; obtain ⟨z20_0, z20_1, z20_2, Z20_0, Z20_1, Z20_2⟩ := bk3 (HM.bx 0 rfl)) | ((with_reducible refine gC 64 rfl ?_); refine pC (some 28) rfl #[.int .i64 a0_1, .int .i64 1, .int .i64 60] rfl Try.func64 (impl_within.calls a0_1 1 60 true _ A21.out) ?_; rintro e w22 ⟨rfl, hd⟩; refine ⟨_, rfl, ?_⟩; replace HM := HM.drawn hd; clear hd; obtain ⟨z24_0, z24_1, z24_2, Z24_0, Z24_1, Z24_2⟩ := bk3 (HM.bx 0 rfl)) | ((with_reducible refine gC 82 rfl ?_); refine pC (some 41) rfl #[.slice A0_2 l0_2.length c0_2] rfl Try.func82 (impl_areItems.calls k2 _ _ l0_2 t733 _ (HM.came HR0_2.out) HC0_2.out A26.out) ?_; rintro e w27 ⟨rfl, hR⟩; refine ⟨_, rfl, ?_⟩; replace HM := HM.call hR; clear hR))
         go_ret
         exact ⟨ER, (MD HM).pick []⟩
        ·have c25b0 : decide ((l0_2.length : Int) ≤ a0_1) = false := decide_eq_false c25
         clear c25
         obtain rfl := Option.some.inj H
         obtain ⟨z16_0, z16_1, z16_2, Z16_0, Z16_1, Z16_2⟩ := bk3 (HM.bx 0 rfl)
         go_wp2_with (first | ((with_reducible refine gC 64 rfl ?_); refine pC (some 24) rfl #[.int .i64 a0_0, .int .i64 1, .int .i64 3] rfl Try.func64 (impl_within.calls a0_0 1 3 true _ A17.out) ?_; rintro e w18 ⟨rfl, hd⟩; refine ⟨_, rfl, ?_⟩; replace HM := HM.drawn hd; clear hd; obtain ⟨z20_0, z20_1, z20_2, Z20_0, Z20_1, Z20_2⟩ := bk3 (HM.bx 0 rfl)) | ((with_reducible refine gC 64 rfl ?_); refine pC (some 28) rfl #[.int .i64 a0_1, .int .i64 1, .int .i64 60] rfl Try.func64 (impl_within.calls a0_1 1 60 true _ A21.out) ?_; rintro e w22 ⟨rfl, hd⟩; refine ⟨_, rfl, ?_⟩; replace HM := HM.drawn hd; clear hd; obtain ⟨z24_0, z24_1, z24_2, Z24_0, Z24_1, Z24_2⟩ := bk3 (HM.bx 0 rfl)))
         go_ret
         exact ⟨ER, (MD HM).pick []⟩
       ·subst c23
        obtain rfl := Option.some.inj H
        obtain ⟨z16_0, z16_1, z16_2, Z16_0, Z16_1, Z16_2⟩ := bk3 (HM.bx 0 rfl)
        go_wp2_with (first | ((with_reducible refine gC 64 rfl ?_); refine pC (some 24) rfl #[.int .i64 a0_0, .int .i64 1, .int .i64 3] rfl Try.func64 (impl_within.calls a0_0 1 3 true _ A17.out) ?_; rintro e w18 ⟨rfl, hd⟩; refine ⟨_, rfl, ?_⟩; replace HM := HM.drawn hd; clear hd; obtain ⟨z20_0, z20_1, z20_2, Z20_0, Z20_1, Z20_2⟩ := bk3 (HM.bx 0 rfl)) | ((with_reducible refine gC 64 rfl ?_); refine pC (some 28) rfl #[.int .i64 a0_1, .int .i64 1, .int .i64 60] rfl Try.func64 (impl_within.calls a0_1 1 60 false _ A21.out) ?_; rintro e w22 ⟨rfl, hd⟩; refine ⟨_, rfl, ?_⟩; replace HM := HM.drawn hd; clear hd))
        go_ret
        exact ⟨ER, (MD HM).pick []⟩
      ·subst c19
       obtain rfl := Option.some.inj H
       obtain ⟨z16_0, z16_1, z16_2, Z16_0, Z16_1, Z16_2⟩ := bk3 (HM.bx 0 rfl)
       go_wp2_with (first | ((with_reducible refine gC 64 rfl ?_); refine pC (some 24) rfl #[.int .i64 a0_0, .int .i64 1, .int .i64 3] rfl Try.func64 (impl_within.calls a0_0 1 3 false _ A17.out) ?_; rintro e w18 ⟨rfl, hd⟩; refine ⟨_, rfl, ?_⟩; replace HM := HM.drawn hd; clear hd))
       go_ret
       exact ⟨ER, (MD HM).pick []⟩
def impl_RowNew.f (k : Nat) (a0 : Int) (a1 : Int) : Option (Int × Int × (List (S76)) × Bool) := (impl_RowOk.f k a0 a1 ([] : List (S76))).bind fun t736 => (if t736 = true then (some (a0, a1, ([] : List (S76)), true)) else (some (0, 0, ([] : List (S76)), false)))
set_option maxHeartbeats 8000000 in
set_option maxRecDepth 100000 in
theorem impl_RowNew.calls (k : Nat) (a0 : Int) (a1 : Int) (r1 : Int) (r2 : Int) (r3 : List (S76)) (r4 : Bool) (w : World)  (h : impl_RowNew.f k a0 a1 = some (r1, r2, r3, r4)) :
  Calls Try.prog 32 #[.int .i64 a0, .int .i64 a1] w fun e w' => ∃ v2_ : Value, e = .returned (.tuple #[.agg #[.int .i64 r1, .int .i64 r2, v2_], .bool r4]) ∧ Mem w [] w' [rowR k76 76 v2_ r3] := by
 have hu46 := Try.underlying46
 have HM := Mem.nil w
 have H := h
 clear h
 unfold impl_RowNew.f at H
 go_enter Try.func32, Try.ntmps32
 replace H := BN H; obtain ⟨t736, A7, H⟩ := H
 go_upto_if 12 with (first | ((with_reducible refine gN 4 rfl ?_); refine pB 4 46 [.int .i64 0, .int .i64 0, .slice none 0 0] HM rfl ?_; clear HM; intro gb734 w3 HM) | ((with_reducible refine gN 6 rfl ?_); refine pB 6 46 [.int .i64 0, .int .i64 0, .slice none 0 0] HM rfl ?_; clear HM; intro gb735 w4 HM) | ((with_reducible refine gS 6 rfl ?_); refine pS 1 6 0 [.int .i64 a0, .int .i64 a1, .slice none 0 0] HM rfl rfl ?_; clear HM; intro w5 HM; obtain ⟨z6_0, z6_1, z6_2, Z6_0, Z6_1, Z6_2⟩ := bk3 (HM.bx 1 rfl)) | ((with_reducible refine gC 59 rfl ?_); refine pC (some 11) rfl #[.agg #[.int .i64 a0, .int .i64 a1, .slice none 0 0]] rfl Try.func59 (impl_RowOk.calls k a0 a1 _ _ ([] : List (S76)) t736 _ (Kd.C_nil _ _) (Nat.le_refl _) A7.out) ?_; rintro e w8 ⟨rfl, hR⟩; refine ⟨_, rfl, ?_⟩; replace HM := HM.call hR; clear hR))
 replace HM := nzM HM
 replace H := IB H
 rcases H with ⟨c9, H⟩ | ⟨c9, H⟩
 ·subst c9
  simp only [Option.some.injEq, Prod.mk.injEq] at H
  obtain ⟨rfl, rfl, rfl, rfl⟩ := H
  obtain ⟨z10_0, z10_1, z10_2, Z10_0, Z10_1, Z10_2⟩ := bk3 (HM.bx 1 rfl)
  go_wp2_with (first | ((with_reducible refine gS 4 rfl ?_); refine pS 0 4 0 [.int .i64 a0, .int .i64 a1, .slice none 0 0] HM rfl rfl ?_; clear HM; intro w11 HM; replace HM := HM.nl k76 76))
  refine bodyPost_ret (results_ct rfl _ _ gb734 46 #[.int .i64 a0, .int .i64 a1, .slice none 0 0] (0, 0) _ rfl (HM.bx 0 rfl) Try.underlying46 rfl (by kernel_rfl)) rfl ?_
  exact ⟨_, ER, (MD HM).pick [2]⟩
 ·subst c9
  simp only [Option.some.injEq, Prod.mk.injEq] at H
  obtain ⟨rfl, rfl, rfl, rfl⟩ := H
  go_wp2_with (first | ((with_reducible refine gS 4 rfl ?_); refine pS 0 4 0 [.int .i64 0, .int .i64 0, .slice none 0 0] HM rfl rfl ?_; clear HM; intro w12 HM; replace HM := HM.nl k76 76))
  refine bodyPost_ret (results_ct rfl _ _ gb734 46 #[.int .i64 0, .int .i64 0, .slice none 0 0] (0, 0) _ rfl (HM.bx 0 rfl) Try.underlying46 rfl (by kernel_rfl)) rfl ?_
  exact ⟨_, ER, (MD HM).pick [2]⟩
def impl_copyItems.f (l0 : List (S76)) : Option ((List (S76))) := if ([] : List (S76)).length + l0.length < 3518437208883 then (some (([] : List (S76)) ++ l0)) else (none)
set_option maxHeartbeats 8000000 in
set_option maxRecDepth 100000 in
theorem impl_copyItems.calls (A0 : Option Addr) (c0 : Nat) (l0 : List (S76)) (r : List (S76)) (w : World) (hr0 : Kd.C k76 w A0 l0.length l0) (hc0 : l0.length ≤ c0) (h : impl_copyItems.f l0 = some r) :
  Calls Try.prog 78 #[.slice A0 l0.length c0] w fun e w' => ∃ v0_ : Value, e = .returned (v0_) ∧ Mem w [] w' [rowR k76 76 v0_ r] := by
 have HR0 := Aside0.mk hr0
 have HC0 := Aside0.mk hc0
 clear hr0 hc0
 have HM := Mem.nil w
 have H := h
 clear h
 unfold impl_copyItems.f at H
 go_enter Try.func78, Try.ntmps78
 replace H := GD H; obtain ⟨c2, H⟩ := H
 have LMc2 := Aside0.mk c2
 clear c2
 obtain rfl := Option.some.inj H
 go_wp2_with (first | ((with_reducible refine gate_builtin (b := .append) (xs := #[.const (.slice none 0 0), .tmp 3]) rfl ?_); refine pAn (.const (.slice none 0 0)) (.tmp 3) 44 76 k76 l0 A0 l0.length c0 HM rfl Try.underlying44 info76 (HM.came HR0.out) (by have h_ := LMc2.out; omega) ?_; clear HM; intro v740 w3 HM))
 go_ret
 exact ⟨_, ER, (MD HM).pick [0]⟩
end Go.Proofs.Ytanakbmhclpamaa.G

namespace Go.Proofs.Ytanakbmhclpamaa.G
open Go.RowKit Go.Proofs.YtanakbmhclpamaaW.PrintWords Go.Proofs.YtanakbmhclpamaaW.PrintLast Go.Proofs.YtanakbmhclpamaaW.PrintMore Go.Proofs.Ytanakbmhclpamaa.Sh
attribute [local go_sem] max2_int min2_int max_two min_two max_three min_three max_four min_four
set_option linter.unusedVariables false
set_option linter.unusedSimpArgs false
def impl_isNum.f (a0 : Int) : Option (Bool) := (impl_within.f a0 0 4294967295).bind fun t743 => (some t743)
set_option maxHeartbeats 8000000 in
set_option maxRecDepth 100000 in
theorem impl_isNum.calls (a0 : Int) (r : Bool) (w : World) (h : impl_isNum.f a0 = some r) :
  Calls Try.prog 87 #[.int .i64 a0] w fun e w' => e = .returned (.bool r) ∧ Drawn0 w w' := by
 have H : ((impl_within.f a0 0 4294967295).bind fun t743 => (some t743)) = some r := h
 clear h
 replace H := BS H
 obtain ⟨t743, A20, H⟩ := H
 have A2 := Aside0.mk A20
 clear A20
 obtain rfl := Option.some.inj H
 go_enter Try.func87, Try.ntmps87
 go_wp2_with (first | ((with_reducible refine gate_callee (f := 64) rfl ?_); refine goesL_ (some 4) rfl rfl Try.func64 (by kernel_rfl) rfl #[.int .i64 a0, .int .i64 0, .int .i64 4294967295] rfl AQ ?_; (with_reducible refine (impl_within.calls a0 0 4294967295 t743 _ A2.out).mono ?_); rintro e w' ⟨rfl, ⟨nd, rfl⟩⟩; refine ⟨_, rfl, ?_⟩))
 go_ret
 exact ⟨by first | rfl | (simp; done) | (simp [*]; done), DR⟩
end Go.Proofs.Ytanakbmhclpamaa.G

namespace Go.Proofs.Ytanakbmhclpamaa.G
open Go.RowKit Go.Proofs.YtanakbmhclpamaaW.PrintWords Go.Proofs.YtanakbmhclpamaaW.PrintLast Go.Proofs.YtanakbmhclpamaaW.PrintMore Go.Proofs.Ytanakbmhclpamaa.Sh
attribute [local go_sem] max2_int min2_int max_two min_two max_three min_three max_four min_four
set_option linter.unusedVariables false
set_option linter.unusedSimpArgs false
open Go.Proofs.Ytanakbmhclpamaa.Man
def impl_Three_ghosts.f (a0 : Int) (a1 : Int) : Option Int := some (max 1 (wrap64 (a0 - a1)))
set_option maxHeartbeats 2000000 in
set_option maxRecDepth 100000 in
theorem impl_Three_ghosts.calls (g : Nat) (a0 : Int) (a1 : Int) (x2 x3 x4 : Value) (r : Int) (w : World) (hb : w.heap[g]? = some (.cells #[.int .i64 a0, .int .i64 a1, x2, x3, x4] 65 (0, 0))) (h : impl_Three_ghosts.f a0 a1 = some r) :
  Calls Try.prog 103 #[.pointer (some ⟨g, 0, none⟩)] w fun e w' => e = .returned (.int .i64 r) ∧ ∃ nd, w' = w.drewN nd := by
 unfold impl_Three_ghosts.f at h
 obtain rfl := Option.some.inj h
 clear h
 have hu45 := Try.underlying65
 have c0 : w.cell? ⟨g, 0, none⟩ = some (.int .i64 a0) := blk_cell hb 0
 have c1 : w.cell? ⟨g, 1, none⟩ = some (.int .i64 a1) := blk_cell hb 1
 have c2 : w.drew.cell? ⟨g, 0, none⟩ = some (.int .i64 a0) := blk_cell (blk_drew hb) 0
 have c3 : w.drew.cell? ⟨g, 1, none⟩ = some (.int .i64 a1) := blk_cell (blk_drew hb) 1
 have mixed : Try.prog.follows .mixedOrders = true := by kernel_rfl
 clear hb
 go_enter Try.func103, Try.ntmps103
 go_wp2
 go_region_o
 go_wp2
 ·go_ret
  exact ⟨by rw [show max 1 (wrap64 (a0 - a1)) = wrap64 (a0 - a1) by omega]; rfl, 1, rfl⟩
 ·go_ret
  exact ⟨by rw [show max 1 (wrap64 (a0 - a1)) = 1 by omega]; rfl, 1, rfl⟩
end Go.Proofs.Ytanakbmhclpamaa.G

namespace Go.Proofs.Ytanakbmhclpamaa.G
open Go.RowKit Go.Proofs.YtanakbmhclpamaaW.PrintWords Go.Proofs.YtanakbmhclpamaaW.PrintLast Go.Proofs.YtanakbmhclpamaaW.PrintMore Go.Proofs.Ytanakbmhclpamaa.Sh
attribute [local go_sem] max2_int min2_int max_two min_two max_three min_three max_four min_four
set_option linter.unusedVariables false
set_option linter.unusedSimpArgs false
def slices_Index_int_int.l0 : Nat → List Int → Int → Int → Int → Option (Int)
 | 0, _, _, _, _ => none
 | k + 1, x0, x1, x7, x8 => if x8 < x7 then (if 0 ≤ x8 then (if x8 < (x0.length : Int) then (if x1 = (rd x0 x8) then (some x8) else (slices_Index_int_int.l0 k x0 x1 x7 (wrap64 (x8 + 1)))) else (none)) else (none)) else (some (-1))
def slices_Index_int_int.f (k : Nat) (l0 : List Int) (a1 : Int) : Option (Int) := slices_Index_int_int.l0 k l0 a1 (l0.length : Int) 0
theorem slices_Index_int_int.mono_l : ∀ k, (∀ y0 y1 y2 y3, LeO (slices_Index_int_int.l0 k y0 y1 y2 y3) (slices_Index_int_int.l0 (k + 1) y0 y1 y2 y3))
 | 0 => fun _ _ _ _ r h => by simp [slices_Index_int_int.l0] at h
 | k + 1 => by
  have ih0 := slices_Index_int_int.mono_l k
  ·intro y0 y1 y2 y3
   unfold slices_Index_int_int.l0
   repeat' first | (with_reducible first | exact ih0 _ _ _ _ | exact LeO.refl _ | exact LeO.none _ | refine LeO.ite ?_ ?_ | refine LeO.bind ?_ (fun _ => ?_)) | exact LeO.none _ | refine LeO.ite ?_ ?_ | refine LeO.bind ?_ (fun _ => ?_)
theorem slices_Index_int_int.mono : ∀ a0 a1 k, LeO (slices_Index_int_int.f k a0 a1) (slices_Index_int_int.f (k + 1) a0 a1) := by
 intro a0 a1 k
 have ih0 := slices_Index_int_int.mono_l k
 unfold slices_Index_int_int.f
 repeat' first | (with_reducible first | exact ih0 _ _ _ _ | exact LeO.refl _ | exact LeO.none _ | refine LeO.ite ?_ ?_ | refine LeO.bind ?_ (fun _ => ?_)) | exact LeO.none _ | refine LeO.ite ?_ ?_ | refine LeO.bind ?_ (fun _ => ?_)
set_option maxHeartbeats 8000000 in
set_option maxRecDepth 100000 in
theorem slices_Index_int_int.calls (k : Nat) (A0 : Option Addr) (c0 : Nat) (l0 : List Int) (a1 : Int) (r : Int) (w : World) (hr0 : Kd.C (Kd.int .i64) w A0 l0.length l0) (hc0 : l0.length ≤ c0) (h : slices_Index_int_int.f k l0 a1 = some r) :
  Calls Try.prog 121 #[.slice A0 l0.length c0, .int .i64 a1] w fun e w' => e = .returned (.int .i64 r) ∧ Drawn0 w w' := by
 have HR0 := Aside0.mk hr0
 have HC0 := Aside0.mk hc0
 clear hr0 hc0
 have H : (slices_Index_int_int.l0 k l0 a1 (l0.length : Int) 0) = some r := h
 clear h
 have H' := Aside0.mk H
 clear H
 go_enter Try.func121, Try.ntmps121
 go_wp2
 go_loopg [8] k (fun kq v8 w' => ∃ (x8_1 : Int), v8 = .int .i64 x8_1 ∧ Aside0 (slices_Index_int_int.l0 kq l0 a1 (l0.length : Int) x8_1 = some r) ∧ Aside0 (kq ≤ k) ∧ Drawn0 w w')
 case atStart => exact ⟨(0), RS, H', ⟨Nat.le_refl _⟩, DR⟩
 case round =>
  clear H'
  try clear c1
  try clear p2
  obtain ⟨x8_1, rfl, HA, HK1, ⟨m1, rfl⟩⟩ := hrel
  cases gk with
  | zero => exact absurd HA.out (by simp [slices_Index_int_int.l0])
  | succ k1 =>
   have H := HA.out
   clear HA
   simp only [slices_Index_int_int.l0] at H
   by_cases c3 : x8_1 < (l0.length : Int)
   ·rw [if_pos c3] at H
    have c3b0 : decide (x8_1 < (l0.length : Int)) = true := decide_eq_true c3
    clear c3
    by_cases c4 : 0 ≤ x8_1
    ·rw [if_pos c4] at H
     have c4b0 : decide (0 ≤ x8_1) = true := decide_eq_true c4
     clear c4
     by_cases c5 : x8_1 < (l0.length : Int)
     ·rw [if_pos c5] at H
      have c5b0 : decide (x8_1 < (l0.length : Int)) = true := decide_eq_true c5
      clear c5
      by_cases c6 : a1 = (rd l0 x8_1)
      ·rw [if_pos c6] at H
       have c6b0 : (a1 == (rd l0 x8_1)) = true := beq_iff_eq.mpr c6
       have c6b1 : (a1 != (rd l0 x8_1)) = false := bne_eq_false_iff_eq.mpr c6
       clear c6
       obtain rfl := Option.some.inj H
       have p745 : 0 ≤ (x8_1 : Int) := of_decide_eq_true AS
       have q745 : x8_1 < (l0.length : Int) := of_decide_eq_true AS
       obtain ⟨ad745, e745, hx745_0⟩ := Kd.at_int HR0.out x8_1 p745 q745
       cases e745
       replace p745 := eq_true p745
       replace q745 := eq_true q745
       go_wp2
       go_ret
       exact ⟨by first | rfl | (simp; done) | (simp [*]; done), DR⟩
      ·rw [if_neg c6] at H
       have c6b0 : (a1 == (rd l0 x8_1)) = false := beq_eq_false_iff_ne.mpr c6
       have c6b1 : (a1 != (rd l0 x8_1)) = true := bne_iff_ne.mpr c6
       have H' := Aside0.mk H
       clear H
       have p745 : 0 ≤ (x8_1 : Int) := of_decide_eq_true AS
       have q745 : x8_1 < (l0.length : Int) := of_decide_eq_true AS
       obtain ⟨ad745, e745, hx745_0⟩ := Kd.at_int HR0.out x8_1 p745 q745
       cases e745
       replace p745 := eq_true p745
       replace q745 := eq_true q745
       go_wp2
       go_roundg k1
       case measure => have := HK1.out; omega
       case rel => exact ⟨(wrap64 (x8_1 + 1)), RS, H', ⟨by have := HK1.out; omega⟩, DR⟩
     ·rw [if_neg c5] at H
      exact absurd H (by simp)
    ·rw [if_neg c4] at H
     exact absurd H (by simp)
   ·rw [if_neg c3] at H
    have c3b0 : decide (x8_1 < (l0.length : Int)) = false := decide_eq_false c3
    clear c3
    obtain rfl := Option.some.inj H
    go_wp2
    go_ret
    exact ⟨by first | rfl | (simp; done) | (simp [*]; done), DR⟩
def slices_Contains_int_int.f (k : Nat) (l0 : List Int) (a1 : Int) : Option (Bool) := (slices_Index_int_int.f k l0 a1).bind fun t747 => (some (decide (t747 ≥ 0)))
theorem slices_Contains_int_int.mono : ∀ a0 a1 k, LeO (slices_Contains_int_int.f k a0 a1) (slices_Contains_int_int.f (k + 1) a0 a1) := by
 intro a0 a1 k
 unfold slices_Contains_int_int.f
 repeat' first | (with_reducible first | exact slices_Index_int_int.mono _ _ _ | exact LeO.refl _ | exact LeO.none _ | refine LeO.ite ?_ ?_ | refine LeO.bind ?_ (fun _ => ?_)) | exact LeO.none _ | refine LeO.ite ?_ ?_ | refine LeO.bind ?_ (fun _ => ?_)
set_option maxHeartbeats 8000000 in
set_option maxRecDepth 100000 in
theorem slices_Contains_int_int.calls (k : Nat) (A0 : Option Addr) (c0 : Nat) (l0 : List Int) (a1 : Int) (r : Bool) (w : World) (hr0 : Kd.C (Kd.int .i64) w A0 l0.length l0) (hc0 : l0.length ≤ c0) (h : slices_Contains_int_int.f k l0 a1 = some r) :
  Calls Try.prog 104 #[.slice A0 l0.length c0, .int .i64 a1] w fun e w' => e = .returned (.bool r) ∧ Drawn0 w w' := by
 have HR0 := Aside0.mk hr0
 have HC0 := Aside0.mk hc0
 clear hr0 hc0
 have H : ((slices_Index_int_int.f k l0 a1).bind fun t747 => (some (decide (t747 ≥ 0)))) = some r := h
 clear h
 replace H := BS H
 obtain ⟨t747, A30, H⟩ := H
 have A3 := Aside0.mk A30
 clear A30
 obtain rfl := Option.some.inj H
 go_enter Try.func104, Try.ntmps104
 go_wp2_with (first | ((with_reducible refine gate_callee (f := 121) rfl ?_); refine goesL_ (some 7) rfl rfl Try.func121 (by kernel_rfl) rfl #[.slice A0 l0.length c0, .int .i64 a1] rfl AQ ?_; (with_reducible refine (slices_Index_int_int.calls k _ _ l0 a1 t747 _ ?side1 ?side2 A3.out).mono ?_); (case side1 => repeat (first | exact HR0.out | (with_reducible refine Kd.C_alloc ?_ _) | (with_reducible refine Kd.C_drewN ?_ _) | (with_reducible refine Kd.C_drew ?_))); (case side2 => exact HC0.out); rintro e w' ⟨rfl, ⟨nd, rfl⟩⟩; refine ⟨_, rfl, ?_⟩))
 go_ret
 exact ⟨by first | rfl | (simp; done) | (simp [*]; done), DR⟩
end Go.Proofs.Ytanakbmhclpamaa.G

namespace Go.Proofs.Ytanakbmhclpamaa.G
open Go.RowKit Go.Proofs.YtanakbmhclpamaaW.PrintWords Go.Proofs.YtanakbmhclpamaaW.PrintLast Go.Proofs.YtanakbmhclpamaaW.PrintMore Go.Proofs.Ytanakbmhclpamaa.Sh
attribute [local go_sem] max2_int min2_int max_two min_two max_three min_three max_four min_four
set_option linter.unusedVariables false
set_option linter.unusedSimpArgs false
open Go.Proofs.Ytanakbmhclpamaa.Mm
mutual
def impl_ThreeOk.j0 : Nat → Bool → Int → Int → List (S76) → List (S76) → List Int → Option (Bool)
 | 0, _, _, _, _, _, _ => none
 | k + 1, x24, x749000, x749001, x749002, x749003, x749004 => if x24 = true then (some false) else (impl_ThreeOk.l0 k x749004 (x749004.length : Int) 0 x749000 x749001 x749002 x749003 x749004)
def impl_ThreeOk.l0 : Nat → List Int → Int → Int → Int → Int → List (S76) → List (S76) → List Int → Option (Bool)
 | 0, _, _, _, _, _, _, _, _ => none
 | k + 1, x26, x27, x28, x749000, x749001, x749002, x749003, x749004 => if x28 < x27 then (if 0 ≤ x28 then (if x28 < (x26.length : Int) then ((impl_isNum.f (rd x26 x28)).bind fun t760 => (if t760 = true then (if x28 ≤ (x749004.length : Int) then ((slices_Contains_int_int.f k (x749004.take (x28 : Int).toNat) (rd x26 x28)).bind fun t762 => (if t762 = true then (some false) else (impl_ThreeOk.l0 k x26 x27 (wrap64 (x28 + 1)) x749000 x749001 x749002 x749003 x749004))) else (none)) else (some false))) else (none)) else (none)) else ((impl_copyItems.f x749002).bind fun t752 => (if t752.length + x749003.length < 3518437208883 then ((some (t752 ++ x749003 : List (S76))).bind fun y755 => (if (y755.length : Int) ≤ x749000 then ((impl_areItems.f k y755).bind fun t758 => (some t758)) else (some false))) else (none)))
end
def impl_ThreeOk.f (k : Nat) (a0_0 : Int) (a0_1 : Int) (l0_2 : List (S76)) (l0_3 : List (S76)) (l0_4 : List Int) : Option (Bool) := (impl_within.f a0_0 1 60).bind fun t749 => (if t749 = true then ((impl_within.f a0_1 1 a0_0).bind fun t750 => (if t750 = true then ((impl_Three_ghosts.f a0_0 a0_1).bind fun t751 => (impl_ThreeOk.j0 k (decide ((l0_4.length : Int) > t751)) a0_0 a0_1 l0_2 l0_3 l0_4)) else (impl_ThreeOk.j0 k true a0_0 a0_1 l0_2 l0_3 l0_4))) else (impl_ThreeOk.j0 k true a0_0 a0_1 l0_2 l0_3 l0_4))
def impl_ThreeOk.T1 : Bool × List (List Nat × List Nat) := (true, [([], []), ([0], [0]), ([1], [1]), ([2], [2]), ([3, 2], [3]), ([4], [4]), ([5, 4], [4, 5]), ([4], [4]), ([7, 4], [4, 7]), ([6, 8, 4, 4], [4, 6, 8]), ([9, 4], [4, 9]), ([4, 10], [4, 10]), ([11, 9], [11]), ([12], [12]), ([13, 12], [12, 13]), ([14, 12], [12, 14]), ([12, 12], [12]), ([15, 16, 12], [12, 15, 16]), ([12, 17], [12, 17])])
def impl_ThreeOk.B1 : List Nat := [0, 1, 3, 7, 15, 31, 63, 31, 159, 511, 1023, 2047, 4095, 8191, 16383, 32767, 8191, 131071, 262143]
theorem impl_ThreeOk.tab1 : rtab .any (opsOf Try.f90 1) = impl_ThreeOk.T1 := by kernel_rfl
theorem impl_ThreeOk.bits1 : waitsOk impl_ThreeOk.T1.2 impl_ThreeOk.B1 = true := by kernel_rfl
def impl_ThreeOk.T9 : Bool × List (List Nat × List Nat) := (true, [([], []), ([0], [0]), ([1], [1]), ([], []), ([3], [3]), ([2, 4, 2], [2, 4]), ([5, 5, 0, 1, 2, 3, 4, 5], [5])])
def impl_ThreeOk.B9 : List Nat := [0, 1, 3, 0, 8, 31, 63]
theorem impl_ThreeOk.tab9 : rtab .any (opsOf Try.f90 9) = impl_ThreeOk.T9 := by kernel_rfl
theorem impl_ThreeOk.bits9 : waitsOk impl_ThreeOk.T9.2 impl_ThreeOk.B9 = true := by kernel_rfl
set_option maxHeartbeats 8000000 in
set_option maxRecDepth 100000 in
theorem impl_ThreeOk.calls (k : Nat) (a0_0 : Int) (a0_1 : Int) (A0_2 : Option Addr) (c0_2 : Nat) (l0_2 : List (S76)) (A0_3 : Option Addr) (c0_3 : Nat) (l0_3 : List (S76)) (A0_4 : Option Addr) (c0_4 : Nat) (l0_4 : List Int) (r : Bool) (w : World) (hr0_2 : Kd.C k76 w A0_2 l0_2.length l0_2) (hc0_2 : l0_2.length ≤ c0_2) (hr0_3 : Kd.C k76 w A0_3 l0_3.length l0_3) (hc0_3 : l0_3.length ≤ c0_3) (hr0_4 : Kd.C (Kd.int .i64) w A0_4 l0_4.length l0_4) (hc0_4 : l0_4.length ≤ c0_4) (h : impl_ThreeOk.f k a0_0 a0_1 l0_2 l0_3 l0_4 = some r) :
  Calls Try.prog 90 #[.agg #[.int .i64 a0_0, .int .i64 a0_1, .slice A0_2 l0_2.length c0_2, .slice A0_3 l0_3.length c0_3, .slice A0_4 l0_4.length c0_4]] w fun e w' => e = .returned (.bool r) ∧ Mem w [] w' [] := by
 have hu65 := Try.underlying65
 have HR0_2 := Aside0.mk hr0_2
 have HC0_2 := Aside0.mk hc0_2
 clear hr0_2 hc0_2
 have HR0_3 := Aside0.mk hr0_3
 have HC0_3 := Aside0.mk hc0_3
 clear hr0_3 hc0_3
 have HR0_4 := Aside0.mk hr0_4
 have HC0_4 := Aside0.mk hc0_4
 clear hr0_4 hc0_4
 have HM := Mem.nil w
 have H := h
 clear h
 unfold impl_ThreeOk.f at H
 go_enter Try.func90, Try.ntmps90
 have HC3 := Aside0.mk H
 clear H
 go_upto_region 1 with (first | ((with_reducible refine gN 1 rfl ?_); refine pB 1 65 [.int .i64 a0_0, .int .i64 a0_1, .slice A0_2 l0_2.length c0_2, .slice A0_3 l0_3.length c0_3, .slice A0_4 l0_4.length c0_4] HM rfl ?_; clear HM; intro gb748 w2 HM))
 go_cut [24] (fun v24 wc => ∃ (kq : Nat) (x24_2 : Bool), v24 = .bool x24_2 ∧ Aside0 (impl_ThreeOk.j0 kq x24_2 a0_0 a0_1 l0_2 l0_3 l0_4 = some r) ∧ Aside0 (kq ≤ k) ∧ Mem w [] wc [box 65 gb748 [.int .i64 a0_0, .int .i64 a0_1, .slice A0_2 l0_2.length c0_2, .slice A0_3 l0_3.length c0_3, .slice A0_4 l0_4.length c0_4]])
 case first =>
  have H := HC3.out
  clear HC3
  try go_wp2
  replace H := BN H; obtain ⟨t749, A4, H⟩ := H
  replace H := IB H
  rcases H with ⟨c5, H⟩ | ⟨c5, H⟩
  ·subst c5
   replace H := BN H; obtain ⟨t750, A6, H⟩ := H
   replace H := IB H
   rcases H with ⟨c7, H⟩ | ⟨c7, H⟩
   ·subst c7
    replace H := BN H; obtain ⟨t751, A8, H⟩ := H
    refine RGN 19 [0, 1, 2, 3, 4, 5, 6, 7, 8, 9, 10, 11, 12, 13, 14, 15, 16, 17, 18] (fun a0 b a w' => a = putSel a0 b [(0, 6, .pointer (some ⟨gb748, 0, none⟩)), (1, 7, .int .i64 a0_0), (2, 8, .bool true), (3, 9, .bool (!true)), (4, 10, .bool (!true)), (5, 11, .pointer (some ⟨gb748, 1, none⟩)), (6, 12, .int .i64 a0_1), (7, 13, .pointer (some ⟨gb748, 0, none⟩)), (8, 14, .int .i64 a0_0), (9, 15, .bool true), (10, 16, .bool (!true)), (11, 17, .bool (!true)), (12, 18, .bool (!true)), (13, 19, .pointer (some ⟨gb748, 4, none⟩)), (14, 20, .slice A0_4 l0_4.length c0_4), (15, 21, .int .i64 (l0_4.length : Int)), (16, 22, .int .i64 t751), (17, 23, .bool (decide ((l0_4.length : Int) > t751))), (18, 24, .bool (decide ((l0_4.length : Int) > t751)))] ∧ Mem w [] w' [box 65 gb748 [.int .i64 a0_0, .int .i64 a0_1, .slice A0_2 l0_2.length c0_2, .slice A0_3 l0_3.length c0_3, .slice A0_4 l0_4.length c0_4]]) impl_ThreeOk.tab1 impl_ThreeOk.bits1 ?_ ?_ ?_
    ·exact ⟨PS0' rfl _, (HM.drew).pick [0]⟩
    ·clear HM
     refine SY ?_ ?_
     ·intro b a w ha HM hb hon hoff K hK
      have e1 := PG ha 1
      exact VL (.pointer (some ⟨gb748, 0, none⟩)) (hK.out _ _ ⟨PUT ha 0 hb, HM⟩)
     refine SY ?_ ?_
     ·intro b a w ha HM hb hon hoff K hK
      obtain ⟨z16_0, z16_1, z16_2, z16_3, z16_4, Z16_0, Z16_1, Z16_2, Z16_3, Z16_4⟩ := bk5 (HM.bx 0 rfl)
      have e6 := PE ha 0 hon
      exact VL (.int .i64 a0_0) (hK.out _ _ ⟨PUT ha 1 hb, HM⟩)
     refine SY ?_ ?_
     ·intro b a w ha HM hb hon hoff K hK
      have e7 := PE ha 1 hon
      refine ST (eC (some 8) rfl #[.int .i64 a0_0, .int .i64 1, .int .i64 60] rfl Try.func64 (impl_within.calls a0_0 1 60 true _ A4.out) ?_ (hargs := by (simp only [List.map_toArray, List.map_cons, List.map_nil, evc, eval_of e7]) <;> rfl))
      rintro e w17 ⟨rfl, hd⟩
      refine ⟨_, rfl, ?_⟩
      replace HM := HM.drawn hd
      clear hd
      exact hK.out _ _ ⟨PUT ha 2 hb, (HM).pick [0]⟩
     refine SY ?_ ?_
     ·intro b a w ha HM hb hon hoff K hK
      have e8 := PE ha 2 hon
      exact VL (.bool (!true)) (hK.out _ _ ⟨PUT ha 3 hb, HM⟩)
     refine SY ?_ ?_
     ·intro b a w ha HM hb hon hoff K hK
      have e9 := PE ha 3 hon
      exact VL (.bool (!true)) (hK.out _ _ ⟨PUT ha 4 hb, HM⟩)
     refine SY ?_ ?_
     ·intro b a w ha HM hb hon hoff K hK
      have e1 := PG ha 1
      have e10 := PE ha 4 hon
      exact VL (.pointer (some ⟨gb748, 1, none⟩)) (hK.out _ _ ⟨PUT ha 5 hb, HM⟩) (hw := wanted_on rfl rfl rfl (e10.trans (by first | rfl | (simp [*]; done))))
     refine SY ?_ ?_
     ·intro b a w ha HM hb hon hoff K hK
      obtain ⟨z18_0, z18_1, z18_2, z18_3, z18_4, Z18_0, Z18_1, Z18_2, Z18_3, Z18_4⟩ := bk5 (HM.bx 0 rfl)
      have e11 := PE ha 5 hon
      have e10 := PE ha 4 hon
      exact VL (.int .i64 a0_1) (hK.out _ _ ⟨PUT ha 6 hb, HM⟩) (hw := wanted_on rfl rfl rfl (e10.trans (by first | rfl | (simp [*]; done))))
     refine SY ?_ ?_
     ·intro b a w ha HM hb hon hoff K hK
      have e1 := PG ha 1
      have e10 := PE ha 4 hon
      exact VL (.pointer (some ⟨gb748, 0, none⟩)) (hK.out _ _ ⟨PUT ha 7 hb, HM⟩) (hw := wanted_on rfl rfl rfl (e10.trans (by first | rfl | (simp [*]; done))))
     refine SY ?_ ?_
     ·intro b a w ha HM hb hon hoff K hK
      obtain ⟨z19_0, z19_1, z19_2, z19_3, z19_4, Z19_0, Z19_1, Z19_2, Z19_3, Z19_4⟩ := bk5 (HM.bx 0 rfl)
      have e13 := PE ha 7 hon
      have e10 := PE ha 4 hon
      exact VL (.int .i64 a0_0) (hK.out _ _ ⟨PUT ha 8 hb, HM⟩) (hw := wanted_on rfl rfl rfl (e10.trans (by first | rfl | (simp [*]; done))))
     refine SY ?_ ?_
     ·intro b a w ha HM hb hon hoff K hK
      have e12 := PE ha 6 hon
      have e14 := PE ha 8 hon
      have e10 := PE ha 4 hon
      refine ST (eC (some 15) rfl #[.int .i64 a0_1, .int .i64 1, .int .i64 a0_0] rfl Try.func64 (impl_within.calls a0_1 1 a0_0 true _ A6.out) ?_ (hargs := by (simp only [List.map_toArray, List.map_cons, List.map_nil, evc, eval_of e12, eval_of e14]) <;> rfl)) (hw := wanted_on rfl rfl rfl (e10.trans (by first | rfl | (simp [*]; done))))
      rintro e w20 ⟨rfl, hd⟩
      refine ⟨_, rfl, ?_⟩
      replace HM := HM.drawn hd
      clear hd
      exact hK.out _ _ ⟨PUT ha 9 hb, (HM).pick [0]⟩
     refine SY ?_ ?_
     ·intro b a w ha HM hb hon hoff K hK
      have e15 := PE ha 9 hon
      have e10 := PE ha 4 hon
      exact VL (.bool (!true)) (hK.out _ _ ⟨PUT ha 10 hb, HM⟩) (hw := wanted_on rfl rfl rfl (e10.trans (by first | rfl | (simp [*]; done))))
     refine SY ?_ ?_
     ·intro b a w ha HM hb hon hoff K hK
      have e10 := PE ha 4 hon
      have e16 := PE ha 10 hon
      exact VL (.bool (!true)) (hK.out _ _ ⟨PUT ha 11 hb, HM⟩)
     refine SY ?_ ?_
     ·intro b a w ha HM hb hon hoff K hK
      have e17 := PE ha 11 hon
      exact VL (.bool (!true)) (hK.out _ _ ⟨PUT ha 12 hb, HM⟩)
     refine SY ?_ ?_
     ·intro b a w ha HM hb hon hoff K hK
      have e1 := PG ha 1
      have e18 := PE ha 12 hon
      exact VL (.pointer (some ⟨gb748, 4, none⟩)) (hK.out _ _ ⟨PUT ha 13 hb, HM⟩) (hw := wanted_on rfl rfl rfl (e18.trans (by first | rfl | (simp [*]; done))))
     refine SY ?_ ?_
     ·intro b a w ha HM hb hon hoff K hK
      obtain ⟨z21_0, z21_1, z21_2, z21_3, z21_4, Z21_0, Z21_1, Z21_2, Z21_3, Z21_4⟩ := bk5 (HM.bx 0 rfl)
      have e19 := PE ha 13 hon
      have e18 := PE ha 12 hon
      exact VL (.slice A0_4 l0_4.length c0_4) (hK.out _ _ ⟨PUT ha 14 hb, HM⟩) (hw := wanted_on rfl rfl rfl (e18.trans (by first | rfl | (simp [*]; done))))
     refine SY ?_ ?_
     ·intro b a w ha HM hb hon hoff K hK
      have e20 := PE ha 14 hon
      have e18 := PE ha 12 hon
      exact VL (.int .i64 (l0_4.length : Int)) (hK.out _ _ ⟨PUT ha 15 hb, HM⟩) (hw := wanted_on rfl rfl rfl (e18.trans (by first | rfl | (simp [*]; done))))
     refine SY ?_ ?_
     ·intro b a w ha HM hb hon hoff K hK
      have e1 := PG ha 1
      have e18 := PE ha 12 hon
      refine ST (eC (some 22) rfl #[.pointer (some ⟨gb748, 0, none⟩)] rfl Try.func103 (impl_Three_ghosts.calls gb748 a0_0 a0_1 _ _ _ t751 _ (HM.bx 0 rfl) A8.out) ?_ (hargs := by (simp only [List.map_toArray, List.map_cons, List.map_nil, evc, eval_of e1]) <;> rfl)) (hw := wanted_on rfl rfl rfl (e18.trans (by first | rfl | (simp [*]; done))))
      rintro e w22 ⟨rfl, nd_, rfl⟩
      refine ⟨_, rfl, ?_⟩
      replace HM := HM.drewN nd_
      exact hK.out _ _ ⟨PUT ha 16 hb, (HM).pick [0]⟩
     refine SY ?_ ?_
     ·intro b a w ha HM hb hon hoff K hK
      have e21 := PE ha 15 hon
      have e22 := PE ha 16 hon
      have e18 := PE ha 12 hon
      exact VL (.bool (decide ((l0_4.length : Int) > t751))) (hK.out _ _ ⟨PUT ha 17 hb, HM⟩) (hw := wanted_on rfl rfl rfl (e18.trans (by first | rfl | (simp [*]; done))))
     refine SY ?_ ?_
     ·intro b a w ha HM hb hon hoff K hK
      have e18 := PE ha 12 hon
      have e23 := PE ha 17 hon
      exact VL (.bool (decide ((l0_4.length : Int) > t751))) (hK.out _ _ ⟨PUT ha 18 hb, HM⟩)
     exact steps_nil
    rintro _ w23 ⟨rfl, HM⟩
    simp only [putSel, if_true, Act.put, List.setIfInBounds_toArray, List.set_cons_zero, List.set_cons_succ, gt_iff_lt, ge_iff_le]
    have H' := Aside0.mk H
    clear H
    go_wp2
    go_meet
    case rel => exact ⟨_, (decide ((l0_4.length : Int) > t751)), RS, H', ⟨by first | omega | exact Nat.le_refl _⟩, (MD HM).pick [0]⟩
   ·subst c7
    refine RGN 19 [0, 1, 2, 3, 4, 5, 6, 7, 8, 9, 10, 11, 12, 13, 14, 15, 16, 17, 18] (fun a0 b a w' => a = putSel a0 b [(0, 6, .pointer (some ⟨gb748, 0, none⟩)), (1, 7, .int .i64 a0_0), (2, 8, .bool true), (3, 9, .bool (!true)), (4, 10, .bool (!true)), (5, 11, .pointer (some ⟨gb748, 1, none⟩)), (6, 12, .int .i64 a0_1), (7, 13, .pointer (some ⟨gb748, 0, none⟩)), (8, 14, .int .i64 a0_0), (9, 15, .bool false), (10, 16, .bool (!false)), (11, 17, .bool (!false)), (12, 18, .bool (!false)), (13, 19, undef), (14, 20, undef), (15, 21, undef), (16, 22, undef), (17, 23, undef), (18, 24, .bool true)] ∧ Mem w [] w' [box 65 gb748 [.int .i64 a0_0, .int .i64 a0_1, .slice A0_2 l0_2.length c0_2, .slice A0_3 l0_3.length c0_3, .slice A0_4 l0_4.length c0_4]]) impl_ThreeOk.tab1 impl_ThreeOk.bits1 ?_ ?_ ?_
    ·exact ⟨PS0' rfl _, (HM.drew).pick [0]⟩
    ·clear HM
     refine SY ?_ ?_
     ·intro b a w ha HM hb hon hoff K hK
      have e1 := PG ha 1
      exact VL (.pointer (some ⟨gb748, 0, none⟩)) (hK.out _ _ ⟨PUT ha 0 hb, HM⟩)
     refine SY ?_ ?_
     ·intro b a w ha HM hb hon hoff K hK
      obtain ⟨z29_0, z29_1, z29_2, z29_3, z29_4, Z29_0, Z29_1, Z29_2, Z29_3, Z29_4⟩ := bk5 (HM.bx 0 rfl)
      have e6 := PE ha 0 hon
      exact VL (.int .i64 a0_0) (hK.out _ _ ⟨PUT ha 1 hb, HM⟩)
     refine SY ?_ ?_
     ·intro b a w ha HM hb hon hoff K hK
      have e7 := PE ha 1 hon
      refine ST (eC (some 8) rfl #[.int .i64 a0_0, .int .i64 1, .int .i64 60] rfl Try.func64 (impl_within.calls a0_0 1 60 true _ A4.out) ?_ (hargs := by (simp only [List.map_toArray, List.map_cons, List.map_nil, evc, eval_of e7]) <;> rfl))
      rintro e w30 ⟨rfl, hd⟩
      refine ⟨_, rfl, ?_⟩
      replace HM := HM.drawn hd
      clear hd
      exact hK.out _ _ ⟨PUT ha 2 hb, (HM).pick [0]⟩
     refine SY ?_ ?_
     ·intro b a w ha HM hb hon hoff K hK
      have e8 := PE ha 2 hon
      exact VL (.bool (!true)) (hK.out _ _ ⟨PUT ha 3 hb, HM⟩)
     refine SY ?_ ?_
     ·intro b a w ha HM hb hon hoff K hK
      have e9 := PE ha 3 hon
      exact VL (.bool (!true)) (hK.out _ _ ⟨PUT ha 4 hb, HM⟩)
     refine SY ?_ ?_
     ·intro b a w ha HM hb hon hoff K hK
      have e1 := PG ha 1
      have e10 := PE ha 4 hon
      exact VL (.pointer (some ⟨gb748, 1, none⟩)) (hK.out _ _ ⟨PUT ha 5 hb, HM⟩) (hw := wanted_on rfl rfl rfl (e10.trans (by first | rfl | (simp [*]; done))))
     refine SY ?_ ?_
     ·intro b a w ha HM hb hon hoff K hK
      obtain ⟨z31_0, z31_1, z31_2, z31_3, z31_4, Z31_0, Z31_1, Z31_2, Z31_3, Z31_4⟩ := bk5 (HM.bx 0 rfl)
      have e11 := PE ha 5 hon
      have e10 := PE ha 4 hon
      exact VL (.int .i64 a0_1) (hK.out _ _ ⟨PUT ha 6 hb, HM⟩) (hw := wanted_on rfl rfl rfl (e10.trans (by first | rfl | (simp [*]; done))))
     refine SY ?_ ?_
     ·intro b a w ha HM hb hon hoff K hK
      have e1 := PG ha 1
      have e10 := PE ha 4 hon
      exact VL (.pointer (some ⟨gb748, 0, none⟩)) (hK.out _ _ ⟨PUT ha 7 hb, HM⟩) (hw := wanted_on rfl rfl rfl (e10.trans (by first | rfl | (simp [*]; done))))
     refine SY ?_ ?_
     ·intro b a w ha HM hb hon hoff K hK
      obtain ⟨z32_0, z32_1, z32_2, z32_3, z32_4, Z32_0, Z32_1, Z32_2, Z32_3, Z32_4⟩ := bk5 (HM.bx 0 rfl)
      have e13 := PE ha 7 hon
      have e10 := PE ha 4 hon
      exact VL (.int .i64 a0_0) (hK.out _ _ ⟨PUT ha 8 hb, HM⟩) (hw := wanted_on rfl rfl rfl (e10.trans (by first | rfl | (simp [*]; done))))
     refine SY ?_ ?_
     ·intro b a w ha HM hb hon hoff K hK
      have e12 := PE ha 6 hon
      have e14 := PE ha 8 hon
      have e10 := PE ha 4 hon
      refine ST (eC (some 15) rfl #[.int .i64 a0_1, .int .i64 1, .int .i64 a0_0] rfl Try.func64 (impl_within.calls a0_1 1 a0_0 false _ A6.out) ?_ (hargs := by (simp only [List.map_toArray, List.map_cons, List.map_nil, evc, eval_of e12, eval_of e14]) <;> rfl)) (hw := wanted_on rfl rfl rfl (e10.trans (by first | rfl | (simp [*]; done))))
      rintro e w33 ⟨rfl, hd⟩
      refine ⟨_, rfl, ?_⟩
      replace HM := HM.drawn hd
      clear hd
      exact hK.out _ _ ⟨PUT ha 9 hb, (HM).pick [0]⟩
     refine SY ?_ ?_
     ·intro b a w ha HM hb hon hoff K hK
      have e15 := PE ha 9 hon
      have e10 := PE ha 4 hon
      exact VL (.bool (!false)) (hK.out _ _ ⟨PUT ha 10 hb, HM⟩) (hw := wanted_on rfl rfl rfl (e10.trans (by first | rfl | (simp [*]; done))))
     refine SY ?_ ?_
     ·intro b a w ha HM hb hon hoff K hK
      have e10 := PE ha 4 hon
      have e16 := PE ha 10 hon
      exact VL (.bool (!false)) (hK.out _ _ ⟨PUT ha 11 hb, HM⟩)
     refine SY ?_ ?_
     ·intro b a w ha HM hb hon hoff K hK
      have e17 := PE ha 11 hon
      exact VL (.bool (!false)) (hK.out _ _ ⟨PUT ha 12 hb, HM⟩)
     refine SY ?_ ?_
     ·intro b a w ha HM hb hon hoff K hK
      have e18 := PE ha 12 hon
      exact VN ( wanted_off rfl rfl rfl (e18.trans (by first | rfl | (simp [*]; done)))) (hK.out _ _ ⟨PUT ha 13 hb, HM⟩)
     refine SY ?_ ?_
     ·intro b a w ha HM hb hon hoff K hK
      have e18 := PE ha 12 hon
      exact VN ( wanted_off rfl rfl rfl (e18.trans (by first | rfl | (simp [*]; done)))) (hK.out _ _ ⟨PUT ha 14 hb, HM⟩)
     refine SY ?_ ?_
     ·intro b a w ha HM hb hon hoff K hK
      have e18 := PE ha 12 hon
      exact VN ( wanted_off rfl rfl rfl (e18.trans (by first | rfl | (simp [*]; done)))) (hK.out _ _ ⟨PUT ha 15 hb, HM⟩)
     refine SY ?_ ?_
     ·intro b a w ha HM hb hon hoff K hK
      have e18 := PE ha 12 hon
      exact VN ( wanted_off rfl rfl rfl (e18.trans (by first | rfl | (simp [*]; done)))) (hK.out _ _ ⟨PUT ha 16 hb, HM⟩)
     refine SY ?_ ?_
     ·intro b a w ha HM hb hon hoff K hK
      have e18 := PE ha 12 hon
      exact VN ( wanted_off rfl rfl rfl (e18.trans (by first | rfl | (simp [*]; done)))) (hK.out _ _ ⟨PUT ha 17 hb, HM⟩)
     refine SY ?_ ?_
     ·intro b a w ha HM hb hon hoff K hK
      have e18 := PE ha 12 hon
      have e23 := PE ha 17 hon
      exact VL (.bool true) (hK.out _ _ ⟨PUT ha 18 hb, HM⟩)
     exact steps_nil
    rintro _ w34 ⟨rfl, HM⟩
    simp only [putSel, if_true, Act.put, List.setIfInBounds_toArray, List.set_cons_zero, List.set_cons_succ, gt_iff_lt, ge_iff_le]
    have H' := Aside0.mk H
    clear H
    go_wp2
    go_meet
    case rel => exact ⟨_, (true), RS, H', ⟨by first | omega | exact Nat.le_refl _⟩, (MD HM).pick [0]⟩
  ·subst c5
   refine RGN 19 [0, 1, 2, 3, 4, 5, 6, 7, 8, 9, 10, 11, 12, 13, 14, 15, 16, 17, 18] (fun a0 b a w' => a = putSel a0 b [(0, 6, .pointer (some ⟨gb748, 0, none⟩)), (1, 7, .int .i64 a0_0), (2, 8, .bool false), (3, 9, .bool (!false)), (4, 10, .bool (!false)), (5, 11, undef), (6, 12, undef), (7, 13, undef), (8, 14, undef), (9, 15, undef), (10, 16, undef), (11, 17, .bool true), (12, 18, .bool true), (13, 19, undef), (14, 20, undef), (15, 21, undef), (16, 22, undef), (17, 23, undef), (18, 24, .bool true)] ∧ Mem w [] w' [box 65 gb748 [.int .i64 a0_0, .int .i64 a0_1, .slice A0_2 l0_2.length c0_2, .slice A0_3 l0_3.length c0_3, .slice A0_4 l0_4.length c0_4]]) impl_ThreeOk.tab1 impl_ThreeOk.bits1 ?_ ?_ ?_
   ·exact ⟨PS0' rfl _, (HM.drew).pick [0]⟩
   ·clear HM
    refine SY ?_ ?_
    ·intro b a w ha HM hb hon hoff K hK
     have e1 := PG ha 1
     exact VL (.pointer (some ⟨gb748, 0, none⟩)) (hK.out _ _ ⟨PUT ha 0 hb, HM⟩)
    refine SY ?_ ?_
    ·intro b a w ha HM hb hon hoff K hK
     obtain ⟨z37_0, z37_1, z37_2, z37_3, z37_4, Z37_0, Z37_1, Z37_2, Z37_3, Z37_4⟩ := bk5 (HM.bx 0 rfl)
     have e6 := PE ha 0 hon
     exact VL (.int .i64 a0_0) (hK.out _ _ ⟨PUT ha 1 hb, HM⟩)
    refine SY ?_ ?_
    ·intro b a w ha HM hb hon hoff K hK
     have e7 := PE ha 1 hon
     refine ST (eC (some 8) rfl #[.int .i64 a0_0, .int .i64 1, .int .i64 60] rfl Try.func64 (impl_within.calls a0_0 1 60 false _ A4.out) ?_ (hargs := by (simp only [List.map_toArray, List.map_cons, List.map_nil, evc, eval_of e7]) <;> rfl))
     rintro e w38 ⟨rfl, hd⟩
     refine ⟨_, rfl, ?_⟩
     replace HM := HM.drawn hd
     clear hd
     exact hK.out _ _ ⟨PUT ha 2 hb, (HM).pick [0]⟩
    refine SY ?_ ?_
    ·intro b a w ha HM hb hon hoff K hK
     have e8 := PE ha 2 hon
     exact VL (.bool (!false)) (hK.out _ _ ⟨PUT ha 3 hb, HM⟩)
    refine SY ?_ ?_
    ·intro b a w ha HM hb hon hoff K hK
     have e9 := PE ha 3 hon
     exact VL (.bool (!false)) (hK.out _ _ ⟨PUT ha 4 hb, HM⟩)
    refine SY ?_ ?_
    ·intro b a w ha HM hb hon hoff K hK
     have e10 := PE ha 4 hon
     exact VN ( wanted_off rfl rfl rfl (e10.trans (by first | rfl | (simp [*]; done)))) (hK.out _ _ ⟨PUT ha 5 hb, HM⟩)
    refine SY ?_ ?_
    ·intro b a w ha HM hb hon hoff K hK
     have e10 := PE ha 4 hon
     exact VN ( wanted_off rfl rfl rfl (e10.trans (by first | rfl | (simp [*]; done)))) (hK.out _ _ ⟨PUT ha 6 hb, HM⟩)
    refine SY ?_ ?_
    ·intro b a w ha HM hb hon hoff K hK
     have e10 := PE ha 4 hon
     exact VN ( wanted_off rfl rfl rfl (e10.trans (by first | rfl | (simp [*]; done)))) (hK.out _ _ ⟨PUT ha 7 hb, HM⟩)
    refine SY ?_ ?_
    ·intro b a w ha HM hb hon hoff K hK
     have e10 := PE ha 4 hon
     exact VN ( wanted_off rfl rfl rfl (e10.trans (by first | rfl | (simp [*]; done)))) (hK.out _ _ ⟨PUT ha 8 hb, HM⟩)
    refine SY ?_ ?_
    ·intro b a w ha HM hb hon hoff K hK
     have e10 := PE ha 4 hon
     exact VN ( wanted_off rfl rfl rfl (e10.trans (by first | rfl | (simp [*]; done)))) (hK.out _ _ ⟨PUT ha 9 hb, HM⟩)
    refine SY ?_ ?_
    ·intro b a w ha HM hb hon hoff K hK
     have e10 := PE ha 4 hon
     exact VN ( wanted_off rfl rfl rfl (e10.trans (by first | rfl | (simp [*]; done)))) (hK.out _ _ ⟨PUT ha 10 hb, HM⟩)
    refine SY ?_ ?_
    ·intro b a w ha HM hb hon hoff K hK
     have e10 := PE ha 4 hon
     have e16 := PE ha 10 hon
     exact VL (.bool true) (hK.out _ _ ⟨PUT ha 11 hb, HM⟩)
    refine SY ?_ ?_
    ·intro b a w ha HM hb hon hoff K hK
     have e17 := PE ha 11 hon
     exact VL (.bool true) (hK.out _ _ ⟨PUT ha 12 hb, HM⟩)
    refine SY ?_ ?_
    ·intro b a w ha HM hb hon hoff K hK
     have e18 := PE ha 12 hon
     exact VN ( wanted_off rfl rfl rfl (e18.trans (by first | rfl | (simp [*]; done)))) (hK.out _ _ ⟨PUT ha 13 hb, HM⟩)
    refine SY ?_ ?_
    ·intro b a w ha HM hb hon hoff K hK
     have e18 := PE ha 12 hon
     exact VN ( wanted_off rfl rfl rfl (e18.trans (by first | rfl | (simp [*]; done)))) (hK.out _ _ ⟨PUT ha 14 hb, HM⟩)
    refine SY ?_ ?_
    ·intro b a w ha HM hb hon hoff K hK
     have e18 := PE ha 12 hon
     exact VN ( wanted_off rfl rfl rfl (e18.trans (by first | rfl | (simp [*]; done)))) (hK.out _ _ ⟨PUT ha 15 hb, HM⟩)
    refine SY ?_ ?_
    ·intro b a w ha HM hb hon hoff K hK
     have e18 := PE ha 12 hon
     exact VN ( wanted_off rfl rfl rfl (e18.trans (by first | rfl | (simp [*]; done)))) (hK.out _ _ ⟨PUT ha 16 hb, HM⟩)
    refine SY ?_ ?_
    ·intro b a w ha HM hb hon hoff K hK
     have e18 := PE ha 12 hon
     exact VN ( wanted_off rfl rfl rfl (e18.trans (by first | rfl | (simp [*]; done)))) (hK.out _ _ ⟨PUT ha 17 hb, HM⟩)
    refine SY ?_ ?_
    ·intro b a w ha HM hb hon hoff K hK
     have e18 := PE ha 12 hon
     have e23 := PE ha 17 hon
     exact VL (.bool true) (hK.out _ _ ⟨PUT ha 18 hb, HM⟩)
    exact steps_nil
   rintro _ w39 ⟨rfl, HM⟩
   simp only [putSel, if_true, Act.put, List.setIfInBounds_toArray, List.set_cons_zero, List.set_cons_succ, gt_iff_lt, ge_iff_le]
   have H' := Aside0.mk H
   clear H
   go_wp2
   go_meet
   case rel => exact ⟨_, (true), RS, H', ⟨by first | omega | exact Nat.le_refl _⟩, (MD HM).pick [0]⟩
 case rest =>
  clear HC3 HM
  obtain ⟨kq, x24_2, rfl, HA, HJ2, HM⟩ := hcut
  cases kq with
  | zero => exact absurd HA.out (by simp [impl_ThreeOk.j0])
  | succ kj2 =>
   have H := HA.out
   clear HA
   simp only [impl_ThreeOk.j0] at H
   go_upto_if 24 with (fail)
   replace H := IB H
   rcases H with ⟨c40, H⟩ | ⟨c40, H⟩
   ·subst c40
    obtain rfl := Option.some.inj H
    go_wp2
    go_ret
    exact ⟨ER, (MD HM).pick []⟩
   ·subst c40
    have H' := Aside0.mk H
    clear H
    obtain ⟨z41_0, z41_1, z41_2, z41_3, z41_4, Z41_0, Z41_1, Z41_2, Z41_3, Z41_4⟩ := bk5 (HM.bx 0 rfl)
    go_wp2
    go_loopg [28] kj2 (fun kq v28 w' => ∃ (x28_2 : Int), v28 = .int .i64 x28_2 ∧ Aside0 (impl_ThreeOk.l0 kq l0_4 (l0_4.length : Int) x28_2 a0_0 a0_1 l0_2 l0_3 l0_4 = some r) ∧ Aside0 (kq ≤ kj2) ∧ Mem w [] w' [box 65 gb748 [.int .i64 a0_0, .int .i64 a0_1, .slice A0_2 l0_2.length c0_2, .slice A0_3 l0_3.length c0_3, .slice A0_4 l0_4.length c0_4]])
    case atStart => exact ⟨(0), RS, H', ⟨Nat.le_refl _⟩, (MD HM).pick [0]⟩
    case round =>
     clear H' HM
     obtain ⟨x28_2, rfl, HA, HK2, HM⟩ := hrel
     cases gk with
     | zero => exact absurd HA.out (by simp [impl_ThreeOk.l0])
     | succ k2 =>
      have H := HA.out
      clear HA
      simp only [impl_ThreeOk.l0] at H
      go_upto_if 29 with (fail)
      replace H := IT H; rcases H with ⟨c42, H⟩ | ⟨c42, H⟩
      ·have c42b0 : decide (x28_2 < (l0_4.length : Int)) = true := decide_eq_true c42
       clear c42
       (first | rw [c42b0] | (simp only [i64_w, i32_w]; rw [c42b0]) | skip)
       replace H := GD H; obtain ⟨c43, H⟩ := H
       have c43b0 : decide (0 ≤ x28_2) = true := decide_eq_true c43
       clear c43
       replace H := GD H; obtain ⟨c44, H⟩ := H
       have c44b0 : decide (x28_2 < (l0_4.length : Int)) = true := decide_eq_true c44
       clear c44
       replace H := BN H; obtain ⟨t760, A45, H⟩ := H
       replace H := IB H
       rcases H with ⟨c47, H⟩ | ⟨c47, H⟩
       ·subst c47
        have c49b0 := eq_true (of_decide_eq_true AS : 0 ≤ x28_2)
        replace H := GD H; obtain ⟨c50, H⟩ := H
        have c50b0 := eq_true c50
        have c50b1 : decide (x28_2 ≤ (l0_4.length : Int)) = true := decide_eq_true c50
        clear c50
        replace H := BN H; obtain ⟨t762, A52, H⟩ := H
        have p759 : 0 ≤ (x28_2 : Int) := of_decide_eq_true AS
        have q759 : (x28_2 : Int) < (l0_4.length : Int) := of_decide_eq_true AS
        obtain ⟨ad759, e759, hx759_0⟩ := Kd.at_int (HM.came HR0_4.out) x28_2 p759 q759
        cases e759
        replace p759 := eq_true p759
        replace q759 := eq_true q759
        go_upto_if 43 with (first | ((with_reducible refine gC 87 rfl ?_); refine pC (some 34) rfl #[.int .i64 (rd l0_4 x28_2)] rfl Try.func87 (impl_isNum.calls (rd l0_4 x28_2) true _ A45.out) ?_; rintro e w46 ⟨rfl, hd⟩; refine ⟨_, rfl, ?_⟩; replace HM := HM.drawn hd; clear hd; obtain ⟨z48_0, z48_1, z48_2, z48_3, z48_4, Z48_0, Z48_1, Z48_2, Z48_3, Z48_4⟩ := bk5 (HM.bx 0 rfl)) | ((with_reducible refine gate_sl (t := 60) rfl ?_); refine pRt 60 3 (Kd.int .i64) _ _ x28_2 l0_4 (some ad759) c0_4 rfl Try.underlying60 info3 (HM.came HR0_4.out) HC0_4.out (of_decide_eq_true AS) (of_decide_eq_true AS) ?_; intro Yx51 bx51 hYx51 hbx51; have HYx51 := Aside0.mk hYx51; have HBx51 := Aside0.mk hbx51; clear hYx51 hbx51; have hlx51 : (l0_4.take (x28_2 : Int).toNat).length = (x28_2 : Int).toNat := by rw [List.length_take]; have h_ : (x28_2 : Int) ≤ ((l0_4.length : Int) : Int) := of_decide_eq_true AS; omega) | ((with_reducible refine gC 104 rfl ?_); refine pC (some 42) rfl #[.slice Yx51 (l0_4.take (x28_2 : Int).toNat).length bx51, .int .i64 (rd l0_4 x28_2)] rfl Try.func104 (slices_Contains_int_int.calls k2 _ _ (l0_4.take (x28_2 : Int).toNat) (rd l0_4 x28_2) t762 _ HYx51.out HBx51.out A52.out) ?_ (hargs := by (try simp only [List.map_toArray, List.map_cons, List.map_nil]); first | done | rfl | (rw [hlx51]; rfl) | (simp only [List.length_take]; rfl)); rintro e w53 ⟨rfl, hd⟩; refine ⟨_, rfl, ?_⟩; replace HM := HM.drawn hd; clear hd))
        replace H := IB H
        rcases H with ⟨c54, H⟩ | ⟨c54, H⟩
        ·subst c54
         obtain rfl := Option.some.inj H
         go_wp2
         go_ret
         exact ⟨ER, (MD HM).pick []⟩
        ·subst c54
         have H' := Aside0.mk H
         clear H
         go_wp2
         go_roundg k2
         case measure => have := HJ2.out; have := HK2.out; omega
         case rel => exact ⟨(wrap64 (x28_2 + 1)), RS, H', ⟨by have := HJ2.out; have := HK2.out; omega⟩, (MD HM).pick [0]⟩
       ·subst c47
        obtain rfl := Option.some.inj H
        have p759 : 0 ≤ (x28_2 : Int) := of_decide_eq_true AS
        have q759 : (x28_2 : Int) < (l0_4.length : Int) := of_decide_eq_true AS
        obtain ⟨ad759, e759, hx759_0⟩ := Kd.at_int (HM.came HR0_4.out) x28_2 p759 q759
        cases e759
        replace p759 := eq_true p759
        replace q759 := eq_true q759
        go_wp2_with (first | ((with_reducible refine gC 87 rfl ?_); refine pC (some 34) rfl #[.int .i64 (rd l0_4 x28_2)] rfl Try.func87 (impl_isNum.calls (rd l0_4 x28_2) false _ A45.out) ?_; rintro e w46 ⟨rfl, hd⟩; refine ⟨_, rfl, ?_⟩; replace HM := HM.drawn hd; clear hd))
        go_ret
        exact ⟨ER, (MD HM).pick []⟩
      ·have c42b0 : decide (x28_2 < (l0_4.length : Int)) = false := decide_eq_false c42
       clear c42
       (first | rw [c42b0] | (simp only [i64_w, i32_w]; rw [c42b0]) | skip)
       try go_wp2
       replace H := BN H; obtain ⟨t752, A55, H⟩ := H
       replace H := GD H; obtain ⟨c56, H⟩ := H
       have LMc56 := Aside0.mk c56
       clear c56
       replace H := BLt H; obtain ⟨y755, Ny755, H⟩ := H
       replace Ny755 := Aside0.mk Ny755
       refine RGN 7 [0, 1, 2, 3, 4, 5, 6] (fun a0 b a w' => ∃ (v753 : Value) (v756 : Value), a = putSel a0 b [(0, 45, .pointer (some ⟨gb748, 2, none⟩)), (1, 46, .slice A0_2 l0_2.length c0_2), (2, 47, v753), (3, 48, .pointer (some ⟨gb748, 3, none⟩)), (4, 49, .slice A0_3 l0_3.length c0_3), (5, 50, v756), (6, 5, v756)] ∧ Mem w [] w' [box 65 gb748 [.int .i64 a0_0, .int .i64 a0_1, .slice A0_2 l0_2.length c0_2, .slice A0_3 l0_3.length c0_3, .slice A0_4 l0_4.length c0_4], sel (b 5) (rowR k76 76 v756 y755) (sel (b 2) (rowR k76 76 v753 t752) (emp))]) impl_ThreeOk.tab9 impl_ThreeOk.bits9 ?_ ?_ ?_
       ·exact ⟨.bool false, .bool false, PS0' rfl _, (HM.drew.ems 1).pick [0, 1]⟩
       ·clear HM
        refine steps_cons ?_ ?_
        ·rintro b a w ⟨v753, v756, ha, HM⟩ hb hon hoff
         refine ⟨_, rfl, fun K hK => ?_⟩
         replace ha := Aside0.mk ha
         have e1 := PG ha 1
         exact VL (.pointer (some ⟨gb748, 2, none⟩)) (hK.out _ _ ⟨v753, v756, PUT ha 0 hb, HM⟩)
        refine steps_cons ?_ ?_
        ·rintro b a w ⟨v753, v756, ha, HM⟩ hb hon hoff
         refine ⟨_, rfl, fun K hK => ?_⟩
         replace ha := Aside0.mk ha
         obtain ⟨z61_0, z61_1, z61_2, z61_3, z61_4, Z61_0, Z61_1, Z61_2, Z61_3, Z61_4⟩ := bk5 (HM.bx 0 rfl)
         have e45 := PE ha 0 hon
         exact VL (.slice A0_2 l0_2.length c0_2) (hK.out _ _ ⟨v753, v756, PUT ha 1 hb, HM⟩)
        refine steps_cons ?_ ?_
        ·rintro b a w ⟨v753, v756, ha, HM⟩ hb hon hoff
         refine ⟨_, rfl, fun K hK => ?_⟩
         replace ha := Aside0.mk ha
         have e46 := PE ha 1 hon
         refine ST (eC (some 47) rfl #[.slice A0_2 l0_2.length c0_2] rfl Try.func78 (impl_copyItems.calls _ _ l0_2 t752 _ (HM.came HR0_2.out) HC0_2.out A55.out) ?_ (hargs := by (simp only [List.map_toArray, List.map_cons, List.map_nil, evc, eval_of e46]) <;> rfl))
         rintro e w62 ⟨v753, rfl, hR⟩
         refine ⟨_, rfl, ?_⟩
         replace HM := HM.call hR
         clear hR
         exact hK.out _ _ ⟨v753, v756, PUT ha 2 hb, (HM.iF 2 rfl (hoff 5 (by kernel_rfl))).pick [0, 2]⟩
        refine steps_cons ?_ ?_
        ·rintro b a w ⟨v753, v756, ha, HM⟩ hb hon hoff
         refine ⟨_, rfl, fun K hK => ?_⟩
         replace ha := Aside0.mk ha
         have e1 := PG ha 1
         exact VL (.pointer (some ⟨gb748, 3, none⟩)) (hK.out _ _ ⟨v753, v756, PUT ha 3 hb, HM⟩)
        refine steps_cons ?_ ?_
        ·rintro b a w ⟨v753, v756, ha, HM⟩ hb hon hoff
         refine ⟨_, rfl, fun K hK => ?_⟩
         replace ha := Aside0.mk ha
         obtain ⟨z63_0, z63_1, z63_2, z63_3, z63_4, Z63_0, Z63_1, Z63_2, Z63_3, Z63_4⟩ := bk5 (HM.bx 0 rfl)
         have e48 := PE ha 3 hon
         exact VL (.slice A0_3 l0_3.length c0_3) (hK.out _ _ ⟨v753, v756, PUT ha 4 hb, HM⟩)
        refine steps_cons ?_ ?_
        ·rintro b a w ⟨v753, v756, ha, HM⟩ hb hon hoff
         refine ⟨_, rfl, fun K hK => ?_⟩
         replace ha := Aside0.mk ha
         replace HM := (HM.sF 1 rfl hb).sT 1 rfl (hon 2 (by kernel_rfl))
         have e47 := PE ha 2 hon
         have e49 := PE ha 4 hon
         refine ST (eA 1 (.tmp 47) (.tmp 49) 44 76 k76 v753 t752 l0_3 A0_3 l0_3.length c0_3 HM rfl Try.underlying44 info76 rfl (HM.came HR0_3.out) (by have h_ := LMc56.out; omega) ?_ (ops := #[]) (hw := by rfl) (hs := (eval_of e47)) (hx := (eval_of e49)))
         clear HM
         intro v756 w64 HM
         replace HM := HM.nm 1 rfl Ny755.out
         exact hK.out _ _ ⟨v753, v756, PUT (PCH ha 6 (hoff 6 (by kernel_rfl))) 5 hb, (HM).pick [0, 1]⟩
        refine steps_cons ?_ ?_
        ·rintro b a w ⟨v753, v756, ha, HM⟩ hb hon hoff
         refine ⟨_, rfl, fun K hK => ?_⟩
         replace ha := Aside0.mk ha
         have e50 := PE ha 5 hon
         exact VL (v756) (hK.out _ _ ⟨v753, v756, PUT ha 6 hb, HM⟩)
        exact steps_nil
       rintro _ w65 ⟨v753, v756, rfl, HM⟩
       replace HM := HM.sT 1 rfl rfl
       simp only [putSel, if_true, Act.put, List.setIfInBounds_toArray, List.set_cons_zero, List.set_cons_succ, gt_iff_lt, ge_iff_le]
       replace H := IT H; rcases H with ⟨c68, H⟩ | ⟨c68, H⟩
       ·have c68b0 : decide ((y755.length : Int) ≤ a0_0) = true := decide_eq_true c68
        clear c68
        replace H := BN H; obtain ⟨t758, A69, H⟩ := H
        obtain rfl := Option.some.inj H
        obtain ⟨Xo66, ko66, eo66⟩ := HM.rdR 1 rfl
        subst eo66
        obtain ⟨z67_0, z67_1, z67_2, z67_3, z67_4, Z67_0, Z67_1, Z67_2, Z67_3, Z67_4⟩ := bk5 (HM.bx 0 rfl)
        go_wp2_with (first | ((with_reducible refine gC 82 rfl ?_); refine pC (some 58) rfl #[.slice Xo66 y755.length ko66] rfl Try.func82 (impl_areItems.calls k2 _ _ y755 t758 _ (HM.CR 1 rfl).2.2 (HM.CR 1 rfl).2.1 A69.out) ?_; rintro e w70 ⟨rfl, hR⟩; refine ⟨_, rfl, ?_⟩; replace HM := HM.call hR; clear hR))
        go_ret
        exact ⟨ER, (MD HM).pick []⟩
       ·have c68b0 : decide ((y755.length : Int) ≤ a0_0) = false := decide_eq_false c68
        clear c68
        obtain rfl := Option.some.inj H
        obtain ⟨Xo66, ko66, eo66⟩ := HM.rdR 1 rfl
        subst eo66
        obtain ⟨z67_0, z67_1, z67_2, z67_3, z67_4, Z67_0, Z67_1, Z67_2, Z67_3, Z67_4⟩ := bk5 (HM.bx 0 rfl)
        go_wp2
        go_ret
        exact ⟨ER, (MD HM).pick []⟩
def impl_ThreeNew.f (k : Nat) (a0 : Int) (a1 : Int) : Option (Int × Int × (List (S76)) × (List (S76)) × List Int × Bool) := (impl_ThreeOk.f k a0 a1 ([] : List (S76)) ([] : List (S76)) ([] : List Int)).bind fun t765 => (if t765 = true then (some (a0, a1, ([] : List (S76)), ([] : List (S76)), ([] : List Int), true)) else (some (0, 0, ([] : List (S76)), ([] : List (S76)), ([] : List Int), false)))
set_option maxHeartbeats 8000000 in
set_option maxRecDepth 100000 in
theorem impl_ThreeNew.calls (k : Nat) (a0 : Int) (a1 : Int) (r1 : Int) (r2 : Int) (r3 : List (S76)) (r4 : List (S76)) (r5 : List Int) (r6 : Bool) (w : World)  (h : impl_ThreeNew.f k a0 a1 = some (r1, r2, r3, r4, r5, r6)) :
  Calls Try.prog 68 #[.int .i64 a0, .int .i64 a1] w fun e w' => ∃ v2_ v3_ v4_ : Value, e = .returned (.tuple #[.agg #[.int .i64 r1, .int .i64 r2, v2_, v3_, v4_], .bool r6]) ∧ Mem w [] w' [rowR k76 76 v2_ r3, rowR k76 76 v3_ r4, rowR (Kd.int .i64) 3 v4_ r5] := by
 have hu65 := Try.underlying65
 have HM := Mem.nil w
 have H := h
 clear h
 unfold impl_ThreeNew.f at H
 go_enter Try.func68, Try.ntmps68
 replace H := BN H; obtain ⟨t765, A7, H⟩ := H
 go_upto_if 12 with (first | ((with_reducible refine gN 4 rfl ?_); refine pB 4 65 [.int .i64 0, .int .i64 0, .slice none 0 0, .slice none 0 0, .slice none 0 0] HM rfl ?_; clear HM; intro gb763 w3 HM) | ((with_reducible refine gN 6 rfl ?_); refine pB 6 65 [.int .i64 0, .int .i64 0, .slice none 0 0, .slice none 0 0, .slice none 0 0] HM rfl ?_; clear HM; intro gb764 w4 HM) | ((with_reducible refine gS 6 rfl ?_); refine pS 1 6 0 [.int .i64 a0, .int .i64 a1, .slice none 0 0, .slice none 0 0, .slice none 0 0] HM rfl rfl ?_; clear HM; intro w5 HM; obtain ⟨z6_0, z6_1, z6_2, z6_3, z6_4, Z6_0, Z6_1, Z6_2, Z6_3, Z6_4⟩ := bk5 (HM.bx 1 rfl)) | ((with_reducible refine gC 90 rfl ?_); refine pC (some 11) rfl #[.agg #[.int .i64 a0, .int .i64 a1, .slice none 0 0, .slice none 0 0, .slice none 0 0]] rfl Try.func90 (impl_ThreeOk.calls k a0 a1 _ _ ([] : List (S76)) _ _ ([] : List (S76)) _ _ ([] : List Int) t765 _ (Kd.C_nil _ _) (Nat.le_refl _) (Kd.C_nil _ _) (Nat.le_refl _) (Kd.C_nil _ _) (Nat.le_refl _) A7.out) ?_; rintro e w8 ⟨rfl, hR⟩; refine ⟨_, rfl, ?_⟩; replace HM := HM.call hR; clear hR))
 replace HM := nzM HM
 replace H := IB H
 rcases H with ⟨c9, H⟩ | ⟨c9, H⟩
 ·subst c9
  simp only [Option.some.injEq, Prod.mk.injEq] at H
  obtain ⟨rfl, rfl, rfl, rfl, rfl, rfl⟩ := H
  obtain ⟨z10_0, z10_1, z10_2, z10_3, z10_4, Z10_0, Z10_1, Z10_2, Z10_3, Z10_4⟩ := bk5 (HM.bx 1 rfl)
  go_wp2_with (first | ((with_reducible refine gS 4 rfl ?_); refine pS 0 4 0 [.int .i64 a0, .int .i64 a1, .slice none 0 0, .slice none 0 0, .slice none 0 0] HM rfl rfl ?_; clear HM; intro w11 HM; replace HM := HM.nl k76 76; replace HM := HM.nl k76 76; replace HM := HM.nl (Kd.int .i64) 3))
  refine bodyPost_ret (results_ct rfl _ _ gb763 65 #[.int .i64 a0, .int .i64 a1, .slice none 0 0, .slice none 0 0, .slice none 0 0] (0, 0) _ rfl (HM.bx 0 rfl) Try.underlying65 rfl (by kernel_rfl)) rfl ?_
  exact ⟨_, _, _, ER, (MD HM).pick [2, 3, 4]⟩
 ·subst c9
  simp only [Option.some.injEq, Prod.mk.injEq] at H
  obtain ⟨rfl, rfl, rfl, rfl, rfl, rfl⟩ := H
  go_wp2_with (first | ((with_reducible refine gS 4 rfl ?_); refine pS 0 4 0 [.int .i64 0, .int .i64 0, .slice none 0 0, .slice none 0 0, .slice none 0 0] HM rfl rfl ?_; clear HM; intro w12 HM; replace HM := HM.nl k76 76; replace HM := HM.nl k76 76; replace HM := HM.nl (Kd.int .i64) 3))
  refine bodyPost_ret (results_ct rfl _ _ gb763 65 #[.int .i64 0, .int .i64 0, .slice none 0 0, .slice none 0 0, .slice none 0 0] (0, 0) _ rfl (HM.bx 0 rfl) Try.underlying65 rfl (by kernel_rfl)) rfl ?_
  exact ⟨_, _, _, ER, (MD HM).pick [2, 3, 4]⟩
def impl_SetupOk.f (k : Nat) (a0_0 : Int) (a0_1 : Int) (a0_2 : Int) : Option (Bool) := if a0_0 = 4 then ((impl_ThreeNew.f k a0_1 a0_2).bind fun bt773 => (some bt773.2.2.2.2.2)) else ((impl_RowNew.f k a0_0 a0_1).bind fun bt786 => (if bt786.2.2.2 = true then (some (a0_2 == 0)) else (some false)))
set_option maxHeartbeats 8000000 in
set_option maxRecDepth 100000 in
theorem impl_SetupOk.calls (k : Nat) (a0_0 : Int) (a0_1 : Int) (a0_2 : Int) (r : Bool) (w : World)  (h : impl_SetupOk.f k a0_0 a0_1 a0_2 = some r) :
  Calls Try.prog 39 #[.agg #[.int .i64 a0_0, .int .i64 a0_1, .int .i64 a0_2]] w fun e w' => e = .returned (.bool r) ∧ Mem w [] w' [] := by
 have hu28 := Try.underlying28
 have hu65 := Try.underlying65
 have hu46 := Try.underlying46
 have HM := Mem.nil w
 have H := h
 clear h
 unfold impl_SetupOk.f at H
 go_enter Try.func39, Try.ntmps39
 go_upto_if 9 with (first | ((with_reducible refine gN 1 rfl ?_); refine pB 1 28 [.int .i64 a0_0, .int .i64 a0_1, .int .i64 a0_2] HM rfl ?_; clear HM; intro gb772 w2 HM; obtain ⟨z3_0, z3_1, z3_2, Z3_0, Z3_1, Z3_2⟩ := bk3 (HM.bx 0 rfl)))
 replace H := IT H; rcases H with ⟨c4, H⟩ | ⟨c4, H⟩
 ·have c4b0 : (a0_0 == 4) = true := beq_iff_eq.mpr c4
  have c4b1 : (a0_0 != 4) = false := bne_eq_false_iff_eq.mpr c4
  clear c4
  (first | rw [c4b0] | (simp only [i64_w, i32_w]; rw [c4b0]) | skip)
  replace H := BN H; obtain ⟨⟨t773, t774, t775, t778, t781, t784⟩, A5, H⟩ := H
  obtain rfl := Option.some.inj H
  go_wp2_with (first | ((with_reducible refine gC 68 rfl ?_); refine pC (some 15) rfl #[.int .i64 a0_1, .int .i64 a0_2] rfl Try.func68 (impl_ThreeNew.calls k a0_1 a0_2 t773 t774 t775 t778 t781 t784 _ A5.out) ?_; rintro e w6 ⟨v776, v779, v782, rfl, hR⟩; refine ⟨_, rfl, ?_⟩; replace HM := HM.call hR; clear hR) | ((with_reducible refine gN 3 rfl ?_); refine pB 3 65 [.int .i64 0, .int .i64 0, .slice none 0 0, .slice none 0 0, .slice none 0 0] HM rfl ?_; clear HM; intro gb785 w7 HM; obtain ⟨Xo8, ko8, eo8⟩ := HM.rdR 1 rfl; subst eo8; obtain ⟨Xo9, ko9, eo9⟩ := HM.rdR 2 rfl; subst eo9; obtain ⟨Xo10, ko10, eo10⟩ := HM.rdR 3 rfl; subst eo10) | ((with_reducible refine gS 3 rfl ?_); refine pS 4 3 0 [.int .i64 t773, .int .i64 t774, .slice Xo8 t775.length ko8, .slice Xo9 t778.length ko9, .slice Xo10 t781.length ko10] HM rfl rfl ?_; clear HM; intro w11 HM))
  go_ret
  exact ⟨ER, (MD HM).pick []⟩
 ·have c4b0 : (a0_0 == 4) = false := beq_eq_false_iff_ne.mpr c4
  have c4b1 : (a0_0 != 4) = true := bne_iff_ne.mpr c4
  (first | rw [c4b0] | (simp only [i64_w, i32_w]; rw [c4b0]) | skip)
  replace H := BN H; obtain ⟨⟨t786, t787, t788, t791⟩, A12, H⟩ := H
  replace H := IB H
  rcases H with ⟨c17, H⟩ | ⟨c17, H⟩
  ·subst c17
   obtain rfl := Option.some.inj H
   go_wp2_with (first | ((with_reducible refine gC 32 rfl ?_); refine pC (some 24) rfl #[.int .i64 a0_0, .int .i64 a0_1] rfl Try.func32 (impl_RowNew.calls k a0_0 a0_1 t786 t787 t788 true _ A12.out) ?_; rintro e w13 ⟨v789, rfl, hR⟩; refine ⟨_, rfl, ?_⟩; replace HM := HM.call hR; clear hR) | ((with_reducible refine gN 5 rfl ?_); refine pB 5 46 [.int .i64 0, .int .i64 0, .slice none 0 0] HM rfl ?_; clear HM; intro gb792 w14 HM; obtain ⟨Xo15, ko15, eo15⟩ := HM.rdR 1 rfl; subst eo15) | ((with_reducible refine gS 5 rfl ?_); refine pS 2 5 0 [.int .i64 t786, .int .i64 t787, .slice Xo15 t788.length ko15] HM rfl rfl ?_; clear HM; intro w16 HM; obtain ⟨z18_0, z18_1, z18_2, Z18_0, Z18_1, Z18_2⟩ := bk3 (HM.bx 0 rfl)))
   go_ret
   exact ⟨ER, (MD HM).pick []⟩
  ·subst c17
   obtain rfl := Option.some.inj H
   go_wp2_with (first | ((with_reducible refine gC 32 rfl ?_); refine pC (some 24) rfl #[.int .i64 a0_0, .int .i64 a0_1] rfl Try.func32 (impl_RowNew.calls k a0_0 a0_1 t786 t787 t788 false _ A12.out) ?_; rintro e w13 ⟨v789, rfl, hR⟩; refine ⟨_, rfl, ?_⟩; replace HM := HM.call hR; clear hR) | ((with_reducible refine gN 5 rfl ?_); refine pB 5 46 [.int .i64 0, .int .i64 0, .slice none 0 0] HM rfl ?_; clear HM; intro gb792 w14 HM; obtain ⟨Xo15, ko15, eo15⟩ := HM.rdR 1 rfl; subst eo15) | ((with_reducible refine gS 5 rfl ?_); refine pS 2 5 0 [.int .i64 t786, .int .i64 t787, .slice Xo15 t788.length ko15] HM rfl rfl ?_; clear HM; intro w16 HM))
   go_ret
   exact ⟨ER, (MD HM).pick []⟩
def impl_AsksOk.l0 : Nat → List ByteArray → List ByteArray → Int → Int → Option (Bool)
 | 0, _, _, _, _ => none
 | k + 1, x0, x5, x6, x7 => if x7 < x6 then (if 0 ≤ x7 then (if x7 < (x5.length : Int) then ((impl_ItemOk.f k (rdOf ByteArray.empty x5 x7) (⟨#[]⟩ : ByteArray) 0).bind fun t794 => (if t794 = true then (impl_AsksOk.l0 k x0 x5 x6 (wrap64 (x7 + 1))) else (some false))) else (none)) else (none)) else (some (decide ((x0.length : Int) ≤ 300)))
def impl_AsksOk.f (k : Nat) (l0 : List ByteArray) : Option (Bool) := impl_AsksOk.l0 k l0 l0 (l0.length : Int) 0
set_option maxHeartbeats 8000000 in
set_option maxRecDepth 100000 in
theorem impl_AsksOk.calls (k : Nat) (A0 : Option Addr) (c0 : Nat) (l0 : List ByteArray) (r : Bool) (w : World) (hr0 : Kd.C Kd.string w A0 l0.length l0) (hc0 : l0.length ≤ c0) (h : impl_AsksOk.f k l0 = some r) :
  Calls Try.prog 42 #[.slice A0 l0.length c0] w fun e w' => e = .returned (.bool r) ∧ Mem w [] w' [] := by
 have hu76 := Try.underlying76
 have HR0 := Aside0.mk hr0
 have HC0 := Aside0.mk hc0
 clear hr0 hc0
 have HM := Mem.nil w
 have H := h
 clear h
 unfold impl_AsksOk.f at H
 go_enter Try.func42, Try.ntmps42
 have H' := Aside0.mk H
 clear H
 go_wp2
 go_loopg [7] k (fun kq v7 w' => ∃ (x7_1 : Int), v7 = .int .i64 x7_1 ∧ Aside0 (impl_AsksOk.l0 kq l0 l0 (l0.length : Int) x7_1 = some r) ∧ Aside0 (kq ≤ k) ∧ Mem w [] w' [])
 case atStart => exact ⟨(0), RS, H', ⟨Nat.le_refl _⟩, (MD HM).pick []⟩
 case round =>
  clear H' HM
  obtain ⟨x7_1, rfl, HA, HK1, HM⟩ := hrel
  cases gk with
  | zero => exact absurd HA.out (by simp [impl_AsksOk.l0])
  | succ k1 =>
   have H := HA.out
   clear HA
   simp only [impl_AsksOk.l0] at H
   go_upto_if 8 with (fail)
   replace H := IT H; rcases H with ⟨c2, H⟩ | ⟨c2, H⟩
   ·have c2b0 : decide (x7_1 < (l0.length : Int)) = true := decide_eq_true c2
    clear c2
    (first | rw [c2b0] | (simp only [i64_w, i32_w]; rw [c2b0]) | skip)
    replace H := GD H; obtain ⟨c3, H⟩ := H
    have c3b0 : decide (0 ≤ x7_1) = true := decide_eq_true c3
    clear c3
    replace H := GD H; obtain ⟨c4, H⟩ := H
    have c4b0 : decide (x7_1 < (l0.length : Int)) = true := decide_eq_true c4
    clear c4
    replace H := BN H; obtain ⟨t794, A5, H⟩ := H
    have p793 : 0 ≤ (x7_1 : Int) := of_decide_eq_true AS
    have q793 : (x7_1 : Int) < (l0.length : Int) := of_decide_eq_true AS
    obtain ⟨ad793, e793, hx793_0⟩ := Kd.at_string (HM.came HR0.out) x7_1 p793 q793
    cases e793
    replace p793 := eq_true p793
    replace q793 := eq_true q793
    go_upto_if 14 with (first | ((with_reducible refine gC 60 rfl ?_); refine pC (some 13) rfl #[.agg #[.string (rdOf ByteArray.empty l0 x7_1), .string (⟨#[]⟩ : ByteArray), .int .i64 0]] rfl Try.func60 (impl_ItemOk.calls k1 (rdOf ByteArray.empty l0 x7_1) (⟨#[]⟩ : ByteArray) 0 t794 _ A5.out) ?_; rintro e w6 ⟨rfl, hR⟩; refine ⟨_, rfl, ?_⟩; replace HM := HM.call hR; clear hR))
    replace H := IB H
    rcases H with ⟨c7, H⟩ | ⟨c7, H⟩
    ·subst c7
     have H' := Aside0.mk H
     clear H
     go_wp2
     go_roundg k1
     case measure => have := HK1.out; omega
     case rel => exact ⟨(wrap64 (x7_1 + 1)), RS, H', ⟨by have := HK1.out; omega⟩, (MD HM).pick []⟩
    ·subst c7
     obtain rfl := Option.some.inj H
     go_wp2
     go_ret
     exact ⟨ER, (MD HM).pick []⟩
   ·have c2b0 : decide (x7_1 < (l0.length : Int)) = false := decide_eq_false c2
    clear c2
    (first | rw [c2b0] | (simp only [i64_w, i32_w]; rw [c2b0]) | skip)
    obtain rfl := Option.some.inj H
    go_wp2
    go_ret
    exact ⟨ER, (MD HM).pick []⟩
def impl_cacheOf.f (k : Nat) (a0_0 : Int) (a0_1 : Int) (a0_2 : Int) : Option (Int × Int × (List (S76)) × Int × Int × (List (S76)) × (List (S76)) × List Int) := if a0_0 = 4 then ((impl_ThreeNew.f k a0_1 a0_2).bind fun bt797 => (some (0, 0, ([] : List (S76)), bt797.1, bt797.2.1, bt797.2.2.1, bt797.2.2.2.1, bt797.2.2.2.2.1))) else ((impl_RowNew.f k a0_0 a0_1).bind fun bt809 => (some (bt809.1, bt809.2.1, bt809.2.2.1, 0, 0, ([] : List (S76)), ([] : List (S76)), ([] : List Int))))
set_option maxHeartbeats 8000000 in
set_option maxRecDepth 100000 in
theorem impl_cacheOf.calls (k : Nat) (a0_0 : Int) (a0_1 : Int) (a0_2 : Int) (r1 : Int) (r2 : Int) (r3 : List (S76)) (r4 : Int) (r5 : Int) (r6 : List (S76)) (r7 : List (S76)) (r8 : List Int) (w : World)  (h : impl_cacheOf.f k a0_0 a0_1 a0_2 = some (r1, r2, r3, r4, r5, r6, r7, r8)) :
  Calls Try.prog 75 #[.agg #[.int .i64 a0_0, .int .i64 a0_1, .int .i64 a0_2]] w fun e w' => ∃ v2_ v5_ v6_ v7_ : Value, ∃ g_ : Nat, e = .returned (.pointer (some ⟨g_, 0, none⟩)) ∧ Mem w [] w' [rowR k76 76 v2_ r3, rowR k76 76 v5_ r6, rowR k76 76 v6_ r7, rowR (Kd.int .i64) 3 v7_ r8, box 101 g_ [.int .i64 r1, .int .i64 r2, v2_, .int .i64 r4, .int .i64 r5, v5_, v6_, v7_]] := by
 have hu28 := Try.underlying28
 have hu101 := Try.underlying101
 have hu65 := Try.underlying65
 have hu46 := Try.underlying46
 have HM := Mem.nil w
 have H := h
 clear h
 unfold impl_cacheOf.f at H
 go_enter Try.func75, Try.ntmps75
 go_upto_if 8 with (first | ((with_reducible refine gN 1 rfl ?_); refine pB 1 28 [.int .i64 a0_0, .int .i64 a0_1, .int .i64 a0_2] HM rfl ?_; clear HM; intro gb795 w2 HM) | ((with_reducible refine gN 5 rfl ?_); refine pB 5 101 [.int .i64 0, .int .i64 0, .slice none 0 0, .int .i64 0, .int .i64 0, .slice none 0 0, .slice none 0 0, .slice none 0 0] HM rfl ?_; clear HM; intro gb796 w3 HM; obtain ⟨z4_0, z4_1, z4_2, Z4_0, Z4_1, Z4_2⟩ := bk3 (HM.bx 0 rfl)))
 replace HM := nzM HM
 replace H := IT H; rcases H with ⟨c5, H⟩ | ⟨c5, H⟩
 ·have c5b0 : (a0_0 == 4) = true := beq_iff_eq.mpr c5
  have c5b1 : (a0_0 != 4) = false := bne_eq_false_iff_eq.mpr c5
  clear c5
  (first | rw [c5b0] | (simp only [i64_w, i32_w]; rw [c5b0]) | skip)
  replace H := BN H; obtain ⟨⟨t797, t798, t799, t802, t805, t808⟩, A6, H⟩ := H
  simp only [Option.some.injEq, Prod.mk.injEq] at H
  obtain ⟨rfl, rfl, rfl, rfl, rfl, rfl, rfl, rfl⟩ := H
  go_wp2_with (first | ((with_reducible refine gC 68 rfl ?_); refine pC (some 15) rfl #[.int .i64 a0_1, .int .i64 a0_2] rfl Try.func68 (impl_ThreeNew.calls k a0_1 a0_2 t797 t798 t799 t802 t805 t808 _ A6.out) ?_; rintro e w7 ⟨v800, v803, v806, rfl, hR⟩; refine ⟨_, rfl, ?_⟩; replace HM := HM.call hR; clear hR; obtain ⟨Xo8, ko8, eo8⟩ := HM.rdR 2 rfl; subst eo8; obtain ⟨Xo9, ko9, eo9⟩ := HM.rdR 3 rfl; subst eo9; obtain ⟨Xo10, ko10, eo10⟩ := HM.rdR 4 rfl; subst eo10) | ((with_reducible refine gS 19 rfl ?_); refine pS 1 19 3 [.int .i64 t797, .int .i64 t798, .slice Xo8 t799.length ko8, .slice Xo9 t802.length ko9, .slice Xo10 t805.length ko10] HM rfl rfl ?_; clear HM; intro w11 HM; replace HM := HM.nl k76 76))
  go_ret
  exact ⟨_, _, _, _, _, ER, (MD HM).pick [5, 2, 3, 4, 1]⟩
 ·have c5b0 : (a0_0 == 4) = false := beq_eq_false_iff_ne.mpr c5
  have c5b1 : (a0_0 != 4) = true := bne_iff_ne.mpr c5
  (first | rw [c5b0] | (simp only [i64_w, i32_w]; rw [c5b0]) | skip)
  replace H := BN H; obtain ⟨⟨t809, t810, t811, t814⟩, A12, H⟩ := H
  simp only [Option.some.injEq, Prod.mk.injEq] at H
  obtain ⟨rfl, rfl, rfl, rfl, rfl, rfl, rfl, rfl⟩ := H
  go_wp2_with (first | ((with_reducible refine gC 32 rfl ?_); refine pC (some 26) rfl #[.int .i64 a0_0, .int .i64 a0_1] rfl Try.func32 (impl_RowNew.calls k a0_0 a0_1 t809 t810 t811 t814 _ A12.out) ?_; rintro e w13 ⟨v812, rfl, hR⟩; refine ⟨_, rfl, ?_⟩; replace HM := HM.call hR; clear hR; obtain ⟨Xo14, ko14, eo14⟩ := HM.rdR 2 rfl; subst eo14) | ((with_reducible refine gS 30 rfl ?_); refine pS 1 30 0 [.int .i64 t809, .int .i64 t810, .slice Xo14 t811.length ko14] HM rfl rfl ?_; clear HM; intro w15 HM; replace HM := HM.nl k76 76; replace HM := HM.nl k76 76; replace HM := HM.nl (Kd.int .i64) 3))
  go_ret
  exact ⟨_, _, _, _, _, ER, (MD HM).pick [2, 3, 4, 5, 1]⟩
def impl_copyRow.f (a0_0 : Int) (a0_1 : Int) (l0_2 : List (S76)) : Option (Int × Int × (List (S76))) := (impl_copyItems.f l0_2).bind fun t821 => (some (a0_0, a0_1, t821))
def impl_copyRow.T1 : Bool × List (List Nat × List Nat) := (true, [([], []), ([0], [0]), ([], []), ([2], [2]), ([], []), ([4], [4]), ([5], [5]), ([1, 3, 6], [1, 3, 6]), ([7, 6, 0, 1, 2, 3, 4, 5, 6, 7], [7])])
def impl_copyRow.B1 : List Nat := [0, 1, 0, 4, 0, 16, 48, 127, 255]
theorem impl_copyRow.tab1 : rtab .any (opsOf Try.f61 1) = impl_copyRow.T1 := by kernel_rfl
theorem impl_copyRow.bits1 : waitsOk impl_copyRow.T1.2 impl_copyRow.B1 = true := by kernel_rfl
set_option maxHeartbeats 8000000 in
set_option maxRecDepth 100000 in
theorem impl_copyRow.calls (a0_0 : Int) (a0_1 : Int) (A0_2 : Option Addr) (c0_2 : Nat) (l0_2 : List (S76)) (r1 : Int) (r2 : Int) (r3 : List (S76)) (w : World) (hr0_2 : Kd.C k76 w A0_2 l0_2.length l0_2) (hc0_2 : l0_2.length ≤ c0_2) (h : impl_copyRow.f a0_0 a0_1 l0_2 = some (r1, r2, r3)) :
  Calls Try.prog 61 #[.agg #[.int .i64 a0_0, .int .i64 a0_1, .slice A0_2 l0_2.length c0_2]] w fun e w' => ∃ v2_ : Value, e = .returned (.agg #[.int .i64 r1, .int .i64 r2, v2_]) ∧ Mem w [] w' [rowR k76 76 v2_ r3] := by
 have hu46 := Try.underlying46
 have HR0_2 := Aside0.mk hr0_2
 have HC0_2 := Aside0.mk hc0_2
 clear hr0_2 hc0_2
 have HM := Mem.nil w
 have H := h
 clear h
 unfold impl_copyRow.f at H
 go_enter Try.func61, Try.ntmps61
 try go_wp2_with (first | ((with_reducible refine gN 1 rfl ?_); refine pB 1 46 [.int .i64 a0_0, .int .i64 a0_1, .slice A0_2 l0_2.length c0_2] HM rfl ?_; clear HM; intro gb819 w2 HM) | ((with_reducible refine gN 2 rfl ?_); refine pB 2 46 [.int .i64 0, .int .i64 0, .slice none 0 0] HM rfl ?_; clear HM; intro gb820 w3 HM))
 replace H := BN H; obtain ⟨t821, A4, H⟩ := H
 refine RGN 9 [0, 1, 2, 3, 4, 5, 6, 7, 8] (fun a0 b a w' => ∃ (v822 : Value), a = putSel a0 b [(0, 3, .pointer (some ⟨gb819, 0, none⟩)), (1, 4, .int .i64 a0_0), (2, 5, .pointer (some ⟨gb819, 1, none⟩)), (3, 6, .int .i64 a0_1), (4, 7, .pointer (some ⟨gb819, 2, none⟩)), (5, 8, .slice A0_2 l0_2.length c0_2), (6, 9, v822), (7, 10, .agg #[.int .i64 a0_0, .int .i64 a0_1, v822])] ∧ Mem w [] w' [box 46 gb819 [.int .i64 a0_0, .int .i64 a0_1, .slice A0_2 l0_2.length c0_2], sel (b 8) (box 46 gb820 [.int .i64 a0_0, .int .i64 a0_1, v822]) (box 46 gb820 [.int .i64 0, .int .i64 0, .slice none 0 0]), sel (b 6) (rowR k76 76 v822 t821) (emp)]) impl_copyRow.tab1 impl_copyRow.bits1 ?_ ?_ ?_
 ·exact ⟨.bool false, PS0' rfl _, (HM.drew.ems 1).pick [0, 1, 2]⟩
 ·clear HM
  refine steps_cons ?_ ?_
  ·rintro b a w ⟨v822, ha, HM⟩ hb hon hoff
   refine ⟨_, rfl, fun K hK => ?_⟩
   replace ha := Aside0.mk ha
   have e1 := PG ha 1
   exact VL (.pointer (some ⟨gb819, 0, none⟩)) (hK.out _ _ ⟨v822, PUT ha 0 hb, HM⟩)
  refine steps_cons ?_ ?_
  ·rintro b a w ⟨v822, ha, HM⟩ hb hon hoff
   refine ⟨_, rfl, fun K hK => ?_⟩
   replace ha := Aside0.mk ha
   obtain ⟨z12_0, z12_1, z12_2, Z12_0, Z12_1, Z12_2⟩ := bk3 (HM.bx 0 rfl)
   have e3 := PE ha 0 hon
   exact VL (.int .i64 a0_0) (hK.out _ _ ⟨v822, PUT ha 1 hb, HM⟩)
  refine steps_cons ?_ ?_
  ·rintro b a w ⟨v822, ha, HM⟩ hb hon hoff
   refine ⟨_, rfl, fun K hK => ?_⟩
   replace ha := Aside0.mk ha
   have e1 := PG ha 1
   exact VL (.pointer (some ⟨gb819, 1, none⟩)) (hK.out _ _ ⟨v822, PUT ha 2 hb, HM⟩)
  refine steps_cons ?_ ?_
  ·rintro b a w ⟨v822, ha, HM⟩ hb hon hoff
   refine ⟨_, rfl, fun K hK => ?_⟩
   replace ha := Aside0.mk ha
   obtain ⟨z13_0, z13_1, z13_2, Z13_0, Z13_1, Z13_2⟩ := bk3 (HM.bx 0 rfl)
   have e5 := PE ha 2 hon
   exact VL (.int .i64 a0_1) (hK.out _ _ ⟨v822, PUT ha 3 hb, HM⟩)
  refine steps_cons ?_ ?_
  ·rintro b a w ⟨v822, ha, HM⟩ hb hon hoff
   refine ⟨_, rfl, fun K hK => ?_⟩
   replace ha := Aside0.mk ha
   have e1 := PG ha 1
   exact VL (.pointer (some ⟨gb819, 2, none⟩)) (hK.out _ _ ⟨v822, PUT ha 4 hb, HM⟩)
  refine steps_cons ?_ ?_
  ·rintro b a w ⟨v822, ha, HM⟩ hb hon hoff
   refine ⟨_, rfl, fun K hK => ?_⟩
   replace ha := Aside0.mk ha
   obtain ⟨z14_0, z14_1, z14_2, Z14_0, Z14_1, Z14_2⟩ := bk3 (HM.bx 0 rfl)
   have e7 := PE ha 4 hon
   exact VL (.slice A0_2 l0_2.length c0_2) (hK.out _ _ ⟨v822, PUT ha 5 hb, HM⟩)
  refine steps_cons ?_ ?_
  ·rintro b a w ⟨v822, ha, HM⟩ hb hon hoff
   refine ⟨_, rfl, fun K hK => ?_⟩
   replace ha := Aside0.mk ha
   have e8 := PE ha 5 hon
   refine ST (eC (some 9) rfl #[.slice A0_2 l0_2.length c0_2] rfl Try.func78 (impl_copyItems.calls _ _ l0_2 t821 _ (HM.came HR0_2.out) HC0_2.out A4.out) ?_ (hargs := by (simp only [List.map_toArray, List.map_cons, List.map_nil, evc, eval_of e8]) <;> rfl))
   rintro e w15 ⟨v822, rfl, hR⟩
   refine ⟨_, rfl, ?_⟩
   replace HM := HM.call hR
   clear hR
   exact hK.out _ _ ⟨v822, PUT (PCH ha 7 (hoff 7 (by kernel_rfl))) 6 hb, ((HM.sF 1 rfl (hoff 8 (by kernel_rfl))).iF 1 rfl (hoff 8 (by kernel_rfl))).pick [0, 1, 3]⟩
  refine steps_cons ?_ ?_
  ·rintro b a w ⟨v822, ha, HM⟩ hb hon hoff
   refine ⟨_, rfl, fun K hK => ?_⟩
   replace ha := Aside0.mk ha
   have HZ := HM
   replace HM := HM.sT 2 rfl (hon 6 (by kernel_rfl))
   obtain ⟨Xo16, ko16, eo16⟩ := HM.rdR 2 rfl
   subst eo16
   have e4 := PE ha 1 hon
   have e6 := PE ha 3 hon
   have e9 := PE ha 6 hon
   exact VL (.agg #[.int .i64 a0_0, .int .i64 a0_1, .slice Xo16 t821.length ko16]) (hK.out _ _ ⟨.slice Xo16 t821.length ko16, PUT ha 7 hb, HZ⟩)
  refine steps_cons ?_ ?_
  ·rintro b a w ⟨v822, ha, HM⟩ hb hon hoff
   refine ⟨_, rfl, fun K hK => ?_⟩
   replace ha := Aside0.mk ha
   replace HM := HM.sF 1 rfl hb
   replace HM := HM.sT 2 rfl (hon 6 (by kernel_rfl))
   obtain ⟨Xo17, ko17, eo17⟩ := HM.rdR 2 rfl
   subst eo17
   have e2 := PG ha 2
   have e10 := PE ha 7 hon
   refine ST (eS 1 2 0 [.int .i64 a0_0, .int .i64 a0_1, .slice Xo17 t821.length ko17] HM rfl rfl ?_ (hp := (eval_of e2)) (hx := (by rw [eval_of e10]; rfl)))
   clear HM
   intro w18 HM
   exact hK.out _ _ ⟨.slice Xo17 t821.length ko17, PUS ha, (HM.iT 2 rfl (hon 6 (by kernel_rfl))).pick [0, 1, 2]⟩
  exact steps_nil
 rintro _ w19 ⟨v822, rfl, HM⟩
 replace HM := HM.sT 1 rfl rfl
 replace HM := HM.sT 2 rfl rfl
 simp only [putSel, if_true, Act.put, List.setIfInBounds_toArray, List.set_cons_zero, List.set_cons_succ, gt_iff_lt, ge_iff_le]
 simp only [Option.some.injEq, Prod.mk.injEq] at H
 obtain ⟨rfl, rfl, rfl⟩ := H
 go_wp2
 refine bodyPost_ret (results_cell_row rfl _ _ gb820 46 #[.int .i64 a0_0, .int .i64 a0_1, v822] (0, 0) _ rfl (HM.bx 1 rfl) Try.underlying46 rfl (by kernel_rfl)) rfl ?_
 exact ⟨_, ER, (MD HM).pick [2]⟩
end Go.Proofs.Ytanakbmhclpamaa.G

namespace Go.Proofs.Ytanakbmhclpamaa.G
open Go.RowKit Go.Proofs.YtanakbmhclpamaaW.PrintWords Go.Proofs.YtanakbmhclpamaaW.PrintLast Go.Proofs.YtanakbmhclpamaaW.PrintMore Go.Proofs.Ytanakbmhclpamaa.Sh
attribute [local go_sem] max2_int min2_int max_two min_two max_three min_three max_four min_four
set_option linter.unusedVariables false
set_option linter.unusedSimpArgs false
open Go.Proofs.Ytanakbmhclpamaa.Man
def slices_Delete_impl_Item_impl_Item.f (l0 : List S76) (a1 : Int) (a2 : Int) : Option (List S76) := if 0 ≤ a1 ∧ a1 < (l0.length : Int) ∧ a2 = a1 + 1 then some (l0.eraseIdx a1.toNat) else none
set_option maxHeartbeats 4000000 in
set_option maxRecDepth 100000 in
theorem slices_Delete_impl_Item_impl_Item.calls (P0_ : Nat → Prop) (u9000_ : Value) (l0 : List S76) (a1 : Int) (a2 : Int) (r : List S76) (w0 w : World) (hB : Below w0.heap.size w0 w) (ho0 : Kd.R k76 76 w w0.heap.size P0_ u9000_ l0) (h : slices_Delete_impl_Item_impl_Item.f l0 a1 a2 = some r) :
  Calls Try.prog 86 #[u9000_, .int .i64 a1, .int .i64 a2] w fun e w' => ∃ v0_ : Value, e = .returned v0_ ∧ Kd.R k76 76 w' w0.heap.size (fun k_ => (P0_ k_ ∨ w.heap.size ≤ k_)) v0_ r ∧ Below w0.heap.size w0 w' ∧ Kept w w' (fun k_ => P0_ k_) := by
 unfold slices_Delete_impl_Item_impl_Item.f at h
 by_cases c : 0 ≤ a1 ∧ a1 < (l0.length : Int) ∧ a2 = a1 + 1
 ·rw [if_pos c] at h
  obtain rfl := Option.some.inj h
  obtain ⟨c0, c1, rfl⟩ := c
  clear h
  obtain ⟨n, rfl⟩ := Int.eq_ofNat_of_zero_le c0
  have hn : n < l0.length := by omega
  obtain ⟨g, cap, rfl, gb, gl, cl, HG⟩ := Kd.R_form ho0 (by omega)
  obtain ⟨_, hlc, hC⟩ := Kd.R_reads' ho0
  have hL : l0.length ≤ 9223372036854775807 := hC.2.1
  clear hC
  have e1 : IntKind.i64.wrap ((n : Int) + 1) = (n : Int) + 1 := by exact (i64_w _).trans (by unfold wrap64; omega)
  have HO := Aside0.mk ho0
  have HBW := Aside0.mk hB
  have HGB := Aside0.mk gb
  have HGL := Aside0.mk gl
  have HN := Aside0.mk hn
  have b1 : (n : Int) + 1 ≤ (l0.length : Int) := by omega
  have b2 : (l0.length : Int) ≤ (cap : Int) := by omega
  have b3 : (n : Int) ≤ (l0.length : Int) := by omega
  have b4 : (n : Int) ≤ (cap : Int) := by omega
  have b5 : (n : Int) + 1 ≤ (cap : Int) := by omega
  have b6 : (n : Int) ≤ (n : Int) + 1 := by omega
  have b7 : (0 : Int) ≤ (n : Int) + 1 := by omega
  have e2 : ((n : Int) == (n : Int) + 1) = false := by rw [beq_eq_false_iff_ne]; omega
  by_cases hcn : cap = n + 1
  ·subst hcn
   have HS := Aside0.mk (show w0.heap.size ≤ w.drew.heap.size from hB.size)
   clear hn ho0 hB gb gl HG hL hlc c1 e1
   go_enter Try.func86, Try.ntmps86
   go_wp2
   go_region_law (refine Kd.R_delete_step k76 (w0 := w0) w0.heap.size rfl (.tmp 22) (.tmp 25) 44 76 rfl Try.underlying44 (by kernel_rfl) (by rfl) (by rfl) ((if_pos rfl).symm) (by rfl) (Kd.R_drew HO.out) HN.out (below_drew1 HBW.out) HS.out ?_; intro w1 hr hb hg)
   have HR := Aside0.mk hr
   have HB2 := Aside0.mk hb
   have HG2 := Aside0.mk hg
   clear hr hb hg
   obtain ⟨w2, hrun, hr2, hg2⟩ := R_clear_run (P := Try.prog) k76 w0.heap.size 44 0 76 (.agg #[(.string ⟨#[]⟩), (.string ⟨#[]⟩), (.int .i64 0)]) Try.underlying44 Try.zeroValue76 rfl (by decide) HR.out (m := l0.length - (l0.length - 1)) (by have := HN.out; omega) (by have := HN.out; omega) ((n + 1) - (l0.length - 1))
   have HR2 := Aside0.mk hr2
   have HG3 := Aside0.mk hg2
   clear hr2 hg2
   (try rw [show (l0.length - 1) * Kd.sz k76 = l0.length - 1 from Nat.mul_one _] at hrun)
   change Sem.run _ (Builtin.clear_ #[44] 0 #[.slice (some ⟨g, (l0.length - 1) * 3, none⟩) (l0.length - (l0.length - 1)) ((n + 1) - (l0.length - 1))]) w1 = _ at hrun
   go_wp2
   go_ret
   have hgw : w.grownBy w2 (some g) := World.grownBy.trans (World.grownBy.trans (show w.grownBy w.drew (some g) from ⟨rfl, rfl, rfl, Nat.le_refl _, fun _ _ _ => rfl⟩) HG2.out) HG3.out
   refine ⟨_, rfl, Kd.R_mono HR2.out (fun _ h => Or.inl h), HB2.out.grown HG3.out ?_ (fun k hk => by injection hk with hk; subst hk; exact HGB.out), Kept.of_grown hgw (Kept.refl _ _) (fun k hk => by injection hk with hk; subst hk; exact .inl (HO.out.1 _ rfl))⟩
   exact HB2.out.size
  ·have hcn' : (cap == n + 1) = false := by rw [beq_eq_false_iff_ne]; exact hcn
   have HA := Aside0.mk (show some ⟨g, (n + 1) * 3, none⟩ = (if cap = n + 1 then some (⟨g, 0, none⟩ : Addr) else (some (⟨g, 0, none⟩ : Addr)).map (·.add ((n + 1) * k76.sz))) from by rw [if_neg hcn, Option.map_some, add_plain]; first | rfl | rw [show (n + 1) * Kd.sz _ = n + 1 from Nat.mul_one _])
   have HS := Aside0.mk (show w0.heap.size ≤ w.drew.heap.size from hB.size)
   clear hn ho0 hB gb gl HG hL hlc c1 e1
   go_enter Try.func86, Try.ntmps86
   go_wp2
   go_region_law (refine Kd.R_delete_step k76 (w0 := w0) w0.heap.size rfl (.tmp 22) (.tmp 25) 44 76 rfl Try.underlying44 (by kernel_rfl) (by rfl) (by rfl) HA.out (by rfl) (Kd.R_drew HO.out) HN.out (below_drew1 HBW.out) HS.out ?_; intro w1 hr hb hg)
   have HR := Aside0.mk hr
   have HB2 := Aside0.mk hb
   have HG2 := Aside0.mk hg
   clear hr hb hg
   obtain ⟨w2, hrun, hr2, hg2⟩ := R_clear_run (P := Try.prog) k76 w0.heap.size 44 0 76 (.agg #[(.string ⟨#[]⟩), (.string ⟨#[]⟩), (.int .i64 0)]) Try.underlying44 Try.zeroValue76 rfl (by decide) HR.out (m := l0.length - (l0.length - 1)) (by have := HN.out; omega) (by have := HN.out; omega) (cap - (l0.length - 1))
   have HR2 := Aside0.mk hr2
   have HG3 := Aside0.mk hg2
   clear hr2 hg2
   (try rw [show (l0.length - 1) * Kd.sz k76 = l0.length - 1 from Nat.mul_one _] at hrun)
   change Sem.run _ (Builtin.clear_ #[44] 0 #[.slice (some ⟨g, (l0.length - 1) * 3, none⟩) (l0.length - (l0.length - 1)) (cap - (l0.length - 1))]) w1 = _ at hrun
   go_wp2
   go_ret
   have hgw : w.grownBy w2 (some g) := World.grownBy.trans (World.grownBy.trans (show w.grownBy w.drew (some g) from ⟨rfl, rfl, rfl, Nat.le_refl _, fun _ _ _ => rfl⟩) HG2.out) HG3.out
   refine ⟨_, rfl, Kd.R_mono HR2.out (fun _ h => Or.inl h), HB2.out.grown HG3.out ?_ (fun k hk => by injection hk with hk; subst hk; exact HGB.out), Kept.of_grown hgw (Kept.refl _ _) (fun k hk => by injection hk with hk; subst hk; exact .inl (HO.out.1 _ rfl))⟩
   exact HB2.out.size
 ·rw [if_neg c] at h; cases h
end Go.Proofs.Ytanakbmhclpamaa.G

namespace Go.Proofs.Ytanakbmhclpamaa.G
open Go.RowKit Go.Proofs.YtanakbmhclpamaaW.PrintWords Go.Proofs.YtanakbmhclpamaaW.PrintLast Go.Proofs.YtanakbmhclpamaaW.PrintMore Go.Proofs.Ytanakbmhclpamaa.Sh
attribute [local go_sem] max2_int min2_int max_two min_two max_three min_three max_four min_four
set_option linter.unusedVariables false
set_option linter.unusedSimpArgs false
open Go.Proofs.Ytanakbmhclpamaa.Mm
def impl_Row_asked.f (a0_0 : Int) (a0_1 : Int) (l0_2 : List (S76)) (a1 : Int) : Option (Int × Int × (List (S76))) := if a0_0 = 2 then (if 0 ≤ a1 then (if a1 < (l0_2.length : Int) then ((slices_Delete_impl_Item_impl_Item.f l0_2 a1 (wrap64 (a1 + 1))).bind fun t827 => (if t827.length < 3518437208883 then (some (a0_0, a0_1, (t827 ++ [(⟨(rd_T76 l0_2 a1).f0, (rd_T76 l0_2 a1).f1, (rd_T76 l0_2 a1).f2⟩ : S76)]))) else (none))) else (none)) else (none)) else (if a0_0 = 3 then (if 0 ≤ a1 then (if a1 < (l0_2.length : Int) then (some (a0_0, a0_1, (l0_2.set (a1 : Int).toNat (⟨(rd_T76 l0_2 a1).f0, (rd_T76 l0_2 a1).f1, 1⟩ : S76)))) else (none)) else (none)) else (some (a0_0, a0_1, l0_2)))
def impl_Row_asked.T3 : Bool × List (List Nat × List Nat) := (true, [([], []), ([], []), ([1], [1]), ([2], [2]), ([3], [3]), ([], []), ([], []), ([6], [6]), ([4, 5, 7], [4, 5, 7]), ([], []), ([9], [9]), ([8, 10, 8], [8, 10]), ([0, 0, 1, 2, 3, 4, 5, 6, 7, 8, 9, 10, 11], [0]), ([12, 0, 1, 2, 3, 4, 5, 6, 7, 8, 9, 10, 11], [12]), ([13, 11, 11, 0, 1, 2, 3, 4, 5, 6, 7, 8, 9, 10, 11], [11, 13])])
def impl_Row_asked.B3 : List Nat := [0, 0, 2, 6, 14, 0, 0, 64, 254, 0, 512, 2046, 4095, 8191, 16383]
theorem impl_Row_asked.tab3 : rtab .any (opsOf Try.f63 3) = impl_Row_asked.T3 := by kernel_rfl
theorem impl_Row_asked.bits3 : waitsOk impl_Row_asked.T3.2 impl_Row_asked.B3 = true := by kernel_rfl
set_option maxHeartbeats 8000000 in
set_option maxRecDepth 100000 in
theorem impl_Row_asked.calls (g : Nat) (a0_0 : Int) (a0_1 : Int) (u9000_ : Value) (l0_2 : List (S76)) (a1 : Int) (r1 : Int) (r2 : Int) (r3 : List (S76)) (w0 w : World) (F : List SP)  (hM : Mem w0 F w [rowR k76 76 u9000_ l0_2, box 46 g [.int .i64 a0_0, .int .i64 a0_1, u9000_]]) (h : impl_Row_asked.f a0_0 a0_1 l0_2 a1 = some (r1, r2, r3)) :
  Calls Try.prog 63 #[.pointer (some ⟨g, 0, none⟩), .int .i64 a1] w fun e w' => ∃ v2_ : Value, e = .returned (.tuple #[]) ∧ Mem w0 F w' [rowR k76 76 v2_ r3, box 46 g [.int .i64 r1, .int .i64 r2, v2_]] := by
 have hu76 := Try.underlying76
 have HM := hM
 clear hM
 have H := h
 clear h
 unfold impl_Row_asked.f at H
 go_enter Try.func63, Try.ntmps63
 obtain ⟨z3_0, z3_1, z3_2, Z3_0, Z3_1, Z3_2⟩ := bk3 (HM.bx 1 rfl)
 go_upto_if 9 with (fail)
 replace H := IT H; rcases H with ⟨c4, H⟩ | ⟨c4, H⟩
 ·have c4b0 : (a0_0 == 2) = true := beq_iff_eq.mpr c4
  have c4b1 : (a0_0 != 2) = false := bne_eq_false_iff_eq.mpr c4
  clear c4
  (first | rw [c4b0] | (simp only [i64_w, i32_w]; rw [c4b0]) | skip)
  replace H := GD H; obtain ⟨c5, H⟩ := H
  have c5b0 : decide (0 ≤ a1) = true := decide_eq_true c5
  clear c5
  replace H := GD H; obtain ⟨c6, H⟩ := H
  have c6b0 : decide (a1 < (l0_2.length : Int)) = true := decide_eq_true c6
  clear c6
  obtain ⟨Xo7, ko7, eo7⟩ := HM.rdR 0 rfl
  subst eo7
  have p825 : 0 ≤ (a1 : Int) := of_decide_eq_true AS
  have q825 : (a1 : Int) < (l0_2.length : Int) := of_decide_eq_true AS
  obtain ⟨ad825, e825, hx825_0, hx825_1, hx825_2⟩ := at_T76 (HM.CR 0 rfl).2.2 a1 p825 q825
  cases e825
  replace p825 := eq_true p825
  replace q825 := eq_true q825
  try go_wp2_with (first | ((with_reducible refine gN 4 rfl ?_); refine pB 4 76 [.string (⟨#[]⟩ : ByteArray), .string (⟨#[]⟩ : ByteArray), .int .i64 0] HM rfl ?_; clear HM; intro gb826 w8 HM) | ((with_reducible refine gS 4 rfl ?_); refine pS 2 4 0 [.string ((rd_T76 l0_2 a1).f0), .string ((rd_T76 l0_2 a1).f1), .int .i64 ((rd_T76 l0_2 a1).f2)] HM rfl rfl ?_; clear HM; intro w9 HM))
  replace H := BN H; obtain ⟨t827, A10, H⟩ := H
  replace H := GD H; obtain ⟨c11, H⟩ := H
  have LMc11 := Aside0.mk c11
  clear c11
  refine RGN 15 [0, 1, 2, 3, 4, 5, 6, 7, 8, 9, 10, 11, 12, 13, 14] (fun a0 b a w' => ∃ (v828 : Value) (v16 : Value) (v831 : Value), a = putSel a0 b [(0, 18, .pointer (some ⟨g, 0, none⟩)), (1, 19, .pointer (some ⟨g, 0, none⟩)), (2, 20, .pointer (some ⟨g, 0, none⟩)), (3, 21, .pointer (some ⟨g, 2, none⟩)), (4, 22, .slice (some ad825) l0_2.length ko7), (5, 23, .int .i64 a1), (6, 24, .int .i64 a1), (7, 25, .int .i64 (wrap64 (a1 + 1))), (8, 26, v828), (9, 27, .agg #[.string ((rd_T76 l0_2 a1).f0), .string ((rd_T76 l0_2 a1).f1), .int .i64 ((rd_T76 l0_2 a1).f2)]), (10, 28, v16), (11, 29, v831), (12, 30, .pointer (some ⟨g, 0, none⟩)), (13, 31, .pointer (some ⟨g, 2, none⟩))] ∧ Mem w0 F w' [sel (b 11) (rowR k76 76 v831 (t827 ++ [(⟨(rd_T76 l0_2 a1).f0, (rd_T76 l0_2 a1).f1, (rd_T76 l0_2 a1).f2⟩ : S76)])) (sel (b 8) (rowR k76 76 v828 t827) (rowR k76 76 (.slice (some ad825) l0_2.length ko7) l0_2)), sel (b 14) (box 46 g [.int .i64 a0_0, .int .i64 a0_1, v831]) (box 46 g [.int .i64 a0_0, .int .i64 a0_1, .slice (some ad825) l0_2.length ko7]), box 76 gb826 [.string ((rd_T76 l0_2 a1).f0), .string ((rd_T76 l0_2 a1).f1), .int .i64 ((rd_T76 l0_2 a1).f2)], sel (b 10) (rowR k76 76 v16 [(⟨(rd_T76 l0_2 a1).f0, (rd_T76 l0_2 a1).f1, (rd_T76 l0_2 a1).f2⟩ : S76)]) (emp)]) impl_Row_asked.tab3 impl_Row_asked.bits3 ?_ ?_ ?_
  ·exact ⟨.bool false, .bool false, .bool false, PS0' rfl _, (HM.drew.ems 1).pick [0, 1, 2, 3]⟩
  ·clear HM
   refine steps_cons ?_ ?_
   ·rintro b a w ⟨v828, v16, v831, ha, HM⟩ hb hon hoff
    refine ⟨_, rfl, fun K hK => ?_⟩
    replace ha := Aside0.mk ha
    have e0 := PG ha 0
    exact VL (.pointer (some ⟨g, 0, none⟩)) (hK.out _ _ ⟨v828, v16, v831, PUT ha 0 hb, HM⟩)
   refine steps_cons ?_ ?_
   ·rintro b a w ⟨v828, v16, v831, ha, HM⟩ hb hon hoff
    refine ⟨_, rfl, fun K hK => ?_⟩
    replace ha := Aside0.mk ha
    have e0 := PG ha 0
    exact VL (.pointer (some ⟨g, 0, none⟩)) (hK.out _ _ ⟨v828, v16, v831, PUT ha 1 hb, HM⟩)
   refine steps_cons ?_ ?_
   ·rintro b a w ⟨v828, v16, v831, ha, HM⟩ hb hon hoff
    refine ⟨_, rfl, fun K hK => ?_⟩
    replace ha := Aside0.mk ha
    have e19 := PE ha 1 hon
    exact VL (.pointer (some ⟨g, 0, none⟩)) (hK.out _ _ ⟨v828, v16, v831, PUT ha 2 hb, HM⟩)
   refine steps_cons ?_ ?_
   ·rintro b a w ⟨v828, v16, v831, ha, HM⟩ hb hon hoff
    refine ⟨_, rfl, fun K hK => ?_⟩
    replace ha := Aside0.mk ha
    have e20 := PE ha 2 hon
    exact VL (.pointer (some ⟨g, 2, none⟩)) (hK.out _ _ ⟨v828, v16, v831, PUT ha 3 hb, HM⟩)
   refine steps_cons ?_ ?_
   ·rintro b a w ⟨v828, v16, v831, ha, HM⟩ hb hon hoff
    refine ⟨_, rfl, fun K hK => ?_⟩
    replace ha := Aside0.mk ha
    have HZ := HM
    replace HM := HM.sF 1 rfl (hoff 14 (by kernel_rfl))
    obtain ⟨z21_0, z21_1, z21_2, Z21_0, Z21_1, Z21_2⟩ := bk3 (HM.bx 1 rfl)
    have e21 := PE ha 3 hon
    exact VL (.slice (some ad825) l0_2.length ko7) (hK.out _ _ ⟨v828, v16, v831, PUT ha 4 hb, HZ⟩)
   refine steps_cons ?_ ?_
   ·rintro b a w ⟨v828, v16, v831, ha, HM⟩ hb hon hoff
    refine ⟨_, rfl, fun K hK => ?_⟩
    replace ha := Aside0.mk ha
    have e1 := PG ha 1
    exact VL (.int .i64 a1) (hK.out _ _ ⟨v828, v16, v831, PUT ha 5 hb, HM⟩)
   refine steps_cons ?_ ?_
   ·rintro b a w ⟨v828, v16, v831, ha, HM⟩ hb hon hoff
    refine ⟨_, rfl, fun K hK => ?_⟩
    replace ha := Aside0.mk ha
    have e1 := PG ha 1
    exact VL (.int .i64 a1) (hK.out _ _ ⟨v828, v16, v831, PUT ha 6 hb, HM⟩)
   refine steps_cons ?_ ?_
   ·rintro b a w ⟨v828, v16, v831, ha, HM⟩ hb hon hoff
    refine ⟨_, rfl, fun K hK => ?_⟩
    replace ha := Aside0.mk ha
    have e24 := PE ha 6 hon
    exact VL (.int .i64 (wrap64 (a1 + 1))) (hK.out _ _ ⟨v828, v16, v831, PUT ha 7 hb, HM⟩)
   refine steps_cons ?_ ?_
   ·rintro b a w ⟨v828, v16, v831, ha, HM⟩ hb hon hoff
    refine ⟨_, rfl, fun K hK => ?_⟩
    replace ha := Aside0.mk ha
    replace HM := (HM.sF 0 rfl (hoff 11 (by kernel_rfl))).sF 0 rfl hb
    obtain ⟨P_, hq_, fin_⟩ := HM.man1R 0 rfl
    have e22 := PE ha 4 hon
    have e23 := PE ha 5 hon
    have e25 := PE ha 7 hon
    refine ST (eC (some 26) rfl #[.slice (some ad825) l0_2.length ko7, .int .i64 a1, .int .i64 (wrap64 (a1 + 1))] rfl Try.func86 (slices_Delete_impl_Item_impl_Item.calls P_ (.slice (some ad825) l0_2.length ko7) l0_2 a1 (wrap64 (a1 + 1)) t827 (bare _) _ (bare_below _) hq_ A10.out) ?_ (hargs := by (simp only [List.map_toArray, List.map_cons, List.map_nil, evc, eval_of e22, eval_of e23, eval_of e25]) <;> rfl))
    rintro e w22 ⟨v828, rfl, hQ_, hB_, hK_⟩
    refine ⟨_, rfl, ?_⟩
    replace HM := fin_ _ _ _ hQ_ hB_ hK_
    clear hQ_ hB_ hK_ hq_ fin_ P_
    exact hK.out _ _ ⟨v828, v16, v831, PUT ha 8 hb, (HM.iF 0 rfl (hoff 11 (by kernel_rfl))).pick [0, 1, 2, 3]⟩
   refine steps_cons ?_ ?_
   ·rintro b a w ⟨v828, v16, v831, ha, HM⟩ hb hon hoff
    refine ⟨_, rfl, fun K hK => ?_⟩
    replace ha := Aside0.mk ha
    obtain ⟨z23_0, z23_1, z23_2, Z23_0, Z23_1, Z23_2⟩ := bk3 (HM.bx 2 rfl)
    have e4 := PG ha 4
    exact VL (.agg #[.string ((rd_T76 l0_2 a1).f0), .string ((rd_T76 l0_2 a1).f1), .int .i64 ((rd_T76 l0_2 a1).f2)]) (hK.out _ _ ⟨v828, v16, v831, PUT ha 9 hb, HM⟩)
   refine steps_cons ?_ ?_
   ·rintro b a w ⟨v828, v16, v831, ha, HM⟩ hb hon hoff
    refine ⟨_, rfl, fun K hK => ?_⟩
    replace ha := Aside0.mk ha
    have e27 := PE ha 9 hon
    refine ST (eL 28 k76 76 [(⟨(rd_T76 l0_2 a1).f0, (rd_T76 l0_2 a1).f1, (rd_T76 l0_2 a1).f2⟩ : S76)] [.string ((rd_T76 l0_2 a1).f0), .string ((rd_T76 l0_2 a1).f1), .int .i64 ((rd_T76 l0_2 a1).f2)] (Reps.c3 (show Kd.M k76 _ _ _ (⟨(rd_T76 l0_2 a1).f0, (rd_T76 l0_2 a1).f1, (rd_T76 l0_2 a1).f2⟩ : S76) [.string ((rd_T76 l0_2 a1).f0), .string ((rd_T76 l0_2 a1).f1), .int .i64 ((rd_T76 l0_2 a1).f2)] from (k76_mkM _ _ _ (⟨(rd_T76 l0_2 a1).f0, (rd_T76 l0_2 a1).f1, (rd_T76 l0_2 a1).f2⟩ : S76))) (Reps.none _ _)) HM rfl ?_)
    clear HM
    intro v16 w24 HM
    exact hK.out _ _ ⟨v828, v16, v831, PUT ha 10 hb, (HM).pick [0, 1, 2, 4]⟩
   refine steps_cons ?_ ?_
   ·rintro b a w ⟨v828, v16, v831, ha, HM⟩ hb hon hoff
    refine ⟨_, rfl, fun K hK => ?_⟩
    replace ha := Aside0.mk ha
    replace HM := (HM.sF 0 rfl hb).sT 0 rfl (hon 8 (by kernel_rfl))
    replace HM := HM.sT 3 rfl (hon 10 (by kernel_rfl))
    obtain ⟨Xo25, ko25, eo25⟩ := HM.rdR 3 rfl
    subst eo25
    have e26 := PE ha 8 hon
    have e28 := PE ha 10 hon
    refine ST (eA 0 (.tmp 26) (.tmp 28) 44 76 k76 v828 t827 [(⟨(rd_T76 l0_2 a1).f0, (rd_T76 l0_2 a1).f1, (rd_T76 l0_2 a1).f2⟩ : S76)] Xo25 ([(⟨(rd_T76 l0_2 a1).f0, (rd_T76 l0_2 a1).f1, (rd_T76 l0_2 a1).f2⟩ : S76)].length) ko25 HM rfl Try.underlying44 info76 rfl (HM.CR 3 rfl).2.2 (by have h_ := LMc11.out; simp only [List.length_singleton]; omega) ?_ (ops := #[]) (hw := by rfl) (hs := (eval_of e26)) (hx := (eval_of e28)))
    clear HM
    intro v831 w26 HM
    exact hK.out _ _ ⟨v828, .slice Xo25 [(⟨(rd_T76 l0_2 a1).f0, (rd_T76 l0_2 a1).f1, (rd_T76 l0_2 a1).f2⟩ : S76)].length ko25, v831, PUT ha 11 hb, (((HM.sF 1 rfl (hoff 14 (by kernel_rfl))).iF 1 rfl (hoff 14 (by kernel_rfl))).iT 3 rfl (hon 10 (by kernel_rfl))).pick [0, 1, 2, 3]⟩
   refine steps_cons ?_ ?_
   ·rintro b a w ⟨v828, v16, v831, ha, HM⟩ hb hon hoff
    refine ⟨_, rfl, fun K hK => ?_⟩
    replace ha := Aside0.mk ha
    have e18 := PE ha 0 hon
    exact VL (.pointer (some ⟨g, 0, none⟩)) (hK.out _ _ ⟨v828, v16, v831, PUT ha 12 hb, HM⟩)
   refine steps_cons ?_ ?_
   ·rintro b a w ⟨v828, v16, v831, ha, HM⟩ hb hon hoff
    refine ⟨_, rfl, fun K hK => ?_⟩
    replace ha := Aside0.mk ha
    have e30 := PE ha 12 hon
    exact VL (.pointer (some ⟨g, 2, none⟩)) (hK.out _ _ ⟨v828, v16, v831, PUT ha 13 hb, HM⟩)
   refine steps_cons ?_ ?_
   ·rintro b a w ⟨v828, v16, v831, ha, HM⟩ hb hon hoff
    refine ⟨_, rfl, fun K hK => ?_⟩
    replace ha := Aside0.mk ha
    replace HM := HM.sT 0 rfl (hon 11 (by kernel_rfl))
    replace HM := HM.sF 1 rfl hb
    obtain ⟨Xo27, ko27, eo27⟩ := HM.rdR 0 rfl
    subst eo27
    have e31 := PE ha 13 hon
    have e29 := PE ha 11 hon
    refine ST (eS 1 31 2 [.slice Xo27 (t827 ++ [(⟨(rd_T76 l0_2 a1).f0, (rd_T76 l0_2 a1).f1, (rd_T76 l0_2 a1).f2⟩ : S76)]).length ko27] HM rfl rfl ?_ (hp := (eval_of e31)) (hx := (by rw [eval_of e29]; rfl)))
    clear HM
    intro w28 HM
    exact hK.out _ _ ⟨v828, v16, .slice Xo27 (t827 ++ [(⟨(rd_T76 l0_2 a1).f0, (rd_T76 l0_2 a1).f1, (rd_T76 l0_2 a1).f2⟩ : S76)]).length ko27, PUS ha, (HM.iT 0 rfl (hon 11 (by kernel_rfl))).pick [0, 1, 2, 3]⟩
   exact steps_nil
  rintro _ w29 ⟨v828, v16, v831, rfl, HM⟩
  replace HM := HM.sT 0 rfl rfl
  replace HM := HM.sT 1 rfl rfl
  replace HM := HM.sT 3 rfl rfl
  simp only [putSel, if_true, Act.put, List.setIfInBounds_toArray, List.set_cons_zero, List.set_cons_succ, gt_iff_lt, ge_iff_le]
  simp only [Option.some.injEq, Prod.mk.injEq] at H
  obtain ⟨rfl, rfl, rfl⟩ := H
  go_wp2
  first | go_end0 | ((try simp only [Exit.inBlock, Exit.then]); refine bodyPost_ret (results_none rfl _ _ _) rfl ?_)
  first | exact ⟨_, ER, (MD HM).pick [0, 1]⟩ | exact ⟨ER, _, (MD HM).pick [0, 1]⟩
 ·have c4b0 : (a0_0 == 2) = false := beq_eq_false_iff_ne.mpr c4
  have c4b1 : (a0_0 != 2) = true := bne_iff_ne.mpr c4
  (first | rw [c4b0] | (simp only [i64_w, i32_w]; rw [c4b0]) | skip)
  go_upto_if 32 with (fail)
  replace H := IT H; rcases H with ⟨c30, H⟩ | ⟨c30, H⟩
  ·have c30b0 : (a0_0 == 3) = true := beq_iff_eq.mpr c30
   have c30b1 : (a0_0 != 3) = false := bne_eq_false_iff_eq.mpr c30
   clear c30
   (first | rw [c30b0] | (simp only [i64_w, i32_w]; rw [c30b0]) | skip)
   replace H := GD H; obtain ⟨c31, H⟩ := H
   have c31b0 : decide (0 ≤ a1) = true := decide_eq_true c31
   clear c31
   replace H := GD H; obtain ⟨c32, H⟩ := H
   have c32b0 : decide (a1 < (l0_2.length : Int)) = true := decide_eq_true c32
   clear c32
   simp only [Option.some.injEq, Prod.mk.injEq] at H
   obtain ⟨rfl, rfl, rfl⟩ := H
   obtain ⟨Xo34, ko34, eo34⟩ := HM.rdR 0 rfl
   subst eo34
   have p33 : 0 ≤ (a1 : Int) := of_decide_eq_true AS
   have q33 : (a1 : Int) < ((l0_2.length : Int) : Int) := of_decide_eq_true AS
   obtain ⟨go33, ef33⟩ := HM.form 0 rfl (by have h_ := (HM.CR 0 rfl).1; omega)
   subst ef33
   obtain ⟨hx33_0, hx33_1, hx33_2, hf33_0, hf33_1, hf33_2⟩ := HM.el3 0 rfl z76 (a1 : Int) p33 (by have h_ := (HM.CR 0 rfl).1; omega) (.string ((rd_T76 l0_2 a1).f0)) (.string ((rd_T76 l0_2 a1).f1)) (.int .i64 ((rd_T76 l0_2 a1).f2)) (fun _ _ h => k76_openM h)
   replace p33 := eq_true p33
   replace q33 := eq_true q33
   go_wp2_with (first | ((with_reducible refine gS 40 rfl ?_); refine pPR 0 40 (a1 : Int) 2 [.int .i64 1] k76 76 l0_2 (⟨(rd_T76 l0_2 a1).f0, (rd_T76 l0_2 a1).f1, 1⟩ : S76) z76 [.string ((rd_T76 l0_2 a1).f0), .string ((rd_T76 l0_2 a1).f1), .int .i64 ((rd_T76 l0_2 a1).f2)] HM rfl rfl (of_decide_eq_true AS) (by have h_ : (a1 : Int) < ((l0_2.length : Int) : Int) := of_decide_eq_true AS; have e_ := (HM.CR 0 rfl).1; omega) (fun _ _ h => k76_openM h) (k76_mkM _ _ _ (⟨(rd_T76 l0_2 a1).f0, (rd_T76 l0_2 a1).f1, 1⟩ : S76)) ?_; clear HM; intro w35 HM))
   first | go_end0 | ((try simp only [Exit.inBlock, Exit.then]); refine bodyPost_ret (results_none rfl _ _ _) rfl ?_)
   first | exact ⟨_, ER, (MD HM).pick [0, 1]⟩ | exact ⟨ER, _, (MD HM).pick [0, 1]⟩
  ·have c30b0 : (a0_0 == 3) = false := beq_eq_false_iff_ne.mpr c30
   have c30b1 : (a0_0 != 3) = true := bne_iff_ne.mpr c30
   (first | rw [c30b0] | (simp only [i64_w, i32_w]; rw [c30b0]) | skip)
   simp only [Option.some.injEq, Prod.mk.injEq] at H
   obtain ⟨rfl, rfl, rfl⟩ := H
   go_wp2
   first | go_end0 | ((try simp only [Exit.inBlock, Exit.then]); refine bodyPost_ret (results_none rfl _ _ _) rfl ?_)
   first | exact ⟨_, ER, (MD HM).pick [0, 1]⟩ | exact ⟨ER, _, (MD HM).pick [0, 1]⟩
mutual
def impl_RowPut.j0 : Nat → ByteArray → ByteArray → Bool → Int → Int → List (S76) → Option (Int × Int × (List (S76)) × List ByteArray × Bool)
 | 0, _, _, _, _, _, _ => none
 | k + 1, x1, x2, x22, x835000, x835001, x835002 => if x22 = true then (some (0, 0, ([] : List (S76)), ([] : List ByteArray), false)) else ((impl_copyRow.f x835000 x835001 x835002).bind fun bt838 => ((some (([] : List ByteArray) : List ByteArray)).bind fun y844 => ((impl_itemAt.f x835002 x1).bind fun t847 => (if t847 ≥ 0 then (if 0 ≤ t847 then (if t847 < (bt838.2.2.length : Int) then ((impl_Row_asked.f bt838.1 bt838.2.1 (bt838.2.2.set (t847 : Int).toNat (⟨(rd_T76 bt838.2.2 t847).f0, x2, (rd_T76 bt838.2.2 t847).f2⟩ : S76)) t847).bind fun bt849 => (some (bt849.1, bt849.2.1, bt849.2.2, y844, true))) else (none)) else (none)) else (if (bt838.2.2.length : Int) = bt838.2.1 then (impl_RowPut.l0 k x1 x2 y844 bt838.1 bt838.2.1 bt838.2.2) else (if bt838.2.2.length < 3518437208883 then ((impl_copyRow.f bt838.1 bt838.2.1 (bt838.2.2 ++ [(⟨x1, x2, 0⟩ : S76)])).bind fun bt881 => (some (bt881.1, bt881.2.1, bt881.2.2, y844, true))) else (none)))))))
def impl_RowPut.l0 : Nat → ByteArray → ByteArray → List ByteArray → Int → Int → List (S76) → Option (Int × Int × (List (S76)) × List ByteArray × Bool)
 | 0, _, _, _, _, _, _ => none
 | k + 1, x1, x2, x10, x844000, x844001, x844002 => if 0 < (x844002.length : Int) then (if ((rd_T76 x844002 0).f2) = 1 then (if 1 ≤ (x844002.length : Int) then ((some (x844002.drop (1 : Int).toNat : List (S76))).bind fun y857 => (if y857.length < 3518437208883 then (impl_RowPut.l0 k x1 x2 x10 x844000 x844001 (y857 ++ [(⟨(rd_T76 x844002 0).f0, (rd_T76 x844002 0).f1, 0⟩ : S76)])) else (none))) else (none)) else (if x10.length < 8796093022208 then (if 1 ≤ (x844002.length : Int) then ((some (x844002.drop (1 : Int).toNat : List (S76))).bind fun y867 => (if y867.length < 3518437208883 then ((impl_copyRow.f x844000 x844001 (y867 ++ [(⟨x1, x2, 0⟩ : S76)])).bind fun bt873 => (some (bt873.1, bt873.2.1, bt873.2.2, (x10 ++ [(rd_T76 x844002 0).f0]), true))) else (none))) else (none)) else (none))) else (none)
end
def impl_RowPut.f (k : Nat) (a0_0 : Int) (a0_1 : Int) (l0_2 : List (S76)) (a1 : ByteArray) (a2 : ByteArray) : Option (Int × Int × (List (S76)) × List ByteArray × Bool) := (impl_RowOk.f k a0_0 a0_1 l0_2).bind fun t836 => (if t836 = true then ((impl_ItemOk.f k a1 a2 0).bind fun t837 => (impl_RowPut.j0 k a1 a2 (!t837) a0_0 a0_1 l0_2)) else (impl_RowPut.j0 k a1 a2 true a0_0 a0_1 l0_2))
def impl_RowPut.T14 : Bool × List (List Nat × List Nat) := (true, [([], []), ([0], [0]), ([1], [1]), ([], []), ([3], [3]), ([2, 4], [2, 4]), ([0, 1, 2, 3, 4, 5], []), ([6, 5, 5, 0, 1, 2, 3, 4, 5], [5, 6])])
def impl_RowPut.B14 : List Nat := [0, 1, 3, 0, 8, 31, 63, 127]
theorem impl_RowPut.tab14 : rtab .any (opsOf Try.f33 14) = impl_RowPut.T14 := by kernel_rfl
theorem impl_RowPut.bits14 : waitsOk impl_RowPut.T14.2 impl_RowPut.B14 = true := by kernel_rfl
set_option maxHeartbeats 8000000 in
set_option maxRecDepth 100000 in
theorem impl_RowPut.calls (k : Nat) (a0_0 : Int) (a0_1 : Int) (A0_2 : Option Addr) (c0_2 : Nat) (l0_2 : List (S76)) (a1 : ByteArray) (a2 : ByteArray) (r1 : Int) (r2 : Int) (r3 : List (S76)) (r4 : List ByteArray) (r5 : Bool) (w : World) (hr0_2 : Kd.C k76 w A0_2 l0_2.length l0_2) (hc0_2 : l0_2.length ≤ c0_2) (h : impl_RowPut.f k a0_0 a0_1 l0_2 a1 a2 = some (r1, r2, r3, r4, r5)) :
  Calls Try.prog 33 #[.agg #[.int .i64 a0_0, .int .i64 a0_1, .slice A0_2 l0_2.length c0_2], .string a1, .string a2] w fun e w' => ∃ v2_ v3_ : Value, e = .returned (.tuple #[.agg #[.int .i64 r1, .int .i64 r2, v2_], v3_, .bool r5]) ∧ Mem w [] w' [rowR k76 76 v2_ r3, rowR Kd.string 9 v3_ r4] := by
 have hu46 := Try.underlying46
 have hu76 := Try.underlying76
 have HR0_2 := Aside0.mk hr0_2
 have HC0_2 := Aside0.mk hc0_2
 clear hr0_2 hc0_2
 have HM := Mem.nil w
 have H := h
 clear h
 unfold impl_RowPut.f at H
 go_enter Try.func33, Try.ntmps33
 have HC6 := Aside0.mk H
 clear H
 go_upto_region 1 with (first | ((with_reducible refine gN 3 rfl ?_); refine pB 3 46 [.int .i64 a0_0, .int .i64 a0_1, .slice A0_2 l0_2.length c0_2] HM rfl ?_; clear HM; intro gb834 w4 HM) | ((with_reducible refine gN 6 rfl ?_); refine pB 6 46 [.int .i64 0, .int .i64 0, .slice none 0 0] HM rfl ?_; clear HM; intro gb835 w5 HM))
 replace HM := nzM HM
 try simp only [Act.put, List.setIfInBounds_toArray, List.set_cons_zero, List.set_cons_succ]
 go_cut [22] (fun v22 wc => ∃ (kq : Nat) (x22_5 : Bool), v22 = .bool x22_5 ∧ Aside0 (impl_RowPut.j0 kq a1 a2 x22_5 a0_0 a0_1 l0_2 = some (r1, r2, r3, r4, r5)) ∧ Aside0 (kq ≤ k) ∧ Mem w [] wc [box 46 gb834 [.int .i64 a0_0, .int .i64 a0_1, .slice A0_2 l0_2.length c0_2], box 46 gb835 [.int .i64 0, .int .i64 0, .slice none 0 0]])
 case first =>
  have H := HC6.out
  clear HC6
  replace H := BN H; obtain ⟨t836, A8, H⟩ := H
  replace H := IB H
  rcases H with ⟨c10, H⟩ | ⟨c10, H⟩
  ·subst c10
   replace H := BN H; obtain ⟨t837, A11, H⟩ := H
   have H' := Aside0.mk H
   clear H
   obtain ⟨z7_0, z7_1, z7_2, Z7_0, Z7_1, Z7_2⟩ := bk3 (HM.bx 0 rfl)
   go_wp2_with (first | ((with_reducible refine gC 59 rfl ?_); refine pC (some 14) rfl #[.agg #[.int .i64 a0_0, .int .i64 a0_1, .slice A0_2 l0_2.length c0_2]] rfl Try.func59 (impl_RowOk.calls k a0_0 a0_1 _ _ l0_2 true _ (HM.came HR0_2.out) HC0_2.out A8.out) ?_; rintro e w9 ⟨rfl, hR⟩; refine ⟨_, rfl, ?_⟩; replace HM := HM.call hR; clear hR) | ((with_reducible refine gC 60 rfl ?_); refine pC (some 20) rfl #[.agg #[.string a1, .string a2, .int .i64 0]] rfl Try.func60 (impl_ItemOk.calls k a1 a2 0 t837 _ A11.out) ?_; rintro e w12 ⟨rfl, hR⟩; refine ⟨_, rfl, ?_⟩; replace HM := HM.call hR; clear hR))
   go_meet
   case rel => exact ⟨_, (!t837), RS, H', ⟨by first | omega | exact Nat.le_refl _⟩, (MD HM).pick [0, 1]⟩
  ·subst c10
   have H' := Aside0.mk H
   clear H
   obtain ⟨z7_0, z7_1, z7_2, Z7_0, Z7_1, Z7_2⟩ := bk3 (HM.bx 0 rfl)
   go_wp2_with (first | ((with_reducible refine gC 59 rfl ?_); refine pC (some 14) rfl #[.agg #[.int .i64 a0_0, .int .i64 a0_1, .slice A0_2 l0_2.length c0_2]] rfl Try.func59 (impl_RowOk.calls k a0_0 a0_1 _ _ l0_2 false _ (HM.came HR0_2.out) HC0_2.out A8.out) ?_; rintro e w9 ⟨rfl, hR⟩; refine ⟨_, rfl, ?_⟩; replace HM := HM.call hR; clear hR))
   go_meet
   case rel => exact ⟨_, (true), RS, H', ⟨by first | omega | exact Nat.le_refl _⟩, (MD HM).pick [0, 1]⟩
 case rest =>
  clear HC6 HM
  obtain ⟨kq, x22_5, rfl, HA, HJ5, HM⟩ := hcut
  cases kq with
  | zero => exact absurd HA.out (by simp [impl_RowPut.j0])
  | succ kj5 =>
   have H := HA.out
   clear HA
   simp only [impl_RowPut.j0] at H
   go_upto_if 22 with (fail)
   replace H := IB H
   rcases H with ⟨c13, H⟩ | ⟨c13, H⟩
   ·subst c13
    simp only [Option.some.injEq, Prod.mk.injEq] at H
    obtain ⟨rfl, rfl, rfl, rfl, rfl⟩ := H
    go_wp2_with (first | ((with_reducible refine gS 6 rfl ?_); refine pS 1 6 0 [.int .i64 0, .int .i64 0, .slice none 0 0] HM rfl rfl ?_; clear HM; intro w14 HM; replace HM := HM.nl k76 76; replace HM := HM.nl Kd.string 9))
    refine bodyPost_ret (results_ctt rfl _ _ gb835 46 #[.int .i64 0, .int .i64 0, .slice none 0 0] (0, 0) _ rfl (HM.bx 1 rfl) Try.underlying46 rfl (by kernel_rfl)) rfl ?_
    exact ⟨_, _, ER, (MD HM).pick [2, 3]⟩
   ·subst c13
    replace H := BN H; obtain ⟨⟨t838, t839, t840⟩, A16, H⟩ := H
    replace H := BLt H; obtain ⟨y844, Ny844, H⟩ := H
    replace Ny844 := Aside0.mk Ny844
    replace H := BN H; obtain ⟨t847, A23, H⟩ := H
    obtain ⟨z15_0, z15_1, z15_2, Z15_0, Z15_1, Z15_2⟩ := bk3 (HM.bx 0 rfl)
    go_upto_if 32 with (first | ((with_reducible refine gC 61 rfl ?_); refine pC (some 25) rfl #[.agg #[.int .i64 a0_0, .int .i64 a0_1, .slice A0_2 l0_2.length c0_2]] rfl Try.func61 (impl_copyRow.calls a0_0 a0_1 _ _ l0_2 t838 t839 t840 _ (HM.came HR0_2.out) HC0_2.out A16.out) ?_; rintro e w17 ⟨v841, rfl, hR⟩; refine ⟨_, rfl, ?_⟩; replace HM := HM.call hR; clear hR) | ((with_reducible refine gN 9 rfl ?_); refine pB 9 46 [.int .i64 0, .int .i64 0, .slice none 0 0] HM rfl ?_; clear HM; intro gb843 w18 HM; obtain ⟨Xo19, ko19, eo19⟩ := HM.rdR 2 rfl; subst eo19) | ((with_reducible refine gS 9 rfl ?_); refine pS 3 9 0 [.int .i64 t838, .int .i64 t839, .slice Xo19 t840.length ko19] HM rfl rfl ?_; clear HM; intro w20 HM) | ((with_reducible refine gN 26 rfl ?_); refine pL 26 Kd.string 9 ([] : List ByteArray) [] (Reps.none _ _) HM rfl ?_; clear HM; intro v845 w21 HM; replace HM := HM.nm 4 rfl Ny844.out; obtain ⟨z22_0, z22_1, z22_2, Z22_0, Z22_1, Z22_2⟩ := bk3 (HM.bx 0 rfl)) | ((with_reducible refine gC 62 rfl ?_); refine pC (some 30) rfl #[.slice A0_2 l0_2.length c0_2, .string a1] rfl Try.func62 (impl_itemAt.calls A0_2 c0_2 l0_2 a1 t847 _ (HM.came HR0_2.out) HC0_2.out A23.out) ?_; rintro e w24 ⟨rfl, hb⟩; refine ⟨_, rfl, ?_⟩; replace HM := HM.below hb; clear hb))
    replace HM := nzM HM
    replace H := IT H; rcases H with ⟨c25, H⟩ | ⟨c25, H⟩
    ·have c25b0 : decide (0 ≤ t847) = true := decide_eq_true c25
     clear c25
     (first | rw [c25b0] | (simp only [i64_w, i32_w]; rw [c25b0]) | skip)
     replace H := GD H; obtain ⟨c27, H⟩ := H
     have c27b0 : decide (0 ≤ t847) = true := decide_eq_true c27
     clear c27
     replace H := GD H; obtain ⟨c28, H⟩ := H
     have c28b0 : decide (t847 < (t840.length : Int)) = true := decide_eq_true c28
     clear c28
     replace H := BN H; obtain ⟨⟨t849, t850, t851⟩, A31, H⟩ := H
     simp only [Option.some.injEq, Prod.mk.injEq] at H
     obtain ⟨rfl, rfl, rfl, rfl, rfl⟩ := H
     obtain ⟨z26_0, z26_1, z26_2, Z26_0, Z26_1, Z26_2⟩ := bk3 (HM.bx 3 rfl)
     have p29 : 0 ≤ (t847 : Int) := of_decide_eq_true AS
     have q29 : (t847 : Int) < ((t840.length : Int) : Int) := of_decide_eq_true AS
     obtain ⟨go29, ef29⟩ := HM.form 2 rfl (by have h_ := (HM.CR 2 rfl).1; omega)
     subst ef29
     obtain ⟨hx29_0, hx29_1, hx29_2, hf29_0, hf29_1, hf29_2⟩ := HM.el3 2 rfl z76 (t847 : Int) p29 (by have h_ := (HM.CR 2 rfl).1; omega) (.string ((rd_T76 t840 t847).f0)) (.string ((rd_T76 t840 t847).f1)) (.int .i64 ((rd_T76 t840 t847).f2)) (fun _ _ h => k76_openM h)
     replace p29 := eq_true p29
     replace q29 := eq_true q29
     go_wp2_with (first | ((with_reducible refine gS 38 rfl ?_); refine pPR 2 38 (t847 : Int) 1 [.string a2] k76 76 t840 (⟨(rd_T76 t840 t847).f0, a2, (rd_T76 t840 t847).f2⟩ : S76) z76 [.string ((rd_T76 t840 t847).f0), .string ((rd_T76 t840 t847).f1), .int .i64 ((rd_T76 t840 t847).f2)] HM rfl rfl (of_decide_eq_true AS) (by have h_ : (t847 : Int) < ((t840.length : Int) : Int) := of_decide_eq_true AS; have e_ := (HM.CR 2 rfl).1; omega) (fun _ _ h => k76_openM h) (k76_mkM _ _ _ (⟨(rd_T76 t840 t847).f0, a2, (rd_T76 t840 t847).f2⟩ : S76)) ?_; clear HM; intro w30 HM) | ((with_reducible refine gC 63 rfl ?_); refine pC (some 40) rfl #[.pointer (some ⟨gb843, 0, none⟩), .int .i64 t847] rfl Try.func63 (impl_Row_asked.calls gb843 t838 t839 (.slice (some ⟨go29, 0, none⟩) t840.length ko19) (t840.set (t847 : Int).toNat (⟨(rd_T76 t840 t847).f0, a2, (rd_T76 t840 t847).f2⟩ : S76)) t847 t849 t850 t851 _ _ _ (HM.focus [0, 1, 4] [2, 3]) A31.out) ?_; rintro e w32 ⟨v852, rfl, hR⟩; refine ⟨_, rfl, ?_⟩; replace HM := nzM hR.unfocus; clear hR; obtain ⟨z33_0, z33_1, z33_2, Z33_0, Z33_1, Z33_2⟩ := bk3 (HM.bx 4 rfl); obtain ⟨Xo34, ko34, eo34⟩ := HM.rdR 3 rfl; subst eo34) | ((with_reducible refine gS 6 rfl ?_); refine pS 1 6 0 [.int .i64 t849, .int .i64 t850, .slice Xo34 t851.length ko34] HM rfl rfl ?_; clear HM; intro w35 HM))
     refine bodyPost_ret (results_ctt rfl _ _ gb835 46 #[.int .i64 t849, .int .i64 t850, .slice Xo34 t851.length ko34] (0, 0) _ rfl (HM.bx 1 rfl) Try.underlying46 rfl (by kernel_rfl)) rfl ?_
     exact ⟨_, _, ER, (MD HM).pick [3, 2]⟩
    ·have c25b0 : decide (0 ≤ t847) = false := decide_eq_false c25
     clear c25
     (first | rw [c25b0] | (simp only [i64_w, i32_w]; rw [c25b0]) | skip)
     obtain ⟨z36_0, z36_1, z36_2, Z36_0, Z36_1, Z36_2⟩ := bk3 (HM.bx 3 rfl)
     go_upto_if 48 with (fail)
     replace H := IT H; rcases H with ⟨c37, H⟩ | ⟨c37, H⟩
     ·have c37b0 : ((t840.length : Int) == t839) = true := beq_iff_eq.mpr c37
      have c37b1 : ((t840.length : Int) != t839) = false := bne_eq_false_iff_eq.mpr c37
      clear c37
      (first | rw [c37b0] | (simp only [i64_w, i32_w]; rw [c37b0]) | skip)
      have H' := Aside0.mk H
      clear H
      replace HM := HM.toQ 2 rfl
      go_wp2
      go_loopg [] kj5 (fun kq w' => ∃ (x844002_2 : List (S76)) (u844002 : Value), Aside0 (impl_RowPut.l0 kq a1 a2 y844 t838 t839 x844002_2 = some (r1, r2, r3, r4, r5)) ∧ Aside0 (kq ≤ kj5) ∧ Mem w [] w' [rowR Kd.string 9 v845 y844, row k76 76 u844002 x844002_2, box 46 gb834 [.int .i64 a0_0, .int .i64 a0_1, .slice A0_2 l0_2.length c0_2], box 46 gb835 [.int .i64 0, .int .i64 0, .slice none 0 0], box 46 gb843 [.int .i64 t838, .int .i64 t839, u844002]])
      case atStart => exact ⟨(t840), (.slice Xo19 t840.length ko19), H', ⟨Nat.le_refl _⟩, (MD HM).pick [4, 2, 0, 1, 3]⟩
      case round =>
       clear H' HM
       obtain ⟨x844002_2, u844002, HA, HK2, HM⟩ := hrel
       cases gk with
       | zero => exact absurd HA.out (by simp [impl_RowPut.l0])
       | succ k2 =>
        have H := HA.out
        clear HA
        simp only [impl_RowPut.l0] at H
        replace H := GD H; obtain ⟨c39, H⟩ := H
        replace c39 : 0 < (x844002_2.length : Int) := c39
        have c39b0 : decide (0 < (x844002_2.length : Int)) = true := decide_eq_true c39
        have c39b1 : decide (0 < x844002_2.length) = true := decide_eq_true (by omega)
        have c39b9 : decide (0 < x844002_2.length) = true := decide_eq_true (by omega)
        clear c39
        obtain ⟨z38_0, z38_1, z38_2, Z38_0, Z38_1, Z38_2⟩ := bk3 (HM.bx 4 rfl)
        obtain ⟨Xo40, ko40, eo40⟩ := HM.rd 1 rfl
        subst eo40
        have p854 : 0 ≤ (0 : Int) := (by omega)
        have q854 : (0 : Int) < (x844002_2.length : Int) := of_decide_eq_true AS
        obtain ⟨ad854, e854, hx854_0, hx854_1, hx854_2⟩ := at_T76 (HM.C 1 rfl).2.2 0 p854 q854
        cases e854
        have qi854 : (0 < x844002_2.length) = True := eq_true (by omega)
        (try rw [show ((0 : Int)).toNat = 0 from rfl] at hx854_0)
        (try rw [show 0 * 3 = 0 from rfl] at hx854_0)
        (try rw [Addr.add_zero'] at hx854_0)
        (try rw [show ((0 : Int)).toNat = 0 from rfl] at hx854_1)
        (try rw [show 0 * 3 = 0 from rfl] at hx854_1)
        (try rw [Addr.add_zero'] at hx854_1)
        (try rw [show ((0 : Int)).toNat = 0 from rfl] at hx854_2)
        (try rw [show 0 * 3 = 0 from rfl] at hx854_2)
        (try rw [Addr.add_zero'] at hx854_2)
        replace p854 := eq_true p854
        replace q854 := eq_true q854
        go_upto_if 54 with (fail)
        replace H := IT H; rcases H with ⟨c41, H⟩ | ⟨c41, H⟩
        ·have c41b0 : (((rd_T76 x844002_2 0).f2) == 1) = true := beq_iff_eq.mpr c41
         have c41b1 : (((rd_T76 x844002_2 0).f2) != 1) = false := bne_eq_false_iff_eq.mpr c41
         clear c41
         (first | rw [c41b0] | (simp only [i64_w, i32_w]; rw [c41b0]) | skip)
         have p855 : 0 ≤ (0 : Int) := (by omega)
         have q855 : (0 : Int) < (x844002_2.length : Int) := of_decide_eq_true AS
         obtain ⟨ad855, e855, hx855_0, hx855_1, hx855_2⟩ := at_T76 (HM.C 1 rfl).2.2 0 p855 q855
         obtain rfl := Option.some.inj e855
         have qi855 : (0 < x844002_2.length) = True := eq_true (by omega)
         (try rw [show ((0 : Int)).toNat = 0 from rfl] at hx855_0)
         (try rw [show 0 * 3 = 0 from rfl] at hx855_0)
         (try rw [Addr.add_zero'] at hx855_0)
         (try rw [show ((0 : Int)).toNat = 0 from rfl] at hx855_1)
         (try rw [show 0 * 3 = 0 from rfl] at hx855_1)
         (try rw [Addr.add_zero'] at hx855_1)
         (try rw [show ((0 : Int)).toNat = 0 from rfl] at hx855_2)
         (try rw [show 0 * 3 = 0 from rfl] at hx855_2)
         (try rw [Addr.add_zero'] at hx855_2)
         replace p855 := eq_true p855
         replace q855 := eq_true q855
         try go_wp2_with (first | ((with_reducible refine gN 12 rfl ?_); refine pB 12 76 [.string (⟨#[]⟩ : ByteArray), .string (⟨#[]⟩ : ByteArray), .int .i64 0] HM rfl ?_; clear HM; intro gb856 w42 HM) | ((with_reducible refine gS 12 rfl ?_); refine pS 5 12 0 [.string ((rd_T76 x844002_2 0).f0), .string ((rd_T76 x844002_2 0).f1), .int .i64 ((rd_T76 x844002_2 0).f2)] HM rfl rfl ?_; clear HM; intro w43 HM) | ((with_reducible refine gS 59 rfl ?_); refine pS 5 59 2 [.int .i64 0] HM rfl rfl ?_; clear HM; intro w44 HM))
         replace H := GD H; obtain ⟨c45, H⟩ := H
         have c45b0 := eq_true c45
         have c45b1 : decide (1 ≤ (x844002_2.length : Int)) = true := decide_eq_true c45
         clear c45
         replace H := BLt H; obtain ⟨y857, Ny857, H⟩ := H
         replace Ny857 := Aside0.mk Ny857
         replace H := GD H; obtain ⟨c46, H⟩ := H
         have LMc46 := Aside0.mk (show y857.length < 3518437208883 from c46)
         clear c46
         refine RGN 8 [0, 1, 2, 3, 4, 5, 6, 7] (fun a0 b a w' => ∃ (v858 : Value) (v50 : Value) (v861 : Value), a = putSel a0 b [(0, 60, .pointer (some ⟨gb843, 2, none⟩)), (1, 61, .slice (some ad854) x844002_2.length ko40), (2, 62, v858), (3, 63, .agg #[.string ((rd_T76 x844002_2 0).f0), .string ((rd_T76 x844002_2 0).f1), .int .i64 0]), (4, 64, v50), (5, 65, v861), (6, 66, .pointer (some ⟨gb843, 2, none⟩))] ∧ Mem w [] w' [rowR Kd.string 9 v845 y844, sel (b 5) (row k76 76 v861 (y857 ++ [(⟨(rd_T76 x844002_2 0).f0, (rd_T76 x844002_2 0).f1, 0⟩ : S76)])) (sel (b 2) (row k76 76 v858 y857) (row k76 76 (.slice (some ad854) x844002_2.length ko40) x844002_2)), box 46 gb834 [.int .i64 a0_0, .int .i64 a0_1, .slice A0_2 l0_2.length c0_2], box 46 gb835 [.int .i64 0, .int .i64 0, .slice none 0 0], sel (b 7) (box 46 gb843 [.int .i64 t838, .int .i64 t839, v861]) (box 46 gb843 [.int .i64 t838, .int .i64 t839, .slice (some ad854) x844002_2.length ko40]), box 76 gb856 [.string ((rd_T76 x844002_2 0).f0), .string ((rd_T76 x844002_2 0).f1), .int .i64 0], sel (b 4) (rowR k76 76 v50 [(⟨(rd_T76 x844002_2 0).f0, (rd_T76 x844002_2 0).f1, 0⟩ : S76)]) (emp)]) impl_RowPut.tab14 impl_RowPut.bits14 ?_ ?_ ?_
         ·exact ⟨.bool false, .bool false, .bool false, PS0' rfl _, (HM.drew.ems 1).pick [0, 1, 2, 3, 4, 5, 6]⟩
         ·clear HM
          refine steps_cons ?_ ?_
          ·rintro b a w ⟨v858, v50, v861, ha, HM⟩ hb hon hoff
           refine ⟨_, rfl, fun K hK => ?_⟩
           replace ha := Aside0.mk ha
           have e9 := PG ha 9
           exact VL (.pointer (some ⟨gb843, 2, none⟩)) (hK.out _ _ ⟨v858, v50, v861, PUT ha 0 hb, HM⟩)
          refine steps_cons ?_ ?_
          ·rintro b a w ⟨v858, v50, v861, ha, HM⟩ hb hon hoff
           refine ⟨_, rfl, fun K hK => ?_⟩
           replace ha := Aside0.mk ha
           have HZ := HM
           replace HM := HM.sF 4 rfl (hoff 7 (by kernel_rfl))
           obtain ⟨z55_0, z55_1, z55_2, Z55_0, Z55_1, Z55_2⟩ := bk3 (HM.bx 4 rfl)
           have e60 := PE ha 0 hon
           exact VL (.slice (some ad854) x844002_2.length ko40) (hK.out _ _ ⟨v858, v50, v861, PUT ha 1 hb, HZ⟩)
          refine steps_cons ?_ ?_
          ·rintro b a w ⟨v858, v50, v861, ha, HM⟩ hb hon hoff
           refine ⟨_, rfl, fun K hK => ?_⟩
           replace ha := Aside0.mk ha
           replace HM := (HM.sF 1 rfl (hoff 5 (by kernel_rfl))).sF 1 rfl hb
           have e61 := PE ha 1 hon
           refine ST (eD 1 44 76 k76 _ _ 1 x844002_2 (some ad854) ko40 HM rfl Try.underlying44 info76 rfl (fun _ _ h => h) (by omega) (by have h_ : (1 : Int) ≤ ((x844002_2.length : Int) : Int) := of_decide_eq_true AS; first | exact h_ | (have e_ := (HM.C 1 rfl).1; omega)) ?_ (hx := (eval_of e61)) (hl := rfl))
           clear HM
           intro v858 HM
           replace HM := HM.nmQ 1 rfl Ny857.out
           exact hK.out _ _ ⟨v858, v50, v861, PUT ha 2 hb, (HM.iF 1 rfl (hoff 5 (by kernel_rfl))).pick [0, 1, 2, 3, 4, 5, 6]⟩
          refine steps_cons ?_ ?_
          ·rintro b a w ⟨v858, v50, v861, ha, HM⟩ hb hon hoff
           refine ⟨_, rfl, fun K hK => ?_⟩
           replace ha := Aside0.mk ha
           obtain ⟨z56_0, z56_1, z56_2, Z56_0, Z56_1, Z56_2⟩ := bk3 (HM.bx 5 rfl)
           have e12 := PG ha 12
           exact VL (.agg #[.string ((rd_T76 x844002_2 0).f0), .string ((rd_T76 x844002_2 0).f1), .int .i64 0]) (hK.out _ _ ⟨v858, v50, v861, PUT ha 3 hb, HM⟩)
          refine steps_cons ?_ ?_
          ·rintro b a w ⟨v858, v50, v861, ha, HM⟩ hb hon hoff
           refine ⟨_, rfl, fun K hK => ?_⟩
           replace ha := Aside0.mk ha
           have e63 := PE ha 3 hon
           refine ST (eL 64 k76 76 [(⟨(rd_T76 x844002_2 0).f0, (rd_T76 x844002_2 0).f1, 0⟩ : S76)] [.string ((rd_T76 x844002_2 0).f0), .string ((rd_T76 x844002_2 0).f1), .int .i64 0] (Reps.c3 (show Kd.M k76 _ _ _ (⟨(rd_T76 x844002_2 0).f0, (rd_T76 x844002_2 0).f1, 0⟩ : S76) [.string ((rd_T76 x844002_2 0).f0), .string ((rd_T76 x844002_2 0).f1), .int .i64 0] from (k76_mkM _ _ _ (⟨(rd_T76 x844002_2 0).f0, (rd_T76 x844002_2 0).f1, 0⟩ : S76))) (Reps.none _ _)) HM rfl ?_)
           clear HM
           intro v50 w57 HM
           exact hK.out _ _ ⟨v858, v50, v861, PUT ha 4 hb, (HM).pick [0, 1, 2, 3, 4, 5, 7]⟩
          refine steps_cons ?_ ?_
          ·rintro b a w ⟨v858, v50, v861, ha, HM⟩ hb hon hoff
           refine ⟨_, rfl, fun K hK => ?_⟩
           replace ha := Aside0.mk ha
           replace HM := (HM.sF 1 rfl hb).sT 1 rfl (hon 2 (by kernel_rfl))
           replace HM := HM.sT 6 rfl (hon 4 (by kernel_rfl))
           obtain ⟨Xo58, ko58, eo58⟩ := HM.rdR 6 rfl
           subst eo58
           have e62 := PE ha 2 hon
           have e64 := PE ha 4 hon
           refine ST (eAq 1 (.tmp 62) (.tmp 64) 44 76 k76 v858 y857 [(⟨(rd_T76 x844002_2 0).f0, (rd_T76 x844002_2 0).f1, 0⟩ : S76)] Xo58 ([(⟨(rd_T76 x844002_2 0).f0, (rd_T76 x844002_2 0).f1, 0⟩ : S76)].length) ko58 HM rfl Try.underlying44 info76 rfl (HM.CR 6 rfl).2.2 (by have h_ := LMc46.out; simp only [List.length_singleton]; omega) (by simp) ?_ (ops := #[]) (hw := by rfl) (hs := (eval_of e62)) (hx := (eval_of e64)))
           clear HM
           intro v861 w59 HM
           exact hK.out _ _ ⟨v858, .slice Xo58 [(⟨(rd_T76 x844002_2 0).f0, (rd_T76 x844002_2 0).f1, 0⟩ : S76)].length ko58, v861, PUT ha 5 hb, (((HM.sF 4 rfl (hoff 7 (by kernel_rfl))).iF 4 rfl (hoff 7 (by kernel_rfl))).iT 6 rfl (hon 4 (by kernel_rfl))).pick [0, 1, 2, 3, 4, 5, 6]⟩
          refine steps_cons ?_ ?_
          ·rintro b a w ⟨v858, v50, v861, ha, HM⟩ hb hon hoff
           refine ⟨_, rfl, fun K hK => ?_⟩
           replace ha := Aside0.mk ha
           have e9 := PG ha 9
           exact VL (.pointer (some ⟨gb843, 2, none⟩)) (hK.out _ _ ⟨v858, v50, v861, PUT ha 6 hb, HM⟩)
          refine steps_cons ?_ ?_
          ·rintro b a w ⟨v858, v50, v861, ha, HM⟩ hb hon hoff
           refine ⟨_, rfl, fun K hK => ?_⟩
           replace ha := Aside0.mk ha
           replace HM := HM.sT 1 rfl (hon 5 (by kernel_rfl))
           replace HM := HM.sF 4 rfl hb
           obtain ⟨Xo60, ko60, eo60⟩ := HM.rd 1 rfl
           subst eo60
           have e66 := PE ha 6 hon
           have e65 := PE ha 5 hon
           refine ST (eS 4 66 2 [.slice Xo60 (y857 ++ [(⟨(rd_T76 x844002_2 0).f0, (rd_T76 x844002_2 0).f1, 0⟩ : S76)]).length ko60] HM rfl rfl ?_ (hp := (eval_of e66)) (hx := (by rw [eval_of e65]; rfl)))
           clear HM
           intro w61 HM
           exact hK.out _ _ ⟨v858, v50, .slice Xo60 (y857 ++ [(⟨(rd_T76 x844002_2 0).f0, (rd_T76 x844002_2 0).f1, 0⟩ : S76)]).length ko60, PUS ha, (HM.iT 1 rfl (hon 5 (by kernel_rfl))).pick [0, 1, 2, 3, 4, 5, 6]⟩
          exact steps_nil
         rintro _ w62 ⟨v858, v50, v861, rfl, HM⟩
         replace HM := HM.sT 1 rfl rfl
         replace HM := HM.sT 4 rfl rfl
         replace HM := HM.sT 6 rfl rfl
         simp only [putSel, if_true, Act.put, List.setIfInBounds_toArray, List.set_cons_zero, List.set_cons_succ, gt_iff_lt, ge_iff_le]
         have H' := Aside0.mk H
         clear H
         go_wp2
         go_roundg k2
         case measure => have := HJ5.out; have := HK2.out; omega
         case rel => exact ⟨((y857 ++ [(⟨(rd_T76 x844002_2 0).f0, (rd_T76 x844002_2 0).f1, 0⟩ : S76)])), (v861), H', ⟨by have := HJ5.out; have := HK2.out; omega⟩, (MD HM).pick [0, 1, 2, 3, 4]⟩
        ·have c41b0 : (((rd_T76 x844002_2 0).f2) == 1) = false := beq_eq_false_iff_ne.mpr c41
         have c41b1 : (((rd_T76 x844002_2 0).f2) != 1) = true := bne_iff_ne.mpr c41
         (first | rw [c41b0] | (simp only [i64_w, i32_w]; rw [c41b0]) | skip)
         replace H := GD H; obtain ⟨c63, H⟩ := H
         have LMc63 := Aside0.mk (show y844.length < 8796093022208 from c63)
         clear c63
         replace H := GD H; obtain ⟨c68, H⟩ := H
         have c68b0 := eq_true c68
         have c68b1 : decide (1 ≤ (x844002_2.length : Int)) = true := decide_eq_true c68
         clear c68
         replace H := BLt H; obtain ⟨y867, Ny867, H⟩ := H
         replace Ny867 := Aside0.mk Ny867
         replace H := GD H; obtain ⟨c72, H⟩ := H
         have LMc72 := Aside0.mk (show y867.length < 3518437208883 from c72)
         clear c72
         replace H := BN H; obtain ⟨⟨t873, t874, t875⟩, A79, H⟩ := H
         simp only [Option.some.injEq, Prod.mk.injEq] at H
         obtain ⟨rfl, rfl, rfl, rfl, rfl⟩ := H
         have p863 : 0 ≤ (0 : Int) := (by omega)
         have q863 : (0 : Int) < (x844002_2.length : Int) := of_decide_eq_true AS
         obtain ⟨ad863, e863, hx863_0, hx863_1, hx863_2⟩ := at_T76 (HM.C 1 rfl).2.2 0 p863 q863
         obtain rfl := Option.some.inj e863
         have qi863 : (0 < x844002_2.length) = True := eq_true (by omega)
         (try rw [show ((0 : Int)).toNat = 0 from rfl] at hx863_0)
         (try rw [show 0 * 3 = 0 from rfl] at hx863_0)
         (try rw [Addr.add_zero'] at hx863_0)
         (try rw [show ((0 : Int)).toNat = 0 from rfl] at hx863_1)
         (try rw [show 0 * 3 = 0 from rfl] at hx863_1)
         (try rw [Addr.add_zero'] at hx863_1)
         (try rw [show ((0 : Int)).toNat = 0 from rfl] at hx863_2)
         (try rw [show 0 * 3 = 0 from rfl] at hx863_2)
         (try rw [Addr.add_zero'] at hx863_2)
         replace p863 := eq_true p863
         replace q863 := eq_true q863
         go_wp2_with (first | ((with_reducible refine gN 73 rfl ?_); refine pL 73 Kd.string 9 [(rd_T76 x844002_2 0).f0] [.string ((rd_T76 x844002_2 0).f0)] (Reps.one (show Kd.M Kd.string _ _ _ ((rd_T76 x844002_2 0).f0) [.string ((rd_T76 x844002_2 0).f0)] from rfl) (Reps.none _ _)) HM rfl ?_; clear HM; intro v65 w64 HM; obtain ⟨Xv65, kv65, ev65⟩ := HM.rdR 5 rfl; subst ev65) | ((with_reducible refine gate_builtin (b := .append) (xs := #[.tmp 67, .tmp 73]) rfl ?_); refine pA 0 (.tmp 67) (.tmp 73) 24 9 Kd.string v845 y844 [(rd_T76 x844002_2 0).f0] Xv65 ([(rd_T76 x844002_2 0).f0].length) kv65 HM rfl Try.underlying24 info9 rfl (HM.CR 5 rfl).2.2 (by have h_ := LMc63.out; simp only [List.length_singleton]; omega) ?_; clear HM; intro v865 w66 HM; obtain ⟨z67_0, z67_1, z67_2, Z67_0, Z67_1, Z67_2⟩ := bk3 (HM.bx 4 rfl)) | ((with_reducible refine gate_sl (t := 44) rfl ?_); refine pD 1 44 76 k76 _ _ 1 x844002_2 (some ad854) ko40 HM rfl Try.underlying44 info76 rfl (fun _ _ h => h) (by omega) (by have h_ : (1 : Int) ≤ ((x844002_2.length : Int) : Int) := of_decide_eq_true AS; first | exact h_ | (have e_ := (HM.C 1 rfl).1; omega)) ?_; clear HM; intro v868 HM; replace HM := HM.nmQ 1 rfl Ny867.out; obtain ⟨Xo69, ko69, eo69⟩ := HM.rd 1 rfl; subst eo69) | ((with_reducible refine gS 78 rfl ?_); refine pS 4 78 2 [.slice Xo69 y867.length ko69] HM rfl rfl ?_; clear HM; intro w70 HM; obtain ⟨z71_0, z71_1, z71_2, Z71_0, Z71_1, Z71_2⟩ := bk3 (HM.bx 4 rfl)) | ((with_reducible refine gN 84 rfl ?_); refine pL 84 k76 76 [(⟨a1, a2, 0⟩ : S76)] [.string a1, .string a2, .int .i64 0] (Reps.c3 (show Kd.M k76 _ _ _ (⟨a1, a2, 0⟩ : S76) [.string a1, .string a2, .int .i64 0] from (k76_mkM _ _ _ (⟨a1, a2, 0⟩ : S76))) (Reps.none _ _)) HM rfl ?_; clear HM; intro v74 w73 HM; obtain ⟨Xv74, kv74, ev74⟩ := HM.rdR 6 rfl; subst ev74) | ((with_reducible refine gate_builtin (b := .append) (xs := #[.tmp 80, .tmp 84]) rfl ?_); refine pAq 1 (.tmp 80) (.tmp 84) 44 76 k76 (.slice Xo69 y867.length ko69) y867 [(⟨a1, a2, 0⟩ : S76)] Xv74 ([(⟨a1, a2, 0⟩ : S76)].length) kv74 HM rfl Try.underlying44 info76 rfl (HM.CR 6 rfl).2.2 (by have h_ := LMc72.out; simp only [List.length_singleton]; omega) (by simp) ?_; clear HM; intro v871 w75 HM; obtain ⟨Xo76, ko76, eo76⟩ := HM.rd 1 rfl; subst eo76) | ((with_reducible refine gS 86 rfl ?_); refine pS 4 86 2 [.slice Xo76 (y867 ++ [(⟨a1, a2, 0⟩ : S76)]).length ko76] HM rfl rfl ?_; clear HM; intro w77 HM; obtain ⟨z78_0, z78_1, z78_2, Z78_0, Z78_1, Z78_2⟩ := bk3 (HM.bx 4 rfl)) | ((with_reducible refine gC 61 rfl ?_); refine pC (some 88) rfl #[.agg #[.int .i64 t838, .int .i64 t839, .slice Xo76 (y867 ++ [(⟨a1, a2, 0⟩ : S76)]).length ko76]] rfl Try.func61 (impl_copyRow.calls t838 t839 _ _ (y867 ++ [(⟨a1, a2, 0⟩ : S76)]) t873 t874 t875 _ (HM.C 1 rfl).2.2 (HM.C 1 rfl).2.1 A79.out) ?_; rintro e w80 ⟨v876, rfl, hR⟩; refine ⟨_, rfl, ?_⟩; replace HM := HM.call hR; clear hR; obtain ⟨Xo81, ko81, eo81⟩ := HM.rdR 7 rfl; subst eo81) | ((with_reducible refine gS 6 rfl ?_); refine pS 3 6 0 [.int .i64 t873, .int .i64 t874, .slice Xo81 t875.length ko81] HM rfl rfl ?_; clear HM; intro w82 HM))
         refine bodyPost_ret (results_ctt rfl _ _ gb835 46 #[.int .i64 t873, .int .i64 t874, .slice Xo81 t875.length ko81] (0, 0) _ rfl (HM.bx 3 rfl) Try.underlying46 rfl (by kernel_rfl)) rfl ?_
         exact ⟨_, _, ER, (MD HM).pick [7, 0]⟩
     ·have c37b0 : ((t840.length : Int) == t839) = false := beq_eq_false_iff_ne.mpr c37
      have c37b1 : ((t840.length : Int) != t839) = true := bne_iff_ne.mpr c37
      (first | rw [c37b0] | (simp only [i64_w, i32_w]; rw [c37b0]) | skip)
      replace H := GD H; obtain ⟨c83, H⟩ := H
      have LMc83 := Aside0.mk (show t840.length < 3518437208883 from c83)
      clear c83
      replace H := BN H; obtain ⟨⟨t881, t882, t883⟩, A90, H⟩ := H
      simp only [Option.some.injEq, Prod.mk.injEq] at H
      obtain ⟨rfl, rfl, rfl, rfl, rfl⟩ := H
      go_wp2_with (first | ((with_reducible refine gN 84 rfl ?_); refine pL 84 k76 76 [(⟨a1, a2, 0⟩ : S76)] [.string a1, .string a2, .int .i64 0] (Reps.c3 (show Kd.M k76 _ _ _ (⟨a1, a2, 0⟩ : S76) [.string a1, .string a2, .int .i64 0] from (k76_mkM _ _ _ (⟨a1, a2, 0⟩ : S76))) (Reps.none _ _)) HM rfl ?_; clear HM; intro v85 w84 HM; obtain ⟨Xv85, kv85, ev85⟩ := HM.rdR 5 rfl; subst ev85) | ((with_reducible refine gate_builtin (b := .append) (xs := #[.tmp 80, .tmp 84]) rfl ?_); refine pA 2 (.tmp 80) (.tmp 84) 44 76 k76 (.slice Xo19 t840.length ko19) t840 [(⟨a1, a2, 0⟩ : S76)] Xv85 ([(⟨a1, a2, 0⟩ : S76)].length) kv85 HM rfl Try.underlying44 info76 rfl (HM.CR 5 rfl).2.2 (by have h_ := LMc83.out; simp only [List.length_singleton]; omega) ?_; clear HM; intro v879 w86 HM; obtain ⟨Xo87, ko87, eo87⟩ := HM.rdR 2 rfl; subst eo87) | ((with_reducible refine gS 86 rfl ?_); refine pS 3 86 2 [.slice Xo87 (t840 ++ [(⟨a1, a2, 0⟩ : S76)]).length ko87] HM rfl rfl ?_; clear HM; intro w88 HM; obtain ⟨z89_0, z89_1, z89_2, Z89_0, Z89_1, Z89_2⟩ := bk3 (HM.bx 3 rfl)) | ((with_reducible refine gC 61 rfl ?_); refine pC (some 88) rfl #[.agg #[.int .i64 t838, .int .i64 t839, .slice Xo87 (t840 ++ [(⟨a1, a2, 0⟩ : S76)]).length ko87]] rfl Try.func61 (impl_copyRow.calls t838 t839 _ _ (t840 ++ [(⟨a1, a2, 0⟩ : S76)]) t881 t882 t883 _ (HM.CR 2 rfl).2.2 (HM.CR 2 rfl).2.1 A90.out) ?_; rintro e w91 ⟨v884, rfl, hR⟩; refine ⟨_, rfl, ?_⟩; replace HM := HM.call hR; clear hR; obtain ⟨Xo92, ko92, eo92⟩ := HM.rdR 6 rfl; subst eo92) | ((with_reducible refine gS 6 rfl ?_); refine pS 1 6 0 [.int .i64 t881, .int .i64 t882, .slice Xo92 t883.length ko92] HM rfl rfl ?_; clear HM; intro w93 HM))
      refine bodyPost_ret (results_ctt rfl _ _ gb835 46 #[.int .i64 t881, .int .i64 t882, .slice Xo92 t883.length ko92] (0, 0) _ rfl (HM.bx 1 rfl) Try.underlying46 rfl (by kernel_rfl)) rfl ?_
      exact ⟨_, _, ER, (MD HM).pick [6, 4]⟩
end Go.Proofs.Ytanakbmhclpamaa.G
