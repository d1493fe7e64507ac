/- Part 1 of the claim FnExactReadCmds, merged by pack.py (this session's program) out of: the print's words, cut to what is needed; texts that gen.py printed (it runs the kit's print in place); texts of this session. -/
import Derived.Test.YthnedklbobbkcaaProg
import Derived.Below
import Derived.Deep.Draws
import Derived.Deep.AppendLies
import Derived.Maps.AppendAt
import Derived.OwnWalk
import Derived.Laws.BytesArg
import Derived.Laws.MakeOwn
import Derived.Laws.OwnMore
import Derived.Deep.OwnRows
import Derived.Tactics
import Derived.Lib.ConvBytes
import Derived.Laws.Slices
import Derived.WalkKit
import Derived.KernelRfl
import Derived.RowKit3
import Derived.Deep.LoopGhost
import Derived.Deep.QuietTactic
import Derived.BigQuiet
import Derived.WideLaws
import Derived.Deep.DeepCutAuto
import Derived.Deep.CutBlock
import Derived.Deep.RegionHeld3
import Derived.Laws.Rows
import Derived.Lib.AppendStr
import Derived.ArgAppend
import Derived.Laws.IdiomCopy
import Derived.OrdersHeld
import Derived.Laws.BitsLemmas
import Derived.RowKit
import Derived.Laws.StructEq
import Derived.Test.YthnedklbobbkcaaKFnExactReadCmds0
namespace Go.Proofs.Ythnedklbobbkcaa.Mm
end Go.Proofs.Ythnedklbobbkcaa.Mm
namespace Go.Proofs.Ythnedklbobbkcaa.Sh
end Go.Proofs.Ythnedklbobbkcaa.Sh
set_option maxHeartbeats 8000000
set_option maxRecDepth 100000
namespace Go.Proofs.Ythnedklbobbkcaa.Sh
open Go.RowKit Go.Proofs.YthnedklbobbkcaaW.PrintWords Go.Proofs.YthnedklbobbkcaaW.PrintLast Go.Proofs.YthnedklbobbkcaaW.PrintMore
set_option linter.unusedVariables false
theorem BL {P : Prop} (h : P := by repeat (first | (with_reducible first | exact HB.out | apply below_alloc | apply pw_below_drewN | apply below_drew1) | exact HB.out)) : P := h
theorem AQ {P : Prop} (h : P := by (try simp only [List.map_toArray, List.map_cons, List.map_nil]); first | done | rfl | (simp only [List.length_drop, List.length_take]; rfl)) : P := h
theorem AS {P : Prop} (h : P := by first | (with_reducible assumption) | assumption) : P := h
theorem RS {P : Prop} (h : P := by first | rfl | (simp; done) | (simp [*]; done)) : P := h
section
variable {α : Type} {d : Kd α} {e n : Nat} {w w2 : World} {base g i : Nat} {ok : Nat → Prop} {v u : Value} {xs : List α} {A : Option Addr}
theorem RD (b : Aside0 (Kd.R d e w base ok v xs)) (f : Kd.R d e w base ok v xs → Kd.R d e w2 base ok v xs := by intro h_; (with_reducible repeat (first | apply Kd.R_alloc | apply Kd.R_drewN | apply Kd.R_drew)); exact h_) : Kd.R d e w2 base ok v xs := f b.out
end
theorem BS {α β : Type} {f : Option α} {g : α → Option β} {r : β} (h : f.bind g = some r) : ∃ t, f = some t ∧ g t = some r := Option.bind_eq_some_iff.mp h
theorem IP {α : Type} {c : Prop} {i : Decidable c} {a b r : α} (h : @ite α c i a b = r) (hc : c := by first | rfl | decide | simp) : a = r := by rw [if_pos hc] at h; exact h
theorem IN {α : Type} {c : Prop} {i : Decidable c} {a b r : α} (h : @ite α c i a b = r) (hc : ¬ c := by first | exact Bool.false_ne_true | decide | simp) : b = r := by rw [if_neg hc] at h; exact h
def tf (m n : Nat) : Array Bool := ⟨List.replicate m true ++ List.replicate n false⟩
section
variable {P : Program} {ops : Array Oper} {Q : Exit → Act → World → Prop} {md : Region.Mode} {S : World → Prop} {ds : List Nat} {T : Bool × List (List Nat × List Nat)} {B : List Nat} {i : Nat} {N : Option Tmp} {oi : Oper} {v : Value} {fuel : Nat} {l : Array Bool} {a a' : Act} {w : World}
theorem PU (l' : Array Bool) (hi : ops[i]? = some oi) (hN : oi.dst = N) (HT : Aside0 (rtab md ops = T))
  (h : wpAnyLast P md ops Q S ds fuel l' a' w) (hc : anyT T l.toList l'.toList i = true := by kernel_rfl) (hQ : ∀ c a w, Q (.panic c) (a.put oi.dst v) w → Q (.panic c) a w := by exact fun _ _ _ h => h) (hp : Region.wanted oi (yielded ops a.tmps) = true := by rfl) (hy : ∀ w, (execOp a.eval oi).run P w = .ok (.value v) w := by intro w'; go_simp; with_reducible rfl) (ha : a.put N v = a' := by simp only [Act.put, List.setIfInBounds_toArray, List.set_cons_zero, List.set_cons_succ, i64_w, i32_w]; rfl) : wpAnyLast P md ops Q S ds (fuel + 1) l a w :=
 pure_ l' hi hN (any_of HT.out hc) hQ (Or.inl ⟨hp, hy⟩) ha h
theorem NM (N : Option Tmp) (h : wpAnyLast P md ops Q S ds fuel l a' w) (ha : a.put N v = a' := by simp only [Act.put, List.setIfInBounds_toArray, List.set_cons_zero, List.set_cons_succ, i64_w, i32_w]; rfl) : wpAnyLast P md ops Q S ds fuel l (a.put N v) w := norm_ ha h
end
theorem AsM {p : Prop} (h : p) : Aside0 p := ⟨h⟩
theorem ER {P : Prop} (h : P := by first | rfl | (simp [errW_none, errW_some] <;> rfl) | (simp [*, errW_none, errW_some] <;> rfl)) : P := h
theorem DR {P : Prop} (h : P := by repeat (first | exact Drawn0.refl _ | apply Drawn0.step)) : P := h
theorem HK1 {P : Prop} (h : P := by repeat (first | (with_reducible first | exact HK.out | apply Kept.alloc | apply Kept.drewN | apply Kept.drew) | exact HK.out)) : P := h
theorem bk3 {W : World} {g : Nat} {t : TypeId} {a0 a1 a2 : Value} (h : W.heap[g]? = some (.cells #[a0, a1, a2] t (0, 0))) : W.cell? ⟨g, 0, none⟩ = some a0 ∧ W.cell? ⟨g, 1, none⟩ = some a1 ∧ W.cell? ⟨g, 2, none⟩ = some a2 ∧ W.frozen? ⟨g, 0, none⟩ = false ∧ W.frozen? ⟨g, 1, none⟩ = false ∧ W.frozen? ⟨g, 2, none⟩ = false := ⟨(blk_cell h 0).trans rfl, (blk_cell h 1).trans rfl, (blk_cell h 2).trans rfl, blk_frozen h 0, blk_frozen h 1, blk_frozen h 2⟩
theorem bk7 {W : World} {g : Nat} {t : TypeId} {a0 a1 a2 a3 a4 a5 a6 : Value} (h : W.heap[g]? = some (.cells #[a0, a1, a2, a3, a4, a5, a6] t (0, 0))) : W.cell? ⟨g, 0, none⟩ = some a0 ∧ W.cell? ⟨g, 1, none⟩ = some a1 ∧ W.cell? ⟨g, 2, none⟩ = some a2 ∧ W.cell? ⟨g, 3, none⟩ = some a3 ∧ W.cell? ⟨g, 4, none⟩ = some a4 ∧ W.cell? ⟨g, 5, none⟩ = some a5 ∧ W.cell? ⟨g, 6, none⟩ = some a6 ∧ W.frozen? ⟨g, 0, none⟩ = false ∧ W.frozen? ⟨g, 1, none⟩ = false ∧ W.frozen? ⟨g, 2, none⟩ = false ∧ W.frozen? ⟨g, 3, none⟩ = false ∧ W.frozen? ⟨g, 4, none⟩ = false ∧ W.frozen? ⟨g, 5, none⟩ = false ∧ W.frozen? ⟨g, 6, none⟩ = false := ⟨(blk_cell h 0).trans rfl, (blk_cell h 1).trans rfl, (blk_cell h 2).trans rfl, (blk_cell h 3).trans rfl, (blk_cell h 4).trans rfl, (blk_cell h 5).trans rfl, (blk_cell h 6).trans rfl, blk_frozen h 0, blk_frozen h 1, blk_frozen h 2, blk_frozen h 3, blk_frozen h 4, blk_frozen h 5, blk_frozen h 6⟩
end Go.Proofs.Ythnedklbobbkcaa.Sh

namespace Go.Proofs.Ythnedklbobbkcaa.G
open Go.RowKit Go.Proofs.YthnedklbobbkcaaW.PrintWords Go.Proofs.YthnedklbobbkcaaW.PrintLast Go.Proofs.YthnedklbobbkcaaW.PrintMore Go.Proofs.Ythnedklbobbkcaa.Sh
attribute [local go_sem] max2_int min2_int max_two min_two max_three min_three max_four min_four
set_option linter.unusedVariables false
set_option linter.unusedSimpArgs false
def errW : Option Int → Value
 | none => .nilIface
 | some c => .iface 0 (.int .i64 c)
theorem errW_none : errW none = .nilIface := rfl
theorem errW_some (c : Int) : errW (some c) = .iface 0 (.int .i64 c) := rfl
theorem info9 : (Try.prog.info? 9).map (fun i => (i.zero, i.size, i.bytes)) = some (some (.string ⟨#[]⟩), 1, 16) := by kernel_rfl
theorem info55 : (Try.prog.info? 55).map (fun i => (i.zero, i.size, i.bytes)) = some (some (.agg #[(.int .i64 0), (.int .i64 0), (.int .i64 0), (.int .i64 0), (.string ⟨#[]⟩), (.string ⟨#[]⟩), (.slice none 0 0)]), 7, 88) := by kernel_rfl
structure S43 where
 f0 : Int
 f1 : ByteArray
 f2 : ByteArray
def z43 : S43 := ⟨(0 : Int), (⟨#[]⟩ : ByteArray), (⟨#[]⟩ : ByteArray)⟩
def k43 : Kd S43 := Kd.iso (Kd.pair (Kd.int .i64) (Kd.pair Kd.string Kd.string)) (fun x : S43 => (x.f0, x.f1, x.f2))
theorem k43_open {w : World} {x : S43} {cs : List Value} (h : k43.K w x cs) : cs = [.int .i64 x.f0, .string x.f1, .string x.f2] := by
 obtain ⟨_, _, rfl, rfl, ⟨_, _, rfl, rfl, rfl⟩⟩ := h
 exact rfl
theorem k43_mk (w : World) (x : S43)  : k43.K w x [.int .i64 x.f0, .string x.f1, .string x.f2] := ⟨[.int .i64 x.f0], [.string x.f1, .string x.f2], rfl, rfl, ⟨[.string x.f1], [.string x.f2], rfl, rfl, rfl⟩⟩
structure S55 where
 f0 : Int
 f1 : Int
 f2 : Int
 f3 : S43
 f4 : (List ByteArray)
def z55 : S55 := ⟨(0 : Int), (0 : Int), (0 : Int), z43, ([] : List ByteArray)⟩
def k55 : Kd S55 := Kd.iso (Kd.pair (Kd.int .i64) (Kd.pair (Kd.int .i64) (Kd.pair (Kd.int .i64) (Kd.pair k43 (Kd.slice 9 Kd.string))))) (fun x : S55 => (x.f0, x.f1, x.f2, x.f3, x.f4))
theorem k55_open {w : World} {x : S55} {cs : List Value} (h : k55.K w x cs) : ∃ A6 c6, cs = [.int .i64 x.f0, .int .i64 x.f1, .int .i64 x.f2, .int .i64 x.f3.f0, .string x.f3.f1, .string x.f3.f2, .slice A6 x.f4.length c6] ∧ x.f4.length ≤ c6 ∧ Kd.string.C w A6 x.f4.length x.f4 := by
 obtain ⟨_, _, rfl, rfl, ⟨_, _, rfl, rfl, ⟨_, _, rfl, rfl, ⟨_, _, rfl, s3, ⟨A6, c6, rfl, l6, g6⟩⟩⟩⟩⟩ := h
 obtain rfl := k43_open s3
 exact ⟨A6, c6, rfl, l6, g6⟩
theorem k55_mk (w : World) (x : S55) {A6 : Option Addr} {c6 : Nat} (l6 : x.f4.length ≤ c6) (g6 : Kd.string.C w A6 x.f4.length x.f4) : k55.K w x [.int .i64 x.f0, .int .i64 x.f1, .int .i64 x.f2, .int .i64 x.f3.f0, .string x.f3.f1, .string x.f3.f2, .slice A6 x.f4.length c6] := ⟨[.int .i64 x.f0], [.int .i64 x.f1, .int .i64 x.f2, .int .i64 x.f3.f0, .string x.f3.f1, .string x.f3.f2, .slice A6 x.f4.length c6], rfl, rfl, ⟨[.int .i64 x.f1], [.int .i64 x.f2, .int .i64 x.f3.f0, .string x.f3.f1, .string x.f3.f2, .slice A6 x.f4.length c6], rfl, rfl, ⟨[.int .i64 x.f2], [.int .i64 x.f3.f0, .string x.f3.f1, .string x.f3.f2, .slice A6 x.f4.length c6], rfl, rfl, ⟨[.int .i64 x.f3.f0, .string x.f3.f1, .string x.f3.f2], [.slice A6 x.f4.length c6], rfl, (k43_mk w x.f3 ), ⟨A6, c6, rfl, l6, g6⟩⟩⟩⟩⟩
def rd_T55 (xs : List S55) (i : Int) : S55 := xs.getD i.toNat z55
theorem at_T55 {w : World} {A : Option Addr} {n : Nat} {xs : List S55} (h : Kd.C k55 w A n xs) (i : Int) (h0 : 0 ≤ i) (h1 : i < n) : ∃ ad A6 c6, A = some ad ∧ w.cell? (ad.add (i.toNat * 7)) = some (.int .i64 (rd_T55 xs i).f0) ∧ w.cell? ⟨(ad.add (i.toNat * 7)).block, (ad.add (i.toNat * 7)).off + 1, none⟩ = some (.int .i64 (rd_T55 xs i).f1) ∧ w.cell? ⟨(ad.add (i.toNat * 7)).block, (ad.add (i.toNat * 7)).off + 2, none⟩ = some (.int .i64 (rd_T55 xs i).f2) ∧ w.cell? ⟨(ad.add (i.toNat * 7)).block, (ad.add (i.toNat * 7)).off + 3, none⟩ = some (.int .i64 (rd_T55 xs i).f3.f0) ∧ w.cell? ⟨(ad.add (i.toNat * 7)).block, (ad.add (i.toNat * 7)).off + 4, none⟩ = some (.string (rd_T55 xs i).f3.f1) ∧ w.cell? ⟨(ad.add (i.toNat * 7)).block, (ad.add (i.toNat * 7)).off + 5, none⟩ = some (.string (rd_T55 xs i).f3.f2) ∧ w.cell? ⟨(ad.add (i.toNat * 7)).block, (ad.add (i.toNat * 7)).off + 6, none⟩ = some (.slice A6 (rd_T55 xs i).f4.length c6) ∧ (rd_T55 xs i).f4.length ≤ c6 ∧ Kd.string.C w A6 (rd_T55 xs i).f4.length (rd_T55 xs i).f4 := by
 obtain ⟨ad, c, e, _, hK, hc0⟩ := Kd.C_get h z55 i h0 h1
 have hc : ∀ j u, c[j]? = some u → w.cell? (ad.add (i.toNat * 7 + j)) = some u := hc0
 obtain ⟨A6, c6, rfl, l6, g6⟩ := k55_open hK
 exact ⟨ad, A6, c6, e, hc 0 _ rfl, by rw [← add_field _ _ 1 (by omega)]; exact hc 1 _ rfl, by rw [← add_field _ _ 2 (by omega)]; exact hc 2 _ rfl, by rw [← add_field _ _ 3 (by omega)]; exact hc 3 _ rfl, by rw [← add_field _ _ 4 (by omega)]; exact hc 4 _ rfl, by rw [← add_field _ _ 5 (by omega)]; exact hc 5 _ rfl, by rw [← add_field _ _ 6 (by omega)]; exact hc 6 _ rfl, l6, g6⟩
end Go.Proofs.Ythnedklbobbkcaa.G

namespace Go.Proofs.Ythnedklbobbkcaa.Mm
open Go.RowKit Go.Proofs.YthnedklbobbkcaaW.PrintWords Go.Proofs.YthnedklbobbkcaaW.PrintLast Go.Proofs.YthnedklbobbkcaaW.PrintMore Go.Proofs.Ythnedklbobbkcaa.Sh
set_option linter.unusedVariables false
/-- A thing that is held: what it says of the world, given the blocks that are its own. -/
structure SP where
 At : World → (Nat → Prop) → Prop
 loc : ∀ {w w' : World} {S : Nat → Prop}, At w S → (∀ k, S k → w'.heap[k]? = w.heap[k]?) → At w' S
def sel (c : Bool) (A B : SP) : SP := match c with
 | true => A
 | false => B
/-- A variable in memory. -/
def box (t : TypeId) (g : Nat) (cs : List Value) : SP := ⟨fun w S => w.heap[g]? = some (.cells cs.toArray t (0, 0)) ∧ S g, fun h hm => ⟨(hm _ h.2).trans h.1, h.2⟩⟩
/-- A row of the call's own (it may begin inside its block). -/
def row {α : Type} (d : Kd α) (e : Nat) (v : Value) (xs : List α) : SP := ⟨fun w S => d.Q e w 0 S v xs, fun h hm => Kd.Q_move h hm⟩
def rowR {α : Type} (d : Kd α) (e : Nat) (v : Value) (xs : List α) : SP := ⟨fun w S => d.R e w 0 S v xs, fun h hm => Kd.R_move h hm⟩
/-- From w to w' nothing has turned but blocks of S and what is new. -/
structure Chg (S : Nat → Prop) (w w' : World) : Prop where
 os : w'.os = w.os
 tape : w'.tape = w.tape
 output : w'.output = w.output
 size : w.heap.size ≤ w'.heap.size
 block : ∀ k, k < w.heap.size → ¬ S k → w'.heap[k]? = w.heap[k]?
theorem Chg.of_below {w w' : World} (h : Below w.heap.size w w') : Chg (fun _ => False) w w' := ⟨h.os, h.tape, h.output, h.size, fun k hk _ => h.block k hk⟩
theorem Chg.of_grown {w w' : World} {r : Option Nat} (h : w.grownBy w' r) : Chg (fun k => r = some k) w w' := ⟨h.os, h.tape, h.output, h.size, fun k hk hn => h.block k hk (fun e => hn e.symm)⟩
theorem Chg.below {w0 w w' : World} {S : Nat → Prop} (h : Chg S w w') (hb : Below w0.heap.size w0 w) (hS : ∀ k, S k → w0.heap.size ≤ k) : Below w0.heap.size w0 w' :=
 hb.trans ⟨h.os, h.tape, h.output, h.size, fun k hk => h.block k (Nat.lt_of_lt_of_le hk hb.size) (fun hs => by have := hS k hs; omega)⟩
theorem Chg.wide {w w' : World} {S S' : Nat → Prop} (h : Chg S w w') (hs : ∀ k, S k → S' k) : Chg S' w w' := ⟨h.os, h.tape, h.output, h.size, fun k hk hn => h.block k hk (fun e => hn (hs k e))⟩
def Sep (w : World) (b : Nat) (N : List SP) : Prop := ∃ S : Nat → Nat → Prop, (∀ (i : Nat) (A : SP), N[i]? = some A → A.At w (S i)) ∧ (∀ i k, S i k → b ≤ k ∧ k < w.heap.size) ∧ (∀ i j k, S i k → S j k → i = j)
/-- What is held: N, beside a frame F that is left alone; below the call's first block nothing has turned. -/
structure Mem (w0 : World) (F : List SP) (w : World) (N : List SP) : Prop where
 bel : Below w0.heap.size w0 w
 sep : Sep w w0.heap.size (F ++ N)
section
variable {w0 w w' : World} {F N M L R : List SP} {A B : SP} {i j : Nat}
theorem Mem.nil (w : World) : Mem w [] w [] := ⟨Below.refl _ _, fun _ _ => False, fun i A h => by simp at h, fun _ _ h => h.elim, fun _ _ _ h => h.elim⟩
theorem Mem.sub (h : Mem w0 F w N) (σ : Nat → Nat) (hσ : ∀ i j, σ i = σ j → i = j) (hM : ∀ j A, (R ++ M)[j]? = some A → (F ++ N)[σ j]? = some A) : Mem w0 R w M := by
 obtain ⟨hb, S, h1, h2, h3⟩ := h
 exact ⟨hb, fun j => S (σ j), fun j A hA => h1 _ A (hM j A hA), fun j k hk => h2 _ k hk, fun i j k hi hj => hσ i j (h3 _ _ k hi hj)⟩
/-- The index under which number j of the new list stood: a list of numbers, each once; beyond it: beyond all. -/
def idx (m : Nat) (l : List Nat) (j : Nat) : Nat := if h : j < l.length then l[j] else m + j
theorem idx_inj {m : Nat} {l : List Nat} (hl : (l.all (· < m) && decide l.Nodup) = true) : ∀ i j, idx m l i = idx m l j → i = j := by
 simp only [Bool.and_eq_true, List.all_eq_true, decide_eq_true_eq] at hl
 obtain ⟨h1, h2⟩ := hl
 intro i j h
 unfold idx at h
 split at h <;> split at h
 ·exact (List.getElem_inj h2).1 h
 ·have := h1 _ (List.getElem_mem (by assumption)); omega
 ·have := h1 _ (List.getElem_mem (by assumption)); omega
 ·omega
/-- Some of what is held, in another order. -/
theorem Mem.pick (h : Mem w0 F w N) (l : List Nat) (hl : (l.all (· < N.length) && decide l.Nodup) = true := by kernel_rfl) (hM : l.map (fun i => N[i]?) = M.map some := by rfl) : Mem w0 F w M := by
 have hlen : l.length = M.length := by have := congrArg List.length hM; simpa using this
 have key : ∀ j A, M[j]? = some A → ∃ hj : j < l.length, N[l[j]]? = some A := by
  intro j A hA
  have hj : j < M.length := (List.getElem?_eq_some_iff.1 hA).1
  have := congrArg (fun z => z[j]?) hM
  simp only [List.getElem?_map, hA] at this
  rw [List.getElem?_eq_getElem (by omega)] at this
  simp only [Option.map_some, Option.some.injEq] at this
  exact ⟨by omega, this⟩
 refine Mem.sub h (fun q => if q < F.length then q else F.length + idx N.length l (q - F.length)) ?_ ?_
 ·intro i j e
  (try dsimp only at e)
  split at e <;> split at e
  ·exact e
  ·omega
  ·omega
  ·have := idx_inj hl _ _ (Nat.add_left_cancel e)
   omega
 ·intro q A hA
  (try dsimp only)
  split
  ·rename_i hq
   rw [List.getElem?_append_left hq] at hA ⊢
   exact hA
  ·rename_i hq
   rw [List.getElem?_append_right (by omega)] at hA
   obtain ⟨hj, hN⟩ := key _ _ hA
   rw [List.getElem?_append_right (by omega), Nat.add_sub_cancel_left]
   unfold idx
   rw [dif_pos hj]
   exact hN
/-- The things of these numbers. -/
def pk (N : List SP) : List Nat → List SP
 | [] => []
 | i :: r => match N[i]? with
  | some A => A :: pk N r
  | none => pk N r
theorem pk_map : ∀ (r : List Nat), r.all (· < N.length) = true → r.map (fun i => N[i]?) = (pk N r).map some
 | [], _ => rfl
 | i :: r, h => by
  rw [List.all_cons, Bool.and_eq_true, decide_eq_true_eq] at h
  unfold pk
  rw [List.getElem?_eq_getElem h.1]
  simp only [List.map_cons, List.getElem?_eq_getElem h.1, pk_map r h.2]
/-- What is given to a call (l) stands alone; the rest (r) joins the frame. -/
theorem Mem.focus (h : Mem w0 F w N) (r l : List Nat) (hl : ((r ++ l).all (· < N.length) && decide (r ++ l).Nodup) = true := by kernel_rfl) (hM : l.map (fun i => N[i]?) = M.map some := by rfl) : Mem w0 (F ++ pk N r) w M := by
 have hr : r.all (· < N.length) = true := by
  rw [Bool.and_eq_true, List.all_append, Bool.and_eq_true] at hl
  exact hl.1.1
 have h1 : Mem w0 F w (pk N r ++ M) := Mem.pick h (r ++ l) hl (by rw [List.map_append, pk_map r hr, hM, List.map_append])
 refine ⟨h1.bel, ?_⟩
 rw [List.append_assoc]
 exact h1.sep
theorem Mem.unfocus (h : Mem w0 (F ++ R) w M) : Mem w0 F w (R ++ M) := ⟨h.bel, by rw [← List.append_assoc]; exact h.sep⟩
theorem Mem.at_ (h : Mem w0 F w N) (hi : N[i]? = some A) : ∃ S, A.At w S ∧ ∀ k, S k → w0.heap.size ≤ k ∧ k < w.heap.size := by
 obtain ⟨hb, S, h1, h2, h3⟩ := h
 exact ⟨S (F.length + i), h1 _ A (by rw [List.getElem?_append_right (by omega), Nat.add_sub_cancel_left]; exact hi), fun k hk => h2 _ k hk⟩
/-- Thing number i: its blocks, and how it may turn. -/
theorem Mem.opn (h : Mem w0 F w N) (hi : N[i]? = some A) : ∃ S : Nat → Prop, A.At w S ∧ (∀ k, S k → w0.heap.size ≤ k ∧ k < w.heap.size) ∧ ∀ (w' : World) (B : SP) (S' : Nat → Prop), B.At w' S' → (∀ k, S' k → (S k ∨ w.heap.size ≤ k) ∧ k < w'.heap.size) → Chg S w w' → Mem w0 F w' (N.set i B) := by
 obtain ⟨hb, S, h1, h2, h3⟩ := h
 have hil : i < N.length := (List.getElem?_eq_some_iff.1 hi).1
 refine ⟨S (F.length + i), h1 (F.length + i) A (by rw [List.getElem?_append_right (by omega), Nat.add_sub_cancel_left]; exact hi), fun k hk => h2 _ k hk, ?_⟩
 intro w' B S' hB hS' hc
 refine ⟨hc.below hb (fun k hk => (h2 _ k hk).1), fun q => if q = F.length + i then S' else S q, ?_, ?_, ?_⟩
 ·intro q D hD
  have e : F ++ N.set i B = (F ++ N).set (F.length + i) B := by rw [List.set_append_right _ _ (by omega), Nat.add_sub_cancel_left]
  rw [e, List.getElem?_set] at hD
  dsimp only
  by_cases hq : q = F.length + i
  ·rw [if_pos hq]
   rw [if_pos hq.symm] at hD
   split at hD
   ·rw [← Option.some.inj hD]; exact hB
   ·cases hD
  ·rw [if_neg hq]
   rw [if_neg (fun e => hq e.symm)] at hD
   exact D.loc (h1 q D hD) (fun k hk => hc.block k (h2 _ k hk).2 (fun hk' => hq (h3 _ _ k hk hk')))
 ·intro q k hk
  (try dsimp only at hk)
  split at hk
  ·have := hS' k hk
   exact ⟨this.1.elim (fun e => (h2 _ k e).1) (fun e => Nat.le_trans hb.size e), this.2⟩
  ·exact ⟨(h2 _ k hk).1, Nat.lt_of_lt_of_le (h2 _ k hk).2 hc.size⟩
 ·intro q p k hq hp
  (try dsimp only at hq hp)
  split at hq <;> split at hp
  ·omega
  ·rcases (hS' k hq).1 with e | e
   ·have := h3 _ _ k e hp; omega
   ·have := (h2 _ k hp).2; omega
  ·rcases (hS' k hp).1 with e | e
   ·have := h3 _ _ k e hq; omega
   ·have := (h2 _ k hq).2; omega
  ·exact h3 _ _ k hq hp
theorem Mem.move (h : Mem w0 F w N) (hc : Chg (fun _ => False) w w') : Mem w0 F w' N := by
 obtain ⟨hb, S, h1, h2, h3⟩ := h
 exact ⟨hc.below hb (fun _ hk => hk.elim), S, fun q D hD => D.loc (h1 q D hD) (fun k hk => hc.block k (h2 _ k hk).2 (fun e => e)), fun q k hk => ⟨(h2 _ k hk).1, Nat.lt_of_lt_of_le (h2 _ k hk).2 hc.size⟩, h3⟩
theorem Mem.below (h : Mem w0 F w N) (hb : Below w.heap.size w w') : Mem w0 F w' N := h.move (Chg.of_below hb)
theorem Mem.drew (h : Mem w0 F w N) : Mem w0 F w.drew N := h.below (below_drew (Below.refl _ _))
theorem Mem.drewN (h : Mem w0 F w N) (n : Nat) : Mem w0 F (w.drewN n) N := h.below (pw_below_drewN (Below.refl _ _) n)
theorem Mem.drawn (h : Mem w0 F w N) (hd : Drawn0 w w') : Mem w0 F w' N := by
 obtain ⟨n, rfl⟩ := hd.out
 exact h.drewN n
/-- Something new. -/
theorem Mem.push (h : Mem w0 F w N) (A : SP) {S' : Nat → Prop} (hA : A.At w' S') (hS : ∀ k, S' k → w.heap.size ≤ k ∧ k < w'.heap.size) (hc : Chg (fun _ => False) w w') : Mem w0 F w' (N ++ [A]) := by
 have h0 := h.move hc
 obtain ⟨hb, S, h1, h2, h3⟩ := h
 refine ⟨h0.bel, fun q => if q = (F ++ N).length then S' else S q, ?_, ?_, ?_⟩
 ·intro q D hD
  rw [← List.append_assoc] at hD
  (try dsimp only)
  split
  ·rename_i hq
   rw [hq, List.getElem?_append_right (Nat.le_refl _), Nat.sub_self] at hD
   obtain rfl : A = D := by simpa using hD
   exact hA
  ·rename_i hq
   have hlt : q < (F ++ N).length := by
    have := (List.getElem?_eq_some_iff.1 hD).1
    rw [List.length_append, List.length_singleton] at this
    omega
   rw [List.getElem?_append_left hlt] at hD
   exact D.loc (h1 q D hD) (fun k hk => hc.block k (h2 _ k hk).2 (fun e => e))
 ·intro q k hk
  (try dsimp only at hk)
  split at hk
  ·exact ⟨Nat.le_trans hb.size (hS k hk).1, (hS k hk).2⟩
  ·exact ⟨(h2 _ k hk).1, Nat.lt_of_lt_of_le (h2 _ k hk).2 hc.size⟩
 ·intro q p k hq hp
  (try dsimp only at hq hp)
  split at hq <;> split at hp
  ·omega
  ·have := (hS k hq).1; have := (h2 _ k hp).2; omega
  ·have := (hS k hp).1; have := (h2 _ k hq).2; omega
  ·exact h3 _ _ k hq hp
/-- A call has ended that was given nothing: what it made is held, too. -/
theorem Mem.call (h : Mem w0 F w N) (k : Mem w [] w' L) : Mem w0 F w' (N ++ L) := by
 have h0 := h.below k.bel
 obtain ⟨hb, S, h1, h2, h3⟩ := h
 obtain ⟨kb, T, k1, k2, k3⟩ := k
 rw [List.nil_append] at k1
 refine ⟨h0.bel, fun q => if q < (F ++ N).length then S q else T (q - (F ++ N).length), ?_, ?_, ?_⟩
 ·intro q D hD
  rw [← List.append_assoc] at hD
  (try dsimp only)
  split
  ·rename_i hq
   rw [List.getElem?_append_left hq] at hD
   exact D.loc (h1 q D hD) (fun k hk => kb.block k (h2 _ k hk).2)
  ·rename_i hq
   rw [List.getElem?_append_right (by omega)] at hD
   exact k1 _ D hD
 ·intro q k hk
  (try dsimp only at hk)
  split at hk
  ·exact ⟨(h2 _ k hk).1, Nat.lt_of_lt_of_le (h2 _ k hk).2 kb.size⟩
  ·exact ⟨Nat.le_trans hb.size (k2 _ k hk).1, (k2 _ k hk).2⟩
 ·intro q p k hq hp
  (try dsimp only at hq hp)
  split at hq <;> split at hp
  ·exact h3 _ _ k hq hp
  ·have := (h2 _ k hq).2; have := (k2 _ k hp).1; omega
  ·have := (h2 _ k hp).2; have := (k2 _ k hq).1; omega
  ·have := k3 _ _ k hq hp; omega
/-- Thing number i is told otherwise. -/
theorem Mem.tell (h : Mem w0 F w N) (hi : N[i]? = some A) (B : SP) (hB : ∀ S, A.At w S → B.At w S) : Mem w0 F w (N.set i B) := by
 obtain ⟨S, hA, hS, k⟩ := h.opn hi
 exact k w B S (hB S hA) (fun k hk => ⟨.inl hk, (hS k hk).2⟩) ⟨rfl, rfl, rfl, Nat.le_refl _, fun _ _ _ => rfl⟩
-- reads
theorem Mem.bx {t g : Nat} {cs : List Value} (h : Mem w0 F w N) (i : Nat) (hi : N[i]? = some (box t g cs)) : w.heap[g]? = some (.cells cs.toArray t (0, 0)) := by
 obtain ⟨S, hA, _⟩ := h.at_ hi
 exact hA.1
theorem Mem.q {α : Type} {d : Kd α} {e : Nat} {v : Value} {xs : List α} (h : Mem w0 F w N) (i : Nat) (hi : N[i]? = some (row d e v xs)) : ∃ S, d.Q e w 0 S v xs := by
 obtain ⟨S, hA, _⟩ := h.at_ hi
 exact ⟨S, hA⟩
/-- A row's form, its room, and what is read of it. -/
theorem Mem.rd {α : Type} {d : Kd α} {e : Nat} {v : Value} {xs : List α} (h : Mem w0 F w N) (i : Nat) (hi : N[i]? = some (row d e v xs)) : ∃ X c, v = .slice X xs.length c := by
 obtain ⟨S, hq⟩ := h.q i hi
 obtain ⟨X, c, hv, _⟩ := Kd.Q_slice hq
 exact ⟨X, c, hv⟩
theorem Mem.C {α : Type} {d : Kd α} {e n c : Nat} {X : Option Addr} {xs : List α} (h : Mem w0 F w N) (i : Nat) (hi : N[i]? = some (row d e (.slice X n c) xs)) : n = xs.length ∧ n ≤ c ∧ d.C w X xs.length xs := by
 obtain ⟨S, hq⟩ := h.q i hi
 exact Kd.Q_reads' hq
theorem Mem.rdR {α : Type} {d : Kd α} {e : Nat} {v : Value} {xs : List α} (h : Mem w0 F w N) (i : Nat) (hi : N[i]? = some (rowR d e v xs)) : ∃ X c, v = .slice X xs.length c := by
 obtain ⟨S, hq, _⟩ := h.at_ hi
 exact Kd.R_slice hq
theorem Mem.CR {α : Type} {d : Kd α} {e n c : Nat} {X : Option Addr} {xs : List α} (h : Mem w0 F w N) (i : Nat) (hi : N[i]? = some (rowR d e (.slice X n c) xs)) : n = xs.length ∧ n ≤ c ∧ d.C w X xs.length xs := by
 obtain ⟨S, hq, _⟩ := h.at_ hi
 exact Kd.R_reads' hq
/-- A queue that begins where its block begins is a row. -/
theorem R_of_Q0 {α : Type} {d : Kd α} {e g n c : Nat} {w : World} {base : Nat} {ok : Nat → Prop} {xs : List α} (h : d.Q e w base ok (.slice (some ⟨g, 0, none⟩) n c) xs) (hc : 0 < c) (hs : 0 < d.sz) : d.R e w base ok (.slice (some ⟨g, 0, none⟩) n c) xs := by
 obtain ⟨h0, inner, ⟨hl, ho⟩, hr⟩ := h
 refine ⟨h0, inner, ⟨hl, ?_⟩, hr⟩
 rcases ho with ⟨_, A, hv, _⟩ | ⟨g', off, cap, cur, hv, hb, hh, hnc, hcm, hcs, ht⟩
 ·injection hv with _ _ h3
  omega
 ·injection hv with ha h2 h3
  injection ha with ha
  injection ha with hg hoff
  have : off = 0 := by
   rcases Nat.eq_zero_or_pos off with h | h
   ·exact h
   ·have := Nat.mul_pos h hs
    omega
  subst this
  subst hg
  subst h3
  refine .inr ⟨g, c, cur, by rw [h2], hb, hh, hnc, by omega, by rw [hcs, Nat.zero_add], ?_⟩
  rw [Nat.zero_mul, List.drop_zero] at ht
  exact ht
/-- An empty row is always there. -/
theorem Mem.nl {α : Type} (h : Mem w0 F w N) (d : Kd α) (e : Nat) : Mem w0 F w (N ++ [rowR d e (.slice none 0 0) []]) := h.push _ (S' := fun _ => False) (Kd.R_nil d e w 0 _) (fun _ h => h.elim) ⟨rfl, rfl, rfl, Nat.le_refl _, fun _ _ _ => rfl⟩
theorem Mem.form {α : Type} {d : Kd α} {e n c : Nat} {X : Option Addr} {xs : List α} (h : Mem w0 F w N) (i : Nat) (hi : N[i]? = some (rowR d e (.slice X n c) xs)) (hp : 0 < xs.length) : ∃ g, X = some ⟨g, 0, none⟩ := by
 obtain ⟨S, hq, _⟩ := h.at_ hi
 obtain ⟨g, cap, hv, _⟩ := Kd.R_form hq hp
 injection hv with h1
 exact ⟨g, h1⟩
theorem Mem.formQ {α : Type} {d : Kd α} {e n c : Nat} {X : Option Addr} {xs : List α} (h : Mem w0 F w N) (i : Nat) (hi : N[i]? = some (row d e (.slice X n c) xs)) (hp : 0 < xs.length) : ∃ g o, X = some ⟨g, o, none⟩ := by
 obtain ⟨S, hq, _⟩ := h.at_ hi
 obtain ⟨g, o, cap, hv, _⟩ := Kd.Q_form hq hp
 injection hv with h1
 exact ⟨g, o, h1⟩
theorem Mem.elQ {α : Type} {d : Kd α} {e g o n c : Nat} {xs : List α} (h : Mem w0 F w N) (i : Nat) (hi : N[i]? = some (row d e (.slice (some ⟨g, o, none⟩) n c) xs)) (z : α) (j : Int) (h0 : 0 ≤ j) (h1 : j < n) (cells : List Value) (ho : ∀ ok cs, d.M w 0 ok (xs.getD j.toNat z) cs → cs = cells) :
  (∀ q u, cells[q]? = some u → w.cell? ⟨g, o + j.toNat * d.sz + q, none⟩ = some u) ∧ ∀ q, w.frozen? ⟨g, o + j.toNat * d.sz + q, none⟩ = false := by
 obtain ⟨S, hq, _⟩ := h.at_ hi
 obtain ⟨cs, _, hm, hc, hf⟩ := Kd.Q_elem hq z j h0 h1
 obtain rfl := ho _ cs hm
 exact ⟨hc, hf⟩
/-- A name for a row's elements. -/
theorem Mem.nm {α : Type} {d : Kd α} {e : Nat} {v : Value} {xs y : List α} (h : Mem w0 F w N) (i : Nat) (hi : N[i]? = some (rowR d e v xs)) (hy : y = xs) : Mem w0 F w (N.set i (rowR d e v y)) := h.tell hi _ (fun S hA => hy ▸ hA)
theorem Mem.str {P : Program} {src dst e e' : TypeId} {v : Value} {xs : List Int} (h : Mem w0 F w N) (i : Nat) (hi : N[i]? = some (rowR (Kd.int .u8) e' v xs)) (hs : P.underlying src = some (.slice e)) (he : P.underlying e = some (.int .u8)) (hd : P.underlying dst = some .string) : (convert src dst v).run P w = .ok (.string (strOfNums xs)) w := by
 obtain ⟨S, hq, _⟩ := h.at_ hi
 exact own_string hs he hd (Kd.own_of_R hq)
theorem Mem.toQ {α : Type} {d : Kd α} {e : Nat} {v : Value} {xs : List α} (h : Mem w0 F w N) (i : Nat) (hi : N[i]? = some (rowR d e v xs)) : Mem w0 F w (N.set i (row d e v xs)) := h.tell hi _ (fun S hA => Kd.Q_of_R hA)
theorem Mem.cell {p : Addr} {v : Value} (h : Mem w0 F w N) (hc : w0.cell? p = some v) : w.cell? p = some v := (h.bel.cell (World.block_lt_of_cell? w0 _ hc)).trans hc
theorem Mem.came {α : Type} {d : Kd α} {n : Nat} {X : Option Addr} {xs : List α} (h : Mem w0 F w N) (hc : d.C w0 X n xs) : d.C w X n xs := Kd.C_below hc h.bel
end
end Go.Proofs.Ythnedklbobbkcaa.Mm

namespace Go.Proofs.Ythnedklbobbkcaa.Mm
open Go.RowKit Go.Proofs.YthnedklbobbkcaaW.PrintWords Go.Proofs.YthnedklbobbkcaaW.PrintLast Go.Proofs.YthnedklbobbkcaaW.PrintMore Go.Proofs.Ythnedklbobbkcaa.Sh
set_option linter.unusedVariables false
section
variable {P : Program} {ops : Array Oper} {rest : List Oper} {o : Oper} {a : Act} {Q : Exit → Act → World → Prop} {K : Act → World → Prop} {w0 W W0 : World} {F N L : List SP} {A : SP} {α : Type}
/-- An event in a plain region. -/
theorem PL (h : ∀ K : Act → World → Prop, (∀ a w, wpList P ops Q rest a w → K a w) → Region.wanted o (yielded ops a.tmps) = true → Oper.wp P o a W K Q) (hg : Region.wanted o (yielded ops a.tmps) = true := by rfl) : wpList P ops Q (o :: rest) a W := by
 unfold wpList
 rw [if_pos hg]
 exact .inl (h _ (fun _ _ h => h) hg)
/-- An event as_ a step of a region that draws. -/
theorem ST (h : Oper.wp P o a W K Q) (hw : Region.wanted o (yielded ops a.tmps) = true := by rfl) : if Region.wanted o (yielded ops a.tmps) = true then Oper.wp P o a W K Q else K (a.put o.dst undef) W := by
 rw [if_pos hw]
 exact h
theorem wp_value {v : Value} {w1 : World} (hrun : (execOp a.eval o).run P W = .ok (.value v) w1) (h : K (a.put o.dst v) w1) : Oper.wp P o a W K Q := by
 unfold Oper.wp
 rw [hrun]
 exact h
/-- A variable in memory. -/
theorem eB (d : Tmp) (T : TypeId) (cs : List Value) (hM : Mem w0 F W0 N) (hd : o.dst = some d) (h : ∀ g w1, Mem w0 F w1 (N ++ [box T g cs]) → K (a.put o.dst (.pointer (some ⟨g, 0, none⟩))) w1)
  (hq : Drawn0 W0 W := by repeat (first | exact Drawn0.refl _ | apply Drawn0.step)) (hrun : (execOp a.eval o).run P W = .ok (.value (.pointer (some ⟨W.heap.size, 0, none⟩))) (W.alloc (.cells cs.toArray T (0, 0))) := by first | (go_simp; done) | (go_simp; rfl)) : Oper.wp P o a W K Q :=
 wp_value hrun (h _ _ ((hM.drawn hq).push (box T W.heap.size cs) (S' := fun k => k = W.heap.size) ⟨blk_new W _, rfl⟩ (fun k hk => by subst hk; exact ⟨Nat.le_refl _, by simp⟩) (Chg.of_below (below_alloc (Below.refl _ _) _))))
/-- A literal. -/
theorem eL (d : Tmp) (kd : Kd α) (e : Nat) (xs : List α) (inner : List Value) (hrep : Reps (kd.M W 0 (fun _ => False)) kd.sz xs inner) (hM : Mem w0 F W0 N) (hd : o.dst = some d) (h : ∀ v w1, Mem w0 F w1 (N ++ [rowR kd e v xs]) → K (a.put o.dst v) w1)
  (hq : Drawn0 W0 W := by repeat (first | exact Drawn0.refl _ | apply Drawn0.step)) (hm : xs.length ≤ 9223372036854775807 := by simp) (hrun : (execOp a.eval o).run P W = .ok (.value (.slice (some ⟨W.heap.size, 0, none⟩) xs.length xs.length)) (W.alloc (.cells inner.toArray e)) := by first | (go_simp; done) | (go_simp; rfl)) : Oper.wp P o a W K Q := by
 refine wp_value hrun (h _ _ ((hM.drawn hq).push (rowR kd e _ xs) (S' := fun k => k = W.heap.size) ⟨fun k hk => ?_, inner, ?_, ?_⟩ (fun k hk => by subst hk; exact ⟨Nat.le_refl _, by simp⟩) (Chg.of_below (below_alloc (Below.refl _ _) _))))
 ·have : W.heap.size = k := by simpa [Value.ownBlock] using hk
  exact this.symm
 ·have h2 := World.ownsRow_lit (base := 0) (e := e) (size := kd.sz) W inner.toArray xs.length (Nat.zero_le _) (by simpa [maxLen] using hm) (by simpa using hrep.1)
  simpa using h2
 ·exact hrep.imp_ (fun p c hp => kd.M_mono (fun k (hk : False ∧ _) => hk.1.elim) (Kd.M_below (kd.M_bound hp) (below_alloc (Below.refl _ _) _)))
/-- append(v, ys...) onto a row of the call's own (number i). Rr: what is known of a read element's cells. -/
theorem eA (i : Nat) (s x : Operand) (t e : TypeId) (d : Kd α) (v : Value) (xs ys : List α) (X : Option Addr) (m c : Nat) {Rr : α → List Value → Prop} {z : Value} {bytes : Nat} (hw : Region.wanted o (yielded ops a.tmps) = true) (hM : Mem w0 F W0 N) (ho : o.op = .call { callee := .builtin .append, args := #[s, x], argTypes := #[t, t] })
  (ht : P.underlying t = some (.slice e)) (hinfo : (P.info? e).map (fun i => (i.zero, i.size, i.bytes)) = some (some z, d.sz, bytes)) (hi : N[i]? = some (rowR d e v xs)) (HR : ReadsRow Rr d.sz W X m ys) (hl : (xs.length + m) * bytes ≤ 140737488355328)
  (h : ∀ v1 w1, Mem w0 F w1 (N.set i (rowR d e v1 (xs ++ ys))) → K (a.put o.dst v1) w1)
  (hq : Drawn0 W0 W := by repeat (first | exact Drawn0.refl _ | apply Drawn0.step)) (hKM : ∀ x cs, Rr x cs → d.M W 0 (fun _ => False) x cs := by exact fun _ _ h => h) (hs : a.eval s = v := by first | rfl | (simp only [List.length_drop, List.length_take, List.length_append, List.length_set, List.length_cons, List.length_nil, Int.reduceToNat]; rfl)) (hx : a.eval x = .slice X m c := by first | rfl | (simp only [List.length_drop, List.length_take, List.length_append, List.length_set, List.length_cons, List.length_nil, Int.reduceToNat]; rfl)) (hz : z.cells.size = d.sz := by rfl) (hs0 : 0 < d.sz := by decide) (hb0 : 0 < bytes := by omega) : Oper.wp P o a W K Q := by
 obtain ⟨S, hA, hS, fin⟩ := (hM.drawn hq).opn hi
 have key := Kd.R_append_rows_step (P := P) (Q := Q) (Kc := K) (w0 := W) d 0 hw s x t e z bytes ho ht hinfo hz hs0 hb0 v xs ys X m c (fun k => S k ∨ W.heap.size ≤ k) (fun _ => False) hs hx (Kd.R_mono hA (fun _ h => .inl h)) HR hKM (fun _ h => h.elim) (fun _ h => .inr h) (Below.mono (Below.refl W.heap.size W) (Nat.zero_le _)) (Nat.zero_le _) hl
  (fun v1 w1 h1 _ h3 _ => h v1 w1 (fin w1 _ _ (Kd.R_bound h1) (fun k hk => ⟨hk.1, hk.2.2.1⟩) ((Chg.of_grown h3).wide (fun k hk => hA.1 k hk))))
 rwa [if_pos hw] at key
/-- Cells off, off + 1, .. get new values. -/
def putAt (cs : List Value) (off : Nat) (seg : List Value) : List Value := cs.take off ++ seg ++ cs.drop (off + seg.length)
/-- A store into a variable. -/
theorem eS (i : Nat) (p : Tmp) (off : Nat) (seg : List Value) {T g : Nat} {cs : List Value} {t : TypeId} {x : Operand} (hM : Mem w0 F W0 N) (ho : o.op = .store t (.tmp p) x) (hi : N[i]? = some (box T g cs)) (h : ∀ w1, Mem w0 F w1 (N.set i (box T g (putAt cs off seg))) → K a w1)
  (hfit : (decide (off + seg.length ≤ cs.length) && seg.all (·.oneCell')) = true := by rfl) (hp : a.eval (.tmp p) = .pointer (some ⟨g, off, none⟩) := by rfl) (hx : (a.eval x).cells.toList = seg := by first | rfl | (simp only [List.length_drop, List.length_take, List.length_append, List.length_set, List.length_cons, List.length_nil, Int.reduceToNat]; rfl)) (ht : (P.info? t).map (·.size) = some seg.length := by kernel_rfl)
  (hN : o.dst = none := by rfl) (hq : Drawn0 W0 W := by repeat (first | exact Drawn0.refl _ | apply Drawn0.step)) : Oper.wp P o a W K Q := by
 obtain ⟨S, ⟨hA, hg⟩, hS, fin⟩ := (hM.drawn hq).opn hi
 simp only [Bool.and_eq_true, decide_eq_true_eq, List.all_eq_true] at hfit
 have hr := run_store_run (P := P) (w := W) (g := g) (o := off) t (a.eval x) seg hA hx ht (by simpa using hfit.1) (fun q hq => hfit.2 q hq)
 obtain ⟨cur', h3, h4, h5⟩ := setCells_row seg off W cs.toArray hA (by simpa using hfit.1)
 obtain ⟨s1, s2, s3, s4⟩ := setCells_same g seg off W
 have he : cur' = (putAt cs off seg).toArray := by
  apply Array.toList_inj.1
  rw [h5]
  simp [putAt]
 unfold Oper.wp execOp
 simp only [ho, hp, Sem.run_bind, Sem.run_pure, Result.andThen_ok, hr]
 show K (a.put o.dst undef) _
 rw [hN]
 refine h _ (fin _ _ (fun k => k = g) ⟨by rw [h3, he], rfl⟩ (fun k hk => by subst hk; exact ⟨.inl hg, blk_lt h3⟩) ⟨s1, s2, s3, by rw [s4]; exact Nat.le_refl _, fun k _ hn => setCells_far seg _ k (fun e => hn (e ▸ hg))⟩)
/-- A call of a Go function. -/
theorem eC {f : FuncId} {fn : Func} {as_ : Array Operand} {ts : Array TypeId} {R : Ending → World → Prop} (dd : Option Tmp) (hd : o.dst = dd) (args : Array Value) (hop : o.op = .call { callee := .value (.func f), args := as_, argTypes := ts }) (hf : P.funcs[f]? = some fn) (hc : Calls P f args W R) (h : ∀ e w', R e w' → ∃ v, e = .returned v ∧ K (a.put dd v) w')
  (hargs : as_.map a.eval = args := by (try simp only [List.map_toArray, List.map_cons, List.map_nil]); first | done | rfl | (simp only [List.length_drop, List.length_take, List.length_append, List.length_set, List.length_cons, List.length_nil, Nat.zero_add, Int.reduceToNat]; done) | (simp only [List.length_drop, List.length_take, List.length_append, List.length_set, List.length_cons, List.length_nil, Nat.zero_add, Int.reduceToNat]; rfl)) (hname : (fn.name == "runtime.NumGoroutine") = false := by kernel_rfl) (hb : fn.body.isSome = true := by rfl) : Oper.wp P o a W K Q := by
 subst hd
 have he := enters_ hf hname hb args W
 have hrun : (execOp a.eval o).run P W = .ok (.enter f args) W := by
  unfold execOp
  simp [hop, resolve, Deferred.ofValue, invoke, Act.eval, hargs, he]
 unfold Oper.wp
 rw [hrun, Oper.upon_enter]
 refine hc.mono ?_
 intro e w' hR
 obtain ⟨v, rfl, hK⟩ := h e w' hR
 exact hK
/-- xs[k:] of a row of the call's own: a queue. -/
theorem eD (i : Nat) (t e : TypeId) (d : Kd α) (x lo : Operand) (k : Int) (xs : List α) (X : Option Addr) (c : Nat) {z : Value} {bytes : Nat} (hM : Mem w0 F W0 N) (ho : o.op = .slice t x (some lo) none none) (ht : P.underlying t = some (.slice e)) (hinfo : (P.info? e).map (fun i => (i.zero, i.size, i.bytes)) = some (some z, d.sz, bytes)) (hi : N[i]? = some A) (hA : ∀ w S, A.At w S → d.Q e w 0 S (.slice X xs.length c) xs) (h0 : 0 ≤ k) (h1 : k ≤ xs.length)
  (h : ∀ v1, Mem w0 F W (N.set i (row d e v1 (xs.drop k.toNat))) → K (a.put o.dst v1) W) (hx : a.eval x = .slice X xs.length c := by first | rfl | (simp only [List.length_drop, List.length_take, List.length_append, List.length_set, List.length_cons, List.length_nil, Int.reduceToNat]; rfl)) (hl : a.eval lo = .int .i64 k := by rfl)
  (hq : Drawn0 W0 W := by repeat (first | exact Drawn0.refl _ | apply Drawn0.step)) : Oper.wp P o a W K Q := by
 have hel : P.elem t = e := by simp [Program.elem, ht]
 have hu : P.underlying t = some (.slice (P.elem t)) := by rw [hel]; exact ht
 obtain ⟨S, hS, hb, fin⟩ := (hM.drawn hq).opn hi
 obtain ⟨i0, hi0, _, hsz, _⟩ := info_parts hinfo
 have hcut := cut_from (P := P) t e .i64 ht hi0 d.sz hsz X xs.length c k h0 h1 W
 have hd := Kd.Q_drop (k := k.toNat) (hA W S hS) (by omega)
 refine wp_value (by unfold execOp; simp [ho, hx, hl, run_sliceAt_slice (h := hu), hcut]) (h _ (fin W _ S hd (fun q hq => ⟨.inl hq, (hb q hq).2⟩) ⟨rfl, rfl, rfl, Nat.le_refl _, fun _ _ _ => rfl⟩))
/-- xs[:k] of a row of the call's own. -/
theorem eT (i : Nat) (t e : TypeId) (d : Kd α) (x hi_ : Operand) (k : Int) (xs : List α) (X : Option Addr) (c : Nat) {z : Value} {bytes : Nat} (hM : Mem w0 F W0 N) (ho : o.op = .slice t x none (some hi_) none) (ht : P.underlying t = some (.slice e)) (hinfo : (P.info? e).map (fun i => (i.zero, i.size, i.bytes)) = some (some z, d.sz, bytes)) (hi : N[i]? = some (rowR d e (.slice X xs.length c) xs)) (h0 : 0 ≤ k) (h1 : k ≤ xs.length)
  (h : ∀ v1, Mem w0 F W (N.set i (rowR d e v1 (xs.take k.toNat))) → K (a.put o.dst v1) W) (hx : a.eval x = .slice X xs.length c := by first | rfl | (simp only [List.length_drop, List.length_take, List.length_append, List.length_set, List.length_cons, List.length_nil, Int.reduceToNat]; rfl)) (hl : a.eval hi_ = .int .i64 k := by rfl)
  (hq : Drawn0 W0 W := by repeat (first | exact Drawn0.refl _ | apply Drawn0.step)) : Oper.wp P o a W K Q := by
 have hel : P.elem t = e := by simp [Program.elem, ht]
 have hu : P.underlying t = some (.slice (P.elem t)) := by rw [hel]; exact ht
 obtain ⟨S, hS, hb, fin⟩ := (hM.drawn hq).opn hi
 obtain ⟨i0, hi0, _, hsz, _⟩ := info_parts hinfo
 have hR := Kd.R_reads' hS
 have hcut := cut_to (P := P) t e .i64 ht hi0 X xs.length c k h0 h1 hR.2.1 W
 have hd := Kd.R_take (m := k.toNat) hS (by omega)
 exact wp_value (by unfold execOp; simp [ho, hx, hl, run_sliceAt_slice (h := hu), hcut]) (h _ (fin W _ S hd (fun q hq => ⟨.inl hq, (hb q hq).2⟩) ⟨rfl, rfl, rfl, Nat.le_refl _, fun _ _ _ => rfl⟩))
/-- out[j].f = u of a row of the call's own: z0 is the kind's zero, cells what element j was before. -/
theorem eP (i : Nat) (p : Tmp) (j : Int) (off : Nat) (seg : List Value) (d : Kd α) (e : TypeId) (xs : List α) (x' z0 : α) (cells : List Value) {t : TypeId} {x : Operand} {g g2 n c o' : Nat} (hM : Mem w0 F W0 N) (ho : o.op = .store t (.tmp p) x) (hi : N[i]? = some A) (hA : ∀ w S, A.At w S → d.Q e w 0 S (.slice (some ⟨g, g2, none⟩) n c) xs) (B : SP) (hB : ∀ w S, d.Q e w 0 S (.slice (some ⟨g, g2, none⟩) n c) (xs.set j.toNat x') → A.At W S → B.At w S) (h0 : 0 ≤ j) (h1 : j < n)
  (hopn : ∀ ok cs, d.M W 0 ok (xs.getD j.toNat z0) cs → cs = cells) (hmk : d.M W 0 (fun _ => False) x' (cells.take off ++ seg ++ cells.drop (off + seg.length))) (h : ∀ w1, Mem w0 F w1 (N.set i B) → K a w1)
  (hp : a.eval (.tmp p) = .pointer (some ⟨g, o', none⟩) := by rfl) (hoff : o' = g2 + j.toNat * d.sz + off := by first | rfl | exact congrArg (g2 + ·) (Nat.mul_one _).symm) (hx : (a.eval x).cells.toList = seg := by first | rfl | (simp only [List.length_drop, List.length_take, List.length_append, List.length_set, List.length_cons, List.length_nil, Int.reduceToNat]; rfl)) (ht : (P.info? t).map (·.size) = some seg.length := by kernel_rfl) (hone : seg.all (·.oneCell') = true := by rfl) (hj : off + seg.length ≤ d.sz := by exact Nat.le_of_ble_eq_true rfl) (hN : o.dst = none := by rfl)
  (hq : Drawn0 W0 W := by repeat (first | exact Drawn0.refl _ | apply Drawn0.step)) : Oper.wp P o a W K Q := by
 subst hoff
 obtain ⟨S, hS, hb, fin⟩ := (hM.drawn hq).opn hi
 have hQ := hA W S hS
 obtain ⟨hn, hnc, _⟩ := Kd.Q_reads' hQ
 obtain ⟨cs, hcl, hMc, hcc, _⟩ := Kd.Q_elem hQ z0 j h0 h1
 obtain rfl := hopn _ cs hMc
 obtain ⟨hrow, hg⟩ := Kd.Q_seg hQ j h0 h1 hcl hcc hj hmk (fun _ hk => hk.elim)
 have hgS : S g := hQ.1 g rfl
 have hrun : (Instr.storeAt t (.pointer (some ⟨g, g2 + j.toNat * d.sz + off, none⟩)) (a.eval x)).run P W = .ok () (W.setCells g (g2 + j.toNat * d.sz + off) seg) := by
  obtain ⟨_, inner, ⟨_, hv | ⟨g', of, cap', cur, hv, _, hh, _, _, hcs, _⟩⟩, _⟩ := hQ
  ·have hn0 := hv.1
   omega
  injection hv with ha _ hc'
  injection ha with ha
  injection ha with hg' ho'
  subst hg'; subst hc'; subst ho'
  refine run_store_run t _ seg hh hx ht ?_ (fun q hq => List.all_eq_true.1 hone q hq)
  have h3 : j.toNat * d.sz + d.sz ≤ n * d.sz := by rw [← Nat.succ_mul]; exact Nat.mul_le_mul_right _ (by omega)
  have h4 : n * d.sz ≤ c * d.sz := Nat.mul_le_mul_right _ hnc
  have h5 : (of + c) * d.sz = of * d.sz + c * d.sz := Nat.add_mul _ _ _
  omega
 unfold Oper.wp execOp
 simp only [ho, hp, Sem.run_bind, Sem.run_pure, Result.andThen_ok, hrun]
 show K (a.put o.dst undef) _
 rw [hN]
 refine h _ (fin _ _ S (hB _ S hrow hS) (fun k hk => ⟨.inl hk, Nat.lt_of_lt_of_le (hb k hk).2 hg.size⟩) ((Chg.of_grown hg).wide (fun k hk => by injection hk with hk; exact hk ▸ hgS)))
theorem ePR (i : Nat) (p : Tmp) (j : Int) (off : Nat) (seg : List Value) (d : Kd α) (e : TypeId) (xs : List α) (x' z0 : α) (cells : List Value) {t : TypeId} {x : Operand} {g n c o' : Nat} (hM : Mem w0 F W0 N) (ho : o.op = .store t (.tmp p) x) (hi : N[i]? = some (rowR d e (.slice (some ⟨g, 0, none⟩) n c) xs)) (h0 : 0 ≤ j) (h1 : j < n)
  (hopn : ∀ ok cs, d.M W 0 ok (xs.getD j.toNat z0) cs → cs = cells) (hmk : d.M W 0 (fun _ => False) x' (cells.take off ++ seg ++ cells.drop (off + seg.length))) (h : ∀ w1, Mem w0 F w1 (N.set i (rowR d e (.slice (some ⟨g, 0, none⟩) n c) (xs.set j.toNat x'))) → K a w1)
  (hp : a.eval (.tmp p) = .pointer (some ⟨g, o', none⟩) := by rfl) (hoff : o' = j.toNat * d.sz + off := by first | rfl | exact (Nat.mul_one _).symm) (hx : (a.eval x).cells.toList = seg := by first | rfl | (simp only [List.length_drop, List.length_take, List.length_append, List.length_set, List.length_cons, List.length_nil, Int.reduceToNat]; rfl)) (ht : (P.info? t).map (·.size) = some seg.length := by kernel_rfl) (hone : seg.all (·.oneCell') = true := by rfl) (hj : off + seg.length ≤ d.sz := by exact Nat.le_of_ble_eq_true rfl) (hN : o.dst = none := by rfl) (hs0 : 0 < d.sz := by decide)
  (hq : Drawn0 W0 W := by repeat (first | exact Drawn0.refl _ | apply Drawn0.step)) : Oper.wp P o a W K Q :=
 eP i p j off seg d e xs x' z0 cells (g := g) (g2 := 0) (o' := o') hM ho hi (fun _ _ h => Kd.Q_of_R h) _ (fun w S hQ hR => R_of_Q0 hQ (by have := (Kd.R_reads' hR).2.1; omega) hs0) h0 h1 hopn hmk h hp (by rw [hoff, Nat.zero_add]) hx ht hone hj hN hq
theorem ePQ (i : Nat) (p : Tmp) (j : Int) (off : Nat) (seg : List Value) (d : Kd α) (e : TypeId) (xs : List α) (x' z0 : α) (cells : List Value) {t : TypeId} {x : Operand} {g g2 n c o' : Nat} (hM : Mem w0 F W0 N) (ho : o.op = .store t (.tmp p) x) (hi : N[i]? = some (row d e (.slice (some ⟨g, g2, none⟩) n c) xs)) (h0 : 0 ≤ j) (h1 : j < n)
  (hopn : ∀ ok cs, d.M W 0 ok (xs.getD j.toNat z0) cs → cs = cells) (hmk : d.M W 0 (fun _ => False) x' (cells.take off ++ seg ++ cells.drop (off + seg.length))) (h : ∀ w1, Mem w0 F w1 (N.set i (row d e (.slice (some ⟨g, g2, none⟩) n c) (xs.set j.toNat x'))) → K a w1)
  (hp : a.eval (.tmp p) = .pointer (some ⟨g, o', none⟩) := by rfl) (hoff : o' = g2 + j.toNat * d.sz + off := by first | rfl | exact congrArg (g2 + ·) (Nat.mul_one _).symm) (hx : (a.eval x).cells.toList = seg := by first | rfl | (simp only [List.length_drop, List.length_take, List.length_append, List.length_set, List.length_cons, List.length_nil, Int.reduceToNat]; rfl)) (ht : (P.info? t).map (·.size) = some seg.length := by kernel_rfl) (hone : seg.all (·.oneCell') = true := by rfl) (hj : off + seg.length ≤ d.sz := by exact Nat.le_of_ble_eq_true rfl) (hN : o.dst = none := by rfl)
  (hq : Drawn0 W0 W := by repeat (first | exact Drawn0.refl _ | apply Drawn0.step)) : Oper.wp P o a W K Q :=
 eP i p j off seg d e xs x' z0 cells (g := g) (g2 := g2) (o' := o') hM ho hi (fun _ _ h => h) _ (fun w S hQ hR => hQ) h0 h1 hopn hmk h hp hoff hx ht hone hj hN hq
-- P-FORMS: the same in a plain region
theorem pB (d : Tmp) (T : TypeId) (cs : List Value) (hM : Mem w0 F W0 N) (hd : o.dst = some d) (h : ∀ g w1, Mem w0 F w1 (N ++ [box T g cs]) → wpList P ops Q rest (a.put o.dst (.pointer (some ⟨g, 0, none⟩))) w1) (hq : Drawn0 W0 W := by repeat (first | exact Drawn0.refl _ | apply Drawn0.step)) (hrun : (execOp a.eval o).run P W = .ok (.value (.pointer (some ⟨W.heap.size, 0, none⟩))) (W.alloc (.cells cs.toArray T (0, 0))) := by first | (go_simp; done) | (go_simp; rfl)) (hg : Region.wanted o (yielded ops a.tmps) = true := by rfl) : wpList P ops Q (o :: rest) a W :=
 PL (fun K hK hw => eB d T cs hM hd (fun g w1 h0_ => hK _ _ (h g w1 h0_)) hq hrun) hg
theorem pL (d : Tmp) (kd : Kd α) (e : Nat) (xs : List α) (inner : List Value) (hrep : Reps (kd.M W 0 (fun _ => False)) kd.sz xs inner) (hM : Mem w0 F W0 N) (hd : o.dst = some d) (h : ∀ v w1, Mem w0 F w1 (N ++ [rowR kd e v xs]) → wpList P ops Q rest (a.put o.dst v) w1) (hq : Drawn0 W0 W := by repeat (first | exact Drawn0.refl _ | apply Drawn0.step)) (hm : xs.length ≤ 9223372036854775807 := by simp) (hrun : (execOp a.eval o).run P W = .ok (.value (.slice (some ⟨W.heap.size, 0, none⟩) xs.length xs.length)) (W.alloc (.cells inner.toArray e)) := by first | (go_simp; done) | (go_simp; rfl)) (hg : Region.wanted o (yielded ops a.tmps) = true := by rfl) : wpList P ops Q (o :: rest) a W :=
 PL (fun K hK hw => eL d kd e xs inner hrep hM hd (fun v w1 h0_ => hK _ _ (h v w1 h0_)) hq hm hrun) hg
theorem pA (i : Nat) (s x : Operand) (t e : TypeId) (d : Kd α) (v : Value) (xs ys : List α) (X : Option Addr) (m c : Nat) {Rr : α → List Value → Prop} {z : Value} {bytes : Nat} (hM : Mem w0 F W0 N) (ho : o.op = .call { callee := .builtin .append, args := #[s, x], argTypes := #[t, t] }) (ht : P.underlying t = some (.slice e)) (hinfo : (P.info? e).map (fun i => (i.zero, i.size, i.bytes)) = some (some z, d.sz, bytes)) (hi : N[i]? = some (rowR d e v xs)) (HR : ReadsRow Rr d.sz W X m ys) (hl : (xs.length + m) * bytes ≤ 140737488355328) (h : ∀ v1 w1, Mem w0 F w1 (N.set i (rowR d e v1 (xs ++ ys))) → wpList P ops Q rest (a.put o.dst v1) w1) (hq : Drawn0 W0 W := by repeat (first | exact Drawn0.refl _ | apply Drawn0.step)) (hKM : ∀ x cs, Rr x cs → d.M W 0 (fun _ => False) x cs := by exact fun _ _ h => h) (hs : a.eval s = v := by first | rfl | (simp only [List.length_drop, List.length_take, List.length_append, List.length_set, List.length_cons, List.length_nil, Int.reduceToNat]; rfl)) (hx : a.eval x = .slice X m c := by first | rfl | (simp only [List.length_drop, List.length_take, List.length_append, List.length_set, List.length_cons, List.length_nil, Int.reduceToNat]; rfl)) (hz : z.cells.size = d.sz := by rfl) (hs0 : 0 < d.sz := by decide) (hb0 : 0 < bytes := by omega) (hg : Region.wanted o (yielded ops a.tmps) = true := by rfl) : wpList P ops Q (o :: rest) a W :=
 PL (fun K hK hw => eA i s x t e d v xs ys X m c hw hM ho ht hinfo hi HR hl (fun v1 w1 h0_ => hK _ _ (h v1 w1 h0_)) hq hKM hs hx hz hs0 hb0) hg
theorem pS (i : Nat) (p : Tmp) (off : Nat) (seg : List Value) {T g : Nat} {cs : List Value} {t : TypeId} {x : Operand} (hM : Mem w0 F W0 N) (ho : o.op = .store t (.tmp p) x) (hi : N[i]? = some (box T g cs)) (h : ∀ w1, Mem w0 F w1 (N.set i (box T g (putAt cs off seg))) → wpList P ops Q rest a w1) (hfit : (decide (off + seg.length ≤ cs.length) && seg.all (·.oneCell')) = true := by rfl) (hp : a.eval (.tmp p) = .pointer (some ⟨g, off, none⟩) := by rfl) (hx : (a.eval x).cells.toList = seg := by first | rfl | (simp only [List.length_drop, List.length_take, List.length_append, List.length_set, List.length_cons, List.length_nil, Int.reduceToNat]; rfl)) (ht : (P.info? t).map (·.size) = some seg.length := by kernel_rfl) (hN : o.dst = none := by rfl) (hq : Drawn0 W0 W := by repeat (first | exact Drawn0.refl _ | apply Drawn0.step)) (hg : Region.wanted o (yielded ops a.tmps) = true := by rfl) : wpList P ops Q (o :: rest) a W :=
 PL (fun K hK hw => eS i p off seg hM ho hi (fun w1 h0_ => hK _ _ (h w1 h0_)) hfit hp hx ht hN hq) hg
theorem pC {f : FuncId} {fn : Func} {as_ : Array Operand} {ts : Array TypeId} {R : Ending → World → Prop} (dd : Option Tmp) (hd : o.dst = dd) (args : Array Value) (hop : o.op = .call { callee := .value (.func f), args := as_, argTypes := ts }) (hf : P.funcs[f]? = some fn) (hc : Calls P f args W R) (h : ∀ e w', R e w' → ∃ v, e = .returned v ∧ wpList P ops Q rest (a.put dd v) w') (hargs : as_.map a.eval = args := by (try simp only [List.map_toArray, List.map_cons, List.map_nil]); first | done | rfl | (simp only [List.length_drop, List.length_take, List.length_append, List.length_set, List.length_cons, List.length_nil, Nat.zero_add, Int.reduceToNat]; done) | (simp only [List.length_drop, List.length_take, List.length_append, List.length_set, List.length_cons, List.length_nil, Nat.zero_add, Int.reduceToNat]; rfl)) (hname : (fn.name == "runtime.NumGoroutine") = false := by kernel_rfl) (hb : fn.body.isSome = true := by rfl) (hg : Region.wanted o (yielded ops a.tmps) = true := by rfl) : wpList P ops Q (o :: rest) a W :=
 PL (fun K hK hw => eC dd hd args hop hf hc (fun e w' hR => (h e w' hR).imp (fun v hv => ⟨hv.1, hK _ _ hv.2⟩)) hargs hname hb) hg
theorem pD (i : Nat) (t e : TypeId) (d : Kd α) (x lo : Operand) (k : Int) (xs : List α) (X : Option Addr) (c : Nat) {z : Value} {bytes : Nat} (hM : Mem w0 F W0 N) (ho : o.op = .slice t x (some lo) none none) (ht : P.underlying t = some (.slice e)) (hinfo : (P.info? e).map (fun i => (i.zero, i.size, i.bytes)) = some (some z, d.sz, bytes)) (hi : N[i]? = some A) (hA : ∀ w S, A.At w S → d.Q e w 0 S (.slice X xs.length c) xs) (h0 : 0 ≤ k) (h1 : k ≤ xs.length) (h : ∀ v1, Mem w0 F W (N.set i (row d e v1 (xs.drop k.toNat))) → wpList P ops Q rest (a.put o.dst v1) W) (hx : a.eval x = .slice X xs.length c := by first | rfl | (simp only [List.length_drop, List.length_take, List.length_append, List.length_set, List.length_cons, List.length_nil, Int.reduceToNat]; rfl)) (hl : a.eval lo = .int .i64 k := by rfl) (hq : Drawn0 W0 W := by repeat (first | exact Drawn0.refl _ | apply Drawn0.step)) (hg : Region.wanted o (yielded ops a.tmps) = true := by rfl) : wpList P ops Q (o :: rest) a W :=
 PL (fun K hK hw => eD i t e d x lo k xs X c hM ho ht hinfo hi hA h0 h1 (fun v1 h0_ => hK _ _ (h v1 h0_)) hx hl hq) hg
theorem pT (i : Nat) (t e : TypeId) (d : Kd α) (x hi_ : Operand) (k : Int) (xs : List α) (X : Option Addr) (c : Nat) {z : Value} {bytes : Nat} (hM : Mem w0 F W0 N) (ho : o.op = .slice t x none (some hi_) none) (ht : P.underlying t = some (.slice e)) (hinfo : (P.info? e).map (fun i => (i.zero, i.size, i.bytes)) = some (some z, d.sz, bytes)) (hi : N[i]? = some (rowR d e (.slice X xs.length c) xs)) (h0 : 0 ≤ k) (h1 : k ≤ xs.length) (h : ∀ v1, Mem w0 F W (N.set i (rowR d e v1 (xs.take k.toNat))) → wpList P ops Q rest (a.put o.dst v1) W) (hx : a.eval x = .slice X xs.length c := by first | rfl | (simp only [List.length_drop, List.length_take, List.length_append, List.length_set, List.length_cons, List.length_nil, Int.reduceToNat]; rfl)) (hl : a.eval hi_ = .int .i64 k := by rfl) (hq : Drawn0 W0 W := by repeat (first | exact Drawn0.refl _ | apply Drawn0.step)) (hg : Region.wanted o (yielded ops a.tmps) = true := by rfl) : wpList P ops Q (o :: rest) a W :=
 PL (fun K hK hw => eT i t e d x hi_ k xs X c hM ho ht hinfo hi h0 h1 (fun v1 h0_ => hK _ _ (h v1 h0_)) hx hl hq) hg
theorem pPR (i : Nat) (p : Tmp) (j : Int) (off : Nat) (seg : List Value) (d : Kd α) (e : TypeId) (xs : List α) (x' z0 : α) (cells : List Value) {t : TypeId} {x : Operand} {g n c o' : Nat} (hM : Mem w0 F W0 N) (ho : o.op = .store t (.tmp p) x) (hi : N[i]? = some (rowR d e (.slice (some ⟨g, 0, none⟩) n c) xs)) (h0 : 0 ≤ j) (h1 : j < n) (hopn : ∀ ok cs, d.M W 0 ok (xs.getD j.toNat z0) cs → cs = cells) (hmk : d.M W 0 (fun _ => False) x' (cells.take off ++ seg ++ cells.drop (off + seg.length))) (h : ∀ w1, Mem w0 F w1 (N.set i (rowR d e (.slice (some ⟨g, 0, none⟩) n c) (xs.set j.toNat x'))) → wpList P ops Q rest a w1) (hp : a.eval (.tmp p) = .pointer (some ⟨g, o', none⟩) := by rfl) (hoff : o' = j.toNat * d.sz + off := by first | rfl | exact (Nat.mul_one _).symm) (hx : (a.eval x).cells.toList = seg := by first | rfl | (simp only [List.length_drop, List.length_take, List.length_append, List.length_set, List.length_cons, List.length_nil, Int.reduceToNat]; rfl)) (ht : (P.info? t).map (·.size) = some seg.length := by kernel_rfl) (hone : seg.all (·.oneCell') = true := by rfl) (hj : off + seg.length ≤ d.sz := by exact Nat.le_of_ble_eq_true rfl) (hN : o.dst = none := by rfl) (hs0 : 0 < d.sz := by decide) (hq : Drawn0 W0 W := by repeat (first | exact Drawn0.refl _ | apply Drawn0.step)) (hg : Region.wanted o (yielded ops a.tmps) = true := by rfl) : wpList P ops Q (o :: rest) a W :=
 PL (fun K hK hw => ePR i p j off seg d e xs x' z0 cells hM ho hi h0 h1 hopn hmk (fun w1 h0_ => hK _ _ (h w1 h0_)) hp hoff hx ht hone hj hN hs0 hq) hg
theorem pPQ (i : Nat) (p : Tmp) (j : Int) (off : Nat) (seg : List Value) (d : Kd α) (e : TypeId) (xs : List α) (x' z0 : α) (cells : List Value) {t : TypeId} {x : Operand} {g g2 n c o' : Nat} (hM : Mem w0 F W0 N) (ho : o.op = .store t (.tmp p) x) (hi : N[i]? = some (row d e (.slice (some ⟨g, g2, none⟩) n c) xs)) (h0 : 0 ≤ j) (h1 : j < n) (hopn : ∀ ok cs, d.M W 0 ok (xs.getD j.toNat z0) cs → cs = cells) (hmk : d.M W 0 (fun _ => False) x' (cells.take off ++ seg ++ cells.drop (off + seg.length))) (h : ∀ w1, Mem w0 F w1 (N.set i (row d e (.slice (some ⟨g, g2, none⟩) n c) (xs.set j.toNat x'))) → wpList P ops Q rest a w1) (hp : a.eval (.tmp p) = .pointer (some ⟨g, o', none⟩) := by rfl) (hoff : o' = g2 + j.toNat * d.sz + off := by first | rfl | exact congrArg (g2 + ·) (Nat.mul_one _).symm) (hx : (a.eval x).cells.toList = seg := by first | rfl | (simp only [List.length_drop, List.length_take, List.length_append, List.length_set, List.length_cons, List.length_nil, Int.reduceToNat]; rfl)) (ht : (P.info? t).map (·.size) = some seg.length := by kernel_rfl) (hone : seg.all (·.oneCell') = true := by rfl) (hj : off + seg.length ≤ d.sz := by exact Nat.le_of_ble_eq_true rfl) (hN : o.dst = none := by rfl) (hq : Drawn0 W0 W := by repeat (first | exact Drawn0.refl _ | apply Drawn0.step)) (hg : Region.wanted o (yielded ops a.tmps) = true := by rfl) : wpList P ops Q (o :: rest) a W :=
 PL (fun K hK hw => ePQ i p j off seg d e xs x' z0 cells hM ho hi h0 h1 hopn hmk (fun w1 h0_ => hK _ _ (h w1 h0_)) hp hoff hx ht hone hj hN hq) hg
-- the pure function's own steps
/-- The next operation calls this function, writes this variable, stores by this address. -/
theorem gC {as_ : Array Operand} {ts : Array TypeId} (f : FuncId) (_ho : o.op = .call { callee := .value (.func f), args := as_, argTypes := ts }) (h : wpList P ops Q (o :: rest) a W) : wpList P ops Q (o :: rest) a W := h
theorem gN (N : Tmp) (_ho : o.dst = some N) (h : wpList P ops Q (o :: rest) a W) : wpList P ops Q (o :: rest) a W := h
theorem gS {t : TypeId} {x : Operand} (p : Tmp) (_ho : o.op = .store t (.tmp p) x) (h : wpList P ops Q (o :: rest) a W) : wpList P ops Q (o :: rest) a W := h
theorem gate_sl {t : TypeId} {x : Operand} {lo hi mx : Option Operand} (_ho : o.op = .slice t x lo hi mx) (h : wpList P ops Q (o :: rest) a W) : wpList P ops Q (o :: rest) a W := h
/-- What is held, as_ one plain list. -/
theorem nzM {M : List SP} {w : World} (h : Mem w0 F w N) (hN : N = M := by (try dsimp only [pk, List.getElem?_cons_zero, List.getElem?_cons_succ, List.nil_append, List.cons_append, List.set_cons_zero, List.set_cons_succ, putAt, List.take_zero, List.take_succ_cons, List.drop_succ_cons, List.drop_nil, List.drop_zero, List.length_cons, List.length_nil, Nat.reduceAdd]); (try rfl)) : Mem w0 F w M := hN ▸ h
/-- What is held, some orders having been drawn since. -/
theorem MD (h : Mem w0 F W0 N) (hq : Drawn0 W0 W := by repeat (first | exact Drawn0.refl _ | apply Drawn0.step)) : Mem w0 F W N := h.drawn hq
theorem GD {β : Type} {p : Prop} {i : Decidable p} {x : Option β} {r : β} (h : @ite (Option β) p i x none = some r) : p ∧ x = some r := by
 by_cases c : p
 ·rw [if_pos c] at h; exact ⟨c, h⟩
 ·rw [if_neg c] at h; cases h
theorem GN {β : Type} {p : Prop} {i : Decidable p} {x : Option β} {r : β} (h : @ite (Option β) p i none x = some r) : ¬ p ∧ x = some r := by
 by_cases c : p
 ·rw [if_pos c] at h; cases h
 ·rw [if_neg c] at h; exact ⟨c, h⟩
theorem IT {β : Type} {p : Prop} {i : Decidable p} {x y : Option β} {r : β} (h : @ite (Option β) p i x y = some r) : (p ∧ x = some r) ∨ (¬ p ∧ y = some r) := by
 by_cases c : p
 ·rw [if_pos c] at h; exact .inl ⟨c, h⟩
 ·rw [if_neg c] at h; exact .inr ⟨c, h⟩
theorem IB {β : Type} {b : Bool} {i : Decidable (b = true)} {x y : Option β} {r : β} (h : @ite (Option β) (b = true) i x y = some r) : (b = true ∧ x = some r) ∨ (b = false ∧ y = some r) := by
 cases b
 ·rw [if_neg Bool.false_ne_true] at h; exact .inr ⟨rfl, h⟩
 ·rw [if_pos rfl] at h; exact .inl ⟨rfl, h⟩
theorem BN {β γ : Type} {x : Option β} {g : β → Option γ} {r : γ} (h : x.bind g = some r) : ∃ t, Aside0 (x = some t) ∧ g t = some r := by
 obtain ⟨t, h1, h2⟩ := Option.bind_eq_some_iff.mp h
 exact ⟨t, ⟨h1⟩, h2⟩
theorem BE {β : Type} [BEq β] [LawfulBEq β] {x y : β} (h : x = y) : (x == y) = true ∧ (x != y) = false := ⟨beq_iff_eq.mpr h, bne_eq_false_iff_eq.mpr h⟩
theorem BF {β : Type} [BEq β] [LawfulBEq β] {x y : β} (h : ¬ x = y) : (x == y) = false ∧ (x != y) = true := ⟨beq_eq_false_iff_ne.mpr h, bne_iff_ne.mpr h⟩
theorem BLt {β γ : Type} {e : β} {g : β → Option γ} {r : γ} (h : (some e).bind g = some r) : ∃ y, y = e ∧ g y = some r := ⟨e, rfl, h⟩
end
end Go.Proofs.Ythnedklbobbkcaa.Mm

namespace Go.Proofs.Ythnedklbobbkcaa.Mm
open Go.RowKit Go.Proofs.YthnedklbobbkcaaW.PrintWords Go.Proofs.YthnedklbobbkcaaW.PrintLast Go.Proofs.YthnedklbobbkcaaW.PrintMore Go.Proofs.Ythnedklbobbkcaa.Sh
set_option linter.unusedVariables false
def vs (c : Bool) (x y : Value) : Value := match c with
 | true => x
 | false => y
section
variable {P : Program} {ops : Array Oper} {o og : Oper} {a a0 : Act} {Q : Exit → Act → World → Prop} {K : Act → World → Prop} {w0 w w' W W0 : World} {F N L R M : List SP} {A B : SP} {c : Bool} {b : Nat → Bool} {i j g : Nat} {t : Tmp} {u v v0 : Value} {LL LL' : List (Nat × Tmp × Value)}
theorem Mem.sT (h : Mem w0 F w N) (q : Nat) (hi : N[q]? = some (sel c A B)) (hc : c = true) : Mem w0 F w (N.set q A) := by
 subst hc
 exact h.tell hi A (fun _ h => h)
theorem Mem.sF (h : Mem w0 F w N) (q : Nat) (hi : N[q]? = some (sel c A B)) (hc : c = false) : Mem w0 F w (N.set q B) := by
 subst hc
 exact h.tell hi B (fun _ h => h)
theorem evc : a.eval (.const v) = v := rfl
/-- A slot of a listed operation; of one that no operation fills; the next entry. -/
theorem PON (ha : a = putSel a0 b LL) (k : Nat) (hb : b j = true) (hL : LL[k]? = some (j, t, v) := by rfl) (hd : ((LL.drop (k + 1)).all fun x => !(x.2.1 == t)) = true := by rfl) (hs : Nat.ble (t + 1) a0.tmps.size = true := by rfl) : a.tmps[t]? = some v := by
 subst ha
 exact putSel_on k hL hd hb hs
theorem POF (ha : a = putSel a0 b LL) (t : Tmp) (h0 : a0.tmps[t]? = some v := by rfl) (hL : (LL.all fun e => !(e.2.1 == t)) = true := by rfl) : a.tmps[t]? = some v := by
 subst ha
 exact (putSel_off hL).trans h0
theorem PUT (ha : Aside0 (a = putSel a0 b LL)) (k : Nat) (hb : b i = false) (hL : LL[k]? = some (i, t, v0) := by rfl) (hL' : LL.set k (i, t, v) = LL' := by rfl) (hd : ((LL.take k ++ LL.drop (k + 1)).all fun e => !(e.1 == i) && !(e.2.1 == t)) = true := by rfl) : a.put (some t) v = putSel a0 (up b i) LL' := by
 obtain ⟨rfl⟩ := ha
 exact putSel_upk k hb hL hL' hd
theorem PUS (ha : Aside0 (a = putSel a0 b LL)) (h : (LL.all fun e => !(e.1 == i)) = true := by rfl) : a = putSel a0 (up b i) LL := by
 obtain ⟨rfl⟩ := ha
 exact (putSel_same h).symm
/-- One step of the relation, told apart; slots read out of it. -/
theorem SY {i : Nat} {oi : Oper} {B O rs : List Nat} {Y : (Nat → Bool) → World → Prop} (h : ∀ b a w, Aside0 (a = putSel a0 b LL) → Y b w → b i = false → (∀ j, (O.contains j && (B.getD i 0).testBit j) = true → b j = true) → (∀ d, (O.contains d && (B.getD d 0).testBit i) = true → b d = false) → ∀ K : Act → World → Prop, Shut (∀ a' w', (a' = putSel a0 (up b i) LL ∧ Y (up b i) w') → K a' w') → if Region.wanted oi (yielded ops a.tmps) = true then Oper.wp P oi a w K Q else K (a.put oi.dst undef) w)
  (hs : ∀ j ∈ rs, StepAt P ops Q B O (fun b a' w' => a' = putSel a0 b LL ∧ Y b w') j) (ho : ops[i]? = some oi := by rfl) : ∀ j ∈ i :: rs, StepAt P ops Q B O (fun b a' w' => a' = putSel a0 b LL ∧ Y b w') j :=
 steps_cons (fun b a w hI hb hon hoff => ⟨oi, ho, fun K hK => h b a w (Aside0.mk hI.1) hI.2 hb hon hoff K hK⟩) hs
theorem PE {B O : List Nat} (ha : Aside0 (a = putSel a0 b LL)) (k : Nat) (hon : ∀ j, (O.contains j && (B.getD i 0).testBit j) = true → b j = true) (hL : LL[k]? = some (j, t, v) := by rfl) (hm : (O.contains j && (B.getD i 0).testBit j) = true := by kernel_rfl) (hd : ((LL.drop (k + 1)).all fun x => !(x.2.1 == t)) = true := by rfl) (hs : Nat.ble (t + 1) a0.tmps.size = true := by rfl) : a.tmps[t]? = some v := PON ha.out k (hon j hm) hL hd hs
theorem PG (ha : Aside0 (a = putSel a0 b LL)) (t : Tmp) (h0 : a0.tmps[t]? = some v := by rfl) (hL : (LL.all fun e => !(e.2.1 == t)) = true := by rfl) : a.tmps[t]? = some v := POF ha.out t h0 hL
/-- A step that yields a value, the world unchanged. -/
theorem VL (v : Value) (h : K (a.put o.dst v) W) (hrun : (execOp a.eval o).run P W = .ok (.value v) W := by first | (go_simp; done) | (go_simp; rfl) | (go_simp; simp only [i64_w]; done) | (go_simp; simp only [i64_w]; rfl) | (go_simp; simp only [bne, Bool.not_not])) (hw : Region.wanted o (yielded ops a.tmps) = true := by rfl) : if Region.wanted o (yielded ops a.tmps) = true then Oper.wp P o a W K Q else K (a.put o.dst undef) W := ST (wp_value hrun h) hw
/-- What is listed, of the region's operations alone. -/
def inN (n : Nat) (b : Nat → Bool) : Nat → Bool := fun j => decide (n ≤ j) || b j
theorem inN_lt {n : Nat} (h : j < n) : inN n b j = b j := by simp [inN, Nat.not_le.2 h]
theorem inN_up {n : Nat} : inN n (up b i) = up (inN n b) i := by
 funext j
 unfold inN up
 by_cases h : j = i
 ·simp [h]
 ·simp [h]
theorem inN_all {n : Nat} (h : ∀ j, (List.range n).contains j = true → b j = true) : inN n b = fun _ => true := by
 funext j
 by_cases hj : j < n
 ·rw [inN_lt hj]
  exact h j (by simpa using hj)
 ·simp [inN, Nat.not_lt.1 hj]
theorem PS0' {n : Nat} (hn : (LL.all fun e => decide (e.1 < n)) = true) (a : Act) : a = putSel a (inN n fun _ => false) LL := by
 induction LL generalizing a with
 | nil => rfl
 | cons e r ih =>
  rw [List.all_cons, Bool.and_eq_true, decide_eq_true_eq] at hn
  unfold putSel
  rw [inN_lt hn.1, if_neg (by decide)]
  exact ih hn.2 a
/-- The region, all its operations in one relation. -/
theorem RGN {id : Nat} {T : Bool × List (List Nat × List Nat)} {B : List Nat} (n : Nat) (O : List Nat) (I : Act → (Nat → Bool) → Act → World → Prop) (hT : rtab .any ops = T) (hw : waitsOk T.2 B = true) (h0 : I a (inN n fun _ => false) a w.drew) (hs : ∀ i ∈ O, StepAt P ops Q B O (I a) i)
  (hend : ∀ a' w, I a (fun _ => true) a' w → Q .normal a' w) (hn : ops.size = n := by rfl) (hO : O = List.range n := by rfl) (hk : baseOk T.2 (List.range n) = true := by kernel_rfl) (hl : (lof T.2.length (List.range n) (fun _ => false) == List.replicate n false && (List.range n).length == n) = true := by kernel_rfl) (hm : P.follows .mixedOrders = true := by kernel_rfl) : (Code.region id ops true).wp P Q a w := by
 subst hO
 refine start_ (S := fun _ => True) (ds := []) (Array.replicate n false) hm hn rfl trivial (fun _ => inv_at (List.range n) (fun a0 b => I a0 (inN n b)) hT hw hk (by simpa using hl) h0 ?_ ?_)
 ·intro i hi b a' w' hI hb hon hoff
  have hi' : i < n := List.mem_range.1 hi
  obtain ⟨oi, ho, hK⟩ := hs i hi (inN n b) a' w' hI (by rw [inN_lt hi']; exact hb) (fun j hj => by
   have hl : j < n := by rw [Bool.and_eq_true] at hj; simpa using hj.1
   rw [inN_lt hl]; exact hon j hj) (fun d hd => by
   have hl : d < n := by rw [Bool.and_eq_true] at hd; simpa using hd.1
   rw [inN_lt hl]; exact hoff d hd)
  refine ⟨oi, ho, fun K hKK => hK K ?_⟩
  have hKK : Shut (∀ a' w', I a (inN n (up b i)) a' w' → K a' w') := hKK
  rw [inN_up] at hKK
  exact hKK
 ·intro b a' w' hall hI
  rw [inN_all hall] at hI
  exact hend a' w' hI
end
end Go.Proofs.Ythnedklbobbkcaa.Mm

namespace Go.Proofs.Ythnedklbobbkcaa.Mm
open Go.RowKit Go.Proofs.YthnedklbobbkcaaW.PrintWords Go.Proofs.YthnedklbobbkcaaW.PrintLast Go.Proofs.YthnedklbobbkcaaW.PrintMore Go.Proofs.Ythnedklbobbkcaa.Sh
set_option linter.unusedVariables false
section
variable {P : Program} {ops : Array Oper} {rest : List Oper} {o : Oper} {a : Act} {Q : Exit → Act → World → Prop} {K : Act → World → Prop} {w0 W W0 : World} {F N L : List SP} {A : SP} {α : Type}
-- cuts that are read at later worlds, too
theorem eRdf (t e : TypeId) (d : Kd α) (x lo : Operand) (k : Int) (xs : List α) (X : Option Addr) (c : Nat) {z : Value} {bytes : Nat} (ho : o.op = .slice t x (some lo) none none) (ht : P.underlying t = some (.slice e)) (hinfo : (P.info? e).map (fun i => (i.zero, i.size, i.bytes)) = some (some z, d.sz, bytes)) (hc : xs.length ≤ c) (h0 : 0 ≤ k) (h1 : k ≤ xs.length)
  (h : ∀ X' c', (∀ W', d.C W' X xs.length xs → d.C W' X' (xs.drop k.toNat).length (xs.drop k.toNat)) → (xs.drop k.toNat).length ≤ c' → K (a.put o.dst (.slice X' (xs.drop k.toNat).length c')) W) (hx : a.eval x = .slice X xs.length c := by first | rfl | (simp only [List.length_drop, List.length_take, List.length_append, List.length_set, List.length_cons, List.length_nil, Int.reduceToNat]; rfl)) (hl : a.eval lo = .int .i64 k := by rfl) : Oper.wp P o a W K Q := by
 have hel : P.elem t = e := by simp [Program.elem, ht]
 have hu : P.underlying t = some (.slice (P.elem t)) := by rw [hel]; exact ht
 obtain ⟨i0, hi0, _, hsz, _⟩ := info_parts hinfo
 have hcut := cut_from (P := P) t e .i64 ht hi0 d.sz hsz X xs.length c k h0 h1 W
 have hl2 : (xs.drop k.toNat).length = xs.length - k.toNat := List.length_drop
 refine wp_value (v := .slice (if c = k.toNat then X else X.map (·.add (k.toNat * d.sz))) (xs.drop k.toNat).length (c - k.toNat)) (by rw [hl2]; unfold execOp; simp [ho, hx, hl, run_sliceAt_slice (h := hu), hcut]) (h _ _ (fun _ h_ => Kd.C_drop (m := k.toNat) h_ (by omega) hc) (by omega))
theorem pRdf (t e : TypeId) (d : Kd α) (x lo : Operand) (k : Int) (xs : List α) (X : Option Addr) (c : Nat) {z : Value} {bytes : Nat} (ho : o.op = .slice t x (some lo) none none) (ht : P.underlying t = some (.slice e)) (hinfo : (P.info? e).map (fun i => (i.zero, i.size, i.bytes)) = some (some z, d.sz, bytes)) (hc : xs.length ≤ c) (h0 : 0 ≤ k) (h1 : k ≤ xs.length) (h : ∀ X' c', (∀ W', d.C W' X xs.length xs → d.C W' X' (xs.drop k.toNat).length (xs.drop k.toNat)) → (xs.drop k.toNat).length ≤ c' → wpList P ops Q rest (a.put o.dst (.slice X' (xs.drop k.toNat).length c')) W) (hx : a.eval x = .slice X xs.length c := by first | rfl | (simp only [List.length_drop, List.length_take, List.length_append, List.length_set, List.length_cons, List.length_nil, Int.reduceToNat]; rfl)) (hl : a.eval lo = .int .i64 k := by rfl) (hg : Region.wanted o (yielded ops a.tmps) = true := by rfl) : wpList P ops Q (o :: rest) a W :=
 PL (fun K hK hw => eRdf t e d x lo k xs X c ho ht hinfo hc h0 h1 (fun X' c' h0_ h1_ => hK _ _ (h X' c' h0_ h1_)) hx hl) hg
end
end Go.Proofs.Ythnedklbobbkcaa.Mm

namespace Go.Proofs.Ythnedklbobbkcaa.Mm
open Go.RowKit Go.Proofs.YthnedklbobbkcaaW.PrintWords Go.Proofs.YthnedklbobbkcaaW.PrintLast Go.Proofs.YthnedklbobbkcaaW.PrintMore Go.Proofs.Ythnedklbobbkcaa.Sh
set_option linter.unusedVariables false
/-- A row told by its cells alone. -/
def rawK (n : Nat) : Kd (List Value) where
 sz := n
 E := []
 K := fun _ x cs => cs = x ∧ x.length = n ∧ x.all (·.oneCell') = true
 M := fun _ _ _ x cs => cs = x ∧ x.length = n ∧ x.all (·.oneCell') = true
 K_len := fun h => by rw [h.1]; exact h.2.1
 K_one := fun h u hu => List.all_eq_true.1 h.2.2 u (h.1 ▸ hu)
 K_below := fun _ h => h
 K_of_M := fun h => h
 M_mono := fun _ h => h
 M_bound := fun h => h
 M_move := fun _ h => h
 M_lower := fun _ h => h
/-- An element's kind: its cells, given its rows' values; its rows, as_ things that are held. -/
structure KR (α : Type) where
 kd : Kd α
 cells : α → List Value → List Value
 sps : α → List Value → List SP
 rd : ∀ (w : World) (x : α) (vs : List Value), (∀ A ∈ sps x vs, ∃ S, A.At w S) → kd.K w x (cells x vs)
/-- Things each with blocks of their own, as_ one thing. -/
def nest (L : List SP) : SP := ⟨fun w S => ∃ T : Nat → Nat → Prop, (∀ (i : Nat) (A : SP), L[i]? = some A → A.At w (T i)) ∧ (∀ i k, T i k → S k) ∧ (∀ i j k, T i k → T j k → i = j), by
 rintro w w' S ⟨T, h1, h2, h3⟩ hm
 exact ⟨T, fun i A hA => A.loc (h1 i A hA) (fun k hk => hm k (h2 i k hk)), h2, h3⟩⟩
section
variable {w0 w w' : World} {F N M L R : List SP} {A B : SP} {i j : Nat} {S S' : Nat → Prop}
theorem nest_nil (w : World) (S : Nat → Prop) : (nest []).At w S := ⟨fun _ _ => False, fun i A h => by simp at h, fun _ _ h => h.elim, fun _ _ _ h => h.elim⟩
theorem nest_mono (h : (nest L).At w S) (hs : ∀ k, S k → S' k) : (nest L).At w S' := by
 obtain ⟨T, h1, h2, h3⟩ := h
 exact ⟨T, h1, fun i k hk => hs k (h2 i k hk), h3⟩
def two (P Q : (Nat → Prop) → Prop) (S : Nat → Prop) : Prop := ∃ S1 S2, P S1 ∧ Q S2 ∧ (∀ k, S1 k → S k) ∧ (∀ k, S2 k → S k) ∧ ∀ k, S1 k → S2 k → False
theorem nest_cons : (nest (A :: L)).At w S ↔ two (A.At w) ((nest L).At w) S := by
 constructor
 ·rintro ⟨T, h1, h2, h3⟩
  refine ⟨T 0, fun k => ∃ i, T (i + 1) k, h1 0 A rfl, ⟨fun i => T (i + 1), fun i B hB => h1 (i + 1) B hB, fun i k hk => ⟨i, hk⟩, fun i j k hi hj => by have := h3 _ _ k hi hj; omega⟩, h2 0, fun k ⟨i, hk⟩ => h2 _ k hk, fun k h0 ⟨i, hk⟩ => by have := h3 _ _ k h0 hk; omega⟩
 ·rintro ⟨S1, S2, hA, ⟨T, h1, h2, h3⟩, s1, s2, hd⟩
  refine ⟨fun q => match q with | 0 => S1 | i + 1 => T i, fun q B hB => ?_, fun q k hk => ?_, fun q p k hq hp => ?_⟩
  ·cases q with
   | zero =>
    obtain rfl : A = B := by simpa using hB
    exact hA
   | succ q =>
    exact h1 q B hB
  ·cases q with
   | zero =>
    exact s1 k hk
   | succ q =>
    exact s2 k (h2 q k hk)
  ·cases q with
   | zero =>
    cases p with
    | zero =>
     rfl
    | succ p =>
     exact (hd k hq (h2 p k hp)).elim
   | succ q =>
    cases p with
    | zero =>
     exact (hd k hp (h2 q k hq)).elim
    | succ p =>
     have := h3 _ _ k hq hp
     omega
theorem nest_append : ∀ {L M : List SP} {S : Nat → Prop}, (nest (L ++ M)).At w S ↔ two ((nest L).At w) ((nest M).At w) S
 | [], M, S => by
  constructor
  ·intro h
   exact ⟨fun _ => False, S, nest_nil _ _, h, fun _ h => h.elim, fun _ h => h, fun _ h _ => h⟩
  ·rintro ⟨S1, S2, _, h, _, s2, _⟩
   exact nest_mono h s2
 | A :: L, M, S => by
  rw [List.cons_append, nest_cons]
  constructor
  ·rintro ⟨S1, S2, hA, h, s1, s2, hd⟩
   obtain ⟨S3, S4, h3, h4, s3, s4, hd2⟩ := nest_append.1 h
   refine ⟨fun k => S1 k ∨ S3 k, S4, nest_cons.2 ⟨S1, S3, hA, h3, fun k hk => .inl hk, fun k hk => .inr hk, fun k a b => hd k a (s3 k b)⟩, h4, fun k hk => hk.elim (s1 k) (fun q => s2 k (s3 k q)), fun k hk => s2 k (s4 k hk), fun k hk h4 => hk.elim (fun q => hd k q (s4 k h4)) (fun q => hd2 k q h4)⟩
  ·rintro ⟨S1, S2, h, hM, s1, s2, hd⟩
   obtain ⟨S3, S4, hA, h4, s3, s4, hd2⟩ := nest_cons.1 h
   exact ⟨S3, fun k => S4 k ∨ S2 k, hA, nest_append.2 ⟨S4, S2, h4, hM, fun k hk => .inl hk, fun k hk => .inr hk, fun k a b => hd k (s4 k a) b⟩, fun k hk => s1 k (s3 k hk), fun k hk => hk.elim (fun q => s1 k (s4 k q)) (s2 k), fun k a hk => hk.elim (hd2 k a) (fun q => hd k (s3 k a) q)⟩
theorem nest_one (h : A.At w S) : (nest [A]).At w S := nest_cons.2 ⟨S, fun _ => False, h, nest_nil _ _, fun _ h => h, fun _ h => h.elim, fun _ _ h => h⟩
theorem nest_at (h : (nest L).At w S) : ∀ A ∈ L, ∃ S', A.At w S' := by
 obtain ⟨T, h1, _, _⟩ := h
 intro A hA
 obtain ⟨i, hi, rfl⟩ := List.getElem_of_mem hA
 exact ⟨T i, h1 i _ (List.getElem?_eq_getElem hi)⟩
/-- Things in another order. -/
theorem nest_swap (h : (nest (L ++ M ++ R)).At w S) : (nest (M ++ (L ++ R))).At w S := by
 obtain ⟨S1, S2, h1, h2, s1, s2, hd⟩ := nest_append.1 h
 obtain ⟨S3, S4, h3, h4, s3, s4, hd2⟩ := nest_append.1 h1
 exact nest_append.2 ⟨S4, fun k => S3 k ∨ S2 k, h4, nest_append.2 ⟨S3, S2, h3, h2, fun k hk => .inl hk, fun k hk => .inr hk, fun k a b => hd k (s3 k a) b⟩, fun k hk => s1 k (s4 k hk), fun k hk => hk.elim (fun q => s1 k (s3 k q)) (s2 k), fun k a hk => hk.elim (fun q => hd2 k q a) (fun q => hd k (s4 k a) q)⟩
theorem nest_back (h : (nest (M ++ (L ++ R))).At w S) : (nest (L ++ M ++ R)).At w S := by
 obtain ⟨S1, S2, h1, h2, s1, s2, hd⟩ := nest_append.1 h
 obtain ⟨S3, S4, h3, h4, s3, s4, hd2⟩ := nest_append.1 h2
 exact nest_append.2 ⟨fun k => S3 k ∨ S1 k, S4, nest_append.2 ⟨S3, S1, h3, h1, fun k hk => .inl hk, fun k hk => .inr hk, fun k a b => hd k b (s3 k a)⟩, h4, fun k hk => hk.elim (fun q => s2 k (s3 k q)) (s1 k), fun k hk => s2 k (s4 k hk), fun k hk b => hk.elim (fun q => hd2 k q b) (fun q => hd k q (s4 k b))⟩
theorem Mem.folds (h : Mem w0 F w L) : Mem w0 F w [nest L] := by
 obtain ⟨hb, T, h1, h2, h3⟩ := h
 refine ⟨hb, fun q => if q < F.length then T q else if q = F.length then (fun k => ∃ j, T (F.length + j) k) else fun _ => False, fun q D hD => ?_, fun q k hk => ?_, fun q p k hq hp => ?_⟩
 ·(try dsimp only)
  by_cases c : q < F.length
  ·rw [if_pos c]
   rw [List.getElem?_append_left c] at hD
   exact h1 q D (by rw [List.getElem?_append_left c]; exact hD)
  ·have hq : q = F.length := by
    have := (List.getElem?_eq_some_iff.1 hD).1
    rw [List.length_append, List.length_singleton] at this
    omega
   rw [if_neg c, if_pos hq]
   rw [hq, List.getElem?_append_right (Nat.le_refl _), Nat.sub_self] at hD
   obtain rfl : nest L = D := by simpa using hD
   exact ⟨fun j => T (F.length + j), fun j A hA => h1 _ A (by rw [List.getElem?_append_right (by omega), Nat.add_sub_cancel_left]; exact hA), fun j k hk => ⟨j, hk⟩, fun i j k hi hj => by have := h3 _ _ k hi hj; omega⟩
 ·(try dsimp only at hk)
  split at hk
  ·exact h2 q k hk
  ·split at hk
   ·obtain ⟨j, hk⟩ := hk
    exact h2 _ k hk
   ·exact hk.elim
 ·(try dsimp only at hq hp)
  split at hq <;> split at hp
  ·exact h3 _ _ k hq hp
  ·split at hp
   ·obtain ⟨j, hp⟩ := hp
    have := h3 _ _ k hq hp
    omega
   ·exact hp.elim
  ·split at hq
   ·obtain ⟨j, hq⟩ := hq
    have := h3 _ _ k hq hp
    omega
   ·exact hq.elim
  ·split at hq
   ·split at hp
    ·omega
    ·exact hp.elim
   ·exact hq.elim
theorem Mem.opens (h : Mem w0 F w [nest L]) : Mem w0 F w L := by
 obtain ⟨hb, T, h1, h2, h3⟩ := h
 obtain ⟨U, u1, u2, u3⟩ := h1 F.length (nest L) (by rw [List.getElem?_append_right (Nat.le_refl _), Nat.sub_self]; rfl)
 refine ⟨hb, fun q => if q < F.length then T q else U (q - F.length), fun q D hD => ?_, fun q k hk => ?_, fun q p k hq hp => ?_⟩
 ·(try dsimp only)
  by_cases c : q < F.length
  ·rw [if_pos c]
   rw [List.getElem?_append_left c] at hD
   exact h1 q D (by rw [List.getElem?_append_left c]; exact hD)
  ·rw [if_neg c]
   rw [List.getElem?_append_right (by omega)] at hD
   exact u1 _ D hD
 ·(try dsimp only at hk)
  split at hk
  ·exact h2 q k hk
  ·exact h2 _ k (u2 _ k hk)
 ·(try dsimp only at hq hp)
  split at hq <;> split at hp
  ·exact h3 _ _ k hq hp
  ·have := h3 _ _ k hq (u2 _ k hp); omega
  ·have := h3 _ _ k hp (u2 _ k hq); omega
  ·have := u3 _ _ k hq hp; omega
theorem Mem.tell0 (h : Mem w0 F w [A]) (hB : ∀ S, A.At w S → B.At w S) : Mem w0 F w [B] := h.tell (i := 0) rfl B hB
end
section
variable {α : Type}
/-- A row whose elements have rows of their own. -/
def rr (X : KR α) (e : Nat) (v : Value) (xs : List α) : SP := ⟨fun w S => ∃ vss : List (List Value), vss.length = xs.length ∧ (nest (rowR (rawK X.kd.sz) e v (List.zipWith X.cells xs vss) :: (List.zipWith X.sps xs vss).flatten)).At w S, by
 rintro w w' S ⟨vss, hv, hn⟩ hm
 exact ⟨vss, hv, (nest _).loc hn hm⟩⟩
/-- The same, element number j's rows being out: vs are their values. -/
def hol (X : KR α) (e : Nat) (v : Value) (xs : List α) (j : Nat) (vs : List Value) : SP := ⟨fun w S => ∃ vss : List (List Value), vss.length = xs.length ∧ vss[j]? = some vs ∧ (nest (rowR (rawK X.kd.sz) e v (List.zipWith X.cells xs vss) :: ((List.zipWith X.sps (xs.take j) (vss.take j)).flatten ++ (List.zipWith X.sps (xs.drop (j + 1)) (vss.drop (j + 1))).flatten))).At w S, by
 rintro w w' S ⟨vss, hv, hj, hn⟩ hm
 exact ⟨vss, hv, hj, (nest _).loc hn hm⟩⟩
variable {w0 w w' : World} {F N M L R : List SP} {i j e n c : Nat} {S : Nat → Prop} {X : KR α} {v : Value} {A : Option Addr} {xs : List α} {x x' z : α} {vs : List Value} {vss : List (List Value)}
theorem flat_cut (f : α → List Value → List SP) (hv : vss.length = xs.length) (hj : j < xs.length) : (List.zipWith f xs vss).flatten = (List.zipWith f (xs.take j) (vss.take j)).flatten ++ f xs[j] (vss[j]'(by omega)) ++ (List.zipWith f (xs.drop (j + 1)) (vss.drop (j + 1))).flatten := by
 have e1 : xs = xs.take j ++ xs[j] :: xs.drop (j + 1) := by rw [← List.drop_eq_getElem_cons hj, List.take_append_drop]
 have e2 : vss = vss.take j ++ vss[j]'(by omega) :: vss.drop (j + 1) := by rw [← List.drop_eq_getElem_cons (by omega), List.take_append_drop]
 conv => lhs; rw [e1, e2]
 rw [List.zipWith_append (by rw [List.length_take, List.length_take]; omega), List.zipWith_cons_cons, List.flatten_append, List.flatten_cons, List.append_assoc]
theorem zip_set {β γ : Type} (f : α → β → γ) {ys : List β} (hv : ys.length = xs.length) (hj : j < xs.length) (x' : α) : (List.zipWith f xs ys).set j (f x' (ys[j]'(by omega))) = List.zipWith f (xs.set j x') ys := by
 refine List.ext_getElem (by simp) (fun q h1 h2 => ?_)
 rw [List.getElem_set, List.getElem_zipWith]
 by_cases c : j = q
 ·subst c; simp
 ·rw [if_neg c, List.getElem_zipWith, List.getElem_set_ne c]
theorem rr_raw (h : (rr X e v xs).At w S) : ∃ vss : List (List Value), vss.length = xs.length ∧ (∃ S1, (rowR (rawK X.kd.sz) e v (List.zipWith X.cells xs vss)).At w S1) ∧ ∀ q (hq : q < xs.length) (hq2 : q < vss.length), X.kd.K w xs[q] (X.cells xs[q] vss[q]) := by
 obtain ⟨vss, hv, hn⟩ := h
 refine ⟨vss, hv, ?_, fun q hq hq2 => X.rd w _ _ (fun A hA => ?_)⟩
 ·exact nest_at hn _ List.mem_cons_self
 ·refine nest_at hn A (List.mem_cons_of_mem _ ?_)
  rw [flat_cut X.sps hv hq]
  exact List.mem_append_left _ (List.mem_append_right _ hA)
/-- What is read of it. -/
theorem Mem.CRR (h : Mem w0 F w N) (i : Nat) (hi : N[i]? = some (rr X e (.slice A n c) xs)) : n = xs.length ∧ n ≤ c ∧ X.kd.C w A xs.length xs := by
 obtain ⟨S, hA, _⟩ := h.at_ hi
 obtain ⟨vss, hv, ⟨S1, hr⟩, hk⟩ := rr_raw hA
 obtain ⟨h1, h2, h3⟩ := Kd.R_reads' hr
 have hl : (List.zipWith X.cells xs vss).length = xs.length := by rw [List.length_zipWith]; omega
 rw [hl] at h1 h3
 refine ⟨h1, h2, rfl, h3.2.1, fun hp => ?_⟩
 obtain ⟨ad, ea, hc⟩ := h3.2.2 hp
 refine ⟨ad, ea, fun q p hq => ?_⟩
 have hq1 := (List.getElem?_eq_some_iff.1 hq).1
 have hq2 : q < (List.zipWith X.cells xs vss).length := by omega
 obtain ⟨cs, hc1, hc2, hc3⟩ := hc q _ (List.getElem?_eq_getElem hq2)
 have e1 : cs = X.cells xs[q] (vss[q]'(by omega)) := by rw [hc2.1, List.getElem_zipWith]
 refine ⟨cs, hc1, ?_, hc3⟩
 have e2 : xs[q] = p := (List.getElem?_eq_some_iff.1 hq).2
 rw [e1, ← e2]
 exact hk q hq1 (by omega)
theorem Mem.rdRR (h : Mem w0 F w N) (i : Nat) (hi : N[i]? = some (rr X e v xs)) : ∃ A c, v = .slice A xs.length c := by
 obtain ⟨S, hA, _⟩ := h.at_ hi
 obtain ⟨vss, hv, ⟨S1, hr⟩, hk⟩ := rr_raw hA
 obtain ⟨A, c, e⟩ := Kd.R_slice hr
 have hl : (List.zipWith X.cells xs vss).length = xs.length := by rw [List.length_zipWith]; omega
 rw [hl] at e
 exact ⟨A, c, e⟩
theorem Mem.formRR (h : Mem w0 F w N) (i : Nat) (hi : N[i]? = some (rr X e (.slice A n c) xs)) (hp : 0 < xs.length) : ∃ g, A = some ⟨g, 0, none⟩ := by
 obtain ⟨S, hA, _⟩ := h.at_ hi
 obtain ⟨vss, hv, ⟨S1, hr⟩, hk⟩ := rr_raw hA
 have hl : (List.zipWith X.cells xs vss).length = xs.length := by rw [List.length_zipWith]; omega
 obtain ⟨g, cap, hv, _⟩ := Kd.R_form hr (by omega)
 injection hv with h1
 exact ⟨g, h1⟩
theorem Mem.nmRR {ys : List α} (h : Mem w0 F w N) (i : Nat) (hi : N[i]? = some (rr X e v xs)) (hy : ys = xs) : Mem w0 F w (N.set i (rr X e v ys)) := h.tell hi _ (fun S hA => hy ▸ hA)
/-- One that is empty. -/
theorem Mem.nlRR (h : Mem w0 F w N) (X : KR α) (e : Nat) : Mem w0 F w (N ++ [rr X e (.slice none 0 0) []]) :=
 h.push _ (S' := fun _ => False) ⟨[], rfl, nest_one (A := rowR (rawK X.kd.sz) e (.slice none 0 0) []) (Kd.R_nil _ _ _ _ _)⟩ (fun _ h => h.elim) ⟨rfl, rfl, rfl, Nat.le_refl _, fun _ _ _ => rfl⟩
/-- It alone, told by its cells and its elements' rows. -/
theorem Mem.rr0 (h : Mem w0 F w [rr X e v xs]) : ∃ vss : List (List Value), vss.length = xs.length ∧ Mem w0 F w (rowR (rawK X.kd.sz) e v (List.zipWith X.cells xs vss) :: (List.zipWith X.sps xs vss).flatten) := by
 obtain ⟨S, ⟨vss, hv, hn⟩, hS, k⟩ := h.opn (i := 0) rfl
 exact ⟨vss, hv, Mem.opens (k w (nest _) S hn (fun k hk => ⟨.inl hk, (hS k hk).2⟩) ⟨rfl, rfl, rfl, Nat.le_refl _, fun _ _ _ => rfl⟩)⟩
theorem Mem.rr1 (h : Mem w0 F w (rowR (rawK X.kd.sz) e v (List.zipWith X.cells xs vss) :: (List.zipWith X.sps xs vss).flatten)) (hv : vss.length = xs.length) : Mem w0 F w [rr X e v xs] :=
 h.folds.tell0 (fun S hS => ⟨vss, hv, hS⟩)
/-- A literal. -/
theorem Mem.rrLit (h : Mem w0 F w N) (rest l : List Nat) (vss : List (List Value)) (hl : ((rest ++ l).all (· < N.length) && decide (rest ++ l).Nodup) = true) (hM : l.map (fun i => N[i]?) = (rowR (rawK X.kd.sz) e v (List.zipWith X.cells xs vss) :: (List.zipWith X.sps xs vss).flatten).map some) (hv : vss.length = xs.length) : Mem w0 F w (pk N rest ++ [rr X e v xs]) :=
 Mem.unfocus ((h.focus rest l hl hM).rr1 hv)
/-- An element is appended, its rows go with it. -/
theorem Mem.rrApp (h : Mem w0 F w N) (rest l : List Nat) (x : α) (vs : List Value) (hv : vss.length = xs.length) (hl : ((rest ++ l).all (· < N.length) && decide (rest ++ l).Nodup) = true) (hM : l.map (fun i => N[i]?) = (rowR (rawK X.kd.sz) e v (List.zipWith X.cells xs vss ++ [X.cells x vs]) :: nest (List.zipWith X.sps xs vss).flatten :: X.sps x vs).map some) : Mem w0 F w (pk N rest ++ [rr X e v (xs ++ [x])]) := by
 refine Mem.unfocus ((h.focus rest l hl hM).folds.tell0 (fun S hS => ⟨vss ++ [vs], by rw [List.length_append, List.length_append, hv]; rfl, ?_⟩))
 rw [List.zipWith_append hv.symm, List.zipWith_append hv.symm, List.flatten_append]
 obtain ⟨S1, S2, h1, h2, s1, s2, hd⟩ := nest_cons.1 hS
 obtain ⟨S3, S4, h3, h4, s3, s4, hd2⟩ := nest_cons.1 h2
 refine nest_cons.2 ⟨S1, S2, h1, ?_, s1, s2, hd⟩
 refine nest_append.2 ⟨S3, S4, h3, ?_, s3, s4, hd2⟩
 simpa using h4
/-- Told by its cells and, as_ one thing, its elements' rows. -/
theorem Mem.rrOut (h : Mem w0 F w N) (rest l : List Nat) (hl : ((rest ++ l).all (· < N.length) && decide (rest ++ l).Nodup) = true) (hM : l.map (fun i => N[i]?) = [rr X e v xs].map some) : ∃ vss : List (List Value), vss.length = xs.length ∧ Mem w0 F w (pk N rest ++ [rowR (rawK X.kd.sz) e v (List.zipWith X.cells xs vss), nest (List.zipWith X.sps xs vss).flatten]) := by
 obtain ⟨S, ⟨vss, hv, hn⟩, hS, k⟩ := (h.focus rest l hl hM).opn (i := 0) rfl
 refine ⟨vss, hv, Mem.unfocus (Mem.opens (k w (nest _) S ?_ (fun k hk => ⟨.inl hk, (hS k hk).2⟩) ⟨rfl, rfl, rfl, Nat.le_refl _, fun _ _ _ => rfl⟩))⟩
 obtain ⟨S1, S2, h1, h2, s1, s2, hd⟩ := nest_cons.1 hn
 exact nest_cons.2 ⟨S1, S2, h1, nest_one h2, s1, s2, hd⟩
/-- An element's rows are taken out. -/
theorem Mem.rrTake (h : Mem w0 F w N) (rest l : List Nat) (j : Int) (z : α) (hl : ((rest ++ l).all (· < N.length) && decide (rest ++ l).Nodup) = true) (hM : l.map (fun i => N[i]?) = [rr X e (.slice (some ⟨i, 0, none⟩) n c) xs].map some) (h0 : 0 ≤ j) (h1 : j < xs.length) :
  ∃ vs, (∀ o u, (X.cells (xs.getD j.toNat z) vs)[o]? = some u → w.cell? ⟨i, j.toNat * X.kd.sz + o, none⟩ = some u) ∧ Mem w0 F w (pk N rest ++ hol X e (.slice (some ⟨i, 0, none⟩) n c) xs j.toNat vs :: X.sps (xs.getD j.toNat z) vs) := by
 have hj : j.toNat < xs.length := by omega
 obtain ⟨S, ⟨vss, hv, hn⟩, hS, k⟩ := (h.focus rest l hl hM).opn (i := 0) rfl
 have eg : xs.getD j.toNat z = xs[j.toNat] := by rw [List.getD_eq_getElem?_getD, List.getElem?_eq_getElem hj]; rfl
 refine ⟨vss[j.toNat]'(by omega), ?_, Mem.unfocus (Mem.opens (k w (nest _) S ?_ (fun k hk => ⟨.inl hk, (hS k hk).2⟩) ⟨rfl, rfl, rfl, Nat.le_refl _, fun _ _ _ => rfl⟩))⟩
 ·intro o u hu
  rw [eg] at hu
  obtain ⟨S1, _, hr, _⟩ := nest_cons.1 hn
  obtain ⟨_, _, h3⟩ := Kd.R_reads' hr
  have hlz : (List.zipWith X.cells xs vss).length = xs.length := by rw [List.length_zipWith]; omega
  obtain ⟨ad, ea, hc⟩ := h3.2.2 (by omega)
  obtain rfl := Option.some.inj ea
  obtain ⟨cs, hc1, hc2, hc3⟩ := hc j.toNat _ (List.getElem?_eq_getElem (by omega))
  have e1 : cs = X.cells xs[j.toNat] (vss[j.toNat]'(by omega)) := by rw [hc2.1, List.getElem_zipWith]
  have := hc3 o u (by rw [e1]; exact hu)
  rw [show (rawK X.kd.sz).sz = X.kd.sz from rfl, add_plain] at this
  exact this
 ·rw [eg]
  obtain ⟨S1, S2, hr, h2, s1, s2, hd⟩ := nest_cons.1 hn
  rw [flat_cut X.sps hv hj] at h2
  obtain ⟨S3, S4, h3, h4, s3, s4, hd2⟩ := nest_append.1 (nest_swap h2)
  refine nest_cons.2 ⟨fun k => S1 k ∨ S4 k, S3, ⟨vss, hv, List.getElem?_eq_getElem (by omega), nest_cons.2 ⟨S1, S4, hr, h4, fun k hk => .inl hk, fun k hk => .inr hk, fun k a b => hd k a (s4 k b)⟩⟩, h3, fun k hk => hk.elim (s1 k) (fun q => s2 k (s4 k q)), fun k hk => s2 k (s3 k hk), fun k hk b => hk.elim (fun q => hd k q (s3 k b)) (fun q => hd2 k b q)⟩
/-- They come back. -/
theorem Mem.rrBack (h : Mem w0 F w N) (rest l : List Nat) (j : Nat) (x' z : α) (vs : List Value) (hl : ((rest ++ l).all (· < N.length) && decide (rest ++ l).Nodup) = true) (hM : l.map (fun i => N[i]?) = (hol X e v xs j vs :: X.sps x' vs).map some) (hj : j < xs.length) (hc : X.cells x' vs = X.cells (xs.getD j z) vs) : Mem w0 F w (pk N rest ++ [rr X e v (xs.set j x')]) := by
 refine Mem.unfocus ((h.focus rest l hl hM).folds.tell0 (fun S hS => ?_))
 obtain ⟨S1, S2, ⟨vss, hv, hvj, hn⟩, h2, s1, s2, hd⟩ := nest_cons.1 hS
 refine ⟨vss, by rw [List.length_set]; exact hv, ?_⟩
 have hvj2 : vss[j]'(by omega) = vs := (List.getElem?_eq_some_iff.1 hvj).2
 have eg : xs.getD j z = xs[j] := by rw [List.getD_eq_getElem?_getD, List.getElem?_eq_getElem hj]; rfl
 have ez : List.zipWith X.cells (xs.set j x') vss = List.zipWith X.cells xs vss := by
  rw [← zip_set X.cells hv hj x', hvj2, hc, eg]
  have e3 : X.cells xs[j] vs = (List.zipWith X.cells xs vss)[j]'(by rw [List.length_zipWith]; omega) := by rw [List.getElem_zipWith, hvj2]
  rw [e3, List.set_getElem_self]
 have ef := flat_cut (xs := xs.set j x') (vss := vss) X.sps (by rw [List.length_set]; exact hv) (by rw [List.length_set]; exact hj)
 rw [List.take_set_of_le (Nat.le_refl _), List.drop_set_of_lt (by omega), List.getElem_set_self, hvj2] at ef
 rw [ez, ef]
 obtain ⟨S3, S4, h3, h4, s3, s4, hd2⟩ := nest_cons.1 hn
 refine nest_cons.2 ⟨S3, fun k => S4 k ∨ S2 k, h3, ?_, fun k hk => s1 k (s3 k hk), fun k hk => hk.elim (fun q => s1 k (s4 k q)) (s2 k), fun k a hk => hk.elim (hd2 k a) (fun q => hd k (s3 k a) q)⟩
 exact nest_back (nest_append.2 ⟨S2, S4, h2, h4, fun k hk => .inr hk, fun k hk => .inl hk, fun k a b => hd k (s4 k b) a⟩)
end
section
variable {P : Program} {ops : Array Oper} {rest : List Oper} {o : Oper} {a : Act} {Q : Exit → Act → World → Prop} {w0 W W0 : World} {F N : List SP} {α : Type}
/-- A store into an element that leaves its rows alone. -/
theorem pPX (rs : List Nat) (i : Nat) (p : Tmp) (j : Int) (off : Nat) (seg : List Value) (X : KR α) (e : TypeId) (xs : List α) (x' z : α) {t : TypeId} {x : Operand} {g n c o' : Nat} (hM : Mem w0 F W0 N) (ho : o.op = .store t (.tmp p) x) (hl : ((rs ++ [i]).all (· < N.length) && decide (rs ++ [i]).Nodup) = true) (hi : [i].map (fun q => N[q]?) = [rr X e (.slice (some ⟨g, 0, none⟩) n c) xs].map some) (h0 : 0 ≤ j) (h1 : j < xs.length)
  (hc : ∀ vs, (X.cells (xs.getD j.toNat z) vs).take off ++ seg ++ (X.cells (xs.getD j.toNat z) vs).drop (off + seg.length) = X.cells x' vs) (hsp : ∀ vs, X.sps x' vs = X.sps (xs.getD j.toNat z) vs) (h : ∀ w1, Mem w0 F w1 (pk N rs ++ [rr X e (.slice (some ⟨g, 0, none⟩) n c) (xs.set j.toNat x')]) → wpList P ops Q rest a w1) (hp : a.eval (.tmp p) = .pointer (some ⟨g, o', none⟩) := by rfl) (hoff : o' = j.toNat * X.kd.sz + off := by rfl) (hx : (a.eval x).cells.toList = seg := by first | rfl | (simp only [List.length_drop, List.length_take, List.length_append, List.length_set, List.length_cons, List.length_nil, Int.reduceToNat]; rfl)) (ht : (P.info? t).map (·.size) = some seg.length := by kernel_rfl) (hone : seg.all (·.oneCell') = true := by rfl) (hj : off + seg.length ≤ X.kd.sz := by exact Nat.le_of_ble_eq_true rfl) (hN : o.dst = none := by rfl) (hs0 : 0 < X.kd.sz := by decide) (hq : Drawn0 W0 W := by repeat (first | exact Drawn0.refl _ | apply Drawn0.step)) (hg : Region.wanted o (yielded ops a.tmps) = true := by rfl) : wpList P ops Q (o :: rest) a W := by
 obtain ⟨vss, hv, h2⟩ := (hM.focus rs [i] hl hi).rr0
 have hjl : j.toNat < xs.length := by omega
 have hjv : j.toNat < vss.length := by omega
 have eg : xs.getD j.toNat z = xs[j.toNat] := by rw [List.getD_eq_getElem?_getD, List.getElem?_eq_getElem hjl]; rfl
 have hlz : (List.zipWith X.cells xs vss).length = xs.length := by rw [List.length_zipWith]; omega
 have ec : (List.zipWith X.cells xs vss).getD j.toNat [] = X.cells xs[j.toNat] vss[j.toNat] := by
  rw [List.getD_eq_getElem?_getD, List.getElem?_eq_getElem (by omega), List.getElem_zipWith]; rfl
 obtain ⟨nn, _, hC⟩ := h2.CR (n := n) 0 rfl
 obtain ⟨ad, _, hcs⟩ := hC.2.2 (by omega)
 obtain ⟨cs, _, hraw, _⟩ := hcs j.toNat _ (List.getElem?_eq_getElem (by omega))
 rw [List.getElem_zipWith] at hraw
 rw [eg] at hc hsp
 have hnew : ((X.cells xs[j.toNat] vss[j.toNat]).take off ++ seg ++ (X.cells xs[j.toNat] vss[j.toNat]).drop (off + seg.length)).length = X.kd.sz ∧ ((X.cells xs[j.toNat] vss[j.toNat]).take off ++ seg ++ (X.cells xs[j.toNat] vss[j.toNat]).drop (off + seg.length)).all (·.oneCell') = true := by
  have hL : (X.cells xs[j.toNat] vss[j.toNat]).length = X.kd.sz := hraw.2.1
  refine ⟨by rw [List.length_append, List.length_append, List.length_take, List.length_drop]; omega, ?_⟩
  rw [List.all_append, List.all_append, hone, Bool.and_true, Bool.and_eq_true, List.all_eq_true, List.all_eq_true]
  exact ⟨fun u hu => List.all_eq_true.1 hraw.2.2 u (List.mem_of_mem_take hu), fun u hu => List.all_eq_true.1 hraw.2.2 u (List.mem_of_mem_drop hu)⟩
 refine pPR 0 p j off seg (rawK X.kd.sz) e (List.zipWith X.cells xs vss) ((X.cells xs[j.toNat] vss[j.toNat]).take off ++ seg ++ (X.cells xs[j.toNat] vss[j.toNat]).drop (off + seg.length)) [] (X.cells xs[j.toNat] vss[j.toNat]) h2 ho rfl h0 (by omega) (fun _ cs hcs => ?_) ⟨rfl, hnew.1, hnew.2⟩ (fun w1 hw => h w1 (Mem.unfocus ?_)) hp hoff hx ht hone hj hN hs0 hq hg
 ·rw [ec] at hcs; exact hcs.1
 ·rw [hc] at hw
  have e1 := zip_set X.cells hv hjl x'
  have hw2 : Mem w0 (F ++ pk N rs) w1 (rowR (rawK X.kd.sz) e (.slice (some ⟨g, 0, none⟩) n c) ((List.zipWith X.cells xs vss).set j.toNat (X.cells x' vss[j.toNat])) :: (List.zipWith X.sps xs vss).flatten) := hw
  rw [e1] at hw2
  have e2 : List.zipWith X.sps (xs.set j.toNat x') vss = List.zipWith X.sps xs vss := by
   rw [← zip_set X.sps hv hjl x', hsp]
   have e3 : X.sps xs[j.toNat] vss[j.toNat] = (List.zipWith X.sps xs vss)[j.toNat]'(by rw [List.length_zipWith]; omega) := by rw [List.getElem_zipWith]
   rw [e3, List.set_getElem_self]
  refine Mem.rr1 (vss := vss) ?_ (by rw [List.length_set]; exact hv)
  rw [e2]
  exact hw2
end
end Go.Proofs.Ythnedklbobbkcaa.Mm

namespace Go.Proofs.Ythnedklbobbkcaa.G
open Go.RowKit Go.Proofs.YthnedklbobbkcaaW.PrintWords Go.Proofs.YthnedklbobbkcaaW.PrintLast Go.Proofs.YthnedklbobbkcaaW.PrintMore Go.Proofs.Ythnedklbobbkcaa.Sh Go.Proofs.Ythnedklbobbkcaa.Mm
def x55 : KR S55 := ⟨k55, fun x vs => [.int .i64 x.f0, .int .i64 x.f1, .int .i64 x.f2, .int .i64 x.f3.f0, .string x.f3.f1, .string x.f3.f2, vs.getD 0 (.bool false)], fun x vs => [row Kd.string 9 (vs.getD 0 (.bool false)) x.f4], fun w x vs h => by
 obtain ⟨S6, h6⟩ := h (row Kd.string 9 (vs.getD 0 (.bool false)) x.f4) List.mem_cons_self
 obtain ⟨A6, c6, e6, l6⟩ := Kd.Q_slice h6
 have g6 := (Kd.Q_reads' (e6 ▸ h6)).2.2
 show k55.K w x [.int .i64 x.f0, .int .i64 x.f1, .int .i64 x.f2, .int .i64 x.f3.f0, .string x.f3.f1, .string x.f3.f2, vs.getD 0 (.bool false)]
 rw [e6]
 exact k55_mk w x l6 g6⟩
end Go.Proofs.Ythnedklbobbkcaa.G

namespace Go.Proofs.Ythnedklbobbkcaa.G
open Go.RowKit Go.Proofs.YthnedklbobbkcaaW.PrintWords Go.Proofs.YthnedklbobbkcaaW.PrintLast Go.Proofs.YthnedklbobbkcaaW.PrintMore Go.Proofs.Ythnedklbobbkcaa.Sh
attribute [local go_sem] max2_int min2_int max_two min_two max_three min_three max_four min_four
set_option linter.unusedVariables false
set_option linter.unusedSimpArgs false
open Go.Proofs.Ythnedklbobbkcaa.Mm
def spec_l01Cut.l0 : Nat → ByteArray → Int → List ByteArray → Int → Int → Option (List ByteArray)
 | 0, _, _, _, _, _ => none
 | k + 1, x0, x1, x5, x6, x7 => if x7 < (x0.size : Int) then (if 0 ≤ x7 then (if (bt x0 x7) = x1 then (if 0 ≤ x6 then (if x6 ≤ x7 then (if x7 ≤ (x0.size : Int) then (if x5.length < 8796093022208 then (spec_l01Cut.l0 k x0 x1 (x5 ++ [x0.extract (x6 : Int).toNat (x7 : Int).toNat]) (wrap64 (x7 + 1)) (wrap64 (x7 + 1))) else (none)) else (none)) else (none)) else (none)) else (spec_l01Cut.l0 k x0 x1 x5 x6 (wrap64 (x7 + 1)))) else (none)) else (if 0 ≤ x6 then (if x6 ≤ (x0.size : Int) then (if x5.length < 8796093022208 then (some (x5 ++ [x0.extract (x6 : Int).toNat x0.size])) else (none)) else (none)) else (none))
def spec_l01Cut.f (k : Nat) (a0 : ByteArray) (a1 : Int) : Option (List ByteArray) := spec_l01Cut.l0 k a0 a1 (([] : List ByteArray)) 0 0
theorem spec_l01Cut.mono_l : ∀ k, (∀ y0 y1 y2 y3 y4, LeO (spec_l01Cut.l0 k y0 y1 y2 y3 y4) (spec_l01Cut.l0 (k + 1) y0 y1 y2 y3 y4))
 | 0 => fun _ _ _ _ _ r h => by simp [spec_l01Cut.l0] at h
 | k + 1 => by
  have ih0 := spec_l01Cut.mono_l k
  ·intro y0 y1 y2 y3 y4
   unfold spec_l01Cut.l0
   repeat' first | (with_reducible first | exact ih0 _ _ _ _ _ | exact LeO.refl _ | exact LeO.none _ | refine LeO.ite ?_ ?_ | refine LeO.bind ?_ (fun _ => ?_)) | exact LeO.none _ | refine LeO.ite ?_ ?_ | refine LeO.bind ?_ (fun _ => ?_)
theorem spec_l01Cut.mono : ∀ a0 a1 k, LeO (spec_l01Cut.f k a0 a1) (spec_l01Cut.f (k + 1) a0 a1) := by
 intro a0 a1 k
 have ih0 := spec_l01Cut.mono_l k
 unfold spec_l01Cut.f
 repeat' first | (with_reducible first | exact ih0 _ _ _ _ _ | exact LeO.refl _ | exact LeO.none _ | refine LeO.ite ?_ ?_ | refine LeO.bind ?_ (fun _ => ?_)) | exact LeO.none _ | refine LeO.ite ?_ ?_ | refine LeO.bind ?_ (fun _ => ?_)
theorem spec_l01Cut.calls (k : Nat) (a0 : ByteArray) (a1 : Int) (r : List ByteArray) (w : World)  (h : spec_l01Cut.f k a0 a1 = some r) :
  Calls Try.prog 109 #[.string a0, .int .u8 a1] w fun e w' => ∃ v0_ : Value, e = .returned (v0_) ∧ Mem w [] w' [rowR Kd.string 9 v0_ r] := by
 have HM := Mem.nil w
 have H := h
 clear h
 unfold spec_l01Cut.f at H
 go_enter Try.func109, Try.ntmps109
 have H' := Aside0.mk H
 clear H
 go_wp2_with (first | ((with_reducible refine gN 8 rfl ?_); refine pL 8 Kd.string 9 ([] : List ByteArray) [] (Reps.none _ _) HM rfl ?_; clear HM; intro v102 w3 HM))
 go_loopg [5, 6, 7] k (fun kq v5 v6 v7 w' => ∃ (x5_1 : List ByteArray) (x6_1 : Int) (x7_1 : Int), v6 = .int .i64 x6_1 ∧ v7 = .int .i64 x7_1 ∧ Aside0 (spec_l01Cut.l0 kq a0 a1 x5_1 x6_1 x7_1 = some r) ∧ Aside0 (kq ≤ k) ∧ Mem w [] w' [rowR Kd.string 9 v5 x5_1])
 case atStart => exact ⟨((([] : List ByteArray))), (0), (0), RS, RS, H', ⟨Nat.le_refl _⟩, (MD HM).pick [0]⟩
 case round =>
  clear H' HM
  obtain ⟨x5_1, x6_1, x7_1, rfl, rfl, HA, HK1, HM⟩ := hrel
  cases gk with
  | zero => exact absurd HA.out (by simp [spec_l01Cut.l0])
  | succ k1 =>
   have H := HA.out
   clear HA
   simp only [spec_l01Cut.l0] at H
   go_upto_if 12 with (fail)
   replace H := IT H; rcases H with ⟨c4, H⟩ | ⟨c4, H⟩
   ·have c4b0 := decide_eq_true c4
    clear c4
    first|rw [c4b0]|(simp only [i64_w, i32_w]; rw [c4b0])|skip
    replace H := GD H; obtain ⟨c5, H⟩ := H
    have c5b0 := decide_eq_true c5
    clear c5
    have p6 : 0 ≤ (x7_1 : Int) := of_decide_eq_true AS
    have q6 : x7_1 < (a0.size : Int) := of_decide_eq_true AS
    have hx6 := bt_at a0 x7_1
    replace p6 := eq_true p6
    replace q6 := eq_true q6
    go_upto_if 19 with (fail)
    replace H := IT H; rcases H with ⟨c7, H⟩ | ⟨c7, H⟩
    ·obtain ⟨c7b0, c7b1⟩ := BE c7
     clear c7
     first|rw [c7b0]|(simp only [i64_w, i32_w]; rw [c7b0])|skip
     replace H := GD H; obtain ⟨c8, H⟩ := H
     have c8b0 := eq_true c8
     have c8b1 : decide (0 ≤ x6_1) = true := decide_eq_true c8
     clear c8
     replace H := GD H; obtain ⟨c9, H⟩ := H
     have c9b0 := eq_true c9
     have c9b1 : decide (x6_1 ≤ x7_1) = true := decide_eq_true c9
     clear c9
     replace H := GD H; obtain ⟨c10, H⟩ := H
     have c10b0 := eq_true c10
     have c10b1 : decide (x7_1 ≤ (a0.size : Int)) = true := decide_eq_true c10
     clear c10
     replace H := GD H; obtain ⟨c11, H⟩ := H
     have LMc11 := Aside0.mk c11
     clear c11
     have H' := Aside0.mk H
     clear H
     go_wp2_with (first | ((with_reducible refine gN 25 rfl ?_); refine pL 25 Kd.string 9 [a0.extract (x6_1 : Int).toNat (x7_1 : Int).toNat] [.string (a0.extract (x6_1 : Int).toNat (x7_1 : Int).toNat)] (Reps.one (show Kd.M Kd.string _ _ _ (a0.extract (x6_1 : Int).toNat (x7_1 : Int).toNat) [.string (a0.extract (x6_1 : Int).toNat (x7_1 : Int).toNat)] from rfl) (Reps.none _ _)) HM rfl ?_; clear HM; intro v13 w12 HM; obtain ⟨Xv13, kv13, rfl⟩ := HM.rdR 1 rfl) | ((with_reducible refine gate_builtin (b := .append) (xs := #[.tmp 20, .tmp 25]) rfl ?_); refine pA 0 (.tmp 20) (.tmp 25) 47 9 Kd.string u5 x5_1 [a0.extract (x6_1 : Int).toNat (x7_1 : Int).toNat] Xv13 ([a0.extract (x6_1 : Int).toNat (x7_1 : Int).toNat].length) kv13 HM rfl Try.underlying47 info9 rfl (HM.CR 1 rfl).2.2 (by have h_ := LMc11.out; simp only [List.length_singleton]; omega) ?_; clear HM; intro v105 w14 HM))
     go_roundg k1
     case measure => have := HK1.out; omega
     case rel => exact ⟨((x5_1 ++ [a0.extract (x6_1 : Int).toNat (x7_1 : Int).toNat])), (wrap64 (x7_1 + 1)), (wrap64 (x7_1 + 1)), RS, RS, H', ⟨by have := HK1.out; omega⟩, (MD HM).pick [0]⟩
    ·obtain ⟨c7b0, c7b1⟩ := BF c7
     first|rw [c7b0]|(simp only [i64_w, i32_w]; rw [c7b0])|skip
     have H' := Aside0.mk H
     clear H
     go_wp2
     go_roundg k1
     case measure => have := HK1.out; omega
     case rel => exact ⟨(x5_1), (x6_1), (wrap64 (x7_1 + 1)), RS, RS, H', ⟨by have := HK1.out; omega⟩, (MD HM).pick [0]⟩
   ·have c4b0 := decide_eq_false c4
    clear c4
    first|rw [c4b0]|(simp only [i64_w, i32_w]; rw [c4b0])|skip
    replace H := GD H; obtain ⟨c15, H⟩ := H
    have c15b0 := eq_true c15
    have c15b1 : decide (0 ≤ x6_1) = true := decide_eq_true c15
    clear c15
    replace H := GD H; obtain ⟨c16, H⟩ := H
    have c16b0 := eq_true c16
    have c16b1 : decide (x6_1 ≤ (a0.size : Int)) = true := decide_eq_true c16
    clear c16
    replace H := GD H; obtain ⟨c17, H⟩ := H
    have LMc17 := Aside0.mk c17
    clear c17
    obtain rfl := Option.some.inj H
    go_wp2_with (first | ((with_reducible refine gN 33 rfl ?_); refine pL 33 Kd.string 9 [a0.extract (x6_1 : Int).toNat a0.size] [.string (a0.extract (x6_1 : Int).toNat a0.size)] (Reps.one (show Kd.M Kd.string _ _ _ (a0.extract (x6_1 : Int).toNat a0.size) [.string (a0.extract (x6_1 : Int).toNat a0.size)] from rfl) (Reps.none _ _)) HM rfl ?_; clear HM; intro v19 w18 HM; obtain ⟨Xv19, kv19, rfl⟩ := HM.rdR 1 rfl) | ((with_reducible refine gate_builtin (b := .append) (xs := #[.tmp 29, .tmp 33]) rfl ?_); refine pA 0 (.tmp 29) (.tmp 33) 47 9 Kd.string u5 x5_1 [a0.extract (x6_1 : Int).toNat a0.size] Xv19 ([a0.extract (x6_1 : Int).toNat a0.size].length) kv19 HM rfl Try.underlying47 info9 rfl (HM.CR 1 rfl).2.2 (by have h_ := LMc17.out; simp only [List.length_singleton]; omega) ?_; clear HM; intro v108 w20 HM))
    go_ret
    exact ⟨_, ER, (MD HM).pick [0]⟩
def spec_Lines.f (k : Nat) (a0 : ByteArray) : Option (List ByteArray) := (spec_l01Cut.f k a0 10).bind fun t110 => (if 0 ≤ (wrap64 ((t110.length : Int) - 1)) then (if (wrap64 ((t110.length : Int) - 1)) < (t110.length : Int) then (if (rdOf ByteArray.empty t110 (wrap64 ((t110.length : Int) - 1))).toList = ([] : List UInt8) then (if (wrap64 ((t110.length : Int) - 1)) ≤ (t110.length : Int) then (some (t110.take ((wrap64 ((t110.length : Int) - 1)) : Int).toNat)) else (none)) else (some t110)) else (none)) else (none))
theorem spec_Lines.calls (k : Nat) (a0 : ByteArray) (r : List ByteArray) (w : World)  (h : spec_Lines.f k a0 = some r) :
  Calls Try.prog 49 #[.string a0] w fun e w' => ∃ v0_ : Value, e = .returned (v0_) ∧ Mem w [] w' [rowR Kd.string 9 v0_ r] := by
 have HM := Mem.nil w
 have H := h
 clear h
 unfold spec_Lines.f at H
 go_enter Try.func49, Try.ntmps49
 replace H := BN H; obtain ⟨t110, A2, H⟩ := H
 replace H := GD H; obtain ⟨c5, H⟩ := H
 have c5b0 := decide_eq_true c5
 clear c5
 replace H := GD H; obtain ⟨c6, H⟩ := H
 have c6b0 := decide_eq_true c6
 clear c6
 go_upto_if 12 with (first | ((with_reducible refine gC 109 rfl ?_); refine pC (some 5) rfl #[.string a0, .int .u8 10] rfl Try.func109 (spec_l01Cut.calls k a0 10 t110 _ A2.out) ?_; rintro e w3 ⟨v111, rfl, hR⟩; refine ⟨_, rfl, ?_⟩; replace HM := HM.call hR; clear hR; obtain ⟨Xo4, ko4, rfl⟩ := HM.rdR 0 rfl; have p113 : 0 ≤ ((wrap64 ((t110.length : Int) - 1)) : Int) := of_decide_eq_true AS; have q113 : ((wrap64 ((t110.length : Int) - 1)) : Int) < (t110.length : Int) := of_decide_eq_true AS; obtain ⟨ad113, e113, hx113_0⟩ := Kd.at_string (HM.CR 0 rfl).2.2 (wrap64 ((t110.length : Int) - 1)) p113 q113; cases e113; replace p113 := eq_true p113; replace q113 := eq_true q113))
 replace H := IT H; rcases H with ⟨c7, H⟩ | ⟨c7, H⟩
 ·obtain ⟨c7b0, c7b1⟩ := BE c7
  have c7b6 : ((rdOf ByteArray.empty t110 (wrap64 ((t110.length : Int) - 1))).toList).isEmpty = true := by first | (rw [c7]; rfl) | (cases h_ : ((rdOf ByteArray.empty t110 (wrap64 ((t110.length : Int) - 1))).toList) with | nil => exact absurd h_ c7 | cons _ _ => rfl)
  clear c7
  first|rw [c7b0]|rw [c7b1]|rw [c7b6]|(simp only [bne, c7b6, Bool.not_true, Bool.not_false])|(simp only [i64_w, i32_w]; rw [c7b0])|skip
  replace H := GD H; obtain ⟨c8, H⟩ := H
  have c8b0 := eq_true c8
  have c8b1 : decide ((wrap64 ((t110.length : Int) - 1)) ≤ (t110.length : Int)) = true := decide_eq_true c8
  clear c8
  obtain rfl := Option.some.inj H
  go_wp2_with (first | ((with_reducible refine gate_sl (t := 47) rfl ?_); refine pT 0 47 9 Kd.string _ _ (wrap64 ((t110.length : Int) - 1)) t110 (some ad113) ko4 HM rfl Try.underlying47 info9 rfl (of_decide_eq_true AS) (by have h_ : ((wrap64 ((t110.length : Int) - 1)) : Int) ≤ ((t110.length : Int) : Int) := of_decide_eq_true AS; first | exact h_ | (have e_ := (HM.CR 0 rfl).1; omega)) ?_; clear HM; intro v115 HM))
  go_ret
  exact ⟨_, ER, (MD HM).pick [0]⟩
 ·obtain ⟨c7b0, c7b1⟩ := BF c7
  have c7b6 : ((rdOf ByteArray.empty t110 (wrap64 ((t110.length : Int) - 1))).toList).isEmpty = false := by first | (rw [c7]; rfl) | (cases h_ : ((rdOf ByteArray.empty t110 (wrap64 ((t110.length : Int) - 1))).toList) with | nil => exact absurd h_ c7 | cons _ _ => rfl)
  first|rw [c7b0]|rw [c7b1]|rw [c7b6]|(simp only [bne, c7b6, Bool.not_true, Bool.not_false])|(simp only [i64_w, i32_w]; rw [c7b0])|skip
  obtain rfl := Option.some.inj H
  go_wp2
  go_ret
  exact ⟨_, ER, (MD HM).pick [0]⟩
def spec_Cut.f (k : Nat) (a0 : ByteArray) : Option (List ByteArray) := (spec_l01Cut.f k a0 32).bind fun t117 => (some t117)
theorem spec_Cut.mono : ∀ a0 k, LeO (spec_Cut.f k a0) (spec_Cut.f (k + 1) a0) := by
 intro a0 k
 unfold spec_Cut.f
 repeat' first | (with_reducible first | exact spec_l01Cut.mono _ _ _ | exact LeO.refl _ | exact LeO.none _ | refine LeO.ite ?_ ?_ | refine LeO.bind ?_ (fun _ => ?_)) | exact LeO.none _ | refine LeO.ite ?_ ?_ | refine LeO.bind ?_ (fun _ => ?_)
theorem spec_Cut.calls (k : Nat) (a0 : ByteArray) (r : List ByteArray) (w : World)  (h : spec_Cut.f k a0 = some r) :
  Calls Try.prog 110 #[.string a0] w fun e w' => ∃ v0_ : Value, e = .returned (v0_) ∧ Mem w [] w' [rowR Kd.string 9 v0_ r] := by
 have HM := Mem.nil w
 have H := h
 clear h
 unfold spec_Cut.f at H
 go_enter Try.func110, Try.ntmps110
 replace H := BN H; obtain ⟨t117, A2, H⟩ := H
 obtain rfl := Option.some.inj H
 go_wp2_with (first | ((with_reducible refine gC 109 rfl ?_); refine pC (some 4) rfl #[.string a0, .int .u8 32] rfl Try.func109 (spec_l01Cut.calls k a0 32 t117 _ A2.out) ?_; rintro e w3 ⟨v118, rfl, hR⟩; refine ⟨_, rfl, ?_⟩; replace HM := HM.call hR; clear hR))
 go_ret
 exact ⟨_, ER, (MD HM).pick [0]⟩
end Go.Proofs.Ythnedklbobbkcaa.G

namespace Go.Proofs.Ythnedklbobbkcaa.G
open Go.RowKit Go.Proofs.YthnedklbobbkcaaW.PrintWords Go.Proofs.YthnedklbobbkcaaW.PrintLast Go.Proofs.YthnedklbobbkcaaW.PrintMore Go.Proofs.Ythnedklbobbkcaa.Sh
attribute [local go_sem] max2_int min2_int max_two min_two max_three min_three max_four min_four
set_option linter.unusedVariables false
set_option linter.unusedSimpArgs false
def spec_l21Word.f (a0 : Int) : Option (ByteArray) := if a0 = 1 then (some (⟨#[110, 101, 119]⟩ : ByteArray)) else (if a0 = 3 then (some (⟨#[97, 115, 107]⟩ : ByteArray)) else (if a0 = 4 then (some (⟨#[115, 104, 111, 119]⟩ : ByteArray)) else (if a0 = 5 then (some (⟨#[114, 97, 116, 101]⟩ : ByteArray)) else (if a0 = 6 then (some (⟨#[108, 97, 98]⟩ : ByteArray)) else (if a0 = 7 then (some (⟨#[115, 97, 118, 101]⟩ : ByteArray)) else (some (⟨#[]⟩ : ByteArray)))))))
theorem spec_l21Word.z0 {P : Prop} (h : P := by first | rfl | (simp; done) | (simp [*]; done)) : P := h
theorem spec_l21Word.calls (a0 : Int) (r : ByteArray) (w : World) (h : spec_l21Word.f a0 = some r) :
  Calls Try.prog 111 #[.int .i64 a0] w fun e w' => e = .returned (.string r) ∧ Drawn0 w w' := by
 have H : (if a0 = 1 then (some (⟨#[110, 101, 119]⟩ : ByteArray)) else (if a0 = 3 then (some (⟨#[97, 115, 107]⟩ : ByteArray)) else (if a0 = 4 then (some (⟨#[115, 104, 111, 119]⟩ : ByteArray)) else (if a0 = 5 then (some (⟨#[114, 97, 116, 101]⟩ : ByteArray)) else (if a0 = 6 then (some (⟨#[108, 97, 98]⟩ : ByteArray)) else (if a0 = 7 then (some (⟨#[115, 97, 118, 101]⟩ : ByteArray)) else (some (⟨#[]⟩ : ByteArray)))))))) = some r := h
 clear h
 by_cases c2 : a0 = 1
 ·rw [if_pos c2] at H
  have c2b0 : (a0 == 1) = true := beq_iff_eq.mpr c2
  have c2b1 : (a0 != 1) = false := bne_eq_false_iff_eq.mpr c2
  clear c2
  obtain rfl := Option.some.inj H
  go_enter Try.func111, Try.ntmps111
  go_wp2
  go_ret
  exact ⟨spec_l21Word.z0, DR⟩
 ·rw [if_neg c2] at H
  have c2b0 : (a0 == 1) = false := beq_eq_false_iff_ne.mpr c2
  have c2b1 : (a0 != 1) = true := bne_iff_ne.mpr c2
  by_cases c3 : a0 = 3
  ·rw [if_pos c3] at H
   have c3b0 : (a0 == 3) = true := beq_iff_eq.mpr c3
   have c3b1 : (a0 != 3) = false := bne_eq_false_iff_eq.mpr c3
   clear c3
   obtain rfl := Option.some.inj H
   go_enter Try.func111, Try.ntmps111
   go_wp2
   go_ret
   exact ⟨spec_l21Word.z0, DR⟩
  ·rw [if_neg c3] at H
   have c3b0 : (a0 == 3) = false := beq_eq_false_iff_ne.mpr c3
   have c3b1 : (a0 != 3) = true := bne_iff_ne.mpr c3
   by_cases c4 : a0 = 4
   ·rw [if_pos c4] at H
    have c4b0 : (a0 == 4) = true := beq_iff_eq.mpr c4
    have c4b1 : (a0 != 4) = false := bne_eq_false_iff_eq.mpr c4
    clear c4
    obtain rfl := Option.some.inj H
    go_enter Try.func111, Try.ntmps111
    go_wp2
    go_ret
    exact ⟨spec_l21Word.z0, DR⟩
   ·rw [if_neg c4] at H
    have c4b0 : (a0 == 4) = false := beq_eq_false_iff_ne.mpr c4
    have c4b1 : (a0 != 4) = true := bne_iff_ne.mpr c4
    by_cases c5 : a0 = 5
    ·rw [if_pos c5] at H
     have c5b0 : (a0 == 5) = true := beq_iff_eq.mpr c5
     have c5b1 : (a0 != 5) = false := bne_eq_false_iff_eq.mpr c5
     clear c5
     obtain rfl := Option.some.inj H
     go_enter Try.func111, Try.ntmps111
     go_wp2
     go_ret
     exact ⟨spec_l21Word.z0, DR⟩
    ·rw [if_neg c5] at H
     have c5b0 : (a0 == 5) = false := beq_eq_false_iff_ne.mpr c5
     have c5b1 : (a0 != 5) = true := bne_iff_ne.mpr c5
     by_cases c6 : a0 = 6
     ·rw [if_pos c6] at H
      have c6b0 : (a0 == 6) = true := beq_iff_eq.mpr c6
      have c6b1 : (a0 != 6) = false := bne_eq_false_iff_eq.mpr c6
      clear c6
      obtain rfl := Option.some.inj H
      go_enter Try.func111, Try.ntmps111
      go_wp2
      go_ret
      exact ⟨spec_l21Word.z0, DR⟩
     ·rw [if_neg c6] at H
      have c6b0 : (a0 == 6) = false := beq_eq_false_iff_ne.mpr c6
      have c6b1 : (a0 != 6) = true := bne_iff_ne.mpr c6
      by_cases c7 : a0 = 7
      ·rw [if_pos c7] at H
       have c7b0 : (a0 == 7) = true := beq_iff_eq.mpr c7
       have c7b1 : (a0 != 7) = false := bne_eq_false_iff_eq.mpr c7
       clear c7
       obtain rfl := Option.some.inj H
       go_enter Try.func111, Try.ntmps111
       go_wp2
       go_ret
       exact ⟨spec_l21Word.z0, DR⟩
      ·rw [if_neg c7] at H
       have c7b0 : (a0 == 7) = false := beq_eq_false_iff_ne.mpr c7
       have c7b1 : (a0 != 7) = true := bne_iff_ne.mpr c7
       obtain rfl := Option.some.inj H
       go_enter Try.func111, Try.ntmps111
       go_wp2
       go_ret
       exact ⟨spec_l21Word.z0, DR⟩
def spec_l01Num.f (a0 : Int) : Option (Bool) := if a0 ≥ 0 then (some (decide (a0 ≤ 4294967295))) else (some false)
theorem spec_l01Num.calls (a0 : Int) (r : Bool) (w : World) (h : spec_l01Num.f a0 = some r) :
  Calls Try.prog 164 #[.int .i64 a0] w fun e w' => e = .returned (.bool r) ∧ Drawn0 w w' := by
 have H : (if a0 ≥ 0 then (some (decide (a0 ≤ 4294967295))) else (some false)) = some r := h
 clear h
 by_cases c2 : a0 ≥ 0
 ·rw [if_pos c2] at H
  have c2b0 : decide (0 ≤ a0) = true := decide_eq_true c2
  clear c2
  obtain rfl := Option.some.inj H
  go_enter Try.func164, Try.ntmps164
  go_wp2
  go_ret
  exact ⟨by first | rfl | (simp; done) | (simp [*]; done), DR⟩
 ·rw [if_neg c2] at H
  have c2b0 : decide (0 ≤ a0) = false := decide_eq_false c2
  clear c2
  obtain rfl := Option.some.inj H
  go_enter Try.func164, Try.ntmps164
  go_wp2
  go_ret
  exact ⟨by first | rfl | (simp; done) | (simp [*]; done), DR⟩
def spec_NumText.f : Nat → Int → Option (ByteArray)
 | 0, _ => none
 | k + 1, a0 => (spec_l01Num.f a0).bind fun t128 => (if t128 = true then (if a0 < 10 then (some (strOfNums (([(wrap64 (48 + a0)) % 256] : List Int)))) else ((spec_NumText.f k (wrap64 (Int.tdiv a0 10))).bind fun t132 => ((some (([(wrap64 (48 + (Int.tmod a0 10))) % 256] : List Int) : List Int)).bind fun y133 => (if t132.size + (strOfNums y133).size ≤ 9223372036854775807 then (some (t132 ++ (strOfNums y133))) else (none))))) else (some (⟨#[]⟩ : ByteArray)))
theorem spec_NumText.mono_l : ∀ k, (∀ y0, LeO (spec_NumText.f k y0) (spec_NumText.f (k + 1) y0))
 | 0 => fun _ r h => by simp [spec_NumText.f] at h
 | k + 1 => by
  have ih0 := spec_NumText.mono_l k
  ·intro y0
   unfold spec_NumText.f
   repeat' first | (with_reducible first | exact ih0 _ | exact LeO.refl _ | exact LeO.none _ | refine LeO.ite ?_ ?_ | refine LeO.bind ?_ (fun _ => ?_)) | exact LeO.none _ | refine LeO.ite ?_ ?_ | refine LeO.bind ?_ (fun _ => ?_)
theorem spec_NumText.mono : ∀ a0 k, LeO (spec_NumText.f k a0) (spec_NumText.f (k + 1) a0) := by
 intro a0 k
 have ih0 := spec_NumText.mono_l k
 exact ih0 a0
def spec_NumText.T5 : Bool × List (List Nat × List Nat) := (true, [([], []), ([0], [0]), ([1], [1]), ([], []), ([3], [3]), ([4], [4]), ([5], [5]), ([6], [6]), ([7], [7]), ([2, 8], [2, 8]), ([9, 2, 0, 1, 2, 3, 4, 5, 6, 7, 8, 9], [9])])
def spec_NumText.B5 : List Nat := [0, 1, 3, 0, 8, 24, 56, 120, 248, 511, 1023]
theorem spec_NumText.tab5 : rtab .any (opsOf Try.f165 5) = spec_NumText.T5 := by kernel_rfl
theorem spec_NumText.bits5 : waitsOk spec_NumText.T5.2 spec_NumText.B5 = true := by kernel_rfl
theorem spec_NumText.z0 {P : Prop} (h : P := by simp only [putAll, Act.put, List.setIfInBounds_toArray, List.set_cons_zero, List.set_cons_succ]) : P := h
theorem spec_NumText.calls (k : Nat) : ∀ (a0 : Int) (r : ByteArray) (w : World) (h : spec_NumText.f k a0 = some r),
  Calls Try.prog 165 #[.int .i64 a0] w fun e w' => e = .returned (.string r) ∧ Below w.heap.size w w' := by
 induction k using Nat.strongRecOn with
 | _ k ih =>
 intro a0 r w h
 cases k with
 | zero => exact absurd h (by simp [spec_NumText.f])
 | succ k =>
 simp only [spec_NumText.f] at h
 have HB := Aside0.mk (Below.refl w.heap.size w)
 have H : ((spec_l01Num.f a0).bind fun t128 => (if t128 = true then (if a0 < 10 then (some (strOfNums (([(wrap64 (48 + a0)) % 256] : List Int)))) else ((spec_NumText.f k (wrap64 (Int.tdiv a0 10))).bind fun t132 => ((some (([(wrap64 (48 + (Int.tmod a0 10))) % 256] : List Int) : List Int)).bind fun y133 => (if t132.size + (strOfNums y133).size ≤ 9223372036854775807 then (some (t132 ++ (strOfNums y133))) else (none))))) else (some (⟨#[]⟩ : ByteArray)))) = some r := h
 clear h
 replace H := BS H
 obtain ⟨t128, A20, H⟩ := H
 have A2 := Aside0.mk A20
 clear A20
 by_cases c3 : t128 = true
 ·subst c3
  replace H := IP H
  by_cases c4 : a0 < 10
  ·rw [if_pos c4] at H
   have c4b0 : decide (a0 < 10) = true := decide_eq_true c4
   clear c4
   obtain ⟨y129, hy129⟩ : ∃ y_ : List Int, y_ = (([(wrap64 (48 + a0)) % 256] : List Int)) := ⟨_, rfl⟩
   replace H : (some (strOfNums y129)) = some r := by first | (rw [hy129]; with_reducible exact H) | (have H2_ := (Option.bind_some _ _).symm.trans H; rw [hy129]; with_reducible exact H2_) | (have H2_ := (Option.bind_some _ _).symm.trans H; with_reducible exact H2_) | with_reducible exact H | (rw [hy129]; exact H) | exact H
   have Ny129 := Aside0.mk hy129
   clear hy129
   obtain rfl := Option.some.inj H
   go_enter Try.func165, Try.ntmps165
   go_wp2_with (first | ((with_reducible refine gate_callee (f := 164) rfl ?_); refine goesL_ (some 4) rfl rfl Try.func164 (by kernel_rfl) rfl #[.int .i64 a0] rfl AQ ?_; (with_reducible refine (spec_l01Num.calls a0 true _ A2.out).mono ?_); rintro e w' ⟨rfl, ⟨nd, rfl⟩⟩; refine ⟨_, rfl, ?_⟩) | ((with_reducible refine gate_dst (N := 11) rfl ?_); refine Kd.R_lit (Kd.int .u8) _ 5 ?hg (N := 11) ?hd (xs := ([(wrap64 (48 + a0)) % 256] : List Int)) (inner := [.int .u8 ((wrap64 (48 + a0)) % 256)]) (ok := fun _ => True) (okp := fun _ => True) ?hr ?hp (fun _ hk => hk) trivial (Below.refl _ _) (Nat.le_refl _) (by simp) ?_; (case hd => rfl); (case hg => rfl); (case hr => first | (go_simp; done) | (go_simp; rfl)); (case hp => exact (Reps.one (show Kd.M (Kd.int .u8) _ _ _ ((wrap64 (48 + a0)) % 256) [.int .u8 ((wrap64 (48 + a0)) % 256)] from rfl) (Reps.none _ _))); intro v130 w5 ho6 hb hg_ hnew_; clear hg_ hnew_; (first | rw [← Ny129.out] at ho6 | (simp only [Int.reduceToNat] at ho6; rw [← Ny129.out] at ho6)); have n_ : _ ∧ _ := ⟨AsM (Kd.R_lower ho6 (below_size BL)), AsM (below_step BL hb)⟩; clear HB; obtain ⟨HO131, HB⟩ := n_; clear hb ho6; have hcv7 := own_string (P := Try.prog) Try.underlying28 Try.underlying5 Try.underlying9 (Kd.own_of_R HO131.out)))
   go_ret
   exact ⟨ER, BL⟩
  ·rw [if_neg c4] at H
   have c4b0 : decide (a0 < 10) = false := decide_eq_false c4
   clear c4
   replace H := BS H
   obtain ⟨t132, A80, H⟩ := H
   have A8 := Aside0.mk A80
   clear A80
   obtain ⟨y133, hy133⟩ : ∃ y_ : List Int, y_ = (([(wrap64 (48 + (Int.tmod a0 10))) % 256] : List Int)) := ⟨_, rfl⟩
   replace H : (if t132.size + (strOfNums y133).size ≤ 9223372036854775807 then (some (t132 ++ (strOfNums y133))) else (none)) = some r := by first | (rw [hy133]; with_reducible exact H) | (have H2_ := (Option.bind_some _ _).symm.trans H; rw [hy133]; with_reducible exact H2_) | (have H2_ := (Option.bind_some _ _).symm.trans H; with_reducible exact H2_) | with_reducible exact H | (rw [hy133]; exact H) | exact H
   have Ny133 := Aside0.mk hy133
   clear hy133
   by_cases c9 : t132.size + (strOfNums y133).size ≤ 9223372036854775807
   ·rw [if_pos c9] at H
    have c9b0 := eq_true c9
    have c9b1 : decide (t132.size + (strOfNums y133).size ≤ 9223372036854775807) = true := decide_eq_true c9
    try have c9b2 : (9223372036854775807 < t132.size + (strOfNums y133).size) = False := eq_false (Nat.not_lt.2 c9)
    obtain rfl := Option.some.inj H
    go_enter Try.func165, Try.ntmps165
    try go_wp2_with (first | ((with_reducible refine gate_callee (f := 164) rfl ?_); refine goesL_ (some 4) rfl rfl Try.func164 (by kernel_rfl) rfl #[.int .i64 a0] rfl AQ ?_; (with_reducible refine (spec_l01Num.calls a0 true _ A2.out).mono ?_); rintro e w' ⟨rfl, ⟨nd, rfl⟩⟩; refine ⟨_, rfl, ?_⟩))
    rw [drewN_self w]; generalize hq_ : World.drewN w _ = w10; have n0_ : Aside0 (Below w.heap.size w w10) := ⟨by rw [← hq_]; exact BL⟩; clear HB hq_; have HB := n0_; clear n0_
    have n_ := AsM (below_drew1 HB.out)
    clear HB
    have HB := n_
    clear n_
    refine start_ (n := 11) (S := fun w' => True) (ds := []) #[false, false, false, false, false, false, false, false, false, false, false] (by kernel_rfl) rfl rfl trivial (fun hHeld => ?_); refine with_tabW spec_NumText.tab5 spec_NumText.bits5 (fun HT_ HW_ => ?_)
    generalize w10.drew = w11 at HB hHeld ⊢
    refine PU (i := 0) (N := some 13) (tf 1 10) rfl rfl HT_ ?_
    refine PU (i := 1) (N := some 14) (tf 2 9) rfl rfl HT_ ?_
    refine PU (i := 3) (N := some 16) #[true, true, false, true, false, false, false, false, false, false, false] rfl rfl HT_ ?_
    refine PU (i := 4) (N := some 17) #[true, true, false, true, true, false, false, false, false, false, false] rfl rfl HT_ ?_
    refine PU (i := 5) (N := some 18) #[true, true, false, true, true, true, false, false, false, false, false] rfl rfl HT_ ?_
    refine PU (i := 6) (N := some 19) #[true, true, false, true, true, true, true, false, false, false, false] rfl rfl HT_ ?_
    refine join_ (σ := Value) 2 #[true, true, true, true, true, true, true, true, true, false, false] (fun s_ => [(15, .string t132), (20, s_), (21, .string (strOfNums y133))]) (fun s_ w' => (Kd.R (Kd.int .u8) 5 w' w.heap.size (fun _ => True) s_ y133) ∧ (Below w.heap.size w w')) ?_ ?_
    rotate_left
    ·intro hCont
     refine two_ (i := 2) (j := 7) (Ni := some 15) (Nj := some 20) #[true, true, true, true, true, true, true, false, false, false, false] #[true, true, false, true, true, true, true, true, false, false, false] rfl rfl rfl rfl (two_of HT_.out (by kernel_rfl)) (by decide) (by decide) (fun K hK => ?_) (fun K hK => ?_)
     ·skip
      refine goes_ Try.func165 (by kernel_rfl) rfl #[.int .i64 (wrap64 (Int.tdiv a0 10))] (by rfl) rfl rfl AQ ?_
      with_reducible refine (ih k (by omega) (wrap64 (Int.tdiv a0 10)) t132 _ A8.out).mono ?_
      rintro e w12 ⟨rfl, hb⟩
      refine ⟨_, rfl, ?_⟩
      have n_ := AsM (below_step BL hb)
      clear HB
      have HB := n_
      clear n_
      (try clear hb)
      (try clear hb2)
      (try clear hk)
      (try clear hi)
      refine hK.out _ _ trivial (fun hHeld => ?_)
      clear hK K
      refine NM (some 15) ?_
      refine one_ (i := 7) (N := some 20) (tf 8 3) rfl rfl (one_of HT_.out (by kernel_rfl)) (by decide) (fun K hK => ?_)
      refine Kd.R_lit_step (Kd.int .u8) _ 5 ?hg (N := 20) ?hd (xs := ([(wrap64 (48 + (Int.tmod a0 10))) % 256] : List Int)) (inner := [.int .u8 ((wrap64 (48 + (Int.tmod a0 10))) % 256)]) (ok := fun _ => True) (okp := fun _ => True) ?hr ?hp (fun _ hk => hk) trivial (Below.refl _ _) (Nat.le_refl _) (by simp) ?_; (case hd => rfl); (case hg => rfl); (case hr => first | (go_simp; done) | (go_simp; rfl)); (case hp => exact (Reps.one (show Kd.M (Kd.int .u8) _ _ _ ((wrap64 (48 + (Int.tmod a0 10))) % 256) [.int .u8 ((wrap64 (48 + (Int.tmod a0 10))) % 256)] from rfl) (Reps.none _ _)))
      intro v134 w13 ho14 hb hg_ hnew_
      clear hg_ hnew_
      (first | rw [← Ny133.out] at ho14 | (simp only [Int.reduceToNat] at ho14; rw [← Ny133.out] at ho14))
      have n_ : _ ∧ _ := ⟨AsM (Kd.R_lower ho14 (below_size BL)), AsM (below_step BL hb)⟩
      clear HB
      obtain ⟨HO135, HB⟩ := n_
      clear hb ho14
      refine hK.out _ _ trivial (fun hHeld => ?_)
      clear hK K
      refine NM (some 20) ?_
      refine one_ (i := 8) (N := some 21) (tf 9 2) rfl rfl (one_of HT_.out (by kernel_rfl)) (by decide) (fun K hK => ?_)
      have hcv15 := own_string (P := Try.prog) Try.underlying28 Try.underlying5 Try.underlying9 (Kd.own_of_R HO135.out)
      refine value_ (w1 := ?_) (v := ?_) (by rfl) rfl ?_ ?_
      rotate_left 2
      ·go_simp
       constructor
       ·rfl
       ·rfl
      clear hcv15
      refine hK.out _ _ trivial (fun hHeld => ?_)
      clear hK K
      refine NM (some 21) ?_
      exact norm_ (spec_NumText.z0) (hCont (v134) _ ⟨(RD HO135), BL⟩)
     ·skip
      refine Kd.R_lit_step (Kd.int .u8) _ 5 ?hg (N := 20) ?hd (xs := ([(wrap64 (48 + (Int.tmod a0 10))) % 256] : List Int)) (inner := [.int .u8 ((wrap64 (48 + (Int.tmod a0 10))) % 256)]) (ok := fun _ => True) (okp := fun _ => True) ?hr ?hp (fun _ hk => hk) trivial (Below.refl _ _) (Nat.le_refl _) (by simp) ?_; (case hd => rfl); (case hg => rfl); (case hr => first | (go_simp; done) | (go_simp; rfl)); (case hp => exact (Reps.one (show Kd.M (Kd.int .u8) _ _ _ ((wrap64 (48 + (Int.tmod a0 10))) % 256) [.int .u8 ((wrap64 (48 + (Int.tmod a0 10))) % 256)] from rfl) (Reps.none _ _)))
      intro v134 w12 ho13 hb hg_ hnew_
      clear hg_ hnew_
      (first | rw [← Ny133.out] at ho13 | (simp only [Int.reduceToNat] at ho13; rw [← Ny133.out] at ho13))
      have n_ : _ ∧ _ := ⟨AsM (Kd.R_lower ho13 (below_size BL)), AsM (below_step BL hb)⟩
      clear HB
      obtain ⟨HO135, HB⟩ := n_
      clear hb ho13
      refine hK.out _ _ trivial (fun hHeld => ?_)
      clear hK K
      refine NM (some 20) ?_
      refine two_ (i := 2) (j := 8) (Ni := some 15) (Nj := some 21) #[true, true, true, true, true, true, true, true, false, false, false] #[true, true, false, true, true, true, true, true, true, false, false] rfl rfl rfl rfl (two_of HT_.out (by kernel_rfl)) (by decide) (by decide) (fun K hK => ?_) (fun K hK => ?_)
      ·skip
       refine goes_ Try.func165 (by kernel_rfl) rfl #[.int .i64 (wrap64 (Int.tdiv a0 10))] (by rfl) rfl rfl AQ ?_
       with_reducible refine (ih k (by omega) (wrap64 (Int.tdiv a0 10)) t132 _ A8.out).mono ?_
       rintro e w14 ⟨rfl, hb⟩
       refine ⟨_, rfl, ?_⟩
       have n_ : _ ∧ _ := ⟨AsM (Kd.R_below (RD HO135) hb), AsM (below_step BL hb)⟩
       clear HO135 HB
       obtain ⟨HO135, HB⟩ := n_
       (try clear hb)
       (try clear hb2)
       (try clear hk)
       (try clear hi)
       refine hK.out _ _ trivial (fun hHeld => ?_)
       clear hK K
       refine NM (some 15) ?_
       refine one_ (i := 8) (N := some 21) (tf 9 2) rfl rfl (one_of HT_.out (by kernel_rfl)) (by decide) (fun K hK => ?_)
       have hcv15 := own_string (P := Try.prog) Try.underlying28 Try.underlying5 Try.underlying9 (Kd.own_of_R HO135.out)
       refine value_ (w1 := ?_) (v := ?_) (by rfl) rfl ?_ ?_
       rotate_left 2
       ·go_simp
        constructor
        ·rfl
        ·rfl
       clear hcv15
       refine hK.out _ _ trivial (fun hHeld => ?_)
       clear hK K
       refine NM (some 21) ?_
       exact norm_ (spec_NumText.z0) (hCont (v134) _ ⟨(RD HO135), BL⟩)
      ·skip
       have hcv14 := own_string (P := Try.prog) Try.underlying28 Try.underlying5 Try.underlying9 (Kd.own_of_R HO135.out)
       refine value_ (w1 := ?_) (v := ?_) (by rfl) rfl ?_ ?_
       rotate_left 2
       ·go_simp
        constructor
        ·rfl
        ·rfl
       clear hcv14
       refine hK.out _ _ trivial (fun hHeld => ?_)
       clear hK K
       refine NM (some 21) ?_
       refine one_ (i := 2) (N := some 15) (tf 9 2) rfl rfl (one_of HT_.out (by kernel_rfl)) (by decide) (fun K hK => ?_)
       refine goes_ Try.func165 (by kernel_rfl) rfl #[.int .i64 (wrap64 (Int.tdiv a0 10))] (by rfl) rfl rfl AQ ?_
       with_reducible refine (ih k (by omega) (wrap64 (Int.tdiv a0 10)) t132 _ A8.out).mono ?_
       rintro e w15 ⟨rfl, hb⟩
       refine ⟨_, rfl, ?_⟩
       have n_ : _ ∧ _ := ⟨AsM (Kd.R_below (RD HO135) hb), AsM (below_step BL hb)⟩
       clear HO135 HB
       obtain ⟨HO135, HB⟩ := n_
       (try clear hb)
       (try clear hb2)
       (try clear hk)
       (try clear hi)
       refine hK.out _ _ trivial (fun hHeld => ?_)
       clear hK K
       refine NM (some 15) ?_
       exact norm_ (spec_NumText.z0) (hCont (v134) _ ⟨(RD HO135), BL⟩)
    rintro v134 w16 ⟨h0_, h1_⟩
    have n0_ : Aside0 (Kd.R (Kd.int .u8) 5 w16 w.heap.size (fun _ => True) v134 y133) := ⟨h0_⟩
    have n1_ : Aside0 (Below w.heap.size w w16) := ⟨h1_⟩
    clear HB
    clear h0_ h1_
    have HO135 := n0_
    have HB := n1_
    clear n0_ n1_
    have hHeld := trivial
    refine norm_ (a' := ?_) ?_ ?_
    rotate_left
    ·simp only [putAll, Act.put, List.setIfInBounds_toArray, List.set_cons_zero, List.set_cons_succ]
     rfl
    refine PU (i := 9) (N := some 22) (tf 10 1) rfl rfl HT_ ?_
    refine PU (i := 10) (N := some 2) (tf 11 0) rfl rfl HT_ ?_
    refine done_ (done_of HT_.out (by kernel_rfl)) ?_
    try go_wp2
    go_ret
    exact ⟨ER, BL⟩
   ·rw [if_neg c9] at H
    exact absurd H (by simp)
 ·replace c3 := Bool.eq_false_iff.mpr c3
  subst c3
  replace H := IN H
  obtain rfl := Option.some.inj H
  go_enter Try.func165, Try.ntmps165
  go_wp2_with (first | ((with_reducible refine gate_callee (f := 164) rfl ?_); refine goesL_ (some 4) rfl rfl Try.func164 (by kernel_rfl) rfl #[.int .i64 a0] rfl AQ ?_; (with_reducible refine (spec_l01Num.calls a0 false _ A2.out).mono ?_); rintro e w' ⟨rfl, ⟨nd, rfl⟩⟩; refine ⟨_, rfl, ?_⟩))
  go_ret
  exact ⟨ER, BL⟩
end Go.Proofs.Ythnedklbobbkcaa.G

namespace Go.Proofs.Ythnedklbobbkcaa.G
open Go.RowKit Go.Proofs.YthnedklbobbkcaaW.PrintWords Go.Proofs.YthnedklbobbkcaaW.PrintLast Go.Proofs.YthnedklbobbkcaaW.PrintMore Go.Proofs.Ythnedklbobbkcaa.Sh
attribute [local go_sem] max2_int min2_int max_two min_two max_three min_three max_four min_four
set_option linter.unusedVariables false
set_option linter.unusedSimpArgs false
open Go.Proofs.Ythnedklbobbkcaa.Mm
mutual
def spec_TextNum.j0 : Nat → ByteArray → Bool → Option (Int × Bool)
 | 0, _, _ => none
 | k + 1, x0, x13 => if x13 = true then (some (0, false)) else (spec_TextNum.l0 k x0 0 0)
def spec_TextNum.l0 : Nat → ByteArray → Int → Int → Option (Int × Bool)
 | 0, _, _, _ => none
 | k + 1, x0, x4, x5 => if x5 < (x0.size : Int) then (if 0 ≤ x5 then (if (bt x0 x5) < 48 then (some (0, false)) else (if (bt x0 x5) > 57 then (some (0, false)) else (spec_TextNum.l0 k x0 (wrap64 ((wrap64 (x4 * 10)) + (((bt x0 x5) - 48) % 256))) (wrap64 (x5 + 1))))) else (none)) else ((spec_NumText.f k x4).bind fun t136 => (if t136.toList = x0.toList then (some (x4, true)) else (some (0, false))))
end
def spec_TextNum.f (k : Nat) (a0 : ByteArray) : Option (Int × Bool) := if (a0.size : Int) < 1 then (spec_TextNum.j0 k a0 true) else (spec_TextNum.j0 k a0 (decide ((a0.size : Int) > 10)))
theorem spec_TextNum.mono_l : ∀ k, (∀ y0 y1, LeO (spec_TextNum.j0 k y0 y1) (spec_TextNum.j0 (k + 1) y0 y1)) ∧ (∀ y0 y1 y2, LeO (spec_TextNum.l0 k y0 y1 y2) (spec_TextNum.l0 (k + 1) y0 y1 y2))
 | 0 => ⟨fun _ _ r h => by simp [spec_TextNum.j0] at h, fun _ _ _ r h => by simp [spec_TextNum.l0] at h⟩
 | k + 1 => by
  obtain ⟨ih0, ih1⟩ := spec_TextNum.mono_l k
  refine ⟨?_, ?_⟩
  ·intro y0 y1
   unfold spec_TextNum.j0
   repeat' first | (with_reducible first | exact ih0 _ _ | exact ih1 _ _ _ | exact spec_NumText.mono _ _ | exact LeO.refl _ | exact LeO.none _ | refine LeO.ite ?_ ?_ | refine LeO.bind ?_ (fun _ => ?_)) | exact LeO.none _ | refine LeO.ite ?_ ?_ | refine LeO.bind ?_ (fun _ => ?_)
  ·intro y0 y1 y2
   unfold spec_TextNum.l0
   repeat' first | (with_reducible first | exact ih0 _ _ | exact ih1 _ _ _ | exact spec_NumText.mono _ _ | exact LeO.refl _ | exact LeO.none _ | refine LeO.ite ?_ ?_ | refine LeO.bind ?_ (fun _ => ?_)) | exact LeO.none _ | refine LeO.ite ?_ ?_ | refine LeO.bind ?_ (fun _ => ?_)
theorem spec_TextNum.mono : ∀ a0 k, LeO (spec_TextNum.f k a0) (spec_TextNum.f (k + 1) a0) := by
 intro a0 k
 obtain ⟨ih0, ih1⟩ := spec_TextNum.mono_l k
 unfold spec_TextNum.f
 repeat' first | (with_reducible first | exact ih0 _ _ | exact ih1 _ _ _ | exact spec_NumText.mono _ _ | exact LeO.refl _ | exact LeO.none _ | refine LeO.ite ?_ ?_ | refine LeO.bind ?_ (fun _ => ?_)) | exact LeO.none _ | refine LeO.ite ?_ ?_ | refine LeO.bind ?_ (fun _ => ?_)
theorem spec_TextNum.calls (k : Nat) (a0 : ByteArray) (r1 : Int) (r2 : Bool) (w : World)  (h : spec_TextNum.f k a0 = some (r1, r2)) :
  Calls Try.prog 159 #[.string a0] w fun e w' => e = .returned (.tuple #[.int .i64 r1, .bool r2]) ∧ Mem w [] w' [] := by
 have HM := Mem.nil w
 have H := h
 clear h
 unfold spec_TextNum.f at H
 go_enter Try.func159, Try.ntmps159
 have HC2 := Aside0.mk H
 clear H
 go_upto_region 1 with (fail)
 go_cut [13] (fun v13 wc => ∃ (kq : Nat) (x13_1 : Bool), v13 = .bool x13_1 ∧ Aside0 (spec_TextNum.j0 kq a0 x13_1 = some (r1, r2)) ∧ Aside0 (kq ≤ k) ∧ Mem w [] wc [])
 case first =>
  have H := HC2.out
  clear HC2
  replace H := IT H; rcases H with ⟨c3, H⟩ | ⟨c3, H⟩
  ·replace c3 : (a0.size : Int) < 1 := c3
   have c3b0 := decide_eq_true c3
   have c3b1 : decide (a0.size < 1) = true := decide_eq_true (by omega)
   clear c3
   have H' := Aside0.mk H
   clear H
   go_wp2
   go_meet
   case rel => exact ⟨_, (true), RS, H', ⟨by first | omega | exact Nat.le_refl _⟩, (MD HM).pick []⟩
  ·replace c3 : ¬ ((a0.size : Int) < 1) := c3
   have c3b0 := decide_eq_false c3
   have c3b1 : decide (a0.size < 1) = false := decide_eq_false (by omega)
   clear c3
   have H' := Aside0.mk H
   clear H
   go_wp2
   go_meet
   case rel => exact ⟨_, (decide ((a0.size : Int) > 10)), RS, H', ⟨by first | omega | exact Nat.le_refl _⟩, (MD HM).pick []⟩
 case rest =>
  clear HC2 HM
  obtain ⟨kq, x13_1, rfl, HA, HJ1, HM⟩ := hcut
  cases kq with
  | zero => exact absurd HA.out (by simp [spec_TextNum.j0])
  | succ kj1 =>
   have H := HA.out
   clear HA
   simp only [spec_TextNum.j0] at H
   go_upto_if 13 with (fail)
   replace H := IB H
   rcases H with ⟨c4, H⟩ | ⟨c4, H⟩
   ·subst c4
    simp only [Option.some.injEq, Prod.mk.injEq] at H
    obtain ⟨rfl, rfl⟩ := H
    go_wp2
    go_ret2
    exact ⟨ER, (MD HM).pick []⟩
   ·subst c4
    have H' := Aside0.mk H
    clear H
    go_wp2
    go_loopg [4, 5] kj1 (fun kq v4 v5 w' => ∃ (x4_2 : Int) (x5_2 : Int), v4 = .int .i64 x4_2 ∧ v5 = .int .i64 x5_2 ∧ Aside0 (spec_TextNum.l0 kq a0 x4_2 x5_2 = some (r1, r2)) ∧ Aside0 (kq ≤ kj1) ∧ Mem w [] w' [])
    case atStart => exact ⟨(0), (0), RS, RS, H', ⟨Nat.le_refl _⟩, (MD HM).pick []⟩
    case round =>
     clear H' HM
     obtain ⟨x4_2, x5_2, rfl, rfl, HA, HK2, HM⟩ := hrel
     cases gk with
     | zero => exact absurd HA.out (by simp [spec_TextNum.l0])
     | succ k2 =>
      have H := HA.out
      clear HA
      simp only [spec_TextNum.l0] at H
      go_upto_if 17 with (fail)
      replace H := IT H; rcases H with ⟨c5, H⟩ | ⟨c5, H⟩
      ·have c5b0 := decide_eq_true c5
       clear c5
       first|rw [c5b0]|(simp only [i64_w, i32_w]; rw [c5b0])|skip
       replace H := GD H; obtain ⟨c6, H⟩ := H
       have c6b0 := decide_eq_true c6
       clear c6
       replace H := IT H; rcases H with ⟨c8, H⟩ | ⟨c8, H⟩
       ·have c8b0 := decide_eq_true c8
        clear c8
        simp only [Option.some.injEq, Prod.mk.injEq] at H
        obtain ⟨rfl, rfl⟩ := H
        have p7 : 0 ≤ (x5_2 : Int) := of_decide_eq_true AS
        have q7 : x5_2 < (a0.size : Int) := of_decide_eq_true AS
        have hx7 := bt_at a0 x5_2
        replace p7 := eq_true p7
        replace q7 := eq_true q7
        go_wp2
        go_ret2
        exact ⟨ER, (MD HM).pick []⟩
       ·have c8b0 := decide_eq_false c8
        clear c8
        have p7 : 0 ≤ (x5_2 : Int) := of_decide_eq_true AS
        have q7 : x5_2 < (a0.size : Int) := of_decide_eq_true AS
        have hx7 := bt_at a0 x5_2
        replace p7 := eq_true p7
        replace q7 := eq_true q7
        have p9 : 0 ≤ (x5_2 : Int) := of_decide_eq_true AS
        have q9 : x5_2 < (a0.size : Int) := of_decide_eq_true AS
        have hx9 := bt_at a0 x5_2
        replace p9 := eq_true p9
        replace q9 := eq_true q9
        go_upto_if 29 with (fail)
        replace H := IT H; rcases H with ⟨c10, H⟩ | ⟨c10, H⟩
        ·have c10b0 : decide (57 < (bt a0 x5_2)) = true := decide_eq_true c10
         clear c10
         first|rw [c10b0]|(simp only [i64_w, i32_w]; rw [c10b0])|skip
         simp only [Option.some.injEq, Prod.mk.injEq] at H
         obtain ⟨rfl, rfl⟩ := H
         go_wp2
         go_ret2
         exact ⟨ER, (MD HM).pick []⟩
        ·have c10b0 : decide (57 < (bt a0 x5_2)) = false := decide_eq_false c10
         clear c10
         first|rw [c10b0]|(simp only [i64_w, i32_w]; rw [c10b0])|skip
         have H' := Aside0.mk H
         clear H
         have p11 : 0 ≤ (x5_2 : Int) := of_decide_eq_true AS
         have q11 : x5_2 < (a0.size : Int) := of_decide_eq_true AS
         have hx11 := bt_at a0 x5_2
         replace p11 := eq_true p11
         replace q11 := eq_true q11
         go_wp2
         go_roundg k2
         case measure => have := HJ1.out; have := HK2.out; omega
         case rel => exact ⟨(wrap64 ((wrap64 (x4_2 * 10)) + (((bt a0 x5_2) - 48) % 256))), (wrap64 (x5_2 + 1)), RS, RS, H', ⟨by have := HJ1.out; have := HK2.out; omega⟩, (MD HM).pick []⟩
      ·have c5b0 := decide_eq_false c5
       clear c5
       first|rw [c5b0]|(simp only [i64_w, i32_w]; rw [c5b0])|skip
       replace H := BN H; obtain ⟨t136, A12, H⟩ := H
       go_upto_if 41 with (first | ((with_reducible refine gC 165 rfl ?_); refine pC (some 39) rfl #[.int .i64 x4_2] rfl Try.func165 (spec_NumText.calls k2 x4_2 t136 _ A12.out) ?_; rintro e w13 ⟨rfl, hb⟩; refine ⟨_, rfl, ?_⟩; replace HM := HM.below hb; clear hb))
       replace H := IT H; rcases H with ⟨c14, H⟩ | ⟨c14, H⟩
       ·obtain ⟨c14b0, c14b1⟩ := BE c14
        clear c14
        first|rw [c14b0]|(simp only [i64_w, i32_w]; rw [c14b0])|skip
        simp only [Option.some.injEq, Prod.mk.injEq] at H
        obtain ⟨rfl, rfl⟩ := H
        go_wp2
        go_ret2
        exact ⟨ER, (MD HM).pick []⟩
       ·obtain ⟨c14b0, c14b1⟩ := BF c14
        first|rw [c14b0]|(simp only [i64_w, i32_w]; rw [c14b0])|skip
        simp only [Option.some.injEq, Prod.mk.injEq] at H
        obtain ⟨rfl, rfl⟩ := H
        go_wp2
        go_ret2
        exact ⟨ER, (MD HM).pick []⟩
def spec_l21Num.f (k : Nat) (l0 : List ByteArray) (a1 : Int) : Option (Int) := if a1 ≥ (l0.length : Int) then (some 0) else (if 0 ≤ a1 then (if a1 < (l0.length : Int) then ((spec_TextNum.f k (rdOf ByteArray.empty l0 a1)).bind fun bt138 => (some bt138.1)) else (none)) else (none))
theorem spec_l21Num.mono : ∀ a0 a1 k, LeO (spec_l21Num.f k a0 a1) (spec_l21Num.f (k + 1) a0 a1) := by
 intro a0 a1 k
 unfold spec_l21Num.f
 repeat' first | (with_reducible first | exact spec_TextNum.mono _ _ | exact LeO.refl _ | exact LeO.none _ | refine LeO.ite ?_ ?_ | refine LeO.bind ?_ (fun _ => ?_)) | exact LeO.none _ | refine LeO.ite ?_ ?_ | refine LeO.bind ?_ (fun _ => ?_)
theorem spec_l21Num.calls (k : Nat) (A0 : Option Addr) (c0 : Nat) (l0 : List ByteArray) (a1 : Int) (r : Int) (w : World) (hr0 : Kd.C Kd.string w A0 l0.length l0) (hc0 : l0.length ≤ c0) (h : spec_l21Num.f k l0 a1 = some r) :
  Calls Try.prog 112 #[.slice A0 l0.length c0, .int .i64 a1] w fun e w' => e = .returned (.int .i64 r) ∧ Mem w [] w' [] := by
 have HR0 := Aside0.mk hr0
 have HC0 := Aside0.mk hc0
 clear hr0 hc0
 have HM := Mem.nil w
 have H := h
 clear h
 unfold spec_l21Num.f at H
 go_enter Try.func112, Try.ntmps112
 go_upto_if 10 with (fail)
 replace H := IT H; rcases H with ⟨c3, H⟩ | ⟨c3, H⟩
 ·have c3b0 : decide ((l0.length : Int) ≤ a1) = true := decide_eq_true c3
  clear c3
  first|rw [c3b0]|(simp only [i64_w, i32_w]; rw [c3b0])|skip
  obtain rfl := Option.some.inj H
  go_wp2
  go_ret
  exact ⟨ER, (MD HM).pick []⟩
 ·have c3b0 : decide ((l0.length : Int) ≤ a1) = false := decide_eq_false c3
  clear c3
  first|rw [c3b0]|(simp only [i64_w, i32_w]; rw [c3b0])|skip
  replace H := GD H; obtain ⟨c4, H⟩ := H
  have c4b0 := decide_eq_true c4
  clear c4
  replace H := GD H; obtain ⟨c5, H⟩ := H
  have c5b0 := decide_eq_true c5
  clear c5
  replace H := BN H; obtain ⟨⟨t138, t139⟩, A6, H⟩ := H
  obtain rfl := Option.some.inj H
  have p137 : 0 ≤ (a1 : Int) := of_decide_eq_true AS
  have q137 : (a1 : Int) < (l0.length : Int) := of_decide_eq_true AS
  obtain ⟨ad137, e137, hx137_0⟩ := Kd.at_string (HM.came HR0.out) a1 p137 q137
  cases e137
  replace p137 := eq_true p137
  replace q137 := eq_true q137
  go_wp2_with (first | ((with_reducible refine gC 159 rfl ?_); refine pC (some 16) rfl #[.string (rdOf ByteArray.empty l0 a1)] rfl Try.func159 (spec_TextNum.calls k (rdOf ByteArray.empty l0 a1) t138 t139 _ A6.out) ?_; rintro e w7 ⟨rfl, hR⟩; refine ⟨_, rfl, ?_⟩; replace HM := HM.call hR; clear hR))
  go_ret
  exact ⟨ER, (MD HM).pick []⟩
end Go.Proofs.Ythnedklbobbkcaa.G

namespace Go.Proofs.Ythnedklbobbkcaa.G
open Go.RowKit Go.Proofs.YthnedklbobbkcaaW.PrintWords Go.Proofs.YthnedklbobbkcaaW.PrintLast Go.Proofs.YthnedklbobbkcaaW.PrintMore Go.Proofs.Ythnedklbobbkcaa.Sh
attribute [local go_sem] max2_int min2_int max_two min_two max_three min_three max_four min_four
set_option linter.unusedVariables false
set_option linter.unusedSimpArgs false
def spec_l01In.f (a0 : Int) (a1 : Int) (a2 : Int) : Option (Bool) := if a0 ≥ a1 then (some (decide (a0 ≤ a2))) else (some false)
theorem spec_l01In.calls (a0 : Int) (a1 : Int) (a2 : Int) (r : Bool) (w : World) (h : spec_l01In.f a0 a1 a2 = some r) :
  Calls Try.prog 185 #[.int .i64 a0, .int .i64 a1, .int .i64 a2] w fun e w' => e = .returned (.bool r) ∧ Drawn0 w w' := by
 have H : (if a0 ≥ a1 then (some (decide (a0 ≤ a2))) else (some false)) = some r := h
 clear h
 by_cases c4 : a0 ≥ a1
 ·rw [if_pos c4] at H
  have c4b0 : decide (a1 ≤ a0) = true := decide_eq_true c4
  clear c4
  obtain rfl := Option.some.inj H
  go_enter Try.func185, Try.ntmps185
  go_wp2
  go_ret
  exact ⟨by first | rfl | (simp; done) | (simp [*]; done), DR⟩
 ·rw [if_neg c4] at H
  have c4b0 : decide (a1 ≤ a0) = false := decide_eq_false c4
  clear c4
  obtain rfl := Option.some.inj H
  go_enter Try.func185, Try.ntmps185
  go_wp2
  go_ret
  exact ⟨by first | rfl | (simp; done) | (simp [*]; done), DR⟩
def spec_l10Clean.l0 : Nat → ByteArray → Int → Option (Bool)
 | 0, _, _ => none
 | k + 1, x0, x3 => if x3 < (x0.size : Int) then (if 0 ≤ x3 then (if (bt x0 x3) = 32 then (some false) else (if (bt x0 x3) = 10 then (some false) else (spec_l10Clean.l0 k x0 (wrap64 (x3 + 1))))) else (none)) else (some true)
def spec_l10Clean.f (k : Nat) (a0 : ByteArray) : Option (Bool) := spec_l10Clean.l0 k a0 0
theorem spec_l10Clean.mono_l : ∀ k, (∀ y0 y1, LeO (spec_l10Clean.l0 k y0 y1) (spec_l10Clean.l0 (k + 1) y0 y1))
 | 0 => fun _ _ r h => by simp [spec_l10Clean.l0] at h
 | k + 1 => by
  have ih0 := spec_l10Clean.mono_l k
  ·intro y0 y1
   unfold spec_l10Clean.l0
   repeat' first | (with_reducible first | exact ih0 _ _ | exact LeO.refl _ | exact LeO.none _ | refine LeO.ite ?_ ?_ | refine LeO.bind ?_ (fun _ => ?_)) | exact LeO.none _ | refine LeO.ite ?_ ?_ | refine LeO.bind ?_ (fun _ => ?_)
theorem spec_l10Clean.mono : ∀ a0 k, LeO (spec_l10Clean.f k a0) (spec_l10Clean.f (k + 1) a0) := by
 intro a0 k
 have ih0 := spec_l10Clean.mono_l k
 unfold spec_l10Clean.f
 repeat' first | (with_reducible first | exact ih0 _ _ | exact LeO.refl _ | exact LeO.none _ | refine LeO.ite ?_ ?_ | refine LeO.bind ?_ (fun _ => ?_)) | exact LeO.none _ | refine LeO.ite ?_ ?_ | refine LeO.bind ?_ (fun _ => ?_)
theorem spec_l10Clean.calls (k : Nat) (a0 : ByteArray) (r : Bool) (w : World) (h : spec_l10Clean.f k a0 = some r) :
  Calls Try.prog 189 #[.string a0] w fun e w' => e = .returned (.bool r) ∧ Drawn0 w w' := by
 have H : (spec_l10Clean.l0 k a0 0) = some r := h
 clear h
 have H' := Aside0.mk H
 clear H
 go_enter Try.func189, Try.ntmps189
 go_wp2
 go_loopg [3] k (fun kq v3 w' => ∃ (x3_1 : Int), v3 = .int .i64 x3_1 ∧ Aside0 (spec_l10Clean.l0 kq a0 x3_1 = some r) ∧ Aside0 (kq ≤ k) ∧ Drawn0 w w')
 case atStart => exact ⟨(0), RS, H', ⟨Nat.le_refl _⟩, DR⟩
 case round =>
  clear H'
  try clear c1
  obtain ⟨x3_1, rfl, HA, HK1, ⟨m1, rfl⟩⟩ := hrel
  cases gk with
  | zero => exact absurd HA.out (by simp [spec_l10Clean.l0])
  | succ k1 =>
   have H := HA.out
   clear HA
   simp only [spec_l10Clean.l0] at H
   by_cases c2 : x3_1 < (a0.size : Int)
   ·rw [if_pos c2] at H
    have c2b0 : decide (x3_1 < (a0.size : Int)) = true := decide_eq_true c2
    clear c2
    by_cases c3 : 0 ≤ x3_1
    ·rw [if_pos c3] at H
     have c3b0 : decide (0 ≤ x3_1) = true := decide_eq_true c3
     clear c3
     by_cases c5 : (bt a0 x3_1) = 32
     ·rw [if_pos c5] at H
      have c5b0 : ((bt a0 x3_1) == 32) = true := beq_iff_eq.mpr c5
      have c5b1 : ((bt a0 x3_1) != 32) = false := bne_eq_false_iff_eq.mpr c5
      clear c5
      obtain rfl := Option.some.inj H
      have p4 : 0 ≤ (x3_1 : Int) := of_decide_eq_true AS
      have q4 : x3_1 < (a0.size : Int) := of_decide_eq_true AS
      have hx4 := bt_at a0 x3_1
      replace p4 := eq_true p4
      replace q4 := eq_true q4
      go_wp2
      go_ret
      exact ⟨by first | rfl | (simp; done) | (simp [*]; done), DR⟩
     ·rw [if_neg c5] at H
      have c5b0 : ((bt a0 x3_1) == 32) = false := beq_eq_false_iff_ne.mpr c5
      have c5b1 : ((bt a0 x3_1) != 32) = true := bne_iff_ne.mpr c5
      by_cases c7 : (bt a0 x3_1) = 10
      ·rw [if_pos c7] at H
       have c7b0 : ((bt a0 x3_1) == 10) = true := beq_iff_eq.mpr c7
       have c7b1 : ((bt a0 x3_1) != 10) = false := bne_eq_false_iff_eq.mpr c7
       clear c7
       obtain rfl := Option.some.inj H
       have p4 : 0 ≤ (x3_1 : Int) := of_decide_eq_true AS
       have q4 : x3_1 < (a0.size : Int) := of_decide_eq_true AS
       have hx4 := bt_at a0 x3_1
       replace p4 := eq_true p4
       replace q4 := eq_true q4
       have p6 : 0 ≤ (x3_1 : Int) := of_decide_eq_true AS
       have q6 : x3_1 < (a0.size : Int) := of_decide_eq_true AS
       have hx6 := bt_at a0 x3_1
       replace p6 := eq_true p6
       replace q6 := eq_true q6
       go_wp2
       go_ret
       exact ⟨by first | rfl | (simp; done) | (simp [*]; done), DR⟩
      ·rw [if_neg c7] at H
       have c7b0 : ((bt a0 x3_1) == 10) = false := beq_eq_false_iff_ne.mpr c7
       have c7b1 : ((bt a0 x3_1) != 10) = true := bne_iff_ne.mpr c7
       have H' := Aside0.mk H
       clear H
       have p4 : 0 ≤ (x3_1 : Int) := of_decide_eq_true AS
       have q4 : x3_1 < (a0.size : Int) := of_decide_eq_true AS
       have hx4 := bt_at a0 x3_1
       replace p4 := eq_true p4
       replace q4 := eq_true q4
       have p6 : 0 ≤ (x3_1 : Int) := of_decide_eq_true AS
       have q6 : x3_1 < (a0.size : Int) := of_decide_eq_true AS
       have hx6 := bt_at a0 x3_1
       replace p6 := eq_true p6
       replace q6 := eq_true q6
       go_wp2
       go_roundg k1
       case measure => have := HK1.out; omega
       case rel => exact ⟨(wrap64 (x3_1 + 1)), RS, H', ⟨by have := HK1.out; omega⟩, DR⟩
    ·rw [if_neg c3] at H
     exact absurd H (by simp)
   ·rw [if_neg c2] at H
    have c2b0 : decide (x3_1 < (a0.size : Int)) = false := decide_eq_false c2
    clear c2
    obtain rfl := Option.some.inj H
    go_wp2
    go_ret
    exact ⟨by first | rfl | (simp; done) | (simp [*]; done), DR⟩
end Go.Proofs.Ythnedklbobbkcaa.G

namespace Go.Proofs.Ythnedklbobbkcaa.G
open Go.RowKit Go.Proofs.YthnedklbobbkcaaW.PrintWords Go.Proofs.YthnedklbobbkcaaW.PrintLast Go.Proofs.YthnedklbobbkcaaW.PrintMore Go.Proofs.Ythnedklbobbkcaa.Sh
attribute [local go_sem] max2_int min2_int max_two min_two max_three min_three max_four min_four
set_option linter.unusedVariables false
set_option linter.unusedSimpArgs false
open Go.Proofs.Ythnedklbobbkcaa.Mm
def spec_ItemOk.f (k : Nat) (a0_0 : ByteArray) (a0_1 : ByteArray) (a0_2 : Int) : Option (Bool) := if (a0_0.size : Int) ≥ 1 then (if (a0_0.size : Int) ≤ 20 then ((spec_l10Clean.f k a0_0).bind fun t141 => (if t141 = true then (if (a0_1.size : Int) ≤ 40 then ((spec_l10Clean.f k a0_1).bind fun t142 => (if t142 = true then ((spec_l01In.f a0_2 0 3).bind fun t143 => (some t143)) else (some false))) else (some false)) else (some false))) else (some false)) else (some false)
theorem spec_ItemOk.mono : ∀ a0 a1 a2 k, LeO (spec_ItemOk.f k a0 a1 a2) (spec_ItemOk.f (k + 1) a0 a1 a2) := by
 intro a0 a1 a2 k
 unfold spec_ItemOk.f
 repeat' first | (with_reducible first | exact spec_l10Clean.mono _ _ | exact LeO.refl _ | exact LeO.none _ | refine LeO.ite ?_ ?_ | refine LeO.bind ?_ (fun _ => ?_)) | exact LeO.none _ | refine LeO.ite ?_ ?_ | refine LeO.bind ?_ (fun _ => ?_)
theorem spec_ItemOk.calls (k : Nat) (a0_0 : ByteArray) (a0_1 : ByteArray) (a0_2 : Int) (r : Bool) (w : World)  (h : spec_ItemOk.f k a0_0 a0_1 a0_2 = some r) :
  Calls Try.prog 149 #[.agg #[.string a0_0, .string a0_1, .int .i64 a0_2]] w fun e w' => e = .returned (.bool r) ∧ Mem w [] w' [] := by
 have hu122 := Try.underlying122
 have HM := Mem.nil w
 have H := h
 clear h
 unfold spec_ItemOk.f at H
 go_enter Try.func149, Try.ntmps149
 replace H := IT H; rcases H with ⟨c4, H⟩ | ⟨c4, H⟩
 ·replace c4 : (a0_0.size : Int) ≥ 1 := c4
  have c4b0 : decide (1 ≤ (a0_0.size : Int)) = true := decide_eq_true c4
  have c4b1 : decide (1 ≤ a0_0.size) = true := decide_eq_true (by omega)
  clear c4
  replace H := IT H; rcases H with ⟨c5, H⟩ | ⟨c5, H⟩
  ·replace c5 : (a0_0.size : Int) ≤ 20 := c5
   have c5b0 := decide_eq_true c5
   have c5b1 : decide (a0_0.size ≤ 20) = true := decide_eq_true (by omega)
   clear c5
   replace H := BN H; obtain ⟨t141, A6, H⟩ := H
   replace H := IB H
   rcases H with ⟨c8, H⟩ | ⟨c8, H⟩
   ·subst c8
    replace H := IT H; rcases H with ⟨c10, H⟩ | ⟨c10, H⟩
    ·replace c10 : (a0_1.size : Int) ≤ 40 := c10
     have c10b0 := decide_eq_true c10
     have c10b1 : decide (a0_1.size ≤ 40) = true := decide_eq_true (by omega)
     clear c10
     replace H := BN H; obtain ⟨t142, A11, H⟩ := H
     replace H := IB H
     rcases H with ⟨c13, H⟩ | ⟨c13, H⟩
     ·subst c13
      replace H := BN H; obtain ⟨t143, A15, H⟩ := H
      obtain rfl := Option.some.inj H
      go_wp2_with (first | ((with_reducible refine gN 1 rfl ?_); refine pB 1 122 [.string a0_0, .string a0_1, .int .i64 a0_2] HM rfl ?_; clear HM; intro gb140 w2 HM; obtain ⟨_,_,_,_,_,_⟩ := bk3 (HM.bx 0 rfl)) | ((with_reducible refine gC 189 rfl ?_); refine pC (some 16) rfl #[.string a0_0] rfl Try.func189 (spec_l10Clean.calls k a0_0 true _ A6.out) ?_; rintro e w7 ⟨rfl, hd⟩; refine ⟨_, rfl, ?_⟩; replace HM := HM.drawn hd; clear hd; obtain ⟨_,_,_,_,_,_⟩ := bk3 (HM.bx 0 rfl)) | ((with_reducible refine gC 189 rfl ?_); refine pC (some 27) rfl #[.string a0_1] rfl Try.func189 (spec_l10Clean.calls k a0_1 true _ A11.out) ?_; rintro e w12 ⟨rfl, hd⟩; refine ⟨_, rfl, ?_⟩; replace HM := HM.drawn hd; clear hd; obtain ⟨_,_,_,_,_,_⟩ := bk3 (HM.bx 0 rfl)) | ((with_reducible refine gC 185 rfl ?_); refine pC (some 32) rfl #[.int .i64 a0_2, .int .i64 0, .int .i64 3] rfl Try.func185 (spec_l01In.calls a0_2 0 3 t143 _ A15.out) ?_; rintro e w16 ⟨rfl, hd⟩; refine ⟨_, rfl, ?_⟩; replace HM := HM.drawn hd; clear hd))
      go_ret
      exact ⟨ER, (MD HM).pick []⟩
     ·subst c13
      obtain rfl := Option.some.inj H
      go_wp2_with (first | ((with_reducible refine gN 1 rfl ?_); refine pB 1 122 [.string a0_0, .string a0_1, .int .i64 a0_2] HM rfl ?_; clear HM; intro gb140 w2 HM; obtain ⟨_,_,_,_,_,_⟩ := bk3 (HM.bx 0 rfl)) | ((with_reducible refine gC 189 rfl ?_); refine pC (some 16) rfl #[.string a0_0] rfl Try.func189 (spec_l10Clean.calls k a0_0 true _ A6.out) ?_; rintro e w7 ⟨rfl, hd⟩; refine ⟨_, rfl, ?_⟩; replace HM := HM.drawn hd; clear hd; obtain ⟨_,_,_,_,_,_⟩ := bk3 (HM.bx 0 rfl)) | ((with_reducible refine gC 189 rfl ?_); refine pC (some 27) rfl #[.string a0_1] rfl Try.func189 (spec_l10Clean.calls k a0_1 false _ A11.out) ?_; rintro e w12 ⟨rfl, hd⟩; refine ⟨_, rfl, ?_⟩; replace HM := HM.drawn hd; clear hd))
      go_ret
      exact ⟨ER, (MD HM).pick []⟩
    ·replace c10 : ¬ ((a0_1.size : Int) ≤ 40) := c10
     have c10b0 := decide_eq_false c10
     have c10b1 : decide (a0_1.size ≤ 40) = false := decide_eq_false (by omega)
     clear c10
     obtain rfl := Option.some.inj H
     go_wp2_with (first | ((with_reducible refine gN 1 rfl ?_); refine pB 1 122 [.string a0_0, .string a0_1, .int .i64 a0_2] HM rfl ?_; clear HM; intro gb140 w2 HM; obtain ⟨_,_,_,_,_,_⟩ := bk3 (HM.bx 0 rfl)) | ((with_reducible refine gC 189 rfl ?_); refine pC (some 16) rfl #[.string a0_0] rfl Try.func189 (spec_l10Clean.calls k a0_0 true _ A6.out) ?_; rintro e w7 ⟨rfl, hd⟩; refine ⟨_, rfl, ?_⟩; replace HM := HM.drawn hd; clear hd; obtain ⟨_,_,_,_,_,_⟩ := bk3 (HM.bx 0 rfl)))
     go_ret
     exact ⟨ER, (MD HM).pick []⟩
   ·subst c8
    obtain rfl := Option.some.inj H
    go_wp2_with (first | ((with_reducible refine gN 1 rfl ?_); refine pB 1 122 [.string a0_0, .string a0_1, .int .i64 a0_2] HM rfl ?_; clear HM; intro gb140 w2 HM; obtain ⟨_,_,_,_,_,_⟩ := bk3 (HM.bx 0 rfl)) | ((with_reducible refine gC 189 rfl ?_); refine pC (some 16) rfl #[.string a0_0] rfl Try.func189 (spec_l10Clean.calls k a0_0 false _ A6.out) ?_; rintro e w7 ⟨rfl, hd⟩; refine ⟨_, rfl, ?_⟩; replace HM := HM.drawn hd; clear hd))
    go_ret
    exact ⟨ER, (MD HM).pick []⟩
  ·replace c5 : ¬ ((a0_0.size : Int) ≤ 20) := c5
   have c5b0 := decide_eq_false c5
   have c5b1 : decide (a0_0.size ≤ 20) = false := decide_eq_false (by omega)
   clear c5
   obtain rfl := Option.some.inj H
   go_wp2_with (first | ((with_reducible refine gN 1 rfl ?_); refine pB 1 122 [.string a0_0, .string a0_1, .int .i64 a0_2] HM rfl ?_; clear HM; intro gb140 w2 HM; obtain ⟨_,_,_,_,_,_⟩ := bk3 (HM.bx 0 rfl)))
   go_ret
   exact ⟨ER, (MD HM).pick []⟩
 ·replace c4 : ¬ ((a0_0.size : Int) ≥ 1) := c4
  have c4b0 : decide (1 ≤ (a0_0.size : Int)) = false := decide_eq_false c4
  have c4b1 : decide (1 ≤ a0_0.size) = false := decide_eq_false (by omega)
  clear c4
  obtain rfl := Option.some.inj H
  go_wp2_with (first | ((with_reducible refine gN 1 rfl ?_); refine pB 1 122 [.string a0_0, .string a0_1, .int .i64 a0_2] HM rfl ?_; clear HM; intro gb140 w2 HM; obtain ⟨_,_,_,_,_,_⟩ := bk3 (HM.bx 0 rfl)))
  go_ret
  exact ⟨ER, (MD HM).pick []⟩
def spec_OpOk.f (k : Nat) (a0_0 : Int) (a0_1 : ByteArray) (a0_2 : ByteArray) : Option (Bool) := if a0_0 ≥ 1 then (if a0_0 ≤ 3 then ((spec_ItemOk.f k a0_1 a0_2 0).bind fun t145 => (if t145 = true then (if a0_0 = 2 then (some true) else (some (a0_2.toList == ([] : List UInt8)))) else (some false))) else (some false)) else (some false)
theorem spec_OpOk.mono : ∀ a0 a1 a2 k, LeO (spec_OpOk.f k a0 a1 a2) (spec_OpOk.f (k + 1) a0 a1 a2) := by
 intro a0 a1 a2 k
 unfold spec_OpOk.f
 repeat' first | (with_reducible first | exact spec_ItemOk.mono _ _ _ _ | exact LeO.refl _ | exact LeO.none _ | refine LeO.ite ?_ ?_ | refine LeO.bind ?_ (fun _ => ?_)) | exact LeO.none _ | refine LeO.ite ?_ ?_ | refine LeO.bind ?_ (fun _ => ?_)
theorem spec_OpOk.calls (k : Nat) (a0_0 : Int) (a0_1 : ByteArray) (a0_2 : ByteArray) (r : Bool) (w : World)  (h : spec_OpOk.f k a0_0 a0_1 a0_2 = some r) :
  Calls Try.prog 97 #[.agg #[.int .i64 a0_0, .string a0_1, .string a0_2]] w fun e w' => e = .returned (.bool r) ∧ Mem w [] w' [] := by
 have hu43 := Try.underlying43
 have hu122 := Try.underlying122
 have HM := Mem.nil w
 have H := h
 clear h
 unfold spec_OpOk.f at H
 go_enter Try.func97, Try.ntmps97
 replace H := IT H; rcases H with ⟨c4, H⟩ | ⟨c4, H⟩
 ·have c4b0 : decide (1 ≤ a0_0) = true := decide_eq_true c4
  clear c4
  replace H := IT H; rcases H with ⟨c5, H⟩ | ⟨c5, H⟩
  ·have c5b0 := decide_eq_true c5
   clear c5
   replace H := BN H; obtain ⟨t145, A6, H⟩ := H
   replace H := IB H
   rcases H with ⟨c8, H⟩ | ⟨c8, H⟩
   ·subst c8
    replace H := IT H; rcases H with ⟨c10, H⟩ | ⟨c10, H⟩
    ·obtain ⟨c10b0, c10b1⟩ := BE c10
     clear c10
     obtain rfl := Option.some.inj H
     go_wp2_with (first | ((with_reducible refine gN 1 rfl ?_); refine pB 1 43 [.int .i64 a0_0, .string a0_1, .string a0_2] HM rfl ?_; clear HM; intro gb144 w2 HM; obtain ⟨_,_,_,_,_,_⟩ := bk3 (HM.bx 0 rfl)) | ((with_reducible refine gC 149 rfl ?_); refine pC (some 17) rfl #[.agg #[.string a0_1, .string a0_2, .int .i64 0]] rfl Try.func149 (spec_ItemOk.calls k a0_1 a0_2 0 true _ A6.out) ?_; rintro e w7 ⟨rfl, hR⟩; refine ⟨_, rfl, ?_⟩; replace HM := HM.call hR; clear hR; obtain ⟨_,_,_,_,_,_⟩ := bk3 (HM.bx 0 rfl)))
     go_ret
     exact ⟨ER, (MD HM).pick []⟩
    ·obtain ⟨c10b0, c10b1⟩ := BF c10
     obtain rfl := Option.some.inj H
     go_wp2_with (first | ((with_reducible refine gN 1 rfl ?_); refine pB 1 43 [.int .i64 a0_0, .string a0_1, .string a0_2] HM rfl ?_; clear HM; intro gb144 w2 HM; obtain ⟨_,_,_,_,_,_⟩ := bk3 (HM.bx 0 rfl)) | ((with_reducible refine gC 149 rfl ?_); refine pC (some 17) rfl #[.agg #[.string a0_1, .string a0_2, .int .i64 0]] rfl Try.func149 (spec_ItemOk.calls k a0_1 a0_2 0 true _ A6.out) ?_; rintro e w7 ⟨rfl, hR⟩; refine ⟨_, rfl, ?_⟩; replace HM := HM.call hR; clear hR; obtain ⟨_,_,_,_,_,_⟩ := bk3 (HM.bx 0 rfl)))
     go_ret
     exact ⟨ER, (MD HM).pick []⟩
   ·subst c8
    obtain rfl := Option.some.inj H
    go_wp2_with (first | ((with_reducible refine gN 1 rfl ?_); refine pB 1 43 [.int .i64 a0_0, .string a0_1, .string a0_2] HM rfl ?_; clear HM; intro gb144 w2 HM; obtain ⟨_,_,_,_,_,_⟩ := bk3 (HM.bx 0 rfl)) | ((with_reducible refine gC 149 rfl ?_); refine pC (some 17) rfl #[.agg #[.string a0_1, .string a0_2, .int .i64 0]] rfl Try.func149 (spec_ItemOk.calls k a0_1 a0_2 0 false _ A6.out) ?_; rintro e w7 ⟨rfl, hR⟩; refine ⟨_, rfl, ?_⟩; replace HM := HM.call hR; clear hR))
    go_ret
    exact ⟨ER, (MD HM).pick []⟩
  ·have c5b0 := decide_eq_false c5
   clear c5
   obtain rfl := Option.some.inj H
   go_wp2_with (first | ((with_reducible refine gN 1 rfl ?_); refine pB 1 43 [.int .i64 a0_0, .string a0_1, .string a0_2] HM rfl ?_; clear HM; intro gb144 w2 HM; obtain ⟨_,_,_,_,_,_⟩ := bk3 (HM.bx 0 rfl)))
   go_ret
   exact ⟨ER, (MD HM).pick []⟩
 ·have c4b0 : decide (1 ≤ a0_0) = false := decide_eq_false c4
  clear c4
  obtain rfl := Option.some.inj H
  go_wp2_with (first | ((with_reducible refine gN 1 rfl ?_); refine pB 1 43 [.int .i64 a0_0, .string a0_1, .string a0_2] HM rfl ?_; clear HM; intro gb144 w2 HM; obtain ⟨_,_,_,_,_,_⟩ := bk3 (HM.bx 0 rfl)))
  go_ret
  exact ⟨ER, (MD HM).pick []⟩
def spec_OpText.f (k : Nat) (a0_0 : Int) (a0_1 : ByteArray) (a0_2 : ByteArray) : Option (ByteArray) := (spec_OpOk.f k a0_0 a0_1 a0_2).bind fun t147 => (if t147 = true then (if a0_0 = 1 then (if 4 + a0_1.size ≤ 9223372036854775807 then (some ((⟨#[103, 101, 116, 32]⟩ : ByteArray) ++ a0_1)) else (none)) else (if a0_0 = 2 then (if 4 + a0_1.size ≤ 9223372036854775807 then (if 4 + a0_1.size + 1 ≤ 9223372036854775807 then (if 4 + a0_1.size + 1 + a0_2.size ≤ 9223372036854775807 then (some ((((⟨#[112, 117, 116, 32]⟩ : ByteArray) ++ a0_1) ++ (⟨#[32]⟩ : ByteArray)) ++ a0_2)) else (none)) else (none)) else (none)) else (if 5 + a0_1.size ≤ 9223372036854775807 then (some ((⟨#[100, 114, 111, 112, 32]⟩ : ByteArray) ++ a0_1)) else (none)))) else (some (⟨#[]⟩ : ByteArray)))
theorem spec_OpText.mono : ∀ a0 a1 a2 k, LeO (spec_OpText.f k a0 a1 a2) (spec_OpText.f (k + 1) a0 a1 a2) := by
 intro a0 a1 a2 k
 unfold spec_OpText.f
 repeat' first | (with_reducible first | exact spec_OpOk.mono _ _ _ _ | exact LeO.refl _ | exact LeO.none _ | refine LeO.ite ?_ ?_ | refine LeO.bind ?_ (fun _ => ?_)) | exact LeO.none _ | refine LeO.ite ?_ ?_ | refine LeO.bind ?_ (fun _ => ?_)
theorem spec_OpText.calls (k : Nat) (a0_0 : Int) (a0_1 : ByteArray) (a0_2 : ByteArray) (r : ByteArray) (w : World)  (h : spec_OpText.f k a0_0 a0_1 a0_2 = some r) :
  Calls Try.prog 160 #[.agg #[.int .i64 a0_0, .string a0_1, .string a0_2]] w fun e w' => e = .returned (.string r) ∧ Mem w [] w' [] := by
 have hu43 := Try.underlying43
 have HM := Mem.nil w
 have H := h
 clear h
 unfold spec_OpText.f at H
 go_enter Try.func160, Try.ntmps160
 replace H := BN H; obtain ⟨t147, A4, H⟩ := H
 go_upto_if 5 with (first | ((with_reducible refine gN 1 rfl ?_); refine pB 1 43 [.int .i64 a0_0, .string a0_1, .string a0_2] HM rfl ?_; clear HM; intro gb146 w2 HM; obtain ⟨_,_,_,_,_,_⟩ := bk3 (HM.bx 0 rfl)) | ((with_reducible refine gC 97 rfl ?_); refine pC (some 4) rfl #[.agg #[.int .i64 a0_0, .string a0_1, .string a0_2]] rfl Try.func97 (spec_OpOk.calls k a0_0 a0_1 a0_2 t147 _ A4.out) ?_; rintro e w5 ⟨rfl, hR⟩; refine ⟨_, rfl, ?_⟩; replace HM := HM.call hR; clear hR))
 replace HM := nzM HM
 replace H := IB H
 rcases H with ⟨c6, H⟩ | ⟨c6, H⟩
 ·subst c6
  obtain ⟨_,_,_,_,_,_⟩ := bk3 (HM.bx 0 rfl)
  go_upto_if 8 with (fail)
  replace H := IT H; rcases H with ⟨c8, H⟩ | ⟨c8, H⟩
  ·obtain ⟨c8b0, c8b1⟩ := BE c8
   clear c8
   first|rw [c8b0]|(simp only [i64_w, i32_w]; rw [c8b0])|skip
   replace H := GD H; obtain ⟨c9, H⟩ := H
   have c9b0 := eq_true c9
   have c9b1 : decide (4 + a0_1.size ≤ 9223372036854775807) = true := decide_eq_true c9
   try have c9b2 : (9223372036854775807 < 4 + a0_1.size) = False := eq_false (Nat.not_lt.2 c9)
   obtain rfl := Option.some.inj H
   go_wp2
   go_ret
   exact ⟨ER, (MD HM).pick []⟩
  ·obtain ⟨c8b0, c8b1⟩ := BF c8
   first|rw [c8b0]|(simp only [i64_w, i32_w]; rw [c8b0])|skip
   go_upto_if 13 with (fail)
   replace H := IT H; rcases H with ⟨c10, H⟩ | ⟨c10, H⟩
   ·obtain ⟨c10b0, c10b1⟩ := BE c10
    clear c10
    first|rw [c10b0]|(simp only [i64_w, i32_w]; rw [c10b0])|skip
    replace H := GD H; obtain ⟨c11, H⟩ := H
    have c11b0 := eq_true c11
    have c11b1 : decide (4 + a0_1.size ≤ 9223372036854775807) = true := decide_eq_true c11
    try have c11b2 : (9223372036854775807 < 4 + a0_1.size) = False := eq_false (Nat.not_lt.2 c11)
    replace H := GD H; obtain ⟨c12, H⟩ := H
    have c12b0 := eq_true c12
    have c12b1 : decide (4 + a0_1.size + 1 ≤ 9223372036854775807) = true := decide_eq_true c12
    try have c12b2 : (9223372036854775807 < 4 + a0_1.size + 1) = False := eq_false (Nat.not_lt.2 c12)
    replace H := GD H; obtain ⟨c13, H⟩ := H
    have c13b0 := eq_true c13
    have c13b1 : decide (4 + a0_1.size + 1 + a0_2.size ≤ 9223372036854775807) = true := decide_eq_true c13
    try have c13b2 : (9223372036854775807 < 4 + a0_1.size + 1 + a0_2.size) = False := eq_false (Nat.not_lt.2 c13)
    obtain rfl := Option.some.inj H
    go_wp2
    go_ret
    exact ⟨ER, (MD HM).pick []⟩
   ·obtain ⟨c10b0, c10b1⟩ := BF c10
    first|rw [c10b0]|(simp only [i64_w, i32_w]; rw [c10b0])|skip
    replace H := GD H; obtain ⟨c14, H⟩ := H
    have c14b0 := eq_true c14
    have c14b1 : decide (5 + a0_1.size ≤ 9223372036854775807) = true := decide_eq_true c14
    try have c14b2 : (9223372036854775807 < 5 + a0_1.size) = False := eq_false (Nat.not_lt.2 c14)
    obtain rfl := Option.some.inj H
    go_wp2
    go_ret
    exact ⟨ER, (MD HM).pick []⟩
 ·subst c6
  obtain rfl := Option.some.inj H
  go_wp2
  go_ret
  exact ⟨ER, (MD HM).pick []⟩
def spec_TextOp.f (k : Nat) (a0 : ByteArray) : Option (Int × ByteArray × ByteArray × Bool) := (spec_Cut.f k a0).bind fun t149 => ((some (([(⟨#[]⟩ : ByteArray), (⟨#[]⟩ : ByteArray)] : List ByteArray) : List ByteArray)).bind fun y152 => (if t149.length + y152.length < 8796093022208 then ((some (t149 ++ y152 : List ByteArray)).bind fun y155 => (if 1 < (y155.length : Int) then (if 0 < (y155.length : Int) then (if (rdOf ByteArray.empty y155 0).toList = ([103, 101, 116] : List UInt8) then (if a0.toList = ([] : List UInt8) then (some (0, (⟨#[]⟩ : ByteArray), (⟨#[]⟩ : ByteArray), false)) else ((spec_OpText.f k 1 (rdOf ByteArray.empty y155 1) (⟨#[]⟩ : ByteArray)).bind fun t161 => (if t161.toList = a0.toList then (some (1, rdOf ByteArray.empty y155 1, (⟨#[]⟩ : ByteArray), true)) else (some (0, (⟨#[]⟩ : ByteArray), (⟨#[]⟩ : ByteArray), false))))) else (if (rdOf ByteArray.empty y155 0).toList = ([112, 117, 116] : List UInt8) then (if 2 < (y155.length : Int) then (if a0.toList = ([] : List UInt8) then (some (0, (⟨#[]⟩ : ByteArray), (⟨#[]⟩ : ByteArray), false)) else ((spec_OpText.f k 2 (rdOf ByteArray.empty y155 1) (rdOf ByteArray.empty y155 2)).bind fun t163 => (if t163.toList = a0.toList then (some (2, rdOf ByteArray.empty y155 1, rdOf ByteArray.empty y155 2, true)) else (some (0, (⟨#[]⟩ : ByteArray), (⟨#[]⟩ : ByteArray), false))))) else (none)) else (if (rdOf ByteArray.empty y155 0).toList = ([100, 114, 111, 112] : List UInt8) then (if a0.toList = ([] : List UInt8) then (some (0, (⟨#[]⟩ : ByteArray), (⟨#[]⟩ : ByteArray), false)) else ((spec_OpText.f k 3 (rdOf ByteArray.empty y155 1) (⟨#[]⟩ : ByteArray)).bind fun t164 => (if t164.toList = a0.toList then (some (3, rdOf ByteArray.empty y155 1, (⟨#[]⟩ : ByteArray), true)) else (some (0, (⟨#[]⟩ : ByteArray), (⟨#[]⟩ : ByteArray), false))))) else (if a0.toList = ([] : List UInt8) then (some (0, (⟨#[]⟩ : ByteArray), (⟨#[]⟩ : ByteArray), false)) else ((spec_OpText.f k 0 (rdOf ByteArray.empty y155 1) (⟨#[]⟩ : ByteArray)).bind fun t165 => (if t165.toList = a0.toList then (some (0, rdOf ByteArray.empty y155 1, (⟨#[]⟩ : ByteArray), true)) else (some (0, (⟨#[]⟩ : ByteArray), (⟨#[]⟩ : ByteArray), false)))))))) else (none)) else (none))) else (none)))
theorem spec_TextOp.mono : ∀ a0 k, LeO (spec_TextOp.f k a0) (spec_TextOp.f (k + 1) a0) := by
 intro a0 k
 unfold spec_TextOp.f
 repeat' first | (with_reducible first | exact spec_Cut.mono _ _ | exact spec_OpText.mono _ _ _ _ | exact LeO.refl _ | exact LeO.none _ | refine LeO.ite ?_ ?_ | refine LeO.bind ?_ (fun _ => ?_)) | exact LeO.none _ | refine LeO.ite ?_ ?_ | refine LeO.bind ?_ (fun _ => ?_)
theorem spec_TextOp.calls (k : Nat) (a0 : ByteArray) (r1 : Int) (r2 : ByteArray) (r3 : ByteArray) (r4 : Bool) (w : World)  (h : spec_TextOp.f k a0 = some (r1, r2, r3, r4)) :
  Calls Try.prog 113 #[.string a0] w fun e w' => e = .returned (.tuple #[.agg #[.int .i64 r1, .string r2, .string r3], .bool r4]) ∧ Mem w [] w' [] := by
 have hu43 := Try.underlying43
 have HM := Mem.nil w
 have H := h
 clear h
 unfold spec_TextOp.f at H
 go_enter Try.func113, Try.ntmps113
 replace H := BN H; obtain ⟨t149, A3, H⟩ := H
 replace H := BLt H; obtain ⟨y152, Ny152, H⟩ := H
 replace Ny152 := Aside0.mk Ny152
 replace H := GD H; obtain ⟨c6, H⟩ := H
 have LMc6 := Aside0.mk c6
 clear c6
 replace H := BLt H; obtain ⟨y155, Ny155, H⟩ := H
 replace Ny155 := Aside0.mk Ny155
 replace H := GD H; obtain ⟨c9, H⟩ := H
 replace c9 : 1 < (y155.length : Int) := c9
 have c9b0 := decide_eq_true c9
 have c9b1 : decide (1 < y155.length) = true := decide_eq_true (by omega)
 have c9b9 : decide (1 < y155.length) = true := decide_eq_true (by omega)
 clear c9
 replace H := GD H; obtain ⟨c13, H⟩ := H
 replace c13 : 0 < (y155.length : Int) := c13
 have c13b0 := decide_eq_true c13
 have c13b1 : decide (0 < y155.length) = true := decide_eq_true (by omega)
 have c13b9 : decide (0 < y155.length) = true := decide_eq_true (by omega)
 clear c13
 go_upto_if 17 with (first | ((with_reducible refine gN 2 rfl ?_); refine pB 2 43 [.int .i64 0, .string (⟨#[]⟩ : ByteArray), .string (⟨#[]⟩ : ByteArray)] HM rfl ?_; clear HM; intro gb148 w2 HM) | ((with_reducible refine gC 110 rfl ?_); refine pC (some 7) rfl #[.string a0] rfl Try.func110 (spec_Cut.calls k a0 t149 _ A3.out) ?_; rintro e w4 ⟨v150, rfl, hR⟩; refine ⟨_, rfl, ?_⟩; replace HM := HM.call hR; clear hR) | ((with_reducible refine gN 8 rfl ?_); refine pL 8 Kd.string 9 ([(⟨#[]⟩ : ByteArray), (⟨#[]⟩ : ByteArray)] : List ByteArray) [.string (⟨#[]⟩ : ByteArray), .string (⟨#[]⟩ : ByteArray)] (Reps.one (show Kd.M Kd.string _ _ _ (⟨#[]⟩ : ByteArray) [.string (⟨#[]⟩ : ByteArray)] from rfl) (Reps.one (show Kd.M Kd.string _ _ _ (⟨#[]⟩ : ByteArray) [.string (⟨#[]⟩ : ByteArray)] from rfl) (Reps.none _ _))) HM rfl ?_; clear HM; intro v153 w5 HM; replace HM := HM.nm 2 rfl Ny152.out; obtain ⟨Xo7, ko7, rfl⟩ := HM.rdR 2 rfl) | ((with_reducible refine gate_builtin (b := .append) (xs := #[.tmp 7, .tmp 8]) rfl ?_); refine pA 1 (.tmp 7) (.tmp 8) 47 9 Kd.string v150 t149 y152 Xo7 y152.length ko7 HM rfl Try.underlying47 info9 rfl (HM.CR 2 rfl).2.2 (by have h_ := LMc6.out; omega) ?_; clear HM; intro v156 w8 HM; replace HM := HM.nm 1 rfl Ny155.out; obtain ⟨Xo10, ko10, rfl⟩ := HM.rdR 1 rfl; have p158 : 0 ≤ (1 : Int) := (by omega); have q158 : (1 : Int) < (y155.length : Int) := of_decide_eq_true AS; obtain ⟨ad158, e158, hx158_0⟩ := Kd.at_string (HM.CR 1 rfl).2.2 1 p158 q158; cases e158; have qi158 : (1 < y155.length) = True := eq_true (by omega); (try rw [show ((1 : Int)).toNat = 1 from rfl] at hx158_0); (try simp only [Nat.reduceMul, Nat.reduceEqDiff, Go.Addr.add, ↓reduceIte] at hx158_0); replace p158 := eq_true p158; replace q158 := eq_true q158) | ((with_reducible refine gN 5 rfl ?_); refine pB 5 43 [.int .i64 0, .string (⟨#[]⟩ : ByteArray), .string (⟨#[]⟩ : ByteArray)] HM rfl ?_; clear HM; intro gb159 w11 HM) | ((with_reducible refine gS 5 rfl ?_); refine pS 3 5 0 [.int .i64 0, .string (rdOf ByteArray.empty y155 1), .string (⟨#[]⟩ : ByteArray)] HM rfl rfl ?_; clear HM; intro w12 HM; have p160 : 0 ≤ (0 : Int) := (by omega); have q160 : (0 : Int) < (y155.length : Int) := of_decide_eq_true AS; obtain ⟨ad160, e160, hx160_0⟩ := Kd.at_string (HM.CR 1 rfl).2.2 0 p160 q160; obtain rfl := Option.some.inj e160; have qi160 : (0 < y155.length) = True := eq_true (by omega); (try rw [show ((0 : Int)).toNat = 0 from rfl] at hx160_0); (try rw [Addr.add_zero'] at hx160_0); replace p160 := eq_true p160; replace q160 := eq_true q160))
 replace HM := nzM HM
 replace H := IT H; rcases H with ⟨c14, H⟩ | ⟨c14, H⟩
 ·obtain ⟨c14b0, c14b1⟩ := BE c14
  clear c14
  first|rw [c14b0]|(simp only [i64_w, i32_w]; rw [c14b0])|skip
  replace H := IT H; rcases H with ⟨c16, H⟩ | ⟨c16, H⟩
  ·obtain ⟨c16b0, c16b1⟩ := BE c16
   have c16b6 : (a0.toList).isEmpty = true := by first | (rw [c16]; rfl) | (cases h_ : a0.toList with | nil => exact absurd h_ c16 | cons _ _ => rfl)
   clear c16
   simp only [Option.some.injEq, Prod.mk.injEq] at H
   obtain ⟨rfl, rfl, rfl, rfl⟩ := H
   go_wp2_with (first | ((with_reducible refine gS 19 rfl ?_); refine pS 3 19 0 [.int .i64 1] HM rfl rfl ?_; clear HM; intro w15 HM) | ((with_reducible refine gS 2 rfl ?_); refine pS 0 2 0 [.int .i64 0, .string (⟨#[]⟩ : ByteArray), .string (⟨#[]⟩ : ByteArray)] HM rfl rfl ?_; clear HM; intro w17 HM))
   refine bodyPost_ret (results_ct rfl _ _ gb148 43 #[.int .i64 0, .string (⟨#[]⟩ : ByteArray), .string (⟨#[]⟩ : ByteArray)] (0, 0) _ rfl (HM.bx 0 rfl) Try.underlying43 rfl (by kernel_rfl)) rfl ?_
   exact ⟨ER, (MD HM).pick []⟩
  ·obtain ⟨c16b0, c16b1⟩ := BF c16
   have c16b6 : (a0.toList).isEmpty = false := by first | (rw [c16]; rfl) | (cases h_ : a0.toList with | nil => exact absurd h_ c16 | cons _ _ => rfl)
   replace H := BN H; obtain ⟨t161, A19, H⟩ := H
   go_upto_if 37 with (first | ((with_reducible refine gS 19 rfl ?_); refine pS 3 19 0 [.int .i64 1] HM rfl rfl ?_; clear HM; intro w15 HM; obtain ⟨_,_,_,_,_,_⟩ := bk3 (HM.bx 3 rfl)) | ((with_reducible refine gC 160 rfl ?_); refine pC (some 34) rfl #[.agg #[.int .i64 1, .string (rdOf ByteArray.empty y155 1), .string (⟨#[]⟩ : ByteArray)]] rfl Try.func160 (spec_OpText.calls k 1 (rdOf ByteArray.empty y155 1) (⟨#[]⟩ : ByteArray) t161 _ A19.out) ?_; rintro e w20 ⟨rfl, hR⟩; refine ⟨_, rfl, ?_⟩; replace HM := HM.call hR; clear hR))
   replace HM := nzM HM
   replace H := IT H; rcases H with ⟨c21, H⟩ | ⟨c21, H⟩
   ·obtain ⟨c21b0, c21b1⟩ := BE c21
    clear c21
    first|rw [c21b0]|(simp only [i64_w, i32_w]; rw [c21b0])|skip
    simp only [Option.some.injEq, Prod.mk.injEq] at H
    obtain ⟨rfl, rfl, rfl, rfl⟩ := H
    obtain ⟨_,_,_,_,_,_⟩ := bk3 (HM.bx 3 rfl)
    go_wp2_with (first | ((with_reducible refine gS 2 rfl ?_); refine pS 0 2 0 [.int .i64 1, .string (rdOf ByteArray.empty y155 1), .string (⟨#[]⟩ : ByteArray)] HM rfl rfl ?_; clear HM; intro w23 HM))
    refine bodyPost_ret (results_ct rfl _ _ gb148 43 #[.int .i64 1, .string (rdOf ByteArray.empty y155 1), .string (⟨#[]⟩ : ByteArray)] (0, 0) _ rfl (HM.bx 0 rfl) Try.underlying43 rfl (by kernel_rfl)) rfl ?_
    exact ⟨ER, (MD HM).pick []⟩
   ·obtain ⟨c21b0, c21b1⟩ := BF c21
    first|rw [c21b0]|(simp only [i64_w, i32_w]; rw [c21b0])|skip
    simp only [Option.some.injEq, Prod.mk.injEq] at H
    obtain ⟨rfl, rfl, rfl, rfl⟩ := H
    go_wp2_with (first | ((with_reducible refine gS 2 rfl ?_); refine pS 0 2 0 [.int .i64 0, .string (⟨#[]⟩ : ByteArray), .string (⟨#[]⟩ : ByteArray)] HM rfl rfl ?_; clear HM; intro w24 HM))
    refine bodyPost_ret (results_ct rfl _ _ gb148 43 #[.int .i64 0, .string (⟨#[]⟩ : ByteArray), .string (⟨#[]⟩ : ByteArray)] (0, 0) _ rfl (HM.bx 0 rfl) Try.underlying43 rfl (by kernel_rfl)) rfl ?_
    exact ⟨ER, (MD HM).pick []⟩
 ·obtain ⟨c14b0, c14b1⟩ := BF c14
  first|rw [c14b0]|(simp only [i64_w, i32_w]; rw [c14b0])|skip
  go_upto_if 20 with (fail)
  replace H := IT H; rcases H with ⟨c25, H⟩ | ⟨c25, H⟩
  ·obtain ⟨c25b0, c25b1⟩ := BE c25
   clear c25
   first|rw [c25b0]|(simp only [i64_w, i32_w]; rw [c25b0])|skip
   replace H := GD H; obtain ⟨c27, H⟩ := H
   replace c27 : 2 < (y155.length : Int) := c27
   have c27b0 := decide_eq_true c27
   have c27b1 : decide (2 < y155.length) = true := decide_eq_true (by omega)
   have c27b9 : decide (2 < y155.length) = true := decide_eq_true (by omega)
   clear c27
   replace H := IT H; rcases H with ⟨c29, H⟩ | ⟨c29, H⟩
   ·obtain ⟨c29b0, c29b1⟩ := BE c29
    have c29b6 : (a0.toList).isEmpty = true := by first | (rw [c29]; rfl) | (cases h_ : a0.toList with | nil => exact absurd h_ c29 | cons _ _ => rfl)
    clear c29
    simp only [Option.some.injEq, Prod.mk.injEq] at H
    obtain ⟨rfl, rfl, rfl, rfl⟩ := H
    go_wp2_with (first | ((with_reducible refine gS 22 rfl ?_); refine pS 3 22 0 [.int .i64 2] HM rfl rfl ?_; clear HM; intro w26 HM; have p162 : 0 ≤ (2 : Int) := (by omega); have q162 : (2 : Int) < (y155.length : Int) := of_decide_eq_true AS; obtain ⟨ad162, e162, hx162_0⟩ := Kd.at_string (HM.CR 1 rfl).2.2 2 p162 q162; obtain rfl := Option.some.inj e162; have qi162 : (2 < y155.length) = True := eq_true (by omega); (try rw [show ((2 : Int)).toNat = 2 from rfl] at hx162_0); (try simp only [Nat.reduceMul, Nat.reduceEqDiff, Go.Addr.add, ↓reduceIte] at hx162_0); replace p162 := eq_true p162; replace q162 := eq_true q162) | ((with_reducible refine gS 26 rfl ?_); refine pS 3 26 2 [.string (rdOf ByteArray.empty y155 2)] HM rfl rfl ?_; clear HM; intro w28 HM) | ((with_reducible refine gS 2 rfl ?_); refine pS 0 2 0 [.int .i64 0, .string (⟨#[]⟩ : ByteArray), .string (⟨#[]⟩ : ByteArray)] HM rfl rfl ?_; clear HM; intro w30 HM))
    refine bodyPost_ret (results_ct rfl _ _ gb148 43 #[.int .i64 0, .string (⟨#[]⟩ : ByteArray), .string (⟨#[]⟩ : ByteArray)] (0, 0) _ rfl (HM.bx 0 rfl) Try.underlying43 rfl (by kernel_rfl)) rfl ?_
    exact ⟨ER, (MD HM).pick []⟩
   ·obtain ⟨c29b0, c29b1⟩ := BF c29
    have c29b6 : (a0.toList).isEmpty = false := by first | (rw [c29]; rfl) | (cases h_ : a0.toList with | nil => exact absurd h_ c29 | cons _ _ => rfl)
    replace H := BN H; obtain ⟨t163, A32, H⟩ := H
    go_upto_if 37 with (first | ((with_reducible refine gS 22 rfl ?_); refine pS 3 22 0 [.int .i64 2] HM rfl rfl ?_; clear HM; intro w26 HM; have p162 : 0 ≤ (2 : Int) := (by omega); have q162 : (2 : Int) < (y155.length : Int) := of_decide_eq_true AS; obtain ⟨ad162, e162, hx162_0⟩ := Kd.at_string (HM.CR 1 rfl).2.2 2 p162 q162; obtain rfl := Option.some.inj e162; have qi162 : (2 < y155.length) = True := eq_true (by omega); (try rw [show ((2 : Int)).toNat = 2 from rfl] at hx162_0); (try simp only [Nat.reduceMul, Nat.reduceEqDiff, Go.Addr.add, ↓reduceIte] at hx162_0); replace p162 := eq_true p162; replace q162 := eq_true q162) | ((with_reducible refine gS 26 rfl ?_); refine pS 3 26 2 [.string (rdOf ByteArray.empty y155 2)] HM rfl rfl ?_; clear HM; intro w28 HM; obtain ⟨_,_,_,_,_,_⟩ := bk3 (HM.bx 3 rfl)) | ((with_reducible refine gC 160 rfl ?_); refine pC (some 34) rfl #[.agg #[.int .i64 2, .string (rdOf ByteArray.empty y155 1), .string (rdOf ByteArray.empty y155 2)]] rfl Try.func160 (spec_OpText.calls k 2 (rdOf ByteArray.empty y155 1) (rdOf ByteArray.empty y155 2) t163 _ A32.out) ?_; rintro e w33 ⟨rfl, hR⟩; refine ⟨_, rfl, ?_⟩; replace HM := HM.call hR; clear hR))
    replace HM := nzM HM
    replace H := IT H; rcases H with ⟨c34, H⟩ | ⟨c34, H⟩
    ·obtain ⟨c34b0, c34b1⟩ := BE c34
     clear c34
     first|rw [c34b0]|(simp only [i64_w, i32_w]; rw [c34b0])|skip
     simp only [Option.some.injEq, Prod.mk.injEq] at H
     obtain ⟨rfl, rfl, rfl, rfl⟩ := H
     obtain ⟨_,_,_,_,_,_⟩ := bk3 (HM.bx 3 rfl)
     go_wp2_with (first | ((with_reducible refine gS 2 rfl ?_); refine pS 0 2 0 [.int .i64 2, .string (rdOf ByteArray.empty y155 1), .string (rdOf ByteArray.empty y155 2)] HM rfl rfl ?_; clear HM; intro w36 HM))
     refine bodyPost_ret (results_ct rfl _ _ gb148 43 #[.int .i64 2, .string (rdOf ByteArray.empty y155 1), .string (rdOf ByteArray.empty y155 2)] (0, 0) _ rfl (HM.bx 0 rfl) Try.underlying43 rfl (by kernel_rfl)) rfl ?_
     exact ⟨ER, (MD HM).pick []⟩
    ·obtain ⟨c34b0, c34b1⟩ := BF c34
     first|rw [c34b0]|(simp only [i64_w, i32_w]; rw [c34b0])|skip
     simp only [Option.some.injEq, Prod.mk.injEq] at H
     obtain ⟨rfl, rfl, rfl, rfl⟩ := H
     go_wp2_with (first | ((with_reducible refine gS 2 rfl ?_); refine pS 0 2 0 [.int .i64 0, .string (⟨#[]⟩ : ByteArray), .string (⟨#[]⟩ : ByteArray)] HM rfl rfl ?_; clear HM; intro w37 HM))
     refine bodyPost_ret (results_ct rfl _ _ gb148 43 #[.int .i64 0, .string (⟨#[]⟩ : ByteArray), .string (⟨#[]⟩ : ByteArray)] (0, 0) _ rfl (HM.bx 0 rfl) Try.underlying43 rfl (by kernel_rfl)) rfl ?_
     exact ⟨ER, (MD HM).pick []⟩
  ·obtain ⟨c25b0, c25b1⟩ := BF c25
   first|rw [c25b0]|(simp only [i64_w, i32_w]; rw [c25b0])|skip
   go_upto_if 27 with (fail)
   replace H := IT H; rcases H with ⟨c38, H⟩ | ⟨c38, H⟩
   ·obtain ⟨c38b0, c38b1⟩ := BE c38
    clear c38
    first|rw [c38b0]|(simp only [i64_w, i32_w]; rw [c38b0])|skip
    replace H := IT H; rcases H with ⟨c40, H⟩ | ⟨c40, H⟩
    ·obtain ⟨c40b0, c40b1⟩ := BE c40
     have c40b6 : (a0.toList).isEmpty = true := by first | (rw [c40]; rfl) | (cases h_ : a0.toList with | nil => exact absurd h_ c40 | cons _ _ => rfl)
     clear c40
     simp only [Option.some.injEq, Prod.mk.injEq] at H
     obtain ⟨rfl, rfl, rfl, rfl⟩ := H
     go_wp2_with (first | ((with_reducible refine gS 29 rfl ?_); refine pS 3 29 0 [.int .i64 3] HM rfl rfl ?_; clear HM; intro w39 HM) | ((with_reducible refine gS 2 rfl ?_); refine pS 0 2 0 [.int .i64 0, .string (⟨#[]⟩ : ByteArray), .string (⟨#[]⟩ : ByteArray)] HM rfl rfl ?_; clear HM; intro w41 HM))
     refine bodyPost_ret (results_ct rfl _ _ gb148 43 #[.int .i64 0, .string (⟨#[]⟩ : ByteArray), .string (⟨#[]⟩ : ByteArray)] (0, 0) _ rfl (HM.bx 0 rfl) Try.underlying43 rfl (by kernel_rfl)) rfl ?_
     exact ⟨ER, (MD HM).pick []⟩
    ·obtain ⟨c40b0, c40b1⟩ := BF c40
     have c40b6 : (a0.toList).isEmpty = false := by first | (rw [c40]; rfl) | (cases h_ : a0.toList with | nil => exact absurd h_ c40 | cons _ _ => rfl)
     replace H := BN H; obtain ⟨t164, A43, H⟩ := H
     go_upto_if 37 with (first | ((with_reducible refine gS 29 rfl ?_); refine pS 3 29 0 [.int .i64 3] HM rfl rfl ?_; clear HM; intro w39 HM; obtain ⟨_,_,_,_,_,_⟩ := bk3 (HM.bx 3 rfl)) | ((with_reducible refine gC 160 rfl ?_); refine pC (some 34) rfl #[.agg #[.int .i64 3, .string (rdOf ByteArray.empty y155 1), .string (⟨#[]⟩ : ByteArray)]] rfl Try.func160 (spec_OpText.calls k 3 (rdOf ByteArray.empty y155 1) (⟨#[]⟩ : ByteArray) t164 _ A43.out) ?_; rintro e w44 ⟨rfl, hR⟩; refine ⟨_, rfl, ?_⟩; replace HM := HM.call hR; clear hR))
     replace HM := nzM HM
     replace H := IT H; rcases H with ⟨c45, H⟩ | ⟨c45, H⟩
     ·obtain ⟨c45b0, c45b1⟩ := BE c45
      clear c45
      first|rw [c45b0]|(simp only [i64_w, i32_w]; rw [c45b0])|skip
      simp only [Option.some.injEq, Prod.mk.injEq] at H
      obtain ⟨rfl, rfl, rfl, rfl⟩ := H
      obtain ⟨_,_,_,_,_,_⟩ := bk3 (HM.bx 3 rfl)
      go_wp2_with (first | ((with_reducible refine gS 2 rfl ?_); refine pS 0 2 0 [.int .i64 3, .string (rdOf ByteArray.empty y155 1), .string (⟨#[]⟩ : ByteArray)] HM rfl rfl ?_; clear HM; intro w47 HM))
      refine bodyPost_ret (results_ct rfl _ _ gb148 43 #[.int .i64 3, .string (rdOf ByteArray.empty y155 1), .string (⟨#[]⟩ : ByteArray)] (0, 0) _ rfl (HM.bx 0 rfl) Try.underlying43 rfl (by kernel_rfl)) rfl ?_
      exact ⟨ER, (MD HM).pick []⟩
     ·obtain ⟨c45b0, c45b1⟩ := BF c45
      first|rw [c45b0]|(simp only [i64_w, i32_w]; rw [c45b0])|skip
      simp only [Option.some.injEq, Prod.mk.injEq] at H
      obtain ⟨rfl, rfl, rfl, rfl⟩ := H
      go_wp2_with (first | ((with_reducible refine gS 2 rfl ?_); refine pS 0 2 0 [.int .i64 0, .string (⟨#[]⟩ : ByteArray), .string (⟨#[]⟩ : ByteArray)] HM rfl rfl ?_; clear HM; intro w48 HM))
      refine bodyPost_ret (results_ct rfl _ _ gb148 43 #[.int .i64 0, .string (⟨#[]⟩ : ByteArray), .string (⟨#[]⟩ : ByteArray)] (0, 0) _ rfl (HM.bx 0 rfl) Try.underlying43 rfl (by kernel_rfl)) rfl ?_
      exact ⟨ER, (MD HM).pick []⟩
   ·obtain ⟨c38b0, c38b1⟩ := BF c38
    first|rw [c38b0]|(simp only [i64_w, i32_w]; rw [c38b0])|skip
    replace H := IT H; rcases H with ⟨c49, H⟩ | ⟨c49, H⟩
    ·obtain ⟨c49b0, c49b1⟩ := BE c49
     have c49b6 : (a0.toList).isEmpty = true := by first | (rw [c49]; rfl) | (cases h_ : a0.toList with | nil => exact absurd h_ c49 | cons _ _ => rfl)
     clear c49
     simp only [Option.some.injEq, Prod.mk.injEq] at H
     obtain ⟨rfl, rfl, rfl, rfl⟩ := H
     go_wp2_with (first | ((with_reducible refine gS 2 rfl ?_); refine pS 0 2 0 [.int .i64 0, .string (⟨#[]⟩ : ByteArray), .string (⟨#[]⟩ : ByteArray)] HM rfl rfl ?_; clear HM; intro w50 HM))
     refine bodyPost_ret (results_ct rfl _ _ gb148 43 #[.int .i64 0, .string (⟨#[]⟩ : ByteArray), .string (⟨#[]⟩ : ByteArray)] (0, 0) _ rfl (HM.bx 0 rfl) Try.underlying43 rfl (by kernel_rfl)) rfl ?_
     exact ⟨ER, (MD HM).pick []⟩
    ·obtain ⟨c49b0, c49b1⟩ := BF c49
     have c49b6 : (a0.toList).isEmpty = false := by first | (rw [c49]; rfl) | (cases h_ : a0.toList with | nil => exact absurd h_ c49 | cons _ _ => rfl)
     replace H := BN H; obtain ⟨t165, A52, H⟩ := H
     obtain ⟨_,_,_,_,_,_⟩ := bk3 (HM.bx 3 rfl)
     go_upto_if 37 with (first | ((with_reducible refine gC 160 rfl ?_); refine pC (some 34) rfl #[.agg #[.int .i64 0, .string (rdOf ByteArray.empty y155 1), .string (⟨#[]⟩ : ByteArray)]] rfl Try.func160 (spec_OpText.calls k 0 (rdOf ByteArray.empty y155 1) (⟨#[]⟩ : ByteArray) t165 _ A52.out) ?_; rintro e w53 ⟨rfl, hR⟩; refine ⟨_, rfl, ?_⟩; replace HM := HM.call hR; clear hR))
     replace H := IT H; rcases H with ⟨c54, H⟩ | ⟨c54, H⟩
     ·obtain ⟨c54b0, c54b1⟩ := BE c54
      clear c54
      first|rw [c54b0]|(simp only [i64_w, i32_w]; rw [c54b0])|skip
      simp only [Option.some.injEq, Prod.mk.injEq] at H
      obtain ⟨rfl, rfl, rfl, rfl⟩ := H
      obtain ⟨_,_,_,_,_,_⟩ := bk3 (HM.bx 3 rfl)
      go_wp2_with (first | ((with_reducible refine gS 2 rfl ?_); refine pS 0 2 0 [.int .i64 0, .string (rdOf ByteArray.empty y155 1), .string (⟨#[]⟩ : ByteArray)] HM rfl rfl ?_; clear HM; intro w56 HM))
      refine bodyPost_ret (results_ct rfl _ _ gb148 43 #[.int .i64 0, .string (rdOf ByteArray.empty y155 1), .string (⟨#[]⟩ : ByteArray)] (0, 0) _ rfl (HM.bx 0 rfl) Try.underlying43 rfl (by kernel_rfl)) rfl ?_
      exact ⟨ER, (MD HM).pick []⟩
     ·obtain ⟨c54b0, c54b1⟩ := BF c54
      first|rw [c54b0]|(simp only [i64_w, i32_w]; rw [c54b0])|skip
      simp only [Option.some.injEq, Prod.mk.injEq] at H
      obtain ⟨rfl, rfl, rfl, rfl⟩ := H
      go_wp2_with (first | ((with_reducible refine gS 2 rfl ?_); refine pS 0 2 0 [.int .i64 0, .string (⟨#[]⟩ : ByteArray), .string (⟨#[]⟩ : ByteArray)] HM rfl rfl ?_; clear HM; intro w57 HM))
      refine bodyPost_ret (results_ct rfl _ _ gb148 43 #[.int .i64 0, .string (⟨#[]⟩ : ByteArray), .string (⟨#[]⟩ : ByteArray)] (0, 0) _ rfl (HM.bx 0 rfl) Try.underlying43 rfl (by kernel_rfl)) rfl ?_
      exact ⟨ER, (MD HM).pick []⟩
def spec_l21Zero.j0 : Nat → Bool → Int → Int → Int → Int → ByteArray → ByteArray → List ByteArray → Option (Bool)
 | 0, _, _, _, _, _, _, _, _ => none
 | k + 1, x24, x167000, x167001, x167002, x167003, x167004, x167005, x167006 => if x24 = true then (some false) else (if x167000 = 1 then (some true) else (if x167002 = 0 then (if x167000 = 6 then (some true) else (some (x167001 == 0))) else (some false)))
def spec_l21Zero.f (k : Nat) (a0_0 : Int) (a0_1 : Int) (a0_2 : Int) (a0_3 : Int) (a0_4 : ByteArray) (a0_5 : ByteArray) (l0_6 : List ByteArray) : Option (Bool) := if a0_0 = 2 then (if a0_0 = 3 then (spec_l21Zero.j0 k false a0_0 a0_1 a0_2 a0_3 a0_4 a0_5 l0_6) else (spec_l21Zero.j0 k (decide ((l0_6.length : Int) > 0)) a0_0 a0_1 a0_2 a0_3 a0_4 a0_5 l0_6)) else (if a0_3 = 0 then (if a0_4.toList = ([] : List UInt8) then (if a0_5.toList = ([] : List UInt8) then (if a0_0 = 3 then (spec_l21Zero.j0 k false a0_0 a0_1 a0_2 a0_3 a0_4 a0_5 l0_6) else (spec_l21Zero.j0 k (decide ((l0_6.length : Int) > 0)) a0_0 a0_1 a0_2 a0_3 a0_4 a0_5 l0_6)) else (spec_l21Zero.j0 k true a0_0 a0_1 a0_2 a0_3 a0_4 a0_5 l0_6)) else (spec_l21Zero.j0 k true a0_0 a0_1 a0_2 a0_3 a0_4 a0_5 l0_6)) else (spec_l21Zero.j0 k true a0_0 a0_1 a0_2 a0_3 a0_4 a0_5 l0_6))
theorem spec_l21Zero.mono_l : ∀ k, (∀ y0 y1 y2 y3 y4 y5 y6 y7, LeO (spec_l21Zero.j0 k y0 y1 y2 y3 y4 y5 y6 y7) (spec_l21Zero.j0 (k + 1) y0 y1 y2 y3 y4 y5 y6 y7))
 | 0 => fun _ _ _ _ _ _ _ _ r h => by simp [spec_l21Zero.j0] at h
 | k + 1 => by
  have ih0 := spec_l21Zero.mono_l k
  ·intro y0 y1 y2 y3 y4 y5 y6 y7
   unfold spec_l21Zero.j0
   repeat' first | (with_reducible first | exact ih0 _ _ _ _ _ _ _ _ | exact LeO.refl _ | exact LeO.none _ | refine LeO.ite ?_ ?_ | refine LeO.bind ?_ (fun _ => ?_)) | exact LeO.none _ | refine LeO.ite ?_ ?_ | refine LeO.bind ?_ (fun _ => ?_)
theorem spec_l21Zero.mono : ∀ a0 a1 a2 a3 a4 a5 a6 k, LeO (spec_l21Zero.f k a0 a1 a2 a3 a4 a5 a6) (spec_l21Zero.f (k + 1) a0 a1 a2 a3 a4 a5 a6) := by
 intro a0 a1 a2 a3 a4 a5 a6 k
 have ih0 := spec_l21Zero.mono_l k
 unfold spec_l21Zero.f
 repeat' first | (with_reducible first | exact ih0 _ _ _ _ _ _ _ _ | exact LeO.refl _ | exact LeO.none _ | refine LeO.ite ?_ ?_ | refine LeO.bind ?_ (fun _ => ?_)) | exact LeO.none _ | refine LeO.ite ?_ ?_ | refine LeO.bind ?_ (fun _ => ?_)
theorem spec_l21Zero.calls (k : Nat) (a0_0 : Int) (a0_1 : Int) (a0_2 : Int) (a0_3 : Int) (a0_4 : ByteArray) (a0_5 : ByteArray) (A0_6 : Option Addr) (c0_6 : Nat) (l0_6 : List ByteArray) (r : Bool) (w : World) (hr0_6 : Kd.C Kd.string w A0_6 l0_6.length l0_6) (hc0_6 : l0_6.length ≤ c0_6) (h : spec_l21Zero.f k a0_0 a0_1 a0_2 a0_3 a0_4 a0_5 l0_6 = some r) :
  Calls Try.prog 161 #[.agg #[.int .i64 a0_0, .int .i64 a0_1, .int .i64 a0_2, .int .i64 a0_3, .string a0_4, .string a0_5, .slice A0_6 l0_6.length c0_6]] w fun e w' => e = .returned (.bool r) ∧ Mem w [] w' [] := by
 have hu55 := Try.underlying55
 have hu43 := Try.underlying43
 have HR0_6 := Aside0.mk hr0_6
 have HC0_6 := Aside0.mk hc0_6
 clear hr0_6 hc0_6
 have HM := Mem.nil w
 have H := h
 clear h
 unfold spec_l21Zero.f at H
 go_enter Try.func161, Try.ntmps161
 have HC5 := Aside0.mk H
 clear H
 go_upto_region 2 with (first | ((with_reducible refine gN 1 rfl ?_); refine pB 1 55 [.int .i64 a0_0, .int .i64 a0_1, .int .i64 a0_2, .int .i64 a0_3, .string a0_4, .string a0_5, .slice A0_6 l0_6.length c0_6] HM rfl ?_; clear HM; intro gb166 w2 HM) | ((with_reducible refine gN 3 rfl ?_); refine pB 3 43 [.int .i64 0, .string (⟨#[]⟩ : ByteArray), .string (⟨#[]⟩ : ByteArray)] HM rfl ?_; clear HM; intro gb167 w3 HM) | ((with_reducible refine gS 3 rfl ?_); refine pS 1 3 0 [.int .i64 0, .string (⟨#[]⟩ : ByteArray), .string (⟨#[]⟩ : ByteArray)] HM rfl rfl ?_; clear HM; intro w4 HM))
 replace HM := nzM HM
 try simp only [Act.put, List.setIfInBounds_toArray, List.set_cons_zero, List.set_cons_succ]
 go_cut [24] (fun v24 wc => ∃ (kq : Nat) (x24_4 : Bool), v24 = .bool x24_4 ∧ Aside0 (spec_l21Zero.j0 kq x24_4 a0_0 a0_1 a0_2 a0_3 a0_4 a0_5 l0_6 = some r) ∧ Aside0 (kq ≤ k) ∧ Mem w [] wc [box 55 gb166 [.int .i64 a0_0, .int .i64 a0_1, .int .i64 a0_2, .int .i64 a0_3, .string a0_4, .string a0_5, .slice A0_6 l0_6.length c0_6], box 43 gb167 [.int .i64 0, .string (⟨#[]⟩ : ByteArray), .string (⟨#[]⟩ : ByteArray)]])
 case first =>
  have H := HC5.out
  clear HC5
  replace H := IT H; rcases H with ⟨c7, H⟩ | ⟨c7, H⟩
  ·obtain ⟨c7b0, c7b1⟩ := BE c7
   clear c7
   replace H := IT H; rcases H with ⟨c8, H⟩ | ⟨c8, H⟩
   ·obtain ⟨c8b0, c8b1⟩ := BE c8
    clear c8
    have H' := Aside0.mk H
    clear H
    obtain ⟨_,_,_,_,_,_,_,_,_,_,_,_,_,_⟩ := bk7 (HM.bx 0 rfl)
    go_wp2
    go_meet
    case rel => exact ⟨_, (false), RS, H', ⟨by first | omega | exact Nat.le_refl _⟩, (MD HM).pick [0, 1]⟩
   ·obtain ⟨c8b0, c8b1⟩ := BF c8
    have H' := Aside0.mk H
    clear H
    obtain ⟨_,_,_,_,_,_,_,_,_,_,_,_,_,_⟩ := bk7 (HM.bx 0 rfl)
    go_wp2
    go_meet
    case rel => exact ⟨_, (decide ((l0_6.length : Int) > 0)), RS, H', ⟨by first | omega | exact Nat.le_refl _⟩, (MD HM).pick [0, 1]⟩
  ·obtain ⟨c7b0, c7b1⟩ := BF c7
   replace H := IT H; rcases H with ⟨c10, H⟩ | ⟨c10, H⟩
   ·obtain ⟨c10b0, c10b1⟩ := BE c10
    clear c10
    replace H := IT H; rcases H with ⟨c11, H⟩ | ⟨c11, H⟩
    ·obtain ⟨c11b0, c11b1⟩ := BE c11
     have c11b6 : (a0_4.toList).isEmpty = true := by first | (rw [c11]; rfl) | (cases h_ : a0_4.toList with | nil => exact absurd h_ c11 | cons _ _ => rfl)
     clear c11
     replace H := IT H; rcases H with ⟨c12, H⟩ | ⟨c12, H⟩
     ·obtain ⟨c12b0, c12b1⟩ := BE c12
      have c12b6 : (a0_5.toList).isEmpty = true := by first | (rw [c12]; rfl) | (cases h_ : a0_5.toList with | nil => exact absurd h_ c12 | cons _ _ => rfl)
      clear c12
      replace H := IT H; rcases H with ⟨c13, H⟩ | ⟨c13, H⟩
      ·obtain ⟨c13b0, c13b1⟩ := BE c13
       clear c13
       have H' := Aside0.mk H
       clear H
       obtain ⟨_,_,_,_,_,_,_,_,_,_,_,_,_,_⟩ := bk7 (HM.bx 0 rfl)
       obtain ⟨_,_,_,_,_,_⟩ := bk3 (HM.bx 1 rfl)
       go_wp2
       go_meet
       case rel => exact ⟨_, (false), RS, H', ⟨by first | omega | exact Nat.le_refl _⟩, (MD HM).pick [0, 1]⟩
      ·obtain ⟨c13b0, c13b1⟩ := BF c13
       have H' := Aside0.mk H
       clear H
       obtain ⟨_,_,_,_,_,_,_,_,_,_,_,_,_,_⟩ := bk7 (HM.bx 0 rfl)
       obtain ⟨_,_,_,_,_,_⟩ := bk3 (HM.bx 1 rfl)
       go_wp2
       go_meet
       case rel => exact ⟨_, (decide ((l0_6.length : Int) > 0)), RS, H', ⟨by first | omega | exact Nat.le_refl _⟩, (MD HM).pick [0, 1]⟩
     ·obtain ⟨c12b0, c12b1⟩ := BF c12
      have c12b6 : (a0_5.toList).isEmpty = false := by first | (rw [c12]; rfl) | (cases h_ : a0_5.toList with | nil => exact absurd h_ c12 | cons _ _ => rfl)
      have H' := Aside0.mk H
      clear H
      obtain ⟨_,_,_,_,_,_,_,_,_,_,_,_,_,_⟩ := bk7 (HM.bx 0 rfl)
      obtain ⟨_,_,_,_,_,_⟩ := bk3 (HM.bx 1 rfl)
      go_wp2
      go_meet
      case rel => exact ⟨_, (true), RS, H', ⟨by first | omega | exact Nat.le_refl _⟩, (MD HM).pick [0, 1]⟩
    ·obtain ⟨c11b0, c11b1⟩ := BF c11
     have c11b6 : (a0_4.toList).isEmpty = false := by first | (rw [c11]; rfl) | (cases h_ : a0_4.toList with | nil => exact absurd h_ c11 | cons _ _ => rfl)
     have H' := Aside0.mk H
     clear H
     obtain ⟨_,_,_,_,_,_,_,_,_,_,_,_,_,_⟩ := bk7 (HM.bx 0 rfl)
     obtain ⟨_,_,_,_,_,_⟩ := bk3 (HM.bx 1 rfl)
     go_wp2
     go_meet
     case rel => exact ⟨_, (true), RS, H', ⟨by first | omega | exact Nat.le_refl _⟩, (MD HM).pick [0, 1]⟩
   ·obtain ⟨c10b0, c10b1⟩ := BF c10
    have H' := Aside0.mk H
    clear H
    obtain ⟨_,_,_,_,_,_,_,_,_,_,_,_,_,_⟩ := bk7 (HM.bx 0 rfl)
    obtain ⟨_,_,_,_,_,_⟩ := bk3 (HM.bx 1 rfl)
    go_wp2
    go_meet
    case rel => exact ⟨_, (true), RS, H', ⟨by first | omega | exact Nat.le_refl _⟩, (MD HM).pick [0, 1]⟩
 case rest =>
  clear HC5 HM
  obtain ⟨kq, x24_4, rfl, HA, HJ4, HM⟩ := hcut
  cases kq with
  | zero => exact absurd HA.out (by simp [spec_l21Zero.j0])
  | succ kj4 =>
   have H := HA.out
   clear HA
   simp only [spec_l21Zero.j0] at H
   go_upto_if 24 with (fail)
   replace H := IB H
   rcases H with ⟨c14, H⟩ | ⟨c14, H⟩
   ·subst c14
    obtain rfl := Option.some.inj H
    go_wp2
    go_ret
    exact ⟨ER, (MD HM).pick []⟩
   ·subst c14
    replace H := IT H; rcases H with ⟨c16, H⟩ | ⟨c16, H⟩
    ·obtain ⟨c16b0, c16b1⟩ := BE c16
     clear c16
     obtain rfl := Option.some.inj H
     obtain ⟨_,_,_,_,_,_,_,_,_,_,_,_,_,_⟩ := bk7 (HM.bx 0 rfl)
     go_wp2
     go_ret
     exact ⟨ER, (MD HM).pick []⟩
    ·obtain ⟨c16b0, c16b1⟩ := BF c16
     obtain ⟨_,_,_,_,_,_,_,_,_,_,_,_,_,_⟩ := bk7 (HM.bx 0 rfl)
     go_upto_if 32 with (fail)
     replace H := IT H; rcases H with ⟨c17, H⟩ | ⟨c17, H⟩
     ·obtain ⟨c17b0, c17b1⟩ := BE c17
      clear c17
      first|rw [c17b0]|(simp only [i64_w, i32_w]; rw [c17b0])|skip
      replace H := IT H; rcases H with ⟨c18, H⟩ | ⟨c18, H⟩
      ·obtain ⟨c18b0, c18b1⟩ := BE c18
       clear c18
       obtain rfl := Option.some.inj H
       go_wp2
       go_ret
       exact ⟨ER, (MD HM).pick []⟩
      ·obtain ⟨c18b0, c18b1⟩ := BF c18
       obtain rfl := Option.some.inj H
       go_wp2
       go_ret
       exact ⟨ER, (MD HM).pick []⟩
     ·obtain ⟨c17b0, c17b1⟩ := BF c17
      first|rw [c17b0]|(simp only [i64_w, i32_w]; rw [c17b0])|skip
      obtain rfl := Option.some.inj H
      go_wp2
      go_ret
      exact ⟨ER, (MD HM).pick []⟩
def spec_AsksOk.l0 : Nat → List ByteArray → List ByteArray → Int → Int → Option (Bool)
 | 0, _, _, _, _ => none
 | k + 1, x0, x5, x6, x7 => if x7 < x6 then (if 0 ≤ x7 then (if x7 < (x5.length : Int) then ((spec_ItemOk.f k (rdOf ByteArray.empty x5 x7) (⟨#[]⟩ : ByteArray) 0).bind fun t169 => (if t169 = true then (spec_AsksOk.l0 k x0 x5 x6 (wrap64 (x7 + 1))) else (some false))) else (none)) else (none)) else (some (decide ((x0.length : Int) ≤ 300)))
def spec_AsksOk.f (k : Nat) (l0 : List ByteArray) : Option (Bool) := spec_AsksOk.l0 k l0 l0 (l0.length : Int) 0
theorem spec_AsksOk.mono_l : ∀ k, (∀ y0 y1 y2 y3, LeO (spec_AsksOk.l0 k y0 y1 y2 y3) (spec_AsksOk.l0 (k + 1) y0 y1 y2 y3))
 | 0 => fun _ _ _ _ r h => by simp [spec_AsksOk.l0] at h
 | k + 1 => by
  have ih0 := spec_AsksOk.mono_l k
  ·intro y0 y1 y2 y3
   unfold spec_AsksOk.l0
   repeat' first | (with_reducible first | exact ih0 _ _ _ _ | exact spec_ItemOk.mono _ _ _ _ | exact LeO.refl _ | exact LeO.none _ | refine LeO.ite ?_ ?_ | refine LeO.bind ?_ (fun _ => ?_)) | exact LeO.none _ | refine LeO.ite ?_ ?_ | refine LeO.bind ?_ (fun _ => ?_)
theorem spec_AsksOk.mono : ∀ a0 k, LeO (spec_AsksOk.f k a0) (spec_AsksOk.f (k + 1) a0) := by
 intro a0 k
 have ih0 := spec_AsksOk.mono_l k
 unfold spec_AsksOk.f
 repeat' first | (with_reducible first | exact ih0 _ _ _ _ | exact spec_ItemOk.mono _ _ _ _ | exact LeO.refl _ | exact LeO.none _ | refine LeO.ite ?_ ?_ | refine LeO.bind ?_ (fun _ => ?_)) | exact LeO.none _ | refine LeO.ite ?_ ?_ | refine LeO.bind ?_ (fun _ => ?_)
theorem spec_AsksOk.calls (k : Nat) (A0 : Option Addr) (c0 : Nat) (l0 : List ByteArray) (r : Bool) (w : World) (hr0 : Kd.C Kd.string w A0 l0.length l0) (hc0 : l0.length ≤ c0) (h : spec_AsksOk.f k l0 = some r) :
  Calls Try.prog 162 #[.slice A0 l0.length c0] w fun e w' => e = .returned (.bool r) ∧ Mem w [] w' [] := by
 have hu122 := Try.underlying122
 have HR0 := Aside0.mk hr0
 have HC0 := Aside0.mk hc0
 clear hr0 hc0
 have HM := Mem.nil w
 have H := h
 clear h
 unfold spec_AsksOk.f at H
 go_enter Try.func162, Try.ntmps162
 have H' := Aside0.mk H
 clear H
 go_wp2
 go_loopg [7] k (fun kq v7 w' => ∃ (x7_1 : Int), v7 = .int .i64 x7_1 ∧ Aside0 (spec_AsksOk.l0 kq l0 l0 (l0.length : Int) x7_1 = some r) ∧ Aside0 (kq ≤ k) ∧ Mem w [] w' [])
 case atStart => exact ⟨(0), RS, H', ⟨Nat.le_refl _⟩, (MD HM).pick []⟩
 case round =>
  clear H' HM
  obtain ⟨x7_1, rfl, HA, HK1, HM⟩ := hrel
  cases gk with
  | zero => exact absurd HA.out (by simp [spec_AsksOk.l0])
  | succ k1 =>
   have H := HA.out
   clear HA
   simp only [spec_AsksOk.l0] at H
   go_upto_if 8 with (fail)
   replace H := IT H; rcases H with ⟨c2, H⟩ | ⟨c2, H⟩
   ·have c2b0 := decide_eq_true c2
    clear c2
    first|rw [c2b0]|(simp only [i64_w, i32_w]; rw [c2b0])|skip
    replace H := GD H; obtain ⟨c3, H⟩ := H
    have c3b0 := decide_eq_true c3
    clear c3
    replace H := GD H; obtain ⟨c4, H⟩ := H
    have c4b0 := decide_eq_true c4
    clear c4
    replace H := BN H; obtain ⟨t169, A5, H⟩ := H
    have p168 : 0 ≤ (x7_1 : Int) := of_decide_eq_true AS
    have q168 : (x7_1 : Int) < (l0.length : Int) := of_decide_eq_true AS
    obtain ⟨ad168, e168, hx168_0⟩ := Kd.at_string (HM.came HR0.out) x7_1 p168 q168
    cases e168
    replace p168 := eq_true p168
    replace q168 := eq_true q168
    go_upto_if 14 with (first | ((with_reducible refine gC 149 rfl ?_); refine pC (some 13) rfl #[.agg #[.string (rdOf ByteArray.empty l0 x7_1), .string (⟨#[]⟩ : ByteArray), .int .i64 0]] rfl Try.func149 (spec_ItemOk.calls k1 (rdOf ByteArray.empty l0 x7_1) (⟨#[]⟩ : ByteArray) 0 t169 _ A5.out) ?_; rintro e w6 ⟨rfl, hR⟩; refine ⟨_, rfl, ?_⟩; replace HM := HM.call hR; clear hR))
    replace H := IB H
    rcases H with ⟨c7, H⟩ | ⟨c7, H⟩
    ·subst c7
     have H' := Aside0.mk H
     clear H
     go_wp2
     go_roundg k1
     case measure => have := HK1.out; omega
     case rel => exact ⟨(wrap64 (x7_1 + 1)), RS, H', ⟨by have := HK1.out; omega⟩, (MD HM).pick []⟩
    ·subst c7
     obtain rfl := Option.some.inj H
     go_wp2
     go_ret
     exact ⟨ER, (MD HM).pick []⟩
   ·have c2b0 := decide_eq_false c2
    clear c2
    first|rw [c2b0]|(simp only [i64_w, i32_w]; rw [c2b0])|skip
    obtain rfl := Option.some.inj H
    go_wp2
    go_ret
    exact ⟨ER, (MD HM).pick []⟩
def spec_AsksText.l0 : Nat → ByteArray → List ByteArray → Int → Int → Option (ByteArray)
 | 0, _, _, _, _ => none
 | k + 1, x3, x10, x11, x12 => if x12 < x11 then (if 0 ≤ x12 then (if x12 < (x10.length : Int) then (if x12 > 0 then (if x3.size + 1 ≤ 9223372036854775807 then (if x3.size + 1 + (rdOf ByteArray.empty x10 x12).size ≤ 9223372036854775807 then (spec_AsksText.l0 k ((x3 ++ (⟨#[32]⟩ : ByteArray)) ++ (rdOf ByteArray.empty x10 x12)) x10 x11 (wrap64 (x12 + 1))) else (none)) else (none)) else (if x3.size + (rdOf ByteArray.empty x10 x12).size ≤ 9223372036854775807 then (spec_AsksText.l0 k (x3 ++ (rdOf ByteArray.empty x10 x12)) x10 x11 (wrap64 (x12 + 1))) else (none))) else (none)) else (none)) else (some x3)
def spec_AsksText.f (k : Nat) (l0 : List ByteArray) : Option (ByteArray) := (spec_AsksOk.f k l0).bind fun t170 => (if t170 = true then (spec_AsksText.l0 k (⟨#[]⟩ : ByteArray) l0 (l0.length : Int) 0) else (some (⟨#[]⟩ : ByteArray)))
theorem spec_AsksText.mono_l : ∀ k, (∀ y0 y1 y2 y3, LeO (spec_AsksText.l0 k y0 y1 y2 y3) (spec_AsksText.l0 (k + 1) y0 y1 y2 y3))
 | 0 => fun _ _ _ _ r h => by simp [spec_AsksText.l0] at h
 | k + 1 => by
  have ih0 := spec_AsksText.mono_l k
  ·intro y0 y1 y2 y3
   unfold spec_AsksText.l0
   repeat' first | (with_reducible first | exact ih0 _ _ _ _ | exact spec_AsksOk.mono _ _ | exact LeO.refl _ | exact LeO.none _ | refine LeO.ite ?_ ?_ | refine LeO.bind ?_ (fun _ => ?_)) | exact LeO.none _ | refine LeO.ite ?_ ?_ | refine LeO.bind ?_ (fun _ => ?_)
theorem spec_AsksText.mono : ∀ a0 k, LeO (spec_AsksText.f k a0) (spec_AsksText.f (k + 1) a0) := by
 intro a0 k
 have ih0 := spec_AsksText.mono_l k
 unfold spec_AsksText.f
 repeat' first | (with_reducible first | exact ih0 _ _ _ _ | exact spec_AsksOk.mono _ _ | exact LeO.refl _ | exact LeO.none _ | refine LeO.ite ?_ ?_ | refine LeO.bind ?_ (fun _ => ?_)) | exact LeO.none _ | refine LeO.ite ?_ ?_ | refine LeO.bind ?_ (fun _ => ?_)
theorem spec_AsksText.calls (k : Nat) (A0 : Option Addr) (c0 : Nat) (l0 : List ByteArray) (r : ByteArray) (w : World) (hr0 : Kd.C Kd.string w A0 l0.length l0) (hc0 : l0.length ≤ c0) (h : spec_AsksText.f k l0 = some r) :
  Calls Try.prog 163 #[.slice A0 l0.length c0] w fun e w' => e = .returned (.string r) ∧ Mem w [] w' [] := by
 have HR0 := Aside0.mk hr0
 have HC0 := Aside0.mk hc0
 clear hr0 hc0
 have HM := Mem.nil w
 have H := h
 clear h
 unfold spec_AsksText.f at H
 go_enter Try.func163, Try.ntmps163
 replace H := BN H; obtain ⟨t170, A2, H⟩ := H
 go_upto_if 8 with (first | ((with_reducible refine gC 162 rfl ?_); refine pC (some 7) rfl #[.slice A0 l0.length c0] rfl Try.func162 (spec_AsksOk.calls k _ _ l0 t170 _ (HM.came HR0.out) HC0.out A2.out) ?_; rintro e w3 ⟨rfl, hR⟩; refine ⟨_, rfl, ?_⟩; replace HM := HM.call hR; clear hR))
 replace H := IB H
 rcases H with ⟨c4, H⟩ | ⟨c4, H⟩
 ·subst c4
  have H' := Aside0.mk H
  clear H
  go_wp2
  go_loopg [3, 12] k (fun kq v3 v12 w' => ∃ (x3_1 : ByteArray) (x12_1 : Int), v3 = .string x3_1 ∧ v12 = .int .i64 x12_1 ∧ Aside0 (spec_AsksText.l0 kq x3_1 l0 (l0.length : Int) x12_1 = some r) ∧ Aside0 (kq ≤ k) ∧ Mem w [] w' [])
  case atStart => exact ⟨((⟨#[]⟩ : ByteArray)), (0), RS, RS, H', ⟨Nat.le_refl _⟩, (MD HM).pick []⟩
  case round =>
   clear H' HM
   obtain ⟨x3_1, x12_1, rfl, rfl, HA, HK1, HM⟩ := hrel
   cases gk with
   | zero => exact absurd HA.out (by simp [spec_AsksText.l0])
   | succ k1 =>
    have H := HA.out
    clear HA
    simp only [spec_AsksText.l0] at H
    go_upto_if 13 with (fail)
    replace H := IT H; rcases H with ⟨c5, H⟩ | ⟨c5, H⟩
    ·have c5b0 := decide_eq_true c5
     clear c5
     first|rw [c5b0]|(simp only [i64_w, i32_w]; rw [c5b0])|skip
     replace H := GD H; obtain ⟨c6, H⟩ := H
     have c6b0 := decide_eq_true c6
     clear c6
     replace H := GD H; obtain ⟨c7, H⟩ := H
     have c7b0 := decide_eq_true c7
     clear c7
     have p171 : 0 ≤ (x12_1 : Int) := of_decide_eq_true AS
     have q171 : (x12_1 : Int) < (l0.length : Int) := of_decide_eq_true AS
     obtain ⟨ad171, e171, hx171_0⟩ := Kd.at_string (HM.came HR0.out) x12_1 p171 q171
     cases e171
     replace p171 := eq_true p171
     replace q171 := eq_true q171
     go_upto_if 18 with (fail)
     replace H := IT H; rcases H with ⟨c8, H⟩ | ⟨c8, H⟩
     ·have c8b0 : decide (0 < x12_1) = true := decide_eq_true c8
      clear c8
      first|rw [c8b0]|(simp only [i64_w, i32_w]; rw [c8b0])|skip
      replace H := GD H; obtain ⟨c9, H⟩ := H
      have c9b0 := eq_true c9
      have c9b1 : decide (x3_1.size + 1 ≤ 9223372036854775807) = true := decide_eq_true c9
      try have c9b2 : (9223372036854775807 < x3_1.size + 1) = False := eq_false (Nat.not_lt.2 c9)
      replace H := GD H; obtain ⟨c10, H⟩ := H
      have c10b0 := eq_true c10
      have c10b1 : decide (x3_1.size + 1 + (rdOf ByteArray.empty l0 x12_1).size ≤ 9223372036854775807) = true := decide_eq_true c10
      try have c10b2 : (9223372036854775807 < x3_1.size + 1 + (rdOf ByteArray.empty l0 x12_1).size) = False := eq_false (Nat.not_lt.2 c10)
      have H' := Aside0.mk H
      clear H
      go_wp2
      go_roundg k1
      case measure => have := HK1.out; omega
      case rel => exact ⟨((x3_1 ++ (⟨#[32]⟩ : ByteArray)) ++ (rdOf ByteArray.empty l0 x12_1)), (wrap64 (x12_1 + 1)), RS, RS, H', ⟨by have := HK1.out; omega⟩, (MD HM).pick []⟩
     ·have c8b0 : decide (0 < x12_1) = false := decide_eq_false c8
      clear c8
      first|rw [c8b0]|(simp only [i64_w, i32_w]; rw [c8b0])|skip
      replace H := GD H; obtain ⟨c11, H⟩ := H
      have c11b0 := eq_true c11
      have c11b1 : decide (x3_1.size + (rdOf ByteArray.empty l0 x12_1).size ≤ 9223372036854775807) = true := decide_eq_true c11
      try have c11b2 : (9223372036854775807 < x3_1.size + (rdOf ByteArray.empty l0 x12_1).size) = False := eq_false (Nat.not_lt.2 c11)
      have H' := Aside0.mk H
      clear H
      go_wp2
      go_roundg k1
      case measure => have := HK1.out; omega
      case rel => exact ⟨(x3_1 ++ (rdOf ByteArray.empty l0 x12_1)), (wrap64 (x12_1 + 1)), RS, RS, H', ⟨by have := HK1.out; omega⟩, (MD HM).pick []⟩
    ·have c5b0 := decide_eq_false c5
     clear c5
     first|rw [c5b0]|(simp only [i64_w, i32_w]; rw [c5b0])|skip
     obtain rfl := Option.some.inj H
     go_wp2
     go_ret
     exact ⟨ER, (MD HM).pick []⟩
 ·subst c4
  obtain rfl := Option.some.inj H
  go_wp2
  go_ret
  exact ⟨ER, (MD HM).pick []⟩
def spec_CmdText.j0 : Nat → ByteArray → Bool → Int → Int → Int → Int → ByteArray → ByteArray → List ByteArray → Option (ByteArray)
 | 0, _, _, _, _, _, _, _, _, _ => none
 | k + 1, x3, x46, x173000, x173001, x173002, x173003, x173004, x173005, x173006 => if x46 = true then (some (⟨#[]⟩ : ByteArray)) else (if x3.size + 1 ≤ 9223372036854775807 then ((spec_NumText.f k x173001).bind fun t180 => (if x3.size + 1 + t180.size ≤ 9223372036854775807 then (if x3.size + 1 + t180.size + 1 ≤ 9223372036854775807 then ((spec_NumText.f k x173002).bind fun t181 => (if x3.size + 1 + t180.size + 1 + t181.size ≤ 9223372036854775807 then (some ((((x3 ++ (⟨#[32]⟩ : ByteArray)) ++ t180) ++ (⟨#[32]⟩ : ByteArray)) ++ t181)) else (none))) else (none)) else (none))) else (none))
def spec_CmdText.f (k : Nat) (a0_0 : Int) (a0_1 : Int) (a0_2 : Int) (a0_3 : Int) (a0_4 : ByteArray) (a0_5 : ByteArray) (l0_6 : List ByteArray) : Option (ByteArray) := (spec_l21Zero.f k a0_0 a0_1 a0_2 a0_3 a0_4 a0_5 l0_6).bind fun t173 => (if t173 = true then ((spec_l21Word.f a0_0).bind fun t174 => (if a0_0 = 2 then ((spec_OpText.f k a0_3 a0_4 a0_5).bind fun t175 => (some t175)) else (if a0_0 = 3 then ((spec_AsksOk.f k l0_6).bind fun t176 => (if t176 = true then (if (l0_6.length : Int) = 0 then (some (⟨#[]⟩ : ByteArray)) else (if t174.size + 1 ≤ 9223372036854775807 then ((spec_AsksText.f k l0_6).bind fun t177 => (if t174.size + 1 + t177.size ≤ 9223372036854775807 then (some ((t174 ++ (⟨#[32]⟩ : ByteArray)) ++ t177)) else (none))) else (none))) else (some (⟨#[]⟩ : ByteArray)))) else (if a0_0 = 1 then ((spec_l01Num.f a0_1).bind fun t178 => (if t178 = true then ((spec_l01Num.f a0_2).bind fun t179 => (spec_CmdText.j0 k t174 (!t179) a0_0 a0_1 a0_2 a0_3 a0_4 a0_5 l0_6)) else (spec_CmdText.j0 k t174 true a0_0 a0_1 a0_2 a0_3 a0_4 a0_5 l0_6))) else (if a0_0 = 6 then ((spec_l01Num.f a0_1).bind fun t182 => (if t182 = true then (if t174.size + 1 ≤ 9223372036854775807 then ((spec_NumText.f k a0_1).bind fun t183 => (if t174.size + 1 + t183.size ≤ 9223372036854775807 then (some ((t174 ++ (⟨#[32]⟩ : ByteArray)) ++ t183)) else (none))) else (none)) else (some (⟨#[]⟩ : ByteArray)))) else (some t174)))))) else (some (⟨#[]⟩ : ByteArray)))
theorem spec_CmdText.mono_l : ∀ k, (∀ y0 y1 y2 y3 y4 y5 y6 y7 y8, LeO (spec_CmdText.j0 k y0 y1 y2 y3 y4 y5 y6 y7 y8) (spec_CmdText.j0 (k + 1) y0 y1 y2 y3 y4 y5 y6 y7 y8))
 | 0 => fun _ _ _ _ _ _ _ _ _ r h => by simp [spec_CmdText.j0] at h
 | k + 1 => by
  have ih0 := spec_CmdText.mono_l k
  ·intro y0 y1 y2 y3 y4 y5 y6 y7 y8
   unfold spec_CmdText.j0
   repeat' first | (with_reducible first | exact ih0 _ _ _ _ _ _ _ _ _ | exact spec_AsksOk.mono _ _ | exact spec_AsksText.mono _ _ | exact spec_NumText.mono _ _ | exact spec_OpText.mono _ _ _ _ | exact spec_l21Zero.mono _ _ _ _ _ _ _ _ | exact LeO.refl _ | exact LeO.none _ | refine LeO.ite ?_ ?_ | refine LeO.bind ?_ (fun _ => ?_)) | exact LeO.none _ | refine LeO.ite ?_ ?_ | refine LeO.bind ?_ (fun _ => ?_)
theorem spec_CmdText.mono : ∀ a0 a1 a2 a3 a4 a5 a6 k, LeO (spec_CmdText.f k a0 a1 a2 a3 a4 a5 a6) (spec_CmdText.f (k + 1) a0 a1 a2 a3 a4 a5 a6) := by
 intro a0 a1 a2 a3 a4 a5 a6 k
 have ih0 := spec_CmdText.mono_l k
 unfold spec_CmdText.f
 repeat' first | (with_reducible first | exact ih0 _ _ _ _ _ _ _ _ _ | exact spec_AsksOk.mono _ _ | exact spec_AsksText.mono _ _ | exact spec_NumText.mono _ _ | exact spec_OpText.mono _ _ _ _ | exact spec_l21Zero.mono _ _ _ _ _ _ _ _ | exact LeO.refl _ | exact LeO.none _ | refine LeO.ite ?_ ?_ | refine LeO.bind ?_ (fun _ => ?_)) | exact LeO.none _ | refine LeO.ite ?_ ?_ | refine LeO.bind ?_ (fun _ => ?_)
def spec_CmdText.T14 : Bool × List (List Nat × List Nat) := (true, [([], []), ([0], [0]), ([], []), ([2], [2]), ([3], [3]), ([1, 4], [1, 4]), ([5], [5]), ([], []), ([7], [7]), ([8, 4], [8]), ([6, 9], [6, 9]), ([10, 9, 0, 1, 2, 3, 4, 5, 6, 7, 8, 9, 10], [10])])
def spec_CmdText.B14 : List Nat := [0, 1, 0, 4, 12, 31, 63, 0, 128, 412, 1023, 2047]
theorem spec_CmdText.tab14 : rtab .any (opsOf Try.f114 14) = spec_CmdText.T14 := by kernel_rfl
theorem spec_CmdText.bits14 : waitsOk spec_CmdText.T14.2 spec_CmdText.B14 = true := by kernel_rfl
theorem spec_CmdText.calls (k : Nat) (a0_0 : Int) (a0_1 : Int) (a0_2 : Int) (a0_3 : Int) (a0_4 : ByteArray) (a0_5 : ByteArray) (A0_6 : Option Addr) (c0_6 : Nat) (l0_6 : List ByteArray) (r : ByteArray) (w : World) (hr0_6 : Kd.C Kd.string w A0_6 l0_6.length l0_6) (hc0_6 : l0_6.length ≤ c0_6) (h : spec_CmdText.f k a0_0 a0_1 a0_2 a0_3 a0_4 a0_5 l0_6 = some r) :
  Calls Try.prog 114 #[.agg #[.int .i64 a0_0, .int .i64 a0_1, .int .i64 a0_2, .int .i64 a0_3, .string a0_4, .string a0_5, .slice A0_6 l0_6.length c0_6]] w fun e w' => e = .returned (.string r) ∧ Mem w [] w' [] := by
 have hu55 := Try.underlying55
 have hu43 := Try.underlying43
 have HR0_6 := Aside0.mk hr0_6
 have HC0_6 := Aside0.mk hc0_6
 clear hr0_6 hc0_6
 have HM := Mem.nil w
 have H := h
 clear h
 unfold spec_CmdText.f at H
 go_enter Try.func114, Try.ntmps114
 replace H := BN H; obtain ⟨t173, A4, H⟩ := H
 go_upto_if 6 with (first | ((with_reducible refine gN 1 rfl ?_); refine pB 1 55 [.int .i64 a0_0, .int .i64 a0_1, .int .i64 a0_2, .int .i64 a0_3, .string a0_4, .string a0_5, .slice A0_6 l0_6.length c0_6] HM rfl ?_; clear HM; intro gb172 w2 HM; obtain ⟨_,_,_,_,_,_,_,_,_,_,_,_,_,_⟩ := bk7 (HM.bx 0 rfl)) | ((with_reducible refine gC 161 rfl ?_); refine pC (some 5) rfl #[.agg #[.int .i64 a0_0, .int .i64 a0_1, .int .i64 a0_2, .int .i64 a0_3, .string a0_4, .string a0_5, .slice A0_6 l0_6.length c0_6]] rfl Try.func161 (spec_l21Zero.calls k a0_0 a0_1 a0_2 a0_3 a0_4 a0_5 _ _ l0_6 t173 _ (HM.came HR0_6.out) HC0_6.out A4.out) ?_; rintro e w5 ⟨rfl, hR⟩; refine ⟨_, rfl, ?_⟩; replace HM := HM.call hR; clear hR))
 replace HM := nzM HM
 replace H := IB H
 rcases H with ⟨c6, H⟩ | ⟨c6, H⟩
 ·subst c6
  replace H := BN H; obtain ⟨t174, A8, H⟩ := H
  obtain ⟨_,_,_,_,_,_,_,_,_,_,_,_,_,_⟩ := bk7 (HM.bx 0 rfl)
  go_upto_if 12 with (first | ((with_reducible refine gC 111 rfl ?_); refine pC (some 9) rfl #[.int .i64 a0_0] rfl Try.func111 (spec_l21Word.calls a0_0 t174 _ A8.out) ?_; rintro e w9 ⟨rfl, hd⟩; refine ⟨_, rfl, ?_⟩; replace HM := HM.drawn hd; clear hd; obtain ⟨_,_,_,_,_,_,_,_,_,_,_,_,_,_⟩ := bk7 (HM.bx 0 rfl)))
  replace H := IT H; rcases H with ⟨c11, H⟩ | ⟨c11, H⟩
  ·obtain ⟨c11b0, c11b1⟩ := BE c11
   clear c11
   first|rw [c11b0]|(simp only [i64_w, i32_w]; rw [c11b0])|skip
   replace H := BN H; obtain ⟨t175, A12, H⟩ := H
   obtain rfl := Option.some.inj H
   go_wp2_with (first | ((with_reducible refine gC 160 rfl ?_); refine pC (some 16) rfl #[.agg #[.int .i64 a0_3, .string a0_4, .string a0_5]] rfl Try.func160 (spec_OpText.calls k a0_3 a0_4 a0_5 t175 _ A12.out) ?_; rintro e w13 ⟨rfl, hR⟩; refine ⟨_, rfl, ?_⟩; replace HM := HM.call hR; clear hR))
   go_ret
   exact ⟨ER, (MD HM).pick []⟩
  ·obtain ⟨c11b0, c11b1⟩ := BF c11
   first|rw [c11b0]|(simp only [i64_w, i32_w]; rw [c11b0])|skip
   go_upto_if 17 with (fail)
   replace H := IT H; rcases H with ⟨c14, H⟩ | ⟨c14, H⟩
   ·obtain ⟨c14b0, c14b1⟩ := BE c14
    clear c14
    first|rw [c14b0]|(simp only [i64_w, i32_w]; rw [c14b0])|skip
    replace H := BN H; obtain ⟨t176, A15, H⟩ := H
    replace H := IB H
    rcases H with ⟨c17, H⟩ | ⟨c17, H⟩
    ·subst c17
     go_upto_if 28 with (first | ((with_reducible refine gC 162 rfl ?_); refine pC (some 21) rfl #[.slice A0_6 l0_6.length c0_6] rfl Try.func162 (spec_AsksOk.calls k _ _ l0_6 true _ (HM.came HR0_6.out) HC0_6.out A15.out) ?_; rintro e w16 ⟨rfl, hR⟩; refine ⟨_, rfl, ?_⟩; replace HM := HM.call hR; clear hR; obtain ⟨_,_,_,_,_,_,_,_,_,_,_,_,_,_⟩ := bk7 (HM.bx 0 rfl)))
     replace H := IT H; rcases H with ⟨c19, H⟩ | ⟨c19, H⟩
     ·obtain ⟨c19b0, c19b1⟩ := BE c19
      clear c19
      first|rw [c19b0]|(simp only [i64_w, i32_w]; rw [c19b0])|skip
      obtain rfl := Option.some.inj H
      go_wp2
      go_ret
      exact ⟨ER, (MD HM).pick []⟩
     ·obtain ⟨c19b0, c19b1⟩ := BF c19
      have c19b2 : ¬ (l0_6 = []) := fun h_ => c19 (by rw [h_]; rfl)
      first|rw [c19b0]|(simp only [i64_w, i32_w]; rw [c19b0])|skip
      replace H := GD H; obtain ⟨c20, H⟩ := H
      have c20b0 := eq_true c20
      have c20b1 : decide (t174.size + 1 ≤ 9223372036854775807) = true := decide_eq_true c20
      try have c20b2 : (9223372036854775807 < t174.size + 1) = False := eq_false (Nat.not_lt.2 c20)
      replace H := BN H; obtain ⟨t177, A21, H⟩ := H
      replace H := GD H; obtain ⟨c23, H⟩ := H
      have c23b0 := eq_true c23
      have c23b1 : decide (t174.size + 1 + t177.size ≤ 9223372036854775807) = true := decide_eq_true c23
      try have c23b2 : (9223372036854775807 < t174.size + 1 + t177.size) = False := eq_false (Nat.not_lt.2 c23)
      obtain rfl := Option.some.inj H
      go_wp2_with (first | ((with_reducible refine gC 163 rfl ?_); refine pC (some 33) rfl #[.slice A0_6 l0_6.length c0_6] rfl Try.func163 (spec_AsksText.calls k _ _ l0_6 t177 _ (HM.came HR0_6.out) HC0_6.out A21.out) ?_; rintro e w22 ⟨rfl, hR⟩; refine ⟨_, rfl, ?_⟩; replace HM := HM.call hR; clear hR))
      go_ret
      exact ⟨ER, (MD HM).pick []⟩
    ·subst c17
     obtain rfl := Option.some.inj H
     go_wp2_with (first | ((with_reducible refine gC 162 rfl ?_); refine pC (some 21) rfl #[.slice A0_6 l0_6.length c0_6] rfl Try.func162 (spec_AsksOk.calls k _ _ l0_6 false _ (HM.came HR0_6.out) HC0_6.out A15.out) ?_; rintro e w16 ⟨rfl, hR⟩; refine ⟨_, rfl, ?_⟩; replace HM := HM.call hR; clear hR))
     go_ret
     exact ⟨ER, (MD HM).pick []⟩
   ·obtain ⟨c14b0, c14b1⟩ := BF c14
    first|rw [c14b0]|(simp only [i64_w, i32_w]; rw [c14b0])|skip
    go_upto_if 35 with (fail)
    replace H := IT H; rcases H with ⟨c24, H⟩ | ⟨c24, H⟩
    ·obtain ⟨c24b0, c24b1⟩ := BE c24
     clear c24
     first|rw [c24b0]|(simp only [i64_w, i32_w]; rw [c24b0])|skip
     have HC25 := Aside0.mk H
     clear H
     go_upto_region 12 with (fail)
     go_cut [46] (fun v46 wc => ∃ (kq : Nat) (x46_24 : Bool), v46 = .bool x46_24 ∧ Aside0 (spec_CmdText.j0 kq t174 x46_24 a0_0 a0_1 a0_2 a0_3 a0_4 a0_5 l0_6 = some r) ∧ Aside0 (kq ≤ k) ∧ Mem w [] wc [box 55 gb172 [.int .i64 a0_0, .int .i64 a0_1, .int .i64 a0_2, .int .i64 a0_3, .string a0_4, .string a0_5, .slice A0_6 l0_6.length c0_6]])
     case first =>
      have H := HC25.out
      clear HC25
      replace H := BN H; obtain ⟨t178, A26, H⟩ := H
      replace H := IB H
      rcases H with ⟨c28, H⟩ | ⟨c28, H⟩
      ·subst c28
       replace H := BN H; obtain ⟨t179, A30, H⟩ := H
       have H' := Aside0.mk H
       clear H
       go_wp2_with (first | ((with_reducible refine gC 164 rfl ?_); refine pC (some 39) rfl #[.int .i64 a0_1] rfl Try.func164 (spec_l01Num.calls a0_1 true _ A26.out) ?_; rintro e w27 ⟨rfl, hd⟩; refine ⟨_, rfl, ?_⟩; replace HM := HM.drawn hd; clear hd; obtain ⟨_,_,_,_,_,_,_,_,_,_,_,_,_,_⟩ := bk7 (HM.bx 0 rfl)) | ((with_reducible refine gC 164 rfl ?_); refine pC (some 44) rfl #[.int .i64 a0_2] rfl Try.func164 (spec_l01Num.calls a0_2 t179 _ A30.out) ?_; rintro e w31 ⟨rfl, hd⟩; refine ⟨_, rfl, ?_⟩; replace HM := HM.drawn hd; clear hd))
       go_meet
       case rel => exact ⟨_, (!t179), RS, H', ⟨by first | omega | exact Nat.le_refl _⟩, (MD HM).pick [0]⟩
      ·subst c28
       have H' := Aside0.mk H
       clear H
       go_wp2_with (first | ((with_reducible refine gC 164 rfl ?_); refine pC (some 39) rfl #[.int .i64 a0_1] rfl Try.func164 (spec_l01Num.calls a0_1 false _ A26.out) ?_; rintro e w27 ⟨rfl, hd⟩; refine ⟨_, rfl, ?_⟩; replace HM := HM.drawn hd; clear hd))
       go_meet
       case rel => exact ⟨_, (true), RS, H', ⟨by first | omega | exact Nat.le_refl _⟩, (MD HM).pick [0]⟩
     case rest =>
      clear HC25 HM
      obtain ⟨kq, x46_24, rfl, HA, HJ24, HM⟩ := hcut
      cases kq with
      | zero => exact absurd HA.out (by simp [spec_CmdText.j0])
      | succ kj24 =>
       have H := HA.out
       clear HA
       simp only [spec_CmdText.j0] at H
       go_upto_if 46 with (fail)
       replace H := IB H
       rcases H with ⟨c32, H⟩ | ⟨c32, H⟩
       ·subst c32
        obtain rfl := Option.some.inj H
        go_wp2
        go_ret
        exact ⟨ER, (MD HM).pick []⟩
       ·subst c32
        try go_wp2
        replace H := GD H; obtain ⟨c33, H⟩ := H
        have c33b0 := eq_true c33
        have c33b1 : decide (t174.size + 1 ≤ 9223372036854775807) = true := decide_eq_true c33
        try have c33b2 : (9223372036854775807 < t174.size + 1) = False := eq_false (Nat.not_lt.2 c33)
        replace H := BN H; obtain ⟨t180, A34, H⟩ := H
        replace H := GD H; obtain ⟨c35, H⟩ := H
        have c35b0 := eq_true c35
        have c35b1 : decide (t174.size + 1 + t180.size ≤ 9223372036854775807) = true := decide_eq_true c35
        try have c35b2 : (9223372036854775807 < t174.size + 1 + t180.size) = False := eq_false (Nat.not_lt.2 c35)
        replace H := GD H; obtain ⟨c36, H⟩ := H
        have c36b0 := eq_true c36
        have c36b1 : decide (t174.size + 1 + t180.size + 1 ≤ 9223372036854775807) = true := decide_eq_true c36
        try have c36b2 : (9223372036854775807 < t174.size + 1 + t180.size + 1) = False := eq_false (Nat.not_lt.2 c36)
        replace H := BN H; obtain ⟨t181, A37, H⟩ := H
        replace H := GD H; obtain ⟨c38, H⟩ := H
        have c38b0 := eq_true c38
        have c38b1 : decide (t174.size + 1 + t180.size + 1 + t181.size ≤ 9223372036854775807) = true := decide_eq_true c38
        try have c38b2 : (9223372036854775807 < t174.size + 1 + t180.size + 1 + t181.size) = False := eq_false (Nat.not_lt.2 c38)
        refine RGN 12 [0, 1, 2, 3, 4, 5, 6, 7, 8, 9, 10, 11] (fun a0 b a w' => a = putSel a0 b [(0, 47, .string t174), (1, 48, .string (t174 ++ (⟨#[32]⟩ : ByteArray))), (2, 49, .pointer (some ⟨gb172, 1, none⟩)), (3, 50, .int .i64 a0_1), (4, 51, .string t180), (5, 52, .string ((t174 ++ (⟨#[32]⟩ : ByteArray)) ++ t180)), (6, 53, .string (((t174 ++ (⟨#[32]⟩ : ByteArray)) ++ t180) ++ (⟨#[32]⟩ : ByteArray))), (7, 54, .pointer (some ⟨gb172, 2, none⟩)), (8, 55, .int .i64 a0_2), (9, 56, .string t181), (10, 57, .string ((((t174 ++ (⟨#[32]⟩ : ByteArray)) ++ t180) ++ (⟨#[32]⟩ : ByteArray)) ++ t181)), (11, 2, .string ((((t174 ++ (⟨#[32]⟩ : ByteArray)) ++ t180) ++ (⟨#[32]⟩ : ByteArray)) ++ t181))] ∧ Mem w [] w' [box 55 gb172 [.int .i64 a0_0, .int .i64 a0_1, .int .i64 a0_2, .int .i64 a0_3, .string a0_4, .string a0_5, .slice A0_6 l0_6.length c0_6]]) spec_CmdText.tab14 spec_CmdText.bits14 ?_ ?_ ?_
        ·exact ⟨PS0' rfl _, (HM.drew).pick [0]⟩
        ·clear HM
         refine SY ?_ ?_
         ·intro b a w ha HM hb hon hoff K hK
          have e3 := PG ha 3
          exact VL (.string t174) (hK.out _ _ ⟨PUT ha 0 hb, HM⟩)
         refine SY ?_ ?_
         ·intro b a w ha HM hb hon hoff K hK
          have e47 := PE ha 0 hon
          exact VL (.string (t174 ++ (⟨#[32]⟩ : ByteArray))) (hK.out _ _ ⟨PUT ha 1 hb, HM⟩)
         refine SY ?_ ?_
         ·intro b a w ha HM hb hon hoff K hK
          have e1 := PG ha 1
          exact VL (.pointer (some ⟨gb172, 1, none⟩)) (hK.out _ _ ⟨PUT ha 2 hb, HM⟩)
         refine SY ?_ ?_
         ·intro b a w ha HM hb hon hoff K hK
          obtain ⟨_,_,_,_,_,_,_,_,_,_,_,_,_,_⟩ := bk7 (HM.bx 0 rfl)
          have e49 := PE ha 2 hon
          exact VL (.int .i64 a0_1) (hK.out _ _ ⟨PUT ha 3 hb, HM⟩)
         refine SY ?_ ?_
         ·intro b a w ha HM hb hon hoff K hK
          have e50 := PE ha 3 hon
          refine ST (eC (some 51) rfl #[.int .i64 a0_1] rfl Try.func165 (spec_NumText.calls kj24 a0_1 t180 _ A34.out) ?_ (hargs := by (simp only [List.map_toArray, List.map_cons, List.map_nil, evc, eval_of e50]) <;> rfl))
          rintro e w44 ⟨rfl, hb⟩
          refine ⟨_, rfl, ?_⟩
          replace HM := HM.below hb
          clear hb
          exact hK.out _ _ ⟨PUT ha 4 hb, (HM).pick [0]⟩
         refine SY ?_ ?_
         ·intro b a w ha HM hb hon hoff K hK
          have e48 := PE ha 1 hon
          have e51 := PE ha 4 hon
          exact VL (.string ((t174 ++ (⟨#[32]⟩ : ByteArray)) ++ t180)) (hK.out _ _ ⟨PUT ha 5 hb, HM⟩)
         refine SY ?_ ?_
         ·intro b a w ha HM hb hon hoff K hK
          have e52 := PE ha 5 hon
          exact VL (.string (((t174 ++ (⟨#[32]⟩ : ByteArray)) ++ t180) ++ (⟨#[32]⟩ : ByteArray))) (hK.out _ _ ⟨PUT ha 6 hb, HM⟩)
         refine SY ?_ ?_
         ·intro b a w ha HM hb hon hoff K hK
          have e1 := PG ha 1
          exact VL (.pointer (some ⟨gb172, 2, none⟩)) (hK.out _ _ ⟨PUT ha 7 hb, HM⟩)
         refine SY ?_ ?_
         ·intro b a w ha HM hb hon hoff K hK
          obtain ⟨_,_,_,_,_,_,_,_,_,_,_,_,_,_⟩ := bk7 (HM.bx 0 rfl)
          have e54 := PE ha 7 hon
          exact VL (.int .i64 a0_2) (hK.out _ _ ⟨PUT ha 8 hb, HM⟩)
         refine SY ?_ ?_
         ·intro b a w ha HM hb hon hoff K hK
          have e55 := PE ha 8 hon
          refine ST (eC (some 56) rfl #[.int .i64 a0_2] rfl Try.func165 (spec_NumText.calls kj24 a0_2 t181 _ A37.out) ?_ (hargs := by (simp only [List.map_toArray, List.map_cons, List.map_nil, evc, eval_of e55]) <;> rfl))
          rintro e w46 ⟨rfl, hb⟩
          refine ⟨_, rfl, ?_⟩
          replace HM := HM.below hb
          clear hb
          exact hK.out _ _ ⟨PUT ha 9 hb, (HM).pick [0]⟩
         refine SY ?_ ?_
         ·intro b a w ha HM hb hon hoff K hK
          have e53 := PE ha 6 hon
          have e56 := PE ha 9 hon
          exact VL (.string ((((t174 ++ (⟨#[32]⟩ : ByteArray)) ++ t180) ++ (⟨#[32]⟩ : ByteArray)) ++ t181)) (hK.out _ _ ⟨PUT ha 10 hb, HM⟩)
         refine SY ?_ ?_
         ·intro b a w ha HM hb hon hoff K hK
          have e57 := PE ha 10 hon
          exact VL (.string ((((t174 ++ (⟨#[32]⟩ : ByteArray)) ++ t180) ++ (⟨#[32]⟩ : ByteArray)) ++ t181)) (hK.out _ _ ⟨PUT ha 11 hb, HM⟩)
         exact steps_nil
        rintro _ w47 ⟨rfl, HM⟩
        simp only [putSel, if_true, Act.put, List.setIfInBounds_toArray, List.set_cons_zero, List.set_cons_succ, gt_iff_lt, ge_iff_le]
        obtain rfl := Option.some.inj H
        go_wp2
        go_ret
        exact ⟨ER, (MD HM).pick []⟩
    ·obtain ⟨c24b0, c24b1⟩ := BF c24
     first|rw [c24b0]|(simp only [i64_w, i32_w]; rw [c24b0])|skip
     go_upto_if 58 with (fail)
     replace H := IT H; rcases H with ⟨c48, H⟩ | ⟨c48, H⟩
     ·obtain ⟨c48b0, c48b1⟩ := BE c48
      clear c48
      first|rw [c48b0]|(simp only [i64_w, i32_w]; rw [c48b0])|skip
      replace H := BN H; obtain ⟨t182, A49, H⟩ := H
      go_upto_if 63 with (first | ((with_reducible refine gC 164 rfl ?_); refine pC (some 62) rfl #[.int .i64 a0_1] rfl Try.func164 (spec_l01Num.calls a0_1 t182 _ A49.out) ?_; rintro e w50 ⟨rfl, hd⟩; refine ⟨_, rfl, ?_⟩; replace HM := HM.drawn hd; clear hd))
      replace H := IB H
      rcases H with ⟨c51, H⟩ | ⟨c51, H⟩
      ·subst c51
       replace H := GD H; obtain ⟨c52, H⟩ := H
       have c52b0 := eq_true c52
       have c52b1 : decide (t174.size + 1 ≤ 9223372036854775807) = true := decide_eq_true c52
       try have c52b2 : (9223372036854775807 < t174.size + 1) = False := eq_false (Nat.not_lt.2 c52)
       replace H := BN H; obtain ⟨t183, A54, H⟩ := H
       replace H := GD H; obtain ⟨c56, H⟩ := H
       have c56b0 := eq_true c56
       have c56b1 : decide (t174.size + 1 + t183.size ≤ 9223372036854775807) = true := decide_eq_true c56
       try have c56b2 : (9223372036854775807 < t174.size + 1 + t183.size) = False := eq_false (Nat.not_lt.2 c56)
       obtain rfl := Option.some.inj H
       obtain ⟨_,_,_,_,_,_,_,_,_,_,_,_,_,_⟩ := bk7 (HM.bx 0 rfl)
       go_wp2_with (first | ((with_reducible refine gC 165 rfl ?_); refine pC (some 68) rfl #[.int .i64 a0_1] rfl Try.func165 (spec_NumText.calls k a0_1 t183 _ A54.out) ?_; rintro e w55 ⟨rfl, hb⟩; refine ⟨_, rfl, ?_⟩; replace HM := HM.below hb; clear hb))
       go_ret
       exact ⟨ER, (MD HM).pick []⟩
      ·subst c51
       obtain rfl := Option.some.inj H
       go_wp2
       go_ret
       exact ⟨ER, (MD HM).pick []⟩
     ·obtain ⟨c48b0, c48b1⟩ := BF c48
      first|rw [c48b0]|(simp only [i64_w, i32_w]; rw [c48b0])|skip
      obtain rfl := Option.some.inj H
      go_wp2
      go_ret
      exact ⟨ER, (MD HM).pick []⟩
 ·subst c6
  obtain rfl := Option.some.inj H
  go_wp2
  go_ret
  exact ⟨ER, (MD HM).pick []⟩
end Go.Proofs.Ythnedklbobbkcaa.G
