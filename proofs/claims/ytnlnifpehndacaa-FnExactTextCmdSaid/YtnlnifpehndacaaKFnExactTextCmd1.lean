/- Part 1 of the claim FnExactTextCmd, merged by pack.py (this session's program) out of: the print's words, cut to what is needed; texts that gen.py printed (it runs the kit's print in place); texts of this session. -/
import Derived.Test.YtnlnifpehndacaaProg
import Derived.Below
import Derived.Deep.Draws
import Derived.Deep.AppendLies
import Derived.Maps.AppendAt
import Derived.OwnWalk
import Derived.Laws.BytesArg
import Derived.Laws.MakeOwn
import Derived.Laws.OwnMore
import Derived.Deep.OwnRows
import Derived.Tactics
import Derived.Lib.ConvBytes
import Derived.Laws.Slices
import Derived.WalkKit
import Derived.KernelRfl
import Derived.RowKit3
import Derived.Deep.LoopGhost
import Derived.Deep.QuietTactic
import Derived.BigQuiet
import Derived.WideLaws
import Derived.Deep.DeepCutAuto
import Derived.Deep.CutBlock
import Derived.Deep.RegionHeld3
import Derived.Laws.Rows
import Derived.Lib.AppendStr
import Derived.ArgAppend
import Derived.Laws.IdiomCopy
import Derived.OrdersHeld
import Derived.Laws.BitsLemmas
import Derived.RowKit
import Derived.Laws.StructEq
import Derived.Test.YtnlnifpehndacaaKFnExactTextCmd0
namespace Go.Proofs.Ytnlnifpehndacaa.Mm
end Go.Proofs.Ytnlnifpehndacaa.Mm
namespace Go.Proofs.Ytnlnifpehndacaa.Sh
end Go.Proofs.Ytnlnifpehndacaa.Sh
set_option maxHeartbeats 8000000
set_option maxRecDepth 100000
namespace Go.Proofs.Ytnlnifpehndacaa.Sh
open Go.RowKit Go.Proofs.YtnlnifpehndacaaW.PrintWords Go.Proofs.YtnlnifpehndacaaW.PrintLast Go.Proofs.YtnlnifpehndacaaW.PrintMore
set_option linter.unusedVariables false
theorem BL {P : Prop} (h : P := by repeat (first | (with_reducible first | exact HB.out | apply below_alloc | apply pw_below_drewN | apply below_drew1) | exact HB.out)) : P := h
theorem AQ {P : Prop} (h : P := by (try simp only [List.map_toArray, List.map_cons, List.map_nil]); first | done | rfl | (simp only [List.length_drop, List.length_take]; rfl)) : P := h
theorem AS {P : Prop} (h : P := by first | (with_reducible assumption) | assumption) : P := h
theorem RS {P : Prop} (h : P := by first | rfl | (simp; done) | (simp [*]; done)) : P := h
section
variable {α : Type} {d : Kd α} {e n : Nat} {w w2 : World} {base g i : Nat} {ok : Nat → Prop} {v u : Value} {xs : List α} {A : Option Addr}
theorem RD (b : Aside0 (Kd.R d e w base ok v xs)) (f : Kd.R d e w base ok v xs → Kd.R d e w2 base ok v xs := by intro h_; (with_reducible repeat (first | apply Kd.R_alloc | apply Kd.R_drewN | apply Kd.R_drew)); exact h_) : Kd.R d e w2 base ok v xs := f b.out
end
theorem BS {α β : Type} {f : Option α} {g : α → Option β} {r : β} (h : f.bind g = some r) : ∃ t, f = some t ∧ g t = some r := Option.bind_eq_some_iff.mp h
theorem IP {α : Type} {c : Prop} {i : Decidable c} {a b r : α} (h : @ite α c i a b = r) (hc : c := by first | rfl | decide | simp) : a = r := by rw [if_pos hc] at h; exact h
theorem IN {α : Type} {c : Prop} {i : Decidable c} {a b r : α} (h : @ite α c i a b = r) (hc : ¬ c := by first | exact Bool.false_ne_true | decide | simp) : b = r := by rw [if_neg hc] at h; exact h
def tf (m n : Nat) : Array Bool := ⟨List.replicate m true ++ List.replicate n false⟩
section
variable {P : Program} {ops : Array Oper} {Q : Exit → Act → World → Prop} {md : Region.Mode} {S : World → Prop} {ds : List Nat} {T : Bool × List (List Nat × List Nat)} {B : List Nat} {i : Nat} {N : Option Tmp} {oi : Oper} {v : Value} {fuel : Nat} {l : Array Bool} {a a' : Act} {w : World}
theorem PU (l' : Array Bool) (hi : ops[i]? = some oi) (hN : oi.dst = N) (HT : Aside0 (rtab md ops = T))
  (h : wpAnyLast P md ops Q S ds fuel l' a' w) (hc : anyT T l.toList l'.toList i = true := by kernel_rfl) (hQ : ∀ c a w, Q (.panic c) (a.put oi.dst v) w → Q (.panic c) a w := by exact fun _ _ _ h => h) (hp : Region.wanted oi (yielded ops a.tmps) = true := by rfl) (hy : ∀ w, (execOp a.eval oi).run P w = .ok (.value v) w := by intro w'; go_simp; with_reducible rfl) (ha : a.put N v = a' := by simp only [Act.put, List.setIfInBounds_toArray, List.set_cons_zero, List.set_cons_succ, i64_w, i32_w]; rfl) : wpAnyLast P md ops Q S ds (fuel + 1) l a w :=
 pure_ l' hi hN (any_of HT.out hc) hQ (Or.inl ⟨hp, hy⟩) ha h
theorem NM (N : Option Tmp) (h : wpAnyLast P md ops Q S ds fuel l a' w) (ha : a.put N v = a' := by simp only [Act.put, List.setIfInBounds_toArray, List.set_cons_zero, List.set_cons_succ, i64_w, i32_w]; rfl) : wpAnyLast P md ops Q S ds fuel l (a.put N v) w := norm_ ha h
end
theorem AsM {p : Prop} (h : p) : Aside0 p := ⟨h⟩
theorem ER {P : Prop} (h : P := by first | rfl | (simp [errW_none, errW_some] <;> rfl) | (simp [*, errW_none, errW_some] <;> rfl)) : P := h
theorem DR {P : Prop} (h : P := by repeat (first | exact Drawn0.refl _ | apply Drawn0.step)) : P := h
theorem HK1 {P : Prop} (h : P := by repeat (first | (with_reducible first | exact HK.out | apply Kept.alloc | apply Kept.drewN | apply Kept.drew) | exact HK.out)) : P := h
theorem bk3 {W : World} {g : Nat} {t : TypeId} {a0 a1 a2 : Value} (h : W.heap[g]? = some (.cells #[a0, a1, a2] t (0, 0))) : W.cell? ⟨g, 0, none⟩ = some a0 ∧ W.cell? ⟨g, 1, none⟩ = some a1 ∧ W.cell? ⟨g, 2, none⟩ = some a2 ∧ W.frozen? ⟨g, 0, none⟩ = false ∧ W.frozen? ⟨g, 1, none⟩ = false ∧ W.frozen? ⟨g, 2, none⟩ = false := ⟨(blk_cell h 0).trans rfl, (blk_cell h 1).trans rfl, (blk_cell h 2).trans rfl, blk_frozen h 0, blk_frozen h 1, blk_frozen h 2⟩
theorem bk7 {W : World} {g : Nat} {t : TypeId} {a0 a1 a2 a3 a4 a5 a6 : Value} (h : W.heap[g]? = some (.cells #[a0, a1, a2, a3, a4, a5, a6] t (0, 0))) : W.cell? ⟨g, 0, none⟩ = some a0 ∧ W.cell? ⟨g, 1, none⟩ = some a1 ∧ W.cell? ⟨g, 2, none⟩ = some a2 ∧ W.cell? ⟨g, 3, none⟩ = some a3 ∧ W.cell? ⟨g, 4, none⟩ = some a4 ∧ W.cell? ⟨g, 5, none⟩ = some a5 ∧ W.cell? ⟨g, 6, none⟩ = some a6 ∧ W.frozen? ⟨g, 0, none⟩ = false ∧ W.frozen? ⟨g, 1, none⟩ = false ∧ W.frozen? ⟨g, 2, none⟩ = false ∧ W.frozen? ⟨g, 3, none⟩ = false ∧ W.frozen? ⟨g, 4, none⟩ = false ∧ W.frozen? ⟨g, 5, none⟩ = false ∧ W.frozen? ⟨g, 6, none⟩ = false := ⟨(blk_cell h 0).trans rfl, (blk_cell h 1).trans rfl, (blk_cell h 2).trans rfl, (blk_cell h 3).trans rfl, (blk_cell h 4).trans rfl, (blk_cell h 5).trans rfl, (blk_cell h 6).trans rfl, blk_frozen h 0, blk_frozen h 1, blk_frozen h 2, blk_frozen h 3, blk_frozen h 4, blk_frozen h 5, blk_frozen h 6⟩
end Go.Proofs.Ytnlnifpehndacaa.Sh

namespace Go.Proofs.Ytnlnifpehndacaa.G
open Go.RowKit Go.Proofs.YtnlnifpehndacaaW.PrintWords Go.Proofs.YtnlnifpehndacaaW.PrintLast Go.Proofs.YtnlnifpehndacaaW.PrintMore Go.Proofs.Ytnlnifpehndacaa.Sh
attribute [local go_sem] max2_int min2_int max_two min_two max_three min_three max_four min_four
set_option linter.unusedVariables false
set_option linter.unusedSimpArgs false
def errW : Option Int → Value
 | none => .nilIface
 | some c => .iface 0 (.int .i64 c)
theorem errW_none : errW none = .nilIface := rfl
theorem errW_some (c : Int) : errW (some c) = .iface 0 (.int .i64 c) := rfl
theorem info9 : (Try.prog.info? 9).map (fun i => (i.zero, i.size, i.bytes)) = some (some (.string ⟨#[]⟩), 1, 16) := by kernel_rfl
end Go.Proofs.Ytnlnifpehndacaa.G

namespace Go.Proofs.Ytnlnifpehndacaa.Mm
open Go.RowKit Go.Proofs.YtnlnifpehndacaaW.PrintWords Go.Proofs.YtnlnifpehndacaaW.PrintLast Go.Proofs.YtnlnifpehndacaaW.PrintMore Go.Proofs.Ytnlnifpehndacaa.Sh
set_option linter.unusedVariables false
/-- A thing that is held: what it says of the world, given the blocks that are its own. -/
structure SP where
 At : World → (Nat → Prop) → Prop
 loc : ∀ {w w' : World} {S : Nat → Prop}, At w S → (∀ k, S k → w'.heap[k]? = w.heap[k]?) → At w' S
def sel (c : Bool) (A B : SP) : SP := match c with
 | true => A
 | false => B
/-- A variable in memory. -/
def box (t : TypeId) (g : Nat) (cs : List Value) : SP := ⟨fun w S => w.heap[g]? = some (.cells cs.toArray t (0, 0)) ∧ S g, fun h hm => ⟨(hm _ h.2).trans h.1, h.2⟩⟩
/-- A row of the call's own (it may begin inside its block). -/
def row {α : Type} (d : Kd α) (e : Nat) (v : Value) (xs : List α) : SP := ⟨fun w S => d.Q e w 0 S v xs, fun h hm => Kd.Q_move h hm⟩
def rowR {α : Type} (d : Kd α) (e : Nat) (v : Value) (xs : List α) : SP := ⟨fun w S => d.R e w 0 S v xs, fun h hm => Kd.R_move h hm⟩
/-- From w to w' nothing has turned but blocks of S and what is new. -/
structure Chg (S : Nat → Prop) (w w' : World) : Prop where
 os : w'.os = w.os
 tape : w'.tape = w.tape
 output : w'.output = w.output
 size : w.heap.size ≤ w'.heap.size
 block : ∀ k, k < w.heap.size → ¬ S k → w'.heap[k]? = w.heap[k]?
theorem Chg.of_below {w w' : World} (h : Below w.heap.size w w') : Chg (fun _ => False) w w' := ⟨h.os, h.tape, h.output, h.size, fun k hk _ => h.block k hk⟩
theorem Chg.of_grown {w w' : World} {r : Option Nat} (h : w.grownBy w' r) : Chg (fun k => r = some k) w w' := ⟨h.os, h.tape, h.output, h.size, fun k hk hn => h.block k hk (fun e => hn e.symm)⟩
theorem Chg.below {w0 w w' : World} {S : Nat → Prop} (h : Chg S w w') (hb : Below w0.heap.size w0 w) (hS : ∀ k, S k → w0.heap.size ≤ k) : Below w0.heap.size w0 w' :=
 hb.trans ⟨h.os, h.tape, h.output, h.size, fun k hk => h.block k (Nat.lt_of_lt_of_le hk hb.size) (fun hs => by have := hS k hs; omega)⟩
theorem Chg.wide {w w' : World} {S S' : Nat → Prop} (h : Chg S w w') (hs : ∀ k, S k → S' k) : Chg S' w w' := ⟨h.os, h.tape, h.output, h.size, fun k hk hn => h.block k hk (fun e => hn (hs k e))⟩
def Sep (w : World) (b : Nat) (N : List SP) : Prop := ∃ S : Nat → Nat → Prop, (∀ (i : Nat) (A : SP), N[i]? = some A → A.At w (S i)) ∧ (∀ i k, S i k → b ≤ k ∧ k < w.heap.size) ∧ (∀ i j k, S i k → S j k → i = j)
/-- What is held: N, beside a frame F that is left alone; below the call's first block nothing has turned. -/
structure Mem (w0 : World) (F : List SP) (w : World) (N : List SP) : Prop where
 bel : Below w0.heap.size w0 w
 sep : Sep w w0.heap.size (F ++ N)
section
variable {w0 w w' : World} {F N M L R : List SP} {A B : SP} {i j : Nat}
theorem Mem.nil (w : World) : Mem w [] w [] := ⟨Below.refl _ _, fun _ _ => False, fun i A h => by simp at h, fun _ _ h => h.elim, fun _ _ _ h => h.elim⟩
theorem Mem.sub (h : Mem w0 F w N) (σ : Nat → Nat) (hσ : ∀ i j, σ i = σ j → i = j) (hM : ∀ j A, (R ++ M)[j]? = some A → (F ++ N)[σ j]? = some A) : Mem w0 R w M := by
 obtain ⟨hb, S, h1, h2, h3⟩ := h
 exact ⟨hb, fun j => S (σ j), fun j A hA => h1 _ A (hM j A hA), fun j k hk => h2 _ k hk, fun i j k hi hj => hσ i j (h3 _ _ k hi hj)⟩
/-- The index under which number j of the new list stood: a list of numbers, each once; beyond it: beyond all. -/
def idx (m : Nat) (l : List Nat) (j : Nat) : Nat := if h : j < l.length then l[j] else m + j
theorem idx_inj {m : Nat} {l : List Nat} (hl : (l.all (· < m) && decide l.Nodup) = true) : ∀ i j, idx m l i = idx m l j → i = j := by
 simp only [Bool.and_eq_true, List.all_eq_true, decide_eq_true_eq] at hl
 obtain ⟨h1, h2⟩ := hl
 intro i j h
 unfold idx at h
 split at h <;> split at h
 ·exact (List.getElem_inj h2).1 h
 ·have := h1 _ (List.getElem_mem (by assumption)); omega
 ·have := h1 _ (List.getElem_mem (by assumption)); omega
 ·omega
/-- Some of what is held, in another order. -/
theorem Mem.pick (h : Mem w0 F w N) (l : List Nat) (hl : (l.all (· < N.length) && decide l.Nodup) = true := by kernel_rfl) (hM : l.map (fun i => N[i]?) = M.map some := by rfl) : Mem w0 F w M := by
 have hlen : l.length = M.length := by have := congrArg List.length hM; simpa using this
 have key : ∀ j A, M[j]? = some A → ∃ hj : j < l.length, N[l[j]]? = some A := by
  intro j A hA
  have hj : j < M.length := (List.getElem?_eq_some_iff.1 hA).1
  have := congrArg (fun z => z[j]?) hM
  simp only [List.getElem?_map, hA] at this
  rw [List.getElem?_eq_getElem (by omega)] at this
  simp only [Option.map_some, Option.some.injEq] at this
  exact ⟨by omega, this⟩
 refine Mem.sub h (fun q => if q < F.length then q else F.length + idx N.length l (q - F.length)) ?_ ?_
 ·intro i j e
  (try dsimp only at e)
  split at e <;> split at e
  ·exact e
  ·omega
  ·omega
  ·have := idx_inj hl _ _ (Nat.add_left_cancel e)
   omega
 ·intro q A hA
  (try dsimp only)
  split
  ·rename_i hq
   rw [List.getElem?_append_left hq] at hA ⊢
   exact hA
  ·rename_i hq
   rw [List.getElem?_append_right (by omega)] at hA
   obtain ⟨hj, hN⟩ := key _ _ hA
   rw [List.getElem?_append_right (by omega), Nat.add_sub_cancel_left]
   unfold idx
   rw [dif_pos hj]
   exact hN
/-- The things of these numbers. -/
def pk (N : List SP) : List Nat → List SP
 | [] => []
 | i :: r => match N[i]? with
  | some A => A :: pk N r
  | none => pk N r
theorem pk_map : ∀ (r : List Nat), r.all (· < N.length) = true → r.map (fun i => N[i]?) = (pk N r).map some
 | [], _ => rfl
 | i :: r, h => by
  rw [List.all_cons, Bool.and_eq_true, decide_eq_true_eq] at h
  unfold pk
  rw [List.getElem?_eq_getElem h.1]
  simp only [List.map_cons, List.getElem?_eq_getElem h.1, pk_map r h.2]
/-- What is given to a call (l) stands alone; the rest (r) joins the frame. -/
theorem Mem.focus (h : Mem w0 F w N) (r l : List Nat) (hl : ((r ++ l).all (· < N.length) && decide (r ++ l).Nodup) = true := by kernel_rfl) (hM : l.map (fun i => N[i]?) = M.map some := by rfl) : Mem w0 (F ++ pk N r) w M := by
 have hr : r.all (· < N.length) = true := by
  rw [Bool.and_eq_true, List.all_append, Bool.and_eq_true] at hl
  exact hl.1.1
 have h1 : Mem w0 F w (pk N r ++ M) := Mem.pick h (r ++ l) hl (by rw [List.map_append, pk_map r hr, hM, List.map_append])
 refine ⟨h1.bel, ?_⟩
 rw [List.append_assoc]
 exact h1.sep
theorem Mem.unfocus (h : Mem w0 (F ++ R) w M) : Mem w0 F w (R ++ M) := ⟨h.bel, by rw [← List.append_assoc]; exact h.sep⟩
theorem Mem.at_ (h : Mem w0 F w N) (hi : N[i]? = some A) : ∃ S, A.At w S ∧ ∀ k, S k → w0.heap.size ≤ k ∧ k < w.heap.size := by
 obtain ⟨hb, S, h1, h2, h3⟩ := h
 exact ⟨S (F.length + i), h1 _ A (by rw [List.getElem?_append_right (by omega), Nat.add_sub_cancel_left]; exact hi), fun k hk => h2 _ k hk⟩
/-- Thing number i: its blocks, and how it may turn. -/
theorem Mem.opn (h : Mem w0 F w N) (hi : N[i]? = some A) : ∃ S : Nat → Prop, A.At w S ∧ (∀ k, S k → w0.heap.size ≤ k ∧ k < w.heap.size) ∧ ∀ (w' : World) (B : SP) (S' : Nat → Prop), B.At w' S' → (∀ k, S' k → (S k ∨ w.heap.size ≤ k) ∧ k < w'.heap.size) → Chg S w w' → Mem w0 F w' (N.set i B) := by
 obtain ⟨hb, S, h1, h2, h3⟩ := h
 have hil : i < N.length := (List.getElem?_eq_some_iff.1 hi).1
 refine ⟨S (F.length + i), h1 (F.length + i) A (by rw [List.getElem?_append_right (by omega), Nat.add_sub_cancel_left]; exact hi), fun k hk => h2 _ k hk, ?_⟩
 intro w' B S' hB hS' hc
 refine ⟨hc.below hb (fun k hk => (h2 _ k hk).1), fun q => if q = F.length + i then S' else S q, ?_, ?_, ?_⟩
 ·intro q D hD
  have e : F ++ N.set i B = (F ++ N).set (F.length + i) B := by rw [List.set_append_right _ _ (by omega), Nat.add_sub_cancel_left]
  rw [e, List.getElem?_set] at hD
  dsimp only
  by_cases hq : q = F.length + i
  ·rw [if_pos hq]
   rw [if_pos hq.symm] at hD
   split at hD
   ·rw [← Option.some.inj hD]; exact hB
   ·cases hD
  ·rw [if_neg hq]
   rw [if_neg (fun e => hq e.symm)] at hD
   exact D.loc (h1 q D hD) (fun k hk => hc.block k (h2 _ k hk).2 (fun hk' => hq (h3 _ _ k hk hk')))
 ·intro q k hk
  (try dsimp only at hk)
  split at hk
  ·have := hS' k hk
   exact ⟨this.1.elim (fun e => (h2 _ k e).1) (fun e => Nat.le_trans hb.size e), this.2⟩
  ·exact ⟨(h2 _ k hk).1, Nat.lt_of_lt_of_le (h2 _ k hk).2 hc.size⟩
 ·intro q p k hq hp
  (try dsimp only at hq hp)
  split at hq <;> split at hp
  ·omega
  ·rcases (hS' k hq).1 with e | e
   ·have := h3 _ _ k e hp; omega
   ·have := (h2 _ k hp).2; omega
  ·rcases (hS' k hp).1 with e | e
   ·have := h3 _ _ k e hq; omega
   ·have := (h2 _ k hq).2; omega
  ·exact h3 _ _ k hq hp
theorem Mem.move (h : Mem w0 F w N) (hc : Chg (fun _ => False) w w') : Mem w0 F w' N := by
 obtain ⟨hb, S, h1, h2, h3⟩ := h
 exact ⟨hc.below hb (fun _ hk => hk.elim), S, fun q D hD => D.loc (h1 q D hD) (fun k hk => hc.block k (h2 _ k hk).2 (fun e => e)), fun q k hk => ⟨(h2 _ k hk).1, Nat.lt_of_lt_of_le (h2 _ k hk).2 hc.size⟩, h3⟩
theorem Mem.below (h : Mem w0 F w N) (hb : Below w.heap.size w w') : Mem w0 F w' N := h.move (Chg.of_below hb)
theorem Mem.drew (h : Mem w0 F w N) : Mem w0 F w.drew N := h.below (below_drew (Below.refl _ _))
theorem Mem.drewN (h : Mem w0 F w N) (n : Nat) : Mem w0 F (w.drewN n) N := h.below (pw_below_drewN (Below.refl _ _) n)
theorem Mem.drawn (h : Mem w0 F w N) (hd : Drawn0 w w') : Mem w0 F w' N := by
 obtain ⟨n, rfl⟩ := hd.out
 exact h.drewN n
/-- Something new. -/
theorem Mem.push (h : Mem w0 F w N) (A : SP) {S' : Nat → Prop} (hA : A.At w' S') (hS : ∀ k, S' k → w.heap.size ≤ k ∧ k < w'.heap.size) (hc : Chg (fun _ => False) w w') : Mem w0 F w' (N ++ [A]) := by
 have h0 := h.move hc
 obtain ⟨hb, S, h1, h2, h3⟩ := h
 refine ⟨h0.bel, fun q => if q = (F ++ N).length then S' else S q, ?_, ?_, ?_⟩
 ·intro q D hD
  rw [← List.append_assoc] at hD
  (try dsimp only)
  split
  ·rename_i hq
   rw [hq, List.getElem?_append_right (Nat.le_refl _), Nat.sub_self] at hD
   obtain rfl : A = D := by simpa using hD
   exact hA
  ·rename_i hq
   have hlt : q < (F ++ N).length := by
    have := (List.getElem?_eq_some_iff.1 hD).1
    rw [List.length_append, List.length_singleton] at this
    omega
   rw [List.getElem?_append_left hlt] at hD
   exact D.loc (h1 q D hD) (fun k hk => hc.block k (h2 _ k hk).2 (fun e => e))
 ·intro q k hk
  (try dsimp only at hk)
  split at hk
  ·exact ⟨Nat.le_trans hb.size (hS k hk).1, (hS k hk).2⟩
  ·exact ⟨(h2 _ k hk).1, Nat.lt_of_lt_of_le (h2 _ k hk).2 hc.size⟩
 ·intro q p k hq hp
  (try dsimp only at hq hp)
  split at hq <;> split at hp
  ·omega
  ·have := (hS k hq).1; have := (h2 _ k hp).2; omega
  ·have := (hS k hp).1; have := (h2 _ k hq).2; omega
  ·exact h3 _ _ k hq hp
/-- A call has ended that was given nothing: what it made is held, too. -/
theorem Mem.call (h : Mem w0 F w N) (k : Mem w [] w' L) : Mem w0 F w' (N ++ L) := by
 have h0 := h.below k.bel
 obtain ⟨hb, S, h1, h2, h3⟩ := h
 obtain ⟨kb, T, k1, k2, k3⟩ := k
 rw [List.nil_append] at k1
 refine ⟨h0.bel, fun q => if q < (F ++ N).length then S q else T (q - (F ++ N).length), ?_, ?_, ?_⟩
 ·intro q D hD
  rw [← List.append_assoc] at hD
  (try dsimp only)
  split
  ·rename_i hq
   rw [List.getElem?_append_left hq] at hD
   exact D.loc (h1 q D hD) (fun k hk => kb.block k (h2 _ k hk).2)
  ·rename_i hq
   rw [List.getElem?_append_right (by omega)] at hD
   exact k1 _ D hD
 ·intro q k hk
  (try dsimp only at hk)
  split at hk
  ·exact ⟨(h2 _ k hk).1, Nat.lt_of_lt_of_le (h2 _ k hk).2 kb.size⟩
  ·exact ⟨Nat.le_trans hb.size (k2 _ k hk).1, (k2 _ k hk).2⟩
 ·intro q p k hq hp
  (try dsimp only at hq hp)
  split at hq <;> split at hp
  ·exact h3 _ _ k hq hp
  ·have := (h2 _ k hq).2; have := (k2 _ k hp).1; omega
  ·have := (h2 _ k hp).2; have := (k2 _ k hq).1; omega
  ·have := k3 _ _ k hq hp; omega
/-- Thing number i is told otherwise. -/
theorem Mem.tell (h : Mem w0 F w N) (hi : N[i]? = some A) (B : SP) (hB : ∀ S, A.At w S → B.At w S) : Mem w0 F w (N.set i B) := by
 obtain ⟨S, hA, hS, k⟩ := h.opn hi
 exact k w B S (hB S hA) (fun k hk => ⟨.inl hk, (hS k hk).2⟩) ⟨rfl, rfl, rfl, Nat.le_refl _, fun _ _ _ => rfl⟩
-- reads
theorem Mem.bx {t g : Nat} {cs : List Value} (h : Mem w0 F w N) (i : Nat) (hi : N[i]? = some (box t g cs)) : w.heap[g]? = some (.cells cs.toArray t (0, 0)) := by
 obtain ⟨S, hA, _⟩ := h.at_ hi
 exact hA.1
theorem Mem.q {α : Type} {d : Kd α} {e : Nat} {v : Value} {xs : List α} (h : Mem w0 F w N) (i : Nat) (hi : N[i]? = some (row d e v xs)) : ∃ S, d.Q e w 0 S v xs := by
 obtain ⟨S, hA, _⟩ := h.at_ hi
 exact ⟨S, hA⟩
/-- A row's form, its room, and what is read of it. -/
theorem Mem.rd {α : Type} {d : Kd α} {e : Nat} {v : Value} {xs : List α} (h : Mem w0 F w N) (i : Nat) (hi : N[i]? = some (row d e v xs)) : ∃ X c, v = .slice X xs.length c := by
 obtain ⟨S, hq⟩ := h.q i hi
 obtain ⟨X, c, hv, _⟩ := Kd.Q_slice hq
 exact ⟨X, c, hv⟩
theorem Mem.C {α : Type} {d : Kd α} {e n c : Nat} {X : Option Addr} {xs : List α} (h : Mem w0 F w N) (i : Nat) (hi : N[i]? = some (row d e (.slice X n c) xs)) : n = xs.length ∧ n ≤ c ∧ d.C w X xs.length xs := by
 obtain ⟨S, hq⟩ := h.q i hi
 exact Kd.Q_reads' hq
theorem Mem.rdR {α : Type} {d : Kd α} {e : Nat} {v : Value} {xs : List α} (h : Mem w0 F w N) (i : Nat) (hi : N[i]? = some (rowR d e v xs)) : ∃ X c, v = .slice X xs.length c := by
 obtain ⟨S, hq, _⟩ := h.at_ hi
 exact Kd.R_slice hq
theorem Mem.CR {α : Type} {d : Kd α} {e n c : Nat} {X : Option Addr} {xs : List α} (h : Mem w0 F w N) (i : Nat) (hi : N[i]? = some (rowR d e (.slice X n c) xs)) : n = xs.length ∧ n ≤ c ∧ d.C w X xs.length xs := by
 obtain ⟨S, hq, _⟩ := h.at_ hi
 exact Kd.R_reads' hq
/-- An empty row is always there. -/
theorem Mem.nl {α : Type} (h : Mem w0 F w N) (d : Kd α) (e : Nat) : Mem w0 F w (N ++ [rowR d e (.slice none 0 0) []]) := h.push _ (S' := fun _ => False) (Kd.R_nil d e w 0 _) (fun _ h => h.elim) ⟨rfl, rfl, rfl, Nat.le_refl _, fun _ _ _ => rfl⟩
theorem Mem.form {α : Type} {d : Kd α} {e n c : Nat} {X : Option Addr} {xs : List α} (h : Mem w0 F w N) (i : Nat) (hi : N[i]? = some (rowR d e (.slice X n c) xs)) (hp : 0 < xs.length) : ∃ g, X = some ⟨g, 0, none⟩ := by
 obtain ⟨S, hq, _⟩ := h.at_ hi
 obtain ⟨g, cap, hv, _⟩ := Kd.R_form hq hp
 injection hv with h1
 exact ⟨g, h1⟩
theorem Mem.formQ {α : Type} {d : Kd α} {e n c : Nat} {X : Option Addr} {xs : List α} (h : Mem w0 F w N) (i : Nat) (hi : N[i]? = some (row d e (.slice X n c) xs)) (hp : 0 < xs.length) : ∃ g o, X = some ⟨g, o, none⟩ := by
 obtain ⟨S, hq, _⟩ := h.at_ hi
 obtain ⟨g, o, cap, hv, _⟩ := Kd.Q_form hq hp
 injection hv with h1
 exact ⟨g, o, h1⟩
theorem Mem.elQ {α : Type} {d : Kd α} {e g o n c : Nat} {xs : List α} (h : Mem w0 F w N) (i : Nat) (hi : N[i]? = some (row d e (.slice (some ⟨g, o, none⟩) n c) xs)) (z : α) (j : Int) (h0 : 0 ≤ j) (h1 : j < n) (cells : List Value) (ho : ∀ ok cs, d.M w 0 ok (xs.getD j.toNat z) cs → cs = cells) :
  (∀ q u, cells[q]? = some u → w.cell? ⟨g, o + j.toNat * d.sz + q, none⟩ = some u) ∧ ∀ q, w.frozen? ⟨g, o + j.toNat * d.sz + q, none⟩ = false := by
 obtain ⟨S, hq, _⟩ := h.at_ hi
 obtain ⟨cs, _, hm, hc, hf⟩ := Kd.Q_elem hq z j h0 h1
 obtain rfl := ho _ cs hm
 exact ⟨hc, hf⟩
/-- A name for a row's elements. -/
theorem Mem.nm {α : Type} {d : Kd α} {e : Nat} {v : Value} {xs y : List α} (h : Mem w0 F w N) (i : Nat) (hi : N[i]? = some (rowR d e v xs)) (hy : y = xs) : Mem w0 F w (N.set i (rowR d e v y)) := h.tell hi _ (fun S hA => hy ▸ hA)
theorem Mem.str {P : Program} {src dst e e' : TypeId} {v : Value} {xs : List Int} (h : Mem w0 F w N) (i : Nat) (hi : N[i]? = some (rowR (Kd.int .u8) e' v xs)) (hs : P.underlying src = some (.slice e)) (he : P.underlying e = some (.int .u8)) (hd : P.underlying dst = some .string) : (convert src dst v).run P w = .ok (.string (strOfNums xs)) w := by
 obtain ⟨S, hq, _⟩ := h.at_ hi
 exact own_string hs he hd (Kd.own_of_R hq)
theorem Mem.toQ {α : Type} {d : Kd α} {e : Nat} {v : Value} {xs : List α} (h : Mem w0 F w N) (i : Nat) (hi : N[i]? = some (rowR d e v xs)) : Mem w0 F w (N.set i (row d e v xs)) := h.tell hi _ (fun S hA => Kd.Q_of_R hA)
theorem Mem.cell {p : Addr} {v : Value} (h : Mem w0 F w N) (hc : w0.cell? p = some v) : w.cell? p = some v := (h.bel.cell (World.block_lt_of_cell? w0 _ hc)).trans hc
theorem Mem.came {α : Type} {d : Kd α} {n : Nat} {X : Option Addr} {xs : List α} (h : Mem w0 F w N) (hc : d.C w0 X n xs) : d.C w X n xs := Kd.C_below hc h.bel
end
end Go.Proofs.Ytnlnifpehndacaa.Mm

namespace Go.Proofs.Ytnlnifpehndacaa.Mm
open Go.RowKit Go.Proofs.YtnlnifpehndacaaW.PrintWords Go.Proofs.YtnlnifpehndacaaW.PrintLast Go.Proofs.YtnlnifpehndacaaW.PrintMore Go.Proofs.Ytnlnifpehndacaa.Sh
set_option linter.unusedVariables false
section
variable {P : Program} {ops : Array Oper} {rest : List Oper} {o : Oper} {a : Act} {Q : Exit → Act → World → Prop} {K : Act → World → Prop} {w0 W W0 : World} {F N L : List SP} {A : SP} {α : Type}
/-- An event in a plain region. -/
theorem PL (h : ∀ K : Act → World → Prop, (∀ a w, wpList P ops Q rest a w → K a w) → Region.wanted o (yielded ops a.tmps) = true → Oper.wp P o a W K Q) (hg : Region.wanted o (yielded ops a.tmps) = true := by rfl) : wpList P ops Q (o :: rest) a W := by
 unfold wpList
 rw [if_pos hg]
 exact .inl (h _ (fun _ _ h => h) hg)
/-- An event as_ a step of a region that draws. -/
theorem ST (h : Oper.wp P o a W K Q) (hw : Region.wanted o (yielded ops a.tmps) = true := by rfl) : if Region.wanted o (yielded ops a.tmps) = true then Oper.wp P o a W K Q else K (a.put o.dst undef) W := by
 rw [if_pos hw]
 exact h
theorem wp_value {v : Value} {w1 : World} (hrun : (execOp a.eval o).run P W = .ok (.value v) w1) (h : K (a.put o.dst v) w1) : Oper.wp P o a W K Q := by
 unfold Oper.wp
 rw [hrun]
 exact h
/-- A variable in memory. -/
theorem eB (d : Tmp) (T : TypeId) (cs : List Value) (hM : Mem w0 F W0 N) (hd : o.dst = some d) (h : ∀ g w1, Mem w0 F w1 (N ++ [box T g cs]) → K (a.put o.dst (.pointer (some ⟨g, 0, none⟩))) w1)
  (hq : Drawn0 W0 W := by repeat (first | exact Drawn0.refl _ | apply Drawn0.step)) (hrun : (execOp a.eval o).run P W = .ok (.value (.pointer (some ⟨W.heap.size, 0, none⟩))) (W.alloc (.cells cs.toArray T (0, 0))) := by first | (go_simp; done) | (go_simp; rfl)) : Oper.wp P o a W K Q :=
 wp_value hrun (h _ _ ((hM.drawn hq).push (box T W.heap.size cs) (S' := fun k => k = W.heap.size) ⟨blk_new W _, rfl⟩ (fun k hk => by subst hk; exact ⟨Nat.le_refl _, by simp⟩) (Chg.of_below (below_alloc (Below.refl _ _) _))))
/-- A literal. -/
theorem eL (d : Tmp) (kd : Kd α) (e : Nat) (xs : List α) (inner : List Value) (hrep : Reps (kd.M W 0 (fun _ => False)) kd.sz xs inner) (hM : Mem w0 F W0 N) (hd : o.dst = some d) (h : ∀ v w1, Mem w0 F w1 (N ++ [rowR kd e v xs]) → K (a.put o.dst v) w1)
  (hq : Drawn0 W0 W := by repeat (first | exact Drawn0.refl _ | apply Drawn0.step)) (hm : xs.length ≤ 9223372036854775807 := by simp) (hrun : (execOp a.eval o).run P W = .ok (.value (.slice (some ⟨W.heap.size, 0, none⟩) xs.length xs.length)) (W.alloc (.cells inner.toArray e)) := by first | (go_simp; done) | (go_simp; rfl)) : Oper.wp P o a W K Q := by
 refine wp_value hrun (h _ _ ((hM.drawn hq).push (rowR kd e _ xs) (S' := fun k => k = W.heap.size) ⟨fun k hk => ?_, inner, ?_, ?_⟩ (fun k hk => by subst hk; exact ⟨Nat.le_refl _, by simp⟩) (Chg.of_below (below_alloc (Below.refl _ _) _))))
 ·have : W.heap.size = k := by simpa [Value.ownBlock] using hk
  exact this.symm
 ·have h2 := World.ownsRow_lit (base := 0) (e := e) (size := kd.sz) W inner.toArray xs.length (Nat.zero_le _) (by simpa [maxLen] using hm) (by simpa using hrep.1)
  simpa using h2
 ·exact hrep.imp_ (fun p c hp => kd.M_mono (fun k (hk : False ∧ _) => hk.1.elim) (Kd.M_below (kd.M_bound hp) (below_alloc (Below.refl _ _) _)))
/-- append(v, ys...) onto a row of the call's own (number i). Rr: what is known of a read element's cells. -/
theorem eA (i : Nat) (s x : Operand) (t e : TypeId) (d : Kd α) (v : Value) (xs ys : List α) (X : Option Addr) (m c : Nat) {Rr : α → List Value → Prop} {z : Value} {bytes : Nat} (hw : Region.wanted o (yielded ops a.tmps) = true) (hM : Mem w0 F W0 N) (ho : o.op = .call { callee := .builtin .append, args := #[s, x], argTypes := #[t, t] })
  (ht : P.underlying t = some (.slice e)) (hinfo : (P.info? e).map (fun i => (i.zero, i.size, i.bytes)) = some (some z, d.sz, bytes)) (hi : N[i]? = some (rowR d e v xs)) (HR : ReadsRow Rr d.sz W X m ys) (hl : (xs.length + m) * bytes ≤ 140737488355328)
  (h : ∀ v1 w1, Mem w0 F w1 (N.set i (rowR d e v1 (xs ++ ys))) → K (a.put o.dst v1) w1)
  (hq : Drawn0 W0 W := by repeat (first | exact Drawn0.refl _ | apply Drawn0.step)) (hKM : ∀ x cs, Rr x cs → d.M W 0 (fun _ => False) x cs := by exact fun _ _ h => h) (hs : a.eval s = v := by first | rfl | (simp only [List.length_drop, List.length_take, List.length_append, List.length_set, List.length_cons, List.length_nil, Int.reduceToNat]; rfl)) (hx : a.eval x = .slice X m c := by first | rfl | (simp only [List.length_drop, List.length_take, List.length_append, List.length_set, List.length_cons, List.length_nil, Int.reduceToNat]; rfl)) (hz : z.cells.size = d.sz := by rfl) (hs0 : 0 < d.sz := by decide) (hb0 : 0 < bytes := by omega) : Oper.wp P o a W K Q := by
 obtain ⟨S, hA, hS, fin⟩ := (hM.drawn hq).opn hi
 have key := Kd.R_append_rows_step (P := P) (Q := Q) (Kc := K) (w0 := W) d 0 hw s x t e z bytes ho ht hinfo hz hs0 hb0 v xs ys X m c (fun k => S k ∨ W.heap.size ≤ k) (fun _ => False) hs hx (Kd.R_mono hA (fun _ h => .inl h)) HR hKM (fun _ h => h.elim) (fun _ h => .inr h) (Below.mono (Below.refl W.heap.size W) (Nat.zero_le _)) (Nat.zero_le _) hl
  (fun v1 w1 h1 _ h3 _ => h v1 w1 (fin w1 _ _ (Kd.R_bound h1) (fun k hk => ⟨hk.1, hk.2.2.1⟩) ((Chg.of_grown h3).wide (fun k hk => hA.1 k hk))))
 rwa [if_pos hw] at key
/-- Cells off, off + 1, .. get new values. -/
def putAt (cs : List Value) (off : Nat) (seg : List Value) : List Value := cs.take off ++ seg ++ cs.drop (off + seg.length)
/-- A store into a variable. -/
theorem eS (i : Nat) (p : Tmp) (off : Nat) (seg : List Value) {T g : Nat} {cs : List Value} {t : TypeId} {x : Operand} (hM : Mem w0 F W0 N) (ho : o.op = .store t (.tmp p) x) (hi : N[i]? = some (box T g cs)) (h : ∀ w1, Mem w0 F w1 (N.set i (box T g (putAt cs off seg))) → K a w1)
  (hfit : (decide (off + seg.length ≤ cs.length) && seg.all (·.oneCell')) = true := by rfl) (hp : a.eval (.tmp p) = .pointer (some ⟨g, off, none⟩) := by rfl) (hx : (a.eval x).cells.toList = seg := by first | rfl | (simp only [List.length_drop, List.length_take, List.length_append, List.length_set, List.length_cons, List.length_nil, Int.reduceToNat]; rfl)) (ht : (P.info? t).map (·.size) = some seg.length := by kernel_rfl)
  (hN : o.dst = none := by rfl) (hq : Drawn0 W0 W := by repeat (first | exact Drawn0.refl _ | apply Drawn0.step)) : Oper.wp P o a W K Q := by
 obtain ⟨S, ⟨hA, hg⟩, hS, fin⟩ := (hM.drawn hq).opn hi
 simp only [Bool.and_eq_true, decide_eq_true_eq, List.all_eq_true] at hfit
 have hr := run_store_run (P := P) (w := W) (g := g) (o := off) t (a.eval x) seg hA hx ht (by simpa using hfit.1) (fun q hq => hfit.2 q hq)
 obtain ⟨cur', h3, h4, h5⟩ := setCells_row seg off W cs.toArray hA (by simpa using hfit.1)
 obtain ⟨s1, s2, s3, s4⟩ := setCells_same g seg off W
 have he : cur' = (putAt cs off seg).toArray := by
  apply Array.toList_inj.1
  rw [h5]
  simp [putAt]
 unfold Oper.wp execOp
 simp only [ho, hp, Sem.run_bind, Sem.run_pure, Result.andThen_ok, hr]
 show K (a.put o.dst undef) _
 rw [hN]
 refine h _ (fin _ _ (fun k => k = g) ⟨by rw [h3, he], rfl⟩ (fun k hk => by subst hk; exact ⟨.inl hg, blk_lt h3⟩) ⟨s1, s2, s3, by rw [s4]; exact Nat.le_refl _, fun k _ hn => setCells_far seg _ k (fun e => hn (e ▸ hg))⟩)
/-- A call of a Go function. -/
theorem eC {f : FuncId} {fn : Func} {as_ : Array Operand} {ts : Array TypeId} {R : Ending → World → Prop} (dd : Option Tmp) (hd : o.dst = dd) (args : Array Value) (hop : o.op = .call { callee := .value (.func f), args := as_, argTypes := ts }) (hf : P.funcs[f]? = some fn) (hc : Calls P f args W R) (h : ∀ e w', R e w' → ∃ v, e = .returned v ∧ K (a.put dd v) w')
  (hargs : as_.map a.eval = args := by (try simp only [List.map_toArray, List.map_cons, List.map_nil]); first | done | rfl | (simp only [List.length_drop, List.length_take, List.length_append, List.length_set, List.length_cons, List.length_nil, Nat.zero_add, Int.reduceToNat]; done) | (simp only [List.length_drop, List.length_take, List.length_append, List.length_set, List.length_cons, List.length_nil, Nat.zero_add, Int.reduceToNat]; rfl)) (hname : (fn.name == "runtime.NumGoroutine") = false := by kernel_rfl) (hb : fn.body.isSome = true := by rfl) : Oper.wp P o a W K Q := by
 subst hd
 have he := enters_ hf hname hb args W
 have hrun : (execOp a.eval o).run P W = .ok (.enter f args) W := by
  unfold execOp
  simp [hop, resolve, Deferred.ofValue, invoke, Act.eval, hargs, he]
 unfold Oper.wp
 rw [hrun, Oper.upon_enter]
 refine hc.mono ?_
 intro e w' hR
 obtain ⟨v, rfl, hK⟩ := h e w' hR
 exact hK
/-- xs[k:] of a row of the call's own: a queue. -/
theorem eD (i : Nat) (t e : TypeId) (d : Kd α) (x lo : Operand) (k : Int) (xs : List α) (X : Option Addr) (c : Nat) {z : Value} {bytes : Nat} (hM : Mem w0 F W0 N) (ho : o.op = .slice t x (some lo) none none) (ht : P.underlying t = some (.slice e)) (hinfo : (P.info? e).map (fun i => (i.zero, i.size, i.bytes)) = some (some z, d.sz, bytes)) (hi : N[i]? = some A) (hA : ∀ w S, A.At w S → d.Q e w 0 S (.slice X xs.length c) xs) (h0 : 0 ≤ k) (h1 : k ≤ xs.length)
  (h : ∀ v1, Mem w0 F W (N.set i (row d e v1 (xs.drop k.toNat))) → K (a.put o.dst v1) W) (hx : a.eval x = .slice X xs.length c := by first | rfl | (simp only [List.length_drop, List.length_take, List.length_append, List.length_set, List.length_cons, List.length_nil, Int.reduceToNat]; rfl)) (hl : a.eval lo = .int .i64 k := by rfl)
  (hq : Drawn0 W0 W := by repeat (first | exact Drawn0.refl _ | apply Drawn0.step)) : Oper.wp P o a W K Q := by
 have hel : P.elem t = e := by simp [Program.elem, ht]
 have hu : P.underlying t = some (.slice (P.elem t)) := by rw [hel]; exact ht
 obtain ⟨S, hS, hb, fin⟩ := (hM.drawn hq).opn hi
 obtain ⟨i0, hi0, _, hsz, _⟩ := info_parts hinfo
 have hcut := cut_from (P := P) t e .i64 ht hi0 d.sz hsz X xs.length c k h0 h1 W
 have hd := Kd.Q_drop (k := k.toNat) (hA W S hS) (by omega)
 refine wp_value (by unfold execOp; simp [ho, hx, hl, run_sliceAt_slice (h := hu), hcut]) (h _ (fin W _ S hd (fun q hq => ⟨.inl hq, (hb q hq).2⟩) ⟨rfl, rfl, rfl, Nat.le_refl _, fun _ _ _ => rfl⟩))
/-- out[j].f = u of a row of the call's own: z0 is the kind's zero, cells what element j was before. -/
theorem eP (i : Nat) (p : Tmp) (j : Int) (off : Nat) (seg : List Value) (d : Kd α) (e : TypeId) (xs : List α) (x' z0 : α) (cells : List Value) {t : TypeId} {x : Operand} {g g2 n c o' : Nat} (hM : Mem w0 F W0 N) (ho : o.op = .store t (.tmp p) x) (hi : N[i]? = some A) (hA : ∀ w S, A.At w S → d.Q e w 0 S (.slice (some ⟨g, g2, none⟩) n c) xs) (B : SP) (hB : ∀ w S, d.Q e w 0 S (.slice (some ⟨g, g2, none⟩) n c) (xs.set j.toNat x') → A.At W S → B.At w S) (h0 : 0 ≤ j) (h1 : j < n)
  (hopn : ∀ ok cs, d.M W 0 ok (xs.getD j.toNat z0) cs → cs = cells) (hmk : d.M W 0 (fun _ => False) x' (cells.take off ++ seg ++ cells.drop (off + seg.length))) (h : ∀ w1, Mem w0 F w1 (N.set i B) → K a w1)
  (hp : a.eval (.tmp p) = .pointer (some ⟨g, o', none⟩) := by rfl) (hoff : o' = g2 + j.toNat * d.sz + off := by first | rfl | exact congrArg (g2 + ·) (Nat.mul_one _).symm) (hx : (a.eval x).cells.toList = seg := by first | rfl | (simp only [List.length_drop, List.length_take, List.length_append, List.length_set, List.length_cons, List.length_nil, Int.reduceToNat]; rfl)) (ht : (P.info? t).map (·.size) = some seg.length := by kernel_rfl) (hone : seg.all (·.oneCell') = true := by rfl) (hj : off + seg.length ≤ d.sz := by exact Nat.le_of_ble_eq_true rfl) (hN : o.dst = none := by rfl)
  (hq : Drawn0 W0 W := by repeat (first | exact Drawn0.refl _ | apply Drawn0.step)) : Oper.wp P o a W K Q := by
 subst hoff
 obtain ⟨S, hS, hb, fin⟩ := (hM.drawn hq).opn hi
 have hQ := hA W S hS
 obtain ⟨hn, hnc, _⟩ := Kd.Q_reads' hQ
 obtain ⟨cs, hcl, hMc, hcc, _⟩ := Kd.Q_elem hQ z0 j h0 h1
 obtain rfl := hopn _ cs hMc
 obtain ⟨hrow, hg⟩ := Kd.Q_seg hQ j h0 h1 hcl hcc hj hmk (fun _ hk => hk.elim)
 have hgS : S g := hQ.1 g rfl
 have hrun : (Instr.storeAt t (.pointer (some ⟨g, g2 + j.toNat * d.sz + off, none⟩)) (a.eval x)).run P W = .ok () (W.setCells g (g2 + j.toNat * d.sz + off) seg) := by
  obtain ⟨_, inner, ⟨_, hv | ⟨g', of, cap', cur, hv, _, hh, _, _, hcs, _⟩⟩, _⟩ := hQ
  ·have hn0 := hv.1
   omega
  injection hv with ha _ hc'
  injection ha with ha
  injection ha with hg' ho'
  subst hg'; subst hc'; subst ho'
  refine run_store_run t _ seg hh hx ht ?_ (fun q hq => List.all_eq_true.1 hone q hq)
  have h3 : j.toNat * d.sz + d.sz ≤ n * d.sz := by rw [← Nat.succ_mul]; exact Nat.mul_le_mul_right _ (by omega)
  have h4 : n * d.sz ≤ c * d.sz := Nat.mul_le_mul_right _ hnc
  have h5 : (of + c) * d.sz = of * d.sz + c * d.sz := Nat.add_mul _ _ _
  omega
 unfold Oper.wp execOp
 simp only [ho, hp, Sem.run_bind, Sem.run_pure, Result.andThen_ok, hrun]
 show K (a.put o.dst undef) _
 rw [hN]
 refine h _ (fin _ _ S (hB _ S hrow hS) (fun k hk => ⟨.inl hk, Nat.lt_of_lt_of_le (hb k hk).2 hg.size⟩) ((Chg.of_grown hg).wide (fun k hk => by injection hk with hk; exact hk ▸ hgS)))
theorem ePQ (i : Nat) (p : Tmp) (j : Int) (off : Nat) (seg : List Value) (d : Kd α) (e : TypeId) (xs : List α) (x' z0 : α) (cells : List Value) {t : TypeId} {x : Operand} {g g2 n c o' : Nat} (hM : Mem w0 F W0 N) (ho : o.op = .store t (.tmp p) x) (hi : N[i]? = some (row d e (.slice (some ⟨g, g2, none⟩) n c) xs)) (h0 : 0 ≤ j) (h1 : j < n)
  (hopn : ∀ ok cs, d.M W 0 ok (xs.getD j.toNat z0) cs → cs = cells) (hmk : d.M W 0 (fun _ => False) x' (cells.take off ++ seg ++ cells.drop (off + seg.length))) (h : ∀ w1, Mem w0 F w1 (N.set i (row d e (.slice (some ⟨g, g2, none⟩) n c) (xs.set j.toNat x'))) → K a w1)
  (hp : a.eval (.tmp p) = .pointer (some ⟨g, o', none⟩) := by rfl) (hoff : o' = g2 + j.toNat * d.sz + off := by first | rfl | exact congrArg (g2 + ·) (Nat.mul_one _).symm) (hx : (a.eval x).cells.toList = seg := by first | rfl | (simp only [List.length_drop, List.length_take, List.length_append, List.length_set, List.length_cons, List.length_nil, Int.reduceToNat]; rfl)) (ht : (P.info? t).map (·.size) = some seg.length := by kernel_rfl) (hone : seg.all (·.oneCell') = true := by rfl) (hj : off + seg.length ≤ d.sz := by exact Nat.le_of_ble_eq_true rfl) (hN : o.dst = none := by rfl)
  (hq : Drawn0 W0 W := by repeat (first | exact Drawn0.refl _ | apply Drawn0.step)) : Oper.wp P o a W K Q :=
 eP i p j off seg d e xs x' z0 cells (g := g) (g2 := g2) (o' := o') hM ho hi (fun _ _ h => h) _ (fun w S hQ hR => hQ) h0 h1 hopn hmk h hp hoff hx ht hone hj hN hq
-- P-FORMS: the same in a plain region
theorem pB (d : Tmp) (T : TypeId) (cs : List Value) (hM : Mem w0 F W0 N) (hd : o.dst = some d) (h : ∀ g w1, Mem w0 F w1 (N ++ [box T g cs]) → wpList P ops Q rest (a.put o.dst (.pointer (some ⟨g, 0, none⟩))) w1) (hq : Drawn0 W0 W := by repeat (first | exact Drawn0.refl _ | apply Drawn0.step)) (hrun : (execOp a.eval o).run P W = .ok (.value (.pointer (some ⟨W.heap.size, 0, none⟩))) (W.alloc (.cells cs.toArray T (0, 0))) := by first | (go_simp; done) | (go_simp; rfl)) (hg : Region.wanted o (yielded ops a.tmps) = true := by rfl) : wpList P ops Q (o :: rest) a W :=
 PL (fun K hK hw => eB d T cs hM hd (fun g w1 h0_ => hK _ _ (h g w1 h0_)) hq hrun) hg
theorem pL (d : Tmp) (kd : Kd α) (e : Nat) (xs : List α) (inner : List Value) (hrep : Reps (kd.M W 0 (fun _ => False)) kd.sz xs inner) (hM : Mem w0 F W0 N) (hd : o.dst = some d) (h : ∀ v w1, Mem w0 F w1 (N ++ [rowR kd e v xs]) → wpList P ops Q rest (a.put o.dst v) w1) (hq : Drawn0 W0 W := by repeat (first | exact Drawn0.refl _ | apply Drawn0.step)) (hm : xs.length ≤ 9223372036854775807 := by simp) (hrun : (execOp a.eval o).run P W = .ok (.value (.slice (some ⟨W.heap.size, 0, none⟩) xs.length xs.length)) (W.alloc (.cells inner.toArray e)) := by first | (go_simp; done) | (go_simp; rfl)) (hg : Region.wanted o (yielded ops a.tmps) = true := by rfl) : wpList P ops Q (o :: rest) a W :=
 PL (fun K hK hw => eL d kd e xs inner hrep hM hd (fun v w1 h0_ => hK _ _ (h v w1 h0_)) hq hm hrun) hg
theorem pA (i : Nat) (s x : Operand) (t e : TypeId) (d : Kd α) (v : Value) (xs ys : List α) (X : Option Addr) (m c : Nat) {Rr : α → List Value → Prop} {z : Value} {bytes : Nat} (hM : Mem w0 F W0 N) (ho : o.op = .call { callee := .builtin .append, args := #[s, x], argTypes := #[t, t] }) (ht : P.underlying t = some (.slice e)) (hinfo : (P.info? e).map (fun i => (i.zero, i.size, i.bytes)) = some (some z, d.sz, bytes)) (hi : N[i]? = some (rowR d e v xs)) (HR : ReadsRow Rr d.sz W X m ys) (hl : (xs.length + m) * bytes ≤ 140737488355328) (h : ∀ v1 w1, Mem w0 F w1 (N.set i (rowR d e v1 (xs ++ ys))) → wpList P ops Q rest (a.put o.dst v1) w1) (hq : Drawn0 W0 W := by repeat (first | exact Drawn0.refl _ | apply Drawn0.step)) (hKM : ∀ x cs, Rr x cs → d.M W 0 (fun _ => False) x cs := by exact fun _ _ h => h) (hs : a.eval s = v := by first | rfl | (simp only [List.length_drop, List.length_take, List.length_append, List.length_set, List.length_cons, List.length_nil, Int.reduceToNat]; rfl)) (hx : a.eval x = .slice X m c := by first | rfl | (simp only [List.length_drop, List.length_take, List.length_append, List.length_set, List.length_cons, List.length_nil, Int.reduceToNat]; rfl)) (hz : z.cells.size = d.sz := by rfl) (hs0 : 0 < d.sz := by decide) (hb0 : 0 < bytes := by omega) (hg : Region.wanted o (yielded ops a.tmps) = true := by rfl) : wpList P ops Q (o :: rest) a W :=
 PL (fun K hK hw => eA i s x t e d v xs ys X m c hw hM ho ht hinfo hi HR hl (fun v1 w1 h0_ => hK _ _ (h v1 w1 h0_)) hq hKM hs hx hz hs0 hb0) hg
theorem pS (i : Nat) (p : Tmp) (off : Nat) (seg : List Value) {T g : Nat} {cs : List Value} {t : TypeId} {x : Operand} (hM : Mem w0 F W0 N) (ho : o.op = .store t (.tmp p) x) (hi : N[i]? = some (box T g cs)) (h : ∀ w1, Mem w0 F w1 (N.set i (box T g (putAt cs off seg))) → wpList P ops Q rest a w1) (hfit : (decide (off + seg.length ≤ cs.length) && seg.all (·.oneCell')) = true := by rfl) (hp : a.eval (.tmp p) = .pointer (some ⟨g, off, none⟩) := by rfl) (hx : (a.eval x).cells.toList = seg := by first | rfl | (simp only [List.length_drop, List.length_take, List.length_append, List.length_set, List.length_cons, List.length_nil, Int.reduceToNat]; rfl)) (ht : (P.info? t).map (·.size) = some seg.length := by kernel_rfl) (hN : o.dst = none := by rfl) (hq : Drawn0 W0 W := by repeat (first | exact Drawn0.refl _ | apply Drawn0.step)) (hg : Region.wanted o (yielded ops a.tmps) = true := by rfl) : wpList P ops Q (o :: rest) a W :=
 PL (fun K hK hw => eS i p off seg hM ho hi (fun w1 h0_ => hK _ _ (h w1 h0_)) hfit hp hx ht hN hq) hg
theorem pC {f : FuncId} {fn : Func} {as_ : Array Operand} {ts : Array TypeId} {R : Ending → World → Prop} (dd : Option Tmp) (hd : o.dst = dd) (args : Array Value) (hop : o.op = .call { callee := .value (.func f), args := as_, argTypes := ts }) (hf : P.funcs[f]? = some fn) (hc : Calls P f args W R) (h : ∀ e w', R e w' → ∃ v, e = .returned v ∧ wpList P ops Q rest (a.put dd v) w') (hargs : as_.map a.eval = args := by (try simp only [List.map_toArray, List.map_cons, List.map_nil]); first | done | rfl | (simp only [List.length_drop, List.length_take, List.length_append, List.length_set, List.length_cons, List.length_nil, Nat.zero_add, Int.reduceToNat]; done) | (simp only [List.length_drop, List.length_take, List.length_append, List.length_set, List.length_cons, List.length_nil, Nat.zero_add, Int.reduceToNat]; rfl)) (hname : (fn.name == "runtime.NumGoroutine") = false := by kernel_rfl) (hb : fn.body.isSome = true := by rfl) (hg : Region.wanted o (yielded ops a.tmps) = true := by rfl) : wpList P ops Q (o :: rest) a W :=
 PL (fun K hK hw => eC dd hd args hop hf hc (fun e w' hR => (h e w' hR).imp (fun v hv => ⟨hv.1, hK _ _ hv.2⟩)) hargs hname hb) hg
theorem pD (i : Nat) (t e : TypeId) (d : Kd α) (x lo : Operand) (k : Int) (xs : List α) (X : Option Addr) (c : Nat) {z : Value} {bytes : Nat} (hM : Mem w0 F W0 N) (ho : o.op = .slice t x (some lo) none none) (ht : P.underlying t = some (.slice e)) (hinfo : (P.info? e).map (fun i => (i.zero, i.size, i.bytes)) = some (some z, d.sz, bytes)) (hi : N[i]? = some A) (hA : ∀ w S, A.At w S → d.Q e w 0 S (.slice X xs.length c) xs) (h0 : 0 ≤ k) (h1 : k ≤ xs.length) (h : ∀ v1, Mem w0 F W (N.set i (row d e v1 (xs.drop k.toNat))) → wpList P ops Q rest (a.put o.dst v1) W) (hx : a.eval x = .slice X xs.length c := by first | rfl | (simp only [List.length_drop, List.length_take, List.length_append, List.length_set, List.length_cons, List.length_nil, Int.reduceToNat]; rfl)) (hl : a.eval lo = .int .i64 k := by rfl) (hq : Drawn0 W0 W := by repeat (first | exact Drawn0.refl _ | apply Drawn0.step)) (hg : Region.wanted o (yielded ops a.tmps) = true := by rfl) : wpList P ops Q (o :: rest) a W :=
 PL (fun K hK hw => eD i t e d x lo k xs X c hM ho ht hinfo hi hA h0 h1 (fun v1 h0_ => hK _ _ (h v1 h0_)) hx hl hq) hg
theorem pPQ (i : Nat) (p : Tmp) (j : Int) (off : Nat) (seg : List Value) (d : Kd α) (e : TypeId) (xs : List α) (x' z0 : α) (cells : List Value) {t : TypeId} {x : Operand} {g g2 n c o' : Nat} (hM : Mem w0 F W0 N) (ho : o.op = .store t (.tmp p) x) (hi : N[i]? = some (row d e (.slice (some ⟨g, g2, none⟩) n c) xs)) (h0 : 0 ≤ j) (h1 : j < n) (hopn : ∀ ok cs, d.M W 0 ok (xs.getD j.toNat z0) cs → cs = cells) (hmk : d.M W 0 (fun _ => False) x' (cells.take off ++ seg ++ cells.drop (off + seg.length))) (h : ∀ w1, Mem w0 F w1 (N.set i (row d e (.slice (some ⟨g, g2, none⟩) n c) (xs.set j.toNat x'))) → wpList P ops Q rest a w1) (hp : a.eval (.tmp p) = .pointer (some ⟨g, o', none⟩) := by rfl) (hoff : o' = g2 + j.toNat * d.sz + off := by first | rfl | exact congrArg (g2 + ·) (Nat.mul_one _).symm) (hx : (a.eval x).cells.toList = seg := by first | rfl | (simp only [List.length_drop, List.length_take, List.length_append, List.length_set, List.length_cons, List.length_nil, Int.reduceToNat]; rfl)) (ht : (P.info? t).map (·.size) = some seg.length := by kernel_rfl) (hone : seg.all (·.oneCell') = true := by rfl) (hj : off + seg.length ≤ d.sz := by exact Nat.le_of_ble_eq_true rfl) (hN : o.dst = none := by rfl) (hq : Drawn0 W0 W := by repeat (first | exact Drawn0.refl _ | apply Drawn0.step)) (hg : Region.wanted o (yielded ops a.tmps) = true := by rfl) : wpList P ops Q (o :: rest) a W :=
 PL (fun K hK hw => ePQ i p j off seg d e xs x' z0 cells hM ho hi h0 h1 hopn hmk (fun w1 h0_ => hK _ _ (h w1 h0_)) hp hoff hx ht hone hj hN hq) hg
-- the pure function's own steps
/-- The next operation calls this function, writes this variable, stores by this address. -/
theorem gC {as_ : Array Operand} {ts : Array TypeId} (f : FuncId) (_ho : o.op = .call { callee := .value (.func f), args := as_, argTypes := ts }) (h : wpList P ops Q (o :: rest) a W) : wpList P ops Q (o :: rest) a W := h
theorem gN (N : Tmp) (_ho : o.dst = some N) (h : wpList P ops Q (o :: rest) a W) : wpList P ops Q (o :: rest) a W := h
theorem gS {t : TypeId} {x : Operand} (p : Tmp) (_ho : o.op = .store t (.tmp p) x) (h : wpList P ops Q (o :: rest) a W) : wpList P ops Q (o :: rest) a W := h
theorem gate_sl {t : TypeId} {x : Operand} {lo hi mx : Option Operand} (_ho : o.op = .slice t x lo hi mx) (h : wpList P ops Q (o :: rest) a W) : wpList P ops Q (o :: rest) a W := h
/-- What is held, as_ one plain list. -/
theorem nzM {M : List SP} {w : World} (h : Mem w0 F w N) (hN : N = M := by (try dsimp only [pk, List.getElem?_cons_zero, List.getElem?_cons_succ, List.nil_append, List.cons_append, List.set_cons_zero, List.set_cons_succ, putAt, List.take_zero, List.take_succ_cons, List.drop_succ_cons, List.drop_nil, List.drop_zero, List.length_cons, List.length_nil, Nat.reduceAdd]); (try rfl)) : Mem w0 F w M := hN ▸ h
/-- What is held, some orders having been drawn since. -/
theorem MD (h : Mem w0 F W0 N) (hq : Drawn0 W0 W := by repeat (first | exact Drawn0.refl _ | apply Drawn0.step)) : Mem w0 F W N := h.drawn hq
theorem GD {β : Type} {p : Prop} {i : Decidable p} {x : Option β} {r : β} (h : @ite (Option β) p i x none = some r) : p ∧ x = some r := by
 by_cases c : p
 ·rw [if_pos c] at h; exact ⟨c, h⟩
 ·rw [if_neg c] at h; cases h
theorem GN {β : Type} {p : Prop} {i : Decidable p} {x : Option β} {r : β} (h : @ite (Option β) p i none x = some r) : ¬ p ∧ x = some r := by
 by_cases c : p
 ·rw [if_pos c] at h; cases h
 ·rw [if_neg c] at h; exact ⟨c, h⟩
theorem IT {β : Type} {p : Prop} {i : Decidable p} {x y : Option β} {r : β} (h : @ite (Option β) p i x y = some r) : (p ∧ x = some r) ∨ (¬ p ∧ y = some r) := by
 by_cases c : p
 ·rw [if_pos c] at h; exact .inl ⟨c, h⟩
 ·rw [if_neg c] at h; exact .inr ⟨c, h⟩
theorem IB {β : Type} {b : Bool} {i : Decidable (b = true)} {x y : Option β} {r : β} (h : @ite (Option β) (b = true) i x y = some r) : (b = true ∧ x = some r) ∨ (b = false ∧ y = some r) := by
 cases b
 ·rw [if_neg Bool.false_ne_true] at h; exact .inr ⟨rfl, h⟩
 ·rw [if_pos rfl] at h; exact .inl ⟨rfl, h⟩
theorem BN {β γ : Type} {x : Option β} {g : β → Option γ} {r : γ} (h : x.bind g = some r) : ∃ t, Aside0 (x = some t) ∧ g t = some r := by
 obtain ⟨t, h1, h2⟩ := Option.bind_eq_some_iff.mp h
 exact ⟨t, ⟨h1⟩, h2⟩
theorem BE {β : Type} [BEq β] [LawfulBEq β] {x y : β} (h : x = y) : (x == y) = true ∧ (x != y) = false := ⟨beq_iff_eq.mpr h, bne_eq_false_iff_eq.mpr h⟩
theorem BF {β : Type} [BEq β] [LawfulBEq β] {x y : β} (h : ¬ x = y) : (x == y) = false ∧ (x != y) = true := ⟨beq_eq_false_iff_ne.mpr h, bne_iff_ne.mpr h⟩
theorem BLt {β γ : Type} {e : β} {g : β → Option γ} {r : γ} (h : (some e).bind g = some r) : ∃ y, y = e ∧ g y = some r := ⟨e, rfl, h⟩
end
end Go.Proofs.Ytnlnifpehndacaa.Mm

namespace Go.Proofs.Ytnlnifpehndacaa.Mm
open Go.RowKit Go.Proofs.YtnlnifpehndacaaW.PrintWords Go.Proofs.YtnlnifpehndacaaW.PrintLast Go.Proofs.YtnlnifpehndacaaW.PrintMore Go.Proofs.Ytnlnifpehndacaa.Sh
set_option linter.unusedVariables false
def vs (c : Bool) (x y : Value) : Value := match c with
 | true => x
 | false => y
section
variable {P : Program} {ops : Array Oper} {o og : Oper} {a a0 : Act} {Q : Exit → Act → World → Prop} {K : Act → World → Prop} {w0 w w' W W0 : World} {F N L R M : List SP} {A B : SP} {c : Bool} {b : Nat → Bool} {i j g : Nat} {t : Tmp} {u v v0 : Value} {LL LL' : List (Nat × Tmp × Value)}
theorem Mem.sT (h : Mem w0 F w N) (q : Nat) (hi : N[q]? = some (sel c A B)) (hc : c = true) : Mem w0 F w (N.set q A) := by
 subst hc
 exact h.tell hi A (fun _ h => h)
theorem Mem.sF (h : Mem w0 F w N) (q : Nat) (hi : N[q]? = some (sel c A B)) (hc : c = false) : Mem w0 F w (N.set q B) := by
 subst hc
 exact h.tell hi B (fun _ h => h)
theorem evc : a.eval (.const v) = v := rfl
/-- A slot of a listed operation; of one that no operation fills; the next entry. -/
theorem PON (ha : a = putSel a0 b LL) (k : Nat) (hb : b j = true) (hL : LL[k]? = some (j, t, v) := by rfl) (hd : ((LL.drop (k + 1)).all fun x => !(x.2.1 == t)) = true := by rfl) (hs : Nat.ble (t + 1) a0.tmps.size = true := by rfl) : a.tmps[t]? = some v := by
 subst ha
 exact putSel_on k hL hd hb hs
theorem POF (ha : a = putSel a0 b LL) (t : Tmp) (h0 : a0.tmps[t]? = some v := by rfl) (hL : (LL.all fun e => !(e.2.1 == t)) = true := by rfl) : a.tmps[t]? = some v := by
 subst ha
 exact (putSel_off hL).trans h0
theorem PUT (ha : Aside0 (a = putSel a0 b LL)) (k : Nat) (hb : b i = false) (hL : LL[k]? = some (i, t, v0) := by rfl) (hL' : LL.set k (i, t, v) = LL' := by rfl) (hd : ((LL.take k ++ LL.drop (k + 1)).all fun e => !(e.1 == i) && !(e.2.1 == t)) = true := by rfl) : a.put (some t) v = putSel a0 (up b i) LL' := by
 obtain ⟨rfl⟩ := ha
 exact putSel_upk k hb hL hL' hd
theorem PUS (ha : Aside0 (a = putSel a0 b LL)) (h : (LL.all fun e => !(e.1 == i)) = true := by rfl) : a = putSel a0 (up b i) LL := by
 obtain ⟨rfl⟩ := ha
 exact (putSel_same h).symm
/-- One step of the relation, told apart; slots read out of it. -/
theorem SY {i : Nat} {oi : Oper} {B O rs : List Nat} {Y : (Nat → Bool) → World → Prop} (h : ∀ b a w, Aside0 (a = putSel a0 b LL) → Y b w → b i = false → (∀ j, (O.contains j && (B.getD i 0).testBit j) = true → b j = true) → (∀ d, (O.contains d && (B.getD d 0).testBit i) = true → b d = false) → ∀ K : Act → World → Prop, Shut (∀ a' w', (a' = putSel a0 (up b i) LL ∧ Y (up b i) w') → K a' w') → if Region.wanted oi (yielded ops a.tmps) = true then Oper.wp P oi a w K Q else K (a.put oi.dst undef) w)
  (hs : ∀ j ∈ rs, StepAt P ops Q B O (fun b a' w' => a' = putSel a0 b LL ∧ Y b w') j) (ho : ops[i]? = some oi := by rfl) : ∀ j ∈ i :: rs, StepAt P ops Q B O (fun b a' w' => a' = putSel a0 b LL ∧ Y b w') j :=
 steps_cons (fun b a w hI hb hon hoff => ⟨oi, ho, fun K hK => h b a w (Aside0.mk hI.1) hI.2 hb hon hoff K hK⟩) hs
theorem PE {B O : List Nat} (ha : Aside0 (a = putSel a0 b LL)) (k : Nat) (hon : ∀ j, (O.contains j && (B.getD i 0).testBit j) = true → b j = true) (hL : LL[k]? = some (j, t, v) := by rfl) (hm : (O.contains j && (B.getD i 0).testBit j) = true := by kernel_rfl) (hd : ((LL.drop (k + 1)).all fun x => !(x.2.1 == t)) = true := by rfl) (hs : Nat.ble (t + 1) a0.tmps.size = true := by rfl) : a.tmps[t]? = some v := PON ha.out k (hon j hm) hL hd hs
theorem PG (ha : Aside0 (a = putSel a0 b LL)) (t : Tmp) (h0 : a0.tmps[t]? = some v := by rfl) (hL : (LL.all fun e => !(e.2.1 == t)) = true := by rfl) : a.tmps[t]? = some v := POF ha.out t h0 hL
/-- A step that yields a value, the world unchanged. -/
theorem VL (v : Value) (h : K (a.put o.dst v) W) (hrun : (execOp a.eval o).run P W = .ok (.value v) W := by first | (go_simp; done) | (go_simp; rfl) | (go_simp; simp only [i64_w]; done) | (go_simp; simp only [i64_w]; rfl) | (go_simp; simp only [bne, Bool.not_not])) (hw : Region.wanted o (yielded ops a.tmps) = true := by rfl) : if Region.wanted o (yielded ops a.tmps) = true then Oper.wp P o a W K Q else K (a.put o.dst undef) W := ST (wp_value hrun h) hw
/-- What is listed, of the region's operations alone. -/
def inN (n : Nat) (b : Nat → Bool) : Nat → Bool := fun j => decide (n ≤ j) || b j
theorem inN_lt {n : Nat} (h : j < n) : inN n b j = b j := by simp [inN, Nat.not_le.2 h]
theorem inN_up {n : Nat} : inN n (up b i) = up (inN n b) i := by
 funext j
 unfold inN up
 by_cases h : j = i
 ·simp [h]
 ·simp [h]
theorem inN_all {n : Nat} (h : ∀ j, (List.range n).contains j = true → b j = true) : inN n b = fun _ => true := by
 funext j
 by_cases hj : j < n
 ·rw [inN_lt hj]
  exact h j (by simpa using hj)
 ·simp [inN, Nat.not_lt.1 hj]
theorem PS0' {n : Nat} (hn : (LL.all fun e => decide (e.1 < n)) = true) (a : Act) : a = putSel a (inN n fun _ => false) LL := by
 induction LL generalizing a with
 | nil => rfl
 | cons e r ih =>
  rw [List.all_cons, Bool.and_eq_true, decide_eq_true_eq] at hn
  unfold putSel
  rw [inN_lt hn.1, if_neg (by decide)]
  exact ih hn.2 a
/-- The region, all its operations in one relation. -/
theorem RGN {id : Nat} {T : Bool × List (List Nat × List Nat)} {B : List Nat} (n : Nat) (O : List Nat) (I : Act → (Nat → Bool) → Act → World → Prop) (hT : rtab .any ops = T) (hw : waitsOk T.2 B = true) (h0 : I a (inN n fun _ => false) a w.drew) (hs : ∀ i ∈ O, StepAt P ops Q B O (I a) i)
  (hend : ∀ a' w, I a (fun _ => true) a' w → Q .normal a' w) (hn : ops.size = n := by rfl) (hO : O = List.range n := by rfl) (hk : baseOk T.2 (List.range n) = true := by kernel_rfl) (hl : (lof T.2.length (List.range n) (fun _ => false) == List.replicate n false && (List.range n).length == n) = true := by kernel_rfl) (hm : P.follows .mixedOrders = true := by kernel_rfl) : (Code.region id ops true).wp P Q a w := by
 subst hO
 refine start_ (S := fun _ => True) (ds := []) (Array.replicate n false) hm hn rfl trivial (fun _ => inv_at (List.range n) (fun a0 b => I a0 (inN n b)) hT hw hk (by simpa using hl) h0 ?_ ?_)
 ·intro i hi b a' w' hI hb hon hoff
  have hi' : i < n := List.mem_range.1 hi
  obtain ⟨oi, ho, hK⟩ := hs i hi (inN n b) a' w' hI (by rw [inN_lt hi']; exact hb) (fun j hj => by
   have hl : j < n := by rw [Bool.and_eq_true] at hj; simpa using hj.1
   rw [inN_lt hl]; exact hon j hj) (fun d hd => by
   have hl : d < n := by rw [Bool.and_eq_true] at hd; simpa using hd.1
   rw [inN_lt hl]; exact hoff d hd)
  refine ⟨oi, ho, fun K hKK => hK K ?_⟩
  have hKK : Shut (∀ a' w', I a (inN n (up b i)) a' w' → K a' w') := hKK
  rw [inN_up] at hKK
  exact hKK
 ·intro b a' w' hall hI
  rw [inN_all hall] at hI
  exact hend a' w' hI
end
end Go.Proofs.Ytnlnifpehndacaa.Mm

namespace Go.Proofs.Ytnlnifpehndacaa.Mm
open Go.RowKit Go.Proofs.YtnlnifpehndacaaW.PrintWords Go.Proofs.YtnlnifpehndacaaW.PrintLast Go.Proofs.YtnlnifpehndacaaW.PrintMore Go.Proofs.Ytnlnifpehndacaa.Sh
set_option linter.unusedVariables false
section
variable {P : Program} {ops : Array Oper} {rest : List Oper} {o : Oper} {a : Act} {Q : Exit → Act → World → Prop} {K : Act → World → Prop} {w0 W W0 : World} {F N L : List SP} {A : SP} {α : Type}
-- cuts that are read at later worlds, too
theorem eRdf (t e : TypeId) (d : Kd α) (x lo : Operand) (k : Int) (xs : List α) (X : Option Addr) (c : Nat) {z : Value} {bytes : Nat} (ho : o.op = .slice t x (some lo) none none) (ht : P.underlying t = some (.slice e)) (hinfo : (P.info? e).map (fun i => (i.zero, i.size, i.bytes)) = some (some z, d.sz, bytes)) (hc : xs.length ≤ c) (h0 : 0 ≤ k) (h1 : k ≤ xs.length)
  (h : ∀ X' c', (∀ W', d.C W' X xs.length xs → d.C W' X' (xs.drop k.toNat).length (xs.drop k.toNat)) → (xs.drop k.toNat).length ≤ c' → K (a.put o.dst (.slice X' (xs.drop k.toNat).length c')) W) (hx : a.eval x = .slice X xs.length c := by first | rfl | (simp only [List.length_drop, List.length_take, List.length_append, List.length_set, List.length_cons, List.length_nil, Int.reduceToNat]; rfl)) (hl : a.eval lo = .int .i64 k := by rfl) : Oper.wp P o a W K Q := by
 have hel : P.elem t = e := by simp [Program.elem, ht]
 have hu : P.underlying t = some (.slice (P.elem t)) := by rw [hel]; exact ht
 obtain ⟨i0, hi0, _, hsz, _⟩ := info_parts hinfo
 have hcut := cut_from (P := P) t e .i64 ht hi0 d.sz hsz X xs.length c k h0 h1 W
 have hl2 : (xs.drop k.toNat).length = xs.length - k.toNat := List.length_drop
 refine wp_value (v := .slice (if c = k.toNat then X else X.map (·.add (k.toNat * d.sz))) (xs.drop k.toNat).length (c - k.toNat)) (by rw [hl2]; unfold execOp; simp [ho, hx, hl, run_sliceAt_slice (h := hu), hcut]) (h _ _ (fun _ h_ => Kd.C_drop (m := k.toNat) h_ (by omega) hc) (by omega))
theorem pRdf (t e : TypeId) (d : Kd α) (x lo : Operand) (k : Int) (xs : List α) (X : Option Addr) (c : Nat) {z : Value} {bytes : Nat} (ho : o.op = .slice t x (some lo) none none) (ht : P.underlying t = some (.slice e)) (hinfo : (P.info? e).map (fun i => (i.zero, i.size, i.bytes)) = some (some z, d.sz, bytes)) (hc : xs.length ≤ c) (h0 : 0 ≤ k) (h1 : k ≤ xs.length) (h : ∀ X' c', (∀ W', d.C W' X xs.length xs → d.C W' X' (xs.drop k.toNat).length (xs.drop k.toNat)) → (xs.drop k.toNat).length ≤ c' → wpList P ops Q rest (a.put o.dst (.slice X' (xs.drop k.toNat).length c')) W) (hx : a.eval x = .slice X xs.length c := by first | rfl | (simp only [List.length_drop, List.length_take, List.length_append, List.length_set, List.length_cons, List.length_nil, Int.reduceToNat]; rfl)) (hl : a.eval lo = .int .i64 k := by rfl) (hg : Region.wanted o (yielded ops a.tmps) = true := by rfl) : wpList P ops Q (o :: rest) a W :=
 PL (fun K hK hw => eRdf t e d x lo k xs X c ho ht hinfo hc h0 h1 (fun X' c' h0_ h1_ => hK _ _ (h X' c' h0_ h1_)) hx hl) hg
end
end Go.Proofs.Ytnlnifpehndacaa.Mm

namespace Go.Proofs.Ytnlnifpehndacaa.G
open Go.RowKit Go.Proofs.YtnlnifpehndacaaW.PrintWords Go.Proofs.YtnlnifpehndacaaW.PrintLast Go.Proofs.YtnlnifpehndacaaW.PrintMore Go.Proofs.Ytnlnifpehndacaa.Sh
attribute [local go_sem] max2_int min2_int max_two min_two max_three min_three max_four min_four
set_option linter.unusedVariables false
set_option linter.unusedSimpArgs false
open Go.Proofs.Ytnlnifpehndacaa.Mm
def spec_l01Cut.l0 : Nat → ByteArray → Int → List ByteArray → Int → Int → Option (List ByteArray)
 | 0, _, _, _, _, _ => none
 | k + 1, x0, x1, x5, x6, x7 => if x7 < (x0.size : Int) then (if 0 ≤ x7 then (if (bt x0 x7) = x1 then (if 0 ≤ x6 then (if x6 ≤ x7 then (if x7 ≤ (x0.size : Int) then (if x5.length < 8796093022208 then (spec_l01Cut.l0 k x0 x1 (x5 ++ [x0.extract (x6 : Int).toNat (x7 : Int).toNat]) (wrap64 (x7 + 1)) (wrap64 (x7 + 1))) else (none)) else (none)) else (none)) else (none)) else (spec_l01Cut.l0 k x0 x1 x5 x6 (wrap64 (x7 + 1)))) else (none)) else (if 0 ≤ x6 then (if x6 ≤ (x0.size : Int) then (if x5.length < 8796093022208 then (some (x5 ++ [x0.extract (x6 : Int).toNat x0.size])) else (none)) else (none)) else (none))
def spec_l01Cut.f (k : Nat) (a0 : ByteArray) (a1 : Int) : Option (List ByteArray) := spec_l01Cut.l0 k a0 a1 (([] : List ByteArray)) 0 0
theorem spec_l01Cut.mono_l : ∀ k, (∀ y0 y1 y2 y3 y4, LeO (spec_l01Cut.l0 k y0 y1 y2 y3 y4) (spec_l01Cut.l0 (k + 1) y0 y1 y2 y3 y4))
 | 0 => fun _ _ _ _ _ r h => by simp [spec_l01Cut.l0] at h
 | k + 1 => by
  have ih0 := spec_l01Cut.mono_l k
  ·intro y0 y1 y2 y3 y4
   unfold spec_l01Cut.l0
   repeat' first | (with_reducible first | exact ih0 _ _ _ _ _ | exact LeO.refl _ | exact LeO.none _ | refine LeO.ite ?_ ?_ | refine LeO.bind ?_ (fun _ => ?_)) | exact LeO.none _ | refine LeO.ite ?_ ?_ | refine LeO.bind ?_ (fun _ => ?_)
theorem spec_l01Cut.mono : ∀ a0 a1 k, LeO (spec_l01Cut.f k a0 a1) (spec_l01Cut.f (k + 1) a0 a1) := by
 intro a0 a1 k
 have ih0 := spec_l01Cut.mono_l k
 unfold spec_l01Cut.f
 repeat' first | (with_reducible first | exact ih0 _ _ _ _ _ | exact LeO.refl _ | exact LeO.none _ | refine LeO.ite ?_ ?_ | refine LeO.bind ?_ (fun _ => ?_)) | exact LeO.none _ | refine LeO.ite ?_ ?_ | refine LeO.bind ?_ (fun _ => ?_)
theorem spec_l01Cut.calls (k : Nat) (a0 : ByteArray) (a1 : Int) (r : List ByteArray) (w : World)  (h : spec_l01Cut.f k a0 a1 = some r) :
  Calls Try.prog 54 #[.string a0, .int .u8 a1] w fun e w' => ∃ v0_ : Value, e = .returned (v0_) ∧ Mem w [] w' [rowR Kd.string 9 v0_ r] := by
 have HM := Mem.nil w
 have H := h
 clear h
 unfold spec_l01Cut.f at H
 go_enter Try.func54, Try.ntmps54
 have H' := Aside0.mk H
 clear H
 go_wp2_with (first | ((with_reducible refine gN 8 rfl ?_); refine pL 8 Kd.string 9 ([] : List ByteArray) [] (Reps.none _ _) HM rfl ?_; clear HM; intro v102 w3 HM))
 go_loopg [5, 6, 7] k (fun kq v5 v6 v7 w' => ∃ (x5_1 : List ByteArray) (x6_1 : Int) (x7_1 : Int), v6 = .int .i64 x6_1 ∧ v7 = .int .i64 x7_1 ∧ Aside0 (spec_l01Cut.l0 kq a0 a1 x5_1 x6_1 x7_1 = some r) ∧ Aside0 (kq ≤ k) ∧ Mem w [] w' [rowR Kd.string 9 v5 x5_1])
 case atStart => exact ⟨((([] : List ByteArray))), (0), (0), RS, RS, H', ⟨Nat.le_refl _⟩, (MD HM).pick [0]⟩
 case round =>
  clear H' HM
  obtain ⟨x5_1, x6_1, x7_1, rfl, rfl, HA, HK1, HM⟩ := hrel
  cases gk with
  | zero => exact absurd HA.out (by simp [spec_l01Cut.l0])
  | succ k1 =>
   have H := HA.out
   clear HA
   simp only [spec_l01Cut.l0] at H
   go_upto_if 12 with (fail)
   replace H := IT H; rcases H with ⟨c4, H⟩ | ⟨c4, H⟩
   ·have c4b0 := decide_eq_true c4
    clear c4
    first|rw [c4b0]|(simp only [i64_w, i32_w]; rw [c4b0])|skip
    replace H := GD H; obtain ⟨c5, H⟩ := H
    have c5b0 := decide_eq_true c5
    clear c5
    have p6 : 0 ≤ (x7_1 : Int) := of_decide_eq_true AS
    have q6 : x7_1 < (a0.size : Int) := of_decide_eq_true AS
    have hx6 := bt_at a0 x7_1
    replace p6 := eq_true p6
    replace q6 := eq_true q6
    go_upto_if 19 with (fail)
    replace H := IT H; rcases H with ⟨c7, H⟩ | ⟨c7, H⟩
    ·obtain ⟨c7b0, c7b1⟩ := BE c7
     clear c7
     first|rw [c7b0]|(simp only [i64_w, i32_w]; rw [c7b0])|skip
     replace H := GD H; obtain ⟨c8, H⟩ := H
     have c8b0 := eq_true c8
     have c8b1 : decide (0 ≤ x6_1) = true := decide_eq_true c8
     clear c8
     replace H := GD H; obtain ⟨c9, H⟩ := H
     have c9b0 := eq_true c9
     have c9b1 : decide (x6_1 ≤ x7_1) = true := decide_eq_true c9
     clear c9
     replace H := GD H; obtain ⟨c10, H⟩ := H
     have c10b0 := eq_true c10
     have c10b1 : decide (x7_1 ≤ (a0.size : Int)) = true := decide_eq_true c10
     clear c10
     replace H := GD H; obtain ⟨c11, H⟩ := H
     have LMc11 := Aside0.mk c11
     clear c11
     have H' := Aside0.mk H
     clear H
     go_wp2_with (first | ((with_reducible refine gN 25 rfl ?_); refine pL 25 Kd.string 9 [a0.extract (x6_1 : Int).toNat (x7_1 : Int).toNat] [.string (a0.extract (x6_1 : Int).toNat (x7_1 : Int).toNat)] (Reps.one (show Kd.M Kd.string _ _ _ (a0.extract (x6_1 : Int).toNat (x7_1 : Int).toNat) [.string (a0.extract (x6_1 : Int).toNat (x7_1 : Int).toNat)] from rfl) (Reps.none _ _)) HM rfl ?_; clear HM; intro v13 w12 HM; obtain ⟨Xv13, kv13, rfl⟩ := HM.rdR 1 rfl) | ((with_reducible refine gate_builtin (b := .append) (xs := #[.tmp 20, .tmp 25]) rfl ?_); refine pA 0 (.tmp 20) (.tmp 25) 33 9 Kd.string u5 x5_1 [a0.extract (x6_1 : Int).toNat (x7_1 : Int).toNat] Xv13 ([a0.extract (x6_1 : Int).toNat (x7_1 : Int).toNat].length) kv13 HM rfl Try.underlying33 info9 rfl (HM.CR 1 rfl).2.2 (by have h_ := LMc11.out; simp only [List.length_singleton]; omega) ?_; clear HM; intro v105 w14 HM))
     go_roundg k1
     case measure => have := HK1.out; omega
     case rel => exact ⟨((x5_1 ++ [a0.extract (x6_1 : Int).toNat (x7_1 : Int).toNat])), (wrap64 (x7_1 + 1)), (wrap64 (x7_1 + 1)), RS, RS, H', ⟨by have := HK1.out; omega⟩, (MD HM).pick [0]⟩
    ·obtain ⟨c7b0, c7b1⟩ := BF c7
     first|rw [c7b0]|(simp only [i64_w, i32_w]; rw [c7b0])|skip
     have H' := Aside0.mk H
     clear H
     go_wp2
     go_roundg k1
     case measure => have := HK1.out; omega
     case rel => exact ⟨(x5_1), (x6_1), (wrap64 (x7_1 + 1)), RS, RS, H', ⟨by have := HK1.out; omega⟩, (MD HM).pick [0]⟩
   ·have c4b0 := decide_eq_false c4
    clear c4
    first|rw [c4b0]|(simp only [i64_w, i32_w]; rw [c4b0])|skip
    replace H := GD H; obtain ⟨c15, H⟩ := H
    have c15b0 := eq_true c15
    have c15b1 : decide (0 ≤ x6_1) = true := decide_eq_true c15
    clear c15
    replace H := GD H; obtain ⟨c16, H⟩ := H
    have c16b0 := eq_true c16
    have c16b1 : decide (x6_1 ≤ (a0.size : Int)) = true := decide_eq_true c16
    clear c16
    replace H := GD H; obtain ⟨c17, H⟩ := H
    have LMc17 := Aside0.mk c17
    clear c17
    obtain rfl := Option.some.inj H
    go_wp2_with (first | ((with_reducible refine gN 33 rfl ?_); refine pL 33 Kd.string 9 [a0.extract (x6_1 : Int).toNat a0.size] [.string (a0.extract (x6_1 : Int).toNat a0.size)] (Reps.one (show Kd.M Kd.string _ _ _ (a0.extract (x6_1 : Int).toNat a0.size) [.string (a0.extract (x6_1 : Int).toNat a0.size)] from rfl) (Reps.none _ _)) HM rfl ?_; clear HM; intro v19 w18 HM; obtain ⟨Xv19, kv19, rfl⟩ := HM.rdR 1 rfl) | ((with_reducible refine gate_builtin (b := .append) (xs := #[.tmp 29, .tmp 33]) rfl ?_); refine pA 0 (.tmp 29) (.tmp 33) 33 9 Kd.string u5 x5_1 [a0.extract (x6_1 : Int).toNat a0.size] Xv19 ([a0.extract (x6_1 : Int).toNat a0.size].length) kv19 HM rfl Try.underlying33 info9 rfl (HM.CR 1 rfl).2.2 (by have h_ := LMc17.out; simp only [List.length_singleton]; omega) ?_; clear HM; intro v108 w20 HM))
    go_ret
    exact ⟨_, ER, (MD HM).pick [0]⟩
def spec_Cut.f (k : Nat) (a0 : ByteArray) : Option (List ByteArray) := (spec_l01Cut.f k a0 32).bind fun t144 => (some t144)
theorem spec_Cut.mono : ∀ a0 k, LeO (spec_Cut.f k a0) (spec_Cut.f (k + 1) a0) := by
 intro a0 k
 unfold spec_Cut.f
 repeat' first | (with_reducible first | exact spec_l01Cut.mono _ _ _ | exact LeO.refl _ | exact LeO.none _ | refine LeO.ite ?_ ?_ | refine LeO.bind ?_ (fun _ => ?_)) | exact LeO.none _ | refine LeO.ite ?_ ?_ | refine LeO.bind ?_ (fun _ => ?_)
theorem spec_Cut.calls (k : Nat) (a0 : ByteArray) (r : List ByteArray) (w : World)  (h : spec_Cut.f k a0 = some r) :
  Calls Try.prog 22 #[.string a0] w fun e w' => ∃ v0_ : Value, e = .returned (v0_) ∧ Mem w [] w' [rowR Kd.string 9 v0_ r] := by
 have HM := Mem.nil w
 have H := h
 clear h
 unfold spec_Cut.f at H
 go_enter Try.func22, Try.ntmps22
 replace H := BN H; obtain ⟨t144, A2, H⟩ := H
 obtain rfl := Option.some.inj H
 go_wp2_with (first | ((with_reducible refine gC 54 rfl ?_); refine pC (some 4) rfl #[.string a0, .int .u8 32] rfl Try.func54 (spec_l01Cut.calls k a0 32 t144 _ A2.out) ?_; rintro e w3 ⟨v145, rfl, hR⟩; refine ⟨_, rfl, ?_⟩; replace HM := HM.call hR; clear hR))
 go_ret
 exact ⟨_, ER, (MD HM).pick [0]⟩
end Go.Proofs.Ytnlnifpehndacaa.G

namespace Go.Proofs.Ytnlnifpehndacaa.G
open Go.RowKit Go.Proofs.YtnlnifpehndacaaW.PrintWords Go.Proofs.YtnlnifpehndacaaW.PrintLast Go.Proofs.YtnlnifpehndacaaW.PrintMore Go.Proofs.Ytnlnifpehndacaa.Sh
attribute [local go_sem] max2_int min2_int max_two min_two max_three min_three max_four min_four
set_option linter.unusedVariables false
set_option linter.unusedSimpArgs false
def spec_l21Word.f (a0 : Int) : Option (ByteArray) := if a0 = 1 then (some (⟨#[110, 101, 119]⟩ : ByteArray)) else (if a0 = 3 then (some (⟨#[97, 115, 107]⟩ : ByteArray)) else (if a0 = 4 then (some (⟨#[115, 104, 111, 119]⟩ : ByteArray)) else (if a0 = 5 then (some (⟨#[114, 97, 116, 101]⟩ : ByteArray)) else (if a0 = 6 then (some (⟨#[108, 97, 98]⟩ : ByteArray)) else (if a0 = 7 then (some (⟨#[115, 97, 118, 101]⟩ : ByteArray)) else (some (⟨#[]⟩ : ByteArray)))))))
theorem spec_l21Word.z0 {P : Prop} (h : P := by first | rfl | (simp; done) | (simp [*]; done)) : P := h
theorem spec_l21Word.calls (a0 : Int) (r : ByteArray) (w : World) (h : spec_l21Word.f a0 = some r) :
  Calls Try.prog 36 #[.int .i64 a0] w fun e w' => e = .returned (.string r) ∧ Drawn0 w w' := by
 have H : (if a0 = 1 then (some (⟨#[110, 101, 119]⟩ : ByteArray)) else (if a0 = 3 then (some (⟨#[97, 115, 107]⟩ : ByteArray)) else (if a0 = 4 then (some (⟨#[115, 104, 111, 119]⟩ : ByteArray)) else (if a0 = 5 then (some (⟨#[114, 97, 116, 101]⟩ : ByteArray)) else (if a0 = 6 then (some (⟨#[108, 97, 98]⟩ : ByteArray)) else (if a0 = 7 then (some (⟨#[115, 97, 118, 101]⟩ : ByteArray)) else (some (⟨#[]⟩ : ByteArray)))))))) = some r := h
 clear h
 by_cases c2 : a0 = 1
 ·rw [if_pos c2] at H
  have c2b0 : (a0 == 1) = true := beq_iff_eq.mpr c2
  have c2b1 : (a0 != 1) = false := bne_eq_false_iff_eq.mpr c2
  clear c2
  obtain rfl := Option.some.inj H
  go_enter Try.func36, Try.ntmps36
  go_wp2
  go_ret
  exact ⟨spec_l21Word.z0, DR⟩
 ·rw [if_neg c2] at H
  have c2b0 : (a0 == 1) = false := beq_eq_false_iff_ne.mpr c2
  have c2b1 : (a0 != 1) = true := bne_iff_ne.mpr c2
  by_cases c3 : a0 = 3
  ·rw [if_pos c3] at H
   have c3b0 : (a0 == 3) = true := beq_iff_eq.mpr c3
   have c3b1 : (a0 != 3) = false := bne_eq_false_iff_eq.mpr c3
   clear c3
   obtain rfl := Option.some.inj H
   go_enter Try.func36, Try.ntmps36
   go_wp2
   go_ret
   exact ⟨spec_l21Word.z0, DR⟩
  ·rw [if_neg c3] at H
   have c3b0 : (a0 == 3) = false := beq_eq_false_iff_ne.mpr c3
   have c3b1 : (a0 != 3) = true := bne_iff_ne.mpr c3
   by_cases c4 : a0 = 4
   ·rw [if_pos c4] at H
    have c4b0 : (a0 == 4) = true := beq_iff_eq.mpr c4
    have c4b1 : (a0 != 4) = false := bne_eq_false_iff_eq.mpr c4
    clear c4
    obtain rfl := Option.some.inj H
    go_enter Try.func36, Try.ntmps36
    go_wp2
    go_ret
    exact ⟨spec_l21Word.z0, DR⟩
   ·rw [if_neg c4] at H
    have c4b0 : (a0 == 4) = false := beq_eq_false_iff_ne.mpr c4
    have c4b1 : (a0 != 4) = true := bne_iff_ne.mpr c4
    by_cases c5 : a0 = 5
    ·rw [if_pos c5] at H
     have c5b0 : (a0 == 5) = true := beq_iff_eq.mpr c5
     have c5b1 : (a0 != 5) = false := bne_eq_false_iff_eq.mpr c5
     clear c5
     obtain rfl := Option.some.inj H
     go_enter Try.func36, Try.ntmps36
     go_wp2
     go_ret
     exact ⟨spec_l21Word.z0, DR⟩
    ·rw [if_neg c5] at H
     have c5b0 : (a0 == 5) = false := beq_eq_false_iff_ne.mpr c5
     have c5b1 : (a0 != 5) = true := bne_iff_ne.mpr c5
     by_cases c6 : a0 = 6
     ·rw [if_pos c6] at H
      have c6b0 : (a0 == 6) = true := beq_iff_eq.mpr c6
      have c6b1 : (a0 != 6) = false := bne_eq_false_iff_eq.mpr c6
      clear c6
      obtain rfl := Option.some.inj H
      go_enter Try.func36, Try.ntmps36
      go_wp2
      go_ret
      exact ⟨spec_l21Word.z0, DR⟩
     ·rw [if_neg c6] at H
      have c6b0 : (a0 == 6) = false := beq_eq_false_iff_ne.mpr c6
      have c6b1 : (a0 != 6) = true := bne_iff_ne.mpr c6
      by_cases c7 : a0 = 7
      ·rw [if_pos c7] at H
       have c7b0 : (a0 == 7) = true := beq_iff_eq.mpr c7
       have c7b1 : (a0 != 7) = false := bne_eq_false_iff_eq.mpr c7
       clear c7
       obtain rfl := Option.some.inj H
       go_enter Try.func36, Try.ntmps36
       go_wp2
       go_ret
       exact ⟨spec_l21Word.z0, DR⟩
      ·rw [if_neg c7] at H
       have c7b0 : (a0 == 7) = false := beq_eq_false_iff_ne.mpr c7
       have c7b1 : (a0 != 7) = true := bne_iff_ne.mpr c7
       obtain rfl := Option.some.inj H
       go_enter Try.func36, Try.ntmps36
       go_wp2
       go_ret
       exact ⟨spec_l21Word.z0, DR⟩
def spec_l01Num.f (a0 : Int) : Option (Bool) := if a0 ≥ 0 then (some (decide (a0 ≤ 4294967295))) else (some false)
theorem spec_l01Num.calls (a0 : Int) (r : Bool) (w : World) (h : spec_l01Num.f a0 = some r) :
  Calls Try.prog 63 #[.int .i64 a0] w fun e w' => e = .returned (.bool r) ∧ Drawn0 w w' := by
 have H : (if a0 ≥ 0 then (some (decide (a0 ≤ 4294967295))) else (some false)) = some r := h
 clear h
 by_cases c2 : a0 ≥ 0
 ·rw [if_pos c2] at H
  have c2b0 : decide (0 ≤ a0) = true := decide_eq_true c2
  clear c2
  obtain rfl := Option.some.inj H
  go_enter Try.func63, Try.ntmps63
  go_wp2
  go_ret
  exact ⟨by first | rfl | (simp; done) | (simp [*]; done), DR⟩
 ·rw [if_neg c2] at H
  have c2b0 : decide (0 ≤ a0) = false := decide_eq_false c2
  clear c2
  obtain rfl := Option.some.inj H
  go_enter Try.func63, Try.ntmps63
  go_wp2
  go_ret
  exact ⟨by first | rfl | (simp; done) | (simp [*]; done), DR⟩
def spec_NumText.f : Nat → Int → Option (ByteArray)
 | 0, _ => none
 | k + 1, a0 => (spec_l01Num.f a0).bind fun t125 => (if t125 = true then (if a0 < 10 then (some (strOfNums (([(wrap64 (48 + a0)) % 256] : List Int)))) else ((spec_NumText.f k (wrap64 (Int.tdiv a0 10))).bind fun t129 => ((some (([(wrap64 (48 + (Int.tmod a0 10))) % 256] : List Int) : List Int)).bind fun y130 => (if t129.size + (strOfNums y130).size ≤ 9223372036854775807 then (some (t129 ++ (strOfNums y130))) else (none))))) else (some (⟨#[]⟩ : ByteArray)))
theorem spec_NumText.mono_l : ∀ k, (∀ y0, LeO (spec_NumText.f k y0) (spec_NumText.f (k + 1) y0))
 | 0 => fun _ r h => by simp [spec_NumText.f] at h
 | k + 1 => by
  have ih0 := spec_NumText.mono_l k
  ·intro y0
   unfold spec_NumText.f
   repeat' first | (with_reducible first | exact ih0 _ | exact LeO.refl _ | exact LeO.none _ | refine LeO.ite ?_ ?_ | refine LeO.bind ?_ (fun _ => ?_)) | exact LeO.none _ | refine LeO.ite ?_ ?_ | refine LeO.bind ?_ (fun _ => ?_)
theorem spec_NumText.mono : ∀ a0 k, LeO (spec_NumText.f k a0) (spec_NumText.f (k + 1) a0) := by
 intro a0 k
 have ih0 := spec_NumText.mono_l k
 exact ih0 a0
def spec_NumText.T5 : Bool × List (List Nat × List Nat) := (true, [([], []), ([0], [0]), ([1], [1]), ([], []), ([3], [3]), ([4], [4]), ([5], [5]), ([6], [6]), ([7], [7]), ([2, 8], [2, 8]), ([9, 2, 0, 1, 2, 3, 4, 5, 6, 7, 8, 9], [9])])
def spec_NumText.B5 : List Nat := [0, 1, 3, 0, 8, 24, 56, 120, 248, 511, 1023]
theorem spec_NumText.tab5 : rtab .any (opsOf Try.f78 5) = spec_NumText.T5 := by kernel_rfl
theorem spec_NumText.bits5 : waitsOk spec_NumText.T5.2 spec_NumText.B5 = true := by kernel_rfl
theorem spec_NumText.z0 {P : Prop} (h : P := by simp only [putAll, Act.put, List.setIfInBounds_toArray, List.set_cons_zero, List.set_cons_succ]) : P := h
theorem spec_NumText.calls (k : Nat) : ∀ (a0 : Int) (r : ByteArray) (w : World) (h : spec_NumText.f k a0 = some r),
  Calls Try.prog 78 #[.int .i64 a0] w fun e w' => e = .returned (.string r) ∧ Below w.heap.size w w' := by
 induction k using Nat.strongRecOn with
 | _ k ih =>
 intro a0 r w h
 cases k with
 | zero => exact absurd h (by simp [spec_NumText.f])
 | succ k =>
 simp only [spec_NumText.f] at h
 have HB := Aside0.mk (Below.refl w.heap.size w)
 have H : ((spec_l01Num.f a0).bind fun t125 => (if t125 = true then (if a0 < 10 then (some (strOfNums (([(wrap64 (48 + a0)) % 256] : List Int)))) else ((spec_NumText.f k (wrap64 (Int.tdiv a0 10))).bind fun t129 => ((some (([(wrap64 (48 + (Int.tmod a0 10))) % 256] : List Int) : List Int)).bind fun y130 => (if t129.size + (strOfNums y130).size ≤ 9223372036854775807 then (some (t129 ++ (strOfNums y130))) else (none))))) else (some (⟨#[]⟩ : ByteArray)))) = some r := h
 clear h
 replace H := BS H
 obtain ⟨t125, A20, H⟩ := H
 have A2 := Aside0.mk A20
 clear A20
 by_cases c3 : t125 = true
 ·subst c3
  replace H := IP H
  by_cases c4 : a0 < 10
  ·rw [if_pos c4] at H
   have c4b0 : decide (a0 < 10) = true := decide_eq_true c4
   clear c4
   obtain ⟨y126, hy126⟩ : ∃ y_ : List Int, y_ = (([(wrap64 (48 + a0)) % 256] : List Int)) := ⟨_, rfl⟩
   replace H : (some (strOfNums y126)) = some r := by first | (rw [hy126]; with_reducible exact H) | (have H2_ := (Option.bind_some _ _).symm.trans H; rw [hy126]; with_reducible exact H2_) | (have H2_ := (Option.bind_some _ _).symm.trans H; with_reducible exact H2_) | with_reducible exact H | (rw [hy126]; exact H) | exact H
   have Ny126 := Aside0.mk hy126
   clear hy126
   obtain rfl := Option.some.inj H
   go_enter Try.func78, Try.ntmps78
   go_wp2_with (first | ((with_reducible refine gate_callee (f := 63) rfl ?_); refine goesL_ (some 4) rfl rfl Try.func63 (by kernel_rfl) rfl #[.int .i64 a0] rfl AQ ?_; (with_reducible refine (spec_l01Num.calls a0 true _ A2.out).mono ?_); rintro e w' ⟨rfl, ⟨nd, rfl⟩⟩; refine ⟨_, rfl, ?_⟩) | ((with_reducible refine gate_dst (N := 11) rfl ?_); refine Kd.R_lit (Kd.int .u8) _ 5 ?hg (N := 11) ?hd (xs := ([(wrap64 (48 + a0)) % 256] : List Int)) (inner := [.int .u8 ((wrap64 (48 + a0)) % 256)]) (ok := fun _ => True) (okp := fun _ => True) ?hr ?hp (fun _ hk => hk) trivial (Below.refl _ _) (Nat.le_refl _) (by simp) ?_; (case hd => rfl); (case hg => rfl); (case hr => first | (go_simp; done) | (go_simp; rfl)); (case hp => exact (Reps.one (show Kd.M (Kd.int .u8) _ _ _ ((wrap64 (48 + a0)) % 256) [.int .u8 ((wrap64 (48 + a0)) % 256)] from rfl) (Reps.none _ _))); intro v127 w5 ho6 hb hg_ hnew_; clear hg_ hnew_; (first | rw [← Ny126.out] at ho6 | (simp only [Int.reduceToNat] at ho6; rw [← Ny126.out] at ho6)); have n_ : _ ∧ _ := ⟨AsM (Kd.R_lower ho6 (below_size BL)), AsM (below_step BL hb)⟩; clear HB; obtain ⟨HO128, HB⟩ := n_; clear hb ho6; have hcv7 := own_string (P := Try.prog) Try.underlying105 Try.underlying5 Try.underlying9 (Kd.own_of_R HO128.out)))
   go_ret
   exact ⟨ER, BL⟩
  ·rw [if_neg c4] at H
   have c4b0 : decide (a0 < 10) = false := decide_eq_false c4
   clear c4
   replace H := BS H
   obtain ⟨t129, A80, H⟩ := H
   have A8 := Aside0.mk A80
   clear A80
   obtain ⟨y130, hy130⟩ : ∃ y_ : List Int, y_ = (([(wrap64 (48 + (Int.tmod a0 10))) % 256] : List Int)) := ⟨_, rfl⟩
   replace H : (if t129.size + (strOfNums y130).size ≤ 9223372036854775807 then (some (t129 ++ (strOfNums y130))) else (none)) = some r := by first | (rw [hy130]; with_reducible exact H) | (have H2_ := (Option.bind_some _ _).symm.trans H; rw [hy130]; with_reducible exact H2_) | (have H2_ := (Option.bind_some _ _).symm.trans H; with_reducible exact H2_) | with_reducible exact H | (rw [hy130]; exact H) | exact H
   have Ny130 := Aside0.mk hy130
   clear hy130
   by_cases c9 : t129.size + (strOfNums y130).size ≤ 9223372036854775807
   ·rw [if_pos c9] at H
    have c9b0 := eq_true c9
    have c9b1 : decide (t129.size + (strOfNums y130).size ≤ 9223372036854775807) = true := decide_eq_true c9
    try have c9b2 : (9223372036854775807 < t129.size + (strOfNums y130).size) = False := eq_false (Nat.not_lt.2 c9)
    obtain rfl := Option.some.inj H
    go_enter Try.func78, Try.ntmps78
    try go_wp2_with (first | ((with_reducible refine gate_callee (f := 63) rfl ?_); refine goesL_ (some 4) rfl rfl Try.func63 (by kernel_rfl) rfl #[.int .i64 a0] rfl AQ ?_; (with_reducible refine (spec_l01Num.calls a0 true _ A2.out).mono ?_); rintro e w' ⟨rfl, ⟨nd, rfl⟩⟩; refine ⟨_, rfl, ?_⟩))
    rw [drewN_self w]; generalize hq_ : World.drewN w _ = w10; have n0_ : Aside0 (Below w.heap.size w w10) := ⟨by rw [← hq_]; exact BL⟩; clear HB hq_; have HB := n0_; clear n0_
    have n_ := AsM (below_drew1 HB.out)
    clear HB
    have HB := n_
    clear n_
    refine start_ (n := 11) (S := fun w' => True) (ds := []) #[false, false, false, false, false, false, false, false, false, false, false] (by kernel_rfl) rfl rfl trivial (fun hHeld => ?_); refine with_tabW spec_NumText.tab5 spec_NumText.bits5 (fun HT_ HW_ => ?_)
    generalize w10.drew = w11 at HB hHeld ⊢
    refine PU (i := 0) (N := some 13) (tf 1 10) rfl rfl HT_ ?_
    refine PU (i := 1) (N := some 14) (tf 2 9) rfl rfl HT_ ?_
    refine PU (i := 3) (N := some 16) #[true, true, false, true, false, false, false, false, false, false, false] rfl rfl HT_ ?_
    refine PU (i := 4) (N := some 17) #[true, true, false, true, true, false, false, false, false, false, false] rfl rfl HT_ ?_
    refine PU (i := 5) (N := some 18) #[true, true, false, true, true, true, false, false, false, false, false] rfl rfl HT_ ?_
    refine PU (i := 6) (N := some 19) #[true, true, false, true, true, true, true, false, false, false, false] rfl rfl HT_ ?_
    refine join_ (σ := Value) 2 #[true, true, true, true, true, true, true, true, true, false, false] (fun s_ => [(15, .string t129), (20, s_), (21, .string (strOfNums y130))]) (fun s_ w' => (Kd.R (Kd.int .u8) 5 w' w.heap.size (fun _ => True) s_ y130) ∧ (Below w.heap.size w w')) ?_ ?_
    rotate_left
    ·intro hCont
     refine two_ (i := 2) (j := 7) (Ni := some 15) (Nj := some 20) #[true, true, true, true, true, true, true, false, false, false, false] #[true, true, false, true, true, true, true, true, false, false, false] rfl rfl rfl rfl (two_of HT_.out (by kernel_rfl)) (by decide) (by decide) (fun K hK => ?_) (fun K hK => ?_)
     ·skip
      refine goes_ Try.func78 (by kernel_rfl) rfl #[.int .i64 (wrap64 (Int.tdiv a0 10))] (by rfl) rfl rfl AQ ?_
      with_reducible refine (ih k (by omega) (wrap64 (Int.tdiv a0 10)) t129 _ A8.out).mono ?_
      rintro e w12 ⟨rfl, hb⟩
      refine ⟨_, rfl, ?_⟩
      have n_ := AsM (below_step BL hb)
      clear HB
      have HB := n_
      clear n_
      (try clear hb)
      (try clear hb2)
      (try clear hk)
      (try clear hi)
      refine hK.out _ _ trivial (fun hHeld => ?_)
      clear hK K
      refine NM (some 15) ?_
      refine one_ (i := 7) (N := some 20) (tf 8 3) rfl rfl (one_of HT_.out (by kernel_rfl)) (by decide) (fun K hK => ?_)
      refine Kd.R_lit_step (Kd.int .u8) _ 5 ?hg (N := 20) ?hd (xs := ([(wrap64 (48 + (Int.tmod a0 10))) % 256] : List Int)) (inner := [.int .u8 ((wrap64 (48 + (Int.tmod a0 10))) % 256)]) (ok := fun _ => True) (okp := fun _ => True) ?hr ?hp (fun _ hk => hk) trivial (Below.refl _ _) (Nat.le_refl _) (by simp) ?_; (case hd => rfl); (case hg => rfl); (case hr => first | (go_simp; done) | (go_simp; rfl)); (case hp => exact (Reps.one (show Kd.M (Kd.int .u8) _ _ _ ((wrap64 (48 + (Int.tmod a0 10))) % 256) [.int .u8 ((wrap64 (48 + (Int.tmod a0 10))) % 256)] from rfl) (Reps.none _ _)))
      intro v131 w13 ho14 hb hg_ hnew_
      clear hg_ hnew_
      (first | rw [← Ny130.out] at ho14 | (simp only [Int.reduceToNat] at ho14; rw [← Ny130.out] at ho14))
      have n_ : _ ∧ _ := ⟨AsM (Kd.R_lower ho14 (below_size BL)), AsM (below_step BL hb)⟩
      clear HB
      obtain ⟨HO132, HB⟩ := n_
      clear hb ho14
      refine hK.out _ _ trivial (fun hHeld => ?_)
      clear hK K
      refine NM (some 20) ?_
      refine one_ (i := 8) (N := some 21) (tf 9 2) rfl rfl (one_of HT_.out (by kernel_rfl)) (by decide) (fun K hK => ?_)
      have hcv15 := own_string (P := Try.prog) Try.underlying105 Try.underlying5 Try.underlying9 (Kd.own_of_R HO132.out)
      refine value_ (w1 := ?_) (v := ?_) (by rfl) rfl ?_ ?_
      rotate_left 2
      ·go_simp
       constructor
       ·rfl
       ·rfl
      clear hcv15
      refine hK.out _ _ trivial (fun hHeld => ?_)
      clear hK K
      refine NM (some 21) ?_
      exact norm_ (spec_NumText.z0) (hCont (v131) _ ⟨(RD HO132), BL⟩)
     ·skip
      refine Kd.R_lit_step (Kd.int .u8) _ 5 ?hg (N := 20) ?hd (xs := ([(wrap64 (48 + (Int.tmod a0 10))) % 256] : List Int)) (inner := [.int .u8 ((wrap64 (48 + (Int.tmod a0 10))) % 256)]) (ok := fun _ => True) (okp := fun _ => True) ?hr ?hp (fun _ hk => hk) trivial (Below.refl _ _) (Nat.le_refl _) (by simp) ?_; (case hd => rfl); (case hg => rfl); (case hr => first | (go_simp; done) | (go_simp; rfl)); (case hp => exact (Reps.one (show Kd.M (Kd.int .u8) _ _ _ ((wrap64 (48 + (Int.tmod a0 10))) % 256) [.int .u8 ((wrap64 (48 + (Int.tmod a0 10))) % 256)] from rfl) (Reps.none _ _)))
      intro v131 w12 ho13 hb hg_ hnew_
      clear hg_ hnew_
      (first | rw [← Ny130.out] at ho13 | (simp only [Int.reduceToNat] at ho13; rw [← Ny130.out] at ho13))
      have n_ : _ ∧ _ := ⟨AsM (Kd.R_lower ho13 (below_size BL)), AsM (below_step BL hb)⟩
      clear HB
      obtain ⟨HO132, HB⟩ := n_
      clear hb ho13
      refine hK.out _ _ trivial (fun hHeld => ?_)
      clear hK K
      refine NM (some 20) ?_
      refine two_ (i := 2) (j := 8) (Ni := some 15) (Nj := some 21) #[true, true, true, true, true, true, true, true, false, false, false] #[true, true, false, true, true, true, true, true, true, false, false] rfl rfl rfl rfl (two_of HT_.out (by kernel_rfl)) (by decide) (by decide) (fun K hK => ?_) (fun K hK => ?_)
      ·skip
       refine goes_ Try.func78 (by kernel_rfl) rfl #[.int .i64 (wrap64 (Int.tdiv a0 10))] (by rfl) rfl rfl AQ ?_
       with_reducible refine (ih k (by omega) (wrap64 (Int.tdiv a0 10)) t129 _ A8.out).mono ?_
       rintro e w14 ⟨rfl, hb⟩
       refine ⟨_, rfl, ?_⟩
       have n_ : _ ∧ _ := ⟨AsM (Kd.R_below (RD HO132) hb), AsM (below_step BL hb)⟩
       clear HO132 HB
       obtain ⟨HO132, HB⟩ := n_
       (try clear hb)
       (try clear hb2)
       (try clear hk)
       (try clear hi)
       refine hK.out _ _ trivial (fun hHeld => ?_)
       clear hK K
       refine NM (some 15) ?_
       refine one_ (i := 8) (N := some 21) (tf 9 2) rfl rfl (one_of HT_.out (by kernel_rfl)) (by decide) (fun K hK => ?_)
       have hcv15 := own_string (P := Try.prog) Try.underlying105 Try.underlying5 Try.underlying9 (Kd.own_of_R HO132.out)
       refine value_ (w1 := ?_) (v := ?_) (by rfl) rfl ?_ ?_
       rotate_left 2
       ·go_simp
        constructor
        ·rfl
        ·rfl
       clear hcv15
       refine hK.out _ _ trivial (fun hHeld => ?_)
       clear hK K
       refine NM (some 21) ?_
       exact norm_ (spec_NumText.z0) (hCont (v131) _ ⟨(RD HO132), BL⟩)
      ·skip
       have hcv14 := own_string (P := Try.prog) Try.underlying105 Try.underlying5 Try.underlying9 (Kd.own_of_R HO132.out)
       refine value_ (w1 := ?_) (v := ?_) (by rfl) rfl ?_ ?_
       rotate_left 2
       ·go_simp
        constructor
        ·rfl
        ·rfl
       clear hcv14
       refine hK.out _ _ trivial (fun hHeld => ?_)
       clear hK K
       refine NM (some 21) ?_
       refine one_ (i := 2) (N := some 15) (tf 9 2) rfl rfl (one_of HT_.out (by kernel_rfl)) (by decide) (fun K hK => ?_)
       refine goes_ Try.func78 (by kernel_rfl) rfl #[.int .i64 (wrap64 (Int.tdiv a0 10))] (by rfl) rfl rfl AQ ?_
       with_reducible refine (ih k (by omega) (wrap64 (Int.tdiv a0 10)) t129 _ A8.out).mono ?_
       rintro e w15 ⟨rfl, hb⟩
       refine ⟨_, rfl, ?_⟩
       have n_ : _ ∧ _ := ⟨AsM (Kd.R_below (RD HO132) hb), AsM (below_step BL hb)⟩
       clear HO132 HB
       obtain ⟨HO132, HB⟩ := n_
       (try clear hb)
       (try clear hb2)
       (try clear hk)
       (try clear hi)
       refine hK.out _ _ trivial (fun hHeld => ?_)
       clear hK K
       refine NM (some 15) ?_
       exact norm_ (spec_NumText.z0) (hCont (v131) _ ⟨(RD HO132), BL⟩)
    rintro v131 w16 ⟨h0_, h1_⟩
    have n0_ : Aside0 (Kd.R (Kd.int .u8) 5 w16 w.heap.size (fun _ => True) v131 y130) := ⟨h0_⟩
    have n1_ : Aside0 (Below w.heap.size w w16) := ⟨h1_⟩
    clear HB
    clear h0_ h1_
    have HO132 := n0_
    have HB := n1_
    clear n0_ n1_
    have hHeld := trivial
    refine norm_ (a' := ?_) ?_ ?_
    rotate_left
    ·simp only [putAll, Act.put, List.setIfInBounds_toArray, List.set_cons_zero, List.set_cons_succ]
     rfl
    refine PU (i := 9) (N := some 22) (tf 10 1) rfl rfl HT_ ?_
    refine PU (i := 10) (N := some 2) (tf 11 0) rfl rfl HT_ ?_
    refine done_ (done_of HT_.out (by kernel_rfl)) ?_
    try go_wp2
    go_ret
    exact ⟨ER, BL⟩
   ·rw [if_neg c9] at H
    exact absurd H (by simp)
 ·replace c3 := Bool.eq_false_iff.mpr c3
  subst c3
  replace H := IN H
  obtain rfl := Option.some.inj H
  go_enter Try.func78, Try.ntmps78
  go_wp2_with (first | ((with_reducible refine gate_callee (f := 63) rfl ?_); refine goesL_ (some 4) rfl rfl Try.func63 (by kernel_rfl) rfl #[.int .i64 a0] rfl AQ ?_; (with_reducible refine (spec_l01Num.calls a0 false _ A2.out).mono ?_); rintro e w' ⟨rfl, ⟨nd, rfl⟩⟩; refine ⟨_, rfl, ?_⟩))
  go_ret
  exact ⟨ER, BL⟩
end Go.Proofs.Ytnlnifpehndacaa.G

namespace Go.Proofs.Ytnlnifpehndacaa.G
open Go.RowKit Go.Proofs.YtnlnifpehndacaaW.PrintWords Go.Proofs.YtnlnifpehndacaaW.PrintLast Go.Proofs.YtnlnifpehndacaaW.PrintMore Go.Proofs.Ytnlnifpehndacaa.Sh
attribute [local go_sem] max2_int min2_int max_two min_two max_three min_three max_four min_four
set_option linter.unusedVariables false
set_option linter.unusedSimpArgs false
open Go.Proofs.Ytnlnifpehndacaa.Mm
mutual
def spec_TextNum.j0 : Nat → ByteArray → Bool → Option (Int × Bool)
 | 0, _, _ => none
 | k + 1, x0, x13 => if x13 = true then (some (0, false)) else (spec_TextNum.l0 k x0 0 0)
def spec_TextNum.l0 : Nat → ByteArray → Int → Int → Option (Int × Bool)
 | 0, _, _, _ => none
 | k + 1, x0, x4, x5 => if x5 < (x0.size : Int) then (if 0 ≤ x5 then (if (bt x0 x5) < 48 then (some (0, false)) else (if (bt x0 x5) > 57 then (some (0, false)) else (spec_TextNum.l0 k x0 (wrap64 ((wrap64 (x4 * 10)) + (((bt x0 x5) - 48) % 256))) (wrap64 (x5 + 1))))) else (none)) else ((spec_NumText.f k x4).bind fun t133 => (if t133.toList = x0.toList then (some (x4, true)) else (some (0, false))))
end
def spec_TextNum.f (k : Nat) (a0 : ByteArray) : Option (Int × Bool) := if (a0.size : Int) < 1 then (spec_TextNum.j0 k a0 true) else (spec_TextNum.j0 k a0 (decide ((a0.size : Int) > 10)))
theorem spec_TextNum.mono_l : ∀ k, (∀ y0 y1, LeO (spec_TextNum.j0 k y0 y1) (spec_TextNum.j0 (k + 1) y0 y1)) ∧ (∀ y0 y1 y2, LeO (spec_TextNum.l0 k y0 y1 y2) (spec_TextNum.l0 (k + 1) y0 y1 y2))
 | 0 => ⟨fun _ _ r h => by simp [spec_TextNum.j0] at h, fun _ _ _ r h => by simp [spec_TextNum.l0] at h⟩
 | k + 1 => by
  obtain ⟨ih0, ih1⟩ := spec_TextNum.mono_l k
  refine ⟨?_, ?_⟩
  ·intro y0 y1
   unfold spec_TextNum.j0
   repeat' first | (with_reducible first | exact ih0 _ _ | exact ih1 _ _ _ | exact spec_NumText.mono _ _ | exact LeO.refl _ | exact LeO.none _ | refine LeO.ite ?_ ?_ | refine LeO.bind ?_ (fun _ => ?_)) | exact LeO.none _ | refine LeO.ite ?_ ?_ | refine LeO.bind ?_ (fun _ => ?_)
  ·intro y0 y1 y2
   unfold spec_TextNum.l0
   repeat' first | (with_reducible first | exact ih0 _ _ | exact ih1 _ _ _ | exact spec_NumText.mono _ _ | exact LeO.refl _ | exact LeO.none _ | refine LeO.ite ?_ ?_ | refine LeO.bind ?_ (fun _ => ?_)) | exact LeO.none _ | refine LeO.ite ?_ ?_ | refine LeO.bind ?_ (fun _ => ?_)
theorem spec_TextNum.mono : ∀ a0 k, LeO (spec_TextNum.f k a0) (spec_TextNum.f (k + 1) a0) := by
 intro a0 k
 obtain ⟨ih0, ih1⟩ := spec_TextNum.mono_l k
 unfold spec_TextNum.f
 repeat' first | (with_reducible first | exact ih0 _ _ | exact ih1 _ _ _ | exact spec_NumText.mono _ _ | exact LeO.refl _ | exact LeO.none _ | refine LeO.ite ?_ ?_ | refine LeO.bind ?_ (fun _ => ?_)) | exact LeO.none _ | refine LeO.ite ?_ ?_ | refine LeO.bind ?_ (fun _ => ?_)
theorem spec_TextNum.calls (k : Nat) (a0 : ByteArray) (r1 : Int) (r2 : Bool) (w : World)  (h : spec_TextNum.f k a0 = some (r1, r2)) :
  Calls Try.prog 55 #[.string a0] w fun e w' => e = .returned (.tuple #[.int .i64 r1, .bool r2]) ∧ Mem w [] w' [] := by
 have HM := Mem.nil w
 have H := h
 clear h
 unfold spec_TextNum.f at H
 go_enter Try.func55, Try.ntmps55
 have HC2 := Aside0.mk H
 clear H
 go_upto_region 1 with (fail)
 go_cut [13] (fun v13 wc => ∃ (kq : Nat) (x13_1 : Bool), v13 = .bool x13_1 ∧ Aside0 (spec_TextNum.j0 kq a0 x13_1 = some (r1, r2)) ∧ Aside0 (kq ≤ k) ∧ Mem w [] wc [])
 case first =>
  have H := HC2.out
  clear HC2
  replace H := IT H; rcases H with ⟨c3, H⟩ | ⟨c3, H⟩
  ·replace c3 : (a0.size : Int) < 1 := c3
   have c3b0 := decide_eq_true c3
   have c3b1 : decide (a0.size < 1) = true := decide_eq_true (by omega)
   clear c3
   have H' := Aside0.mk H
   clear H
   go_wp2
   go_meet
   case rel => exact ⟨_, (true), RS, H', ⟨by first | omega | exact Nat.le_refl _⟩, (MD HM).pick []⟩
  ·replace c3 : ¬ ((a0.size : Int) < 1) := c3
   have c3b0 := decide_eq_false c3
   have c3b1 : decide (a0.size < 1) = false := decide_eq_false (by omega)
   clear c3
   have H' := Aside0.mk H
   clear H
   go_wp2
   go_meet
   case rel => exact ⟨_, (decide ((a0.size : Int) > 10)), RS, H', ⟨by first | omega | exact Nat.le_refl _⟩, (MD HM).pick []⟩
 case rest =>
  clear HC2 HM
  obtain ⟨kq, x13_1, rfl, HA, HJ1, HM⟩ := hcut
  cases kq with
  | zero => exact absurd HA.out (by simp [spec_TextNum.j0])
  | succ kj1 =>
   have H := HA.out
   clear HA
   simp only [spec_TextNum.j0] at H
   go_upto_if 13 with (fail)
   replace H := IB H
   rcases H with ⟨c4, H⟩ | ⟨c4, H⟩
   ·subst c4
    simp only [Option.some.injEq, Prod.mk.injEq] at H
    obtain ⟨rfl, rfl⟩ := H
    go_wp2
    go_ret2
    exact ⟨ER, (MD HM).pick []⟩
   ·subst c4
    have H' := Aside0.mk H
    clear H
    go_wp2
    go_loopg [4, 5] kj1 (fun kq v4 v5 w' => ∃ (x4_2 : Int) (x5_2 : Int), v4 = .int .i64 x4_2 ∧ v5 = .int .i64 x5_2 ∧ Aside0 (spec_TextNum.l0 kq a0 x4_2 x5_2 = some (r1, r2)) ∧ Aside0 (kq ≤ kj1) ∧ Mem w [] w' [])
    case atStart => exact ⟨(0), (0), RS, RS, H', ⟨Nat.le_refl _⟩, (MD HM).pick []⟩
    case round =>
     clear H' HM
     obtain ⟨x4_2, x5_2, rfl, rfl, HA, HK2, HM⟩ := hrel
     cases gk with
     | zero => exact absurd HA.out (by simp [spec_TextNum.l0])
     | succ k2 =>
      have H := HA.out
      clear HA
      simp only [spec_TextNum.l0] at H
      go_upto_if 17 with (fail)
      replace H := IT H; rcases H with ⟨c5, H⟩ | ⟨c5, H⟩
      ·have c5b0 := decide_eq_true c5
       clear c5
       first|rw [c5b0]|(simp only [i64_w, i32_w]; rw [c5b0])|skip
       replace H := GD H; obtain ⟨c6, H⟩ := H
       have c6b0 := decide_eq_true c6
       clear c6
       replace H := IT H; rcases H with ⟨c8, H⟩ | ⟨c8, H⟩
       ·have c8b0 := decide_eq_true c8
        clear c8
        simp only [Option.some.injEq, Prod.mk.injEq] at H
        obtain ⟨rfl, rfl⟩ := H
        have p7 : 0 ≤ (x5_2 : Int) := of_decide_eq_true AS
        have q7 : x5_2 < (a0.size : Int) := of_decide_eq_true AS
        have hx7 := bt_at a0 x5_2
        replace p7 := eq_true p7
        replace q7 := eq_true q7
        go_wp2
        go_ret2
        exact ⟨ER, (MD HM).pick []⟩
       ·have c8b0 := decide_eq_false c8
        clear c8
        have p7 : 0 ≤ (x5_2 : Int) := of_decide_eq_true AS
        have q7 : x5_2 < (a0.size : Int) := of_decide_eq_true AS
        have hx7 := bt_at a0 x5_2
        replace p7 := eq_true p7
        replace q7 := eq_true q7
        have p9 : 0 ≤ (x5_2 : Int) := of_decide_eq_true AS
        have q9 : x5_2 < (a0.size : Int) := of_decide_eq_true AS
        have hx9 := bt_at a0 x5_2
        replace p9 := eq_true p9
        replace q9 := eq_true q9
        go_upto_if 29 with (fail)
        replace H := IT H; rcases H with ⟨c10, H⟩ | ⟨c10, H⟩
        ·have c10b0 : decide (57 < (bt a0 x5_2)) = true := decide_eq_true c10
         clear c10
         first|rw [c10b0]|(simp only [i64_w, i32_w]; rw [c10b0])|skip
         simp only [Option.some.injEq, Prod.mk.injEq] at H
         obtain ⟨rfl, rfl⟩ := H
         go_wp2
         go_ret2
         exact ⟨ER, (MD HM).pick []⟩
        ·have c10b0 : decide (57 < (bt a0 x5_2)) = false := decide_eq_false c10
         clear c10
         first|rw [c10b0]|(simp only [i64_w, i32_w]; rw [c10b0])|skip
         have H' := Aside0.mk H
         clear H
         have p11 : 0 ≤ (x5_2 : Int) := of_decide_eq_true AS
         have q11 : x5_2 < (a0.size : Int) := of_decide_eq_true AS
         have hx11 := bt_at a0 x5_2
         replace p11 := eq_true p11
         replace q11 := eq_true q11
         go_wp2
         go_roundg k2
         case measure => have := HJ1.out; have := HK2.out; omega
         case rel => exact ⟨(wrap64 ((wrap64 (x4_2 * 10)) + (((bt a0 x5_2) - 48) % 256))), (wrap64 (x5_2 + 1)), RS, RS, H', ⟨by have := HJ1.out; have := HK2.out; omega⟩, (MD HM).pick []⟩
      ·have c5b0 := decide_eq_false c5
       clear c5
       first|rw [c5b0]|(simp only [i64_w, i32_w]; rw [c5b0])|skip
       replace H := BN H; obtain ⟨t133, A12, H⟩ := H
       go_upto_if 41 with (first | ((with_reducible refine gC 78 rfl ?_); refine pC (some 39) rfl #[.int .i64 x4_2] rfl Try.func78 (spec_NumText.calls k2 x4_2 t133 _ A12.out) ?_; rintro e w13 ⟨rfl, hb⟩; refine ⟨_, rfl, ?_⟩; replace HM := HM.below hb; clear hb))
       replace H := IT H; rcases H with ⟨c14, H⟩ | ⟨c14, H⟩
       ·obtain ⟨c14b0, c14b1⟩ := BE c14
        clear c14
        first|rw [c14b0]|(simp only [i64_w, i32_w]; rw [c14b0])|skip
        simp only [Option.some.injEq, Prod.mk.injEq] at H
        obtain ⟨rfl, rfl⟩ := H
        go_wp2
        go_ret2
        exact ⟨ER, (MD HM).pick []⟩
       ·obtain ⟨c14b0, c14b1⟩ := BF c14
        first|rw [c14b0]|(simp only [i64_w, i32_w]; rw [c14b0])|skip
        simp only [Option.some.injEq, Prod.mk.injEq] at H
        obtain ⟨rfl, rfl⟩ := H
        go_wp2
        go_ret2
        exact ⟨ER, (MD HM).pick []⟩
def spec_l21Num.f (k : Nat) (l0 : List ByteArray) (a1 : Int) : Option (Int) := if a1 ≥ (l0.length : Int) then (some 0) else (if 0 ≤ a1 then (if a1 < (l0.length : Int) then ((spec_TextNum.f k (rdOf ByteArray.empty l0 a1)).bind fun bt523 => (some bt523.1)) else (none)) else (none))
theorem spec_l21Num.mono : ∀ a0 a1 k, LeO (spec_l21Num.f k a0 a1) (spec_l21Num.f (k + 1) a0 a1) := by
 intro a0 a1 k
 unfold spec_l21Num.f
 repeat' first | (with_reducible first | exact spec_TextNum.mono _ _ | exact LeO.refl _ | exact LeO.none _ | refine LeO.ite ?_ ?_ | refine LeO.bind ?_ (fun _ => ?_)) | exact LeO.none _ | refine LeO.ite ?_ ?_ | refine LeO.bind ?_ (fun _ => ?_)
theorem spec_l21Num.calls (k : Nat) (A0 : Option Addr) (c0 : Nat) (l0 : List ByteArray) (a1 : Int) (r : Int) (w : World) (hr0 : Kd.C Kd.string w A0 l0.length l0) (hc0 : l0.length ≤ c0) (h : spec_l21Num.f k l0 a1 = some r) :
  Calls Try.prog 37 #[.slice A0 l0.length c0, .int .i64 a1] w fun e w' => e = .returned (.int .i64 r) ∧ Mem w [] w' [] := by
 have HR0 := Aside0.mk hr0
 have HC0 := Aside0.mk hc0
 clear hr0 hc0
 have HM := Mem.nil w
 have H := h
 clear h
 unfold spec_l21Num.f at H
 go_enter Try.func37, Try.ntmps37
 go_upto_if 10 with (fail)
 replace H := IT H; rcases H with ⟨c3, H⟩ | ⟨c3, H⟩
 ·have c3b0 : decide ((l0.length : Int) ≤ a1) = true := decide_eq_true c3
  clear c3
  first|rw [c3b0]|(simp only [i64_w, i32_w]; rw [c3b0])|skip
  obtain rfl := Option.some.inj H
  go_wp2
  go_ret
  exact ⟨ER, (MD HM).pick []⟩
 ·have c3b0 : decide ((l0.length : Int) ≤ a1) = false := decide_eq_false c3
  clear c3
  first|rw [c3b0]|(simp only [i64_w, i32_w]; rw [c3b0])|skip
  replace H := GD H; obtain ⟨c4, H⟩ := H
  have c4b0 := decide_eq_true c4
  clear c4
  replace H := GD H; obtain ⟨c5, H⟩ := H
  have c5b0 := decide_eq_true c5
  clear c5
  replace H := BN H; obtain ⟨⟨t523, t524⟩, A6, H⟩ := H
  obtain rfl := Option.some.inj H
  have p522 : 0 ≤ (a1 : Int) := of_decide_eq_true AS
  have q522 : (a1 : Int) < (l0.length : Int) := of_decide_eq_true AS
  obtain ⟨ad522, e522, hx522_0⟩ := Kd.at_string (HM.came HR0.out) a1 p522 q522
  cases e522
  replace p522 := eq_true p522
  replace q522 := eq_true q522
  go_wp2_with (first | ((with_reducible refine gC 55 rfl ?_); refine pC (some 16) rfl #[.string (rdOf ByteArray.empty l0 a1)] rfl Try.func55 (spec_TextNum.calls k (rdOf ByteArray.empty l0 a1) t523 t524 _ A6.out) ?_; rintro e w7 ⟨rfl, hR⟩; refine ⟨_, rfl, ?_⟩; replace HM := HM.call hR; clear hR))
  go_ret
  exact ⟨ER, (MD HM).pick []⟩
end Go.Proofs.Ytnlnifpehndacaa.G

namespace Go.Proofs.Ytnlnifpehndacaa.G
open Go.RowKit Go.Proofs.YtnlnifpehndacaaW.PrintWords Go.Proofs.YtnlnifpehndacaaW.PrintLast Go.Proofs.YtnlnifpehndacaaW.PrintMore Go.Proofs.Ytnlnifpehndacaa.Sh
attribute [local go_sem] max2_int min2_int max_two min_two max_three min_three max_four min_four
set_option linter.unusedVariables false
set_option linter.unusedSimpArgs false
def spec_l01In.f (a0 : Int) (a1 : Int) (a2 : Int) : Option (Bool) := if a0 ≥ a1 then (some (decide (a0 ≤ a2))) else (some false)
theorem spec_l01In.calls (a0 : Int) (a1 : Int) (a2 : Int) (r : Bool) (w : World) (h : spec_l01In.f a0 a1 a2 = some r) :
  Calls Try.prog 59 #[.int .i64 a0, .int .i64 a1, .int .i64 a2] w fun e w' => e = .returned (.bool r) ∧ Drawn0 w w' := by
 have H : (if a0 ≥ a1 then (some (decide (a0 ≤ a2))) else (some false)) = some r := h
 clear h
 by_cases c4 : a0 ≥ a1
 ·rw [if_pos c4] at H
  have c4b0 : decide (a1 ≤ a0) = true := decide_eq_true c4
  clear c4
  obtain rfl := Option.some.inj H
  go_enter Try.func59, Try.ntmps59
  go_wp2
  go_ret
  exact ⟨by first | rfl | (simp; done) | (simp [*]; done), DR⟩
 ·rw [if_neg c4] at H
  have c4b0 : decide (a1 ≤ a0) = false := decide_eq_false c4
  clear c4
  obtain rfl := Option.some.inj H
  go_enter Try.func59, Try.ntmps59
  go_wp2
  go_ret
  exact ⟨by first | rfl | (simp; done) | (simp [*]; done), DR⟩
def spec_l10Clean.l0 : Nat → ByteArray → Int → Option (Bool)
 | 0, _, _ => none
 | k + 1, x0, x3 => if x3 < (x0.size : Int) then (if 0 ≤ x3 then (if (bt x0 x3) = 32 then (some false) else (if (bt x0 x3) = 10 then (some false) else (spec_l10Clean.l0 k x0 (wrap64 (x3 + 1))))) else (none)) else (some true)
def spec_l10Clean.f (k : Nat) (a0 : ByteArray) : Option (Bool) := spec_l10Clean.l0 k a0 0
theorem spec_l10Clean.mono_l : ∀ k, (∀ y0 y1, LeO (spec_l10Clean.l0 k y0 y1) (spec_l10Clean.l0 (k + 1) y0 y1))
 | 0 => fun _ _ r h => by simp [spec_l10Clean.l0] at h
 | k + 1 => by
  have ih0 := spec_l10Clean.mono_l k
  ·intro y0 y1
   unfold spec_l10Clean.l0
   repeat' first | (with_reducible first | exact ih0 _ _ | exact LeO.refl _ | exact LeO.none _ | refine LeO.ite ?_ ?_ | refine LeO.bind ?_ (fun _ => ?_)) | exact LeO.none _ | refine LeO.ite ?_ ?_ | refine LeO.bind ?_ (fun _ => ?_)
theorem spec_l10Clean.mono : ∀ a0 k, LeO (spec_l10Clean.f k a0) (spec_l10Clean.f (k + 1) a0) := by
 intro a0 k
 have ih0 := spec_l10Clean.mono_l k
 unfold spec_l10Clean.f
 repeat' first | (with_reducible first | exact ih0 _ _ | exact LeO.refl _ | exact LeO.none _ | refine LeO.ite ?_ ?_ | refine LeO.bind ?_ (fun _ => ?_)) | exact LeO.none _ | refine LeO.ite ?_ ?_ | refine LeO.bind ?_ (fun _ => ?_)
theorem spec_l10Clean.calls (k : Nat) (a0 : ByteArray) (r : Bool) (w : World) (h : spec_l10Clean.f k a0 = some r) :
  Calls Try.prog 89 #[.string a0] w fun e w' => e = .returned (.bool r) ∧ Drawn0 w w' := by
 have H : (spec_l10Clean.l0 k a0 0) = some r := h
 clear h
 have H' := Aside0.mk H
 clear H
 go_enter Try.func89, Try.ntmps89
 go_wp2
 go_loopg [3] k (fun kq v3 w' => ∃ (x3_1 : Int), v3 = .int .i64 x3_1 ∧ Aside0 (spec_l10Clean.l0 kq a0 x3_1 = some r) ∧ Aside0 (kq ≤ k) ∧ Drawn0 w w')
 case atStart => exact ⟨(0), RS, H', ⟨Nat.le_refl _⟩, DR⟩
 case round =>
  clear H'
  obtain ⟨x3_1, rfl, HA, HK1, ⟨m1, rfl⟩⟩ := hrel
  cases gk with
  | zero => exact absurd HA.out (by simp [spec_l10Clean.l0])
  | succ k1 =>
   have H := HA.out
   clear HA
   simp only [spec_l10Clean.l0] at H
   by_cases c2 : x3_1 < (a0.size : Int)
   ·rw [if_pos c2] at H
    have c2b0 : decide (x3_1 < (a0.size : Int)) = true := decide_eq_true c2
    clear c2
    by_cases c3 : 0 ≤ x3_1
    ·rw [if_pos c3] at H
     have c3b0 : decide (0 ≤ x3_1) = true := decide_eq_true c3
     clear c3
     by_cases c5 : (bt a0 x3_1) = 32
     ·rw [if_pos c5] at H
      have c5b0 : ((bt a0 x3_1) == 32) = true := beq_iff_eq.mpr c5
      have c5b1 : ((bt a0 x3_1) != 32) = false := bne_eq_false_iff_eq.mpr c5
      clear c5
      obtain rfl := Option.some.inj H
      have p4 : 0 ≤ (x3_1 : Int) := of_decide_eq_true AS
      have q4 : x3_1 < (a0.size : Int) := of_decide_eq_true AS
      have hx4 := bt_at a0 x3_1
      replace p4 := eq_true p4
      replace q4 := eq_true q4
      go_wp2
      go_ret
      exact ⟨by first | rfl | (simp; done) | (simp [*]; done), DR⟩
     ·rw [if_neg c5] at H
      have c5b0 : ((bt a0 x3_1) == 32) = false := beq_eq_false_iff_ne.mpr c5
      have c5b1 : ((bt a0 x3_1) != 32) = true := bne_iff_ne.mpr c5
      by_cases c7 : (bt a0 x3_1) = 10
      ·rw [if_pos c7] at H
       have c7b0 : ((bt a0 x3_1) == 10) = true := beq_iff_eq.mpr c7
       have c7b1 : ((bt a0 x3_1) != 10) = false := bne_eq_false_iff_eq.mpr c7
       clear c7
       obtain rfl := Option.some.inj H
       have p4 : 0 ≤ (x3_1 : Int) := of_decide_eq_true AS
       have q4 : x3_1 < (a0.size : Int) := of_decide_eq_true AS
       have hx4 := bt_at a0 x3_1
       replace p4 := eq_true p4
       replace q4 := eq_true q4
       have p6 : 0 ≤ (x3_1 : Int) := of_decide_eq_true AS
       have q6 : x3_1 < (a0.size : Int) := of_decide_eq_true AS
       have hx6 := bt_at a0 x3_1
       replace p6 := eq_true p6
       replace q6 := eq_true q6
       go_wp2
       go_ret
       exact ⟨by first | rfl | (simp; done) | (simp [*]; done), DR⟩
      ·rw [if_neg c7] at H
       have c7b0 : ((bt a0 x3_1) == 10) = false := beq_eq_false_iff_ne.mpr c7
       have c7b1 : ((bt a0 x3_1) != 10) = true := bne_iff_ne.mpr c7
       have H' := Aside0.mk H
       clear H
       have p4 : 0 ≤ (x3_1 : Int) := of_decide_eq_true AS
       have q4 : x3_1 < (a0.size : Int) := of_decide_eq_true AS
       have hx4 := bt_at a0 x3_1
       replace p4 := eq_true p4
       replace q4 := eq_true q4
       have p6 : 0 ≤ (x3_1 : Int) := of_decide_eq_true AS
       have q6 : x3_1 < (a0.size : Int) := of_decide_eq_true AS
       have hx6 := bt_at a0 x3_1
       replace p6 := eq_true p6
       replace q6 := eq_true q6
       go_wp2
       go_roundg k1
       case measure => have := HK1.out; omega
       case rel => exact ⟨(wrap64 (x3_1 + 1)), RS, H', ⟨by have := HK1.out; omega⟩, DR⟩
    ·rw [if_neg c3] at H
     exact absurd H (by simp)
   ·rw [if_neg c2] at H
    have c2b0 : decide (x3_1 < (a0.size : Int)) = false := decide_eq_false c2
    clear c2
    obtain rfl := Option.some.inj H
    go_wp2
    go_ret
    exact ⟨by first | rfl | (simp; done) | (simp [*]; done), DR⟩
end Go.Proofs.Ytnlnifpehndacaa.G

namespace Go.Proofs.Ytnlnifpehndacaa.G
open Go.RowKit Go.Proofs.YtnlnifpehndacaaW.PrintWords Go.Proofs.YtnlnifpehndacaaW.PrintLast Go.Proofs.YtnlnifpehndacaaW.PrintMore Go.Proofs.Ytnlnifpehndacaa.Sh
attribute [local go_sem] max2_int min2_int max_two min_two max_three min_three max_four min_four
set_option linter.unusedVariables false
set_option linter.unusedSimpArgs false
open Go.Proofs.Ytnlnifpehndacaa.Mm
def spec_ItemOk.f (k : Nat) (a0_0 : ByteArray) (a0_1 : ByteArray) (a0_2 : Int) : Option (Bool) := if (a0_0.size : Int) ≥ 1 then (if (a0_0.size : Int) ≤ 20 then ((spec_l10Clean.f k a0_0).bind fun t148 => (if t148 = true then (if (a0_1.size : Int) ≤ 40 then ((spec_l10Clean.f k a0_1).bind fun t149 => (if t149 = true then ((spec_l01In.f a0_2 0 3).bind fun t150 => (some t150)) else (some false))) else (some false)) else (some false))) else (some false)) else (some false)
theorem spec_ItemOk.mono : ∀ a0 a1 a2 k, LeO (spec_ItemOk.f k a0 a1 a2) (spec_ItemOk.f (k + 1) a0 a1 a2) := by
 intro a0 a1 a2 k
 unfold spec_ItemOk.f
 repeat' first | (with_reducible first | exact spec_l10Clean.mono _ _ | exact LeO.refl _ | exact LeO.none _ | refine LeO.ite ?_ ?_ | refine LeO.bind ?_ (fun _ => ?_)) | exact LeO.none _ | refine LeO.ite ?_ ?_ | refine LeO.bind ?_ (fun _ => ?_)
theorem spec_ItemOk.calls (k : Nat) (a0_0 : ByteArray) (a0_1 : ByteArray) (a0_2 : Int) (r : Bool) (w : World)  (h : spec_ItemOk.f k a0_0 a0_1 a0_2 = some r) :
  Calls Try.prog 61 #[.agg #[.string a0_0, .string a0_1, .int .i64 a0_2]] w fun e w' => e = .returned (.bool r) ∧ Mem w [] w' [] := by
 have hu76 := Try.underlying76
 have HM := Mem.nil w
 have H := h
 clear h
 unfold spec_ItemOk.f at H
 go_enter Try.func61, Try.ntmps61
 replace H := IT H; rcases H with ⟨c4, H⟩ | ⟨c4, H⟩
 ·replace c4 : (a0_0.size : Int) ≥ 1 := c4
  have c4b0 : decide (1 ≤ (a0_0.size : Int)) = true := decide_eq_true c4
  have c4b1 : decide (1 ≤ a0_0.size) = true := decide_eq_true (by omega)
  clear c4
  replace H := IT H; rcases H with ⟨c5, H⟩ | ⟨c5, H⟩
  ·replace c5 : (a0_0.size : Int) ≤ 20 := c5
   have c5b0 := decide_eq_true c5
   have c5b1 : decide (a0_0.size ≤ 20) = true := decide_eq_true (by omega)
   clear c5
   replace H := BN H; obtain ⟨t148, A6, H⟩ := H
   replace H := IB H
   rcases H with ⟨c8, H⟩ | ⟨c8, H⟩
   ·subst c8
    replace H := IT H; rcases H with ⟨c10, H⟩ | ⟨c10, H⟩
    ·replace c10 : (a0_1.size : Int) ≤ 40 := c10
     have c10b0 := decide_eq_true c10
     have c10b1 : decide (a0_1.size ≤ 40) = true := decide_eq_true (by omega)
     clear c10
     replace H := BN H; obtain ⟨t149, A11, H⟩ := H
     replace H := IB H
     rcases H with ⟨c13, H⟩ | ⟨c13, H⟩
     ·subst c13
      replace H := BN H; obtain ⟨t150, A15, H⟩ := H
      obtain rfl := Option.some.inj H
      go_wp2_with (first | ((with_reducible refine gN 1 rfl ?_); refine pB 1 76 [.string a0_0, .string a0_1, .int .i64 a0_2] HM rfl ?_; clear HM; intro gb147 w2 HM; obtain ⟨_,_,_,_,_,_⟩ := bk3 (HM.bx 0 rfl)) | ((with_reducible refine gC 89 rfl ?_); refine pC (some 16) rfl #[.string a0_0] rfl Try.func89 (spec_l10Clean.calls k a0_0 true _ A6.out) ?_; rintro e w7 ⟨rfl, hd⟩; refine ⟨_, rfl, ?_⟩; replace HM := HM.drawn hd; clear hd; obtain ⟨_,_,_,_,_,_⟩ := bk3 (HM.bx 0 rfl)) | ((with_reducible refine gC 89 rfl ?_); refine pC (some 27) rfl #[.string a0_1] rfl Try.func89 (spec_l10Clean.calls k a0_1 true _ A11.out) ?_; rintro e w12 ⟨rfl, hd⟩; refine ⟨_, rfl, ?_⟩; replace HM := HM.drawn hd; clear hd; obtain ⟨_,_,_,_,_,_⟩ := bk3 (HM.bx 0 rfl)) | ((with_reducible refine gC 59 rfl ?_); refine pC (some 32) rfl #[.int .i64 a0_2, .int .i64 0, .int .i64 3] rfl Try.func59 (spec_l01In.calls a0_2 0 3 t150 _ A15.out) ?_; rintro e w16 ⟨rfl, hd⟩; refine ⟨_, rfl, ?_⟩; replace HM := HM.drawn hd; clear hd))
      go_ret
      exact ⟨ER, (MD HM).pick []⟩
     ·subst c13
      obtain rfl := Option.some.inj H
      go_wp2_with (first | ((with_reducible refine gN 1 rfl ?_); refine pB 1 76 [.string a0_0, .string a0_1, .int .i64 a0_2] HM rfl ?_; clear HM; intro gb147 w2 HM; obtain ⟨_,_,_,_,_,_⟩ := bk3 (HM.bx 0 rfl)) | ((with_reducible refine gC 89 rfl ?_); refine pC (some 16) rfl #[.string a0_0] rfl Try.func89 (spec_l10Clean.calls k a0_0 true _ A6.out) ?_; rintro e w7 ⟨rfl, hd⟩; refine ⟨_, rfl, ?_⟩; replace HM := HM.drawn hd; clear hd; obtain ⟨_,_,_,_,_,_⟩ := bk3 (HM.bx 0 rfl)) | ((with_reducible refine gC 89 rfl ?_); refine pC (some 27) rfl #[.string a0_1] rfl Try.func89 (spec_l10Clean.calls k a0_1 false _ A11.out) ?_; rintro e w12 ⟨rfl, hd⟩; refine ⟨_, rfl, ?_⟩; replace HM := HM.drawn hd; clear hd))
      go_ret
      exact ⟨ER, (MD HM).pick []⟩
    ·replace c10 : ¬ ((a0_1.size : Int) ≤ 40) := c10
     have c10b0 := decide_eq_false c10
     have c10b1 : decide (a0_1.size ≤ 40) = false := decide_eq_false (by omega)
     clear c10
     obtain rfl := Option.some.inj H
     go_wp2_with (first | ((with_reducible refine gN 1 rfl ?_); refine pB 1 76 [.string a0_0, .string a0_1, .int .i64 a0_2] HM rfl ?_; clear HM; intro gb147 w2 HM; obtain ⟨_,_,_,_,_,_⟩ := bk3 (HM.bx 0 rfl)) | ((with_reducible refine gC 89 rfl ?_); refine pC (some 16) rfl #[.string a0_0] rfl Try.func89 (spec_l10Clean.calls k a0_0 true _ A6.out) ?_; rintro e w7 ⟨rfl, hd⟩; refine ⟨_, rfl, ?_⟩; replace HM := HM.drawn hd; clear hd; obtain ⟨_,_,_,_,_,_⟩ := bk3 (HM.bx 0 rfl)))
     go_ret
     exact ⟨ER, (MD HM).pick []⟩
   ·subst c8
    obtain rfl := Option.some.inj H
    go_wp2_with (first | ((with_reducible refine gN 1 rfl ?_); refine pB 1 76 [.string a0_0, .string a0_1, .int .i64 a0_2] HM rfl ?_; clear HM; intro gb147 w2 HM; obtain ⟨_,_,_,_,_,_⟩ := bk3 (HM.bx 0 rfl)) | ((with_reducible refine gC 89 rfl ?_); refine pC (some 16) rfl #[.string a0_0] rfl Try.func89 (spec_l10Clean.calls k a0_0 false _ A6.out) ?_; rintro e w7 ⟨rfl, hd⟩; refine ⟨_, rfl, ?_⟩; replace HM := HM.drawn hd; clear hd))
    go_ret
    exact ⟨ER, (MD HM).pick []⟩
  ·replace c5 : ¬ ((a0_0.size : Int) ≤ 20) := c5
   have c5b0 := decide_eq_false c5
   have c5b1 : decide (a0_0.size ≤ 20) = false := decide_eq_false (by omega)
   clear c5
   obtain rfl := Option.some.inj H
   go_wp2_with (first | ((with_reducible refine gN 1 rfl ?_); refine pB 1 76 [.string a0_0, .string a0_1, .int .i64 a0_2] HM rfl ?_; clear HM; intro gb147 w2 HM; obtain ⟨_,_,_,_,_,_⟩ := bk3 (HM.bx 0 rfl)))
   go_ret
   exact ⟨ER, (MD HM).pick []⟩
 ·replace c4 : ¬ ((a0_0.size : Int) ≥ 1) := c4
  have c4b0 : decide (1 ≤ (a0_0.size : Int)) = false := decide_eq_false c4
  have c4b1 : decide (1 ≤ a0_0.size) = false := decide_eq_false (by omega)
  clear c4
  obtain rfl := Option.some.inj H
  go_wp2_with (first | ((with_reducible refine gN 1 rfl ?_); refine pB 1 76 [.string a0_0, .string a0_1, .int .i64 a0_2] HM rfl ?_; clear HM; intro gb147 w2 HM; obtain ⟨_,_,_,_,_,_⟩ := bk3 (HM.bx 0 rfl)))
  go_ret
  exact ⟨ER, (MD HM).pick []⟩
def spec_OpOk.f (k : Nat) (a0_0 : Int) (a0_1 : ByteArray) (a0_2 : ByteArray) : Option (Bool) := if a0_0 ≥ 1 then (if a0_0 ≤ 3 then ((spec_ItemOk.f k a0_1 a0_2 0).bind fun t526 => (if t526 = true then (if a0_0 = 2 then (some true) else (some (a0_2.toList == ([] : List UInt8)))) else (some false))) else (some false)) else (some false)
theorem spec_OpOk.mono : ∀ a0 a1 a2 k, LeO (spec_OpOk.f k a0 a1 a2) (spec_OpOk.f (k + 1) a0 a1 a2) := by
 intro a0 a1 a2 k
 unfold spec_OpOk.f
 repeat' first | (with_reducible first | exact spec_ItemOk.mono _ _ _ _ | exact LeO.refl _ | exact LeO.none _ | refine LeO.ite ?_ ?_ | refine LeO.bind ?_ (fun _ => ?_)) | exact LeO.none _ | refine LeO.ite ?_ ?_ | refine LeO.bind ?_ (fun _ => ?_)
theorem spec_OpOk.calls (k : Nat) (a0_0 : Int) (a0_1 : ByteArray) (a0_2 : ByteArray) (r : Bool) (w : World)  (h : spec_OpOk.f k a0_0 a0_1 a0_2 = some r) :
  Calls Try.prog 95 #[.agg #[.int .i64 a0_0, .string a0_1, .string a0_2]] w fun e w' => e = .returned (.bool r) ∧ Mem w [] w' [] := by
 have hu32 := Try.underlying32
 have hu76 := Try.underlying76
 have HM := Mem.nil w
 have H := h
 clear h
 unfold spec_OpOk.f at H
 go_enter Try.func95, Try.ntmps95
 replace H := IT H; rcases H with ⟨c4, H⟩ | ⟨c4, H⟩
 ·have c4b0 : decide (1 ≤ a0_0) = true := decide_eq_true c4
  clear c4
  replace H := IT H; rcases H with ⟨c5, H⟩ | ⟨c5, H⟩
  ·have c5b0 := decide_eq_true c5
   clear c5
   replace H := BN H; obtain ⟨t526, A6, H⟩ := H
   replace H := IB H
   rcases H with ⟨c8, H⟩ | ⟨c8, H⟩
   ·subst c8
    replace H := IT H; rcases H with ⟨c10, H⟩ | ⟨c10, H⟩
    ·obtain ⟨c10b0, c10b1⟩ := BE c10
     clear c10
     obtain rfl := Option.some.inj H
     go_wp2_with (first | ((with_reducible refine gN 1 rfl ?_); refine pB 1 32 [.int .i64 a0_0, .string a0_1, .string a0_2] HM rfl ?_; clear HM; intro gb525 w2 HM; obtain ⟨_,_,_,_,_,_⟩ := bk3 (HM.bx 0 rfl)) | ((with_reducible refine gC 61 rfl ?_); refine pC (some 17) rfl #[.agg #[.string a0_1, .string a0_2, .int .i64 0]] rfl Try.func61 (spec_ItemOk.calls k a0_1 a0_2 0 true _ A6.out) ?_; rintro e w7 ⟨rfl, hR⟩; refine ⟨_, rfl, ?_⟩; replace HM := HM.call hR; clear hR; obtain ⟨_,_,_,_,_,_⟩ := bk3 (HM.bx 0 rfl)))
     go_ret
     exact ⟨ER, (MD HM).pick []⟩
    ·obtain ⟨c10b0, c10b1⟩ := BF c10
     obtain rfl := Option.some.inj H
     go_wp2_with (first | ((with_reducible refine gN 1 rfl ?_); refine pB 1 32 [.int .i64 a0_0, .string a0_1, .string a0_2] HM rfl ?_; clear HM; intro gb525 w2 HM; obtain ⟨_,_,_,_,_,_⟩ := bk3 (HM.bx 0 rfl)) | ((with_reducible refine gC 61 rfl ?_); refine pC (some 17) rfl #[.agg #[.string a0_1, .string a0_2, .int .i64 0]] rfl Try.func61 (spec_ItemOk.calls k a0_1 a0_2 0 true _ A6.out) ?_; rintro e w7 ⟨rfl, hR⟩; refine ⟨_, rfl, ?_⟩; replace HM := HM.call hR; clear hR; obtain ⟨_,_,_,_,_,_⟩ := bk3 (HM.bx 0 rfl)))
     go_ret
     exact ⟨ER, (MD HM).pick []⟩
   ·subst c8
    obtain rfl := Option.some.inj H
    go_wp2_with (first | ((with_reducible refine gN 1 rfl ?_); refine pB 1 32 [.int .i64 a0_0, .string a0_1, .string a0_2] HM rfl ?_; clear HM; intro gb525 w2 HM; obtain ⟨_,_,_,_,_,_⟩ := bk3 (HM.bx 0 rfl)) | ((with_reducible refine gC 61 rfl ?_); refine pC (some 17) rfl #[.agg #[.string a0_1, .string a0_2, .int .i64 0]] rfl Try.func61 (spec_ItemOk.calls k a0_1 a0_2 0 false _ A6.out) ?_; rintro e w7 ⟨rfl, hR⟩; refine ⟨_, rfl, ?_⟩; replace HM := HM.call hR; clear hR))
    go_ret
    exact ⟨ER, (MD HM).pick []⟩
  ·have c5b0 := decide_eq_false c5
   clear c5
   obtain rfl := Option.some.inj H
   go_wp2_with (first | ((with_reducible refine gN 1 rfl ?_); refine pB 1 32 [.int .i64 a0_0, .string a0_1, .string a0_2] HM rfl ?_; clear HM; intro gb525 w2 HM; obtain ⟨_,_,_,_,_,_⟩ := bk3 (HM.bx 0 rfl)))
   go_ret
   exact ⟨ER, (MD HM).pick []⟩
 ·have c4b0 : decide (1 ≤ a0_0) = false := decide_eq_false c4
  clear c4
  obtain rfl := Option.some.inj H
  go_wp2_with (first | ((with_reducible refine gN 1 rfl ?_); refine pB 1 32 [.int .i64 a0_0, .string a0_1, .string a0_2] HM rfl ?_; clear HM; intro gb525 w2 HM; obtain ⟨_,_,_,_,_,_⟩ := bk3 (HM.bx 0 rfl)))
  go_ret
  exact ⟨ER, (MD HM).pick []⟩
def spec_OpText.f (k : Nat) (a0_0 : Int) (a0_1 : ByteArray) (a0_2 : ByteArray) : Option (ByteArray) := (spec_OpOk.f k a0_0 a0_1 a0_2).bind fun t528 => (if t528 = true then (if a0_0 = 1 then (if 4 + a0_1.size ≤ 9223372036854775807 then (some ((⟨#[103, 101, 116, 32]⟩ : ByteArray) ++ a0_1)) else (none)) else (if a0_0 = 2 then (if 4 + a0_1.size ≤ 9223372036854775807 then (if 4 + a0_1.size + 1 ≤ 9223372036854775807 then (if 4 + a0_1.size + 1 + a0_2.size ≤ 9223372036854775807 then (some ((((⟨#[112, 117, 116, 32]⟩ : ByteArray) ++ a0_1) ++ (⟨#[32]⟩ : ByteArray)) ++ a0_2)) else (none)) else (none)) else (none)) else (if 5 + a0_1.size ≤ 9223372036854775807 then (some ((⟨#[100, 114, 111, 112, 32]⟩ : ByteArray) ++ a0_1)) else (none)))) else (some (⟨#[]⟩ : ByteArray)))
theorem spec_OpText.mono : ∀ a0 a1 a2 k, LeO (spec_OpText.f k a0 a1 a2) (spec_OpText.f (k + 1) a0 a1 a2) := by
 intro a0 a1 a2 k
 unfold spec_OpText.f
 repeat' first | (with_reducible first | exact spec_OpOk.mono _ _ _ _ | exact LeO.refl _ | exact LeO.none _ | refine LeO.ite ?_ ?_ | refine LeO.bind ?_ (fun _ => ?_)) | exact LeO.none _ | refine LeO.ite ?_ ?_ | refine LeO.bind ?_ (fun _ => ?_)
theorem spec_OpText.calls (k : Nat) (a0_0 : Int) (a0_1 : ByteArray) (a0_2 : ByteArray) (r : ByteArray) (w : World)  (h : spec_OpText.f k a0_0 a0_1 a0_2 = some r) :
  Calls Try.prog 74 #[.agg #[.int .i64 a0_0, .string a0_1, .string a0_2]] w fun e w' => e = .returned (.string r) ∧ Mem w [] w' [] := by
 have hu32 := Try.underlying32
 have HM := Mem.nil w
 have H := h
 clear h
 unfold spec_OpText.f at H
 go_enter Try.func74, Try.ntmps74
 replace H := BN H; obtain ⟨t528, A4, H⟩ := H
 go_upto_if 5 with (first | ((with_reducible refine gN 1 rfl ?_); refine pB 1 32 [.int .i64 a0_0, .string a0_1, .string a0_2] HM rfl ?_; clear HM; intro gb527 w2 HM; obtain ⟨_,_,_,_,_,_⟩ := bk3 (HM.bx 0 rfl)) | ((with_reducible refine gC 95 rfl ?_); refine pC (some 4) rfl #[.agg #[.int .i64 a0_0, .string a0_1, .string a0_2]] rfl Try.func95 (spec_OpOk.calls k a0_0 a0_1 a0_2 t528 _ A4.out) ?_; rintro e w5 ⟨rfl, hR⟩; refine ⟨_, rfl, ?_⟩; replace HM := HM.call hR; clear hR))
 replace HM := nzM HM
 replace H := IB H
 rcases H with ⟨c6, H⟩ | ⟨c6, H⟩
 ·subst c6
  obtain ⟨_,_,_,_,_,_⟩ := bk3 (HM.bx 0 rfl)
  go_upto_if 8 with (fail)
  replace H := IT H; rcases H with ⟨c8, H⟩ | ⟨c8, H⟩
  ·obtain ⟨c8b0, c8b1⟩ := BE c8
   clear c8
   first|rw [c8b0]|(simp only [i64_w, i32_w]; rw [c8b0])|skip
   replace H := GD H; obtain ⟨c9, H⟩ := H
   have c9b0 := eq_true c9
   have c9b1 : decide (4 + a0_1.size ≤ 9223372036854775807) = true := decide_eq_true c9
   try have c9b2 : (9223372036854775807 < 4 + a0_1.size) = False := eq_false (Nat.not_lt.2 c9)
   obtain rfl := Option.some.inj H
   go_wp2
   go_ret
   exact ⟨ER, (MD HM).pick []⟩
  ·obtain ⟨c8b0, c8b1⟩ := BF c8
   first|rw [c8b0]|(simp only [i64_w, i32_w]; rw [c8b0])|skip
   go_upto_if 13 with (fail)
   replace H := IT H; rcases H with ⟨c10, H⟩ | ⟨c10, H⟩
   ·obtain ⟨c10b0, c10b1⟩ := BE c10
    clear c10
    first|rw [c10b0]|(simp only [i64_w, i32_w]; rw [c10b0])|skip
    replace H := GD H; obtain ⟨c11, H⟩ := H
    have c11b0 := eq_true c11
    have c11b1 : decide (4 + a0_1.size ≤ 9223372036854775807) = true := decide_eq_true c11
    try have c11b2 : (9223372036854775807 < 4 + a0_1.size) = False := eq_false (Nat.not_lt.2 c11)
    replace H := GD H; obtain ⟨c12, H⟩ := H
    have c12b0 := eq_true c12
    have c12b1 : decide (4 + a0_1.size + 1 ≤ 9223372036854775807) = true := decide_eq_true c12
    try have c12b2 : (9223372036854775807 < 4 + a0_1.size + 1) = False := eq_false (Nat.not_lt.2 c12)
    replace H := GD H; obtain ⟨c13, H⟩ := H
    have c13b0 := eq_true c13
    have c13b1 : decide (4 + a0_1.size + 1 + a0_2.size ≤ 9223372036854775807) = true := decide_eq_true c13
    try have c13b2 : (9223372036854775807 < 4 + a0_1.size + 1 + a0_2.size) = False := eq_false (Nat.not_lt.2 c13)
    obtain rfl := Option.some.inj H
    go_wp2
    go_ret
    exact ⟨ER, (MD HM).pick []⟩
   ·obtain ⟨c10b0, c10b1⟩ := BF c10
    first|rw [c10b0]|(simp only [i64_w, i32_w]; rw [c10b0])|skip
    replace H := GD H; obtain ⟨c14, H⟩ := H
    have c14b0 := eq_true c14
    have c14b1 : decide (5 + a0_1.size ≤ 9223372036854775807) = true := decide_eq_true c14
    try have c14b2 : (9223372036854775807 < 5 + a0_1.size) = False := eq_false (Nat.not_lt.2 c14)
    obtain rfl := Option.some.inj H
    go_wp2
    go_ret
    exact ⟨ER, (MD HM).pick []⟩
 ·subst c6
  obtain rfl := Option.some.inj H
  go_wp2
  go_ret
  exact ⟨ER, (MD HM).pick []⟩
def spec_TextOp.f (k : Nat) (a0 : ByteArray) : Option (Int × ByteArray × ByteArray × Bool) := (spec_Cut.f k a0).bind fun t530 => ((some (([(⟨#[]⟩ : ByteArray), (⟨#[]⟩ : ByteArray)] : List ByteArray) : List ByteArray)).bind fun y533 => (if t530.length + y533.length < 8796093022208 then ((some (t530 ++ y533 : List ByteArray)).bind fun y536 => (if 1 < (y536.length : Int) then (if 0 < (y536.length : Int) then (if (rdOf ByteArray.empty y536 0).toList = ([103, 101, 116] : List UInt8) then (if a0.toList = ([] : List UInt8) then (some (0, (⟨#[]⟩ : ByteArray), (⟨#[]⟩ : ByteArray), false)) else ((spec_OpText.f k 1 (rdOf ByteArray.empty y536 1) (⟨#[]⟩ : ByteArray)).bind fun t542 => (if t542.toList = a0.toList then (some (1, rdOf ByteArray.empty y536 1, (⟨#[]⟩ : ByteArray), true)) else (some (0, (⟨#[]⟩ : ByteArray), (⟨#[]⟩ : ByteArray), false))))) else (if (rdOf ByteArray.empty y536 0).toList = ([112, 117, 116] : List UInt8) then (if 2 < (y536.length : Int) then (if a0.toList = ([] : List UInt8) then (some (0, (⟨#[]⟩ : ByteArray), (⟨#[]⟩ : ByteArray), false)) else ((spec_OpText.f k 2 (rdOf ByteArray.empty y536 1) (rdOf ByteArray.empty y536 2)).bind fun t544 => (if t544.toList = a0.toList then (some (2, rdOf ByteArray.empty y536 1, rdOf ByteArray.empty y536 2, true)) else (some (0, (⟨#[]⟩ : ByteArray), (⟨#[]⟩ : ByteArray), false))))) else (none)) else (if (rdOf ByteArray.empty y536 0).toList = ([100, 114, 111, 112] : List UInt8) then (if a0.toList = ([] : List UInt8) then (some (0, (⟨#[]⟩ : ByteArray), (⟨#[]⟩ : ByteArray), false)) else ((spec_OpText.f k 3 (rdOf ByteArray.empty y536 1) (⟨#[]⟩ : ByteArray)).bind fun t545 => (if t545.toList = a0.toList then (some (3, rdOf ByteArray.empty y536 1, (⟨#[]⟩ : ByteArray), true)) else (some (0, (⟨#[]⟩ : ByteArray), (⟨#[]⟩ : ByteArray), false))))) else (if a0.toList = ([] : List UInt8) then (some (0, (⟨#[]⟩ : ByteArray), (⟨#[]⟩ : ByteArray), false)) else ((spec_OpText.f k 0 (rdOf ByteArray.empty y536 1) (⟨#[]⟩ : ByteArray)).bind fun t546 => (if t546.toList = a0.toList then (some (0, rdOf ByteArray.empty y536 1, (⟨#[]⟩ : ByteArray), true)) else (some (0, (⟨#[]⟩ : ByteArray), (⟨#[]⟩ : ByteArray), false)))))))) else (none)) else (none))) else (none)))
theorem spec_TextOp.mono : ∀ a0 k, LeO (spec_TextOp.f k a0) (spec_TextOp.f (k + 1) a0) := by
 intro a0 k
 unfold spec_TextOp.f
 repeat' first | (with_reducible first | exact spec_Cut.mono _ _ | exact spec_OpText.mono _ _ _ _ | exact LeO.refl _ | exact LeO.none _ | refine LeO.ite ?_ ?_ | refine LeO.bind ?_ (fun _ => ?_)) | exact LeO.none _ | refine LeO.ite ?_ ?_ | refine LeO.bind ?_ (fun _ => ?_)
theorem spec_TextOp.calls (k : Nat) (a0 : ByteArray) (r1 : Int) (r2 : ByteArray) (r3 : ByteArray) (r4 : Bool) (w : World)  (h : spec_TextOp.f k a0 = some (r1, r2, r3, r4)) :
  Calls Try.prog 38 #[.string a0] w fun e w' => e = .returned (.tuple #[.agg #[.int .i64 r1, .string r2, .string r3], .bool r4]) ∧ Mem w [] w' [] := by
 have hu32 := Try.underlying32
 have HM := Mem.nil w
 have H := h
 clear h
 unfold spec_TextOp.f at H
 go_enter Try.func38, Try.ntmps38
 replace H := BN H; obtain ⟨t530, A3, H⟩ := H
 replace H := BLt H; obtain ⟨y533, Ny533, H⟩ := H
 replace Ny533 := Aside0.mk Ny533
 replace H := GD H; obtain ⟨c6, H⟩ := H
 have LMc6 := Aside0.mk c6
 clear c6
 replace H := BLt H; obtain ⟨y536, Ny536, H⟩ := H
 replace Ny536 := Aside0.mk Ny536
 replace H := GD H; obtain ⟨c9, H⟩ := H
 replace c9 : 1 < (y536.length : Int) := c9
 have c9b0 := decide_eq_true c9
 have c9b1 : decide (1 < y536.length) = true := decide_eq_true (by omega)
 have c9b9 : decide (1 < y536.length) = true := decide_eq_true (by omega)
 clear c9
 replace H := GD H; obtain ⟨c13, H⟩ := H
 replace c13 : 0 < (y536.length : Int) := c13
 have c13b0 := decide_eq_true c13
 have c13b1 : decide (0 < y536.length) = true := decide_eq_true (by omega)
 have c13b9 : decide (0 < y536.length) = true := decide_eq_true (by omega)
 clear c13
 go_upto_if 17 with (first | ((with_reducible refine gN 2 rfl ?_); refine pB 2 32 [.int .i64 0, .string (⟨#[]⟩ : ByteArray), .string (⟨#[]⟩ : ByteArray)] HM rfl ?_; clear HM; intro gb529 w2 HM) | ((with_reducible refine gC 22 rfl ?_); refine pC (some 7) rfl #[.string a0] rfl Try.func22 (spec_Cut.calls k a0 t530 _ A3.out) ?_; rintro e w4 ⟨v531, rfl, hR⟩; refine ⟨_, rfl, ?_⟩; replace HM := HM.call hR; clear hR) | ((with_reducible refine gN 8 rfl ?_); refine pL 8 Kd.string 9 ([(⟨#[]⟩ : ByteArray), (⟨#[]⟩ : ByteArray)] : List ByteArray) [.string (⟨#[]⟩ : ByteArray), .string (⟨#[]⟩ : ByteArray)] (Reps.one (show Kd.M Kd.string _ _ _ (⟨#[]⟩ : ByteArray) [.string (⟨#[]⟩ : ByteArray)] from rfl) (Reps.one (show Kd.M Kd.string _ _ _ (⟨#[]⟩ : ByteArray) [.string (⟨#[]⟩ : ByteArray)] from rfl) (Reps.none _ _))) HM rfl ?_; clear HM; intro v534 w5 HM; replace HM := HM.nm 2 rfl Ny533.out; obtain ⟨Xo7, ko7, rfl⟩ := HM.rdR 2 rfl) | ((with_reducible refine gate_builtin (b := .append) (xs := #[.tmp 7, .tmp 8]) rfl ?_); refine pA 1 (.tmp 7) (.tmp 8) 33 9 Kd.string v531 t530 y533 Xo7 y533.length ko7 HM rfl Try.underlying33 info9 rfl (HM.CR 2 rfl).2.2 (by have h_ := LMc6.out; omega) ?_; clear HM; intro v537 w8 HM; replace HM := HM.nm 1 rfl Ny536.out; obtain ⟨Xo10, ko10, rfl⟩ := HM.rdR 1 rfl; have p539 : 0 ≤ (1 : Int) := (by omega); have q539 : (1 : Int) < (y536.length : Int) := of_decide_eq_true AS; obtain ⟨ad539, e539, hx539_0⟩ := Kd.at_string (HM.CR 1 rfl).2.2 1 p539 q539; cases e539; have qi539 : (1 < y536.length) = True := eq_true (by omega); (try rw [show ((1 : Int)).toNat = 1 from rfl] at hx539_0); (try simp only [Nat.reduceMul, Nat.reduceEqDiff, Go.Addr.add, ↓reduceIte] at hx539_0); replace p539 := eq_true p539; replace q539 := eq_true q539) | ((with_reducible refine gN 5 rfl ?_); refine pB 5 32 [.int .i64 0, .string (⟨#[]⟩ : ByteArray), .string (⟨#[]⟩ : ByteArray)] HM rfl ?_; clear HM; intro gb540 w11 HM) | ((with_reducible refine gS 5 rfl ?_); refine pS 3 5 0 [.int .i64 0, .string (rdOf ByteArray.empty y536 1), .string (⟨#[]⟩ : ByteArray)] HM rfl rfl ?_; clear HM; intro w12 HM; have p541 : 0 ≤ (0 : Int) := (by omega); have q541 : (0 : Int) < (y536.length : Int) := of_decide_eq_true AS; obtain ⟨ad541, e541, hx541_0⟩ := Kd.at_string (HM.CR 1 rfl).2.2 0 p541 q541; obtain rfl := Option.some.inj e541; have qi541 : (0 < y536.length) = True := eq_true (by omega); (try rw [show ((0 : Int)).toNat = 0 from rfl] at hx541_0); (try rw [Addr.add_zero'] at hx541_0); replace p541 := eq_true p541; replace q541 := eq_true q541))
 replace HM := nzM HM
 replace H := IT H; rcases H with ⟨c14, H⟩ | ⟨c14, H⟩
 ·obtain ⟨c14b0, c14b1⟩ := BE c14
  clear c14
  first|rw [c14b0]|(simp only [i64_w, i32_w]; rw [c14b0])|skip
  replace H := IT H; rcases H with ⟨c16, H⟩ | ⟨c16, H⟩
  ·obtain ⟨c16b0, c16b1⟩ := BE c16
   have c16b6 : (a0.toList).isEmpty = true := by first | (rw [c16]; rfl) | (cases h_ : a0.toList with | nil => exact absurd h_ c16 | cons _ _ => rfl)
   clear c16
   simp only [Option.some.injEq, Prod.mk.injEq] at H
   obtain ⟨rfl, rfl, rfl, rfl⟩ := H
   go_wp2_with (first | ((with_reducible refine gS 19 rfl ?_); refine pS 3 19 0 [.int .i64 1] HM rfl rfl ?_; clear HM; intro w15 HM) | ((with_reducible refine gS 2 rfl ?_); refine pS 0 2 0 [.int .i64 0, .string (⟨#[]⟩ : ByteArray), .string (⟨#[]⟩ : ByteArray)] HM rfl rfl ?_; clear HM; intro w17 HM))
   refine bodyPost_ret (results_ct rfl _ _ gb529 32 #[.int .i64 0, .string (⟨#[]⟩ : ByteArray), .string (⟨#[]⟩ : ByteArray)] (0, 0) _ rfl (HM.bx 0 rfl) Try.underlying32 rfl (by kernel_rfl)) rfl ?_
   exact ⟨ER, (MD HM).pick []⟩
  ·obtain ⟨c16b0, c16b1⟩ := BF c16
   have c16b6 : (a0.toList).isEmpty = false := by first | (rw [c16]; rfl) | (cases h_ : a0.toList with | nil => exact absurd h_ c16 | cons _ _ => rfl)
   replace H := BN H; obtain ⟨t542, A19, H⟩ := H
   go_upto_if 37 with (first | ((with_reducible refine gS 19 rfl ?_); refine pS 3 19 0 [.int .i64 1] HM rfl rfl ?_; clear HM; intro w15 HM; obtain ⟨_,_,_,_,_,_⟩ := bk3 (HM.bx 3 rfl)) | ((with_reducible refine gC 74 rfl ?_); refine pC (some 34) rfl #[.agg #[.int .i64 1, .string (rdOf ByteArray.empty y536 1), .string (⟨#[]⟩ : ByteArray)]] rfl Try.func74 (spec_OpText.calls k 1 (rdOf ByteArray.empty y536 1) (⟨#[]⟩ : ByteArray) t542 _ A19.out) ?_; rintro e w20 ⟨rfl, hR⟩; refine ⟨_, rfl, ?_⟩; replace HM := HM.call hR; clear hR))
   replace HM := nzM HM
   replace H := IT H; rcases H with ⟨c21, H⟩ | ⟨c21, H⟩
   ·obtain ⟨c21b0, c21b1⟩ := BE c21
    clear c21
    first|rw [c21b0]|(simp only [i64_w, i32_w]; rw [c21b0])|skip
    simp only [Option.some.injEq, Prod.mk.injEq] at H
    obtain ⟨rfl, rfl, rfl, rfl⟩ := H
    obtain ⟨_,_,_,_,_,_⟩ := bk3 (HM.bx 3 rfl)
    go_wp2_with (first | ((with_reducible refine gS 2 rfl ?_); refine pS 0 2 0 [.int .i64 1, .string (rdOf ByteArray.empty y536 1), .string (⟨#[]⟩ : ByteArray)] HM rfl rfl ?_; clear HM; intro w23 HM))
    refine bodyPost_ret (results_ct rfl _ _ gb529 32 #[.int .i64 1, .string (rdOf ByteArray.empty y536 1), .string (⟨#[]⟩ : ByteArray)] (0, 0) _ rfl (HM.bx 0 rfl) Try.underlying32 rfl (by kernel_rfl)) rfl ?_
    exact ⟨ER, (MD HM).pick []⟩
   ·obtain ⟨c21b0, c21b1⟩ := BF c21
    first|rw [c21b0]|(simp only [i64_w, i32_w]; rw [c21b0])|skip
    simp only [Option.some.injEq, Prod.mk.injEq] at H
    obtain ⟨rfl, rfl, rfl, rfl⟩ := H
    go_wp2_with (first | ((with_reducible refine gS 2 rfl ?_); refine pS 0 2 0 [.int .i64 0, .string (⟨#[]⟩ : ByteArray), .string (⟨#[]⟩ : ByteArray)] HM rfl rfl ?_; clear HM; intro w24 HM))
    refine bodyPost_ret (results_ct rfl _ _ gb529 32 #[.int .i64 0, .string (⟨#[]⟩ : ByteArray), .string (⟨#[]⟩ : ByteArray)] (0, 0) _ rfl (HM.bx 0 rfl) Try.underlying32 rfl (by kernel_rfl)) rfl ?_
    exact ⟨ER, (MD HM).pick []⟩
 ·obtain ⟨c14b0, c14b1⟩ := BF c14
  first|rw [c14b0]|(simp only [i64_w, i32_w]; rw [c14b0])|skip
  go_upto_if 20 with (fail)
  replace H := IT H; rcases H with ⟨c25, H⟩ | ⟨c25, H⟩
  ·obtain ⟨c25b0, c25b1⟩ := BE c25
   clear c25
   first|rw [c25b0]|(simp only [i64_w, i32_w]; rw [c25b0])|skip
   replace H := GD H; obtain ⟨c27, H⟩ := H
   replace c27 : 2 < (y536.length : Int) := c27
   have c27b0 := decide_eq_true c27
   have c27b1 : decide (2 < y536.length) = true := decide_eq_true (by omega)
   have c27b9 : decide (2 < y536.length) = true := decide_eq_true (by omega)
   clear c27
   replace H := IT H; rcases H with ⟨c29, H⟩ | ⟨c29, H⟩
   ·obtain ⟨c29b0, c29b1⟩ := BE c29
    have c29b6 : (a0.toList).isEmpty = true := by first | (rw [c29]; rfl) | (cases h_ : a0.toList with | nil => exact absurd h_ c29 | cons _ _ => rfl)
    clear c29
    simp only [Option.some.injEq, Prod.mk.injEq] at H
    obtain ⟨rfl, rfl, rfl, rfl⟩ := H
    go_wp2_with (first | ((with_reducible refine gS 22 rfl ?_); refine pS 3 22 0 [.int .i64 2] HM rfl rfl ?_; clear HM; intro w26 HM; have p543 : 0 ≤ (2 : Int) := (by omega); have q543 : (2 : Int) < (y536.length : Int) := of_decide_eq_true AS; obtain ⟨ad543, e543, hx543_0⟩ := Kd.at_string (HM.CR 1 rfl).2.2 2 p543 q543; obtain rfl := Option.some.inj e543; have qi543 : (2 < y536.length) = True := eq_true (by omega); (try rw [show ((2 : Int)).toNat = 2 from rfl] at hx543_0); (try simp only [Nat.reduceMul, Nat.reduceEqDiff, Go.Addr.add, ↓reduceIte] at hx543_0); replace p543 := eq_true p543; replace q543 := eq_true q543) | ((with_reducible refine gS 26 rfl ?_); refine pS 3 26 2 [.string (rdOf ByteArray.empty y536 2)] HM rfl rfl ?_; clear HM; intro w28 HM) | ((with_reducible refine gS 2 rfl ?_); refine pS 0 2 0 [.int .i64 0, .string (⟨#[]⟩ : ByteArray), .string (⟨#[]⟩ : ByteArray)] HM rfl rfl ?_; clear HM; intro w30 HM))
    refine bodyPost_ret (results_ct rfl _ _ gb529 32 #[.int .i64 0, .string (⟨#[]⟩ : ByteArray), .string (⟨#[]⟩ : ByteArray)] (0, 0) _ rfl (HM.bx 0 rfl) Try.underlying32 rfl (by kernel_rfl)) rfl ?_
    exact ⟨ER, (MD HM).pick []⟩
   ·obtain ⟨c29b0, c29b1⟩ := BF c29
    have c29b6 : (a0.toList).isEmpty = false := by first | (rw [c29]; rfl) | (cases h_ : a0.toList with | nil => exact absurd h_ c29 | cons _ _ => rfl)
    replace H := BN H; obtain ⟨t544, A32, H⟩ := H
    go_upto_if 37 with (first | ((with_reducible refine gS 22 rfl ?_); refine pS 3 22 0 [.int .i64 2] HM rfl rfl ?_; clear HM; intro w26 HM; have p543 : 0 ≤ (2 : Int) := (by omega); have q543 : (2 : Int) < (y536.length : Int) := of_decide_eq_true AS; obtain ⟨ad543, e543, hx543_0⟩ := Kd.at_string (HM.CR 1 rfl).2.2 2 p543 q543; obtain rfl := Option.some.inj e543; have qi543 : (2 < y536.length) = True := eq_true (by omega); (try rw [show ((2 : Int)).toNat = 2 from rfl] at hx543_0); (try simp only [Nat.reduceMul, Nat.reduceEqDiff, Go.Addr.add, ↓reduceIte] at hx543_0); replace p543 := eq_true p543; replace q543 := eq_true q543) | ((with_reducible refine gS 26 rfl ?_); refine pS 3 26 2 [.string (rdOf ByteArray.empty y536 2)] HM rfl rfl ?_; clear HM; intro w28 HM; obtain ⟨_,_,_,_,_,_⟩ := bk3 (HM.bx 3 rfl)) | ((with_reducible refine gC 74 rfl ?_); refine pC (some 34) rfl #[.agg #[.int .i64 2, .string (rdOf ByteArray.empty y536 1), .string (rdOf ByteArray.empty y536 2)]] rfl Try.func74 (spec_OpText.calls k 2 (rdOf ByteArray.empty y536 1) (rdOf ByteArray.empty y536 2) t544 _ A32.out) ?_; rintro e w33 ⟨rfl, hR⟩; refine ⟨_, rfl, ?_⟩; replace HM := HM.call hR; clear hR))
    replace HM := nzM HM
    replace H := IT H; rcases H with ⟨c34, H⟩ | ⟨c34, H⟩
    ·obtain ⟨c34b0, c34b1⟩ := BE c34
     clear c34
     first|rw [c34b0]|(simp only [i64_w, i32_w]; rw [c34b0])|skip
     simp only [Option.some.injEq, Prod.mk.injEq] at H
     obtain ⟨rfl, rfl, rfl, rfl⟩ := H
     obtain ⟨_,_,_,_,_,_⟩ := bk3 (HM.bx 3 rfl)
     go_wp2_with (first | ((with_reducible refine gS 2 rfl ?_); refine pS 0 2 0 [.int .i64 2, .string (rdOf ByteArray.empty y536 1), .string (rdOf ByteArray.empty y536 2)] HM rfl rfl ?_; clear HM; intro w36 HM))
     refine bodyPost_ret (results_ct rfl _ _ gb529 32 #[.int .i64 2, .string (rdOf ByteArray.empty y536 1), .string (rdOf ByteArray.empty y536 2)] (0, 0) _ rfl (HM.bx 0 rfl) Try.underlying32 rfl (by kernel_rfl)) rfl ?_
     exact ⟨ER, (MD HM).pick []⟩
    ·obtain ⟨c34b0, c34b1⟩ := BF c34
     first|rw [c34b0]|(simp only [i64_w, i32_w]; rw [c34b0])|skip
     simp only [Option.some.injEq, Prod.mk.injEq] at H
     obtain ⟨rfl, rfl, rfl, rfl⟩ := H
     go_wp2_with (first | ((with_reducible refine gS 2 rfl ?_); refine pS 0 2 0 [.int .i64 0, .string (⟨#[]⟩ : ByteArray), .string (⟨#[]⟩ : ByteArray)] HM rfl rfl ?_; clear HM; intro w37 HM))
     refine bodyPost_ret (results_ct rfl _ _ gb529 32 #[.int .i64 0, .string (⟨#[]⟩ : ByteArray), .string (⟨#[]⟩ : ByteArray)] (0, 0) _ rfl (HM.bx 0 rfl) Try.underlying32 rfl (by kernel_rfl)) rfl ?_
     exact ⟨ER, (MD HM).pick []⟩
  ·obtain ⟨c25b0, c25b1⟩ := BF c25
   first|rw [c25b0]|(simp only [i64_w, i32_w]; rw [c25b0])|skip
   go_upto_if 27 with (fail)
   replace H := IT H; rcases H with ⟨c38, H⟩ | ⟨c38, H⟩
   ·obtain ⟨c38b0, c38b1⟩ := BE c38
    clear c38
    first|rw [c38b0]|(simp only [i64_w, i32_w]; rw [c38b0])|skip
    replace H := IT H; rcases H with ⟨c40, H⟩ | ⟨c40, H⟩
    ·obtain ⟨c40b0, c40b1⟩ := BE c40
     have c40b6 : (a0.toList).isEmpty = true := by first | (rw [c40]; rfl) | (cases h_ : a0.toList with | nil => exact absurd h_ c40 | cons _ _ => rfl)
     clear c40
     simp only [Option.some.injEq, Prod.mk.injEq] at H
     obtain ⟨rfl, rfl, rfl, rfl⟩ := H
     go_wp2_with (first | ((with_reducible refine gS 29 rfl ?_); refine pS 3 29 0 [.int .i64 3] HM rfl rfl ?_; clear HM; intro w39 HM) | ((with_reducible refine gS 2 rfl ?_); refine pS 0 2 0 [.int .i64 0, .string (⟨#[]⟩ : ByteArray), .string (⟨#[]⟩ : ByteArray)] HM rfl rfl ?_; clear HM; intro w41 HM))
     refine bodyPost_ret (results_ct rfl _ _ gb529 32 #[.int .i64 0, .string (⟨#[]⟩ : ByteArray), .string (⟨#[]⟩ : ByteArray)] (0, 0) _ rfl (HM.bx 0 rfl) Try.underlying32 rfl (by kernel_rfl)) rfl ?_
     exact ⟨ER, (MD HM).pick []⟩
    ·obtain ⟨c40b0, c40b1⟩ := BF c40
     have c40b6 : (a0.toList).isEmpty = false := by first | (rw [c40]; rfl) | (cases h_ : a0.toList with | nil => exact absurd h_ c40 | cons _ _ => rfl)
     replace H := BN H; obtain ⟨t545, A43, H⟩ := H
     go_upto_if 37 with (first | ((with_reducible refine gS 29 rfl ?_); refine pS 3 29 0 [.int .i64 3] HM rfl rfl ?_; clear HM; intro w39 HM; obtain ⟨_,_,_,_,_,_⟩ := bk3 (HM.bx 3 rfl)) | ((with_reducible refine gC 74 rfl ?_); refine pC (some 34) rfl #[.agg #[.int .i64 3, .string (rdOf ByteArray.empty y536 1), .string (⟨#[]⟩ : ByteArray)]] rfl Try.func74 (spec_OpText.calls k 3 (rdOf ByteArray.empty y536 1) (⟨#[]⟩ : ByteArray) t545 _ A43.out) ?_; rintro e w44 ⟨rfl, hR⟩; refine ⟨_, rfl, ?_⟩; replace HM := HM.call hR; clear hR))
     replace HM := nzM HM
     replace H := IT H; rcases H with ⟨c45, H⟩ | ⟨c45, H⟩
     ·obtain ⟨c45b0, c45b1⟩ := BE c45
      clear c45
      first|rw [c45b0]|(simp only [i64_w, i32_w]; rw [c45b0])|skip
      simp only [Option.some.injEq, Prod.mk.injEq] at H
      obtain ⟨rfl, rfl, rfl, rfl⟩ := H
      obtain ⟨_,_,_,_,_,_⟩ := bk3 (HM.bx 3 rfl)
      go_wp2_with (first | ((with_reducible refine gS 2 rfl ?_); refine pS 0 2 0 [.int .i64 3, .string (rdOf ByteArray.empty y536 1), .string (⟨#[]⟩ : ByteArray)] HM rfl rfl ?_; clear HM; intro w47 HM))
      refine bodyPost_ret (results_ct rfl _ _ gb529 32 #[.int .i64 3, .string (rdOf ByteArray.empty y536 1), .string (⟨#[]⟩ : ByteArray)] (0, 0) _ rfl (HM.bx 0 rfl) Try.underlying32 rfl (by kernel_rfl)) rfl ?_
      exact ⟨ER, (MD HM).pick []⟩
     ·obtain ⟨c45b0, c45b1⟩ := BF c45
      first|rw [c45b0]|(simp only [i64_w, i32_w]; rw [c45b0])|skip
      simp only [Option.some.injEq, Prod.mk.injEq] at H
      obtain ⟨rfl, rfl, rfl, rfl⟩ := H
      go_wp2_with (first | ((with_reducible refine gS 2 rfl ?_); refine pS 0 2 0 [.int .i64 0, .string (⟨#[]⟩ : ByteArray), .string (⟨#[]⟩ : ByteArray)] HM rfl rfl ?_; clear HM; intro w48 HM))
      refine bodyPost_ret (results_ct rfl _ _ gb529 32 #[.int .i64 0, .string (⟨#[]⟩ : ByteArray), .string (⟨#[]⟩ : ByteArray)] (0, 0) _ rfl (HM.bx 0 rfl) Try.underlying32 rfl (by kernel_rfl)) rfl ?_
      exact ⟨ER, (MD HM).pick []⟩
   ·obtain ⟨c38b0, c38b1⟩ := BF c38
    first|rw [c38b0]|(simp only [i64_w, i32_w]; rw [c38b0])|skip
    replace H := IT H; rcases H with ⟨c49, H⟩ | ⟨c49, H⟩
    ·obtain ⟨c49b0, c49b1⟩ := BE c49
     have c49b6 : (a0.toList).isEmpty = true := by first | (rw [c49]; rfl) | (cases h_ : a0.toList with | nil => exact absurd h_ c49 | cons _ _ => rfl)
     clear c49
     simp only [Option.some.injEq, Prod.mk.injEq] at H
     obtain ⟨rfl, rfl, rfl, rfl⟩ := H
     go_wp2_with (first | ((with_reducible refine gS 2 rfl ?_); refine pS 0 2 0 [.int .i64 0, .string (⟨#[]⟩ : ByteArray), .string (⟨#[]⟩ : ByteArray)] HM rfl rfl ?_; clear HM; intro w50 HM))
     refine bodyPost_ret (results_ct rfl _ _ gb529 32 #[.int .i64 0, .string (⟨#[]⟩ : ByteArray), .string (⟨#[]⟩ : ByteArray)] (0, 0) _ rfl (HM.bx 0 rfl) Try.underlying32 rfl (by kernel_rfl)) rfl ?_
     exact ⟨ER, (MD HM).pick []⟩
    ·obtain ⟨c49b0, c49b1⟩ := BF c49
     have c49b6 : (a0.toList).isEmpty = false := by first | (rw [c49]; rfl) | (cases h_ : a0.toList with | nil => exact absurd h_ c49 | cons _ _ => rfl)
     replace H := BN H; obtain ⟨t546, A52, H⟩ := H
     obtain ⟨_,_,_,_,_,_⟩ := bk3 (HM.bx 3 rfl)
     go_upto_if 37 with (first | ((with_reducible refine gC 74 rfl ?_); refine pC (some 34) rfl #[.agg #[.int .i64 0, .string (rdOf ByteArray.empty y536 1), .string (⟨#[]⟩ : ByteArray)]] rfl Try.func74 (spec_OpText.calls k 0 (rdOf ByteArray.empty y536 1) (⟨#[]⟩ : ByteArray) t546 _ A52.out) ?_; rintro e w53 ⟨rfl, hR⟩; refine ⟨_, rfl, ?_⟩; replace HM := HM.call hR; clear hR))
     replace H := IT H; rcases H with ⟨c54, H⟩ | ⟨c54, H⟩
     ·obtain ⟨c54b0, c54b1⟩ := BE c54
      clear c54
      first|rw [c54b0]|(simp only [i64_w, i32_w]; rw [c54b0])|skip
      simp only [Option.some.injEq, Prod.mk.injEq] at H
      obtain ⟨rfl, rfl, rfl, rfl⟩ := H
      obtain ⟨_,_,_,_,_,_⟩ := bk3 (HM.bx 3 rfl)
      go_wp2_with (first | ((with_reducible refine gS 2 rfl ?_); refine pS 0 2 0 [.int .i64 0, .string (rdOf ByteArray.empty y536 1), .string (⟨#[]⟩ : ByteArray)] HM rfl rfl ?_; clear HM; intro w56 HM))
      refine bodyPost_ret (results_ct rfl _ _ gb529 32 #[.int .i64 0, .string (rdOf ByteArray.empty y536 1), .string (⟨#[]⟩ : ByteArray)] (0, 0) _ rfl (HM.bx 0 rfl) Try.underlying32 rfl (by kernel_rfl)) rfl ?_
      exact ⟨ER, (MD HM).pick []⟩
     ·obtain ⟨c54b0, c54b1⟩ := BF c54
      first|rw [c54b0]|(simp only [i64_w, i32_w]; rw [c54b0])|skip
      simp only [Option.some.injEq, Prod.mk.injEq] at H
      obtain ⟨rfl, rfl, rfl, rfl⟩ := H
      go_wp2_with (first | ((with_reducible refine gS 2 rfl ?_); refine pS 0 2 0 [.int .i64 0, .string (⟨#[]⟩ : ByteArray), .string (⟨#[]⟩ : ByteArray)] HM rfl rfl ?_; clear HM; intro w57 HM))
      refine bodyPost_ret (results_ct rfl _ _ gb529 32 #[.int .i64 0, .string (⟨#[]⟩ : ByteArray), .string (⟨#[]⟩ : ByteArray)] (0, 0) _ rfl (HM.bx 0 rfl) Try.underlying32 rfl (by kernel_rfl)) rfl ?_
      exact ⟨ER, (MD HM).pick []⟩
def spec_l21Zero.j0 : Nat → Bool → Int → Int → Int → Int → ByteArray → ByteArray → List ByteArray → Option (Bool)
 | 0, _, _, _, _, _, _, _, _ => none
 | k + 1, x24, x548000, x548001, x548002, x548003, x548004, x548005, x548006 => if x24 = true then (some false) else (if x548000 = 1 then (some true) else (if x548002 = 0 then (if x548000 = 6 then (some true) else (some (x548001 == 0))) else (some false)))
def spec_l21Zero.f (k : Nat) (a0_0 : Int) (a0_1 : Int) (a0_2 : Int) (a0_3 : Int) (a0_4 : ByteArray) (a0_5 : ByteArray) (l0_6 : List ByteArray) : Option (Bool) := if a0_0 = 2 then (if a0_0 = 3 then (spec_l21Zero.j0 k false a0_0 a0_1 a0_2 a0_3 a0_4 a0_5 l0_6) else (spec_l21Zero.j0 k (decide ((l0_6.length : Int) > 0)) a0_0 a0_1 a0_2 a0_3 a0_4 a0_5 l0_6)) else (if a0_3 = 0 then (if a0_4.toList = ([] : List UInt8) then (if a0_5.toList = ([] : List UInt8) then (if a0_0 = 3 then (spec_l21Zero.j0 k false a0_0 a0_1 a0_2 a0_3 a0_4 a0_5 l0_6) else (spec_l21Zero.j0 k (decide ((l0_6.length : Int) > 0)) a0_0 a0_1 a0_2 a0_3 a0_4 a0_5 l0_6)) else (spec_l21Zero.j0 k true a0_0 a0_1 a0_2 a0_3 a0_4 a0_5 l0_6)) else (spec_l21Zero.j0 k true a0_0 a0_1 a0_2 a0_3 a0_4 a0_5 l0_6)) else (spec_l21Zero.j0 k true a0_0 a0_1 a0_2 a0_3 a0_4 a0_5 l0_6))
theorem spec_l21Zero.mono_l : ∀ k, (∀ y0 y1 y2 y3 y4 y5 y6 y7, LeO (spec_l21Zero.j0 k y0 y1 y2 y3 y4 y5 y6 y7) (spec_l21Zero.j0 (k + 1) y0 y1 y2 y3 y4 y5 y6 y7))
 | 0 => fun _ _ _ _ _ _ _ _ r h => by simp [spec_l21Zero.j0] at h
 | k + 1 => by
  have ih0 := spec_l21Zero.mono_l k
  ·intro y0 y1 y2 y3 y4 y5 y6 y7
   unfold spec_l21Zero.j0
   repeat' first | (with_reducible first | exact ih0 _ _ _ _ _ _ _ _ | exact LeO.refl _ | exact LeO.none _ | refine LeO.ite ?_ ?_ | refine LeO.bind ?_ (fun _ => ?_)) | exact LeO.none _ | refine LeO.ite ?_ ?_ | refine LeO.bind ?_ (fun _ => ?_)
theorem spec_l21Zero.mono : ∀ a0 a1 a2 a3 a4 a5 a6 k, LeO (spec_l21Zero.f k a0 a1 a2 a3 a4 a5 a6) (spec_l21Zero.f (k + 1) a0 a1 a2 a3 a4 a5 a6) := by
 intro a0 a1 a2 a3 a4 a5 a6 k
 have ih0 := spec_l21Zero.mono_l k
 unfold spec_l21Zero.f
 repeat' first | (with_reducible first | exact ih0 _ _ _ _ _ _ _ _ | exact LeO.refl _ | exact LeO.none _ | refine LeO.ite ?_ ?_ | refine LeO.bind ?_ (fun _ => ?_)) | exact LeO.none _ | refine LeO.ite ?_ ?_ | refine LeO.bind ?_ (fun _ => ?_)
theorem spec_l21Zero.calls (k : Nat) (a0_0 : Int) (a0_1 : Int) (a0_2 : Int) (a0_3 : Int) (a0_4 : ByteArray) (a0_5 : ByteArray) (A0_6 : Option Addr) (c0_6 : Nat) (l0_6 : List ByteArray) (r : Bool) (w : World) (hr0_6 : Kd.C Kd.string w A0_6 l0_6.length l0_6) (hc0_6 : l0_6.length ≤ c0_6) (h : spec_l21Zero.f k a0_0 a0_1 a0_2 a0_3 a0_4 a0_5 l0_6 = some r) :
  Calls Try.prog 75 #[.agg #[.int .i64 a0_0, .int .i64 a0_1, .int .i64 a0_2, .int .i64 a0_3, .string a0_4, .string a0_5, .slice A0_6 l0_6.length c0_6]] w fun e w' => e = .returned (.bool r) ∧ Mem w [] w' [] := by
 have hu35 := Try.underlying35
 have hu32 := Try.underlying32
 have HR0_6 := Aside0.mk hr0_6
 have HC0_6 := Aside0.mk hc0_6
 clear hr0_6 hc0_6
 have HM := Mem.nil w
 have H := h
 clear h
 unfold spec_l21Zero.f at H
 go_enter Try.func75, Try.ntmps75
 have HC5 := Aside0.mk H
 clear H
 go_upto_region 2 with (first | ((with_reducible refine gN 1 rfl ?_); refine pB 1 35 [.int .i64 a0_0, .int .i64 a0_1, .int .i64 a0_2, .int .i64 a0_3, .string a0_4, .string a0_5, .slice A0_6 l0_6.length c0_6] HM rfl ?_; clear HM; intro gb547 w2 HM) | ((with_reducible refine gN 3 rfl ?_); refine pB 3 32 [.int .i64 0, .string (⟨#[]⟩ : ByteArray), .string (⟨#[]⟩ : ByteArray)] HM rfl ?_; clear HM; intro gb548 w3 HM) | ((with_reducible refine gS 3 rfl ?_); refine pS 1 3 0 [.int .i64 0, .string (⟨#[]⟩ : ByteArray), .string (⟨#[]⟩ : ByteArray)] HM rfl rfl ?_; clear HM; intro w4 HM))
 replace HM := nzM HM
 try simp only [Act.put, List.setIfInBounds_toArray, List.set_cons_zero, List.set_cons_succ]
 go_cut [24] (fun v24 wc => ∃ (kq : Nat) (x24_4 : Bool), v24 = .bool x24_4 ∧ Aside0 (spec_l21Zero.j0 kq x24_4 a0_0 a0_1 a0_2 a0_3 a0_4 a0_5 l0_6 = some r) ∧ Aside0 (kq ≤ k) ∧ Mem w [] wc [box 35 gb547 [.int .i64 a0_0, .int .i64 a0_1, .int .i64 a0_2, .int .i64 a0_3, .string a0_4, .string a0_5, .slice A0_6 l0_6.length c0_6], box 32 gb548 [.int .i64 0, .string (⟨#[]⟩ : ByteArray), .string (⟨#[]⟩ : ByteArray)]])
 case first =>
  have H := HC5.out
  clear HC5
  replace H := IT H; rcases H with ⟨c7, H⟩ | ⟨c7, H⟩
  ·obtain ⟨c7b0, c7b1⟩ := BE c7
   clear c7
   replace H := IT H; rcases H with ⟨c8, H⟩ | ⟨c8, H⟩
   ·obtain ⟨c8b0, c8b1⟩ := BE c8
    clear c8
    have H' := Aside0.mk H
    clear H
    obtain ⟨_,_,_,_,_,_,_,_,_,_,_,_,_,_⟩ := bk7 (HM.bx 0 rfl)
    go_wp2
    go_meet
    case rel => exact ⟨_, (false), RS, H', ⟨by first | omega | exact Nat.le_refl _⟩, (MD HM).pick [0, 1]⟩
   ·obtain ⟨c8b0, c8b1⟩ := BF c8
    have H' := Aside0.mk H
    clear H
    obtain ⟨_,_,_,_,_,_,_,_,_,_,_,_,_,_⟩ := bk7 (HM.bx 0 rfl)
    go_wp2
    go_meet
    case rel => exact ⟨_, (decide ((l0_6.length : Int) > 0)), RS, H', ⟨by first | omega | exact Nat.le_refl _⟩, (MD HM).pick [0, 1]⟩
  ·obtain ⟨c7b0, c7b1⟩ := BF c7
   replace H := IT H; rcases H with ⟨c10, H⟩ | ⟨c10, H⟩
   ·obtain ⟨c10b0, c10b1⟩ := BE c10
    clear c10
    replace H := IT H; rcases H with ⟨c11, H⟩ | ⟨c11, H⟩
    ·obtain ⟨c11b0, c11b1⟩ := BE c11
     have c11b6 : (a0_4.toList).isEmpty = true := by first | (rw [c11]; rfl) | (cases h_ : a0_4.toList with | nil => exact absurd h_ c11 | cons _ _ => rfl)
     clear c11
     replace H := IT H; rcases H with ⟨c12, H⟩ | ⟨c12, H⟩
     ·obtain ⟨c12b0, c12b1⟩ := BE c12
      have c12b6 : (a0_5.toList).isEmpty = true := by first | (rw [c12]; rfl) | (cases h_ : a0_5.toList with | nil => exact absurd h_ c12 | cons _ _ => rfl)
      clear c12
      replace H := IT H; rcases H with ⟨c13, H⟩ | ⟨c13, H⟩
      ·obtain ⟨c13b0, c13b1⟩ := BE c13
       clear c13
       have H' := Aside0.mk H
       clear H
       obtain ⟨_,_,_,_,_,_,_,_,_,_,_,_,_,_⟩ := bk7 (HM.bx 0 rfl)
       obtain ⟨_,_,_,_,_,_⟩ := bk3 (HM.bx 1 rfl)
       go_wp2
       go_meet
       case rel => exact ⟨_, (false), RS, H', ⟨by first | omega | exact Nat.le_refl _⟩, (MD HM).pick [0, 1]⟩
      ·obtain ⟨c13b0, c13b1⟩ := BF c13
       have H' := Aside0.mk H
       clear H
       obtain ⟨_,_,_,_,_,_,_,_,_,_,_,_,_,_⟩ := bk7 (HM.bx 0 rfl)
       obtain ⟨_,_,_,_,_,_⟩ := bk3 (HM.bx 1 rfl)
       go_wp2
       go_meet
       case rel => exact ⟨_, (decide ((l0_6.length : Int) > 0)), RS, H', ⟨by first | omega | exact Nat.le_refl _⟩, (MD HM).pick [0, 1]⟩
     ·obtain ⟨c12b0, c12b1⟩ := BF c12
      have c12b6 : (a0_5.toList).isEmpty = false := by first | (rw [c12]; rfl) | (cases h_ : a0_5.toList with | nil => exact absurd h_ c12 | cons _ _ => rfl)
      have H' := Aside0.mk H
      clear H
      obtain ⟨_,_,_,_,_,_,_,_,_,_,_,_,_,_⟩ := bk7 (HM.bx 0 rfl)
      obtain ⟨_,_,_,_,_,_⟩ := bk3 (HM.bx 1 rfl)
      go_wp2
      go_meet
      case rel => exact ⟨_, (true), RS, H', ⟨by first | omega | exact Nat.le_refl _⟩, (MD HM).pick [0, 1]⟩
    ·obtain ⟨c11b0, c11b1⟩ := BF c11
     have c11b6 : (a0_4.toList).isEmpty = false := by first | (rw [c11]; rfl) | (cases h_ : a0_4.toList with | nil => exact absurd h_ c11 | cons _ _ => rfl)
     have H' := Aside0.mk H
     clear H
     obtain ⟨_,_,_,_,_,_,_,_,_,_,_,_,_,_⟩ := bk7 (HM.bx 0 rfl)
     obtain ⟨_,_,_,_,_,_⟩ := bk3 (HM.bx 1 rfl)
     go_wp2
     go_meet
     case rel => exact ⟨_, (true), RS, H', ⟨by first | omega | exact Nat.le_refl _⟩, (MD HM).pick [0, 1]⟩
   ·obtain ⟨c10b0, c10b1⟩ := BF c10
    have H' := Aside0.mk H
    clear H
    obtain ⟨_,_,_,_,_,_,_,_,_,_,_,_,_,_⟩ := bk7 (HM.bx 0 rfl)
    obtain ⟨_,_,_,_,_,_⟩ := bk3 (HM.bx 1 rfl)
    go_wp2
    go_meet
    case rel => exact ⟨_, (true), RS, H', ⟨by first | omega | exact Nat.le_refl _⟩, (MD HM).pick [0, 1]⟩
 case rest =>
  clear HC5 HM
  obtain ⟨kq, x24_4, rfl, HA, HJ4, HM⟩ := hcut
  cases kq with
  | zero => exact absurd HA.out (by simp [spec_l21Zero.j0])
  | succ kj4 =>
   have H := HA.out
   clear HA
   simp only [spec_l21Zero.j0] at H
   go_upto_if 24 with (fail)
   replace H := IB H
   rcases H with ⟨c14, H⟩ | ⟨c14, H⟩
   ·subst c14
    obtain rfl := Option.some.inj H
    go_wp2
    go_ret
    exact ⟨ER, (MD HM).pick []⟩
   ·subst c14
    replace H := IT H; rcases H with ⟨c16, H⟩ | ⟨c16, H⟩
    ·obtain ⟨c16b0, c16b1⟩ := BE c16
     clear c16
     obtain rfl := Option.some.inj H
     obtain ⟨_,_,_,_,_,_,_,_,_,_,_,_,_,_⟩ := bk7 (HM.bx 0 rfl)
     go_wp2
     go_ret
     exact ⟨ER, (MD HM).pick []⟩
    ·obtain ⟨c16b0, c16b1⟩ := BF c16
     obtain ⟨_,_,_,_,_,_,_,_,_,_,_,_,_,_⟩ := bk7 (HM.bx 0 rfl)
     go_upto_if 32 with (fail)
     replace H := IT H; rcases H with ⟨c17, H⟩ | ⟨c17, H⟩
     ·obtain ⟨c17b0, c17b1⟩ := BE c17
      clear c17
      first|rw [c17b0]|(simp only [i64_w, i32_w]; rw [c17b0])|skip
      replace H := IT H; rcases H with ⟨c18, H⟩ | ⟨c18, H⟩
      ·obtain ⟨c18b0, c18b1⟩ := BE c18
       clear c18
       obtain rfl := Option.some.inj H
       go_wp2
       go_ret
       exact ⟨ER, (MD HM).pick []⟩
      ·obtain ⟨c18b0, c18b1⟩ := BF c18
       obtain rfl := Option.some.inj H
       go_wp2
       go_ret
       exact ⟨ER, (MD HM).pick []⟩
     ·obtain ⟨c17b0, c17b1⟩ := BF c17
      first|rw [c17b0]|(simp only [i64_w, i32_w]; rw [c17b0])|skip
      obtain rfl := Option.some.inj H
      go_wp2
      go_ret
      exact ⟨ER, (MD HM).pick []⟩
def spec_AsksOk.l0 : Nat → List ByteArray → List ByteArray → Int → Int → Option (Bool)
 | 0, _, _, _, _ => none
 | k + 1, x0, x5, x6, x7 => if x7 < x6 then (if 0 ≤ x7 then (if x7 < (x5.length : Int) then ((spec_ItemOk.f k (rdOf ByteArray.empty x5 x7) (⟨#[]⟩ : ByteArray) 0).bind fun t550 => (if t550 = true then (spec_AsksOk.l0 k x0 x5 x6 (wrap64 (x7 + 1))) else (some false))) else (none)) else (none)) else (some (decide ((x0.length : Int) ≤ 300)))
def spec_AsksOk.f (k : Nat) (l0 : List ByteArray) : Option (Bool) := spec_AsksOk.l0 k l0 l0 (l0.length : Int) 0
theorem spec_AsksOk.mono_l : ∀ k, (∀ y0 y1 y2 y3, LeO (spec_AsksOk.l0 k y0 y1 y2 y3) (spec_AsksOk.l0 (k + 1) y0 y1 y2 y3))
 | 0 => fun _ _ _ _ r h => by simp [spec_AsksOk.l0] at h
 | k + 1 => by
  have ih0 := spec_AsksOk.mono_l k
  ·intro y0 y1 y2 y3
   unfold spec_AsksOk.l0
   repeat' first | (with_reducible first | exact ih0 _ _ _ _ | exact spec_ItemOk.mono _ _ _ _ | exact LeO.refl _ | exact LeO.none _ | refine LeO.ite ?_ ?_ | refine LeO.bind ?_ (fun _ => ?_)) | exact LeO.none _ | refine LeO.ite ?_ ?_ | refine LeO.bind ?_ (fun _ => ?_)
theorem spec_AsksOk.mono : ∀ a0 k, LeO (spec_AsksOk.f k a0) (spec_AsksOk.f (k + 1) a0) := by
 intro a0 k
 have ih0 := spec_AsksOk.mono_l k
 unfold spec_AsksOk.f
 repeat' first | (with_reducible first | exact ih0 _ _ _ _ | exact spec_ItemOk.mono _ _ _ _ | exact LeO.refl _ | exact LeO.none _ | refine LeO.ite ?_ ?_ | refine LeO.bind ?_ (fun _ => ?_)) | exact LeO.none _ | refine LeO.ite ?_ ?_ | refine LeO.bind ?_ (fun _ => ?_)
theorem spec_AsksOk.calls (k : Nat) (A0 : Option Addr) (c0 : Nat) (l0 : List ByteArray) (r : Bool) (w : World) (hr0 : Kd.C Kd.string w A0 l0.length l0) (hc0 : l0.length ≤ c0) (h : spec_AsksOk.f k l0 = some r) :
  Calls Try.prog 76 #[.slice A0 l0.length c0] w fun e w' => e = .returned (.bool r) ∧ Mem w [] w' [] := by
 have hu76 := Try.underlying76
 have HR0 := Aside0.mk hr0
 have HC0 := Aside0.mk hc0
 clear hr0 hc0
 have HM := Mem.nil w
 have H := h
 clear h
 unfold spec_AsksOk.f at H
 go_enter Try.func76, Try.ntmps76
 have H' := Aside0.mk H
 clear H
 go_wp2
 go_loopg [7] k (fun kq v7 w' => ∃ (x7_1 : Int), v7 = .int .i64 x7_1 ∧ Aside0 (spec_AsksOk.l0 kq l0 l0 (l0.length : Int) x7_1 = some r) ∧ Aside0 (kq ≤ k) ∧ Mem w [] w' [])
 case atStart => exact ⟨(0), RS, H', ⟨Nat.le_refl _⟩, (MD HM).pick []⟩
 case round =>
  clear H' HM
  obtain ⟨x7_1, rfl, HA, HK1, HM⟩ := hrel
  cases gk with
  | zero => exact absurd HA.out (by simp [spec_AsksOk.l0])
  | succ k1 =>
   have H := HA.out
   clear HA
   simp only [spec_AsksOk.l0] at H
   go_upto_if 8 with (fail)
   replace H := IT H; rcases H with ⟨c2, H⟩ | ⟨c2, H⟩
   ·have c2b0 := decide_eq_true c2
    clear c2
    first|rw [c2b0]|(simp only [i64_w, i32_w]; rw [c2b0])|skip
    replace H := GD H; obtain ⟨c3, H⟩ := H
    have c3b0 := decide_eq_true c3
    clear c3
    replace H := GD H; obtain ⟨c4, H⟩ := H
    have c4b0 := decide_eq_true c4
    clear c4
    replace H := BN H; obtain ⟨t550, A5, H⟩ := H
    have p549 : 0 ≤ (x7_1 : Int) := of_decide_eq_true AS
    have q549 : (x7_1 : Int) < (l0.length : Int) := of_decide_eq_true AS
    obtain ⟨ad549, e549, hx549_0⟩ := Kd.at_string (HM.came HR0.out) x7_1 p549 q549
    cases e549
    replace p549 := eq_true p549
    replace q549 := eq_true q549
    go_upto_if 14 with (first | ((with_reducible refine gC 61 rfl ?_); refine pC (some 13) rfl #[.agg #[.string (rdOf ByteArray.empty l0 x7_1), .string (⟨#[]⟩ : ByteArray), .int .i64 0]] rfl Try.func61 (spec_ItemOk.calls k1 (rdOf ByteArray.empty l0 x7_1) (⟨#[]⟩ : ByteArray) 0 t550 _ A5.out) ?_; rintro e w6 ⟨rfl, hR⟩; refine ⟨_, rfl, ?_⟩; replace HM := HM.call hR; clear hR))
    replace H := IB H
    rcases H with ⟨c7, H⟩ | ⟨c7, H⟩
    ·subst c7
     have H' := Aside0.mk H
     clear H
     go_wp2
     go_roundg k1
     case measure => have := HK1.out; omega
     case rel => exact ⟨(wrap64 (x7_1 + 1)), RS, H', ⟨by have := HK1.out; omega⟩, (MD HM).pick []⟩
    ·subst c7
     obtain rfl := Option.some.inj H
     go_wp2
     go_ret
     exact ⟨ER, (MD HM).pick []⟩
   ·have c2b0 := decide_eq_false c2
    clear c2
    first|rw [c2b0]|(simp only [i64_w, i32_w]; rw [c2b0])|skip
    obtain rfl := Option.some.inj H
    go_wp2
    go_ret
    exact ⟨ER, (MD HM).pick []⟩
def spec_AsksText.l0 : Nat → ByteArray → List ByteArray → Int → Int → Option (ByteArray)
 | 0, _, _, _, _ => none
 | k + 1, x3, x10, x11, x12 => if x12 < x11 then (if 0 ≤ x12 then (if x12 < (x10.length : Int) then (if x12 > 0 then (if x3.size + 1 ≤ 9223372036854775807 then (if x3.size + 1 + (rdOf ByteArray.empty x10 x12).size ≤ 9223372036854775807 then (spec_AsksText.l0 k ((x3 ++ (⟨#[32]⟩ : ByteArray)) ++ (rdOf ByteArray.empty x10 x12)) x10 x11 (wrap64 (x12 + 1))) else (none)) else (none)) else (if x3.size + (rdOf ByteArray.empty x10 x12).size ≤ 9223372036854775807 then (spec_AsksText.l0 k (x3 ++ (rdOf ByteArray.empty x10 x12)) x10 x11 (wrap64 (x12 + 1))) else (none))) else (none)) else (none)) else (some x3)
def spec_AsksText.f (k : Nat) (l0 : List ByteArray) : Option (ByteArray) := (spec_AsksOk.f k l0).bind fun t551 => (if t551 = true then (spec_AsksText.l0 k (⟨#[]⟩ : ByteArray) l0 (l0.length : Int) 0) else (some (⟨#[]⟩ : ByteArray)))
theorem spec_AsksText.mono_l : ∀ k, (∀ y0 y1 y2 y3, LeO (spec_AsksText.l0 k y0 y1 y2 y3) (spec_AsksText.l0 (k + 1) y0 y1 y2 y3))
 | 0 => fun _ _ _ _ r h => by simp [spec_AsksText.l0] at h
 | k + 1 => by
  have ih0 := spec_AsksText.mono_l k
  ·intro y0 y1 y2 y3
   unfold spec_AsksText.l0
   repeat' first | (with_reducible first | exact ih0 _ _ _ _ | exact spec_AsksOk.mono _ _ | exact LeO.refl _ | exact LeO.none _ | refine LeO.ite ?_ ?_ | refine LeO.bind ?_ (fun _ => ?_)) | exact LeO.none _ | refine LeO.ite ?_ ?_ | refine LeO.bind ?_ (fun _ => ?_)
theorem spec_AsksText.mono : ∀ a0 k, LeO (spec_AsksText.f k a0) (spec_AsksText.f (k + 1) a0) := by
 intro a0 k
 have ih0 := spec_AsksText.mono_l k
 unfold spec_AsksText.f
 repeat' first | (with_reducible first | exact ih0 _ _ _ _ | exact spec_AsksOk.mono _ _ | exact LeO.refl _ | exact LeO.none _ | refine LeO.ite ?_ ?_ | refine LeO.bind ?_ (fun _ => ?_)) | exact LeO.none _ | refine LeO.ite ?_ ?_ | refine LeO.bind ?_ (fun _ => ?_)
theorem spec_AsksText.calls (k : Nat) (A0 : Option Addr) (c0 : Nat) (l0 : List ByteArray) (r : ByteArray) (w : World) (hr0 : Kd.C Kd.string w A0 l0.length l0) (hc0 : l0.length ≤ c0) (h : spec_AsksText.f k l0 = some r) :
  Calls Try.prog 77 #[.slice A0 l0.length c0] w fun e w' => e = .returned (.string r) ∧ Mem w [] w' [] := by
 have HR0 := Aside0.mk hr0
 have HC0 := Aside0.mk hc0
 clear hr0 hc0
 have HM := Mem.nil w
 have H := h
 clear h
 unfold spec_AsksText.f at H
 go_enter Try.func77, Try.ntmps77
 replace H := BN H; obtain ⟨t551, A2, H⟩ := H
 go_upto_if 8 with (first | ((with_reducible refine gC 76 rfl ?_); refine pC (some 7) rfl #[.slice A0 l0.length c0] rfl Try.func76 (spec_AsksOk.calls k _ _ l0 t551 _ (HM.came HR0.out) HC0.out A2.out) ?_; rintro e w3 ⟨rfl, hR⟩; refine ⟨_, rfl, ?_⟩; replace HM := HM.call hR; clear hR))
 replace H := IB H
 rcases H with ⟨c4, H⟩ | ⟨c4, H⟩
 ·subst c4
  have H' := Aside0.mk H
  clear H
  go_wp2
  go_loopg [3, 12] k (fun kq v3 v12 w' => ∃ (x3_1 : ByteArray) (x12_1 : Int), v3 = .string x3_1 ∧ v12 = .int .i64 x12_1 ∧ Aside0 (spec_AsksText.l0 kq x3_1 l0 (l0.length : Int) x12_1 = some r) ∧ Aside0 (kq ≤ k) ∧ Mem w [] w' [])
  case atStart => exact ⟨((⟨#[]⟩ : ByteArray)), (0), RS, RS, H', ⟨Nat.le_refl _⟩, (MD HM).pick []⟩
  case round =>
   clear H' HM
   obtain ⟨x3_1, x12_1, rfl, rfl, HA, HK1, HM⟩ := hrel
   cases gk with
   | zero => exact absurd HA.out (by simp [spec_AsksText.l0])
   | succ k1 =>
    have H := HA.out
    clear HA
    simp only [spec_AsksText.l0] at H
    go_upto_if 13 with (fail)
    replace H := IT H; rcases H with ⟨c5, H⟩ | ⟨c5, H⟩
    ·have c5b0 := decide_eq_true c5
     clear c5
     first|rw [c5b0]|(simp only [i64_w, i32_w]; rw [c5b0])|skip
     replace H := GD H; obtain ⟨c6, H⟩ := H
     have c6b0 := decide_eq_true c6
     clear c6
     replace H := GD H; obtain ⟨c7, H⟩ := H
     have c7b0 := decide_eq_true c7
     clear c7
     have p552 : 0 ≤ (x12_1 : Int) := of_decide_eq_true AS
     have q552 : (x12_1 : Int) < (l0.length : Int) := of_decide_eq_true AS
     obtain ⟨ad552, e552, hx552_0⟩ := Kd.at_string (HM.came HR0.out) x12_1 p552 q552
     cases e552
     replace p552 := eq_true p552
     replace q552 := eq_true q552
     go_upto_if 18 with (fail)
     replace H := IT H; rcases H with ⟨c8, H⟩ | ⟨c8, H⟩
     ·have c8b0 : decide (0 < x12_1) = true := decide_eq_true c8
      clear c8
      first|rw [c8b0]|(simp only [i64_w, i32_w]; rw [c8b0])|skip
      replace H := GD H; obtain ⟨c9, H⟩ := H
      have c9b0 := eq_true c9
      have c9b1 : decide (x3_1.size + 1 ≤ 9223372036854775807) = true := decide_eq_true c9
      try have c9b2 : (9223372036854775807 < x3_1.size + 1) = False := eq_false (Nat.not_lt.2 c9)
      replace H := GD H; obtain ⟨c10, H⟩ := H
      have c10b0 := eq_true c10
      have c10b1 : decide (x3_1.size + 1 + (rdOf ByteArray.empty l0 x12_1).size ≤ 9223372036854775807) = true := decide_eq_true c10
      try have c10b2 : (9223372036854775807 < x3_1.size + 1 + (rdOf ByteArray.empty l0 x12_1).size) = False := eq_false (Nat.not_lt.2 c10)
      have H' := Aside0.mk H
      clear H
      go_wp2
      go_roundg k1
      case measure => have := HK1.out; omega
      case rel => exact ⟨((x3_1 ++ (⟨#[32]⟩ : ByteArray)) ++ (rdOf ByteArray.empty l0 x12_1)), (wrap64 (x12_1 + 1)), RS, RS, H', ⟨by have := HK1.out; omega⟩, (MD HM).pick []⟩
     ·have c8b0 : decide (0 < x12_1) = false := decide_eq_false c8
      clear c8
      first|rw [c8b0]|(simp only [i64_w, i32_w]; rw [c8b0])|skip
      replace H := GD H; obtain ⟨c11, H⟩ := H
      have c11b0 := eq_true c11
      have c11b1 : decide (x3_1.size + (rdOf ByteArray.empty l0 x12_1).size ≤ 9223372036854775807) = true := decide_eq_true c11
      try have c11b2 : (9223372036854775807 < x3_1.size + (rdOf ByteArray.empty l0 x12_1).size) = False := eq_false (Nat.not_lt.2 c11)
      have H' := Aside0.mk H
      clear H
      go_wp2
      go_roundg k1
      case measure => have := HK1.out; omega
      case rel => exact ⟨(x3_1 ++ (rdOf ByteArray.empty l0 x12_1)), (wrap64 (x12_1 + 1)), RS, RS, H', ⟨by have := HK1.out; omega⟩, (MD HM).pick []⟩
    ·have c5b0 := decide_eq_false c5
     clear c5
     first|rw [c5b0]|(simp only [i64_w, i32_w]; rw [c5b0])|skip
     obtain rfl := Option.some.inj H
     go_wp2
     go_ret
     exact ⟨ER, (MD HM).pick []⟩
 ·subst c4
  obtain rfl := Option.some.inj H
  go_wp2
  go_ret
  exact ⟨ER, (MD HM).pick []⟩
def spec_CmdText.j0 : Nat → ByteArray → Bool → Int → Int → Int → Int → ByteArray → ByteArray → List ByteArray → Option (ByteArray)
 | 0, _, _, _, _, _, _, _, _, _ => none
 | k + 1, x3, x46, x554000, x554001, x554002, x554003, x554004, x554005, x554006 => if x46 = true then (some (⟨#[]⟩ : ByteArray)) else (if x3.size + 1 ≤ 9223372036854775807 then ((spec_NumText.f k x554001).bind fun t561 => (if x3.size + 1 + t561.size ≤ 9223372036854775807 then (if x3.size + 1 + t561.size + 1 ≤ 9223372036854775807 then ((spec_NumText.f k x554002).bind fun t562 => (if x3.size + 1 + t561.size + 1 + t562.size ≤ 9223372036854775807 then (some ((((x3 ++ (⟨#[32]⟩ : ByteArray)) ++ t561) ++ (⟨#[32]⟩ : ByteArray)) ++ t562)) else (none))) else (none)) else (none))) else (none))
def spec_CmdText.f (k : Nat) (a0_0 : Int) (a0_1 : Int) (a0_2 : Int) (a0_3 : Int) (a0_4 : ByteArray) (a0_5 : ByteArray) (l0_6 : List ByteArray) : Option (ByteArray) := (spec_l21Zero.f k a0_0 a0_1 a0_2 a0_3 a0_4 a0_5 l0_6).bind fun t554 => (if t554 = true then ((spec_l21Word.f a0_0).bind fun t555 => (if a0_0 = 2 then ((spec_OpText.f k a0_3 a0_4 a0_5).bind fun t556 => (some t556)) else (if a0_0 = 3 then ((spec_AsksOk.f k l0_6).bind fun t557 => (if t557 = true then (if (l0_6.length : Int) = 0 then (some (⟨#[]⟩ : ByteArray)) else (if t555.size + 1 ≤ 9223372036854775807 then ((spec_AsksText.f k l0_6).bind fun t558 => (if t555.size + 1 + t558.size ≤ 9223372036854775807 then (some ((t555 ++ (⟨#[32]⟩ : ByteArray)) ++ t558)) else (none))) else (none))) else (some (⟨#[]⟩ : ByteArray)))) else (if a0_0 = 1 then ((spec_l01Num.f a0_1).bind fun t559 => (if t559 = true then ((spec_l01Num.f a0_2).bind fun t560 => (spec_CmdText.j0 k t555 (!t560) a0_0 a0_1 a0_2 a0_3 a0_4 a0_5 l0_6)) else (spec_CmdText.j0 k t555 true a0_0 a0_1 a0_2 a0_3 a0_4 a0_5 l0_6))) else (if a0_0 = 6 then ((spec_l01Num.f a0_1).bind fun t563 => (if t563 = true then (if t555.size + 1 ≤ 9223372036854775807 then ((spec_NumText.f k a0_1).bind fun t564 => (if t555.size + 1 + t564.size ≤ 9223372036854775807 then (some ((t555 ++ (⟨#[32]⟩ : ByteArray)) ++ t564)) else (none))) else (none)) else (some (⟨#[]⟩ : ByteArray)))) else (some t555)))))) else (some (⟨#[]⟩ : ByteArray)))
theorem spec_CmdText.mono_l : ∀ k, (∀ y0 y1 y2 y3 y4 y5 y6 y7 y8, LeO (spec_CmdText.j0 k y0 y1 y2 y3 y4 y5 y6 y7 y8) (spec_CmdText.j0 (k + 1) y0 y1 y2 y3 y4 y5 y6 y7 y8))
 | 0 => fun _ _ _ _ _ _ _ _ _ r h => by simp [spec_CmdText.j0] at h
 | k + 1 => by
  have ih0 := spec_CmdText.mono_l k
  ·intro y0 y1 y2 y3 y4 y5 y6 y7 y8
   unfold spec_CmdText.j0
   repeat' first | (with_reducible first | exact ih0 _ _ _ _ _ _ _ _ _ | exact spec_AsksOk.mono _ _ | exact spec_AsksText.mono _ _ | exact spec_NumText.mono _ _ | exact spec_OpText.mono _ _ _ _ | exact spec_l21Zero.mono _ _ _ _ _ _ _ _ | exact LeO.refl _ | exact LeO.none _ | refine LeO.ite ?_ ?_ | refine LeO.bind ?_ (fun _ => ?_)) | exact LeO.none _ | refine LeO.ite ?_ ?_ | refine LeO.bind ?_ (fun _ => ?_)
theorem spec_CmdText.mono : ∀ a0 a1 a2 a3 a4 a5 a6 k, LeO (spec_CmdText.f k a0 a1 a2 a3 a4 a5 a6) (spec_CmdText.f (k + 1) a0 a1 a2 a3 a4 a5 a6) := by
 intro a0 a1 a2 a3 a4 a5 a6 k
 have ih0 := spec_CmdText.mono_l k
 unfold spec_CmdText.f
 repeat' first | (with_reducible first | exact ih0 _ _ _ _ _ _ _ _ _ | exact spec_AsksOk.mono _ _ | exact spec_AsksText.mono _ _ | exact spec_NumText.mono _ _ | exact spec_OpText.mono _ _ _ _ | exact spec_l21Zero.mono _ _ _ _ _ _ _ _ | exact LeO.refl _ | exact LeO.none _ | refine LeO.ite ?_ ?_ | refine LeO.bind ?_ (fun _ => ?_)) | exact LeO.none _ | refine LeO.ite ?_ ?_ | refine LeO.bind ?_ (fun _ => ?_)
def spec_CmdText.T14 : Bool × List (List Nat × List Nat) := (true, [([], []), ([0], [0]), ([], []), ([2], [2]), ([3], [3]), ([1, 4], [1, 4]), ([5], [5]), ([], []), ([7], [7]), ([8, 4], [8]), ([6, 9], [6, 9]), ([10, 9, 0, 1, 2, 3, 4, 5, 6, 7, 8, 9, 10], [10])])
def spec_CmdText.B14 : List Nat := [0, 1, 0, 4, 12, 31, 63, 0, 128, 412, 1023, 2047]
theorem spec_CmdText.tab14 : rtab .any (opsOf Try.f39 14) = spec_CmdText.T14 := by kernel_rfl
theorem spec_CmdText.bits14 : waitsOk spec_CmdText.T14.2 spec_CmdText.B14 = true := by kernel_rfl
theorem spec_CmdText.calls (k : Nat) (a0_0 : Int) (a0_1 : Int) (a0_2 : Int) (a0_3 : Int) (a0_4 : ByteArray) (a0_5 : ByteArray) (A0_6 : Option Addr) (c0_6 : Nat) (l0_6 : List ByteArray) (r : ByteArray) (w : World) (hr0_6 : Kd.C Kd.string w A0_6 l0_6.length l0_6) (hc0_6 : l0_6.length ≤ c0_6) (h : spec_CmdText.f k a0_0 a0_1 a0_2 a0_3 a0_4 a0_5 l0_6 = some r) :
  Calls Try.prog 39 #[.agg #[.int .i64 a0_0, .int .i64 a0_1, .int .i64 a0_2, .int .i64 a0_3, .string a0_4, .string a0_5, .slice A0_6 l0_6.length c0_6]] w fun e w' => e = .returned (.string r) ∧ Mem w [] w' [] := by
 have hu35 := Try.underlying35
 have hu32 := Try.underlying32
 have HR0_6 := Aside0.mk hr0_6
 have HC0_6 := Aside0.mk hc0_6
 clear hr0_6 hc0_6
 have HM := Mem.nil w
 have H := h
 clear h
 unfold spec_CmdText.f at H
 go_enter Try.func39, Try.ntmps39
 replace H := BN H; obtain ⟨t554, A4, H⟩ := H
 go_upto_if 6 with (first | ((with_reducible refine gN 1 rfl ?_); refine pB 1 35 [.int .i64 a0_0, .int .i64 a0_1, .int .i64 a0_2, .int .i64 a0_3, .string a0_4, .string a0_5, .slice A0_6 l0_6.length c0_6] HM rfl ?_; clear HM; intro gb553 w2 HM; obtain ⟨_,_,_,_,_,_,_,_,_,_,_,_,_,_⟩ := bk7 (HM.bx 0 rfl)) | ((with_reducible refine gC 75 rfl ?_); refine pC (some 5) rfl #[.agg #[.int .i64 a0_0, .int .i64 a0_1, .int .i64 a0_2, .int .i64 a0_3, .string a0_4, .string a0_5, .slice A0_6 l0_6.length c0_6]] rfl Try.func75 (spec_l21Zero.calls k a0_0 a0_1 a0_2 a0_3 a0_4 a0_5 _ _ l0_6 t554 _ (HM.came HR0_6.out) HC0_6.out A4.out) ?_; rintro e w5 ⟨rfl, hR⟩; refine ⟨_, rfl, ?_⟩; replace HM := HM.call hR; clear hR))
 replace HM := nzM HM
 replace H := IB H
 rcases H with ⟨c6, H⟩ | ⟨c6, H⟩
 ·subst c6
  replace H := BN H; obtain ⟨t555, A8, H⟩ := H
  obtain ⟨_,_,_,_,_,_,_,_,_,_,_,_,_,_⟩ := bk7 (HM.bx 0 rfl)
  go_upto_if 12 with (first | ((with_reducible refine gC 36 rfl ?_); refine pC (some 9) rfl #[.int .i64 a0_0] rfl Try.func36 (spec_l21Word.calls a0_0 t555 _ A8.out) ?_; rintro e w9 ⟨rfl, hd⟩; refine ⟨_, rfl, ?_⟩; replace HM := HM.drawn hd; clear hd; obtain ⟨_,_,_,_,_,_,_,_,_,_,_,_,_,_⟩ := bk7 (HM.bx 0 rfl)))
  replace H := IT H; rcases H with ⟨c11, H⟩ | ⟨c11, H⟩
  ·obtain ⟨c11b0, c11b1⟩ := BE c11
   clear c11
   first|rw [c11b0]|(simp only [i64_w, i32_w]; rw [c11b0])|skip
   replace H := BN H; obtain ⟨t556, A12, H⟩ := H
   obtain rfl := Option.some.inj H
   go_wp2_with (first | ((with_reducible refine gC 74 rfl ?_); refine pC (some 16) rfl #[.agg #[.int .i64 a0_3, .string a0_4, .string a0_5]] rfl Try.func74 (spec_OpText.calls k a0_3 a0_4 a0_5 t556 _ A12.out) ?_; rintro e w13 ⟨rfl, hR⟩; refine ⟨_, rfl, ?_⟩; replace HM := HM.call hR; clear hR))
   go_ret
   exact ⟨ER, (MD HM).pick []⟩
  ·obtain ⟨c11b0, c11b1⟩ := BF c11
   first|rw [c11b0]|(simp only [i64_w, i32_w]; rw [c11b0])|skip
   go_upto_if 17 with (fail)
   replace H := IT H; rcases H with ⟨c14, H⟩ | ⟨c14, H⟩
   ·obtain ⟨c14b0, c14b1⟩ := BE c14
    clear c14
    first|rw [c14b0]|(simp only [i64_w, i32_w]; rw [c14b0])|skip
    replace H := BN H; obtain ⟨t557, A15, H⟩ := H
    replace H := IB H
    rcases H with ⟨c17, H⟩ | ⟨c17, H⟩
    ·subst c17
     go_upto_if 28 with (first | ((with_reducible refine gC 76 rfl ?_); refine pC (some 21) rfl #[.slice A0_6 l0_6.length c0_6] rfl Try.func76 (spec_AsksOk.calls k _ _ l0_6 true _ (HM.came HR0_6.out) HC0_6.out A15.out) ?_; rintro e w16 ⟨rfl, hR⟩; refine ⟨_, rfl, ?_⟩; replace HM := HM.call hR; clear hR; obtain ⟨_,_,_,_,_,_,_,_,_,_,_,_,_,_⟩ := bk7 (HM.bx 0 rfl)))
     replace H := IT H; rcases H with ⟨c19, H⟩ | ⟨c19, H⟩
     ·obtain ⟨c19b0, c19b1⟩ := BE c19
      clear c19
      first|rw [c19b0]|(simp only [i64_w, i32_w]; rw [c19b0])|skip
      obtain rfl := Option.some.inj H
      go_wp2
      go_ret
      exact ⟨ER, (MD HM).pick []⟩
     ·obtain ⟨c19b0, c19b1⟩ := BF c19
      have c19b2 : ¬ (l0_6 = []) := fun h_ => c19 (by rw [h_]; rfl)
      first|rw [c19b0]|(simp only [i64_w, i32_w]; rw [c19b0])|skip
      replace H := GD H; obtain ⟨c20, H⟩ := H
      have c20b0 := eq_true c20
      have c20b1 : decide (t555.size + 1 ≤ 9223372036854775807) = true := decide_eq_true c20
      try have c20b2 : (9223372036854775807 < t555.size + 1) = False := eq_false (Nat.not_lt.2 c20)
      replace H := BN H; obtain ⟨t558, A21, H⟩ := H
      replace H := GD H; obtain ⟨c23, H⟩ := H
      have c23b0 := eq_true c23
      have c23b1 : decide (t555.size + 1 + t558.size ≤ 9223372036854775807) = true := decide_eq_true c23
      try have c23b2 : (9223372036854775807 < t555.size + 1 + t558.size) = False := eq_false (Nat.not_lt.2 c23)
      obtain rfl := Option.some.inj H
      go_wp2_with (first | ((with_reducible refine gC 77 rfl ?_); refine pC (some 33) rfl #[.slice A0_6 l0_6.length c0_6] rfl Try.func77 (spec_AsksText.calls k _ _ l0_6 t558 _ (HM.came HR0_6.out) HC0_6.out A21.out) ?_; rintro e w22 ⟨rfl, hR⟩; refine ⟨_, rfl, ?_⟩; replace HM := HM.call hR; clear hR))
      go_ret
      exact ⟨ER, (MD HM).pick []⟩
    ·subst c17
     obtain rfl := Option.some.inj H
     go_wp2_with (first | ((with_reducible refine gC 76 rfl ?_); refine pC (some 21) rfl #[.slice A0_6 l0_6.length c0_6] rfl Try.func76 (spec_AsksOk.calls k _ _ l0_6 false _ (HM.came HR0_6.out) HC0_6.out A15.out) ?_; rintro e w16 ⟨rfl, hR⟩; refine ⟨_, rfl, ?_⟩; replace HM := HM.call hR; clear hR))
     go_ret
     exact ⟨ER, (MD HM).pick []⟩
   ·obtain ⟨c14b0, c14b1⟩ := BF c14
    first|rw [c14b0]|(simp only [i64_w, i32_w]; rw [c14b0])|skip
    go_upto_if 35 with (fail)
    replace H := IT H; rcases H with ⟨c24, H⟩ | ⟨c24, H⟩
    ·obtain ⟨c24b0, c24b1⟩ := BE c24
     clear c24
     first|rw [c24b0]|(simp only [i64_w, i32_w]; rw [c24b0])|skip
     have HC25 := Aside0.mk H
     clear H
     go_upto_region 12 with (fail)
     go_cut [46] (fun v46 wc => ∃ (kq : Nat) (x46_24 : Bool), v46 = .bool x46_24 ∧ Aside0 (spec_CmdText.j0 kq t555 x46_24 a0_0 a0_1 a0_2 a0_3 a0_4 a0_5 l0_6 = some r) ∧ Aside0 (kq ≤ k) ∧ Mem w [] wc [box 35 gb553 [.int .i64 a0_0, .int .i64 a0_1, .int .i64 a0_2, .int .i64 a0_3, .string a0_4, .string a0_5, .slice A0_6 l0_6.length c0_6]])
     case first =>
      have H := HC25.out
      clear HC25
      replace H := BN H; obtain ⟨t559, A26, H⟩ := H
      replace H := IB H
      rcases H with ⟨c28, H⟩ | ⟨c28, H⟩
      ·subst c28
       replace H := BN H; obtain ⟨t560, A30, H⟩ := H
       have H' := Aside0.mk H
       clear H
       go_wp2_with (first | ((with_reducible refine gC 63 rfl ?_); refine pC (some 39) rfl #[.int .i64 a0_1] rfl Try.func63 (spec_l01Num.calls a0_1 true _ A26.out) ?_; rintro e w27 ⟨rfl, hd⟩; refine ⟨_, rfl, ?_⟩; replace HM := HM.drawn hd; clear hd; obtain ⟨_,_,_,_,_,_,_,_,_,_,_,_,_,_⟩ := bk7 (HM.bx 0 rfl)) | ((with_reducible refine gC 63 rfl ?_); refine pC (some 44) rfl #[.int .i64 a0_2] rfl Try.func63 (spec_l01Num.calls a0_2 t560 _ A30.out) ?_; rintro e w31 ⟨rfl, hd⟩; refine ⟨_, rfl, ?_⟩; replace HM := HM.drawn hd; clear hd))
       go_meet
       case rel => exact ⟨_, (!t560), RS, H', ⟨by first | omega | exact Nat.le_refl _⟩, (MD HM).pick [0]⟩
      ·subst c28
       have H' := Aside0.mk H
       clear H
       go_wp2_with (first | ((with_reducible refine gC 63 rfl ?_); refine pC (some 39) rfl #[.int .i64 a0_1] rfl Try.func63 (spec_l01Num.calls a0_1 false _ A26.out) ?_; rintro e w27 ⟨rfl, hd⟩; refine ⟨_, rfl, ?_⟩; replace HM := HM.drawn hd; clear hd))
       go_meet
       case rel => exact ⟨_, (true), RS, H', ⟨by first | omega | exact Nat.le_refl _⟩, (MD HM).pick [0]⟩
     case rest =>
      clear HC25 HM
      obtain ⟨kq, x46_24, rfl, HA, HJ24, HM⟩ := hcut
      cases kq with
      | zero => exact absurd HA.out (by simp [spec_CmdText.j0])
      | succ kj24 =>
       have H := HA.out
       clear HA
       simp only [spec_CmdText.j0] at H
       go_upto_if 46 with (fail)
       replace H := IB H
       rcases H with ⟨c32, H⟩ | ⟨c32, H⟩
       ·subst c32
        obtain rfl := Option.some.inj H
        go_wp2
        go_ret
        exact ⟨ER, (MD HM).pick []⟩
       ·subst c32
        try go_wp2
        replace H := GD H; obtain ⟨c33, H⟩ := H
        have c33b0 := eq_true c33
        have c33b1 : decide (t555.size + 1 ≤ 9223372036854775807) = true := decide_eq_true c33
        try have c33b2 : (9223372036854775807 < t555.size + 1) = False := eq_false (Nat.not_lt.2 c33)
        replace H := BN H; obtain ⟨t561, A34, H⟩ := H
        replace H := GD H; obtain ⟨c35, H⟩ := H
        have c35b0 := eq_true c35
        have c35b1 : decide (t555.size + 1 + t561.size ≤ 9223372036854775807) = true := decide_eq_true c35
        try have c35b2 : (9223372036854775807 < t555.size + 1 + t561.size) = False := eq_false (Nat.not_lt.2 c35)
        replace H := GD H; obtain ⟨c36, H⟩ := H
        have c36b0 := eq_true c36
        have c36b1 : decide (t555.size + 1 + t561.size + 1 ≤ 9223372036854775807) = true := decide_eq_true c36
        try have c36b2 : (9223372036854775807 < t555.size + 1 + t561.size + 1) = False := eq_false (Nat.not_lt.2 c36)
        replace H := BN H; obtain ⟨t562, A37, H⟩ := H
        replace H := GD H; obtain ⟨c38, H⟩ := H
        have c38b0 := eq_true c38
        have c38b1 : decide (t555.size + 1 + t561.size + 1 + t562.size ≤ 9223372036854775807) = true := decide_eq_true c38
        try have c38b2 : (9223372036854775807 < t555.size + 1 + t561.size + 1 + t562.size) = False := eq_false (Nat.not_lt.2 c38)
        refine RGN 12 [0, 1, 2, 3, 4, 5, 6, 7, 8, 9, 10, 11] (fun a0 b a w' => a = putSel a0 b [(0, 47, .string t555), (1, 48, .string (t555 ++ (⟨#[32]⟩ : ByteArray))), (2, 49, .pointer (some ⟨gb553, 1, none⟩)), (3, 50, .int .i64 a0_1), (4, 51, .string t561), (5, 52, .string ((t555 ++ (⟨#[32]⟩ : ByteArray)) ++ t561)), (6, 53, .string (((t555 ++ (⟨#[32]⟩ : ByteArray)) ++ t561) ++ (⟨#[32]⟩ : ByteArray))), (7, 54, .pointer (some ⟨gb553, 2, none⟩)), (8, 55, .int .i64 a0_2), (9, 56, .string t562), (10, 57, .string ((((t555 ++ (⟨#[32]⟩ : ByteArray)) ++ t561) ++ (⟨#[32]⟩ : ByteArray)) ++ t562)), (11, 2, .string ((((t555 ++ (⟨#[32]⟩ : ByteArray)) ++ t561) ++ (⟨#[32]⟩ : ByteArray)) ++ t562))] ∧ Mem w [] w' [box 35 gb553 [.int .i64 a0_0, .int .i64 a0_1, .int .i64 a0_2, .int .i64 a0_3, .string a0_4, .string a0_5, .slice A0_6 l0_6.length c0_6]]) spec_CmdText.tab14 spec_CmdText.bits14 ?_ ?_ ?_
        ·exact ⟨PS0' rfl _, (HM.drew).pick [0]⟩
        ·clear HM
         refine SY ?_ ?_
         ·intro b a w ha HM hb hon hoff K hK
          have e3 := PG ha 3
          exact VL (.string t555) (hK.out _ _ ⟨PUT ha 0 hb, HM⟩)
         refine SY ?_ ?_
         ·intro b a w ha HM hb hon hoff K hK
          have e47 := PE ha 0 hon
          exact VL (.string (t555 ++ (⟨#[32]⟩ : ByteArray))) (hK.out _ _ ⟨PUT ha 1 hb, HM⟩)
         refine SY ?_ ?_
         ·intro b a w ha HM hb hon hoff K hK
          have e1 := PG ha 1
          exact VL (.pointer (some ⟨gb553, 1, none⟩)) (hK.out _ _ ⟨PUT ha 2 hb, HM⟩)
         refine SY ?_ ?_
         ·intro b a w ha HM hb hon hoff K hK
          obtain ⟨_,_,_,_,_,_,_,_,_,_,_,_,_,_⟩ := bk7 (HM.bx 0 rfl)
          have e49 := PE ha 2 hon
          exact VL (.int .i64 a0_1) (hK.out _ _ ⟨PUT ha 3 hb, HM⟩)
         refine SY ?_ ?_
         ·intro b a w ha HM hb hon hoff K hK
          have e50 := PE ha 3 hon
          refine ST (eC (some 51) rfl #[.int .i64 a0_1] rfl Try.func78 (spec_NumText.calls kj24 a0_1 t561 _ A34.out) ?_ (hargs := by (simp only [List.map_toArray, List.map_cons, List.map_nil, evc, eval_of e50]) <;> rfl))
          rintro e w44 ⟨rfl, hb⟩
          refine ⟨_, rfl, ?_⟩
          replace HM := HM.below hb
          clear hb
          exact hK.out _ _ ⟨PUT ha 4 hb, (HM).pick [0]⟩
         refine SY ?_ ?_
         ·intro b a w ha HM hb hon hoff K hK
          have e48 := PE ha 1 hon
          have e51 := PE ha 4 hon
          exact VL (.string ((t555 ++ (⟨#[32]⟩ : ByteArray)) ++ t561)) (hK.out _ _ ⟨PUT ha 5 hb, HM⟩)
         refine SY ?_ ?_
         ·intro b a w ha HM hb hon hoff K hK
          have e52 := PE ha 5 hon
          exact VL (.string (((t555 ++ (⟨#[32]⟩ : ByteArray)) ++ t561) ++ (⟨#[32]⟩ : ByteArray))) (hK.out _ _ ⟨PUT ha 6 hb, HM⟩)
         refine SY ?_ ?_
         ·intro b a w ha HM hb hon hoff K hK
          have e1 := PG ha 1
          exact VL (.pointer (some ⟨gb553, 2, none⟩)) (hK.out _ _ ⟨PUT ha 7 hb, HM⟩)
         refine SY ?_ ?_
         ·intro b a w ha HM hb hon hoff K hK
          obtain ⟨_,_,_,_,_,_,_,_,_,_,_,_,_,_⟩ := bk7 (HM.bx 0 rfl)
          have e54 := PE ha 7 hon
          exact VL (.int .i64 a0_2) (hK.out _ _ ⟨PUT ha 8 hb, HM⟩)
         refine SY ?_ ?_
         ·intro b a w ha HM hb hon hoff K hK
          have e55 := PE ha 8 hon
          refine ST (eC (some 56) rfl #[.int .i64 a0_2] rfl Try.func78 (spec_NumText.calls kj24 a0_2 t562 _ A37.out) ?_ (hargs := by (simp only [List.map_toArray, List.map_cons, List.map_nil, evc, eval_of e55]) <;> rfl))
          rintro e w46 ⟨rfl, hb⟩
          refine ⟨_, rfl, ?_⟩
          replace HM := HM.below hb
          clear hb
          exact hK.out _ _ ⟨PUT ha 9 hb, (HM).pick [0]⟩
         refine SY ?_ ?_
         ·intro b a w ha HM hb hon hoff K hK
          have e53 := PE ha 6 hon
          have e56 := PE ha 9 hon
          exact VL (.string ((((t555 ++ (⟨#[32]⟩ : ByteArray)) ++ t561) ++ (⟨#[32]⟩ : ByteArray)) ++ t562)) (hK.out _ _ ⟨PUT ha 10 hb, HM⟩)
         refine SY ?_ ?_
         ·intro b a w ha HM hb hon hoff K hK
          have e57 := PE ha 10 hon
          exact VL (.string ((((t555 ++ (⟨#[32]⟩ : ByteArray)) ++ t561) ++ (⟨#[32]⟩ : ByteArray)) ++ t562)) (hK.out _ _ ⟨PUT ha 11 hb, HM⟩)
         exact steps_nil
        rintro _ w47 ⟨rfl, HM⟩
        simp only [putSel, if_true, Act.put, List.setIfInBounds_toArray, List.set_cons_zero, List.set_cons_succ, gt_iff_lt, ge_iff_le]
        obtain rfl := Option.some.inj H
        go_wp2
        go_ret
        exact ⟨ER, (MD HM).pick []⟩
    ·obtain ⟨c24b0, c24b1⟩ := BF c24
     first|rw [c24b0]|(simp only [i64_w, i32_w]; rw [c24b0])|skip
     go_upto_if 58 with (fail)
     replace H := IT H; rcases H with ⟨c48, H⟩ | ⟨c48, H⟩
     ·obtain ⟨c48b0, c48b1⟩ := BE c48
      clear c48
      first|rw [c48b0]|(simp only [i64_w, i32_w]; rw [c48b0])|skip
      replace H := BN H; obtain ⟨t563, A49, H⟩ := H
      go_upto_if 63 with (first | ((with_reducible refine gC 63 rfl ?_); refine pC (some 62) rfl #[.int .i64 a0_1] rfl Try.func63 (spec_l01Num.calls a0_1 t563 _ A49.out) ?_; rintro e w50 ⟨rfl, hd⟩; refine ⟨_, rfl, ?_⟩; replace HM := HM.drawn hd; clear hd))
      replace H := IB H
      rcases H with ⟨c51, H⟩ | ⟨c51, H⟩
      ·subst c51
       replace H := GD H; obtain ⟨c52, H⟩ := H
       have c52b0 := eq_true c52
       have c52b1 : decide (t555.size + 1 ≤ 9223372036854775807) = true := decide_eq_true c52
       try have c52b2 : (9223372036854775807 < t555.size + 1) = False := eq_false (Nat.not_lt.2 c52)
       replace H := BN H; obtain ⟨t564, A54, H⟩ := H
       replace H := GD H; obtain ⟨c56, H⟩ := H
       have c56b0 := eq_true c56
       have c56b1 : decide (t555.size + 1 + t564.size ≤ 9223372036854775807) = true := decide_eq_true c56
       try have c56b2 : (9223372036854775807 < t555.size + 1 + t564.size) = False := eq_false (Nat.not_lt.2 c56)
       obtain rfl := Option.some.inj H
       obtain ⟨_,_,_,_,_,_,_,_,_,_,_,_,_,_⟩ := bk7 (HM.bx 0 rfl)
       go_wp2_with (first | ((with_reducible refine gC 78 rfl ?_); refine pC (some 68) rfl #[.int .i64 a0_1] rfl Try.func78 (spec_NumText.calls k a0_1 t564 _ A54.out) ?_; rintro e w55 ⟨rfl, hb⟩; refine ⟨_, rfl, ?_⟩; replace HM := HM.below hb; clear hb))
       go_ret
       exact ⟨ER, (MD HM).pick []⟩
      ·subst c51
       obtain rfl := Option.some.inj H
       go_wp2
       go_ret
       exact ⟨ER, (MD HM).pick []⟩
     ·obtain ⟨c48b0, c48b1⟩ := BF c48
      first|rw [c48b0]|(simp only [i64_w, i32_w]; rw [c48b0])|skip
      obtain rfl := Option.some.inj H
      go_wp2
      go_ret
      exact ⟨ER, (MD HM).pick []⟩
 ·subst c6
  obtain rfl := Option.some.inj H
  go_wp2
  go_ret
  exact ⟨ER, (MD HM).pick []⟩
mutual
def spec_TextCmd.l0 : Nat → ByteArray → List ByteArray → Int → Int → Int → Int → Int → ByteArray → ByteArray → Option (Int × Int × Int × Int × ByteArray × ByteArray × List ByteArray × Bool)
 | 0, _, _, _, _, _, _, _, _, _ => none
 | k + 1, x0, x4, x6, x570000, x570001, x570002, x570003, x570004, x570005 => if x6 ≤ 7 then ((spec_l21Word.f x6).bind fun t570 => (if 0 < (x4.length : Int) then (if t570.toList = (rdOf ByteArray.empty x4 0).toList then (if (rdOf ByteArray.empty x4 0).toList = ([] : List UInt8) then (spec_TextCmd.l0 k x0 x4 (wrap64 (x6 + 1)) x570000 x570001 x570002 x570003 x570004 x570005) else (spec_TextCmd.l0 k x0 x4 (wrap64 (x6 + 1)) x6 x570001 x570002 x570003 x570004 x570005)) else (spec_TextCmd.l0 k x0 x4 (wrap64 (x6 + 1)) x570000 x570001 x570002 x570003 x570004 x570005)) else (none))) else (if x570000 = 1 then ((spec_l21Num.f k x4 1).bind fun t573 => ((spec_l21Num.f k x4 2).bind fun t574 => (spec_TextCmd.j1 k x0 x570000 t573 t574 x570003 x570004 x570005 ([] : List ByteArray)))) else (if x570000 = 6 then ((spec_l21Num.f k x4 1).bind fun t575 => (spec_TextCmd.j1 k x0 x570000 t575 x570002 x570003 x570004 x570005 ([] : List ByteArray))) else (if x570000 = 3 then ((some (([] : List ByteArray) : List ByteArray)).bind fun y576 => (if 1 ≤ (x4.length : Int) then ((some (x4.drop 1 : List ByteArray)).bind fun y579 => (if y576.length + y579.length < 8796093022208 then (spec_TextCmd.j1 k x0 x570000 x570001 x570002 x570003 x570004 x570005 (y576 ++ y579)) else (none))) else (none))) else (if x570000 = 0 then ((spec_TextOp.f k x0).bind fun bt586 => (spec_TextCmd.j1 k x0 2 x570001 x570002 bt586.1 bt586.2.1 bt586.2.2.1 ([] : List ByteArray))) else (spec_TextCmd.j1 k x0 x570000 x570001 x570002 x570003 x570004 x570005 ([] : List ByteArray))))))
def spec_TextCmd.j1 : Nat → ByteArray → Int → Int → Int → Int → ByteArray → ByteArray → List ByteArray → Option (Int × Int × Int × Int × ByteArray × ByteArray × List ByteArray × Bool)
 | 0, _, _, _, _, _, _, _, _ => none
 | k + 1, x0, x570000, x570001, x570002, x570003, x570004, x570005, x570006 => if x0.toList = ([] : List UInt8) then (some (0, 0, 0, 0, (⟨#[]⟩ : ByteArray), (⟨#[]⟩ : ByteArray), ([] : List ByteArray), false)) else ((spec_CmdText.f k x570000 x570001 x570002 x570003 x570004 x570005 x570006).bind fun t590 => (if t590.toList = x0.toList then (some (x570000, x570001, x570002, x570003, x570004, x570005, x570006, true)) else (some (0, 0, 0, 0, (⟨#[]⟩ : ByteArray), (⟨#[]⟩ : ByteArray), ([] : List ByteArray), false))))
end
def spec_TextCmd.f (k : Nat) (a0 : ByteArray) : Option (Int × Int × Int × Int × ByteArray × ByteArray × List ByteArray × Bool) := (spec_Cut.f k a0).bind fun t566 => (spec_TextCmd.l0 k a0 t566 1 0 0 0 0 (⟨#[]⟩ : ByteArray) (⟨#[]⟩ : ByteArray))
theorem spec_TextCmd.mono_l : ∀ k, (∀ y0 y1 y2 y3 y4 y5 y6 y7 y8, LeO (spec_TextCmd.l0 k y0 y1 y2 y3 y4 y5 y6 y7 y8) (spec_TextCmd.l0 (k + 1) y0 y1 y2 y3 y4 y5 y6 y7 y8)) ∧ (∀ y0 y1 y2 y3 y4 y5 y6 y7, LeO (spec_TextCmd.j1 k y0 y1 y2 y3 y4 y5 y6 y7) (spec_TextCmd.j1 (k + 1) y0 y1 y2 y3 y4 y5 y6 y7))
 | 0 => ⟨fun _ _ _ _ _ _ _ _ _ r h => by simp [spec_TextCmd.l0] at h, fun _ _ _ _ _ _ _ _ r h => by simp [spec_TextCmd.j1] at h⟩
 | k + 1 => by
  obtain ⟨ih0, ih1⟩ := spec_TextCmd.mono_l k
  refine ⟨?_, ?_⟩
  ·intro y0 y1 y2 y3 y4 y5 y6 y7 y8
   unfold spec_TextCmd.l0
   repeat' first | (with_reducible first | exact ih0 _ _ _ _ _ _ _ _ _ | exact ih1 _ _ _ _ _ _ _ _ | exact spec_CmdText.mono _ _ _ _ _ _ _ _ | exact spec_Cut.mono _ _ | exact spec_TextOp.mono _ _ | exact spec_l21Num.mono _ _ _ | exact LeO.refl _ | exact LeO.none _ | refine LeO.ite ?_ ?_ | refine LeO.bind ?_ (fun _ => ?_)) | exact LeO.none _ | refine LeO.ite ?_ ?_ | refine LeO.bind ?_ (fun _ => ?_)
  ·intro y0 y1 y2 y3 y4 y5 y6 y7
   unfold spec_TextCmd.j1
   repeat' first | (with_reducible first | exact ih0 _ _ _ _ _ _ _ _ _ | exact ih1 _ _ _ _ _ _ _ _ | exact spec_CmdText.mono _ _ _ _ _ _ _ _ | exact spec_Cut.mono _ _ | exact spec_TextOp.mono _ _ | exact spec_l21Num.mono _ _ _ | exact LeO.refl _ | exact LeO.none _ | refine LeO.ite ?_ ?_ | refine LeO.bind ?_ (fun _ => ?_)) | exact LeO.none _ | refine LeO.ite ?_ ?_ | refine LeO.bind ?_ (fun _ => ?_)
theorem spec_TextCmd.mono : ∀ a0 k, LeO (spec_TextCmd.f k a0) (spec_TextCmd.f (k + 1) a0) := by
 intro a0 k
 obtain ⟨ih0, ih1⟩ := spec_TextCmd.mono_l k
 unfold spec_TextCmd.f
 repeat' first | (with_reducible first | exact ih0 _ _ _ _ _ _ _ _ _ | exact ih1 _ _ _ _ _ _ _ _ | exact spec_CmdText.mono _ _ _ _ _ _ _ _ | exact spec_Cut.mono _ _ | exact spec_TextOp.mono _ _ | exact spec_l21Num.mono _ _ _ | exact LeO.refl _ | exact LeO.none _ | refine LeO.ite ?_ ?_ | refine LeO.bind ?_ (fun _ => ?_)) | exact LeO.none _ | refine LeO.ite ?_ ?_ | refine LeO.bind ?_ (fun _ => ?_)
theorem spec_TextCmd.z0 {P : Prop} (h : P := by have := HK1.out; first | omega | exact Nat.le_refl _) : P := h
theorem spec_TextCmd.calls (k : Nat) (a0 : ByteArray) (r1 : Int) (r2 : Int) (r3 : Int) (r4 : Int) (r5 : ByteArray) (r6 : ByteArray) (r7 : List ByteArray) (r8 : Bool) (w : World)  (h : spec_TextCmd.f k a0 = some (r1, r2, r3, r4, r5, r6, r7, r8)) :
  Calls Try.prog 11 #[.string a0] w fun e w' => ∃ v6_ : Value, e = .returned (.tuple #[.agg #[.int .i64 r1, .int .i64 r2, .int .i64 r3, .int .i64 r4, .string r5, .string r6, v6_], .bool r8]) ∧ Mem w [] w' [rowR Kd.string 9 v6_ r7] := by
 have hu35 := Try.underlying35
 have hu32 := Try.underlying32
 have HM := Mem.nil w
 have H := h
 clear h
 unfold spec_TextCmd.f at H
 go_enter Try.func11, Try.ntmps11
 replace H := BN H; obtain ⟨t566, A3, H⟩ := H
 have H' := Aside0.mk H
 clear H
 go_wp2_with (first | ((with_reducible refine gN 2 rfl ?_); refine pB 2 35 [.int .i64 0, .int .i64 0, .int .i64 0, .int .i64 0, .string (⟨#[]⟩ : ByteArray), .string (⟨#[]⟩ : ByteArray), .slice none 0 0] HM rfl ?_; clear HM; intro gb565 w2 HM) | ((with_reducible refine gC 22 rfl ?_); refine pC (some 8) rfl #[.string a0] rfl Try.func22 (spec_Cut.calls k a0 t566 _ A3.out) ?_; rintro e w4 ⟨v567, rfl, hR⟩; refine ⟨_, rfl, ?_⟩; replace HM := HM.call hR; clear hR) | ((with_reducible refine gN 5 rfl ?_); refine pB 5 35 [.int .i64 0, .int .i64 0, .int .i64 0, .int .i64 0, .string (⟨#[]⟩ : ByteArray), .string (⟨#[]⟩ : ByteArray), .slice none 0 0] HM rfl ?_; clear HM; intro gb569 w5 HM) | ((with_reducible refine gS 5 rfl ?_); refine pS 2 5 0 [.int .i64 0, .int .i64 0, .int .i64 0, .int .i64 0, .string (⟨#[]⟩ : ByteArray), .string (⟨#[]⟩ : ByteArray), .slice none 0 0] HM rfl rfl ?_; clear HM; intro w6 HM))
 repeat (go_quiet (first | ((with_reducible refine gN 2 rfl ?_); refine pB 2 35 [.int .i64 0, .int .i64 0, .int .i64 0, .int .i64 0, .string (⟨#[]⟩ : ByteArray), .string (⟨#[]⟩ : ByteArray), .slice none 0 0] HM rfl ?_; clear HM; intro gb565 w2 HM) | ((with_reducible refine gC 22 rfl ?_); refine pC (some 8) rfl #[.string a0] rfl Try.func22 (spec_Cut.calls k a0 t566 _ A3.out) ?_; rintro e w4 ⟨v567, rfl, hR⟩; refine ⟨_, rfl, ?_⟩; replace HM := HM.call hR; clear hR) | ((with_reducible refine gN 5 rfl ?_); refine pB 5 35 [.int .i64 0, .int .i64 0, .int .i64 0, .int .i64 0, .string (⟨#[]⟩ : ByteArray), .string (⟨#[]⟩ : ByteArray), .slice none 0 0] HM rfl ?_; clear HM; intro gb569 w5 HM) | ((with_reducible refine gS 5 rfl ?_); refine pS 2 5 0 [.int .i64 0, .int .i64 0, .int .i64 0, .int .i64 0, .string (⟨#[]⟩ : ByteArray), .string (⟨#[]⟩ : ByteArray), .slice none 0 0] HM rfl rfl ?_; clear HM; intro w6 HM)); try go_wp2_with (first | ((with_reducible refine gN 2 rfl ?_); refine pB 2 35 [.int .i64 0, .int .i64 0, .int .i64 0, .int .i64 0, .string (⟨#[]⟩ : ByteArray), .string (⟨#[]⟩ : ByteArray), .slice none 0 0] HM rfl ?_; clear HM; intro gb565 w2 HM) | ((with_reducible refine gC 22 rfl ?_); refine pC (some 8) rfl #[.string a0] rfl Try.func22 (spec_Cut.calls k a0 t566 _ A3.out) ?_; rintro e w4 ⟨v567, rfl, hR⟩; refine ⟨_, rfl, ?_⟩; replace HM := HM.call hR; clear hR) | ((with_reducible refine gN 5 rfl ?_); refine pB 5 35 [.int .i64 0, .int .i64 0, .int .i64 0, .int .i64 0, .string (⟨#[]⟩ : ByteArray), .string (⟨#[]⟩ : ByteArray), .slice none 0 0] HM rfl ?_; clear HM; intro gb569 w5 HM) | ((with_reducible refine gS 5 rfl ?_); refine pS 2 5 0 [.int .i64 0, .int .i64 0, .int .i64 0, .int .i64 0, .string (⟨#[]⟩ : ByteArray), .string (⟨#[]⟩ : ByteArray), .slice none 0 0] HM rfl rfl ?_; clear HM; intro w6 HM)))
 go_loopg [6] k (fun kq v6 w' => ∃ (x6_1 : Int) (x570000_1 : Int), v6 = .int .i64 x6_1 ∧ Aside0 (spec_TextCmd.l0 kq a0 t566 x6_1 x570000_1 0 0 0 (⟨#[]⟩ : ByteArray) (⟨#[]⟩ : ByteArray) = some (r1, r2, r3, r4, r5, r6, r7, r8)) ∧ Aside0 (kq ≤ k) ∧ Mem w [] w' [rowR Kd.string 9 v567 t566, box 35 gb565 [.int .i64 0, .int .i64 0, .int .i64 0, .int .i64 0, .string (⟨#[]⟩ : ByteArray), .string (⟨#[]⟩ : ByteArray), .slice none 0 0], box 35 gb569 [.int .i64 x570000_1, .int .i64 0, .int .i64 0, .int .i64 0, .string (⟨#[]⟩ : ByteArray), .string (⟨#[]⟩ : ByteArray), .slice none 0 0]])
 case atStart => exact ⟨(1), (0), RS, H', ⟨Nat.le_refl _⟩, (MD HM).pick [1, 0, 2]⟩
 case round =>
  clear H' HM
  obtain ⟨x6_1, x570000_1, rfl, HA, HK1, HM⟩ := hrel
  cases gk with
  | zero => exact absurd HA.out (by simp [spec_TextCmd.l0])
  | succ k1 =>
   have H := HA.out
   clear HA
   simp only [spec_TextCmd.l0] at H
   go_upto_if 11 with (fail)
   repeat (go_quiet (fail); go_upto_if 11 with (fail))
   replace H := IT H; rcases H with ⟨c7, H⟩ | ⟨c7, H⟩
   ·have c7b0 := decide_eq_true c7
    clear c7
    first|rw [c7b0]|(simp only [i64_w, i32_w]; rw [c7b0])|skip
    replace H := BN H; obtain ⟨t570, A8, H⟩ := H
    replace H := GD H; obtain ⟨c10, H⟩ := H
    replace c10 : 0 < (t566.length : Int) := c10
    have c10b0 := decide_eq_true c10
    have c10b1 : decide (0 < t566.length) = true := decide_eq_true (by omega)
    have c10b9 : decide (0 < t566.length) = true := decide_eq_true (by omega)
    clear c10
    replace H := IT H; rcases H with ⟨c12, H⟩ | ⟨c12, H⟩
    ·obtain ⟨c12b0, c12b1⟩ := BE c12
     clear c12
     obtain ⟨Xo11, ko11, rfl⟩ := HM.rdR 0 rfl
     have p571 : 0 ≤ (0 : Int) := (by omega)
     have q571 : (0 : Int) < (t566.length : Int) := of_decide_eq_true AS
     obtain ⟨ad571, e571, hx571_0⟩ := Kd.at_string (HM.CR 0 rfl).2.2 0 p571 q571
     cases e571
     have qi571 : (0 < t566.length) = True := eq_true (by omega)
     (try rw [show ((0 : Int)).toNat = 0 from rfl] at hx571_0)
     (try rw [Addr.add_zero'] at hx571_0)
     replace p571 := eq_true p571
     replace q571 := eq_true q571
     have p572 : 0 ≤ (0 : Int) := (by omega)
     have q572 : (0 : Int) < (t566.length : Int) := of_decide_eq_true AS
     obtain ⟨ad572, e572, hx572_0⟩ := Kd.at_string (HM.CR 0 rfl).2.2 0 p572 q572
     obtain rfl := Option.some.inj e572
     have qi572 : (0 < t566.length) = True := eq_true (by omega)
     (try rw [show ((0 : Int)).toNat = 0 from rfl] at hx572_0)
     (try rw [Addr.add_zero'] at hx572_0)
     replace p572 := eq_true p572
     replace q572 := eq_true q572
     go_upto_if 25 with (first | ((with_reducible refine gC 36 rfl ?_); refine pC (some 15) rfl #[.int .i64 x6_1] rfl Try.func36 (spec_l21Word.calls x6_1 t570 _ A8.out) ?_; rintro e w9 ⟨rfl, hd⟩; obtain ⟨nd_, rfl⟩ := hd.out; refine ⟨_, rfl, ?_⟩) | (exact Calls.quiet_of (Calls.mono (spec_l21Word.calls x6_1 t570 _ A8.out) (fun _ _ h_ => And.intro h_.1 h_.2.out))))
     repeat (go_quiet (first | ((with_reducible refine gC 36 rfl ?_); refine pC (some 15) rfl #[.int .i64 x6_1] rfl Try.func36 (spec_l21Word.calls x6_1 t570 _ A8.out) ?_; rintro e w9 ⟨rfl, hd⟩; obtain ⟨nd_, rfl⟩ := hd.out; refine ⟨_, rfl, ?_⟩) | (exact Calls.quiet_of (Calls.mono (spec_l21Word.calls x6_1 t570 _ A8.out) (fun _ _ h_ => And.intro h_.1 h_.2.out)))); go_upto_if 25 with (first | ((with_reducible refine gC 36 rfl ?_); refine pC (some 15) rfl #[.int .i64 x6_1] rfl Try.func36 (spec_l21Word.calls x6_1 t570 _ A8.out) ?_; rintro e w9 ⟨rfl, hd⟩; obtain ⟨nd_, rfl⟩ := hd.out; refine ⟨_, rfl, ?_⟩) | (exact Calls.quiet_of (Calls.mono (spec_l21Word.calls x6_1 t570 _ A8.out) (fun _ _ h_ => And.intro h_.1 h_.2.out)))))
     replace H := IT H; rcases H with ⟨c13, H⟩ | ⟨c13, H⟩
     ·obtain ⟨c13b0, c13b1⟩ := BE c13
      have c13b6 : ((rdOf ByteArray.empty t566 0).toList).isEmpty = true := by first | (rw [c13]; rfl) | (cases h_ : ((rdOf ByteArray.empty t566 0).toList) with | nil => exact absurd h_ c13 | cons _ _ => rfl)
      clear c13
      first|rw [c13b0]|rw [c13b1]|rw [c13b6]|(simp only [bne, c13b6, Bool.not_true, Bool.not_false])|(simp only [i64_w, i32_w]; rw [c13b0])|skip
      have H' := Aside0.mk H
      clear H
      go_wp2
      repeat (go_quiet (fail); try go_wp2_with (fail))
      go_roundg k1
      case measure => have := HK1.out; omega
      case rel => exact ⟨(wrap64 (x6_1 + 1)), (x570000_1), RS, H', ⟨by have := HK1.out; omega⟩, (MD HM).pick [0, 1, 2]⟩
     ·obtain ⟨c13b0, c13b1⟩ := BF c13
      have c13b6 : ((rdOf ByteArray.empty t566 0).toList).isEmpty = false := by first | (rw [c13]; rfl) | (cases h_ : ((rdOf ByteArray.empty t566 0).toList) with | nil => exact absurd h_ c13 | cons _ _ => rfl)
      first|rw [c13b0]|rw [c13b1]|rw [c13b6]|(simp only [bne, c13b6, Bool.not_true, Bool.not_false])|(simp only [i64_w, i32_w]; rw [c13b0])|skip
      have H' := Aside0.mk H
      clear H
      go_wp2_with (first | ((with_reducible refine gS 27 rfl ?_); refine pS 2 27 0 [.int .i64 x6_1] HM rfl rfl ?_; clear HM; intro w14 HM))
      repeat (go_quiet (first | ((with_reducible refine gS 27 rfl ?_); refine pS 2 27 0 [.int .i64 x6_1] HM rfl rfl ?_; clear HM; intro w14 HM)); try go_wp2_with (first | ((with_reducible refine gS 27 rfl ?_); refine pS 2 27 0 [.int .i64 x6_1] HM rfl rfl ?_; clear HM; intro w14 HM)))
      go_roundg k1
      case measure => have := HK1.out; omega
      case rel => exact ⟨(wrap64 (x6_1 + 1)), (x6_1), RS, H', ⟨by have := HK1.out; omega⟩, (MD HM).pick [0, 1, 2]⟩
    ·obtain ⟨c12b0, c12b1⟩ := BF c12
     have H' := Aside0.mk H
     clear H
     obtain ⟨Xo11, ko11, rfl⟩ := HM.rdR 0 rfl
     have p571 : 0 ≤ (0 : Int) := (by omega)
     have q571 : (0 : Int) < (t566.length : Int) := of_decide_eq_true AS
     obtain ⟨ad571, e571, hx571_0⟩ := Kd.at_string (HM.CR 0 rfl).2.2 0 p571 q571
     cases e571
     have qi571 : (0 < t566.length) = True := eq_true (by omega)
     (try rw [show ((0 : Int)).toNat = 0 from rfl] at hx571_0)
     (try rw [Addr.add_zero'] at hx571_0)
     replace p571 := eq_true p571
     replace q571 := eq_true q571
     go_wp2_with (first | ((with_reducible refine gC 36 rfl ?_); refine pC (some 15) rfl #[.int .i64 x6_1] rfl Try.func36 (spec_l21Word.calls x6_1 t570 _ A8.out) ?_; rintro e w9 ⟨rfl, hd⟩; obtain ⟨nd_, rfl⟩ := hd.out; refine ⟨_, rfl, ?_⟩) | (exact Calls.quiet_of (Calls.mono (spec_l21Word.calls x6_1 t570 _ A8.out) (fun _ _ h_ => And.intro h_.1 h_.2.out))))
     repeat (go_quiet (first | ((with_reducible refine gC 36 rfl ?_); refine pC (some 15) rfl #[.int .i64 x6_1] rfl Try.func36 (spec_l21Word.calls x6_1 t570 _ A8.out) ?_; rintro e w9 ⟨rfl, hd⟩; obtain ⟨nd_, rfl⟩ := hd.out; refine ⟨_, rfl, ?_⟩) | (exact Calls.quiet_of (Calls.mono (spec_l21Word.calls x6_1 t570 _ A8.out) (fun _ _ h_ => And.intro h_.1 h_.2.out)))); try go_wp2_with (first | ((with_reducible refine gC 36 rfl ?_); refine pC (some 15) rfl #[.int .i64 x6_1] rfl Try.func36 (spec_l21Word.calls x6_1 t570 _ A8.out) ?_; rintro e w9 ⟨rfl, hd⟩; obtain ⟨nd_, rfl⟩ := hd.out; refine ⟨_, rfl, ?_⟩) | (exact Calls.quiet_of (Calls.mono (spec_l21Word.calls x6_1 t570 _ A8.out) (fun _ _ h_ => And.intro h_.1 h_.2.out)))))
     go_roundg k1
     case measure => have := HK1.out; omega
     case rel => exact ⟨(wrap64 (x6_1 + 1)), (x570000_1), RS, H', ⟨by have := HK1.out; omega⟩, (MD HM).pick [0, 1, 2]⟩
   ·have c7b0 := decide_eq_false c7
    clear c7
    first|rw [c7b0]|(simp only [i64_w, i32_w]; rw [c7b0])|skip
    have HC16 := Aside0.mk H
    clear H
    obtain ⟨_,_,_,_,_,_,_,_,_,_,_,_,_,_⟩ := bk7 (HM.bx 2 rfl)
    go_upto_block 2 with (fail)
    repeat (go_quiet (fail); go_upto_block 2 with (fail))
    go_cut [] (fun wc => ∃ (kq : Nat) (x570000_15 : Int) (x570001_15 : Int) (x570002_15 : Int) (x570003_15 : Int) (x570004_15 : ByteArray) (x570005_15 : ByteArray) (x570006_15 : List ByteArray) (u570006 : Value), Aside0 (spec_TextCmd.j1 kq a0 x570000_15 x570001_15 x570002_15 x570003_15 x570004_15 x570005_15 x570006_15 = some (r1, r2, r3, r4, r5, r6, r7, r8)) ∧ Aside0 (kq ≤ k1) ∧ Mem w [] wc [rowR Kd.string 9 u570006 x570006_15, box 35 gb565 [.int .i64 0, .int .i64 0, .int .i64 0, .int .i64 0, .string (⟨#[]⟩ : ByteArray), .string (⟨#[]⟩ : ByteArray), .slice none 0 0], box 35 gb569 [.int .i64 x570000_15, .int .i64 x570001_15, .int .i64 x570002_15, .int .i64 x570003_15, .string x570004_15, .string x570005_15, u570006]])
    case first =>
     have H := HC16.out
     clear HC16
     go_upto_if 30 with (fail)
     repeat (go_quiet (fail); go_upto_if 30 with (fail))
     replace H := IT H; rcases H with ⟨c17, H⟩ | ⟨c17, H⟩
     ·obtain ⟨c17b0, c17b1⟩ := BE c17
      clear c17
      first|rw [c17b0]|(simp only [i64_w, i32_w]; rw [c17b0])|skip
      replace H := BN H; obtain ⟨t573, A18, H⟩ := H
      replace H := BN H; obtain ⟨t574, A22, H⟩ := H
      have H' := Aside0.mk H
      clear H
      obtain ⟨Xo20, ko20, rfl⟩ := HM.rdR 0 rfl
      go_wp2_with (first | ((with_reducible refine gC 37 rfl ?_); refine pC (some 33) rfl #[.slice Xo20 t566.length ko20, .int .i64 1] rfl Try.func37 (spec_l21Num.calls k1 _ _ t566 1 t573 _ (HM.CR 0 rfl).2.2 (HM.CR 0 rfl).2.1 A18.out) ?_; rintro e w19 ⟨rfl, hR⟩; refine ⟨_, rfl, ?_⟩; replace HM := HM.call hR; clear hR) | ((with_reducible refine gS 34 rfl ?_); refine pS 2 34 1 [.int .i64 t573] HM rfl rfl ?_; clear HM; intro w21 HM) | ((with_reducible refine gC 37 rfl ?_); refine pC (some 36) rfl #[.slice Xo20 t566.length ko20, .int .i64 2] rfl Try.func37 (spec_l21Num.calls k1 _ _ t566 2 t574 _ (HM.CR 0 rfl).2.2 (HM.CR 0 rfl).2.1 A22.out) ?_; rintro e w23 ⟨rfl, hR⟩; refine ⟨_, rfl, ?_⟩; replace HM := HM.call hR; clear hR) | ((with_reducible refine gS 37 rfl ?_); refine pS 2 37 2 [.int .i64 t574] HM rfl rfl ?_; clear HM; intro w24 HM; replace HM := HM.nl Kd.string 9))
      repeat (go_quiet (first | ((with_reducible refine gC 37 rfl ?_); refine pC (some 33) rfl #[.slice Xo20 t566.length ko20, .int .i64 1] rfl Try.func37 (spec_l21Num.calls k1 _ _ t566 1 t573 _ (HM.CR 0 rfl).2.2 (HM.CR 0 rfl).2.1 A18.out) ?_; rintro e w19 ⟨rfl, hR⟩; refine ⟨_, rfl, ?_⟩; replace HM := HM.call hR; clear hR) | ((with_reducible refine gS 34 rfl ?_); refine pS 2 34 1 [.int .i64 t573] HM rfl rfl ?_; clear HM; intro w21 HM) | ((with_reducible refine gC 37 rfl ?_); refine pC (some 36) rfl #[.slice Xo20 t566.length ko20, .int .i64 2] rfl Try.func37 (spec_l21Num.calls k1 _ _ t566 2 t574 _ (HM.CR 0 rfl).2.2 (HM.CR 0 rfl).2.1 A22.out) ?_; rintro e w23 ⟨rfl, hR⟩; refine ⟨_, rfl, ?_⟩; replace HM := HM.call hR; clear hR) | ((with_reducible refine gS 37 rfl ?_); refine pS 2 37 2 [.int .i64 t574] HM rfl rfl ?_; clear HM; intro w24 HM; replace HM := HM.nl Kd.string 9)); try go_wp2_with (first | ((with_reducible refine gC 37 rfl ?_); refine pC (some 33) rfl #[.slice Xo20 t566.length ko20, .int .i64 1] rfl Try.func37 (spec_l21Num.calls k1 _ _ t566 1 t573 _ (HM.CR 0 rfl).2.2 (HM.CR 0 rfl).2.1 A18.out) ?_; rintro e w19 ⟨rfl, hR⟩; refine ⟨_, rfl, ?_⟩; replace HM := HM.call hR; clear hR) | ((with_reducible refine gS 34 rfl ?_); refine pS 2 34 1 [.int .i64 t573] HM rfl rfl ?_; clear HM; intro w21 HM) | ((with_reducible refine gC 37 rfl ?_); refine pC (some 36) rfl #[.slice Xo20 t566.length ko20, .int .i64 2] rfl Try.func37 (spec_l21Num.calls k1 _ _ t566 2 t574 _ (HM.CR 0 rfl).2.2 (HM.CR 0 rfl).2.1 A22.out) ?_; rintro e w23 ⟨rfl, hR⟩; refine ⟨_, rfl, ?_⟩; replace HM := HM.call hR; clear hR) | ((with_reducible refine gS 37 rfl ?_); refine pS 2 37 2 [.int .i64 t574] HM rfl rfl ?_; clear HM; intro w24 HM; replace HM := HM.nl Kd.string 9)))
      go_meet
      case rel => exact ⟨_, (x570000_1), (t573), (t574), (0), ((⟨#[]⟩ : ByteArray)), ((⟨#[]⟩ : ByteArray)), (([] : List ByteArray)), (.slice none 0 0), H', ⟨spec_TextCmd.z0⟩, (MD HM).pick [3, 1, 2]⟩
     ·obtain ⟨c17b0, c17b1⟩ := BF c17
      first|rw [c17b0]|(simp only [i64_w, i32_w]; rw [c17b0])|skip
      go_upto_if 38 with (fail)
      repeat (go_quiet (fail); go_upto_if 38 with (fail))
      replace H := IT H; rcases H with ⟨c25, H⟩ | ⟨c25, H⟩
      ·obtain ⟨c25b0, c25b1⟩ := BE c25
       clear c25
       first|rw [c25b0]|(simp only [i64_w, i32_w]; rw [c25b0])|skip
       replace H := BN H; obtain ⟨t575, A26, H⟩ := H
       have H' := Aside0.mk H
       clear H
       obtain ⟨Xo28, ko28, rfl⟩ := HM.rdR 0 rfl
       go_wp2_with (first | ((with_reducible refine gC 37 rfl ?_); refine pC (some 41) rfl #[.slice Xo28 t566.length ko28, .int .i64 1] rfl Try.func37 (spec_l21Num.calls k1 _ _ t566 1 t575 _ (HM.CR 0 rfl).2.2 (HM.CR 0 rfl).2.1 A26.out) ?_; rintro e w27 ⟨rfl, hR⟩; refine ⟨_, rfl, ?_⟩; replace HM := HM.call hR; clear hR) | ((with_reducible refine gS 42 rfl ?_); refine pS 2 42 1 [.int .i64 t575] HM rfl rfl ?_; clear HM; intro w29 HM; replace HM := HM.nl Kd.string 9))
       repeat (go_quiet (first | ((with_reducible refine gC 37 rfl ?_); refine pC (some 41) rfl #[.slice Xo28 t566.length ko28, .int .i64 1] rfl Try.func37 (spec_l21Num.calls k1 _ _ t566 1 t575 _ (HM.CR 0 rfl).2.2 (HM.CR 0 rfl).2.1 A26.out) ?_; rintro e w27 ⟨rfl, hR⟩; refine ⟨_, rfl, ?_⟩; replace HM := HM.call hR; clear hR) | ((with_reducible refine gS 42 rfl ?_); refine pS 2 42 1 [.int .i64 t575] HM rfl rfl ?_; clear HM; intro w29 HM; replace HM := HM.nl Kd.string 9)); try go_wp2_with (first | ((with_reducible refine gC 37 rfl ?_); refine pC (some 41) rfl #[.slice Xo28 t566.length ko28, .int .i64 1] rfl Try.func37 (spec_l21Num.calls k1 _ _ t566 1 t575 _ (HM.CR 0 rfl).2.2 (HM.CR 0 rfl).2.1 A26.out) ?_; rintro e w27 ⟨rfl, hR⟩; refine ⟨_, rfl, ?_⟩; replace HM := HM.call hR; clear hR) | ((with_reducible refine gS 42 rfl ?_); refine pS 2 42 1 [.int .i64 t575] HM rfl rfl ?_; clear HM; intro w29 HM; replace HM := HM.nl Kd.string 9)))
       go_meet
       case rel => exact ⟨_, (x570000_1), (t575), (0), (0), ((⟨#[]⟩ : ByteArray)), ((⟨#[]⟩ : ByteArray)), (([] : List ByteArray)), (.slice none 0 0), H', ⟨spec_TextCmd.z0⟩, (MD HM).pick [3, 1, 2]⟩
      ·obtain ⟨c25b0, c25b1⟩ := BF c25
       first|rw [c25b0]|(simp only [i64_w, i32_w]; rw [c25b0])|skip
       go_upto_if 43 with (fail)
       repeat (go_quiet (fail); go_upto_if 43 with (fail))
       replace H := IT H; rcases H with ⟨c30, H⟩ | ⟨c30, H⟩
       ·obtain ⟨c30b0, c30b1⟩ := BE c30
        clear c30
        first|rw [c30b0]|(simp only [i64_w, i32_w]; rw [c30b0])|skip
        replace H := BLt H; obtain ⟨y576, Ny576, H⟩ := H
        replace Ny576 := Aside0.mk Ny576
        replace H := GD H; obtain ⟨c32, H⟩ := H
        have c32b0 := eq_true c32
        have c32b1 : decide (1 ≤ (t566.length : Int)) = true := decide_eq_true c32
        clear c32
        replace H := BLt H; obtain ⟨_, rfl, H⟩ := H
        replace H := GD H; obtain ⟨c35, H⟩ := H
        have LMc35 := Aside0.mk c35
        clear c35
        have H' := Aside0.mk H
        clear H
        go_wp2_with (first | ((with_reducible refine gN 45 rfl ?_); refine pL 45 Kd.string 9 ([] : List ByteArray) [] (Reps.none _ _) HM rfl ?_; clear HM; intro v577 w31 HM; replace HM := HM.nm 3 rfl Ny576.out; obtain ⟨Xo33, ko33, rfl⟩ := HM.rdR 0 rfl) | ((with_reducible refine gate_sl (t := 33) rfl ?_); refine pRdf 33 9 Kd.string _ _ 1 t566 Xo33 ko33 rfl Try.underlying33 info9 (HM.CR 0 rfl).2.1 (by omega) (of_decide_eq_true AS) ?_; intro Yx34 bx34 hYx34 hbx34; have HYx34 := Aside0.mk hYx34; have HBx34 := Aside0.mk hbx34; clear hYx34 hbx34) | ((with_reducible refine gate_builtin (b := .append) (xs := #[.tmp 45, .tmp 47]) rfl ?_); refine pA 3 (.tmp 45) (.tmp 47) 33 9 Kd.string v577 y576 (t566.drop 1) Yx34 ((t566.drop 1).length) bx34 HM rfl Try.underlying33 info9 rfl (HYx34.out _ (HM.CR 0 rfl).2.2) (by have h_ := LMc35.out; omega) ?_; clear HM; intro v584 w36 HM; obtain ⟨Xo37, ko37, rfl⟩ := HM.rdR 3 rfl) | ((with_reducible refine gS 49 rfl ?_); refine pS 2 49 6 [.slice Xo37 (y576 ++ (t566.drop 1)).length ko37] HM rfl rfl ?_; clear HM; intro w38 HM))
        repeat (go_quiet (first | ((with_reducible refine gN 45 rfl ?_); refine pL 45 Kd.string 9 ([] : List ByteArray) [] (Reps.none _ _) HM rfl ?_; clear HM; intro v577 w31 HM; replace HM := HM.nm 3 rfl Ny576.out; obtain ⟨Xo33, ko33, rfl⟩ := HM.rdR 0 rfl) | ((with_reducible refine gate_sl (t := 33) rfl ?_); refine pRdf 33 9 Kd.string _ _ 1 t566 Xo33 ko33 rfl Try.underlying33 info9 (HM.CR 0 rfl).2.1 (by omega) (of_decide_eq_true AS) ?_; intro Yx34 bx34 hYx34 hbx34; have HYx34 := Aside0.mk hYx34; have HBx34 := Aside0.mk hbx34; clear hYx34 hbx34) | ((with_reducible refine gate_builtin (b := .append) (xs := #[.tmp 45, .tmp 47]) rfl ?_); refine pA 3 (.tmp 45) (.tmp 47) 33 9 Kd.string v577 y576 (t566.drop 1) Yx34 ((t566.drop 1).length) bx34 HM rfl Try.underlying33 info9 rfl (HYx34.out _ (HM.CR 0 rfl).2.2) (by have h_ := LMc35.out; omega) ?_; clear HM; intro v584 w36 HM; obtain ⟨Xo37, ko37, rfl⟩ := HM.rdR 3 rfl) | ((with_reducible refine gS 49 rfl ?_); refine pS 2 49 6 [.slice Xo37 (y576 ++ (t566.drop 1)).length ko37] HM rfl rfl ?_; clear HM; intro w38 HM)); try go_wp2_with (first | ((with_reducible refine gN 45 rfl ?_); refine pL 45 Kd.string 9 ([] : List ByteArray) [] (Reps.none _ _) HM rfl ?_; clear HM; intro v577 w31 HM; replace HM := HM.nm 3 rfl Ny576.out; obtain ⟨Xo33, ko33, rfl⟩ := HM.rdR 0 rfl) | ((with_reducible refine gate_sl (t := 33) rfl ?_); refine pRdf 33 9 Kd.string _ _ 1 t566 Xo33 ko33 rfl Try.underlying33 info9 (HM.CR 0 rfl).2.1 (by omega) (of_decide_eq_true AS) ?_; intro Yx34 bx34 hYx34 hbx34; have HYx34 := Aside0.mk hYx34; have HBx34 := Aside0.mk hbx34; clear hYx34 hbx34) | ((with_reducible refine gate_builtin (b := .append) (xs := #[.tmp 45, .tmp 47]) rfl ?_); refine pA 3 (.tmp 45) (.tmp 47) 33 9 Kd.string v577 y576 (t566.drop 1) Yx34 ((t566.drop 1).length) bx34 HM rfl Try.underlying33 info9 rfl (HYx34.out _ (HM.CR 0 rfl).2.2) (by have h_ := LMc35.out; omega) ?_; clear HM; intro v584 w36 HM; obtain ⟨Xo37, ko37, rfl⟩ := HM.rdR 3 rfl) | ((with_reducible refine gS 49 rfl ?_); refine pS 2 49 6 [.slice Xo37 (y576 ++ (t566.drop 1)).length ko37] HM rfl rfl ?_; clear HM; intro w38 HM)))
        go_meet
        case rel => exact ⟨_, (x570000_1), (0), (0), (0), ((⟨#[]⟩ : ByteArray)), ((⟨#[]⟩ : ByteArray)), ((y576 ++ (t566.drop 1))), (.slice Xo37 (y576 ++ (t566.drop 1)).length ko37), H', ⟨spec_TextCmd.z0⟩, (MD HM).pick [3, 1, 2]⟩
       ·obtain ⟨c30b0, c30b1⟩ := BF c30
        first|rw [c30b0]|(simp only [i64_w, i32_w]; rw [c30b0])|skip
        go_upto_if 50 with (fail)
        repeat (go_quiet (fail); go_upto_if 50 with (fail))
        replace H := IT H; rcases H with ⟨c39, H⟩ | ⟨c39, H⟩
        ·obtain ⟨c39b0, c39b1⟩ := BE c39
         clear c39
         first|rw [c39b0]|(simp only [i64_w, i32_w]; rw [c39b0])|skip
         replace H := BN H; obtain ⟨⟨t586, t587, t588, t589⟩, A41, H⟩ := H
         have H' := Aside0.mk H
         clear H
         go_wp2_with (first | ((with_reducible refine gS 52 rfl ?_); refine pS 2 52 0 [.int .i64 2] HM rfl rfl ?_; clear HM; intro w40 HM) | ((with_reducible refine gC 38 rfl ?_); refine pC (some 55) rfl #[.string a0] rfl Try.func38 (spec_TextOp.calls k1 a0 t586 t587 t588 t589 _ A41.out) ?_; rintro e w42 ⟨rfl, hR⟩; refine ⟨_, rfl, ?_⟩; replace HM := HM.call hR; clear hR) | ((with_reducible refine gS 58 rfl ?_); refine pS 2 58 3 [.int .i64 t586, .string t587, .string t588] HM rfl rfl ?_; clear HM; intro w43 HM; replace HM := HM.nl Kd.string 9))
         repeat (go_quiet (first | ((with_reducible refine gS 52 rfl ?_); refine pS 2 52 0 [.int .i64 2] HM rfl rfl ?_; clear HM; intro w40 HM) | ((with_reducible refine gC 38 rfl ?_); refine pC (some 55) rfl #[.string a0] rfl Try.func38 (spec_TextOp.calls k1 a0 t586 t587 t588 t589 _ A41.out) ?_; rintro e w42 ⟨rfl, hR⟩; refine ⟨_, rfl, ?_⟩; replace HM := HM.call hR; clear hR) | ((with_reducible refine gS 58 rfl ?_); refine pS 2 58 3 [.int .i64 t586, .string t587, .string t588] HM rfl rfl ?_; clear HM; intro w43 HM; replace HM := HM.nl Kd.string 9)); try go_wp2_with (first | ((with_reducible refine gS 52 rfl ?_); refine pS 2 52 0 [.int .i64 2] HM rfl rfl ?_; clear HM; intro w40 HM) | ((with_reducible refine gC 38 rfl ?_); refine pC (some 55) rfl #[.string a0] rfl Try.func38 (spec_TextOp.calls k1 a0 t586 t587 t588 t589 _ A41.out) ?_; rintro e w42 ⟨rfl, hR⟩; refine ⟨_, rfl, ?_⟩; replace HM := HM.call hR; clear hR) | ((with_reducible refine gS 58 rfl ?_); refine pS 2 58 3 [.int .i64 t586, .string t587, .string t588] HM rfl rfl ?_; clear HM; intro w43 HM; replace HM := HM.nl Kd.string 9)))
         go_meet
         case rel => exact ⟨_, (2), (0), (0), (t586), (t587), (t588), (([] : List ByteArray)), (.slice none 0 0), H', ⟨spec_TextCmd.z0⟩, (MD HM).pick [3, 1, 2]⟩
        ·have c39b0 : (x570000_1 == 0) = false := beq_eq_false_iff_ne.mpr c39
         have c39b1 : (x570000_1 != 0) = true := bne_iff_ne.mpr c39
         first|rw [c39b0]|(simp only [i64_w, i32_w]; rw [c39b0])|skip
         have H' := Aside0.mk H
         clear H
         replace HM := HM.nl Kd.string 9
         go_wp2
         repeat (go_quiet (fail); try go_wp2_with (fail))
         go_meet
         case rel => exact ⟨_, (x570000_1), (0), (0), (0), ((⟨#[]⟩ : ByteArray)), ((⟨#[]⟩ : ByteArray)), (([] : List ByteArray)), (.slice none 0 0), H', ⟨spec_TextCmd.z0⟩, (MD HM).pick [3, 1, 2]⟩
    case rest =>
     clear HC16 HM
     obtain ⟨kq, x570000_15, x570001_15, x570002_15, x570003_15, x570004_15, x570005_15, x570006_15, u570006, HA, HJ15, HM⟩ := hcut
     cases kq with
     | zero => exact absurd HA.out (by simp [spec_TextCmd.j1])
     | succ kj15 =>
      have H := HA.out
      clear HA
      simp only [spec_TextCmd.j1] at H
      replace H := IT H; rcases H with ⟨c44, H⟩ | ⟨c44, H⟩
      ·have c44b0 : (a0.toList == ([] : List UInt8)) = true := beq_iff_eq.mpr c44
       have c44b1 : (a0.toList != ([] : List UInt8)) = false := bne_eq_false_iff_eq.mpr c44
       have c44b6 : (a0.toList).isEmpty = true := by first | (rw [c44]; rfl) | (cases h_ : a0.toList with | nil => exact absurd h_ c44 | cons _ _ => rfl)
       clear c44
       simp only [Option.some.injEq, Prod.mk.injEq] at H
       obtain ⟨rfl, rfl, rfl, rfl, rfl, rfl, rfl, rfl⟩ := H
       go_wp2_with (first | ((with_reducible refine gS 2 rfl ?_); refine pS 1 2 0 [.int .i64 0, .int .i64 0, .int .i64 0, .int .i64 0, .string (⟨#[]⟩ : ByteArray), .string (⟨#[]⟩ : ByteArray), .slice none 0 0] HM rfl rfl ?_; clear HM; intro w45 HM; replace HM := HM.nl Kd.string 9))
       repeat (go_quiet (first | ((with_reducible refine gS 2 rfl ?_); refine pS 1 2 0 [.int .i64 0, .int .i64 0, .int .i64 0, .int .i64 0, .string (⟨#[]⟩ : ByteArray), .string (⟨#[]⟩ : ByteArray), .slice none 0 0] HM rfl rfl ?_; clear HM; intro w45 HM; replace HM := HM.nl Kd.string 9)); try go_wp2_with (first | ((with_reducible refine gS 2 rfl ?_); refine pS 1 2 0 [.int .i64 0, .int .i64 0, .int .i64 0, .int .i64 0, .string (⟨#[]⟩ : ByteArray), .string (⟨#[]⟩ : ByteArray), .slice none 0 0] HM rfl rfl ?_; clear HM; intro w45 HM; replace HM := HM.nl Kd.string 9)))
       refine bodyPost_ret (results_ct rfl _ _ gb565 35 #[.int .i64 0, .int .i64 0, .int .i64 0, .int .i64 0, .string (⟨#[]⟩ : ByteArray), .string (⟨#[]⟩ : ByteArray), .slice none 0 0] (0, 0) _ rfl (HM.bx 1 rfl) Try.underlying35 rfl (by kernel_rfl)) rfl ?_
       exact ⟨_, ER, (MD HM).pick [3]⟩
      ·have c44b0 : (a0.toList == ([] : List UInt8)) = false := beq_eq_false_iff_ne.mpr c44
       have c44b1 : (a0.toList != ([] : List UInt8)) = true := bne_iff_ne.mpr c44
       have c44b6 : (a0.toList).isEmpty = false := by first | (rw [c44]; rfl) | (cases h_ : a0.toList with | nil => exact absurd h_ c44 | cons _ _ => rfl)
       replace H := BN H; obtain ⟨t590, A47, H⟩ := H
       obtain ⟨_,_,_,_,_,_,_,_,_,_,_,_,_,_⟩ := bk7 (HM.bx 2 rfl)
       obtain ⟨Xo49, ko49, rfl⟩ := HM.rdR 0 rfl
       go_upto_if 66 with (first | ((with_reducible refine gC 39 rfl ?_); refine pC (some 63) rfl #[.agg #[.int .i64 x570000_15, .int .i64 x570001_15, .int .i64 x570002_15, .int .i64 x570003_15, .string x570004_15, .string x570005_15, .slice Xo49 x570006_15.length ko49]] rfl Try.func39 (spec_CmdText.calls kj15 x570000_15 x570001_15 x570002_15 x570003_15 x570004_15 x570005_15 _ _ x570006_15 t590 _ (HM.CR 0 rfl).2.2 (HM.CR 0 rfl).2.1 A47.out) ?_; rintro e w48 ⟨rfl, hR⟩; refine ⟨_, rfl, ?_⟩; replace HM := HM.call hR; clear hR))
       repeat (go_quiet (first | ((with_reducible refine gC 39 rfl ?_); refine pC (some 63) rfl #[.agg #[.int .i64 x570000_15, .int .i64 x570001_15, .int .i64 x570002_15, .int .i64 x570003_15, .string x570004_15, .string x570005_15, .slice Xo49 x570006_15.length ko49]] rfl Try.func39 (spec_CmdText.calls kj15 x570000_15 x570001_15 x570002_15 x570003_15 x570004_15 x570005_15 _ _ x570006_15 t590 _ (HM.CR 0 rfl).2.2 (HM.CR 0 rfl).2.1 A47.out) ?_; rintro e w48 ⟨rfl, hR⟩; refine ⟨_, rfl, ?_⟩; replace HM := HM.call hR; clear hR)); go_upto_if 66 with (first | ((with_reducible refine gC 39 rfl ?_); refine pC (some 63) rfl #[.agg #[.int .i64 x570000_15, .int .i64 x570001_15, .int .i64 x570002_15, .int .i64 x570003_15, .string x570004_15, .string x570005_15, .slice Xo49 x570006_15.length ko49]] rfl Try.func39 (spec_CmdText.calls kj15 x570000_15 x570001_15 x570002_15 x570003_15 x570004_15 x570005_15 _ _ x570006_15 t590 _ (HM.CR 0 rfl).2.2 (HM.CR 0 rfl).2.1 A47.out) ?_; rintro e w48 ⟨rfl, hR⟩; refine ⟨_, rfl, ?_⟩; replace HM := HM.call hR; clear hR)))
       replace H := IT H; rcases H with ⟨c50, H⟩ | ⟨c50, H⟩
       ·have c50b0 : (t590.toList == a0.toList) = true := beq_iff_eq.mpr c50
        have c50b1 : (t590.toList != a0.toList) = false := bne_eq_false_iff_eq.mpr c50
        clear c50
        first|rw [c50b0]|(simp only [i64_w, i32_w]; rw [c50b0])|skip
        simp only [Option.some.injEq, Prod.mk.injEq] at H
        obtain ⟨rfl, rfl, rfl, rfl, rfl, rfl, rfl, rfl⟩ := H
        obtain ⟨_,_,_,_,_,_,_,_,_,_,_,_,_,_⟩ := bk7 (HM.bx 2 rfl)
        go_wp2_with (first | ((with_reducible refine gS 2 rfl ?_); refine pS 1 2 0 [.int .i64 x570000_15, .int .i64 x570001_15, .int .i64 x570002_15, .int .i64 x570003_15, .string x570004_15, .string x570005_15, .slice Xo49 x570006_15.length ko49] HM rfl rfl ?_; clear HM; intro w52 HM))
        repeat (go_quiet (first | ((with_reducible refine gS 2 rfl ?_); refine pS 1 2 0 [.int .i64 x570000_15, .int .i64 x570001_15, .int .i64 x570002_15, .int .i64 x570003_15, .string x570004_15, .string x570005_15, .slice Xo49 x570006_15.length ko49] HM rfl rfl ?_; clear HM; intro w52 HM)); try go_wp2_with (first | ((with_reducible refine gS 2 rfl ?_); refine pS 1 2 0 [.int .i64 x570000_15, .int .i64 x570001_15, .int .i64 x570002_15, .int .i64 x570003_15, .string x570004_15, .string x570005_15, .slice Xo49 x570006_15.length ko49] HM rfl rfl ?_; clear HM; intro w52 HM)))
        refine bodyPost_ret (results_ct rfl _ _ gb565 35 #[.int .i64 x570000_15, .int .i64 x570001_15, .int .i64 x570002_15, .int .i64 x570003_15, .string x570004_15, .string x570005_15, .slice Xo49 x570006_15.length ko49] (0, 0) _ rfl (HM.bx 1 rfl) Try.underlying35 rfl (by kernel_rfl)) rfl ?_
        exact ⟨_, ER, (MD HM).pick [0]⟩
       ·have c50b0 : (t590.toList == a0.toList) = false := beq_eq_false_iff_ne.mpr c50
        have c50b1 : (t590.toList != a0.toList) = true := bne_iff_ne.mpr c50
        first|rw [c50b0]|(simp only [i64_w, i32_w]; rw [c50b0])|skip
        simp only [Option.some.injEq, Prod.mk.injEq] at H
        obtain ⟨rfl, rfl, rfl, rfl, rfl, rfl, rfl, rfl⟩ := H
        go_wp2_with (first | ((with_reducible refine gS 2 rfl ?_); refine pS 1 2 0 [.int .i64 0, .int .i64 0, .int .i64 0, .int .i64 0, .string (⟨#[]⟩ : ByteArray), .string (⟨#[]⟩ : ByteArray), .slice none 0 0] HM rfl rfl ?_; clear HM; intro w53 HM; replace HM := HM.nl Kd.string 9))
        repeat (go_quiet (first | ((with_reducible refine gS 2 rfl ?_); refine pS 1 2 0 [.int .i64 0, .int .i64 0, .int .i64 0, .int .i64 0, .string (⟨#[]⟩ : ByteArray), .string (⟨#[]⟩ : ByteArray), .slice none 0 0] HM rfl rfl ?_; clear HM; intro w53 HM; replace HM := HM.nl Kd.string 9)); try go_wp2_with (first | ((with_reducible refine gS 2 rfl ?_); refine pS 1 2 0 [.int .i64 0, .int .i64 0, .int .i64 0, .int .i64 0, .string (⟨#[]⟩ : ByteArray), .string (⟨#[]⟩ : ByteArray), .slice none 0 0] HM rfl rfl ?_; clear HM; intro w53 HM; replace HM := HM.nl Kd.string 9)))
        refine bodyPost_ret (results_ct rfl _ _ gb565 35 #[.int .i64 0, .int .i64 0, .int .i64 0, .int .i64 0, .string (⟨#[]⟩ : ByteArray), .string (⟨#[]⟩ : ByteArray), .slice none 0 0] (0, 0) _ rfl (HM.bx 1 rfl) Try.underlying35 rfl (by kernel_rfl)) rfl ?_
        exact ⟨_, ER, (MD HM).pick [3]⟩
end Go.Proofs.Ytnlnifpehndacaa.G
