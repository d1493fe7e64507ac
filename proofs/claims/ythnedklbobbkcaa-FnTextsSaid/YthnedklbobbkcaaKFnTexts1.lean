/- Part 1 of the claim FnTexts, merged by pack.py (this session's program) out of: the print's words, cut to what is needed; texts that gen.py printed (it runs the kit's print in place); texts of this session. -/
import Derived.Test.YthnedklbobbkcaaProg
import Derived.Below
import Derived.Deep.Draws
import Derived.Deep.AppendLies
import Derived.Maps.AppendAt
import Derived.OwnWalk
import Derived.Laws.BytesArg
import Derived.Laws.MakeOwn
import Derived.Laws.OwnMore
import Derived.Deep.OwnRows
import Derived.Tactics
import Derived.Lib.ConvBytes
import Derived.Laws.Slices
import Derived.WalkKit
import Derived.KernelRfl
import Derived.RowKit3
import Derived.Deep.LoopGhost
import Derived.Deep.QuietTactic
import Derived.BigQuiet
import Derived.WideLaws
import Derived.Deep.DeepCutAuto
import Derived.Deep.CutBlock
import Derived.Deep.RegionHeld3
import Derived.Laws.Rows
import Derived.Lib.AppendStr
import Derived.ArgAppend
import Derived.Laws.IdiomCopy
import Derived.OrdersHeld
import Derived.Laws.BitsLemmas
import Derived.RowKit
import Derived.Shelf.Strings.IndexAnyAll
import Derived.Laws.RangeString
import Derived.Shelf.Strings.Search2
import Derived.Lib.CutLaws
import Derived.Test.YthnedklbobbkcaaKFnTexts0
namespace Go.Proofs.Ythnedklbobbkcaa.Mm
end Go.Proofs.Ythnedklbobbkcaa.Mm
namespace Go.Proofs.Ythnedklbobbkcaa.Sh
end Go.Proofs.Ythnedklbobbkcaa.Sh
set_option maxHeartbeats 8000000
set_option maxRecDepth 100000
namespace Go.Proofs.Ythnedklbobbkcaa.Sh
open Go.RowKit Go.Proofs.YthnedklbobbkcaaW.PrintWords Go.Proofs.YthnedklbobbkcaaW.PrintLast Go.Proofs.YthnedklbobbkcaaW.PrintMore
set_option linter.unusedVariables false
theorem AQ {P : Prop} (h : P := by (try simp only [List.map_toArray, List.map_cons, List.map_nil]); first | done | rfl | (simp only [List.length_drop, List.length_take]; rfl)) : P := h
theorem AS {P : Prop} (h : P := by first | (with_reducible assumption) | assumption) : P := h
theorem RS {P : Prop} (h : P := by first | rfl | (simp; done) | (simp [*]; done)) : P := h
theorem BS {α β : Type} {f : Option α} {g : α → Option β} {r : β} (h : f.bind g = some r) : ∃ t, f = some t ∧ g t = some r := Option.bind_eq_some_iff.mp h
theorem ER {P : Prop} (h : P := by first | rfl | (simp [errW_none, errW_some] <;> rfl) | (simp [*, errW_none, errW_some] <;> rfl)) : P := h
theorem DR {P : Prop} (h : P := by repeat (first | exact Drawn0.refl _ | apply Drawn0.step)) : P := h
theorem HK1 {P : Prop} (h : P := by repeat (first | (with_reducible first | exact HK.out | apply Kept.alloc | apply Kept.drewN | apply Kept.drew) | exact HK.out)) : P := h
theorem bk3 {W : World} {g : Nat} {t : TypeId} {a0 a1 a2 : Value} (h : W.heap[g]? = some (.cells #[a0, a1, a2] t (0, 0))) : W.cell? ⟨g, 0, none⟩ = some a0 ∧ W.cell? ⟨g, 1, none⟩ = some a1 ∧ W.cell? ⟨g, 2, none⟩ = some a2 ∧ W.frozen? ⟨g, 0, none⟩ = false ∧ W.frozen? ⟨g, 1, none⟩ = false ∧ W.frozen? ⟨g, 2, none⟩ = false := ⟨(blk_cell h 0).trans rfl, (blk_cell h 1).trans rfl, (blk_cell h 2).trans rfl, blk_frozen h 0, blk_frozen h 1, blk_frozen h 2⟩
theorem bk5 {W : World} {g : Nat} {t : TypeId} {a0 a1 a2 a3 a4 : Value} (h : W.heap[g]? = some (.cells #[a0, a1, a2, a3, a4] t (0, 0))) : W.cell? ⟨g, 0, none⟩ = some a0 ∧ W.cell? ⟨g, 1, none⟩ = some a1 ∧ W.cell? ⟨g, 2, none⟩ = some a2 ∧ W.cell? ⟨g, 3, none⟩ = some a3 ∧ W.cell? ⟨g, 4, none⟩ = some a4 ∧ W.frozen? ⟨g, 0, none⟩ = false ∧ W.frozen? ⟨g, 1, none⟩ = false ∧ W.frozen? ⟨g, 2, none⟩ = false ∧ W.frozen? ⟨g, 3, none⟩ = false ∧ W.frozen? ⟨g, 4, none⟩ = false := ⟨(blk_cell h 0).trans rfl, (blk_cell h 1).trans rfl, (blk_cell h 2).trans rfl, (blk_cell h 3).trans rfl, (blk_cell h 4).trans rfl, blk_frozen h 0, blk_frozen h 1, blk_frozen h 2, blk_frozen h 3, blk_frozen h 4⟩
theorem bk7 {W : World} {g : Nat} {t : TypeId} {a0 a1 a2 a3 a4 a5 a6 : Value} (h : W.heap[g]? = some (.cells #[a0, a1, a2, a3, a4, a5, a6] t (0, 0))) : W.cell? ⟨g, 0, none⟩ = some a0 ∧ W.cell? ⟨g, 1, none⟩ = some a1 ∧ W.cell? ⟨g, 2, none⟩ = some a2 ∧ W.cell? ⟨g, 3, none⟩ = some a3 ∧ W.cell? ⟨g, 4, none⟩ = some a4 ∧ W.cell? ⟨g, 5, none⟩ = some a5 ∧ W.cell? ⟨g, 6, none⟩ = some a6 ∧ W.frozen? ⟨g, 0, none⟩ = false ∧ W.frozen? ⟨g, 1, none⟩ = false ∧ W.frozen? ⟨g, 2, none⟩ = false ∧ W.frozen? ⟨g, 3, none⟩ = false ∧ W.frozen? ⟨g, 4, none⟩ = false ∧ W.frozen? ⟨g, 5, none⟩ = false ∧ W.frozen? ⟨g, 6, none⟩ = false := ⟨(blk_cell h 0).trans rfl, (blk_cell h 1).trans rfl, (blk_cell h 2).trans rfl, (blk_cell h 3).trans rfl, (blk_cell h 4).trans rfl, (blk_cell h 5).trans rfl, (blk_cell h 6).trans rfl, blk_frozen h 0, blk_frozen h 1, blk_frozen h 2, blk_frozen h 3, blk_frozen h 4, blk_frozen h 5, blk_frozen h 6⟩
end Go.Proofs.Ythnedklbobbkcaa.Sh

namespace Go.Proofs.Ythnedklbobbkcaa.G
open Go.RowKit Go.Proofs.YthnedklbobbkcaaW.PrintWords Go.Proofs.YthnedklbobbkcaaW.PrintLast Go.Proofs.YthnedklbobbkcaaW.PrintMore Go.Proofs.Ythnedklbobbkcaa.Sh
attribute [local go_sem] max2_int min2_int max_two min_two max_three min_three max_four min_four
set_option linter.unusedVariables false
set_option linter.unusedSimpArgs false
def errW : Option Int → Value
 | none => .nilIface
 | some c => .iface 0 (.int .i64 c)
theorem errW_none : errW none = .nilIface := rfl
theorem errW_some (c : Int) : errW (some c) = .iface 0 (.int .i64 c) := rfl
theorem info3 : (Try.prog.info? 3).map (fun i => (i.zero, i.size, i.bytes)) = some (some (.int .i64 0), 1, 8) := by kernel_rfl
theorem info9 : (Try.prog.info? 9).map (fun i => (i.zero, i.size, i.bytes)) = some (some (.string ⟨#[]⟩), 1, 16) := by kernel_rfl
theorem info43 : (Try.prog.info? 43).map (fun i => (i.zero, i.size, i.bytes)) = some (some (.agg #[(.int .i64 0), (.string ⟨#[]⟩), (.string ⟨#[]⟩)]), 3, 40) := by kernel_rfl
theorem info55 : (Try.prog.info? 55).map (fun i => (i.zero, i.size, i.bytes)) = some (some (.agg #[(.int .i64 0), (.int .i64 0), (.int .i64 0), (.int .i64 0), (.string ⟨#[]⟩), (.string ⟨#[]⟩), (.slice none 0 0)]), 7, 88) := by kernel_rfl
theorem info122 : (Try.prog.info? 122).map (fun i => (i.zero, i.size, i.bytes)) = some (some (.agg #[(.string ⟨#[]⟩), (.string ⟨#[]⟩), (.int .i64 0)]), 3, 40) := by kernel_rfl
structure S43 where
 f0 : Int
 f1 : ByteArray
 f2 : ByteArray
def z43 : S43 := ⟨(0 : Int), (⟨#[]⟩ : ByteArray), (⟨#[]⟩ : ByteArray)⟩
def k43 : Kd S43 := Kd.iso (Kd.pair (Kd.int .i64) (Kd.pair Kd.string Kd.string)) (fun x : S43 => (x.f0, x.f1, x.f2))
theorem k43_open {w : World} {x : S43} {cs : List Value} (h : k43.K w x cs) : cs = [.int .i64 x.f0, .string x.f1, .string x.f2] := by
 obtain ⟨_, _, rfl, rfl, ⟨_, _, rfl, rfl, rfl⟩⟩ := h
 exact rfl
theorem k43_mk (w : World) (x : S43)  : k43.K w x [.int .i64 x.f0, .string x.f1, .string x.f2] := ⟨[.int .i64 x.f0], [.string x.f1, .string x.f2], rfl, rfl, ⟨[.string x.f1], [.string x.f2], rfl, rfl, rfl⟩⟩
theorem k43_mkM (w : World) (base : Nat) (ok : Nat → Prop) (x : S43)  : k43.M w base ok x [.int .i64 x.f0, .string x.f1, .string x.f2] := ⟨[.int .i64 x.f0], [.string x.f1, .string x.f2], rfl, rfl, ⟨[.string x.f1], [.string x.f2], rfl, rfl, rfl⟩⟩
def rd_T43 (xs : List S43) (i : Int) : S43 := xs.getD i.toNat z43
theorem at_T43 {w : World} {A : Option Addr} {n : Nat} {xs : List S43} (h : Kd.C k43 w A n xs) (i : Int) (h0 : 0 ≤ i) (h1 : i < n) : ∃ ad , A = some ad ∧ w.cell? (ad.add (i.toNat * 3)) = some (.int .i64 (rd_T43 xs i).f0) ∧ w.cell? ⟨(ad.add (i.toNat * 3)).block, (ad.add (i.toNat * 3)).off + 1, none⟩ = some (.string (rd_T43 xs i).f1) ∧ w.cell? ⟨(ad.add (i.toNat * 3)).block, (ad.add (i.toNat * 3)).off + 2, none⟩ = some (.string (rd_T43 xs i).f2) := by
 obtain ⟨ad, c, e, _, hK, hc0⟩ := Kd.C_get h z43 i h0 h1
 have hc : ∀ j u, c[j]? = some u → w.cell? (ad.add (i.toNat * 3 + j)) = some u := hc0
 obtain rfl := k43_open hK
 exact ⟨ad, e, hc 0 _ rfl, by rw [← add_field _ _ 1 (by omega)]; exact hc 1 _ rfl, by rw [← add_field _ _ 2 (by omega)]; exact hc 2 _ rfl⟩
structure S55 where
 f0 : Int
 f1 : Int
 f2 : Int
 f3 : S43
 f4 : (List ByteArray)
def z55 : S55 := ⟨(0 : Int), (0 : Int), (0 : Int), z43, ([] : List ByteArray)⟩
def k55 : Kd S55 := Kd.iso (Kd.pair (Kd.int .i64) (Kd.pair (Kd.int .i64) (Kd.pair (Kd.int .i64) (Kd.pair k43 (Kd.slice 9 Kd.string))))) (fun x : S55 => (x.f0, x.f1, x.f2, x.f3, x.f4))
theorem k55_open {w : World} {x : S55} {cs : List Value} (h : k55.K w x cs) : ∃ A6 c6, cs = [.int .i64 x.f0, .int .i64 x.f1, .int .i64 x.f2, .int .i64 x.f3.f0, .string x.f3.f1, .string x.f3.f2, .slice A6 x.f4.length c6] ∧ x.f4.length ≤ c6 ∧ Kd.string.C w A6 x.f4.length x.f4 := by
 obtain ⟨_, _, rfl, rfl, ⟨_, _, rfl, rfl, ⟨_, _, rfl, rfl, ⟨_, _, rfl, s3, ⟨A6, c6, rfl, l6, g6⟩⟩⟩⟩⟩ := h
 obtain rfl := k43_open s3
 exact ⟨A6, c6, rfl, l6, g6⟩
theorem k55_mk (w : World) (x : S55) {A6 : Option Addr} {c6 : Nat} (l6 : x.f4.length ≤ c6) (g6 : Kd.string.C w A6 x.f4.length x.f4) : k55.K w x [.int .i64 x.f0, .int .i64 x.f1, .int .i64 x.f2, .int .i64 x.f3.f0, .string x.f3.f1, .string x.f3.f2, .slice A6 x.f4.length c6] := ⟨[.int .i64 x.f0], [.int .i64 x.f1, .int .i64 x.f2, .int .i64 x.f3.f0, .string x.f3.f1, .string x.f3.f2, .slice A6 x.f4.length c6], rfl, rfl, ⟨[.int .i64 x.f1], [.int .i64 x.f2, .int .i64 x.f3.f0, .string x.f3.f1, .string x.f3.f2, .slice A6 x.f4.length c6], rfl, rfl, ⟨[.int .i64 x.f2], [.int .i64 x.f3.f0, .string x.f3.f1, .string x.f3.f2, .slice A6 x.f4.length c6], rfl, rfl, ⟨[.int .i64 x.f3.f0, .string x.f3.f1, .string x.f3.f2], [.slice A6 x.f4.length c6], rfl, (k43_mk w x.f3 ), ⟨A6, c6, rfl, l6, g6⟩⟩⟩⟩⟩
def rd_T55 (xs : List S55) (i : Int) : S55 := xs.getD i.toNat z55
theorem at_T55 {w : World} {A : Option Addr} {n : Nat} {xs : List S55} (h : Kd.C k55 w A n xs) (i : Int) (h0 : 0 ≤ i) (h1 : i < n) : ∃ ad A6 c6, A = some ad ∧ w.cell? (ad.add (i.toNat * 7)) = some (.int .i64 (rd_T55 xs i).f0) ∧ w.cell? ⟨(ad.add (i.toNat * 7)).block, (ad.add (i.toNat * 7)).off + 1, none⟩ = some (.int .i64 (rd_T55 xs i).f1) ∧ w.cell? ⟨(ad.add (i.toNat * 7)).block, (ad.add (i.toNat * 7)).off + 2, none⟩ = some (.int .i64 (rd_T55 xs i).f2) ∧ w.cell? ⟨(ad.add (i.toNat * 7)).block, (ad.add (i.toNat * 7)).off + 3, none⟩ = some (.int .i64 (rd_T55 xs i).f3.f0) ∧ w.cell? ⟨(ad.add (i.toNat * 7)).block, (ad.add (i.toNat * 7)).off + 4, none⟩ = some (.string (rd_T55 xs i).f3.f1) ∧ w.cell? ⟨(ad.add (i.toNat * 7)).block, (ad.add (i.toNat * 7)).off + 5, none⟩ = some (.string (rd_T55 xs i).f3.f2) ∧ w.cell? ⟨(ad.add (i.toNat * 7)).block, (ad.add (i.toNat * 7)).off + 6, none⟩ = some (.slice A6 (rd_T55 xs i).f4.length c6) ∧ (rd_T55 xs i).f4.length ≤ c6 ∧ Kd.string.C w A6 (rd_T55 xs i).f4.length (rd_T55 xs i).f4 := by
 obtain ⟨ad, c, e, _, hK, hc0⟩ := Kd.C_get h z55 i h0 h1
 have hc : ∀ j u, c[j]? = some u → w.cell? (ad.add (i.toNat * 7 + j)) = some u := hc0
 obtain ⟨A6, c6, rfl, l6, g6⟩ := k55_open hK
 exact ⟨ad, A6, c6, e, hc 0 _ rfl, by rw [← add_field _ _ 1 (by omega)]; exact hc 1 _ rfl, by rw [← add_field _ _ 2 (by omega)]; exact hc 2 _ rfl, by rw [← add_field _ _ 3 (by omega)]; exact hc 3 _ rfl, by rw [← add_field _ _ 4 (by omega)]; exact hc 4 _ rfl, by rw [← add_field _ _ 5 (by omega)]; exact hc 5 _ rfl, by rw [← add_field _ _ 6 (by omega)]; exact hc 6 _ rfl, l6, g6⟩
structure S122 where
 f0 : ByteArray
 f1 : ByteArray
 f2 : Int
def z122 : S122 := ⟨(⟨#[]⟩ : ByteArray), (⟨#[]⟩ : ByteArray), (0 : Int)⟩
def k122 : Kd S122 := Kd.iso (Kd.pair Kd.string (Kd.pair Kd.string (Kd.int .i64))) (fun x : S122 => (x.f0, x.f1, x.f2))
theorem k122_open {w : World} {x : S122} {cs : List Value} (h : k122.K w x cs) : cs = [.string x.f0, .string x.f1, .int .i64 x.f2] := by
 obtain ⟨_, _, rfl, rfl, ⟨_, _, rfl, rfl, rfl⟩⟩ := h
 exact rfl
theorem k122_openM {w : World} {base : Nat} {ok : Nat → Prop} {x : S122} {cs : List Value} (h : k122.M w base ok x cs) : cs = [.string x.f0, .string x.f1, .int .i64 x.f2] := by
 obtain ⟨_, _, rfl, rfl, ⟨_, _, rfl, rfl, rfl⟩⟩ := h
 exact rfl
theorem k122_mkM (w : World) (base : Nat) (ok : Nat → Prop) (x : S122)  : k122.M w base ok x [.string x.f0, .string x.f1, .int .i64 x.f2] := ⟨[.string x.f0], [.string x.f1, .int .i64 x.f2], rfl, rfl, ⟨[.string x.f1], [.int .i64 x.f2], rfl, rfl, rfl⟩⟩
def rd_T122 (xs : List S122) (i : Int) : S122 := xs.getD i.toNat z122
theorem at_T122 {w : World} {A : Option Addr} {n : Nat} {xs : List S122} (h : Kd.C k122 w A n xs) (i : Int) (h0 : 0 ≤ i) (h1 : i < n) : ∃ ad , A = some ad ∧ w.cell? (ad.add (i.toNat * 3)) = some (.string (rd_T122 xs i).f0) ∧ w.cell? ⟨(ad.add (i.toNat * 3)).block, (ad.add (i.toNat * 3)).off + 1, none⟩ = some (.string (rd_T122 xs i).f1) ∧ w.cell? ⟨(ad.add (i.toNat * 3)).block, (ad.add (i.toNat * 3)).off + 2, none⟩ = some (.int .i64 (rd_T122 xs i).f2) := by
 obtain ⟨ad, c, e, _, hK, hc0⟩ := Kd.C_get h z122 i h0 h1
 have hc : ∀ j u, c[j]? = some u → w.cell? (ad.add (i.toNat * 3 + j)) = some u := hc0
 obtain rfl := k122_open hK
 exact ⟨ad, e, hc 0 _ rfl, by rw [← add_field _ _ 1 (by omega)]; exact hc 1 _ rfl, by rw [← add_field _ _ 2 (by omega)]; exact hc 2 _ rfl⟩
structure S150 where
 f0 : Bool
 f1 : ByteArray
 f2 : ByteArray
theorem eqA43 (d : Nat) (w : World) (x0 y0 : Int) (x1 y1 : ByteArray) (x2 y2 : ByteArray) :
  (Op.equalIn (d + 2) 43 (.agg #[.int .i64 x0, .string x1, .string x2]) (.agg #[.int .i64 y0, .string y1, .string y2])).run Try.prog w = .ok (x0 == y0 && (x1.toList == y1.toList && (x2.toList == y2.toList))) w := by
 refine eqA_of Try.underlying43 (by kernel_rfl) ?_
 refine eqf_cons (by rfl) (by go_simp; rfl) (by go_simp; rfl) (by go_simp) ?_
 refine eqf_cons (by rfl) (by go_simp; rfl) (by go_simp; rfl) (by go_simp) ?_
 exact eqf_last (by rfl) (by go_simp; rfl) (by go_simp; rfl) (by go_simp)
end Go.Proofs.Ythnedklbobbkcaa.G

namespace Go.Proofs.Ythnedklbobbkcaa.Mm
open Go.RowKit Go.Proofs.YthnedklbobbkcaaW.PrintWords Go.Proofs.YthnedklbobbkcaaW.PrintLast Go.Proofs.YthnedklbobbkcaaW.PrintMore Go.Proofs.Ythnedklbobbkcaa.Sh
set_option linter.unusedVariables false
/-- A thing that is held: what it says of the world, given the blocks that are its own. -/
structure SP where
 At : World → (Nat → Prop) → Prop
 loc : ∀ {w w' : World} {S : Nat → Prop}, At w S → (∀ k, S k → w'.heap[k]? = w.heap[k]?) → At w' S
def emp : SP := ⟨fun _ _ => True, fun _ _ => trivial⟩
def sel (c : Bool) (A B : SP) : SP := match c with
 | true => A
 | false => B
/-- A variable in memory. -/
def box (t : TypeId) (g : Nat) (cs : List Value) : SP := ⟨fun w S => w.heap[g]? = some (.cells cs.toArray t (0, 0)) ∧ S g, fun h hm => ⟨(hm _ h.2).trans h.1, h.2⟩⟩
/-- A row of the call's own (it may begin inside its block). -/
def row {α : Type} (d : Kd α) (e : Nat) (v : Value) (xs : List α) : SP := ⟨fun w S => d.Q e w 0 S v xs, fun h hm => Kd.Q_move h hm⟩
def rowR {α : Type} (d : Kd α) (e : Nat) (v : Value) (xs : List α) : SP := ⟨fun w S => d.R e w 0 S v xs, fun h hm => Kd.R_move h hm⟩
/-- From w to w' nothing has turned but blocks of S and what is new. -/
structure Chg (S : Nat → Prop) (w w' : World) : Prop where
 os : w'.os = w.os
 tape : w'.tape = w.tape
 output : w'.output = w.output
 size : w.heap.size ≤ w'.heap.size
 block : ∀ k, k < w.heap.size → ¬ S k → w'.heap[k]? = w.heap[k]?
theorem Chg.of_below {w w' : World} (h : Below w.heap.size w w') : Chg (fun _ => False) w w' := ⟨h.os, h.tape, h.output, h.size, fun k hk _ => h.block k hk⟩
theorem Chg.of_grown {w w' : World} {r : Option Nat} (h : w.grownBy w' r) : Chg (fun k => r = some k) w w' := ⟨h.os, h.tape, h.output, h.size, fun k hk hn => h.block k hk (fun e => hn e.symm)⟩
theorem Chg.below {w0 w w' : World} {S : Nat → Prop} (h : Chg S w w') (hb : Below w0.heap.size w0 w) (hS : ∀ k, S k → w0.heap.size ≤ k) : Below w0.heap.size w0 w' :=
 hb.trans ⟨h.os, h.tape, h.output, h.size, fun k hk => h.block k (Nat.lt_of_lt_of_le hk hb.size) (fun hs => by have := hS k hs; omega)⟩
theorem Chg.wide {w w' : World} {S S' : Nat → Prop} (h : Chg S w w') (hs : ∀ k, S k → S' k) : Chg S' w w' := ⟨h.os, h.tape, h.output, h.size, fun k hk hn => h.block k hk (fun e => hn (hs k e))⟩
def Sep (w : World) (b : Nat) (N : List SP) : Prop := ∃ S : Nat → Nat → Prop, (∀ (i : Nat) (A : SP), N[i]? = some A → A.At w (S i)) ∧ (∀ i k, S i k → b ≤ k ∧ k < w.heap.size) ∧ (∀ i j k, S i k → S j k → i = j)
/-- What is held: N, beside a frame F that is left alone; below the call's first block nothing has turned. -/
structure Mem (w0 : World) (F : List SP) (w : World) (N : List SP) : Prop where
 bel : Below w0.heap.size w0 w
 sep : Sep w w0.heap.size (F ++ N)
section
variable {w0 w w' : World} {F N M L R : List SP} {A B : SP} {i j : Nat}
theorem Mem.nil (w : World) : Mem w [] w [] := ⟨Below.refl _ _, fun _ _ => False, fun i A h => by simp at h, fun _ _ h => h.elim, fun _ _ _ h => h.elim⟩
theorem Mem.sub (h : Mem w0 F w N) (σ : Nat → Nat) (hσ : ∀ i j, σ i = σ j → i = j) (hM : ∀ j A, (R ++ M)[j]? = some A → (F ++ N)[σ j]? = some A) : Mem w0 R w M := by
 obtain ⟨hb, S, h1, h2, h3⟩ := h
 exact ⟨hb, fun j => S (σ j), fun j A hA => h1 _ A (hM j A hA), fun j k hk => h2 _ k hk, fun i j k hi hj => hσ i j (h3 _ _ k hi hj)⟩
/-- The index under which number j of the new list stood: a list of numbers, each once; beyond it: beyond all. -/
def idx (m : Nat) (l : List Nat) (j : Nat) : Nat := if h : j < l.length then l[j] else m + j
theorem idx_inj {m : Nat} {l : List Nat} (hl : (l.all (· < m) && decide l.Nodup) = true) : ∀ i j, idx m l i = idx m l j → i = j := by
 simp only [Bool.and_eq_true, List.all_eq_true, decide_eq_true_eq] at hl
 obtain ⟨h1, h2⟩ := hl
 intro i j h
 unfold idx at h
 split at h <;> split at h
 ·exact (List.getElem_inj h2).1 h
 ·have := h1 _ (List.getElem_mem (by assumption)); omega
 ·have := h1 _ (List.getElem_mem (by assumption)); omega
 ·omega
/-- Some of what is held, in another order. -/
theorem Mem.pick (h : Mem w0 F w N) (l : List Nat) (hl : (l.all (· < N.length) && decide l.Nodup) = true := by kernel_rfl) (hM : l.map (fun i => N[i]?) = M.map some := by rfl) : Mem w0 F w M := by
 have hlen : l.length = M.length := by have := congrArg List.length hM; simpa using this
 have key : ∀ j A, M[j]? = some A → ∃ hj : j < l.length, N[l[j]]? = some A := by
  intro j A hA
  have hj : j < M.length := (List.getElem?_eq_some_iff.1 hA).1
  have := congrArg (fun z => z[j]?) hM
  simp only [List.getElem?_map, hA] at this
  rw [List.getElem?_eq_getElem (by omega)] at this
  simp only [Option.map_some, Option.some.injEq] at this
  exact ⟨by omega, this⟩
 refine Mem.sub h (fun q => if q < F.length then q else F.length + idx N.length l (q - F.length)) ?_ ?_
 ·intro i j e
  (try dsimp only at e)
  split at e <;> split at e
  ·exact e
  ·omega
  ·omega
  ·have := idx_inj hl _ _ (Nat.add_left_cancel e)
   omega
 ·intro q A hA
  (try dsimp only)
  split
  ·rename_i hq
   rw [List.getElem?_append_left hq] at hA ⊢
   exact hA
  ·rename_i hq
   rw [List.getElem?_append_right (by omega)] at hA
   obtain ⟨hj, hN⟩ := key _ _ hA
   rw [List.getElem?_append_right (by omega), Nat.add_sub_cancel_left]
   unfold idx
   rw [dif_pos hj]
   exact hN
/-- The things of these numbers. -/
def pk (N : List SP) : List Nat → List SP
 | [] => []
 | i :: r => match N[i]? with
  | some A => A :: pk N r
  | none => pk N r
theorem pk_map : ∀ (r : List Nat), r.all (· < N.length) = true → r.map (fun i => N[i]?) = (pk N r).map some
 | [], _ => rfl
 | i :: r, h => by
  rw [List.all_cons, Bool.and_eq_true, decide_eq_true_eq] at h
  unfold pk
  rw [List.getElem?_eq_getElem h.1]
  simp only [List.map_cons, List.getElem?_eq_getElem h.1, pk_map r h.2]
/-- What is given to a call (l) stands alone; the rest (r) joins the frame. -/
theorem Mem.focus (h : Mem w0 F w N) (r l : List Nat) (hl : ((r ++ l).all (· < N.length) && decide (r ++ l).Nodup) = true := by kernel_rfl) (hM : l.map (fun i => N[i]?) = M.map some := by rfl) : Mem w0 (F ++ pk N r) w M := by
 have hr : r.all (· < N.length) = true := by
  rw [Bool.and_eq_true, List.all_append, Bool.and_eq_true] at hl
  exact hl.1.1
 have h1 : Mem w0 F w (pk N r ++ M) := Mem.pick h (r ++ l) hl (by rw [List.map_append, pk_map r hr, hM, List.map_append])
 refine ⟨h1.bel, ?_⟩
 rw [List.append_assoc]
 exact h1.sep
theorem Mem.unfocus (h : Mem w0 (F ++ R) w M) : Mem w0 F w (R ++ M) := ⟨h.bel, by rw [← List.append_assoc]; exact h.sep⟩
theorem Mem.at_ (h : Mem w0 F w N) (hi : N[i]? = some A) : ∃ S, A.At w S ∧ ∀ k, S k → w0.heap.size ≤ k ∧ k < w.heap.size := by
 obtain ⟨hb, S, h1, h2, h3⟩ := h
 exact ⟨S (F.length + i), h1 _ A (by rw [List.getElem?_append_right (by omega), Nat.add_sub_cancel_left]; exact hi), fun k hk => h2 _ k hk⟩
/-- Thing number i: its blocks, and how it may turn. -/
theorem Mem.opn (h : Mem w0 F w N) (hi : N[i]? = some A) : ∃ S : Nat → Prop, A.At w S ∧ (∀ k, S k → w0.heap.size ≤ k ∧ k < w.heap.size) ∧ ∀ (w' : World) (B : SP) (S' : Nat → Prop), B.At w' S' → (∀ k, S' k → (S k ∨ w.heap.size ≤ k) ∧ k < w'.heap.size) → Chg S w w' → Mem w0 F w' (N.set i B) := by
 obtain ⟨hb, S, h1, h2, h3⟩ := h
 have hil : i < N.length := (List.getElem?_eq_some_iff.1 hi).1
 refine ⟨S (F.length + i), h1 (F.length + i) A (by rw [List.getElem?_append_right (by omega), Nat.add_sub_cancel_left]; exact hi), fun k hk => h2 _ k hk, ?_⟩
 intro w' B S' hB hS' hc
 refine ⟨hc.below hb (fun k hk => (h2 _ k hk).1), fun q => if q = F.length + i then S' else S q, ?_, ?_, ?_⟩
 ·intro q D hD
  have e : F ++ N.set i B = (F ++ N).set (F.length + i) B := by rw [List.set_append_right _ _ (by omega), Nat.add_sub_cancel_left]
  rw [e, List.getElem?_set] at hD
  dsimp only
  by_cases hq : q = F.length + i
  ·rw [if_pos hq]
   rw [if_pos hq.symm] at hD
   split at hD
   ·rw [← Option.some.inj hD]; exact hB
   ·cases hD
  ·rw [if_neg hq]
   rw [if_neg (fun e => hq e.symm)] at hD
   exact D.loc (h1 q D hD) (fun k hk => hc.block k (h2 _ k hk).2 (fun hk' => hq (h3 _ _ k hk hk')))
 ·intro q k hk
  (try dsimp only at hk)
  split at hk
  ·have := hS' k hk
   exact ⟨this.1.elim (fun e => (h2 _ k e).1) (fun e => Nat.le_trans hb.size e), this.2⟩
  ·exact ⟨(h2 _ k hk).1, Nat.lt_of_lt_of_le (h2 _ k hk).2 hc.size⟩
 ·intro q p k hq hp
  (try dsimp only at hq hp)
  split at hq <;> split at hp
  ·omega
  ·rcases (hS' k hq).1 with e | e
   ·have := h3 _ _ k e hp; omega
   ·have := (h2 _ k hp).2; omega
  ·rcases (hS' k hp).1 with e | e
   ·have := h3 _ _ k e hq; omega
   ·have := (h2 _ k hq).2; omega
  ·exact h3 _ _ k hq hp
theorem Mem.move (h : Mem w0 F w N) (hc : Chg (fun _ => False) w w') : Mem w0 F w' N := by
 obtain ⟨hb, S, h1, h2, h3⟩ := h
 exact ⟨hc.below hb (fun _ hk => hk.elim), S, fun q D hD => D.loc (h1 q D hD) (fun k hk => hc.block k (h2 _ k hk).2 (fun e => e)), fun q k hk => ⟨(h2 _ k hk).1, Nat.lt_of_lt_of_le (h2 _ k hk).2 hc.size⟩, h3⟩
theorem Mem.below (h : Mem w0 F w N) (hb : Below w.heap.size w w') : Mem w0 F w' N := h.move (Chg.of_below hb)
theorem Mem.drew (h : Mem w0 F w N) : Mem w0 F w.drew N := h.below (below_drew (Below.refl _ _))
theorem Mem.drewN (h : Mem w0 F w N) (n : Nat) : Mem w0 F (w.drewN n) N := h.below (pw_below_drewN (Below.refl _ _) n)
theorem Mem.drawn (h : Mem w0 F w N) (hd : Drawn0 w w') : Mem w0 F w' N := by
 obtain ⟨n, rfl⟩ := hd.out
 exact h.drewN n
/-- Something new. -/
theorem Mem.push (h : Mem w0 F w N) (A : SP) {S' : Nat → Prop} (hA : A.At w' S') (hS : ∀ k, S' k → w.heap.size ≤ k ∧ k < w'.heap.size) (hc : Chg (fun _ => False) w w') : Mem w0 F w' (N ++ [A]) := by
 have h0 := h.move hc
 obtain ⟨hb, S, h1, h2, h3⟩ := h
 refine ⟨h0.bel, fun q => if q = (F ++ N).length then S' else S q, ?_, ?_, ?_⟩
 ·intro q D hD
  rw [← List.append_assoc] at hD
  (try dsimp only)
  split
  ·rename_i hq
   rw [hq, List.getElem?_append_right (Nat.le_refl _), Nat.sub_self] at hD
   obtain rfl : A = D := by simpa using hD
   exact hA
  ·rename_i hq
   have hlt : q < (F ++ N).length := by
    have := (List.getElem?_eq_some_iff.1 hD).1
    rw [List.length_append, List.length_singleton] at this
    omega
   rw [List.getElem?_append_left hlt] at hD
   exact D.loc (h1 q D hD) (fun k hk => hc.block k (h2 _ k hk).2 (fun e => e))
 ·intro q k hk
  (try dsimp only at hk)
  split at hk
  ·exact ⟨Nat.le_trans hb.size (hS k hk).1, (hS k hk).2⟩
  ·exact ⟨(h2 _ k hk).1, Nat.lt_of_lt_of_le (h2 _ k hk).2 hc.size⟩
 ·intro q p k hq hp
  (try dsimp only at hq hp)
  split at hq <;> split at hp
  ·omega
  ·have := (hS k hq).1; have := (h2 _ k hp).2; omega
  ·have := (hS k hp).1; have := (h2 _ k hq).2; omega
  ·exact h3 _ _ k hq hp
/-- A call has ended that was given nothing: what it made is held, too. -/
theorem Mem.call (h : Mem w0 F w N) (k : Mem w [] w' L) : Mem w0 F w' (N ++ L) := by
 have h0 := h.below k.bel
 obtain ⟨hb, S, h1, h2, h3⟩ := h
 obtain ⟨kb, T, k1, k2, k3⟩ := k
 rw [List.nil_append] at k1
 refine ⟨h0.bel, fun q => if q < (F ++ N).length then S q else T (q - (F ++ N).length), ?_, ?_, ?_⟩
 ·intro q D hD
  rw [← List.append_assoc] at hD
  (try dsimp only)
  split
  ·rename_i hq
   rw [List.getElem?_append_left hq] at hD
   exact D.loc (h1 q D hD) (fun k hk => kb.block k (h2 _ k hk).2)
  ·rename_i hq
   rw [List.getElem?_append_right (by omega)] at hD
   exact k1 _ D hD
 ·intro q k hk
  (try dsimp only at hk)
  split at hk
  ·exact ⟨(h2 _ k hk).1, Nat.lt_of_lt_of_le (h2 _ k hk).2 kb.size⟩
  ·exact ⟨Nat.le_trans hb.size (k2 _ k hk).1, (k2 _ k hk).2⟩
 ·intro q p k hq hp
  (try dsimp only at hq hp)
  split at hq <;> split at hp
  ·exact h3 _ _ k hq hp
  ·have := (h2 _ k hq).2; have := (k2 _ k hp).1; omega
  ·have := (h2 _ k hp).2; have := (k2 _ k hq).1; omega
  ·have := k3 _ _ k hq hp; omega
/-- Thing number i is told otherwise. -/
theorem Mem.tell (h : Mem w0 F w N) (hi : N[i]? = some A) (B : SP) (hB : ∀ S, A.At w S → B.At w S) : Mem w0 F w (N.set i B) := by
 obtain ⟨S, hA, hS, k⟩ := h.opn hi
 exact k w B S (hB S hA) (fun k hk => ⟨.inl hk, (hS k hk).2⟩) ⟨rfl, rfl, rfl, Nat.le_refl _, fun _ _ _ => rfl⟩
-- reads
theorem Mem.bx {t g : Nat} {cs : List Value} (h : Mem w0 F w N) (i : Nat) (hi : N[i]? = some (box t g cs)) : w.heap[g]? = some (.cells cs.toArray t (0, 0)) := by
 obtain ⟨S, hA, _⟩ := h.at_ hi
 exact hA.1
theorem Mem.q {α : Type} {d : Kd α} {e : Nat} {v : Value} {xs : List α} (h : Mem w0 F w N) (i : Nat) (hi : N[i]? = some (row d e v xs)) : ∃ S, d.Q e w 0 S v xs := by
 obtain ⟨S, hA, _⟩ := h.at_ hi
 exact ⟨S, hA⟩
/-- A row's form, its room, and what is read of it. -/
theorem Mem.rd {α : Type} {d : Kd α} {e : Nat} {v : Value} {xs : List α} (h : Mem w0 F w N) (i : Nat) (hi : N[i]? = some (row d e v xs)) : ∃ X c, v = .slice X xs.length c := by
 obtain ⟨S, hq⟩ := h.q i hi
 obtain ⟨X, c, hv, _⟩ := Kd.Q_slice hq
 exact ⟨X, c, hv⟩
theorem Mem.C {α : Type} {d : Kd α} {e n c : Nat} {X : Option Addr} {xs : List α} (h : Mem w0 F w N) (i : Nat) (hi : N[i]? = some (row d e (.slice X n c) xs)) : n = xs.length ∧ n ≤ c ∧ d.C w X xs.length xs := by
 obtain ⟨S, hq⟩ := h.q i hi
 exact Kd.Q_reads' hq
theorem Mem.rdR {α : Type} {d : Kd α} {e : Nat} {v : Value} {xs : List α} (h : Mem w0 F w N) (i : Nat) (hi : N[i]? = some (rowR d e v xs)) : ∃ X c, v = .slice X xs.length c := by
 obtain ⟨S, hq, _⟩ := h.at_ hi
 exact Kd.R_slice hq
theorem Mem.CR {α : Type} {d : Kd α} {e n c : Nat} {X : Option Addr} {xs : List α} (h : Mem w0 F w N) (i : Nat) (hi : N[i]? = some (rowR d e (.slice X n c) xs)) : n = xs.length ∧ n ≤ c ∧ d.C w X xs.length xs := by
 obtain ⟨S, hq, _⟩ := h.at_ hi
 exact Kd.R_reads' hq
/-- A queue that begins where its block begins is a row. -/
theorem R_of_Q0 {α : Type} {d : Kd α} {e g n c : Nat} {w : World} {base : Nat} {ok : Nat → Prop} {xs : List α} (h : d.Q e w base ok (.slice (some ⟨g, 0, none⟩) n c) xs) (hc : 0 < c) (hs : 0 < d.sz) : d.R e w base ok (.slice (some ⟨g, 0, none⟩) n c) xs := by
 obtain ⟨h0, inner, ⟨hl, ho⟩, hr⟩ := h
 refine ⟨h0, inner, ⟨hl, ?_⟩, hr⟩
 rcases ho with ⟨_, A, hv, _⟩ | ⟨g', off, cap, cur, hv, hb, hh, hnc, hcm, hcs, ht⟩
 ·injection hv with _ _ h3
  omega
 ·injection hv with ha h2 h3
  injection ha with ha
  injection ha with hg hoff
  have : off = 0 := by
   rcases Nat.eq_zero_or_pos off with h | h
   ·exact h
   ·have := Nat.mul_pos h hs
    omega
  subst this
  subst hg
  subst h3
  refine .inr ⟨g, c, cur, by rw [h2], hb, hh, hnc, by omega, by rw [hcs, Nat.zero_add], ?_⟩
  rw [Nat.zero_mul, List.drop_zero] at ht
  exact ht
/-- An empty row is always there. -/
theorem Mem.nl {α : Type} (h : Mem w0 F w N) (d : Kd α) (e : Nat) : Mem w0 F w (N ++ [rowR d e (.slice none 0 0) []]) := h.push _ (S' := fun _ => False) (Kd.R_nil d e w 0 _) (fun _ h => h.elim) ⟨rfl, rfl, rfl, Nat.le_refl _, fun _ _ _ => rfl⟩
theorem Mem.form {α : Type} {d : Kd α} {e n c : Nat} {X : Option Addr} {xs : List α} (h : Mem w0 F w N) (i : Nat) (hi : N[i]? = some (rowR d e (.slice X n c) xs)) (hp : 0 < xs.length) : ∃ g, X = some ⟨g, 0, none⟩ := by
 obtain ⟨S, hq, _⟩ := h.at_ hi
 obtain ⟨g, cap, hv, _⟩ := Kd.R_form hq hp
 injection hv with h1
 exact ⟨g, h1⟩
/-- The cells of element j. -/
theorem Mem.el {α : Type} {d : Kd α} {e g n c : Nat} {xs : List α} (h : Mem w0 F w N) (i : Nat) (hi : N[i]? = some (rowR d e (.slice (some ⟨g, 0, none⟩) n c) xs)) (z : α) (j : Int) (h0 : 0 ≤ j) (h1 : j < n) (cells : List Value) (ho : ∀ ok cs, d.M w 0 ok (xs.getD j.toNat z) cs → cs = cells) :
  (∀ q u, cells[q]? = some u → w.cell? ⟨g, j.toNat * d.sz + q, none⟩ = some u) ∧ ∀ q, w.frozen? ⟨g, j.toNat * d.sz + q, none⟩ = false := by
 obtain ⟨S, hq, _⟩ := h.at_ hi
 obtain ⟨cs, _, hm, hc, hf⟩ := Kd.R_elem hq z j h0 h1
 obtain rfl := ho _ cs hm
 exact ⟨hc, hf⟩
theorem Mem.el3 {α : Type} {d : Kd α} {e g n c : Nat} {xs : List α} (h : Mem w0 F w N) (i : Nat) (hi : N[i]? = some (rowR d e (.slice (some ⟨g, 0, none⟩) n c) xs)) (z : α) (j : Int) (h0 : 0 ≤ j) (h1 : j < n) (c0 c1 c2 : Value) (ho : ∀ ok cs, d.M w 0 ok (xs.getD j.toNat z) cs → cs = [c0, c1, c2]) (hs : d.sz = 3 := by rfl) :
  w.cell? ⟨g, j.toNat * 3, none⟩ = some c0 ∧ w.cell? ⟨g, j.toNat * 3 + 1, none⟩ = some c1 ∧ w.cell? ⟨g, j.toNat * 3 + 2, none⟩ = some c2 ∧ w.frozen? ⟨g, j.toNat * 3, none⟩ = false ∧ w.frozen? ⟨g, j.toNat * 3 + 1, none⟩ = false ∧ w.frozen? ⟨g, j.toNat * 3 + 2, none⟩ = false := by
 obtain ⟨hc, hf⟩ := h.el i hi z j h0 h1 [c0, c1, c2] ho
 rw [hs] at hc hf
 exact ⟨hc 0 _ rfl, hc 1 _ rfl, hc 2 _ rfl, hf 0, hf 1, hf 2⟩
/-- A name for a row's elements. -/
theorem Mem.nm {α : Type} {d : Kd α} {e : Nat} {v : Value} {xs y : List α} (h : Mem w0 F w N) (i : Nat) (hi : N[i]? = some (rowR d e v xs)) (hy : y = xs) : Mem w0 F w (N.set i (rowR d e v y)) := h.tell hi _ (fun S hA => hy ▸ hA)
theorem Mem.str {P : Program} {src dst e e' : TypeId} {v : Value} {xs : List Int} (h : Mem w0 F w N) (i : Nat) (hi : N[i]? = some (rowR (Kd.int .u8) e' v xs)) (hs : P.underlying src = some (.slice e)) (he : P.underlying e = some (.int .u8)) (hd : P.underlying dst = some .string) : (convert src dst v).run P w = .ok (.string (strOfNums xs)) w := by
 obtain ⟨S, hq, _⟩ := h.at_ hi
 exact own_string hs he hd (Kd.own_of_R hq)
theorem Mem.toQ {α : Type} {d : Kd α} {e : Nat} {v : Value} {xs : List α} (h : Mem w0 F w N) (i : Nat) (hi : N[i]? = some (rowR d e v xs)) : Mem w0 F w (N.set i (row d e v xs)) := h.tell hi _ (fun S hA => Kd.Q_of_R hA)
theorem Mem.cell {p : Addr} {v : Value} (h : Mem w0 F w N) (hc : w0.cell? p = some v) : w.cell? p = some v := (h.bel.cell (World.block_lt_of_cell? w0 _ hc)).trans hc
theorem Mem.came {α : Type} {d : Kd α} {n : Nat} {X : Option Addr} {xs : List α} (h : Mem w0 F w N) (hc : d.C w0 X n xs) : d.C w X n xs := Kd.C_below hc h.bel
end
end Go.Proofs.Ythnedklbobbkcaa.Mm

namespace Go.Proofs.Ythnedklbobbkcaa.Mm
open Go.RowKit Go.Proofs.YthnedklbobbkcaaW.PrintWords Go.Proofs.YthnedklbobbkcaaW.PrintLast Go.Proofs.YthnedklbobbkcaaW.PrintMore Go.Proofs.Ythnedklbobbkcaa.Sh
set_option linter.unusedVariables false
section
variable {P : Program} {ops : Array Oper} {rest : List Oper} {o : Oper} {a : Act} {Q : Exit → Act → World → Prop} {K : Act → World → Prop} {w0 W W0 : World} {F N L : List SP} {A : SP} {α : Type}
/-- An event in a plain region. -/
theorem PL (h : ∀ K : Act → World → Prop, (∀ a w, wpList P ops Q rest a w → K a w) → Region.wanted o (yielded ops a.tmps) = true → Oper.wp P o a W K Q) (hg : Region.wanted o (yielded ops a.tmps) = true := by rfl) : wpList P ops Q (o :: rest) a W := by
 unfold wpList
 rw [if_pos hg]
 exact .inl (h _ (fun _ _ h => h) hg)
/-- An event as_ a step of a region that draws. -/
theorem ST (h : Oper.wp P o a W K Q) (hw : Region.wanted o (yielded ops a.tmps) = true := by rfl) : if Region.wanted o (yielded ops a.tmps) = true then Oper.wp P o a W K Q else K (a.put o.dst undef) W := by
 rw [if_pos hw]
 exact h
theorem wp_value {v : Value} {w1 : World} (hrun : (execOp a.eval o).run P W = .ok (.value v) w1) (h : K (a.put o.dst v) w1) : Oper.wp P o a W K Q := by
 unfold Oper.wp
 rw [hrun]
 exact h
/-- A variable in memory. -/
theorem eB (d : Tmp) (T : TypeId) (cs : List Value) (hM : Mem w0 F W0 N) (hd : o.dst = some d) (h : ∀ g w1, Mem w0 F w1 (N ++ [box T g cs]) → K (a.put o.dst (.pointer (some ⟨g, 0, none⟩))) w1)
  (hq : Drawn0 W0 W := by repeat (first | exact Drawn0.refl _ | apply Drawn0.step)) (hrun : (execOp a.eval o).run P W = .ok (.value (.pointer (some ⟨W.heap.size, 0, none⟩))) (W.alloc (.cells cs.toArray T (0, 0))) := by first | (go_simp; done) | (go_simp; rfl)) : Oper.wp P o a W K Q :=
 wp_value hrun (h _ _ ((hM.drawn hq).push (box T W.heap.size cs) (S' := fun k => k = W.heap.size) ⟨blk_new W _, rfl⟩ (fun k hk => by subst hk; exact ⟨Nat.le_refl _, by simp⟩) (Chg.of_below (below_alloc (Below.refl _ _) _))))
/-- A literal. -/
theorem eL (d : Tmp) (kd : Kd α) (e : Nat) (xs : List α) (inner : List Value) (hrep : Reps (kd.M W 0 (fun _ => False)) kd.sz xs inner) (hM : Mem w0 F W0 N) (hd : o.dst = some d) (h : ∀ v w1, Mem w0 F w1 (N ++ [rowR kd e v xs]) → K (a.put o.dst v) w1)
  (hq : Drawn0 W0 W := by repeat (first | exact Drawn0.refl _ | apply Drawn0.step)) (hm : xs.length ≤ 9223372036854775807 := by simp) (hrun : (execOp a.eval o).run P W = .ok (.value (.slice (some ⟨W.heap.size, 0, none⟩) xs.length xs.length)) (W.alloc (.cells inner.toArray e)) := by first | (go_simp; done) | (go_simp; rfl)) : Oper.wp P o a W K Q := by
 refine wp_value hrun (h _ _ ((hM.drawn hq).push (rowR kd e _ xs) (S' := fun k => k = W.heap.size) ⟨fun k hk => ?_, inner, ?_, ?_⟩ (fun k hk => by subst hk; exact ⟨Nat.le_refl _, by simp⟩) (Chg.of_below (below_alloc (Below.refl _ _) _))))
 ·have : W.heap.size = k := by simpa [Value.ownBlock] using hk
  exact this.symm
 ·have h2 := World.ownsRow_lit (base := 0) (e := e) (size := kd.sz) W inner.toArray xs.length (Nat.zero_le _) (by simpa [maxLen] using hm) (by simpa using hrep.1)
  simpa using h2
 ·exact hrep.imp_ (fun p c hp => kd.M_mono (fun k (hk : False ∧ _) => hk.1.elim) (Kd.M_below (kd.M_bound hp) (below_alloc (Below.refl _ _) _)))
/-- append(v, ys...) onto a row of the call's own (number i). Rr: what is known of a read element's cells. -/
theorem eA (i : Nat) (s x : Operand) (t e : TypeId) (d : Kd α) (v : Value) (xs ys : List α) (X : Option Addr) (m c : Nat) {Rr : α → List Value → Prop} {z : Value} {bytes : Nat} (hw : Region.wanted o (yielded ops a.tmps) = true) (hM : Mem w0 F W0 N) (ho : o.op = .call { callee := .builtin .append, args := #[s, x], argTypes := #[t, t] })
  (ht : P.underlying t = some (.slice e)) (hinfo : (P.info? e).map (fun i => (i.zero, i.size, i.bytes)) = some (some z, d.sz, bytes)) (hi : N[i]? = some (rowR d e v xs)) (HR : ReadsRow Rr d.sz W X m ys) (hl : (xs.length + m) * bytes ≤ 140737488355328)
  (h : ∀ v1 w1, Mem w0 F w1 (N.set i (rowR d e v1 (xs ++ ys))) → K (a.put o.dst v1) w1)
  (hq : Drawn0 W0 W := by repeat (first | exact Drawn0.refl _ | apply Drawn0.step)) (hKM : ∀ x cs, Rr x cs → d.M W 0 (fun _ => False) x cs := by exact fun _ _ h => h) (hs : a.eval s = v := by first | rfl | (simp only [List.length_drop, List.length_take, List.length_append, List.length_set, List.length_cons, List.length_nil, Int.reduceToNat]; rfl)) (hx : a.eval x = .slice X m c := by first | rfl | (simp only [List.length_drop, List.length_take, List.length_append, List.length_set, List.length_cons, List.length_nil, Int.reduceToNat]; rfl)) (hz : z.cells.size = d.sz := by rfl) (hs0 : 0 < d.sz := by decide) (hb0 : 0 < bytes := by omega) : Oper.wp P o a W K Q := by
 obtain ⟨S, hA, hS, fin⟩ := (hM.drawn hq).opn hi
 have key := Kd.R_append_rows_step (P := P) (Q := Q) (Kc := K) (w0 := W) d 0 hw s x t e z bytes ho ht hinfo hz hs0 hb0 v xs ys X m c (fun k => S k ∨ W.heap.size ≤ k) (fun _ => False) hs hx (Kd.R_mono hA (fun _ h => .inl h)) HR hKM (fun _ h => h.elim) (fun _ h => .inr h) (Below.mono (Below.refl W.heap.size W) (Nat.zero_le _)) (Nat.zero_le _) hl
  (fun v1 w1 h1 _ h3 _ => h v1 w1 (fin w1 _ _ (Kd.R_bound h1) (fun k hk => ⟨hk.1, hk.2.2.1⟩) ((Chg.of_grown h3).wide (fun k hk => hA.1 k hk))))
 rwa [if_pos hw] at key
/-- append([]T(nil), ys...): a row is new. -/
theorem eAn (s x : Operand) (t e : TypeId) (d : Kd α) (ys : List α) (X : Option Addr) (m c : Nat) {Rr : α → List Value → Prop} {z : Value} {bytes : Nat} (hw : Region.wanted o (yielded ops a.tmps) = true) (hM : Mem w0 F W0 N) (ho : o.op = .call { callee := .builtin .append, args := #[s, x], argTypes := #[t, t] })
  (ht : P.underlying t = some (.slice e)) (hinfo : (P.info? e).map (fun i => (i.zero, i.size, i.bytes)) = some (some z, d.sz, bytes)) (HR : ReadsRow Rr d.sz W X m ys) (hl : m * bytes ≤ 140737488355328)
  (h : ∀ v1 w1, Mem w0 F w1 (N ++ [rowR d e v1 ys]) → K (a.put o.dst v1) w1)
  (hq : Drawn0 W0 W := by repeat (first | exact Drawn0.refl _ | apply Drawn0.step)) (hKM : ∀ x cs, Rr x cs → d.M W 0 (fun _ => False) x cs := by exact fun _ _ h => h) (hs : a.eval s = .slice none 0 0 := by first | rfl | (simp only [List.length_drop, List.length_take, List.length_append, List.length_set, List.length_cons, List.length_nil, Int.reduceToNat]; rfl)) (hx : a.eval x = .slice X m c := by first | rfl | (simp only [List.length_drop, List.length_take, List.length_append, List.length_set, List.length_cons, List.length_nil, Int.reduceToNat]; rfl)) (hz : z.cells.size = d.sz := by rfl) (hs0 : 0 < d.sz := by decide) (hb0 : 0 < bytes := by omega) : Oper.wp P o a W K Q := by
 have hM1 := hM.drawn hq
 have key := Kd.R_append_rows_step (P := P) (Q := Q) (Kc := K) (w0 := W) d 0 hw s x t e z bytes ho ht hinfo hz hs0 hb0 (.slice none 0 0) [] ys X m c (fun k => W.heap.size ≤ k) (fun _ => False) hs hx (Kd.R_nil _ _ _ _ _) HR hKM (fun _ h => h.elim) (fun _ h => h) (Below.mono (Below.refl W.heap.size W) (Nat.zero_le _)) (Nat.zero_le _) (by simpa using hl)
  (fun v1 w1 h1 _ h3 _ => h v1 w1 (hM1.push _ (Kd.R_bound h1) (fun k hk => ⟨hk.1, hk.2.2.1⟩) ((Chg.of_grown h3).wide (fun k hk => by simp [Value.ownBlock] at hk))))
 rwa [if_pos hw] at key
/-- Cells off, off + 1, .. get new values. -/
def putAt (cs : List Value) (off : Nat) (seg : List Value) : List Value := cs.take off ++ seg ++ cs.drop (off + seg.length)
/-- A store into a variable. -/
theorem eS (i : Nat) (p : Tmp) (off : Nat) (seg : List Value) {T g : Nat} {cs : List Value} {t : TypeId} {x : Operand} (hM : Mem w0 F W0 N) (ho : o.op = .store t (.tmp p) x) (hi : N[i]? = some (box T g cs)) (h : ∀ w1, Mem w0 F w1 (N.set i (box T g (putAt cs off seg))) → K a w1)
  (hfit : (decide (off + seg.length ≤ cs.length) && seg.all (·.oneCell')) = true := by rfl) (hp : a.eval (.tmp p) = .pointer (some ⟨g, off, none⟩) := by rfl) (hx : (a.eval x).cells.toList = seg := by first | rfl | (simp only [List.length_drop, List.length_take, List.length_append, List.length_set, List.length_cons, List.length_nil, Int.reduceToNat]; rfl)) (ht : (P.info? t).map (·.size) = some seg.length := by kernel_rfl)
  (hN : o.dst = none := by rfl) (hq : Drawn0 W0 W := by repeat (first | exact Drawn0.refl _ | apply Drawn0.step)) : Oper.wp P o a W K Q := by
 obtain ⟨S, ⟨hA, hg⟩, hS, fin⟩ := (hM.drawn hq).opn hi
 simp only [Bool.and_eq_true, decide_eq_true_eq, List.all_eq_true] at hfit
 have hr := run_store_run (P := P) (w := W) (g := g) (o := off) t (a.eval x) seg hA hx ht (by simpa using hfit.1) (fun q hq => hfit.2 q hq)
 obtain ⟨cur', h3, h4, h5⟩ := setCells_row seg off W cs.toArray hA (by simpa using hfit.1)
 obtain ⟨s1, s2, s3, s4⟩ := setCells_same g seg off W
 have he : cur' = (putAt cs off seg).toArray := by
  apply Array.toList_inj.1
  rw [h5]
  simp [putAt]
 unfold Oper.wp execOp
 simp only [ho, hp, Sem.run_bind, Sem.run_pure, Result.andThen_ok, hr]
 show K (a.put o.dst undef) _
 rw [hN]
 refine h _ (fin _ _ (fun k => k = g) ⟨by rw [h3, he], rfl⟩ (fun k hk => by subst hk; exact ⟨.inl hg, blk_lt h3⟩) ⟨s1, s2, s3, by rw [s4]; exact Nat.le_refl _, fun k _ hn => setCells_far seg _ k (fun e => hn (e ▸ hg))⟩)
/-- A call of a Go function. -/
theorem eC {f : FuncId} {fn : Func} {as_ : Array Operand} {ts : Array TypeId} {R : Ending → World → Prop} (dd : Option Tmp) (hd : o.dst = dd) (args : Array Value) (hop : o.op = .call { callee := .value (.func f), args := as_, argTypes := ts }) (hf : P.funcs[f]? = some fn) (hc : Calls P f args W R) (h : ∀ e w', R e w' → ∃ v, e = .returned v ∧ K (a.put dd v) w')
  (hargs : as_.map a.eval = args := by (try simp only [List.map_toArray, List.map_cons, List.map_nil]); first | done | rfl | (simp only [List.length_drop, List.length_take, List.length_append, List.length_set, List.length_cons, List.length_nil, Nat.zero_add, Int.reduceToNat]; done) | (simp only [List.length_drop, List.length_take, List.length_append, List.length_set, List.length_cons, List.length_nil, Nat.zero_add, Int.reduceToNat]; rfl)) (hname : (fn.name == "runtime.NumGoroutine") = false := by kernel_rfl) (hb : fn.body.isSome = true := by rfl) : Oper.wp P o a W K Q := by
 subst hd
 have he := enters_ hf hname hb args W
 have hrun : (execOp a.eval o).run P W = .ok (.enter f args) W := by
  unfold execOp
  simp [hop, resolve, Deferred.ofValue, invoke, Act.eval, hargs, he]
 unfold Oper.wp
 rw [hrun, Oper.upon_enter]
 refine hc.mono ?_
 intro e w' hR
 obtain ⟨v, rfl, hK⟩ := h e w' hR
 exact hK
/-- xs[k:] of a row of the call's own: a queue. -/
theorem eD (i : Nat) (t e : TypeId) (d : Kd α) (x lo : Operand) (k : Int) (xs : List α) (X : Option Addr) (c : Nat) {z : Value} {bytes : Nat} (hM : Mem w0 F W0 N) (ho : o.op = .slice t x (some lo) none none) (ht : P.underlying t = some (.slice e)) (hinfo : (P.info? e).map (fun i => (i.zero, i.size, i.bytes)) = some (some z, d.sz, bytes)) (hi : N[i]? = some A) (hA : ∀ w S, A.At w S → d.Q e w 0 S (.slice X xs.length c) xs) (h0 : 0 ≤ k) (h1 : k ≤ xs.length)
  (h : ∀ v1, Mem w0 F W (N.set i (row d e v1 (xs.drop k.toNat))) → K (a.put o.dst v1) W) (hx : a.eval x = .slice X xs.length c := by first | rfl | (simp only [List.length_drop, List.length_take, List.length_append, List.length_set, List.length_cons, List.length_nil, Int.reduceToNat]; rfl)) (hl : a.eval lo = .int .i64 k := by rfl)
  (hq : Drawn0 W0 W := by repeat (first | exact Drawn0.refl _ | apply Drawn0.step)) : Oper.wp P o a W K Q := by
 have hel : P.elem t = e := by simp [Program.elem, ht]
 have hu : P.underlying t = some (.slice (P.elem t)) := by rw [hel]; exact ht
 obtain ⟨S, hS, hb, fin⟩ := (hM.drawn hq).opn hi
 obtain ⟨i0, hi0, _, hsz, _⟩ := info_parts hinfo
 have hcut := cut_from (P := P) t e .i64 ht hi0 d.sz hsz X xs.length c k h0 h1 W
 have hd := Kd.Q_drop (k := k.toNat) (hA W S hS) (by omega)
 refine wp_value (by unfold execOp; simp [ho, hx, hl, run_sliceAt_slice (h := hu), hcut]) (h _ (fin W _ S hd (fun q hq => ⟨.inl hq, (hb q hq).2⟩) ⟨rfl, rfl, rfl, Nat.le_refl _, fun _ _ _ => rfl⟩))
/-- xs[:k] of a row of the call's own. -/
theorem eT (i : Nat) (t e : TypeId) (d : Kd α) (x hi_ : Operand) (k : Int) (xs : List α) (X : Option Addr) (c : Nat) {z : Value} {bytes : Nat} (hM : Mem w0 F W0 N) (ho : o.op = .slice t x none (some hi_) none) (ht : P.underlying t = some (.slice e)) (hinfo : (P.info? e).map (fun i => (i.zero, i.size, i.bytes)) = some (some z, d.sz, bytes)) (hi : N[i]? = some (rowR d e (.slice X xs.length c) xs)) (h0 : 0 ≤ k) (h1 : k ≤ xs.length)
  (h : ∀ v1, Mem w0 F W (N.set i (rowR d e v1 (xs.take k.toNat))) → K (a.put o.dst v1) W) (hx : a.eval x = .slice X xs.length c := by first | rfl | (simp only [List.length_drop, List.length_take, List.length_append, List.length_set, List.length_cons, List.length_nil, Int.reduceToNat]; rfl)) (hl : a.eval hi_ = .int .i64 k := by rfl)
  (hq : Drawn0 W0 W := by repeat (first | exact Drawn0.refl _ | apply Drawn0.step)) : Oper.wp P o a W K Q := by
 have hel : P.elem t = e := by simp [Program.elem, ht]
 have hu : P.underlying t = some (.slice (P.elem t)) := by rw [hel]; exact ht
 obtain ⟨S, hS, hb, fin⟩ := (hM.drawn hq).opn hi
 obtain ⟨i0, hi0, _, hsz, _⟩ := info_parts hinfo
 have hR := Kd.R_reads' hS
 have hcut := cut_to (P := P) t e .i64 ht hi0 X xs.length c k h0 h1 hR.2.1 W
 have hd := Kd.R_take (m := k.toNat) hS (by omega)
 exact wp_value (by unfold execOp; simp [ho, hx, hl, run_sliceAt_slice (h := hu), hcut]) (h _ (fin W _ S hd (fun q hq => ⟨.inl hq, (hb q hq).2⟩) ⟨rfl, rfl, rfl, Nat.le_refl _, fun _ _ _ => rfl⟩))
/-- out[j].f = u of a row of the call's own: z0 is the kind's zero, cells what element j was before. -/
theorem eP (i : Nat) (p : Tmp) (j : Int) (off : Nat) (seg : List Value) (d : Kd α) (e : TypeId) (xs : List α) (x' z0 : α) (cells : List Value) {t : TypeId} {x : Operand} {g g2 n c o' : Nat} (hM : Mem w0 F W0 N) (ho : o.op = .store t (.tmp p) x) (hi : N[i]? = some A) (hA : ∀ w S, A.At w S → d.Q e w 0 S (.slice (some ⟨g, g2, none⟩) n c) xs) (B : SP) (hB : ∀ w S, d.Q e w 0 S (.slice (some ⟨g, g2, none⟩) n c) (xs.set j.toNat x') → A.At W S → B.At w S) (h0 : 0 ≤ j) (h1 : j < n)
  (hopn : ∀ ok cs, d.M W 0 ok (xs.getD j.toNat z0) cs → cs = cells) (hmk : d.M W 0 (fun _ => False) x' (cells.take off ++ seg ++ cells.drop (off + seg.length))) (h : ∀ w1, Mem w0 F w1 (N.set i B) → K a w1)
  (hp : a.eval (.tmp p) = .pointer (some ⟨g, o', none⟩) := by rfl) (hoff : o' = g2 + j.toNat * d.sz + off := by first | rfl | exact congrArg (g2 + ·) (Nat.mul_one _).symm) (hx : (a.eval x).cells.toList = seg := by first | rfl | (simp only [List.length_drop, List.length_take, List.length_append, List.length_set, List.length_cons, List.length_nil, Int.reduceToNat]; rfl)) (ht : (P.info? t).map (·.size) = some seg.length := by kernel_rfl) (hone : seg.all (·.oneCell') = true := by rfl) (hj : off + seg.length ≤ d.sz := by exact Nat.le_of_ble_eq_true rfl) (hN : o.dst = none := by rfl)
  (hq : Drawn0 W0 W := by repeat (first | exact Drawn0.refl _ | apply Drawn0.step)) : Oper.wp P o a W K Q := by
 subst hoff
 obtain ⟨S, hS, hb, fin⟩ := (hM.drawn hq).opn hi
 have hQ := hA W S hS
 obtain ⟨hn, hnc, _⟩ := Kd.Q_reads' hQ
 obtain ⟨cs, hcl, hMc, hcc, _⟩ := Kd.Q_elem hQ z0 j h0 h1
 obtain rfl := hopn _ cs hMc
 obtain ⟨hrow, hg⟩ := Kd.Q_seg hQ j h0 h1 hcl hcc hj hmk (fun _ hk => hk.elim)
 have hgS : S g := hQ.1 g rfl
 have hrun : (Instr.storeAt t (.pointer (some ⟨g, g2 + j.toNat * d.sz + off, none⟩)) (a.eval x)).run P W = .ok () (W.setCells g (g2 + j.toNat * d.sz + off) seg) := by
  obtain ⟨_, inner, ⟨_, hv | ⟨g', of, cap', cur, hv, _, hh, _, _, hcs, _⟩⟩, _⟩ := hQ
  ·have hn0 := hv.1
   omega
  injection hv with ha _ hc'
  injection ha with ha
  injection ha with hg' ho'
  subst hg'; subst hc'; subst ho'
  refine run_store_run t _ seg hh hx ht ?_ (fun q hq => List.all_eq_true.1 hone q hq)
  have h3 : j.toNat * d.sz + d.sz ≤ n * d.sz := by rw [← Nat.succ_mul]; exact Nat.mul_le_mul_right _ (by omega)
  have h4 : n * d.sz ≤ c * d.sz := Nat.mul_le_mul_right _ hnc
  have h5 : (of + c) * d.sz = of * d.sz + c * d.sz := Nat.add_mul _ _ _
  omega
 unfold Oper.wp execOp
 simp only [ho, hp, Sem.run_bind, Sem.run_pure, Result.andThen_ok, hrun]
 show K (a.put o.dst undef) _
 rw [hN]
 refine h _ (fin _ _ S (hB _ S hrow hS) (fun k hk => ⟨.inl hk, Nat.lt_of_lt_of_le (hb k hk).2 hg.size⟩) ((Chg.of_grown hg).wide (fun k hk => by injection hk with hk; exact hk ▸ hgS)))
theorem ePR (i : Nat) (p : Tmp) (j : Int) (off : Nat) (seg : List Value) (d : Kd α) (e : TypeId) (xs : List α) (x' z0 : α) (cells : List Value) {t : TypeId} {x : Operand} {g n c o' : Nat} (hM : Mem w0 F W0 N) (ho : o.op = .store t (.tmp p) x) (hi : N[i]? = some (rowR d e (.slice (some ⟨g, 0, none⟩) n c) xs)) (h0 : 0 ≤ j) (h1 : j < n)
  (hopn : ∀ ok cs, d.M W 0 ok (xs.getD j.toNat z0) cs → cs = cells) (hmk : d.M W 0 (fun _ => False) x' (cells.take off ++ seg ++ cells.drop (off + seg.length))) (h : ∀ w1, Mem w0 F w1 (N.set i (rowR d e (.slice (some ⟨g, 0, none⟩) n c) (xs.set j.toNat x'))) → K a w1)
  (hp : a.eval (.tmp p) = .pointer (some ⟨g, o', none⟩) := by rfl) (hoff : o' = j.toNat * d.sz + off := by first | rfl | exact (Nat.mul_one _).symm) (hx : (a.eval x).cells.toList = seg := by first | rfl | (simp only [List.length_drop, List.length_take, List.length_append, List.length_set, List.length_cons, List.length_nil, Int.reduceToNat]; rfl)) (ht : (P.info? t).map (·.size) = some seg.length := by kernel_rfl) (hone : seg.all (·.oneCell') = true := by rfl) (hj : off + seg.length ≤ d.sz := by exact Nat.le_of_ble_eq_true rfl) (hN : o.dst = none := by rfl) (hs0 : 0 < d.sz := by decide)
  (hq : Drawn0 W0 W := by repeat (first | exact Drawn0.refl _ | apply Drawn0.step)) : Oper.wp P o a W K Q :=
 eP i p j off seg d e xs x' z0 cells (g := g) (g2 := 0) (o' := o') hM ho hi (fun _ _ h => Kd.Q_of_R h) _ (fun w S hQ hR => R_of_Q0 hQ (by have := (Kd.R_reads' hR).2.1; omega) hs0) h0 h1 hopn hmk h hp (by rw [hoff, Nat.zero_add]) hx ht hone hj hN hq
-- P-FORMS: the same in a plain region
theorem pB (d : Tmp) (T : TypeId) (cs : List Value) (hM : Mem w0 F W0 N) (hd : o.dst = some d) (h : ∀ g w1, Mem w0 F w1 (N ++ [box T g cs]) → wpList P ops Q rest (a.put o.dst (.pointer (some ⟨g, 0, none⟩))) w1) (hq : Drawn0 W0 W := by repeat (first | exact Drawn0.refl _ | apply Drawn0.step)) (hrun : (execOp a.eval o).run P W = .ok (.value (.pointer (some ⟨W.heap.size, 0, none⟩))) (W.alloc (.cells cs.toArray T (0, 0))) := by first | (go_simp; done) | (go_simp; rfl)) (hg : Region.wanted o (yielded ops a.tmps) = true := by rfl) : wpList P ops Q (o :: rest) a W :=
 PL (fun K hK hw => eB d T cs hM hd (fun g w1 h0_ => hK _ _ (h g w1 h0_)) hq hrun) hg
theorem pL (d : Tmp) (kd : Kd α) (e : Nat) (xs : List α) (inner : List Value) (hrep : Reps (kd.M W 0 (fun _ => False)) kd.sz xs inner) (hM : Mem w0 F W0 N) (hd : o.dst = some d) (h : ∀ v w1, Mem w0 F w1 (N ++ [rowR kd e v xs]) → wpList P ops Q rest (a.put o.dst v) w1) (hq : Drawn0 W0 W := by repeat (first | exact Drawn0.refl _ | apply Drawn0.step)) (hm : xs.length ≤ 9223372036854775807 := by simp) (hrun : (execOp a.eval o).run P W = .ok (.value (.slice (some ⟨W.heap.size, 0, none⟩) xs.length xs.length)) (W.alloc (.cells inner.toArray e)) := by first | (go_simp; done) | (go_simp; rfl)) (hg : Region.wanted o (yielded ops a.tmps) = true := by rfl) : wpList P ops Q (o :: rest) a W :=
 PL (fun K hK hw => eL d kd e xs inner hrep hM hd (fun v w1 h0_ => hK _ _ (h v w1 h0_)) hq hm hrun) hg
theorem pA (i : Nat) (s x : Operand) (t e : TypeId) (d : Kd α) (v : Value) (xs ys : List α) (X : Option Addr) (m c : Nat) {Rr : α → List Value → Prop} {z : Value} {bytes : Nat} (hM : Mem w0 F W0 N) (ho : o.op = .call { callee := .builtin .append, args := #[s, x], argTypes := #[t, t] }) (ht : P.underlying t = some (.slice e)) (hinfo : (P.info? e).map (fun i => (i.zero, i.size, i.bytes)) = some (some z, d.sz, bytes)) (hi : N[i]? = some (rowR d e v xs)) (HR : ReadsRow Rr d.sz W X m ys) (hl : (xs.length + m) * bytes ≤ 140737488355328) (h : ∀ v1 w1, Mem w0 F w1 (N.set i (rowR d e v1 (xs ++ ys))) → wpList P ops Q rest (a.put o.dst v1) w1) (hq : Drawn0 W0 W := by repeat (first | exact Drawn0.refl _ | apply Drawn0.step)) (hKM : ∀ x cs, Rr x cs → d.M W 0 (fun _ => False) x cs := by exact fun _ _ h => h) (hs : a.eval s = v := by first | rfl | (simp only [List.length_drop, List.length_take, List.length_append, List.length_set, List.length_cons, List.length_nil, Int.reduceToNat]; rfl)) (hx : a.eval x = .slice X m c := by first | rfl | (simp only [List.length_drop, List.length_take, List.length_append, List.length_set, List.length_cons, List.length_nil, Int.reduceToNat]; rfl)) (hz : z.cells.size = d.sz := by rfl) (hs0 : 0 < d.sz := by decide) (hb0 : 0 < bytes := by omega) (hg : Region.wanted o (yielded ops a.tmps) = true := by rfl) : wpList P ops Q (o :: rest) a W :=
 PL (fun K hK hw => eA i s x t e d v xs ys X m c hw hM ho ht hinfo hi HR hl (fun v1 w1 h0_ => hK _ _ (h v1 w1 h0_)) hq hKM hs hx hz hs0 hb0) hg
theorem pAn (s x : Operand) (t e : TypeId) (d : Kd α) (ys : List α) (X : Option Addr) (m c : Nat) {Rr : α → List Value → Prop} {z : Value} {bytes : Nat} (hM : Mem w0 F W0 N) (ho : o.op = .call { callee := .builtin .append, args := #[s, x], argTypes := #[t, t] }) (ht : P.underlying t = some (.slice e)) (hinfo : (P.info? e).map (fun i => (i.zero, i.size, i.bytes)) = some (some z, d.sz, bytes)) (HR : ReadsRow Rr d.sz W X m ys) (hl : m * bytes ≤ 140737488355328) (h : ∀ v1 w1, Mem w0 F w1 (N ++ [rowR d e v1 ys]) → wpList P ops Q rest (a.put o.dst v1) w1) (hq : Drawn0 W0 W := by repeat (first | exact Drawn0.refl _ | apply Drawn0.step)) (hKM : ∀ x cs, Rr x cs → d.M W 0 (fun _ => False) x cs := by exact fun _ _ h => h) (hs : a.eval s = .slice none 0 0 := by first | rfl | (simp only [List.length_drop, List.length_take, List.length_append, List.length_set, List.length_cons, List.length_nil, Int.reduceToNat]; rfl)) (hx : a.eval x = .slice X m c := by first | rfl | (simp only [List.length_drop, List.length_take, List.length_append, List.length_set, List.length_cons, List.length_nil, Int.reduceToNat]; rfl)) (hz : z.cells.size = d.sz := by rfl) (hs0 : 0 < d.sz := by decide) (hb0 : 0 < bytes := by omega) (hg : Region.wanted o (yielded ops a.tmps) = true := by rfl) : wpList P ops Q (o :: rest) a W :=
 PL (fun K hK hw => eAn s x t e d ys X m c hw hM ho ht hinfo HR hl (fun v1 w1 h0_ => hK _ _ (h v1 w1 h0_)) hq hKM hs hx hz hs0 hb0) hg
theorem pS (i : Nat) (p : Tmp) (off : Nat) (seg : List Value) {T g : Nat} {cs : List Value} {t : TypeId} {x : Operand} (hM : Mem w0 F W0 N) (ho : o.op = .store t (.tmp p) x) (hi : N[i]? = some (box T g cs)) (h : ∀ w1, Mem w0 F w1 (N.set i (box T g (putAt cs off seg))) → wpList P ops Q rest a w1) (hfit : (decide (off + seg.length ≤ cs.length) && seg.all (·.oneCell')) = true := by rfl) (hp : a.eval (.tmp p) = .pointer (some ⟨g, off, none⟩) := by rfl) (hx : (a.eval x).cells.toList = seg := by first | rfl | (simp only [List.length_drop, List.length_take, List.length_append, List.length_set, List.length_cons, List.length_nil, Int.reduceToNat]; rfl)) (ht : (P.info? t).map (·.size) = some seg.length := by kernel_rfl) (hN : o.dst = none := by rfl) (hq : Drawn0 W0 W := by repeat (first | exact Drawn0.refl _ | apply Drawn0.step)) (hg : Region.wanted o (yielded ops a.tmps) = true := by rfl) : wpList P ops Q (o :: rest) a W :=
 PL (fun K hK hw => eS i p off seg hM ho hi (fun w1 h0_ => hK _ _ (h w1 h0_)) hfit hp hx ht hN hq) hg
theorem pC {f : FuncId} {fn : Func} {as_ : Array Operand} {ts : Array TypeId} {R : Ending → World → Prop} (dd : Option Tmp) (hd : o.dst = dd) (args : Array Value) (hop : o.op = .call { callee := .value (.func f), args := as_, argTypes := ts }) (hf : P.funcs[f]? = some fn) (hc : Calls P f args W R) (h : ∀ e w', R e w' → ∃ v, e = .returned v ∧ wpList P ops Q rest (a.put dd v) w') (hargs : as_.map a.eval = args := by (try simp only [List.map_toArray, List.map_cons, List.map_nil]); first | done | rfl | (simp only [List.length_drop, List.length_take, List.length_append, List.length_set, List.length_cons, List.length_nil, Nat.zero_add, Int.reduceToNat]; done) | (simp only [List.length_drop, List.length_take, List.length_append, List.length_set, List.length_cons, List.length_nil, Nat.zero_add, Int.reduceToNat]; rfl)) (hname : (fn.name == "runtime.NumGoroutine") = false := by kernel_rfl) (hb : fn.body.isSome = true := by rfl) (hg : Region.wanted o (yielded ops a.tmps) = true := by rfl) : wpList P ops Q (o :: rest) a W :=
 PL (fun K hK hw => eC dd hd args hop hf hc (fun e w' hR => (h e w' hR).imp (fun v hv => ⟨hv.1, hK _ _ hv.2⟩)) hargs hname hb) hg
theorem pD (i : Nat) (t e : TypeId) (d : Kd α) (x lo : Operand) (k : Int) (xs : List α) (X : Option Addr) (c : Nat) {z : Value} {bytes : Nat} (hM : Mem w0 F W0 N) (ho : o.op = .slice t x (some lo) none none) (ht : P.underlying t = some (.slice e)) (hinfo : (P.info? e).map (fun i => (i.zero, i.size, i.bytes)) = some (some z, d.sz, bytes)) (hi : N[i]? = some A) (hA : ∀ w S, A.At w S → d.Q e w 0 S (.slice X xs.length c) xs) (h0 : 0 ≤ k) (h1 : k ≤ xs.length) (h : ∀ v1, Mem w0 F W (N.set i (row d e v1 (xs.drop k.toNat))) → wpList P ops Q rest (a.put o.dst v1) W) (hx : a.eval x = .slice X xs.length c := by first | rfl | (simp only [List.length_drop, List.length_take, List.length_append, List.length_set, List.length_cons, List.length_nil, Int.reduceToNat]; rfl)) (hl : a.eval lo = .int .i64 k := by rfl) (hq : Drawn0 W0 W := by repeat (first | exact Drawn0.refl _ | apply Drawn0.step)) (hg : Region.wanted o (yielded ops a.tmps) = true := by rfl) : wpList P ops Q (o :: rest) a W :=
 PL (fun K hK hw => eD i t e d x lo k xs X c hM ho ht hinfo hi hA h0 h1 (fun v1 h0_ => hK _ _ (h v1 h0_)) hx hl hq) hg
theorem pT (i : Nat) (t e : TypeId) (d : Kd α) (x hi_ : Operand) (k : Int) (xs : List α) (X : Option Addr) (c : Nat) {z : Value} {bytes : Nat} (hM : Mem w0 F W0 N) (ho : o.op = .slice t x none (some hi_) none) (ht : P.underlying t = some (.slice e)) (hinfo : (P.info? e).map (fun i => (i.zero, i.size, i.bytes)) = some (some z, d.sz, bytes)) (hi : N[i]? = some (rowR d e (.slice X xs.length c) xs)) (h0 : 0 ≤ k) (h1 : k ≤ xs.length) (h : ∀ v1, Mem w0 F W (N.set i (rowR d e v1 (xs.take k.toNat))) → wpList P ops Q rest (a.put o.dst v1) W) (hx : a.eval x = .slice X xs.length c := by first | rfl | (simp only [List.length_drop, List.length_take, List.length_append, List.length_set, List.length_cons, List.length_nil, Int.reduceToNat]; rfl)) (hl : a.eval hi_ = .int .i64 k := by rfl) (hq : Drawn0 W0 W := by repeat (first | exact Drawn0.refl _ | apply Drawn0.step)) (hg : Region.wanted o (yielded ops a.tmps) = true := by rfl) : wpList P ops Q (o :: rest) a W :=
 PL (fun K hK hw => eT i t e d x hi_ k xs X c hM ho ht hinfo hi h0 h1 (fun v1 h0_ => hK _ _ (h v1 h0_)) hx hl hq) hg
theorem pPR (i : Nat) (p : Tmp) (j : Int) (off : Nat) (seg : List Value) (d : Kd α) (e : TypeId) (xs : List α) (x' z0 : α) (cells : List Value) {t : TypeId} {x : Operand} {g n c o' : Nat} (hM : Mem w0 F W0 N) (ho : o.op = .store t (.tmp p) x) (hi : N[i]? = some (rowR d e (.slice (some ⟨g, 0, none⟩) n c) xs)) (h0 : 0 ≤ j) (h1 : j < n) (hopn : ∀ ok cs, d.M W 0 ok (xs.getD j.toNat z0) cs → cs = cells) (hmk : d.M W 0 (fun _ => False) x' (cells.take off ++ seg ++ cells.drop (off + seg.length))) (h : ∀ w1, Mem w0 F w1 (N.set i (rowR d e (.slice (some ⟨g, 0, none⟩) n c) (xs.set j.toNat x'))) → wpList P ops Q rest a w1) (hp : a.eval (.tmp p) = .pointer (some ⟨g, o', none⟩) := by rfl) (hoff : o' = j.toNat * d.sz + off := by first | rfl | exact (Nat.mul_one _).symm) (hx : (a.eval x).cells.toList = seg := by first | rfl | (simp only [List.length_drop, List.length_take, List.length_append, List.length_set, List.length_cons, List.length_nil, Int.reduceToNat]; rfl)) (ht : (P.info? t).map (·.size) = some seg.length := by kernel_rfl) (hone : seg.all (·.oneCell') = true := by rfl) (hj : off + seg.length ≤ d.sz := by exact Nat.le_of_ble_eq_true rfl) (hN : o.dst = none := by rfl) (hs0 : 0 < d.sz := by decide) (hq : Drawn0 W0 W := by repeat (first | exact Drawn0.refl _ | apply Drawn0.step)) (hg : Region.wanted o (yielded ops a.tmps) = true := by rfl) : wpList P ops Q (o :: rest) a W :=
 PL (fun K hK hw => ePR i p j off seg d e xs x' z0 cells hM ho hi h0 h1 hopn hmk (fun w1 h0_ => hK _ _ (h w1 h0_)) hp hoff hx ht hone hj hN hs0 hq) hg
-- the pure function's own steps
/-- The next operation calls this function, writes this variable, stores by this address. -/
theorem gC {as_ : Array Operand} {ts : Array TypeId} (f : FuncId) (_ho : o.op = .call { callee := .value (.func f), args := as_, argTypes := ts }) (h : wpList P ops Q (o :: rest) a W) : wpList P ops Q (o :: rest) a W := h
theorem gN (N : Tmp) (_ho : o.dst = some N) (h : wpList P ops Q (o :: rest) a W) : wpList P ops Q (o :: rest) a W := h
theorem gS {t : TypeId} {x : Operand} (p : Tmp) (_ho : o.op = .store t (.tmp p) x) (h : wpList P ops Q (o :: rest) a W) : wpList P ops Q (o :: rest) a W := h
theorem gate_sl {t : TypeId} {x : Operand} {lo hi mx : Option Operand} (_ho : o.op = .slice t x lo hi mx) (h : wpList P ops Q (o :: rest) a W) : wpList P ops Q (o :: rest) a W := h
/-- What is held, as_ one plain list. -/
theorem nzM {M : List SP} {w : World} (h : Mem w0 F w N) (hN : N = M := by (try dsimp only [pk, List.getElem?_cons_zero, List.getElem?_cons_succ, List.nil_append, List.cons_append, List.set_cons_zero, List.set_cons_succ, putAt, List.take_zero, List.take_succ_cons, List.drop_succ_cons, List.drop_nil, List.drop_zero, List.length_cons, List.length_nil, Nat.reduceAdd]); (try rfl)) : Mem w0 F w M := hN ▸ h
/-- What is held, some orders having been drawn since. -/
theorem MD (h : Mem w0 F W0 N) (hq : Drawn0 W0 W := by repeat (first | exact Drawn0.refl _ | apply Drawn0.step)) : Mem w0 F W N := h.drawn hq
theorem GD {β : Type} {p : Prop} {i : Decidable p} {x : Option β} {r : β} (h : @ite (Option β) p i x none = some r) : p ∧ x = some r := by
 by_cases c : p
 ·rw [if_pos c] at h; exact ⟨c, h⟩
 ·rw [if_neg c] at h; cases h
theorem GN {β : Type} {p : Prop} {i : Decidable p} {x : Option β} {r : β} (h : @ite (Option β) p i none x = some r) : ¬ p ∧ x = some r := by
 by_cases c : p
 ·rw [if_pos c] at h; cases h
 ·rw [if_neg c] at h; exact ⟨c, h⟩
theorem IT {β : Type} {p : Prop} {i : Decidable p} {x y : Option β} {r : β} (h : @ite (Option β) p i x y = some r) : (p ∧ x = some r) ∨ (¬ p ∧ y = some r) := by
 by_cases c : p
 ·rw [if_pos c] at h; exact .inl ⟨c, h⟩
 ·rw [if_neg c] at h; exact .inr ⟨c, h⟩
theorem IB {β : Type} {b : Bool} {i : Decidable (b = true)} {x y : Option β} {r : β} (h : @ite (Option β) (b = true) i x y = some r) : (b = true ∧ x = some r) ∨ (b = false ∧ y = some r) := by
 cases b
 ·rw [if_neg Bool.false_ne_true] at h; exact .inr ⟨rfl, h⟩
 ·rw [if_pos rfl] at h; exact .inl ⟨rfl, h⟩
theorem BN {β γ : Type} {x : Option β} {g : β → Option γ} {r : γ} (h : x.bind g = some r) : ∃ t, Aside0 (x = some t) ∧ g t = some r := by
 obtain ⟨t, h1, h2⟩ := Option.bind_eq_some_iff.mp h
 exact ⟨t, ⟨h1⟩, h2⟩
theorem BE {β : Type} [BEq β] [LawfulBEq β] {x y : β} (h : x = y) : (x == y) = true ∧ (x != y) = false := ⟨beq_iff_eq.mpr h, bne_eq_false_iff_eq.mpr h⟩
theorem BF {β : Type} [BEq β] [LawfulBEq β] {x y : β} (h : ¬ x = y) : (x == y) = false ∧ (x != y) = true := ⟨beq_eq_false_iff_ne.mpr h, bne_iff_ne.mpr h⟩
theorem BLt {β γ : Type} {e : β} {g : β → Option γ} {r : γ} (h : (some e).bind g = some r) : ∃ y, y = e ∧ g y = some r := ⟨e, rfl, h⟩
end
end Go.Proofs.Ythnedklbobbkcaa.Mm

namespace Go.Proofs.Ythnedklbobbkcaa.Mm
open Go.RowKit Go.Proofs.YthnedklbobbkcaaW.PrintWords Go.Proofs.YthnedklbobbkcaaW.PrintLast Go.Proofs.YthnedklbobbkcaaW.PrintMore Go.Proofs.Ythnedklbobbkcaa.Sh
set_option linter.unusedVariables false
def vs (c : Bool) (x y : Value) : Value := match c with
 | true => x
 | false => y
section
variable {P : Program} {ops : Array Oper} {o og : Oper} {a a0 : Act} {Q : Exit → Act → World → Prop} {K : Act → World → Prop} {w0 w w' W W0 : World} {F N L R M : List SP} {A B : SP} {c : Bool} {b : Nat → Bool} {i j g : Nat} {t : Tmp} {u v v0 : Value} {LL LL' : List (Nat × Tmp × Value)}
theorem Mem.sT (h : Mem w0 F w N) (q : Nat) (hi : N[q]? = some (sel c A B)) (hc : c = true) : Mem w0 F w (N.set q A) := by
 subst hc
 exact h.tell hi A (fun _ h => h)
theorem Mem.sF (h : Mem w0 F w N) (q : Nat) (hi : N[q]? = some (sel c A B)) (hc : c = false) : Mem w0 F w (N.set q B) := by
 subst hc
 exact h.tell hi B (fun _ h => h)
theorem Mem.iF (h : Mem w0 F w N) (q : Nat) (hi : N[q]? = some A) (hc : c = false) : Mem w0 F w (N.set q (sel c B A)) := by
 subst hc
 exact h.tell hi (sel false B A) (fun _ h => h)
theorem Mem.iT (h : Mem w0 F w N) (q : Nat) (hi : N[q]? = some A) (hc : c = true) : Mem w0 F w (N.set q (sel c A B)) := by
 subst hc
 exact h.tell hi (sel true A B) (fun _ h => h)
theorem Mem.em (h : Mem w0 F w N) : Mem w0 F w (N ++ [emp]) := h.push emp (S' := fun _ => False) trivial (fun _ h => h.elim) ⟨rfl, rfl, rfl, Nat.le_refl _, fun _ _ _ => rfl⟩
theorem evc : a.eval (.const v) = v := rfl
/-- A slot of a listed operation; of one that no operation fills; the next entry. -/
theorem PON (ha : a = putSel a0 b LL) (k : Nat) (hb : b j = true) (hL : LL[k]? = some (j, t, v) := by rfl) (hd : ((LL.drop (k + 1)).all fun x => !(x.2.1 == t)) = true := by rfl) (hs : Nat.ble (t + 1) a0.tmps.size = true := by rfl) : a.tmps[t]? = some v := by
 subst ha
 exact putSel_on k hL hd hb hs
theorem POF (ha : a = putSel a0 b LL) (t : Tmp) (h0 : a0.tmps[t]? = some v := by rfl) (hL : (LL.all fun e => !(e.2.1 == t)) = true := by rfl) : a.tmps[t]? = some v := by
 subst ha
 exact (putSel_off hL).trans h0
/-- An entry that isn't listed may say anything. -/
theorem PCH_ {j : Nat} (hj : b j = false) : ∀ (LL : List (Nat × Tmp × Value)) (a0 : Act) (k : Nat) {t : Tmp} {v0 v : Value}, LL[k]? = some (j, t, v0) → putSel a0 b LL = putSel a0 b (LL.set k (j, t, v))
 | [], _, _, _, _, _, h => by cases h
 | e :: r, a0, 0, t, v0, v, h => by
  obtain rfl : e = (j, t, v0) := by simpa using h
  simp only [List.set_cons_zero]
  unfold putSel
  rw [if_neg (by rw [hj]; decide), if_neg (by rw [hj]; decide)]
 | e :: r, a0, k + 1, t, v0, v, h => by
  simp only [List.set_cons_succ]
  unfold putSel
  exact PCH_ hj r _ k (by simpa using h)
theorem PCH (ha : Aside0 (a = putSel a0 b LL)) (k : Nat) (hj : b j = false) (hL : LL[k]? = some (j, t, v0) := by rfl) : Aside0 (a = putSel a0 b (LL.set k (j, t, v))) := ⟨ha.out.trans (PCH_ hj LL a0 k hL)⟩
theorem PUT (ha : Aside0 (a = putSel a0 b LL)) (k : Nat) (hb : b i = false) (hL : LL[k]? = some (i, t, v0) := by rfl) (hL' : LL.set k (i, t, v) = LL' := by rfl) (hd : ((LL.take k ++ LL.drop (k + 1)).all fun e => !(e.1 == i) && !(e.2.1 == t)) = true := by rfl) : a.put (some t) v = putSel a0 (up b i) LL' := by
 obtain ⟨rfl⟩ := ha
 exact putSel_upk k hb hL hL' hd
theorem PUS (ha : Aside0 (a = putSel a0 b LL)) (h : (LL.all fun e => !(e.1 == i)) = true := by rfl) : a = putSel a0 (up b i) LL := by
 obtain ⟨rfl⟩ := ha
 exact (putSel_same h).symm
/-- One step of the relation, told apart; slots read out of it. -/
theorem SY {i : Nat} {oi : Oper} {B O rs : List Nat} {Y : (Nat → Bool) → World → Prop} (h : ∀ b a w, Aside0 (a = putSel a0 b LL) → Y b w → b i = false → (∀ j, (O.contains j && (B.getD i 0).testBit j) = true → b j = true) → (∀ d, (O.contains d && (B.getD d 0).testBit i) = true → b d = false) → ∀ K : Act → World → Prop, Shut (∀ a' w', (a' = putSel a0 (up b i) LL ∧ Y (up b i) w') → K a' w') → if Region.wanted oi (yielded ops a.tmps) = true then Oper.wp P oi a w K Q else K (a.put oi.dst undef) w)
  (hs : ∀ j ∈ rs, StepAt P ops Q B O (fun b a' w' => a' = putSel a0 b LL ∧ Y b w') j) (ho : ops[i]? = some oi := by rfl) : ∀ j ∈ i :: rs, StepAt P ops Q B O (fun b a' w' => a' = putSel a0 b LL ∧ Y b w') j :=
 steps_cons (fun b a w hI hb hon hoff => ⟨oi, ho, fun K hK => h b a w (Aside0.mk hI.1) hI.2 hb hon hoff K hK⟩) hs
theorem SZ {i : Nat} {oi : Oper} {B O rs : List Nat} {I : (Nat → Bool) → Act → World → Prop} (h : ∀ b a w, I b a w → b i = false → (∀ j, (O.contains j && (B.getD i 0).testBit j) = true → b j = true) → (∀ d, (O.contains d && (B.getD d 0).testBit i) = true → b d = false) → ∀ K : Act → World → Prop, Shut (∀ a' w', I (up b i) a' w' → K a' w') → if Region.wanted oi (yielded ops a.tmps) = true then Oper.wp P oi a w K Q else K (a.put oi.dst undef) w)
  (hs : ∀ j ∈ rs, StepAt P ops Q B O I j) (ho : ops[i]? = some oi := by rfl) : ∀ j ∈ i :: rs, StepAt P ops Q B O I j :=
 steps_cons (fun b a w hI hb hon hoff => ⟨oi, ho, fun K hK => h b a w hI hb hon hoff K hK⟩) hs
theorem PE {B O : List Nat} (ha : Aside0 (a = putSel a0 b LL)) (k : Nat) (hon : ∀ j, (O.contains j && (B.getD i 0).testBit j) = true → b j = true) (hL : LL[k]? = some (j, t, v) := by rfl) (hm : (O.contains j && (B.getD i 0).testBit j) = true := by kernel_rfl) (hd : ((LL.drop (k + 1)).all fun x => !(x.2.1 == t)) = true := by rfl) (hs : Nat.ble (t + 1) a0.tmps.size = true := by rfl) : a.tmps[t]? = some v := PON ha.out k (hon j hm) hL hd hs
theorem PG (ha : Aside0 (a = putSel a0 b LL)) (t : Tmp) (h0 : a0.tmps[t]? = some v := by rfl) (hL : (LL.all fun e => !(e.2.1 == t)) = true := by rfl) : a.tmps[t]? = some v := POF ha.out t h0 hL
/-- A step that yields a value, the world unchanged. -/
theorem VL (v : Value) (h : K (a.put o.dst v) W) (hrun : (execOp a.eval o).run P W = .ok (.value v) W := by first | (go_simp; done) | (go_simp; rfl) | (go_simp; simp only [i64_w]; done) | (go_simp; simp only [i64_w]; rfl) | (go_simp; simp only [bne, Bool.not_not])) (hw : Region.wanted o (yielded ops a.tmps) = true := by rfl) : if Region.wanted o (yielded ops a.tmps) = true then Oper.wp P o a W K Q else K (a.put o.dst undef) W := ST (wp_value hrun h) hw
/-- A guarded step that isn't carried out. -/
theorem VN (hw : Region.wanted o (yielded ops a.tmps) = false) (h : K (a.put o.dst undef) W) : if Region.wanted o (yielded ops a.tmps) = true then Oper.wp P o a W K Q else K (a.put o.dst undef) W := by
 rw [if_neg (by rw [hw]; decide)]
 exact h
/-- What is listed, of the region's operations alone. -/
def inN (n : Nat) (b : Nat → Bool) : Nat → Bool := fun j => decide (n ≤ j) || b j
theorem inN_lt {n : Nat} (h : j < n) : inN n b j = b j := by simp [inN, Nat.not_le.2 h]
theorem inN_up {n : Nat} : inN n (up b i) = up (inN n b) i := by
 funext j
 unfold inN up
 by_cases h : j = i
 ·simp [h]
 ·simp [h]
theorem inN_all {n : Nat} (h : ∀ j, (List.range n).contains j = true → b j = true) : inN n b = fun _ => true := by
 funext j
 by_cases hj : j < n
 ·rw [inN_lt hj]
  exact h j (by simpa using hj)
 ·simp [inN, Nat.not_lt.1 hj]
theorem PS0' {n : Nat} (hn : (LL.all fun e => decide (e.1 < n)) = true) (a : Act) : a = putSel a (inN n fun _ => false) LL := by
 induction LL generalizing a with
 | nil => rfl
 | cons e r ih =>
  rw [List.all_cons, Bool.and_eq_true, decide_eq_true_eq] at hn
  unfold putSel
  rw [inN_lt hn.1, if_neg (by decide)]
  exact ih hn.2 a
/-- The region, all its operations in one relation. -/
theorem RGN {id : Nat} {T : Bool × List (List Nat × List Nat)} {B : List Nat} (n : Nat) (O : List Nat) (I : Act → (Nat → Bool) → Act → World → Prop) (hT : rtab .any ops = T) (hw : waitsOk T.2 B = true) (h0 : I a (inN n fun _ => false) a w.drew) (hs : ∀ i ∈ O, StepAt P ops Q B O (I a) i)
  (hend : ∀ a' w, I a (fun _ => true) a' w → Q .normal a' w) (hn : ops.size = n := by rfl) (hO : O = List.range n := by rfl) (hk : baseOk T.2 (List.range n) = true := by kernel_rfl) (hl : (lof T.2.length (List.range n) (fun _ => false) == List.replicate n false && (List.range n).length == n) = true := by kernel_rfl) (hm : P.follows .mixedOrders = true := by kernel_rfl) : (Code.region id ops true).wp P Q a w := by
 subst hO
 refine start_ (S := fun _ => True) (ds := []) (Array.replicate n false) hm hn rfl trivial (fun _ => inv_at (List.range n) (fun a0 b => I a0 (inN n b)) hT hw hk (by simpa using hl) h0 ?_ ?_)
 ·intro i hi b a' w' hI hb hon hoff
  have hi' : i < n := List.mem_range.1 hi
  obtain ⟨oi, ho, hK⟩ := hs i hi (inN n b) a' w' hI (by rw [inN_lt hi']; exact hb) (fun j hj => by
   have hl : j < n := by rw [Bool.and_eq_true] at hj; simpa using hj.1
   rw [inN_lt hl]; exact hon j hj) (fun d hd => by
   have hl : d < n := by rw [Bool.and_eq_true] at hd; simpa using hd.1
   rw [inN_lt hl]; exact hoff d hd)
  refine ⟨oi, ho, fun K hKK => hK K ?_⟩
  have hKK : Shut (∀ a' w', I a (inN n (up b i)) a' w' → K a' w') := hKK
  rw [inN_up] at hKK
  exact hKK
 ·intro b a' w' hall hI
  rw [inN_all hall] at hI
  exact hend a' w' hI
theorem Mem.ems (h : Mem w0 F w N) : ∀ n, Mem w0 F w (N ++ List.replicate n emp)
 | 0 => by simpa using h
 | n + 1 => by
  rw [List.replicate_succ', ← List.append_assoc]
  exact (h.ems n).em
end
end Go.Proofs.Ythnedklbobbkcaa.Mm

namespace Go.Proofs.Ythnedklbobbkcaa.Mm
open Go.RowKit Go.Proofs.YthnedklbobbkcaaW.PrintWords Go.Proofs.YthnedklbobbkcaaW.PrintLast Go.Proofs.YthnedklbobbkcaaW.PrintMore Go.Proofs.Ythnedklbobbkcaa.Sh
set_option linter.unusedVariables false
section
variable {P : Program} {ops : Array Oper} {rest : List Oper} {o : Oper} {a : Act} {Q : Exit → Act → World → Prop} {K : Act → World → Prop} {w0 W W0 : World} {F N L : List SP} {A : SP} {α : Type}
-- cuts that are read at later worlds, too
theorem eRdf (t e : TypeId) (d : Kd α) (x lo : Operand) (k : Int) (xs : List α) (X : Option Addr) (c : Nat) {z : Value} {bytes : Nat} (ho : o.op = .slice t x (some lo) none none) (ht : P.underlying t = some (.slice e)) (hinfo : (P.info? e).map (fun i => (i.zero, i.size, i.bytes)) = some (some z, d.sz, bytes)) (hc : xs.length ≤ c) (h0 : 0 ≤ k) (h1 : k ≤ xs.length)
  (h : ∀ X' c', (∀ W', d.C W' X xs.length xs → d.C W' X' (xs.drop k.toNat).length (xs.drop k.toNat)) → (xs.drop k.toNat).length ≤ c' → K (a.put o.dst (.slice X' (xs.drop k.toNat).length c')) W) (hx : a.eval x = .slice X xs.length c := by first | rfl | (simp only [List.length_drop, List.length_take, List.length_append, List.length_set, List.length_cons, List.length_nil, Int.reduceToNat]; rfl)) (hl : a.eval lo = .int .i64 k := by rfl) : Oper.wp P o a W K Q := by
 have hel : P.elem t = e := by simp [Program.elem, ht]
 have hu : P.underlying t = some (.slice (P.elem t)) := by rw [hel]; exact ht
 obtain ⟨i0, hi0, _, hsz, _⟩ := info_parts hinfo
 have hcut := cut_from (P := P) t e .i64 ht hi0 d.sz hsz X xs.length c k h0 h1 W
 have hl2 : (xs.drop k.toNat).length = xs.length - k.toNat := List.length_drop
 refine wp_value (v := .slice (if c = k.toNat then X else X.map (·.add (k.toNat * d.sz))) (xs.drop k.toNat).length (c - k.toNat)) (by rw [hl2]; unfold execOp; simp [ho, hx, hl, run_sliceAt_slice (h := hu), hcut]) (h _ _ (fun _ h_ => Kd.C_drop (m := k.toNat) h_ (by omega) hc) (by omega))
theorem pRdf (t e : TypeId) (d : Kd α) (x lo : Operand) (k : Int) (xs : List α) (X : Option Addr) (c : Nat) {z : Value} {bytes : Nat} (ho : o.op = .slice t x (some lo) none none) (ht : P.underlying t = some (.slice e)) (hinfo : (P.info? e).map (fun i => (i.zero, i.size, i.bytes)) = some (some z, d.sz, bytes)) (hc : xs.length ≤ c) (h0 : 0 ≤ k) (h1 : k ≤ xs.length) (h : ∀ X' c', (∀ W', d.C W' X xs.length xs → d.C W' X' (xs.drop k.toNat).length (xs.drop k.toNat)) → (xs.drop k.toNat).length ≤ c' → wpList P ops Q rest (a.put o.dst (.slice X' (xs.drop k.toNat).length c')) W) (hx : a.eval x = .slice X xs.length c := by first | rfl | (simp only [List.length_drop, List.length_take, List.length_append, List.length_set, List.length_cons, List.length_nil, Int.reduceToNat]; rfl)) (hl : a.eval lo = .int .i64 k := by rfl) (hg : Region.wanted o (yielded ops a.tmps) = true := by rfl) : wpList P ops Q (o :: rest) a W :=
 PL (fun K hK hw => eRdf t e d x lo k xs X c ho ht hinfo hc h0 h1 (fun X' c' h0_ h1_ => hK _ _ (h X' c' h0_ h1_)) hx hl) hg
theorem eRtf (t e : TypeId) (d : Kd α) (x hi_ : Operand) (k : Int) (xs : List α) (X : Option Addr) (c : Nat) {z : Value} {bytes : Nat} (ho : o.op = .slice t x none (some hi_) none) (ht : P.underlying t = some (.slice e)) (hinfo : (P.info? e).map (fun i => (i.zero, i.size, i.bytes)) = some (some z, d.sz, bytes)) (hc : xs.length ≤ c) (h0 : 0 ≤ k) (h1 : k ≤ xs.length)
  (h : ∀ X' c', (∀ W', d.C W' X xs.length xs → d.C W' X' (xs.take k.toNat).length (xs.take k.toNat)) → (xs.take k.toNat).length ≤ c' → K (a.put o.dst (.slice X' (xs.take k.toNat).length c')) W) (hx : a.eval x = .slice X xs.length c := by first | rfl | (simp only [List.length_drop, List.length_take, List.length_append, List.length_set, List.length_cons, List.length_nil, Int.reduceToNat]; rfl)) (hl : a.eval hi_ = .int .i64 k := by rfl) : Oper.wp P o a W K Q := by
 have hel : P.elem t = e := by simp [Program.elem, ht]
 have hu : P.underlying t = some (.slice (P.elem t)) := by rw [hel]; exact ht
 obtain ⟨i0, hi0, _, hsz, _⟩ := info_parts hinfo
 have hcut := cut_to (P := P) t e .i64 ht hi0 X xs.length c k h0 h1 hc W
 have hl2 : (xs.take k.toNat).length = k.toNat := by rw [List.length_take]; omega
 refine wp_value (v := .slice X (xs.take k.toNat).length c) (by rw [hl2]; unfold execOp; simp [ho, hx, hl, run_sliceAt_slice (h := hu), hcut]) (h _ _ (fun _ h_ => Kd.C_take h_ (by omega)) (by omega))
theorem pRtf (t e : TypeId) (d : Kd α) (x hi_ : Operand) (k : Int) (xs : List α) (X : Option Addr) (c : Nat) {z : Value} {bytes : Nat} (ho : o.op = .slice t x none (some hi_) none) (ht : P.underlying t = some (.slice e)) (hinfo : (P.info? e).map (fun i => (i.zero, i.size, i.bytes)) = some (some z, d.sz, bytes)) (hc : xs.length ≤ c) (h0 : 0 ≤ k) (h1 : k ≤ xs.length) (h : ∀ X' c', (∀ W', d.C W' X xs.length xs → d.C W' X' (xs.take k.toNat).length (xs.take k.toNat)) → (xs.take k.toNat).length ≤ c' → wpList P ops Q rest (a.put o.dst (.slice X' (xs.take k.toNat).length c')) W) (hx : a.eval x = .slice X xs.length c := by first | rfl | (simp only [List.length_drop, List.length_take, List.length_append, List.length_set, List.length_cons, List.length_nil, Int.reduceToNat]; rfl)) (hl : a.eval hi_ = .int .i64 k := by rfl) (hg : Region.wanted o (yielded ops a.tmps) = true := by rfl) : wpList P ops Q (o :: rest) a W :=
 PL (fun K hK hw => eRtf t e d x hi_ k xs X c ho ht hinfo hc h0 h1 (fun X' c' h0_ h1_ => hK _ _ (h X' c' h0_ h1_)) hx hl) hg
end
end Go.Proofs.Ythnedklbobbkcaa.Mm

namespace Go.Proofs.Ythnedklbobbkcaa.Mm
open Go.RowKit Go.Proofs.YthnedklbobbkcaaW.PrintWords Go.Proofs.YthnedklbobbkcaaW.PrintLast Go.Proofs.YthnedklbobbkcaaW.PrintMore Go.Proofs.Ythnedklbobbkcaa.Sh
set_option linter.unusedVariables false
/-- A row told by its cells alone. -/
def rawK (n : Nat) : Kd (List Value) where
 sz := n
 E := []
 K := fun _ x cs => cs = x ∧ x.length = n ∧ x.all (·.oneCell') = true
 M := fun _ _ _ x cs => cs = x ∧ x.length = n ∧ x.all (·.oneCell') = true
 K_len := fun h => by rw [h.1]; exact h.2.1
 K_one := fun h u hu => List.all_eq_true.1 h.2.2 u (h.1 ▸ hu)
 K_below := fun _ h => h
 K_of_M := fun h => h
 M_mono := fun _ h => h
 M_bound := fun h => h
 M_move := fun _ h => h
 M_lower := fun _ h => h
/-- An element's kind: its cells, given its rows' values; its rows, as_ things that are held. -/
structure KR (α : Type) where
 kd : Kd α
 cells : α → List Value → List Value
 sps : α → List Value → List SP
 rd : ∀ (w : World) (x : α) (vs : List Value), (∀ A ∈ sps x vs, ∃ S, A.At w S) → kd.K w x (cells x vs)
/-- Things each with blocks of their own, as_ one thing. -/
def nest (L : List SP) : SP := ⟨fun w S => ∃ T : Nat → Nat → Prop, (∀ (i : Nat) (A : SP), L[i]? = some A → A.At w (T i)) ∧ (∀ i k, T i k → S k) ∧ (∀ i j k, T i k → T j k → i = j), by
 rintro w w' S ⟨T, h1, h2, h3⟩ hm
 exact ⟨T, fun i A hA => A.loc (h1 i A hA) (fun k hk => hm k (h2 i k hk)), h2, h3⟩⟩
section
variable {w0 w w' : World} {F N M L R : List SP} {A B : SP} {i j : Nat} {S S' : Nat → Prop}
theorem nest_nil (w : World) (S : Nat → Prop) : (nest []).At w S := ⟨fun _ _ => False, fun i A h => by simp at h, fun _ _ h => h.elim, fun _ _ _ h => h.elim⟩
theorem nest_mono (h : (nest L).At w S) (hs : ∀ k, S k → S' k) : (nest L).At w S' := by
 obtain ⟨T, h1, h2, h3⟩ := h
 exact ⟨T, h1, fun i k hk => hs k (h2 i k hk), h3⟩
def two (P Q : (Nat → Prop) → Prop) (S : Nat → Prop) : Prop := ∃ S1 S2, P S1 ∧ Q S2 ∧ (∀ k, S1 k → S k) ∧ (∀ k, S2 k → S k) ∧ ∀ k, S1 k → S2 k → False
theorem nest_cons : (nest (A :: L)).At w S ↔ two (A.At w) ((nest L).At w) S := by
 constructor
 ·rintro ⟨T, h1, h2, h3⟩
  refine ⟨T 0, fun k => ∃ i, T (i + 1) k, h1 0 A rfl, ⟨fun i => T (i + 1), fun i B hB => h1 (i + 1) B hB, fun i k hk => ⟨i, hk⟩, fun i j k hi hj => by have := h3 _ _ k hi hj; omega⟩, h2 0, fun k ⟨i, hk⟩ => h2 _ k hk, fun k h0 ⟨i, hk⟩ => by have := h3 _ _ k h0 hk; omega⟩
 ·rintro ⟨S1, S2, hA, ⟨T, h1, h2, h3⟩, s1, s2, hd⟩
  refine ⟨fun q => match q with | 0 => S1 | i + 1 => T i, fun q B hB => ?_, fun q k hk => ?_, fun q p k hq hp => ?_⟩
  ·cases q with
   | zero =>
    obtain rfl : A = B := by simpa using hB
    exact hA
   | succ q =>
    exact h1 q B hB
  ·cases q with
   | zero =>
    exact s1 k hk
   | succ q =>
    exact s2 k (h2 q k hk)
  ·cases q with
   | zero =>
    cases p with
    | zero =>
     rfl
    | succ p =>
     exact (hd k hq (h2 p k hp)).elim
   | succ q =>
    cases p with
    | zero =>
     exact (hd k hp (h2 q k hq)).elim
    | succ p =>
     have := h3 _ _ k hq hp
     omega
theorem nest_append : ∀ {L M : List SP} {S : Nat → Prop}, (nest (L ++ M)).At w S ↔ two ((nest L).At w) ((nest M).At w) S
 | [], M, S => by
  constructor
  ·intro h
   exact ⟨fun _ => False, S, nest_nil _ _, h, fun _ h => h.elim, fun _ h => h, fun _ h _ => h⟩
  ·rintro ⟨S1, S2, _, h, _, s2, _⟩
   exact nest_mono h s2
 | A :: L, M, S => by
  rw [List.cons_append, nest_cons]
  constructor
  ·rintro ⟨S1, S2, hA, h, s1, s2, hd⟩
   obtain ⟨S3, S4, h3, h4, s3, s4, hd2⟩ := nest_append.1 h
   refine ⟨fun k => S1 k ∨ S3 k, S4, nest_cons.2 ⟨S1, S3, hA, h3, fun k hk => .inl hk, fun k hk => .inr hk, fun k a b => hd k a (s3 k b)⟩, h4, fun k hk => hk.elim (s1 k) (fun q => s2 k (s3 k q)), fun k hk => s2 k (s4 k hk), fun k hk h4 => hk.elim (fun q => hd k q (s4 k h4)) (fun q => hd2 k q h4)⟩
  ·rintro ⟨S1, S2, h, hM, s1, s2, hd⟩
   obtain ⟨S3, S4, hA, h4, s3, s4, hd2⟩ := nest_cons.1 h
   exact ⟨S3, fun k => S4 k ∨ S2 k, hA, nest_append.2 ⟨S4, S2, h4, hM, fun k hk => .inl hk, fun k hk => .inr hk, fun k a b => hd k (s4 k a) b⟩, fun k hk => s1 k (s3 k hk), fun k hk => hk.elim (fun q => s1 k (s4 k q)) (s2 k), fun k a hk => hk.elim (hd2 k a) (fun q => hd k (s3 k a) q)⟩
theorem nest_one (h : A.At w S) : (nest [A]).At w S := nest_cons.2 ⟨S, fun _ => False, h, nest_nil _ _, fun _ h => h, fun _ h => h.elim, fun _ _ h => h⟩
theorem nest_at (h : (nest L).At w S) : ∀ A ∈ L, ∃ S', A.At w S' := by
 obtain ⟨T, h1, _, _⟩ := h
 intro A hA
 obtain ⟨i, hi, rfl⟩ := List.getElem_of_mem hA
 exact ⟨T i, h1 i _ (List.getElem?_eq_getElem hi)⟩
theorem Mem.folds (h : Mem w0 F w L) : Mem w0 F w [nest L] := by
 obtain ⟨hb, T, h1, h2, h3⟩ := h
 refine ⟨hb, fun q => if q < F.length then T q else if q = F.length then (fun k => ∃ j, T (F.length + j) k) else fun _ => False, fun q D hD => ?_, fun q k hk => ?_, fun q p k hq hp => ?_⟩
 ·(try dsimp only)
  by_cases c : q < F.length
  ·rw [if_pos c]
   rw [List.getElem?_append_left c] at hD
   exact h1 q D (by rw [List.getElem?_append_left c]; exact hD)
  ·have hq : q = F.length := by
    have := (List.getElem?_eq_some_iff.1 hD).1
    rw [List.length_append, List.length_singleton] at this
    omega
   rw [if_neg c, if_pos hq]
   rw [hq, List.getElem?_append_right (Nat.le_refl _), Nat.sub_self] at hD
   obtain rfl : nest L = D := by simpa using hD
   exact ⟨fun j => T (F.length + j), fun j A hA => h1 _ A (by rw [List.getElem?_append_right (by omega), Nat.add_sub_cancel_left]; exact hA), fun j k hk => ⟨j, hk⟩, fun i j k hi hj => by have := h3 _ _ k hi hj; omega⟩
 ·(try dsimp only at hk)
  split at hk
  ·exact h2 q k hk
  ·split at hk
   ·obtain ⟨j, hk⟩ := hk
    exact h2 _ k hk
   ·exact hk.elim
 ·(try dsimp only at hq hp)
  split at hq <;> split at hp
  ·exact h3 _ _ k hq hp
  ·split at hp
   ·obtain ⟨j, hp⟩ := hp
    have := h3 _ _ k hq hp
    omega
   ·exact hp.elim
  ·split at hq
   ·obtain ⟨j, hq⟩ := hq
    have := h3 _ _ k hq hp
    omega
   ·exact hq.elim
  ·split at hq
   ·split at hp
    ·omega
    ·exact hp.elim
   ·exact hq.elim
theorem Mem.opens (h : Mem w0 F w [nest L]) : Mem w0 F w L := by
 obtain ⟨hb, T, h1, h2, h3⟩ := h
 obtain ⟨U, u1, u2, u3⟩ := h1 F.length (nest L) (by rw [List.getElem?_append_right (Nat.le_refl _), Nat.sub_self]; rfl)
 refine ⟨hb, fun q => if q < F.length then T q else U (q - F.length), fun q D hD => ?_, fun q k hk => ?_, fun q p k hq hp => ?_⟩
 ·(try dsimp only)
  by_cases c : q < F.length
  ·rw [if_pos c]
   rw [List.getElem?_append_left c] at hD
   exact h1 q D (by rw [List.getElem?_append_left c]; exact hD)
  ·rw [if_neg c]
   rw [List.getElem?_append_right (by omega)] at hD
   exact u1 _ D hD
 ·(try dsimp only at hk)
  split at hk
  ·exact h2 q k hk
  ·exact h2 _ k (u2 _ k hk)
 ·(try dsimp only at hq hp)
  split at hq <;> split at hp
  ·exact h3 _ _ k hq hp
  ·have := h3 _ _ k hq (u2 _ k hp); omega
  ·have := h3 _ _ k hp (u2 _ k hq); omega
  ·have := u3 _ _ k hq hp; omega
theorem Mem.tell0 (h : Mem w0 F w [A]) (hB : ∀ S, A.At w S → B.At w S) : Mem w0 F w [B] := h.tell (i := 0) rfl B hB
end
section
variable {α : Type}
/-- A row whose elements have rows of their own. -/
def rr (X : KR α) (e : Nat) (v : Value) (xs : List α) : SP := ⟨fun w S => ∃ vss : List (List Value), vss.length = xs.length ∧ (nest (rowR (rawK X.kd.sz) e v (List.zipWith X.cells xs vss) :: (List.zipWith X.sps xs vss).flatten)).At w S, by
 rintro w w' S ⟨vss, hv, hn⟩ hm
 exact ⟨vss, hv, (nest _).loc hn hm⟩⟩
variable {w0 w w' : World} {F N M L R : List SP} {i j e n c : Nat} {S : Nat → Prop} {X : KR α} {v : Value} {A : Option Addr} {xs : List α} {x x' z : α} {vs : List Value} {vss : List (List Value)}
theorem flat_cut (f : α → List Value → List SP) (hv : vss.length = xs.length) (hj : j < xs.length) : (List.zipWith f xs vss).flatten = (List.zipWith f (xs.take j) (vss.take j)).flatten ++ f xs[j] (vss[j]'(by omega)) ++ (List.zipWith f (xs.drop (j + 1)) (vss.drop (j + 1))).flatten := by
 have e1 : xs = xs.take j ++ xs[j] :: xs.drop (j + 1) := by rw [← List.drop_eq_getElem_cons hj, List.take_append_drop]
 have e2 : vss = vss.take j ++ vss[j]'(by omega) :: vss.drop (j + 1) := by rw [← List.drop_eq_getElem_cons (by omega), List.take_append_drop]
 conv => lhs; rw [e1, e2]
 rw [List.zipWith_append (by rw [List.length_take, List.length_take]; omega), List.zipWith_cons_cons, List.flatten_append, List.flatten_cons, List.append_assoc]
theorem rr_raw (h : (rr X e v xs).At w S) : ∃ vss : List (List Value), vss.length = xs.length ∧ (∃ S1, (rowR (rawK X.kd.sz) e v (List.zipWith X.cells xs vss)).At w S1) ∧ ∀ q (hq : q < xs.length) (hq2 : q < vss.length), X.kd.K w xs[q] (X.cells xs[q] vss[q]) := by
 obtain ⟨vss, hv, hn⟩ := h
 refine ⟨vss, hv, ?_, fun q hq hq2 => X.rd w _ _ (fun A hA => ?_)⟩
 ·exact nest_at hn _ List.mem_cons_self
 ·refine nest_at hn A (List.mem_cons_of_mem _ ?_)
  rw [flat_cut X.sps hv hq]
  exact List.mem_append_left _ (List.mem_append_right _ hA)
/-- What is read of it. -/
theorem Mem.CRR (h : Mem w0 F w N) (i : Nat) (hi : N[i]? = some (rr X e (.slice A n c) xs)) : n = xs.length ∧ n ≤ c ∧ X.kd.C w A xs.length xs := by
 obtain ⟨S, hA, _⟩ := h.at_ hi
 obtain ⟨vss, hv, ⟨S1, hr⟩, hk⟩ := rr_raw hA
 obtain ⟨h1, h2, h3⟩ := Kd.R_reads' hr
 have hl : (List.zipWith X.cells xs vss).length = xs.length := by rw [List.length_zipWith]; omega
 rw [hl] at h1 h3
 refine ⟨h1, h2, rfl, h3.2.1, fun hp => ?_⟩
 obtain ⟨ad, ea, hc⟩ := h3.2.2 hp
 refine ⟨ad, ea, fun q p hq => ?_⟩
 have hq1 := (List.getElem?_eq_some_iff.1 hq).1
 have hq2 : q < (List.zipWith X.cells xs vss).length := by omega
 obtain ⟨cs, hc1, hc2, hc3⟩ := hc q _ (List.getElem?_eq_getElem hq2)
 have e1 : cs = X.cells xs[q] (vss[q]'(by omega)) := by rw [hc2.1, List.getElem_zipWith]
 refine ⟨cs, hc1, ?_, hc3⟩
 have e2 : xs[q] = p := (List.getElem?_eq_some_iff.1 hq).2
 rw [e1, ← e2]
 exact hk q hq1 (by omega)
theorem Mem.rdRR (h : Mem w0 F w N) (i : Nat) (hi : N[i]? = some (rr X e v xs)) : ∃ A c, v = .slice A xs.length c := by
 obtain ⟨S, hA, _⟩ := h.at_ hi
 obtain ⟨vss, hv, ⟨S1, hr⟩, hk⟩ := rr_raw hA
 obtain ⟨A, c, e⟩ := Kd.R_slice hr
 have hl : (List.zipWith X.cells xs vss).length = xs.length := by rw [List.length_zipWith]; omega
 rw [hl] at e
 exact ⟨A, c, e⟩
/-- One that is empty. -/
theorem Mem.nlRR (h : Mem w0 F w N) (X : KR α) (e : Nat) : Mem w0 F w (N ++ [rr X e (.slice none 0 0) []]) :=
 h.push _ (S' := fun _ => False) ⟨[], rfl, nest_one (A := rowR (rawK X.kd.sz) e (.slice none 0 0) []) (Kd.R_nil _ _ _ _ _)⟩ (fun _ h => h.elim) ⟨rfl, rfl, rfl, Nat.le_refl _, fun _ _ _ => rfl⟩
theorem Mem.rr1 (h : Mem w0 F w (rowR (rawK X.kd.sz) e v (List.zipWith X.cells xs vss) :: (List.zipWith X.sps xs vss).flatten)) (hv : vss.length = xs.length) : Mem w0 F w [rr X e v xs] :=
 h.folds.tell0 (fun S hS => ⟨vss, hv, hS⟩)
/-- A literal. -/
theorem Mem.rrLit (h : Mem w0 F w N) (rest l : List Nat) (vss : List (List Value)) (hl : ((rest ++ l).all (· < N.length) && decide (rest ++ l).Nodup) = true) (hM : l.map (fun i => N[i]?) = (rowR (rawK X.kd.sz) e v (List.zipWith X.cells xs vss) :: (List.zipWith X.sps xs vss).flatten).map some) (hv : vss.length = xs.length) : Mem w0 F w (pk N rest ++ [rr X e v xs]) :=
 Mem.unfocus ((h.focus rest l hl hM).rr1 hv)
/-- An element is appended, its rows go with it. -/
theorem Mem.rrApp (h : Mem w0 F w N) (rest l : List Nat) (x : α) (vs : List Value) (hv : vss.length = xs.length) (hl : ((rest ++ l).all (· < N.length) && decide (rest ++ l).Nodup) = true) (hM : l.map (fun i => N[i]?) = (rowR (rawK X.kd.sz) e v (List.zipWith X.cells xs vss ++ [X.cells x vs]) :: nest (List.zipWith X.sps xs vss).flatten :: X.sps x vs).map some) : Mem w0 F w (pk N rest ++ [rr X e v (xs ++ [x])]) := by
 refine Mem.unfocus ((h.focus rest l hl hM).folds.tell0 (fun S hS => ⟨vss ++ [vs], by rw [List.length_append, List.length_append, hv]; rfl, ?_⟩))
 rw [List.zipWith_append hv.symm, List.zipWith_append hv.symm, List.flatten_append]
 obtain ⟨S1, S2, h1, h2, s1, s2, hd⟩ := nest_cons.1 hS
 obtain ⟨S3, S4, h3, h4, s3, s4, hd2⟩ := nest_cons.1 h2
 refine nest_cons.2 ⟨S1, S2, h1, ?_, s1, s2, hd⟩
 refine nest_append.2 ⟨S3, S4, h3, ?_, s3, s4, hd2⟩
 simpa using h4
/-- Told by its cells and, as_ one thing, its elements' rows. -/
theorem Mem.rrOut (h : Mem w0 F w N) (rest l : List Nat) (hl : ((rest ++ l).all (· < N.length) && decide (rest ++ l).Nodup) = true) (hM : l.map (fun i => N[i]?) = [rr X e v xs].map some) : ∃ vss : List (List Value), vss.length = xs.length ∧ Mem w0 F w (pk N rest ++ [rowR (rawK X.kd.sz) e v (List.zipWith X.cells xs vss), nest (List.zipWith X.sps xs vss).flatten]) := by
 obtain ⟨S, ⟨vss, hv, hn⟩, hS, k⟩ := (h.focus rest l hl hM).opn (i := 0) rfl
 refine ⟨vss, hv, Mem.unfocus (Mem.opens (k w (nest _) S ?_ (fun k hk => ⟨.inl hk, (hS k hk).2⟩) ⟨rfl, rfl, rfl, Nat.le_refl _, fun _ _ _ => rfl⟩))⟩
 obtain ⟨S1, S2, h1, h2, s1, s2, hd⟩ := nest_cons.1 hn
 exact nest_cons.2 ⟨S1, S2, h1, nest_one h2, s1, s2, hd⟩
end
end Go.Proofs.Ythnedklbobbkcaa.Mm

namespace Go.Proofs.Ythnedklbobbkcaa.G
open Go.RowKit Go.Proofs.YthnedklbobbkcaaW.PrintWords Go.Proofs.YthnedklbobbkcaaW.PrintLast Go.Proofs.YthnedklbobbkcaaW.PrintMore Go.Proofs.Ythnedklbobbkcaa.Sh Go.Proofs.Ythnedklbobbkcaa.Mm
def x55 : KR S55 := ⟨k55, fun x vs => [.int .i64 x.f0, .int .i64 x.f1, .int .i64 x.f2, .int .i64 x.f3.f0, .string x.f3.f1, .string x.f3.f2, vs.getD 0 (.bool false)], fun x vs => [row Kd.string 9 (vs.getD 0 (.bool false)) x.f4], fun w x vs h => by
 obtain ⟨S6, h6⟩ := h (row Kd.string 9 (vs.getD 0 (.bool false)) x.f4) List.mem_cons_self
 obtain ⟨A6, c6, e6, l6⟩ := Kd.Q_slice h6
 have g6 := (Kd.Q_reads' (e6 ▸ h6)).2.2
 show k55.K w x [.int .i64 x.f0, .int .i64 x.f1, .int .i64 x.f2, .int .i64 x.f3.f0, .string x.f3.f1, .string x.f3.f2, vs.getD 0 (.bool false)]
 rw [e6]
 exact k55_mk w x l6 g6⟩
end Go.Proofs.Ythnedklbobbkcaa.G

namespace Go.Proofs.Ythnedklbobbkcaa.Any
open Go.Shelf
def ren : Ren := ⟨fun | 119 => 216 | 137 => 215 | 150 => 170 | 152 => 209 | 153 => 200 | 217 => 219 | 224 => 217 | 225 => 218 | 226 => 210 | 227 => 211 | 228 => 212 | 266 => 221 | n => n, fun | 0 => 0 | 3 => 3 | 4 => 4 | 5 => 5 | 9 => 9 | 21 => 21 | 46 => 218 | 116 => 249 | 117 => 250 | 124 => 256 | n => n, fun n => n⟩
set_option maxRecDepth 100000 in
theorem lays : Lays.n153 Try.prog ren := {
 mixed := by kernel_rfl
 f119 := Try.func216.trans (congrArg some (by kernel_rfl))
 f137 := Try.func215.trans (congrArg some (by kernel_rfl))
 f152 := Try.func209.trans (congrArg some (by kernel_rfl))
 f153 := Try.func200.trans (congrArg some (by kernel_rfl))
 f217 := Try.func219.trans (congrArg some (by kernel_rfl))
 f224 := Try.func217.trans (congrArg some (by kernel_rfl))
 f225 := Try.func218.trans (congrArg some (by kernel_rfl))
 f226 := Try.func210.trans (congrArg some (by kernel_rfl))
 f227 := Try.func211.trans (congrArg some (by kernel_rfl))
 f228 := Try.func212.trans (congrArg some (by kernel_rfl))
 f266 := Try.func221.trans (congrArg some (by kernel_rfl))
 t0 := Try.underlying0
 a0 := Try.isAgg0
 z0 := Try.sizeOf0
 v0 := Try.zeroValue0
 t3 := Try.underlying3
 a3 := Try.isAgg3
 z3 := Try.sizeOf3
 v3 := Try.zeroValue3
 t4 := Try.underlying4
 a4 := Try.isAgg4
 z4 := Try.sizeOf4
 v4 := Try.zeroValue4
 t5 := Try.underlying5
 a5 := Try.isAgg5
 z5 := Try.sizeOf5
 v5 := Try.zeroValue5
 t9 := Try.underlying9
 a9 := Try.isAgg9
 z9 := Try.sizeOf9
 v9 := Try.zeroValue9
 t21 := Try.underlying21
 a21 := Try.isAgg21
 z21 := Try.sizeOf21
 v21 := Try.zeroValue21
 t46 := Try.underlying218
 a46 := Try.isAgg218
 z46 := Try.sizeOf218
 v46 := Try.zeroValue218
 t117 := Try.underlying250
 a117 := Try.isAgg250
 z117 := Try.sizeOf250
 v117 := Try.zeroValue250
 t124 := Try.underlying256
 a124 := Try.isAgg256
 z124 := Try.sizeOf256
 v124 := Try.zeroValue256
 t116 := Try.underlying249
 a116 := Try.isAgg249
 z116 := Try.sizeOf249 }
end Go.Proofs.Ythnedklbobbkcaa.Any

namespace Go.Proofs.Ythnedklbobbkcaa.Man
open Go.RowKit Go.Proofs.YthnedklbobbkcaaW.PrintWords Go.Proofs.YthnedklbobbkcaaW.PrintLast Go.Proofs.YthnedklbobbkcaaW.PrintMore
set_option linter.unusedVariables false
theorem encode_wide (r : Int) (h0 : 128 ≤ r) (hv : Utf8.valid r = true) : ∃ rs, Utf8.encode r = rs ∧ ((∃ x y : UInt8, rs = ⟨#[x, y]⟩ ∧ 128 ≤ y.toNat) ∨ rs.size = 3 ∨ rs.size = 4) := by
 have h1 : ¬ r.toNat < 0x80 := by omega
 by_cases h2 : r.toNat < 0x800
 ·refine ⟨⟨#[UInt8.ofNat (0xC0 + r.toNat / 64), UInt8.ofNat (0x80 + r.toNat % 64)]⟩, ?_, Or.inl ⟨_, _, rfl, ?_⟩⟩
  ·unfold Utf8.encode
   simp only [hv, if_true]
   rw [if_neg h1, if_pos h2]
  ·rw [UInt8.toNat_ofNat']
   omega
 ·by_cases h3 : r.toNat < 0x10000
  ·refine ⟨⟨#[UInt8.ofNat (0xE0 + r.toNat / 4096), UInt8.ofNat (0x80 + r.toNat / 64 % 64), UInt8.ofNat (0x80 + r.toNat % 64)]⟩, ?_, Or.inr (Or.inl rfl)⟩
   unfold Utf8.encode
   simp only [hv, if_true]
   rw [if_neg h1, if_neg h2, if_pos h3]
  ·refine ⟨⟨#[UInt8.ofNat (0xF0 + r.toNat / 262144), UInt8.ofNat (0x80 + r.toNat / 4096 % 64), UInt8.ofNat (0x80 + r.toNat / 64 % 64), UInt8.ofNat (0x80 + r.toNat % 64)]⟩, ?_, Or.inr (Or.inr rfl)⟩
   unfold Utf8.encode
   simp only [hv, if_true]
   rw [if_neg h1, if_neg h2, if_neg h3]
theorem decode_wide (s : ByteArray) (i : Nat) (hi : i < s.size) (hb : 128 ≤ (s[i]'hi).toNat) :
  ∃ (r k : Nat), Utf8.decode s i = (r, k) ∧ 128 ≤ r ∧ Utf8.valid (r : Int) = true ∧ r ≤ 1114111 ∧ 1 ≤ k ∧ ∀ j, 1 ≤ j → j < k → ∃ h : i + j < s.size, 128 ≤ (s[i + j]'h).toNat := by
 have get : ∀ k (h : i + k < s.size), s.get! (i + k) = s[i + k]'h := by
  intro k h
  simp [ByteArray.get!, getElem!_pos, h]
  rfl
 have e0 : (s.get! (i + 0)).toNat = (s[i]'hi).toNat := by rw [get 0 (by omega)]; rfl
 have err : Utf8.valid ((Utf8.runeError : Nat) : Int) = true := by decide
 have vb : ∀ c : Nat, Utf8.valid (c : Int) = true → c ≤ 1114111 := by
  intro c h
  simp [Utf8.valid] at h
  omega
 have cont : ∀ k, (decide (i + k < s.size) && ((s.get! (i + k)).toNat / 64 == 2)) = true → ∃ h : i + k < s.size, 128 ≤ (s[i + k]'h).toNat := by
  intro k h
  simp at h
  obtain ⟨h1, h2⟩ := h
  refine ⟨h1, ?_⟩
  rw [get k h1] at h2
  omega
 simp only [Utf8.decode, e0]
 rw [if_neg (by omega)]
 split
 ·rename_i h
  simp only [Bool.and_eq_true] at h
  split
  ·rename_i h2
   refine ⟨_, 2, rfl, by omega, ?_, ?_, by omega, fun j h1 h3 => ?_⟩
   ·simp [Utf8.valid]; omega
   ·omega
   ·obtain rfl : j = 1 := by omega
    exact cont 1 (by simp [h.2])
  ·exact ⟨_, 1, rfl, by decide, err, by decide, by omega, fun j h1 h3 => by omega⟩
 split
 ·rename_i h
  simp only [Bool.and_eq_true] at h
  split
  ·rename_i h2
   simp only [Bool.and_eq_true, decide_eq_true_eq] at h2
   refine ⟨_, 3, rfl, by omega, h2.2, vb _ h2.2, by omega, fun j h1 h3 => ?_⟩
   obtain rfl | rfl : j = 1 ∨ j = 2 := by omega
   ·exact cont 1 (by simp [h.1.2])
   ·exact cont 2 (by simp [h.2])
  ·exact ⟨_, 1, rfl, by decide, err, by decide, by omega, fun j h1 h3 => by omega⟩
 split
 ·rename_i h
  simp only [Bool.and_eq_true] at h
  split
  ·rename_i h2
   simp only [Bool.and_eq_true, decide_eq_true_eq] at h2
   refine ⟨_, 4, rfl, by omega, h2.2, vb _ h2.2, by omega, fun j h1 h3 => ?_⟩
   obtain rfl | rfl | rfl : j = 1 ∨ j = 2 ∨ j = 3 := by omega
   ·exact cont 1 (by simp [h.1.1.2])
   ·exact cont 2 (by simp [h.1.2])
   ·exact cont 3 (by simp [h.2])
  ·exact ⟨_, 1, rfl, by decide, err, by decide, by omega, fun j h1 h3 => by omega⟩
 ·exact ⟨_, 1, rfl, by decide, err, by decide, by omega, fun j h1 h3 => by omega⟩
theorem validRune (r : Int) (h0 : 0 ≤ r) (hv : Utf8.valid r = true) (w : World) : Calls Try.prog 216 #[.int .i32 r] w fun e w' => e = .returned (.bool true) ∧ w' = w := by
 have hv' : (0 ≤ r ∧ r < 55296) ∨ (57344 ≤ r ∧ r ≤ 1114111) := by simpa [Utf8.valid] using hv
 clear hv
 rcases hv' with ⟨_, h⟩ | ⟨h1, h2⟩
 ·go_enter Try.func216, Try.ntmps216
  go_wp2
  go_ret
  exact ⟨rfl, rfl⟩
 ·have a1 : decide (r < 55296) = false := decide_eq_false (by omega)
  have a2 : decide (57343 < r) = true := decide_eq_true (by omega)
  go_enter Try.func216, Try.ntmps216
  go_wp2
  go_ret
  exact ⟨rfl, rfl⟩
theorem indexByte_nil (c : Int) (w : World) : Calls Try.prog 215 #[.string ByteArray.empty, .int .u8 c] w fun e w' => e = .returned (.int .i64 (-1)) ∧ w' = w :=
 Any.strings_IndexByte (P := Try.prog) (ρ := Ythnedklbobbkcaa.Any.ren) { Ythnedklbobbkcaa.Any.lays with } ByteArray.empty c w
theorem indexRune_ascii (r : Int) (w : World) (h0 : 0 ≤ r) (h1 : r < 128) : Calls Try.prog 209 #[.string ⟨#[61, 42]⟩, .int .i32 r] w fun e w' => e = .returned (.int .i64 (Lib.indexByte [61, 42] r.toNat.toUInt8)) ∧ w' = w :=
 Any.strings_IndexRune_ascii (P := Try.prog) (ρ := Ythnedklbobbkcaa.Any.ren) { Ythnedklbobbkcaa.Any.lays with } ⟨#[61, 42]⟩ r w h0 h1
set_option maxHeartbeats 4000000 in
set_option maxRecDepth 1000000 in
theorem indexRune_two (x y : UInt8) (hy : 128 ≤ y.toNat) (r : Int) (h0 : 128 ≤ r) (h1 : r < 2048) (he : Utf8.encode r = ⟨#[x, y]⟩) (w : World) :
  Calls Try.prog 209 #[.string ⟨#[61, 42]⟩, .int .i32 r] w fun e w' => e = .returned (.int .i64 (-1)) ∧ Below w.heap.size w w' := by
 have a1 : decide (r < 128) = false := decide_eq_false (by omega)
 have a2 : (r == 65533) = false := by rw [beq_eq_false_iff_ne]; omega
 have a3 : 0 ≤ r := by omega
 have hv : Utf8.valid r = true := by simp [Utf8.valid]; omega
 have hvr := fun W => validRune r a3 hv W
 have hc : ∀ W : World, Sem.run Try.prog (convert 21 9 (.int .i32 r)) W = .ok (.string ⟨#[x, y]⟩) W := by
  intro W
  rw [← he]
  simp [convert, go_sem, Conv.intToString]
 have a5 : ((42 : Int) != (y.toNat : Int)) = true := by rw [bne_iff_ne]; omega
 have a6 : ((42 : Int) == (y.toNat : Int)) = false := by rw [beq_eq_false_iff_ne]; omega
 have a7 : ((((⟨#[61, 42]⟩ : ByteArray)[1]'(by decide)).toNat : Int) != (((⟨#[x, y]⟩ : ByteArray)[1]'(Nat.lt_succ_self 1)).toNat : Int)) = true := a5
 have a8 : ((((⟨#[61, 42]⟩ : ByteArray)[1]'(by decide)).toNat : Int) == (((⟨#[x, y]⟩ : ByteArray)[1]'(Nat.lt_succ_self 1)).toNat : Int)) = false := a6
 clear he hv a5 a6
 have hw2 : IntKind.i64.wrap 2 = 2 := by decide
 go_enter Try.func209, Try.ntmps209
 go_wp2_with (go_at_call 216; refine (hvr _).mono ?_; rintro e w' ⟨rfl, hw⟩; rw [hw])
 go_step3
 go_wp2_with (go_at_call 216; refine (hvr _).mono ?_; rintro e w' ⟨rfl, hw⟩; rw [hw])
 go_loopg [9] 0 (fun _ v9 w1 => v9 = .int .i64 1 ∧ w1 = w)
 case atStart => exact ⟨rfl, rfl⟩
 case round =>
  obtain ⟨rfl, rfl⟩ := hrel
  go_wp2
  go_step3
  go_wp2
  go_quiet (fail)
  have HB : ∀ m, Aside0 (Below wr.heap.size wr (wr.drewN m)) := fun m => ⟨pw_below_drewN (Below.refl _ _) m⟩
  replace HB := HB nq
  generalize wr.drewN nq = W1 at HB ⊢
  go_wp2
  go_quiet ((go_at_call 215; exact Calls.quiet_of_same (indexByte_nil _ _)))
  have HB2 : ∀ m, Aside0 (Below wr.heap.size wr (W1.drewN m)) := fun m => ⟨pw_below_drewN HB.out m⟩
  go_wp2
  rw [Exit.noGoto_ret]
  simp only [Exit.inBlock, Exit.then]
  rw [Exit.noGoto_ret]
  go_ret
  exact ⟨rfl, (HB2 _).out⟩
set_option maxHeartbeats 4000000 in
set_option maxRecDepth 1000000 in
theorem indexRune_long (rs : ByteArray) (hs : rs.size = 3 ∨ rs.size = 4) (r : Int) (h0 : 128 ≤ r) (h2 : r ≠ 65533) (hv : Utf8.valid r = true) (he : Utf8.encode r = rs) (w : World) :
  Calls Try.prog 209 #[.string ⟨#[61, 42]⟩, .int .i32 r] w fun e w' => e = .returned (.int .i64 (-1)) ∧ Below w.heap.size w w' := by
 have a1 : decide (r < 128) = false := decide_eq_false (by omega)
 have a2 : (r == 65533) = false := by rw [beq_eq_false_iff_ne]; omega
 have a3 : 0 ≤ r := by omega
 have hvr := fun W => validRune r a3 hv W
 have hc : ∀ W : World, Sem.run Try.prog (convert 21 9 (.int .i32 r)) W = .ok (.string rs) W := by
  intro W
  rw [← he]
  simp [convert, go_sem, Conv.intToString]
 have b1 : ((rs.size : Int) - 1) < 2 ↔ False := by rcases hs with h | h <;> simp [h]
 have b2 : decide (((rs.size : Int) - 1) < 2) = false := by rcases hs with h | h <;> simp [h]
 have b3 : (2 : Int) ≤ (rs.size : Int) - 1 := by omega
 clear he hv h2
 go_enter Try.func209, Try.ntmps209
 go_wp2_with (go_at_call 216; refine (hvr _).mono ?_; rintro e w' ⟨rfl, hw⟩; rw [hw])
 go_step3
 go_wp2_with (go_at_call 216; refine (hvr _).mono ?_; rintro e w' ⟨rfl, hw⟩; rw [hw])
 go_loopg [9] 0 (fun _ v9 w1 => v9 = .int .i64 ((rs.size : Int) - 1) ∧ w1 = w)
 case atStart => exact ⟨rfl, rfl⟩
 case round =>
  obtain ⟨rfl, rfl⟩ := hrel
  go_wp2
  rw [Exit.noGoto_ret]
  go_ret
  exact ⟨rfl, Below.refl _ _⟩
set_option maxHeartbeats 4000000 in
set_option maxRecDepth 1000000 in
theorem indexRune_error (w : World) :
  Calls Try.prog 209 #[.string ⟨#[61, 42]⟩, .int .i32 65533] w fun e w' => e = .returned (.int .i64 (-1)) ∧ Below w.heap.size w w' := by
 have hn0 := fun ty => run_next_ascii (P := Try.prog) w ⟨#[61, 42]⟩ 0 ty (by decide) (by decide)
 have hn1 := fun ty => run_next_ascii (P := Try.prog) w ⟨#[61, 42]⟩ 1 ty (by decide) (by decide)
 have hn2 := fun ty => run_next_end (P := Try.prog) w ⟨#[61, 42]⟩ 2 ty (by decide)
 go_enter Try.func209, Try.ntmps209
 go_wp2
 go_loopg [5, 6] 3 (fun g _ _ wx => ∃ i : Nat, i + g = 3 ∧ i ≤ 2 ∧ wx = w.iter ⟨#[61, 42]⟩ i)
 case atStart => exact ⟨0, rfl, by omega, rfl⟩
 case round =>
  obtain ⟨i, hig, hi2, rfl⟩ := hrel
  obtain rfl | rfl | rfl : i = 0 ∨ i = 1 ∨ i = 2 := by omega
  ·go_wp2
   go_roundg 2
   case measure => omega
   case rel => exact ⟨1, by omega, by omega, rfl⟩
  ·go_wp2
   go_roundg 1
   case measure => omega
   case rel => exact ⟨2, by omega, by omega, rfl⟩
  ·go_wp2
   try rw [Exit.noGoto_ret]
   go_ret
   exact ⟨rfl, below_alloc (Below.refl _ _) _⟩
theorem indexRune_wide (r : Int) (h0 : 128 ≤ r) (hv : Utf8.valid r = true) (w : World) :
  Calls Try.prog 209 #[.string ⟨#[61, 42]⟩, .int .i32 r] w fun e w' => e = .returned (.int .i64 (-1)) ∧ Below w.heap.size w w' := by
 by_cases h2 : r = 65533
 ·subst h2; exact indexRune_error w
 obtain ⟨rs, he, ⟨x, y, rfl, hy⟩ | hs⟩ := encode_wide r h0 hv
 ·by_cases h1 : r < 2048
  ·exact indexRune_two x y hy r h0 h1 he w
  ·exfalso
   have h3 : (Utf8.encode r).size = 2 := by rw [he]; rfl
   unfold Utf8.encode at h3
   simp only [hv, if_true] at h3
   rw [if_neg (by omega), if_neg (by omega)] at h3
   split at h3 <;> exact absurd h3 (by simp [ByteArray.size])
 ·exact indexRune_long rs hs r h0 h2 hv he w
theorem run_next_gen {P : Program} (W : World) (b : Nat) (s : ByteArray) (pos r k : Nat) (ty : TypeId) (hb : W.heap[b]? = some (.stringIter s pos)) (h : pos < s.size) (hd : Utf8.decode s pos = (r, k)) :
  (Instr.next (.pointer (some ⟨b, 0, none⟩)) true ty).run P W = .ok (.tuple #[.bool true, .int .i64 pos, .int .i32 r]) { W with heap := W.heap.setIfInBounds b (.stringIter s (pos + k)) } := by
 simp [Instr.next, getObj, setObj, Sem.run, hb, Result.andThen, h, hd, goInt]
theorem run_next_stop {P : Program} (W : World) (b : Nat) (s : ByteArray) (pos : Nat) (ty : TypeId) (hb : W.heap[b]? = some (.stringIter s pos)) (h : ¬ pos < s.size) :
  (Instr.next (.pointer (some ⟨b, 0, none⟩)) true ty).run P W = .ok (.tuple #[.bool false]) W := by
 simp [Instr.next, getObj, Sem.run, hb, h]
/-- A byte from i on is '=' or '*'. -/
def anyFrom (s : ByteArray) (i : Nat) : Prop := ∃ j, ∃ h : j < s.size, i ≤ j ∧ (s[j]'h = 61 ∨ s[j]'h = 42)
def AnyPost (s : ByteArray) (w : World) (e : Ending) (w' : World) : Prop := ∃ r : Int, e = .returned (.int .i64 r) ∧ (0 ≤ r ↔ anyFrom s 0) ∧ Below w.heap.size w w'
theorem anyFrom_step {s : ByteArray} {i k : Nat} (hi : i < s.size) (hk : 1 ≤ k) (hb : (s[i]'hi) ≠ 61 ∧ (s[i]'hi) ≠ 42) (hr : ∀ j, 1 ≤ j → j < k → ∃ h : i + j < s.size, 128 ≤ (s[i + j]'h).toNat) : anyFrom s i ↔ anyFrom s (i + k) := by
 constructor
 ·rintro ⟨j, h, hij, e⟩
  refine ⟨j, h, ?_, e⟩
  rcases Nat.lt_or_ge j (i + k) with hlt | hge
  ·exfalso
   by_cases hj : j = i
   ·subst hj; rcases e with e | e
    ·exact hb.1 e
    ·exact hb.2 e
   ·obtain ⟨h', h128⟩ := hr (j - i) (by omega) (by omega)
    have e2 : s[i + (j - i)]'h' = s[j]'h := by congr 1; omega
    rw [e2] at h128
    rcases e with e | e <;> rw [e] at h128 <;> exact absurd h128 (by decide)
  ·exact hge
 ·rintro ⟨j, h, hij, e⟩
  exact ⟨j, h, by omega, e⟩
theorem anyFrom_end {s : ByteArray} {i : Nat} (hi : ¬ i < s.size) : ¬ anyFrom s i := by
 rintro ⟨j, h, hij, _⟩
 omega
theorem indexByte_two (c : UInt8) : 0 ≤ Lib.indexByte [61, 42] c ↔ (c = 61 ∨ c = 42) := by
 by_cases h1 : c = 61
 ·subst h1; decide
 ·by_cases h2 : c = 42
  ·subst h2; decide
  ·have : Lib.indexByte [61, 42] c = -1 := by
    simp [Lib.indexByte, Ne.symm h1, Ne.symm h2]
   rw [this]
   simp [h1, h2]
theorem iter_moved {w W : World} (s : ByteArray) (p q : Nat) (hb : W.heap[w.heap.size]? = some (.stringIter s p)) (h : Below w.heap.size w W) :
  ({ W with heap := W.heap.setIfInBounds w.heap.size (.stringIter s q) } : World).heap[w.heap.size]? = some (.stringIter s q) ∧ Below w.heap.size w ({ W with heap := W.heap.setIfInBounds w.heap.size (.stringIter s q) } : World) := by
 have hl : w.heap.size < W.heap.size := (Array.getElem?_eq_some_iff.1 hb).1
 refine ⟨by simp [hl], ⟨h.os, h.tape, h.output, by simpa using h.size, fun i hi => ?_⟩⟩
 have : w.heap.size ≠ i := by omega
 show (W.heap.setIfInBounds w.heap.size (.stringIter s q))[i]? = _
 rw [Array.getElem?_setIfInBounds, if_neg this]
 exact h.block i hi
theorem iter_below {w W W' : World} {s : ByteArray} {p : Nat} (hb : W.heap[w.heap.size]? = some (.stringIter s p)) (h : Below W.heap.size W W') : W'.heap[w.heap.size]? = some (.stringIter s p) :=
 (h.block _ (Array.getElem?_eq_some_iff.1 hb).1).trans hb
set_option maxHeartbeats 8000000 in
set_option maxRecDepth 1000000 in
theorem indexAny_short (s : ByteArray) (h8 : s.size ≤ 8) (w : World) : Calls Try.prog 200 #[.string s, .string ⟨#[61, 42]⟩] w (AnyPost s w) := by
 have h8z : decide ((8 : Int) < (s.size : Int)) = false := decide_eq_false (by omega)
 have H8 := Aside0.mk h8
 clear h8
 go_enter Try.func200, Try.ntmps200
 go_wp2
 go_loopg [9, 10] s.size (fun g _ _ wx => ∃ i : Nat, Aside0 (i + g = s.size ∨ (s.size ≤ i ∧ g = 0)) ∧ Aside0 (anyFrom s 0 ↔ anyFrom s i) ∧ Aside0 (wx.heap[w.heap.size]? = some (.stringIter s i)) ∧ Aside0 (Below w.heap.size w wx))
 case atStart => exact ⟨0, ⟨Or.inl (by omega)⟩, ⟨Iff.rfl⟩, ⟨World.iter_heap w s 0⟩, ⟨below_alloc (Below.refl _ w) _⟩⟩
 case round =>
  obtain ⟨i, HI, HN, HX, HB⟩ := hrel
  by_cases hi : i < s.size
  ·by_cases hc : (s[i]'hi).toNat < 128
   ·have hd := decode_ascii s i hi hc
    have hn := fun ty => run_next_gen (P := Try.prog) wr w.heap.size s i _ 1 ty HX.out hi hd
    obtain ⟨m1, m2⟩ := iter_moved s i (i + 1) HX.out HB.out
    generalize ({ wr with heap := wr.heap.setIfInBounds w.heap.size (.stringIter s (i + 1)) } : World) = W2 at hn m1 m2
    have M1 := Aside0.mk m1
    have M2 := Aside0.mk m2
    have hr := indexRune_ascii ((s[i]'hi).toNat : Int) W2 (Int.natCast_nonneg _) (by omega)
    have e : (((s[i]'hi).toNat : Int)).toNat.toUInt8 = s[i]'hi := by simp
    rw [e] at hr
    by_cases ht : (s[i]'hi = 61 ∨ s[i]'hi = 42)
    ·have hg : 0 ≤ Lib.indexByte [61, 42] (s[i]'hi) := (indexByte_two _).2 ht
     have hyes := Aside0.mk (show anyFrom s i from ⟨i, hi, Nat.le_refl _, ht⟩)
     generalize Lib.indexByte [61, 42] (s[i]'hi) = q at hr hg
     generalize ((s[i]'hi).toNat : Int) = c at hn hr
     have HII := Aside0.mk hi
     clear m1 m2 hd hc e ht hi
     go_wp2_with (go_at_call 209; refine hr.mono ?_; rintro e w' ⟨rfl, hw⟩; rw [hw])
     go_ret
     exact ⟨(i : Int), rfl, by rw [HN.out]; exact ⟨fun _ => hyes.out, fun _ => Int.natCast_nonneg _⟩, M2.out⟩
    ·have hg : ¬ 0 ≤ Lib.indexByte [61, 42] (s[i]'hi) := fun h => ht ((indexByte_two _).1 h)
     have hst := Aside0.mk (anyFrom_step hi (Nat.le_refl 1) ⟨fun e => ht (Or.inl e), fun e => ht (Or.inr e)⟩ (fun j h1 h2 => by omega))
     generalize Lib.indexByte [61, 42] (s[i]'hi) = q at hr hg
     generalize ((s[i]'hi).toNat : Int) = c at hn hr
     have HII := Aside0.mk hi
     clear m1 m2 hd hc e ht hi
     go_wp2_with (go_at_call 209; refine hr.mono ?_; rintro e w' ⟨rfl, hw⟩; rw [hw])
     have hii := HII.out
     have hi0 := HI.out
     go_roundg (gk - 1)
     case measure => omega
     case rel => exact ⟨i + 1, ⟨by omega⟩, ⟨HN.out.trans hst.out⟩, M1, M2⟩
   ·obtain ⟨r, k, hd, h0, hv, hmax, hk, hrest⟩ := decode_wide s i hi (by omega)
    have hn := fun ty => run_next_gen (P := Try.prog) wr w.heap.size s i r k ty HX.out hi hd
    obtain ⟨m1, m2⟩ := iter_moved s i (i + k) HX.out HB.out
    generalize ({ wr with heap := wr.heap.setIfInBounds w.heap.size (.stringIter s (i + k)) } : World) = W2 at hn m1 m2
    have M1 := Aside0.mk m1
    have M2 := Aside0.mk m2
    have hr := indexRune_wide (r : Int) (by omega) hv W2
    have hst := Aside0.mk (anyFrom_step hi hk ⟨fun e => hc (by rw [e]; decide), fun e => hc (by rw [e]; decide)⟩ hrest)
    have HK := Aside0.mk hk
    have HII := Aside0.mk hi
    generalize (r : Int) = c at hn hr
    clear m1 m2 hd hc hi h0 hv hmax hk hrest
    go_wp2_with (go_at_call 209; refine hr.mono ?_; rintro e w' ⟨rfl, hw⟩; have HW := Aside0.mk hw; clear hw)
    have hii := HII.out
    have hi0 := HI.out
    have hk := HK.out
    go_roundg (gk - k)
    case measure => omega
    case rel => exact ⟨i + k, ⟨by omega⟩, ⟨HN.out.trans hst.out⟩, ⟨iter_below M1.out HW.out⟩, ⟨below_step M2.out HW.out⟩⟩
  ·have hn := fun ty => run_next_stop (P := Try.prog) wr w.heap.size s i ty HX.out hi
   have HNI := Aside0.mk hi
   clear hi
   go_wp2
   go_ret
   exact ⟨-1, rfl, by rw [HN.out]; exact ⟨fun h => absurd h (by decide), fun h => absurd h (anyFrom_end HNI.out)⟩, HB.out⟩
theorem indexAny_iff (cs : List UInt8) : ∀ l : List UInt8, 0 ≤ Lib.indexAny l cs ↔ ∃ b ∈ l, cs.contains b = true
 | [] => by simp [Lib.indexAny]
 | b :: r => by
  have ih := indexAny_iff cs r
  have hge := Lib.indexAny_ge cs r
  rw [Lib.indexAny]
  by_cases c : cs.contains b = true
  ·rw [if_pos c]
   exact ⟨fun _ => ⟨b, List.mem_cons_self, c⟩, fun _ => Int.le_refl 0⟩
  ·rw [if_neg c]
   have e : (∃ x ∈ b :: r, cs.contains x = true) ↔ ∃ x ∈ r, cs.contains x = true := by
    constructor
    ·rintro ⟨x, hx, h⟩
     rcases List.mem_cons.1 hx with rfl | hx
     ·exact absurd h c
     ·exact ⟨x, hx, h⟩
    ·rintro ⟨x, hx, h⟩
     exact ⟨x, List.mem_cons_of_mem _ hx, h⟩
   rw [e, ← ih]
   by_cases q : Lib.indexAny r cs = -1
   ·rw [if_pos (by simp [q])]
    omega
   ·rw [if_neg (by simp [q])]
    omega
def hasMark (s : ByteArray) : Bool := s.data.toList.any (fun b => b == 61 || b == 42)
theorem hasMark_iff (s : ByteArray) : anyFrom s 0 ↔ hasMark s = true := by
 unfold hasMark anyFrom
 rw [List.any_eq_true]
 constructor
 ·rintro ⟨j, h, _, e⟩
  refine ⟨s[j]'h, ?_, by simpa using e⟩
  exact List.mem_iff_getElem.2 ⟨j, h, rfl⟩
 ·rintro ⟨b, hb, e⟩
  obtain ⟨j, h, rfl⟩ := List.mem_iff_getElem.1 hb
  refine ⟨j, h, Nat.zero_le _, ?_⟩
  have e : s.data.toList[j] = 61 ∨ s.data.toList[j] = 42 := by simpa using e
  exact e
theorem indexAny_mark (s : ByteArray) (hs : s.size < 4294967281) (w : World) : Calls Try.prog 200 #[.string s, .string ⟨#[61, 42]⟩] w (AnyPost s w) := by
 by_cases h8 : s.size ≤ 8
 ·exact indexAny_short s h8 w
 ·have hz : (Try.prog.info? (Ythnedklbobbkcaa.Any.ren.t 116)).map (fun i => (i.zero, i.size)) = some (some (.agg (Array.replicate 256 (.bool false))), 256) := by kernel_rfl
  refine (Any.strings_IndexAny_long (P := Try.prog) Ythnedklbobbkcaa.Any.lays (zero_of_info hz).1 (zero_of_info hz).2 s ⟨#[61, 42]⟩ w (by decide) (by omega) hs (by decide) (fun j b h => ?_)).mono fun e w' ⟨h1, h2⟩ => ⟨_, h1, ?_, ?_⟩
  ·match j, h with
   | 0, h => obtain rfl := Option.some.inj h; decide
   | 1, h => obtain rfl := Option.some.inj h; decide
   | j + 2, h => exact absurd h (by simp)
  ·rw [indexAny_iff, hasMark_iff, hasMark, List.any_eq_true]
   simp
  ·rw [h2]
   exact below_alloc (below_alloc (Below.refl _ _) _) _
theorem wsucc_ {i : Nat} (h : i < 9223372036854775807) : wrap64 ((i : Int) + 1) = ((i + 1 : Nat) : Int) := by
 unfold wrap64
 omega
end Go.Proofs.Ythnedklbobbkcaa.Man

namespace Go.Proofs.Ythnedklbobbkcaa.CutL
open Go.Shelf Go.RowKit Go.Proofs.YthnedklbobbkcaaW.PrintWords Go.Proofs.YthnedklbobbkcaaW.PrintLast Go.Proofs.YthnedklbobbkcaaW.PrintMore
def ren : Ren := ⟨fun | 217 => 219 | 219 => 213 | 224 => 217 | 225 => 218 | 266 => 221 | 267 => 220 | 314 => 222 | n => n, fun | 3 => 3 | 4 => 4 | 5 => 5 | 9 => 9 | 46 => 218 | 51 => 257 | 146 => 258 | n => n, fun | 1 => 0 | n => n⟩
set_option maxRecDepth 100000 in
theorem lays : Lays.n219 Try.prog ren := {
 mixed := by kernel_rfl
 g1 := by kernel_rfl
 f217 := Try.func219.trans (congrArg some (by kernel_rfl))
 f219 := Try.func213.trans (congrArg some (by kernel_rfl))
 f224 := Try.func217.trans (congrArg some (by kernel_rfl))
 f225 := Try.func218.trans (congrArg some (by kernel_rfl))
 f266 := Try.func221.trans (congrArg some (by kernel_rfl))
 f267 := Try.func220.trans (congrArg some (by kernel_rfl))
 f314 := Try.func222.trans (congrArg some (by kernel_rfl))
 t3 := Try.underlying3
 a3 := Try.isAgg3
 z3 := Try.sizeOf3
 v3 := Try.zeroValue3
 t4 := Try.underlying4
 a4 := Try.isAgg4
 z4 := Try.sizeOf4
 v4 := Try.zeroValue4
 t5 := Try.underlying5
 a5 := Try.isAgg5
 z5 := Try.sizeOf5
 v5 := Try.zeroValue5
 t9 := Try.underlying9
 a9 := Try.isAgg9
 z9 := Try.sizeOf9
 v9 := Try.zeroValue9
 t46 := Try.underlying218
 a46 := Try.isAgg218
 z46 := Try.sizeOf218
 v46 := Try.zeroValue218
 t51 := Try.underlying257
 a51 := Try.isAgg257
 z51 := Try.sizeOf257
 v51 := Try.zeroValue257
 t146 := Try.underlying258
 a146 := Try.isAgg258
 z146 := Try.sizeOf258
 v146 := Try.zeroValue258 }
/-- the first instance of a byte: the text before it, the text behind it -/
def cutAt (s : ByteArray) (c : UInt8) : ByteArray × ByteArray × Bool := if 0 ≤ Lib.indexByte s.data.toList c then (s.extract 0 (Lib.indexByte s.data.toList c).toNat, s.extract ((Lib.indexByte s.data.toList c).toNat + 1) s.size, true) else (s, ByteArray.empty, false)
theorem indexByte_room : ∀ (l : List UInt8) (c : UInt8), Lib.indexByte l c < l.length
 | [], _ => by simp [Lib.indexByte]
 | b :: l, c => by
  have := indexByte_room l c
  unfold Lib.indexByte
  rw [List.length_cons]
  split
  ·omega
  ·split <;> omega
theorem wrap_in (n : Nat) (h : n < 9223372036854775807) : IntKind.i64.wrap ((n : Int) + 1) = (n : Int) + 1 := by
 rw [IntKind.wrap_i64]; omega
theorem cut_one (s : ByteArray) (c : UInt8) (w : World) (hs : s.size < 4294967281) : Calls Try.prog 203 #[.string s, .string ⟨#[c]⟩] w fun e w' => e = .returned (.tuple #[.string (cutAt s c).1, .string (cutAt s c).2.1, .bool (cutAt s c).2.2]) ∧ Below w.heap.size w w' := by
 have hix := Any.stringslite_Index_one (P := Try.prog) lays s c w
 have hr := indexByte_room s.data.toList c
 have hg := Lib.indexByte_ge s.data.toList c
 have hz : s.data.toList.length = s.size := by rw [Array.length_toList]; rfl
 have ho : (⟨#[c]⟩ : ByteArray).size = 1 := rfl
 unfold cutAt
 rw [hz] at hr
 clear hz
 obtain ⟨i, hi⟩ : ∃ i, i = Lib.indexByte s.data.toList c := ⟨_, rfl⟩
 rw [← hi] at hix hr hg ⊢
 clear hi
 obtain ⟨p, hp⟩ : ∃ p, p = (⟨#[c]⟩ : ByteArray) := ⟨_, rfl⟩
 rw [← hp] at hix ho ⊢
 clear hp
 by_cases h : 0 ≤ i
 ·rw [if_pos h]
  obtain ⟨n, rfl⟩ := Int.eq_ofNat_of_zero_le h
  have c2 : (n : Int) ≤ ↑s.size := by omega
  have c1 : (0 : Int) ≤ ↑n := by omega
  have c3 : (0 : Int) ≤ ↑n + 1 := by omega
  have c4 : (n : Int) + 1 ≤ ↑s.size := by omega
  have hwr : IntKind.i64.wrap ((n : Int) + 1) = (n : Int) + 1 := wrap_in n (by omega)
  have mixed := lays.mixed
  have ho' : (p.size : Int) = 1 := by rw [ho]; rfl
  go_enter Try.func203, Try.ntmps203
  go_wp2_with fail
  refine hix.mono ?_
  rintro e w' ⟨rfl, hw⟩
  have HW := Aside0.mk hw
  clear hw hix
  go_wp2_with fail
  go_region_o
  go_wp2
  go_ret3
  exact ⟨rfl, by rw [HW.out]; exact below_drew1 (Below.refl _ _)⟩
 ·rw [if_neg h]
  have hm : i = -1 := by omega
  subst hm
  go_enter Try.func203, Try.ntmps203
  go_wp2_with fail
  refine hix.mono ?_
  rintro e w' ⟨rfl, hw⟩
  have HW := Aside0.mk hw
  clear hw hix
  go_wp2
  go_ret3
  exact ⟨rfl, by rw [HW.out]; exact Below.refl _ _⟩
end Go.Proofs.Ythnedklbobbkcaa.CutL

namespace Go.Proofs.Ythnedklbobbkcaa.G
open Go.RowKit Go.Proofs.YthnedklbobbkcaaW.PrintWords Go.Proofs.YthnedklbobbkcaaW.PrintLast Go.Proofs.YthnedklbobbkcaaW.PrintMore Go.Proofs.Ythnedklbobbkcaa.Sh
attribute [local go_sem] max2_int min2_int max_two min_two max_three min_three max_four min_four
set_option linter.unusedVariables false
set_option linter.unusedSimpArgs false
theorem eqA122 (d : Nat) (w : World) (x0 y0 : ByteArray) (x1 y1 : ByteArray) (x2 y2 : Int) :
  (Op.equalIn (d + 2) 122 (.agg #[.string x0, .string x1, .int .i64 x2]) (.agg #[.string y0, .string y1, .int .i64 y2])).run Try.prog w = .ok (x0.toList == y0.toList && (x1.toList == y1.toList && (x2 == y2))) w := by
 refine eqA_of Try.underlying122 (by kernel_rfl) ?_
 refine eqf_cons (by rfl) (by go_simp; rfl) (by go_simp; rfl) (by go_simp) ?_
 refine eqf_cons (by rfl) (by go_simp; rfl) (by go_simp; rfl) (by go_simp) ?_
 exact eqf_last (by rfl) (by go_simp; rfl) (by go_simp; rfl) (by go_simp)
end Go.Proofs.Ythnedklbobbkcaa.G

namespace Go.Proofs.Ythnedklbobbkcaa.G
open Go.RowKit Go.Proofs.YthnedklbobbkcaaW.PrintWords Go.Proofs.YthnedklbobbkcaaW.PrintLast Go.Proofs.YthnedklbobbkcaaW.PrintMore Go.Proofs.Ythnedklbobbkcaa.Sh
attribute [local go_sem] max2_int min2_int max_two min_two max_three min_three max_four min_four
set_option linter.unusedVariables false
set_option linter.unusedSimpArgs false
open Go.Proofs.Ythnedklbobbkcaa.Mm
/-- A state of type 110 at block g of W; what its slices lead to came in by w0. -/
def IsS110 (w0 W : World) (g : Nat) (f0 : List Int) (f1 : Int) (f2 : Int) : Prop := ∃ A0 c0, W.heap[g]? = some (.cells #[.slice A0 f0.length c0, .int .i64 f1, .int .i64 f2] 110 (0, 0)) ∧ w0.heap.size ≤ g ∧ Kd.C (Kd.int .u8) w0 A0 f0.length f0
theorem IsS110.grown {w0 W : World} {g : Nat} {f0 : List Int} {f1 : Int} {f2 : Int} {W1 : World} {row : Option Nat} (h : IsS110 w0 W g f0 f1 f2) (hw : W.grownBy W1 row) (hne : some g ≠ row) : IsS110 w0 W1 g f0 f1 f2 := by
 obtain ⟨A0, c0, hb, hg, hr0⟩ := h
 exact ⟨A0, c0, blk_grown hb hw hne, hg, hr0⟩
theorem IsS110.kept {w0 W : World} {g : Nat} {f0 : List Int} {f1 : Int} {f2 : Int} {W1 : World} {S : Nat → Prop} (h : IsS110 w0 W g f0 f1 f2) (hk : Kept W W1 S) (hne : ¬ S g) : IsS110 w0 W1 g f0 f1 f2 := by
 obtain ⟨A0, c0, hb, hg, hr0⟩ := h
 exact ⟨A0, c0, blk_kept hb hk hne, hg, hr0⟩
theorem IsS110.below {w0 W : World} {g : Nat} {f0 : List Int} {f1 : Int} {f2 : Int} {W1 : World} (h : IsS110 w0 W g f0 f1 f2) (hw : Below W.heap.size W W1) : IsS110 w0 W1 g f0 f1 f2 := h.grown (grown_of_below hw none) (by simp)
theorem IsS110.alloc {w0 W : World} {g : Nat} {f0 : List Int} {f1 : Int} {f2 : Int} (h : IsS110 w0 W g f0 f1 f2) (o : Obj) : IsS110 w0 (W.alloc o) g f0 f1 f2 := h.below (below_alloc (Below.refl _ _) o)
theorem IsS110.drewN {w0 W : World} {g : Nat} {f0 : List Int} {f1 : Int} {f2 : Int} (h : IsS110 w0 W g f0 f1 f2) (m : Nat) : IsS110 w0 (W.drewN m) g f0 f1 f2 := h
theorem IsS110.drew {w0 W : World} {g : Nat} {f0 : List Int} {f1 : Int} {f2 : Int} (h : IsS110 w0 W g f0 f1 f2) : IsS110 w0 W.drew g f0 f1 f2 := h
theorem IsS110.at_ {w0 W : World} {g : Nat} {f0 : List Int} {f1 : Int} {f2 : Int} {w' : World} {m : Nat} (hq : W.drewN m = w') (h : IsS110 w0 W g f0 f1 f2) : IsS110 w0 w' g f0 f1 f2 := by subst hq; exact IsS110.drewN h m
theorem IsS110.apart {w0 W : World} {g : Nat} {f0 : List Int} {f1 : Int} {f2 : Int} {α : Type} {d : Kd α} {e : Nat} {base : Nat} {ok : Nat → Prop} {v : Value} {xs : List α} (h : IsS110 w0 W g f0 f1 f2) (ho : d.R e W base ok v xs) (ht : ∀ q, q ∈ e :: d.E → q ≠ 110) : d.R e W base (fun k => ok k ∧ k ≠ g) v xs := by
 obtain ⟨A0, c0, hb, hg, hr0⟩ := h
 exact Kd.R_types ho hb ht
def spec_l01New.l0 : Nat → List Int → Int → Int → Option (List Int × Int × Int)
 | 0, _, _, _ => none
 | k + 1, x0, x3, x4 => if x4 < (x0.length : Int) then (if x4 < 4000 then (if 0 ≤ x4 then (spec_l01New.l0 k x0 (Go.bits .and .i64 (wrap64 ((wrap64 ((wrap64 (x3 * 179)) + (wrap64 (rd x0 x4)))) + 7)) 1073741823) (wrap64 (x4 + 1))) else (none)) else (some (x0, 0, x3))) else (some (x0, 0, x3))
def spec_l01New.f (k : Nat) (l0 : List Int) : Option (List Int × Int × Int) := spec_l01New.l0 k l0 (wrap64 (774119 + (l0.length : Int))) 0
theorem spec_l01New.calls (k : Nat) (A0 : Option Addr) (c0 : Nat) (l0 : List Int) (r1 : List Int) (r2 : Int) (r3 : Int) (w0 w : World) (hB : Below w0.heap.size w0 w) (hr0 : Kd.C (Kd.int .u8) w0 A0 l0.length l0) (hc0 : l0.length ≤ c0) (h : spec_l01New.f k l0 = some (r1, r2, r3)) :
  Calls Try.prog 57 #[.slice A0 l0.length c0] w fun e w' => ∃ g_ : Nat, ∃ (X0_ : Option Addr) (c0_ : Nat), e = .returned (.pointer (some ⟨g_, 0, none⟩)) ∧ Mem w [] w' [box 110 g_ [.slice X0_ r1.length c0_, .int .i64 r2, .int .i64 r3]] ∧ Kd.C (Kd.int .u8) w0 X0_ r1.length r1 ∧ r1.length ≤ c0_ := by
 have hu110 := Try.underlying110
 have HZ0 := Aside0.mk hr0
 have HR0 := Aside0.mk (Kd.C_below hr0 hB)
 have HC0 := Aside0.mk hc0
 clear hr0 hc0
 clear hB
 have HM := Mem.nil w
 have H := h
 clear h
 unfold spec_l01New.f at H
 go_enter Try.func57, Try.ntmps57
 have H' := Aside0.mk H
 clear H
 go_wp2
 go_loopg [3, 4] k (fun kq v3 v4 w' => ∃ (x3_1 : Int) (x4_1 : Int), v3 = .int .i64 x3_1 ∧ v4 = .int .i64 x4_1 ∧ Aside0 (spec_l01New.l0 kq l0 x3_1 x4_1 = some (r1, r2, r3)) ∧ Aside0 (kq ≤ k) ∧ Mem w [] w' [])
 case atStart => exact ⟨(wrap64 (774119 + (l0.length : Int))), (0), RS, RS, H', ⟨Nat.le_refl _⟩, (MD HM).pick []⟩
 case round =>
  clear H' HM
  obtain ⟨x3_1, x4_1, rfl, rfl, HA, HK1, HM⟩ := hrel
  cases gk with
  | zero => exact absurd HA.out (by simp [spec_l01New.l0])
  | succ k1 =>
   have H := HA.out
   clear HA
   simp only [spec_l01New.l0] at H
   replace H := IT H; rcases H with ⟨c2, H⟩ | ⟨c2, H⟩
   ·have c2b0 := decide_eq_true c2
    clear c2
    go_upto_if 15 with (fail)
    replace H := IT H; rcases H with ⟨c3, H⟩ | ⟨c3, H⟩
    ·have c3b0 := decide_eq_true c3
     clear c3
     first|rw [c3b0]|(simp only [i64_w, i32_w]; rw [c3b0])|skip
     replace H := GD H; obtain ⟨c4, H⟩ := H
     have c4b0 := decide_eq_true c4
     clear c4
     have H' := Aside0.mk H
     clear H
     have p430 : 0 ≤ (x4_1 : Int) := of_decide_eq_true AS
     have q430 : (x4_1 : Int) < (l0.length : Int) := of_decide_eq_true AS
     obtain ⟨ad430, e430, hx430_0⟩ := Kd.at_int (HM.came HR0.out) x4_1 p430 q430
     cases e430
     replace p430 := eq_true p430
     replace q430 := eq_true q430
     go_wp2
     go_roundg k1
     case measure => have := HK1.out; omega
     case rel => exact ⟨(Go.bits .and .i64 (wrap64 ((wrap64 ((wrap64 (x3_1 * 179)) + (wrap64 (rd l0 x4_1)))) + 7)) 1073741823), (wrap64 (x4_1 + 1)), RS, RS, H', ⟨by have := HK1.out; omega⟩, (MD HM).pick []⟩
    ·have c3b0 := decide_eq_false c3
     clear c3
     first|rw [c3b0]|(simp only [i64_w, i32_w]; rw [c3b0])|skip
     simp only [Option.some.injEq, Prod.mk.injEq] at H
     obtain ⟨rfl, rfl, rfl⟩ := H
     go_wp2_with (first | ((with_reducible refine gN 31 rfl ?_); refine pB 31 110 [.slice A0 l0.length c0, .int .i64 0, .int .i64 x3_1] HM rfl ?_; clear HM; intro gb431 w5 HM))
     go_ret
     exact ⟨_, _, _, ER, (MD HM).pick [0], HZ0.out, HC0.out⟩
   ·have c2b0 := decide_eq_false c2
    clear c2
    simp only [Option.some.injEq, Prod.mk.injEq] at H
    obtain ⟨rfl, rfl, rfl⟩ := H
    go_wp2_with (first | ((with_reducible refine gN 31 rfl ?_); refine pB 31 110 [.slice A0 l0.length c0, .int .i64 0, .int .i64 x3_1] HM rfl ?_; clear HM; intro gb432 w6 HM))
    go_ret
    exact ⟨_, _, _, ER, (MD HM).pick [0], HZ0.out, HC0.out⟩
def spec_l01Byte.f (s0_0 : List Int) (s0_1 : Int) (s0_2 : Int) : Option (Int × Int × Int) := if s0_1 < (s0_0.length : Int) then (if 0 ≤ s0_1 then (some (Go.bits .and .i64 (wrap64 ((Go.bits .and .i64 (Go.bits .xor .i64 ((wrap64 ((wrap64 (s0_2 * 6364136223846793005)) + 1442695040888963407)) / 8589934592) ((wrap64 ((wrap64 (s0_2 * 6364136223846793005)) + 1442695040888963407)) / 35184372088832)) 255) + (wrap64 (rd s0_0 s0_1)))) 255, wrap64 (s0_1 + 1), wrap64 ((wrap64 (s0_2 * 6364136223846793005)) + 1442695040888963407))) else (none)) else (some (Go.bits .and .i64 (Go.bits .xor .i64 ((wrap64 ((wrap64 (s0_2 * 6364136223846793005)) + 1442695040888963407)) / 8589934592) ((wrap64 ((wrap64 (s0_2 * 6364136223846793005)) + 1442695040888963407)) / 35184372088832)) 255, s0_1, wrap64 ((wrap64 (s0_2 * 6364136223846793005)) + 1442695040888963407)))
theorem spec_l01Byte.calls (g : Nat) (A0_0 : Option Addr) (c0_0 : Nat) (s0_0 : List Int) (s0_1 : Int) (s0_2 : Int) (r1 : Int) (r2 : Int) (r3 : Int) (w0 w : World) (F : List SP) (hrs0_0 : Kd.C (Kd.int .u8) w0 A0_0 s0_0.length s0_0) (hcs0_0 : s0_0.length ≤ c0_0) (hM : Mem w0 F w [box 110 g [.slice A0_0 s0_0.length c0_0, .int .i64 s0_1, .int .i64 s0_2]]) (h : spec_l01Byte.f s0_0 s0_1 s0_2 = some (r1, r2, r3)) :
  Calls Try.prog 129 #[.pointer (some ⟨g, 0, none⟩)] w fun e w' => e = .returned (.int .i64 r1) ∧ Mem w0 F w' [box 110 g [.slice A0_0 s0_0.length c0_0, .int .i64 r2, .int .i64 r3]] := by
 have HRs0_0 := Aside0.mk hrs0_0
 have HCs0_0 := Aside0.mk hcs0_0
 clear hrs0_0 hcs0_0
 have HM := hM
 clear hM
 have H := h
 clear h
 unfold spec_l01Byte.f at H
 go_enter Try.func129, Try.ntmps129
 obtain ⟨_,_,_,_,_,_⟩ := bk3 (HM.bx 0 rfl)
 go_upto_if 34 with (first | ((with_reducible refine gS 12 rfl ?_); refine pS 0 12 2 [.int .i64 (wrap64 ((wrap64 (s0_2 * 6364136223846793005)) + 1442695040888963407))] HM rfl rfl ?_; clear HM; intro w3 HM; obtain ⟨_,_,_,_,_,_⟩ := bk3 (HM.bx 0 rfl)))
 repeat (go_quiet (first | ((with_reducible refine gS 12 rfl ?_); refine pS 0 12 2 [.int .i64 (wrap64 ((wrap64 (s0_2 * 6364136223846793005)) + 1442695040888963407))] HM rfl rfl ?_; clear HM; intro w3 HM; obtain ⟨_,_,_,_,_,_⟩ := bk3 (HM.bx 0 rfl))); go_upto_if 34 with (first | ((with_reducible refine gS 12 rfl ?_); refine pS 0 12 2 [.int .i64 (wrap64 ((wrap64 (s0_2 * 6364136223846793005)) + 1442695040888963407))] HM rfl rfl ?_; clear HM; intro w3 HM; obtain ⟨_,_,_,_,_,_⟩ := bk3 (HM.bx 0 rfl))))
 replace H := IT H; rcases H with ⟨c5, H⟩ | ⟨c5, H⟩
 ·have c5b0 := decide_eq_true c5
  clear c5
  first|rw [c5b0]|(simp only [i64_w, i32_w]; rw [c5b0])|skip
  replace H := GD H; obtain ⟨c6, H⟩ := H
  have c6b0 := decide_eq_true c6
  clear c6
  simp only [Option.some.injEq, Prod.mk.injEq] at H
  obtain ⟨rfl, rfl, rfl⟩ := H
  have p433 : 0 ≤ (s0_1 : Int) := of_decide_eq_true AS
  have q433 : (s0_1 : Int) < (s0_0.length : Int) := of_decide_eq_true AS
  obtain ⟨ad433, e433, hx433_0⟩ := Kd.at_int (HM.came HRs0_0.out) s0_1 p433 q433
  cases e433
  replace p433 := eq_true p433
  replace q433 := eq_true q433
  go_wp2_with (first | ((with_reducible refine gS 56 rfl ?_); refine pS 0 56 1 [.int .i64 (wrap64 (s0_1 + 1))] HM rfl rfl ?_; clear HM; intro w7 HM))
  repeat (go_quiet (first | ((with_reducible refine gS 56 rfl ?_); refine pS 0 56 1 [.int .i64 (wrap64 (s0_1 + 1))] HM rfl rfl ?_; clear HM; intro w7 HM)); try go_wp2_with (first | ((with_reducible refine gS 56 rfl ?_); refine pS 0 56 1 [.int .i64 (wrap64 (s0_1 + 1))] HM rfl rfl ?_; clear HM; intro w7 HM)))
  go_ret
  exact ⟨ER, (MD HM).pick [0]⟩
 ·have c5b0 := decide_eq_false c5
  clear c5
  first|rw [c5b0]|(simp only [i64_w, i32_w]; rw [c5b0])|skip
  simp only [Option.some.injEq, Prod.mk.injEq] at H
  obtain ⟨rfl, rfl, rfl⟩ := H
  go_wp2
  repeat (go_quiet (fail); try go_wp2_with (fail))
  go_ret
  exact ⟨ER, (MD HM).pick [0]⟩
def spec_l01Below.f (s0_0 : List Int) (s0_1 : Int) (s0_2 : Int) (a1 : Int) : Option (Int × Int × Int) := if a1 ≤ 0 then (some (0, s0_1, s0_2)) else (if a1 ≤ 256 then ((spec_l01Byte.f s0_0 s0_1 s0_2).bind fun bt434 => (if a1 = 0 then (none) else (some (Int.tmod bt434.1 a1, bt434.2.1, bt434.2.2)))) else ((spec_l01Byte.f s0_0 s0_1 s0_2).bind fun bt437 => ((spec_l01Byte.f s0_0 bt437.2.1 bt437.2.2).bind fun bt440 => ((spec_l01Byte.f s0_0 bt440.2.1 bt440.2.2).bind fun bt443 => ((spec_l01Byte.f s0_0 bt443.2.1 bt443.2.2).bind fun bt446 => (if a1 = 0 then (none) else (some (Int.tmod (wrap64 ((wrap64 ((wrap64 ((wrap64 (bt437.1 * 16777216)) + (wrap64 (bt440.1 * 65536)))) + (wrap64 (bt443.1 * 256)))) + bt446.1)) a1, bt446.2.1, bt446.2.2))))))))
theorem spec_l01Below.calls (g : Nat) (A0_0 : Option Addr) (c0_0 : Nat) (s0_0 : List Int) (s0_1 : Int) (s0_2 : Int) (a1 : Int) (r1 : Int) (r2 : Int) (r3 : Int) (w0 w : World) (F : List SP) (hrs0_0 : Kd.C (Kd.int .u8) w0 A0_0 s0_0.length s0_0) (hcs0_0 : s0_0.length ≤ c0_0) (hM : Mem w0 F w [box 110 g [.slice A0_0 s0_0.length c0_0, .int .i64 s0_1, .int .i64 s0_2]]) (h : spec_l01Below.f s0_0 s0_1 s0_2 a1 = some (r1, r2, r3)) :
  Calls Try.prog 73 #[.pointer (some ⟨g, 0, none⟩), .int .i64 a1] w fun e w' => e = .returned (.int .i64 r1) ∧ Mem w0 F w' [box 110 g [.slice A0_0 s0_0.length c0_0, .int .i64 r2, .int .i64 r3]] := by
 have HRs0_0 := Aside0.mk hrs0_0
 have HCs0_0 := Aside0.mk hcs0_0
 clear hrs0_0 hcs0_0
 have HM := hM
 clear hM
 have H := h
 clear h
 unfold spec_l01Below.f at H
 go_enter Try.func73, Try.ntmps73
 go_upto_if 10 with (fail)
 replace H := IT H; rcases H with ⟨c3, H⟩ | ⟨c3, H⟩
 ·have c3b0 := decide_eq_true c3
  clear c3
  first|rw [c3b0]|(simp only [i64_w, i32_w]; rw [c3b0])|skip
  simp only [Option.some.injEq, Prod.mk.injEq] at H
  obtain ⟨rfl, rfl, rfl⟩ := H
  go_wp2
  go_ret
  exact ⟨ER, (MD HM).pick [0]⟩
 ·have c3b0 := decide_eq_false c3
  clear c3
  first|rw [c3b0]|(simp only [i64_w, i32_w]; rw [c3b0])|skip
  go_upto_if 12 with (fail)
  replace H := IT H; rcases H with ⟨c4, H⟩ | ⟨c4, H⟩
  ·have c4b0 := decide_eq_true c4
   clear c4
   first|rw [c4b0]|(simp only [i64_w, i32_w]; rw [c4b0])|skip
   replace H := BN H; obtain ⟨⟨t434, t435, t436⟩, A5, H⟩ := H
   replace H := GN H; obtain ⟨c7, H⟩ := H
   have c7b0 : (a1 == 0) = false := beq_eq_false_iff_ne.mpr c7
   have c7b1 : (a1 != 0) = true := bne_iff_ne.mpr c7
   simp only [Option.some.injEq, Prod.mk.injEq] at H
   obtain ⟨rfl, rfl, rfl⟩ := H
   go_wp2_with (first | ((with_reducible refine gC 129 rfl ?_); refine pC (some 14) rfl #[.pointer (some ⟨g, 0, none⟩)] rfl Try.func129 (spec_l01Byte.calls g A0_0 c0_0 s0_0 s0_1 s0_2 t434 t435 t436 _ _ _ HRs0_0.out HCs0_0.out (HM.focus [] [0]) A5.out) ?_; rintro e w6 ⟨rfl, hR⟩; refine ⟨_, rfl, ?_⟩; replace HM := nzM hR.unfocus; clear hR))
   go_ret
   exact ⟨ER, (MD HM).pick [0]⟩
  ·have c4b0 : decide (a1 ≤ 256) = false := decide_eq_false c4
   clear c4
   first|rw [c4b0]|(simp only [i64_w, i32_w]; rw [c4b0])|skip
   replace H := BN H; obtain ⟨⟨t437, t438, t439⟩, A8, H⟩ := H
   replace H := BN H; obtain ⟨⟨t440, t441, t442⟩, A10, H⟩ := H
   replace H := BN H; obtain ⟨⟨t443, t444, t445⟩, A12, H⟩ := H
   replace H := BN H; obtain ⟨⟨t446, t447, t448⟩, A14, H⟩ := H
   replace H := GN H; obtain ⟨c16, H⟩ := H
   have c16b0 : (a1 == 0) = false := beq_eq_false_iff_ne.mpr c16
   have c16b1 : (a1 != 0) = true := bne_iff_ne.mpr c16
   simp only [Option.some.injEq, Prod.mk.injEq] at H
   obtain ⟨rfl, rfl, rfl⟩ := H
   go_wp2_with (first | ((with_reducible refine gC 129 rfl ?_); refine pC (some 18) rfl #[.pointer (some ⟨g, 0, none⟩)] rfl Try.func129 (spec_l01Byte.calls g A0_0 c0_0 s0_0 s0_1 s0_2 t437 t438 t439 _ _ _ HRs0_0.out HCs0_0.out (HM.focus [] [0]) A8.out) ?_; rintro e w9 ⟨rfl, hR⟩; refine ⟨_, rfl, ?_⟩; replace HM := nzM hR.unfocus; clear hR) | ((with_reducible refine gC 129 rfl ?_); refine pC (some 20) rfl #[.pointer (some ⟨g, 0, none⟩)] rfl Try.func129 (spec_l01Byte.calls g A0_0 c0_0 s0_0 t438 t439 t440 t441 t442 _ _ _ HRs0_0.out HCs0_0.out (HM.focus [] [0]) A10.out) ?_; rintro e w11 ⟨rfl, hR⟩; refine ⟨_, rfl, ?_⟩; replace HM := nzM hR.unfocus; clear hR) | ((with_reducible refine gC 129 rfl ?_); refine pC (some 22) rfl #[.pointer (some ⟨g, 0, none⟩)] rfl Try.func129 (spec_l01Byte.calls g A0_0 c0_0 s0_0 t441 t442 t443 t444 t445 _ _ _ HRs0_0.out HCs0_0.out (HM.focus [] [0]) A12.out) ?_; rintro e w13 ⟨rfl, hR⟩; refine ⟨_, rfl, ?_⟩; replace HM := nzM hR.unfocus; clear hR) | ((with_reducible refine gC 129 rfl ?_); refine pC (some 24) rfl #[.pointer (some ⟨g, 0, none⟩)] rfl Try.func129 (spec_l01Byte.calls g A0_0 c0_0 s0_0 t444 t445 t446 t447 t448 _ _ _ HRs0_0.out HCs0_0.out (HM.focus [] [0]) A14.out) ?_; rintro e w15 ⟨rfl, hR⟩; refine ⟨_, rfl, ?_⟩; replace HM := nzM hR.unfocus; clear hR))
   go_ret
   exact ⟨ER, (MD HM).pick [0]⟩
end Go.Proofs.Ythnedklbobbkcaa.G

namespace Go.Proofs.Ythnedklbobbkcaa.G
open Go.RowKit Go.Proofs.YthnedklbobbkcaaW.PrintWords Go.Proofs.YthnedklbobbkcaaW.PrintLast Go.Proofs.YthnedklbobbkcaaW.PrintMore Go.Proofs.Ythnedklbobbkcaa.Sh
attribute [local go_sem] max2_int min2_int max_two min_two max_three min_three max_four min_four
set_option linter.unusedVariables false
set_option linter.unusedSimpArgs false
def spec_l01Num.f (a0 : Int) : Option (Bool) := if a0 ≥ 0 then (some (decide (a0 ≤ 4294967295))) else (some false)
theorem spec_l01Num.calls (a0 : Int) (r : Bool) (w : World) (h : spec_l01Num.f a0 = some r) :
  Calls Try.prog 164 #[.int .i64 a0] w fun e w' => e = .returned (.bool r) ∧ Drawn0 w w' := by
 have H : (if a0 ≥ 0 then (some (decide (a0 ≤ 4294967295))) else (some false)) = some r := h
 clear h
 by_cases c2 : a0 ≥ 0
 ·rw [if_pos c2] at H
  have c2b0 : decide (0 ≤ a0) = true := decide_eq_true c2
  clear c2
  obtain rfl := Option.some.inj H
  go_enter Try.func164, Try.ntmps164
  go_wp2
  go_ret
  exact ⟨by first | rfl | (simp; done) | (simp [*]; done), DR⟩
 ·rw [if_neg c2] at H
  have c2b0 : decide (0 ≤ a0) = false := decide_eq_false c2
  clear c2
  obtain rfl := Option.some.inj H
  go_enter Try.func164, Try.ntmps164
  go_wp2
  go_ret
  exact ⟨by first | rfl | (simp; done) | (simp [*]; done), DR⟩
def spec_l01In.f (a0 : Int) (a1 : Int) (a2 : Int) : Option (Bool) := if a0 ≥ a1 then (some (decide (a0 ≤ a2))) else (some false)
theorem spec_l01In.calls (a0 : Int) (a1 : Int) (a2 : Int) (r : Bool) (w : World) (h : spec_l01In.f a0 a1 a2 = some r) :
  Calls Try.prog 185 #[.int .i64 a0, .int .i64 a1, .int .i64 a2] w fun e w' => e = .returned (.bool r) ∧ Drawn0 w w' := by
 have H : (if a0 ≥ a1 then (some (decide (a0 ≤ a2))) else (some false)) = some r := h
 clear h
 by_cases c4 : a0 ≥ a1
 ·rw [if_pos c4] at H
  have c4b0 : decide (a1 ≤ a0) = true := decide_eq_true c4
  clear c4
  obtain rfl := Option.some.inj H
  go_enter Try.func185, Try.ntmps185
  go_wp2
  go_ret
  exact ⟨by first | rfl | (simp; done) | (simp [*]; done), DR⟩
 ·rw [if_neg c4] at H
  have c4b0 : decide (a1 ≤ a0) = false := decide_eq_false c4
  clear c4
  obtain rfl := Option.some.inj H
  go_enter Try.func185, Try.ntmps185
  go_wp2
  go_ret
  exact ⟨by first | rfl | (simp; done) | (simp [*]; done), DR⟩
def spec_l10Clean.l0 : Nat → ByteArray → Int → Option (Bool)
 | 0, _, _ => none
 | k + 1, x0, x3 => if x3 < (x0.size : Int) then (if 0 ≤ x3 then (if (bt x0 x3) = 32 then (some false) else (if (bt x0 x3) = 10 then (some false) else (spec_l10Clean.l0 k x0 (wrap64 (x3 + 1))))) else (none)) else (some true)
def spec_l10Clean.f (k : Nat) (a0 : ByteArray) : Option (Bool) := spec_l10Clean.l0 k a0 0
theorem spec_l10Clean.calls (k : Nat) (a0 : ByteArray) (r : Bool) (w : World) (h : spec_l10Clean.f k a0 = some r) :
  Calls Try.prog 189 #[.string a0] w fun e w' => e = .returned (.bool r) ∧ Drawn0 w w' := by
 have H : (spec_l10Clean.l0 k a0 0) = some r := h
 clear h
 have H' := Aside0.mk H
 clear H
 go_enter Try.func189, Try.ntmps189
 go_wp2
 go_loopg [3] k (fun kq v3 w' => ∃ (x3_1 : Int), v3 = .int .i64 x3_1 ∧ Aside0 (spec_l10Clean.l0 kq a0 x3_1 = some r) ∧ Aside0 (kq ≤ k) ∧ Drawn0 w w')
 case atStart => exact ⟨(0), RS, H', ⟨Nat.le_refl _⟩, DR⟩
 case round =>
  clear H'
  try clear c1
  obtain ⟨x3_1, rfl, HA, HK1, ⟨m1, rfl⟩⟩ := hrel
  cases gk with
  | zero => exact absurd HA.out (by simp [spec_l10Clean.l0])
  | succ k1 =>
   have H := HA.out
   clear HA
   simp only [spec_l10Clean.l0] at H
   by_cases c2 : x3_1 < (a0.size : Int)
   ·rw [if_pos c2] at H
    have c2b0 : decide (x3_1 < (a0.size : Int)) = true := decide_eq_true c2
    clear c2
    by_cases c3 : 0 ≤ x3_1
    ·rw [if_pos c3] at H
     have c3b0 : decide (0 ≤ x3_1) = true := decide_eq_true c3
     clear c3
     by_cases c5 : (bt a0 x3_1) = 32
     ·rw [if_pos c5] at H
      have c5b0 : ((bt a0 x3_1) == 32) = true := beq_iff_eq.mpr c5
      have c5b1 : ((bt a0 x3_1) != 32) = false := bne_eq_false_iff_eq.mpr c5
      clear c5
      obtain rfl := Option.some.inj H
      have p4 : 0 ≤ (x3_1 : Int) := of_decide_eq_true AS
      have q4 : x3_1 < (a0.size : Int) := of_decide_eq_true AS
      have hx4 := bt_at a0 x3_1
      replace p4 := eq_true p4
      replace q4 := eq_true q4
      go_wp2
      go_ret
      exact ⟨by first | rfl | (simp; done) | (simp [*]; done), DR⟩
     ·rw [if_neg c5] at H
      have c5b0 : ((bt a0 x3_1) == 32) = false := beq_eq_false_iff_ne.mpr c5
      have c5b1 : ((bt a0 x3_1) != 32) = true := bne_iff_ne.mpr c5
      by_cases c7 : (bt a0 x3_1) = 10
      ·rw [if_pos c7] at H
       have c7b0 : ((bt a0 x3_1) == 10) = true := beq_iff_eq.mpr c7
       have c7b1 : ((bt a0 x3_1) != 10) = false := bne_eq_false_iff_eq.mpr c7
       clear c7
       obtain rfl := Option.some.inj H
       have p4 : 0 ≤ (x3_1 : Int) := of_decide_eq_true AS
       have q4 : x3_1 < (a0.size : Int) := of_decide_eq_true AS
       have hx4 := bt_at a0 x3_1
       replace p4 := eq_true p4
       replace q4 := eq_true q4
       have p6 : 0 ≤ (x3_1 : Int) := of_decide_eq_true AS
       have q6 : x3_1 < (a0.size : Int) := of_decide_eq_true AS
       have hx6 := bt_at a0 x3_1
       replace p6 := eq_true p6
       replace q6 := eq_true q6
       go_wp2
       go_ret
       exact ⟨by first | rfl | (simp; done) | (simp [*]; done), DR⟩
      ·rw [if_neg c7] at H
       have c7b0 : ((bt a0 x3_1) == 10) = false := beq_eq_false_iff_ne.mpr c7
       have c7b1 : ((bt a0 x3_1) != 10) = true := bne_iff_ne.mpr c7
       have H' := Aside0.mk H
       clear H
       have p4 : 0 ≤ (x3_1 : Int) := of_decide_eq_true AS
       have q4 : x3_1 < (a0.size : Int) := of_decide_eq_true AS
       have hx4 := bt_at a0 x3_1
       replace p4 := eq_true p4
       replace q4 := eq_true q4
       have p6 : 0 ≤ (x3_1 : Int) := of_decide_eq_true AS
       have q6 : x3_1 < (a0.size : Int) := of_decide_eq_true AS
       have hx6 := bt_at a0 x3_1
       replace p6 := eq_true p6
       replace q6 := eq_true q6
       go_wp2
       go_roundg k1
       case measure => have := HK1.out; omega
       case rel => exact ⟨(wrap64 (x3_1 + 1)), RS, H', ⟨by have := HK1.out; omega⟩, DR⟩
    ·rw [if_neg c3] at H
     exact absurd H (by simp)
   ·rw [if_neg c2] at H
    have c2b0 : decide (x3_1 < (a0.size : Int)) = false := decide_eq_false c2
    clear c2
    obtain rfl := Option.some.inj H
    go_wp2
    go_ret
    exact ⟨by first | rfl | (simp; done) | (simp [*]; done), DR⟩
end Go.Proofs.Ythnedklbobbkcaa.G

namespace Go.Proofs.Ythnedklbobbkcaa.G
open Go.RowKit Go.Proofs.YthnedklbobbkcaaW.PrintWords Go.Proofs.YthnedklbobbkcaaW.PrintLast Go.Proofs.YthnedklbobbkcaaW.PrintMore Go.Proofs.Ythnedklbobbkcaa.Sh
attribute [local go_sem] max2_int min2_int max_two min_two max_three min_three max_four min_four
set_option linter.unusedVariables false
set_option linter.unusedSimpArgs false
open Go.Proofs.Ythnedklbobbkcaa.Mm
def spec_ItemOk.f (k : Nat) (a0_0 : ByteArray) (a0_1 : ByteArray) (a0_2 : Int) : Option (Bool) := if (a0_0.size : Int) ≥ 1 then (if (a0_0.size : Int) ≤ 20 then ((spec_l10Clean.f k a0_0).bind fun t141 => (if t141 = true then (if (a0_1.size : Int) ≤ 40 then ((spec_l10Clean.f k a0_1).bind fun t142 => (if t142 = true then ((spec_l01In.f a0_2 0 3).bind fun t143 => (some t143)) else (some false))) else (some false)) else (some false))) else (some false)) else (some false)
theorem spec_ItemOk.calls (k : Nat) (a0_0 : ByteArray) (a0_1 : ByteArray) (a0_2 : Int) (r : Bool) (w : World)  (h : spec_ItemOk.f k a0_0 a0_1 a0_2 = some r) :
  Calls Try.prog 149 #[.agg #[.string a0_0, .string a0_1, .int .i64 a0_2]] w fun e w' => e = .returned (.bool r) ∧ Mem w [] w' [] := by
 have hu122 := Try.underlying122
 have HM := Mem.nil w
 have H := h
 clear h
 unfold spec_ItemOk.f at H
 go_enter Try.func149, Try.ntmps149
 replace H := IT H; rcases H with ⟨c4, H⟩ | ⟨c4, H⟩
 ·replace c4 : (a0_0.size : Int) ≥ 1 := c4
  have c4b0 : decide (1 ≤ (a0_0.size : Int)) = true := decide_eq_true c4
  have c4b1 : decide (1 ≤ a0_0.size) = true := decide_eq_true (by omega)
  clear c4
  replace H := IT H; rcases H with ⟨c5, H⟩ | ⟨c5, H⟩
  ·replace c5 : (a0_0.size : Int) ≤ 20 := c5
   have c5b0 := decide_eq_true c5
   have c5b1 : decide (a0_0.size ≤ 20) = true := decide_eq_true (by omega)
   clear c5
   replace H := BN H; obtain ⟨t141, A6, H⟩ := H
   replace H := IB H
   rcases H with ⟨c8, H⟩ | ⟨c8, H⟩
   ·subst c8
    replace H := IT H; rcases H with ⟨c10, H⟩ | ⟨c10, H⟩
    ·replace c10 : (a0_1.size : Int) ≤ 40 := c10
     have c10b0 := decide_eq_true c10
     have c10b1 : decide (a0_1.size ≤ 40) = true := decide_eq_true (by omega)
     clear c10
     replace H := BN H; obtain ⟨t142, A11, H⟩ := H
     replace H := IB H
     rcases H with ⟨c13, H⟩ | ⟨c13, H⟩
     ·subst c13
      replace H := BN H; obtain ⟨t143, A15, H⟩ := H
      obtain rfl := Option.some.inj H
      go_wp2_with (first | ((with_reducible refine gN 1 rfl ?_); refine pB 1 122 [.string a0_0, .string a0_1, .int .i64 a0_2] HM rfl ?_; clear HM; intro gb140 w2 HM; obtain ⟨_,_,_,_,_,_⟩ := bk3 (HM.bx 0 rfl)) | ((with_reducible refine gC 189 rfl ?_); refine pC (some 16) rfl #[.string a0_0] rfl Try.func189 (spec_l10Clean.calls k a0_0 true _ A6.out) ?_; rintro e w7 ⟨rfl, hd⟩; refine ⟨_, rfl, ?_⟩; replace HM := HM.drawn hd; clear hd; obtain ⟨_,_,_,_,_,_⟩ := bk3 (HM.bx 0 rfl)) | ((with_reducible refine gC 189 rfl ?_); refine pC (some 27) rfl #[.string a0_1] rfl Try.func189 (spec_l10Clean.calls k a0_1 true _ A11.out) ?_; rintro e w12 ⟨rfl, hd⟩; refine ⟨_, rfl, ?_⟩; replace HM := HM.drawn hd; clear hd; obtain ⟨_,_,_,_,_,_⟩ := bk3 (HM.bx 0 rfl)) | ((with_reducible refine gC 185 rfl ?_); refine pC (some 32) rfl #[.int .i64 a0_2, .int .i64 0, .int .i64 3] rfl Try.func185 (spec_l01In.calls a0_2 0 3 t143 _ A15.out) ?_; rintro e w16 ⟨rfl, hd⟩; refine ⟨_, rfl, ?_⟩; replace HM := HM.drawn hd; clear hd))
      go_ret
      exact ⟨ER, (MD HM).pick []⟩
     ·subst c13
      obtain rfl := Option.some.inj H
      go_wp2_with (first | ((with_reducible refine gN 1 rfl ?_); refine pB 1 122 [.string a0_0, .string a0_1, .int .i64 a0_2] HM rfl ?_; clear HM; intro gb140 w2 HM; obtain ⟨_,_,_,_,_,_⟩ := bk3 (HM.bx 0 rfl)) | ((with_reducible refine gC 189 rfl ?_); refine pC (some 16) rfl #[.string a0_0] rfl Try.func189 (spec_l10Clean.calls k a0_0 true _ A6.out) ?_; rintro e w7 ⟨rfl, hd⟩; refine ⟨_, rfl, ?_⟩; replace HM := HM.drawn hd; clear hd; obtain ⟨_,_,_,_,_,_⟩ := bk3 (HM.bx 0 rfl)) | ((with_reducible refine gC 189 rfl ?_); refine pC (some 27) rfl #[.string a0_1] rfl Try.func189 (spec_l10Clean.calls k a0_1 false _ A11.out) ?_; rintro e w12 ⟨rfl, hd⟩; refine ⟨_, rfl, ?_⟩; replace HM := HM.drawn hd; clear hd))
      go_ret
      exact ⟨ER, (MD HM).pick []⟩
    ·replace c10 : ¬ ((a0_1.size : Int) ≤ 40) := c10
     have c10b0 := decide_eq_false c10
     have c10b1 : decide (a0_1.size ≤ 40) = false := decide_eq_false (by omega)
     clear c10
     obtain rfl := Option.some.inj H
     go_wp2_with (first | ((with_reducible refine gN 1 rfl ?_); refine pB 1 122 [.string a0_0, .string a0_1, .int .i64 a0_2] HM rfl ?_; clear HM; intro gb140 w2 HM; obtain ⟨_,_,_,_,_,_⟩ := bk3 (HM.bx 0 rfl)) | ((with_reducible refine gC 189 rfl ?_); refine pC (some 16) rfl #[.string a0_0] rfl Try.func189 (spec_l10Clean.calls k a0_0 true _ A6.out) ?_; rintro e w7 ⟨rfl, hd⟩; refine ⟨_, rfl, ?_⟩; replace HM := HM.drawn hd; clear hd; obtain ⟨_,_,_,_,_,_⟩ := bk3 (HM.bx 0 rfl)))
     go_ret
     exact ⟨ER, (MD HM).pick []⟩
   ·subst c8
    obtain rfl := Option.some.inj H
    go_wp2_with (first | ((with_reducible refine gN 1 rfl ?_); refine pB 1 122 [.string a0_0, .string a0_1, .int .i64 a0_2] HM rfl ?_; clear HM; intro gb140 w2 HM; obtain ⟨_,_,_,_,_,_⟩ := bk3 (HM.bx 0 rfl)) | ((with_reducible refine gC 189 rfl ?_); refine pC (some 16) rfl #[.string a0_0] rfl Try.func189 (spec_l10Clean.calls k a0_0 false _ A6.out) ?_; rintro e w7 ⟨rfl, hd⟩; refine ⟨_, rfl, ?_⟩; replace HM := HM.drawn hd; clear hd))
    go_ret
    exact ⟨ER, (MD HM).pick []⟩
  ·replace c5 : ¬ ((a0_0.size : Int) ≤ 20) := c5
   have c5b0 := decide_eq_false c5
   have c5b1 : decide (a0_0.size ≤ 20) = false := decide_eq_false (by omega)
   clear c5
   obtain rfl := Option.some.inj H
   go_wp2_with (first | ((with_reducible refine gN 1 rfl ?_); refine pB 1 122 [.string a0_0, .string a0_1, .int .i64 a0_2] HM rfl ?_; clear HM; intro gb140 w2 HM; obtain ⟨_,_,_,_,_,_⟩ := bk3 (HM.bx 0 rfl)))
   go_ret
   exact ⟨ER, (MD HM).pick []⟩
 ·replace c4 : ¬ ((a0_0.size : Int) ≥ 1) := c4
  have c4b0 : decide (1 ≤ (a0_0.size : Int)) = false := decide_eq_false c4
  have c4b1 : decide (1 ≤ a0_0.size) = false := decide_eq_false (by omega)
  clear c4
  obtain rfl := Option.some.inj H
  go_wp2_with (first | ((with_reducible refine gN 1 rfl ?_); refine pB 1 122 [.string a0_0, .string a0_1, .int .i64 a0_2] HM rfl ?_; clear HM; intro gb140 w2 HM; obtain ⟨_,_,_,_,_,_⟩ := bk3 (HM.bx 0 rfl)))
  go_ret
  exact ⟨ER, (MD HM).pick []⟩
def spec_l10Ghosts.f (a0_0 : Int) (a0_1 : Int) (l0_2 : List (S122)) (l0_3 : List (S122)) (l0_4 : List Int) : Option (Int) := if (wrap64 (a0_0 - a0_1)) < 1 then (some 1) else (some (wrap64 (a0_0 - a0_1)))
theorem spec_l10Ghosts.calls (a0_0 : Int) (a0_1 : Int) (A0_2 : Option Addr) (c0_2 : Nat) (l0_2 : List (S122)) (A0_3 : Option Addr) (c0_3 : Nat) (l0_3 : List (S122)) (A0_4 : Option Addr) (c0_4 : Nat) (l0_4 : List Int) (r : Int) (w : World) (hr0_2 : Kd.C k122 w A0_2 l0_2.length l0_2) (hc0_2 : l0_2.length ≤ c0_2) (hr0_3 : Kd.C k122 w A0_3 l0_3.length l0_3) (hc0_3 : l0_3.length ≤ c0_3) (hr0_4 : Kd.C (Kd.int .i64) w A0_4 l0_4.length l0_4) (hc0_4 : l0_4.length ≤ c0_4) (h : spec_l10Ghosts.f a0_0 a0_1 l0_2 l0_3 l0_4 = some r) :
  Calls Try.prog 186 #[.agg #[.int .i64 a0_0, .int .i64 a0_1, .slice A0_2 l0_2.length c0_2, .slice A0_3 l0_3.length c0_3, .slice A0_4 l0_4.length c0_4]] w fun e w' => e = .returned (.int .i64 r) ∧ Mem w [] w' [] := by
 have hu32 := Try.underlying32
 have HR0_2 := Aside0.mk hr0_2
 have HC0_2 := Aside0.mk hc0_2
 clear hr0_2 hc0_2
 have HR0_3 := Aside0.mk hr0_3
 have HC0_3 := Aside0.mk hc0_3
 clear hr0_3 hc0_3
 have HR0_4 := Aside0.mk hr0_4
 have HC0_4 := Aside0.mk hc0_4
 clear hr0_4 hc0_4
 have HM := Mem.nil w
 have H := h
 clear h
 unfold spec_l10Ghosts.f at H
 go_enter Try.func186, Try.ntmps186
 go_upto_if 8 with (first | ((with_reducible refine gN 1 rfl ?_); refine pB 1 32 [.int .i64 a0_0, .int .i64 a0_1, .slice A0_2 l0_2.length c0_2, .slice A0_3 l0_3.length c0_3, .slice A0_4 l0_4.length c0_4] HM rfl ?_; clear HM; intro gb449 w2 HM; obtain ⟨_,_,_,_,_,_,_,_,_,_⟩ := bk5 (HM.bx 0 rfl)))
 replace H := IT H; rcases H with ⟨c4, H⟩ | ⟨c4, H⟩
 ·have c4b0 := decide_eq_true c4
  clear c4
  first|rw [c4b0]|(simp only [i64_w, i32_w]; rw [c4b0])|skip
  obtain rfl := Option.some.inj H
  go_wp2
  go_ret
  exact ⟨ER, (MD HM).pick []⟩
 ·have c4b0 := decide_eq_false c4
  clear c4
  first|rw [c4b0]|(simp only [i64_w, i32_w]; rw [c4b0])|skip
  obtain rfl := Option.some.inj H
  go_wp2
  go_ret
  exact ⟨ER, (MD HM).pick []⟩
def spec_l10At.l0 : Nat → ByteArray → List (S122) → Int → Int → Option (Int)
 | 0, _, _, _, _ => none
 | k + 1, x1, x7, x8, x9 => if x9 < x8 then (if 0 ≤ x9 then (if x9 < (x7.length : Int) then (if ((rd_T122 x7 x9).f0).toList = x1.toList then (some x9) else (spec_l10At.l0 k x1 x7 x8 (wrap64 (x9 + 1)))) else (none)) else (none)) else (some (-1))
def spec_l10At.f (k : Nat) (l0 : List (S122)) (a1 : ByteArray) : Option (Int) := spec_l10At.l0 k a1 l0 (l0.length : Int) 0
theorem spec_l10At.calls (k : Nat) (A0 : Option Addr) (c0 : Nat) (l0 : List (S122)) (a1 : ByteArray) (r : Int) (w : World) (hr0 : Kd.C k122 w A0 l0.length l0) (hc0 : l0.length ≤ c0) (h : spec_l10At.f k l0 a1 = some r) :
  Calls Try.prog 187 #[.slice A0 l0.length c0, .string a1] w fun e w' => e = .returned (.int .i64 r) ∧ Mem w [] w' [] := by
 have hu122 := Try.underlying122
 have HR0 := Aside0.mk hr0
 have HC0 := Aside0.mk hc0
 clear hr0 hc0
 have HM := Mem.nil w
 have H := h
 clear h
 unfold spec_l10At.f at H
 go_enter Try.func187, Try.ntmps187
 have H' := Aside0.mk H
 clear H
 go_wp2
 go_loopg [9] k (fun kq v9 w' => ∃ (x9_1 : Int), v9 = .int .i64 x9_1 ∧ Aside0 (spec_l10At.l0 kq a1 l0 (l0.length : Int) x9_1 = some r) ∧ Aside0 (kq ≤ k) ∧ Mem w [] w' [])
 case atStart => exact ⟨(0), RS, H', ⟨Nat.le_refl _⟩, (MD HM).pick []⟩
 case round =>
  clear H' HM
  obtain ⟨x9_1, rfl, HA, HK1, HM⟩ := hrel
  cases gk with
  | zero => exact absurd HA.out (by simp [spec_l10At.l0])
  | succ k1 =>
   have H := HA.out
   clear HA
   simp only [spec_l10At.l0] at H
   go_upto_if 10 with (fail)
   replace H := IT H; rcases H with ⟨c3, H⟩ | ⟨c3, H⟩
   ·have c3b0 := decide_eq_true c3
    clear c3
    first|rw [c3b0]|(simp only [i64_w, i32_w]; rw [c3b0])|skip
    replace H := GD H; obtain ⟨c4, H⟩ := H
    have c4b0 := decide_eq_true c4
    clear c4
    replace H := GD H; obtain ⟨c5, H⟩ := H
    have c5b0 := decide_eq_true c5
    clear c5
    have p450 : 0 ≤ (x9_1 : Int) := of_decide_eq_true AS
    have q450 : (x9_1 : Int) < (l0.length : Int) := of_decide_eq_true AS
    obtain ⟨ad450, e450, hx450_0, hx450_1, hx450_2⟩ := at_T122 (HM.came HR0.out) x9_1 p450 q450
    cases e450
    replace p450 := eq_true p450
    replace q450 := eq_true q450
    go_upto_if 17 with (first | ((with_reducible refine gN 6 rfl ?_); refine pB 6 122 [.string (⟨#[]⟩ : ByteArray), .string (⟨#[]⟩ : ByteArray), .int .i64 0] HM rfl ?_; clear HM; intro gb451 w6 HM) | ((with_reducible refine gS 6 rfl ?_); refine pS 0 6 0 [.string ((rd_T122 l0 x9_1).f0), .string ((rd_T122 l0 x9_1).f1), .int .i64 ((rd_T122 l0 x9_1).f2)] HM rfl rfl ?_; clear HM; intro w7 HM; obtain ⟨_,_,_,_,_,_⟩ := bk3 (HM.bx 0 rfl)))
    replace HM := nzM HM
    replace H := IT H; rcases H with ⟨c9, H⟩ | ⟨c9, H⟩
    ·obtain ⟨c9b0, c9b1⟩ := BE c9
     clear c9
     first|rw [c9b0]|(simp only [i64_w, i32_w]; rw [c9b0])|skip
     obtain rfl := Option.some.inj H
     go_wp2
     go_ret
     exact ⟨ER, (MD HM).pick []⟩
    ·obtain ⟨c9b0, c9b1⟩ := BF c9
     first|rw [c9b0]|(simp only [i64_w, i32_w]; rw [c9b0])|skip
     have H' := Aside0.mk H
     clear H
     go_wp2
     go_roundg k1
     case measure => have := HK1.out; omega
     case rel => exact ⟨(wrap64 (x9_1 + 1)), RS, H', ⟨by have := HK1.out; omega⟩, (MD HM).pick []⟩
   ·have c3b0 := decide_eq_false c3
    clear c3
    first|rw [c3b0]|(simp only [i64_w, i32_w]; rw [c3b0])|skip
    obtain rfl := Option.some.inj H
    go_wp2
    go_ret
    exact ⟨ER, (MD HM).pick []⟩
end Go.Proofs.Ythnedklbobbkcaa.G

namespace Go.Proofs.Ythnedklbobbkcaa.G
open Go.RowKit Go.Proofs.YthnedklbobbkcaaW.PrintWords Go.Proofs.YthnedklbobbkcaaW.PrintLast Go.Proofs.YthnedklbobbkcaaW.PrintMore Go.Proofs.Ythnedklbobbkcaa.Sh
attribute [local go_sem] max2_int min2_int max_two min_two max_three min_three max_four min_four
set_option linter.unusedVariables false
set_option linter.unusedSimpArgs false
def spec_l03Has.l0 : Nat → Int → List Int → Int → Int → Option (Bool)
 | 0, _, _, _, _ => none
 | k + 1, x1, x7, x8, x9 => if x9 < x8 then (if 0 ≤ x9 then (if x9 < (x7.length : Int) then (if (rd x7 x9) = x1 then (some true) else (spec_l03Has.l0 k x1 x7 x8 (wrap64 (x9 + 1)))) else (none)) else (none)) else (some false)
def spec_l03Has.f (k : Nat) (l0 : List Int) (a1 : Int) : Option (Bool) := spec_l03Has.l0 k a1 l0 (l0.length : Int) 0
theorem spec_l03Has.calls (k : Nat) (A0 : Option Addr) (c0 : Nat) (l0 : List Int) (a1 : Int) (r : Bool) (w : World) (hr0 : Kd.C (Kd.int .i64) w A0 l0.length l0) (hc0 : l0.length ≤ c0) (h : spec_l03Has.f k l0 a1 = some r) :
  Calls Try.prog 188 #[.slice A0 l0.length c0, .int .i64 a1] w fun e w' => e = .returned (.bool r) ∧ Drawn0 w w' := by
 have HR0 := Aside0.mk hr0
 have HC0 := Aside0.mk hc0
 clear hr0 hc0
 have H : (spec_l03Has.l0 k a1 l0 (l0.length : Int) 0) = some r := h
 clear h
 have H' := Aside0.mk H
 clear H
 go_enter Try.func188, Try.ntmps188
 go_wp2
 go_loopg [9] k (fun kq v9 w' => ∃ (x9_1 : Int), v9 = .int .i64 x9_1 ∧ Aside0 (spec_l03Has.l0 kq a1 l0 (l0.length : Int) x9_1 = some r) ∧ Aside0 (kq ≤ k) ∧ Drawn0 w w')
 case atStart => exact ⟨(0), RS, H', ⟨Nat.le_refl _⟩, DR⟩
 case round =>
  clear H'
  try clear c1
  try clear p2
  obtain ⟨x9_1, rfl, HA, HK1, ⟨m1, rfl⟩⟩ := hrel
  cases gk with
  | zero => exact absurd HA.out (by simp [spec_l03Has.l0])
  | succ k1 =>
   have H := HA.out
   clear HA
   simp only [spec_l03Has.l0] at H
   by_cases c3 : x9_1 < (l0.length : Int)
   ·rw [if_pos c3] at H
    have c3b0 : decide (x9_1 < (l0.length : Int)) = true := decide_eq_true c3
    clear c3
    by_cases c4 : 0 ≤ x9_1
    ·rw [if_pos c4] at H
     have c4b0 : decide (0 ≤ x9_1) = true := decide_eq_true c4
     clear c4
     by_cases c5 : x9_1 < (l0.length : Int)
     ·rw [if_pos c5] at H
      have c5b0 : decide (x9_1 < (l0.length : Int)) = true := decide_eq_true c5
      clear c5
      by_cases c6 : (rd l0 x9_1) = a1
      ·rw [if_pos c6] at H
       have c6b0 : ((rd l0 x9_1) == a1) = true := beq_iff_eq.mpr c6
       have c6b1 : ((rd l0 x9_1) != a1) = false := bne_eq_false_iff_eq.mpr c6
       clear c6
       obtain rfl := Option.some.inj H
       have p453 : 0 ≤ (x9_1 : Int) := of_decide_eq_true AS
       have q453 : x9_1 < (l0.length : Int) := of_decide_eq_true AS
       obtain ⟨ad453, e453, hx453_0⟩ := Kd.at_int HR0.out x9_1 p453 q453
       cases e453
       replace p453 := eq_true p453
       replace q453 := eq_true q453
       go_wp2
       go_ret
       exact ⟨by first | rfl | (simp; done) | (simp [*]; done), DR⟩
      ·rw [if_neg c6] at H
       have c6b0 : ((rd l0 x9_1) == a1) = false := beq_eq_false_iff_ne.mpr c6
       have c6b1 : ((rd l0 x9_1) != a1) = true := bne_iff_ne.mpr c6
       have H' := Aside0.mk H
       clear H
       have p453 : 0 ≤ (x9_1 : Int) := of_decide_eq_true AS
       have q453 : x9_1 < (l0.length : Int) := of_decide_eq_true AS
       obtain ⟨ad453, e453, hx453_0⟩ := Kd.at_int HR0.out x9_1 p453 q453
       cases e453
       replace p453 := eq_true p453
       replace q453 := eq_true q453
       go_wp2
       go_roundg k1
       case measure => have := HK1.out; omega
       case rel => exact ⟨(wrap64 (x9_1 + 1)), RS, H', ⟨by have := HK1.out; omega⟩, DR⟩
     ·rw [if_neg c5] at H
      exact absurd H (by simp)
    ·rw [if_neg c4] at H
     exact absurd H (by simp)
   ·rw [if_neg c3] at H
    have c3b0 : decide (x9_1 < (l0.length : Int)) = false := decide_eq_false c3
    clear c3
    obtain rfl := Option.some.inj H
    go_wp2
    go_ret
    exact ⟨by first | rfl | (simp; done) | (simp [*]; done), DR⟩
end Go.Proofs.Ythnedklbobbkcaa.G

namespace Go.Proofs.Ythnedklbobbkcaa.G
open Go.RowKit Go.Proofs.YthnedklbobbkcaaW.PrintWords Go.Proofs.YthnedklbobbkcaaW.PrintLast Go.Proofs.YthnedklbobbkcaaW.PrintMore Go.Proofs.Ythnedklbobbkcaa.Sh
attribute [local go_sem] max2_int min2_int max_two min_two max_three min_three max_four min_four
set_option linter.unusedVariables false
set_option linter.unusedSimpArgs false
open Go.Proofs.Ythnedklbobbkcaa.Mm
mutual
def spec_ThreeOk.j0 : Nat → Bool → Int → Int → List (S122) → List (S122) → List Int → Option (Bool)
 | 0, _, _, _, _, _, _ => none
 | k + 1, x39, x455000, x455001, x455002, x455003, x455004 => if x39 = true then (some false) else ((some (([] : List (S122)) : List (S122))).bind fun y458 => (if y458.length + x455002.length < 3518437208883 then ((some (y458 ++ x455002 : List (S122))).bind fun y461 => (if y461.length + x455003.length < 3518437208883 then ((some (y461 ++ x455003 : List (S122))).bind fun y464 => (spec_ThreeOk.l0 k y464 y464 (y464.length : Int) 0 x455000 x455001 x455002 x455003 x455004)) else (none))) else (none)))
def spec_ThreeOk.l0 : Nat → List (S122) → List (S122) → Int → Int → Int → Int → List (S122) → List (S122) → List Int → Option (Bool)
 | 0, _, _, _, _, _, _, _, _, _ => none
 | k + 1, x3, x47, x48, x49, x455000, x455001, x455002, x455003, x455004 => if x49 < x48 then (if 0 ≤ x49 then (if x49 < (x47.length : Int) then ((spec_ItemOk.f k ((rd_T122 x47 x49).f0) ((rd_T122 x47 x49).f1) ((rd_T122 x47 x49).f2)).bind fun t469 => (if t469 = true then ((spec_l10At.f k x3 ((rd_T122 x47 x49).f0)).bind fun t470 => (if t470 = x49 then (spec_ThreeOk.l0 k x3 x47 x48 (wrap64 (x49 + 1)) x455000 x455001 x455002 x455003 x455004) else (some false))) else (some false))) else (none)) else (none)) else (spec_ThreeOk.l1 k x455004 (x455004.length : Int) 0 x455000 x455001 x455002 x455003 x455004)
def spec_ThreeOk.l1 : Nat → List Int → Int → Int → Int → Int → List (S122) → List (S122) → List Int → Option (Bool)
 | 0, _, _, _, _, _, _, _, _ => none
 | k + 1, x67, x68, x69, x455000, x455001, x455002, x455003, x455004 => if x69 < x68 then (if 0 ≤ x69 then (if x69 < (x67.length : Int) then ((spec_l01Num.f (rd x67 x69)).bind fun t472 => (if t472 = true then (if x69 ≤ (x455004.length : Int) then ((spec_l03Has.f k (x455004.take (x69 : Int).toNat) (rd x67 x69)).bind fun t474 => (if t474 = true then (some false) else (spec_ThreeOk.l1 k x67 x68 (wrap64 (x69 + 1)) x455000 x455001 x455002 x455003 x455004))) else (none)) else (some false))) else (none)) else (none)) else (some true)
end
def spec_ThreeOk.f (k : Nat) (a0_0 : Int) (a0_1 : Int) (l0_2 : List (S122)) (l0_3 : List (S122)) (l0_4 : List Int) : Option (Bool) := (spec_l01In.f a0_0 1 60).bind fun t455 => (if t455 = true then ((spec_l01In.f a0_1 1 a0_0).bind fun t456 => (if t456 = true then (if (wrap64 ((l0_2.length : Int) + (l0_3.length : Int))) > a0_0 then (spec_ThreeOk.j0 k true a0_0 a0_1 l0_2 l0_3 l0_4) else ((spec_l10Ghosts.f a0_0 a0_1 l0_2 l0_3 l0_4).bind fun t457 => (spec_ThreeOk.j0 k (decide ((l0_4.length : Int) > t457)) a0_0 a0_1 l0_2 l0_3 l0_4))) else (spec_ThreeOk.j0 k true a0_0 a0_1 l0_2 l0_3 l0_4))) else (spec_ThreeOk.j0 k true a0_0 a0_1 l0_2 l0_3 l0_4))
def spec_ThreeOk.T1 : Bool × List (List Nat × List Nat) := (true, [([], []), ([0], [0]), ([1], [1]), ([2], [2]), ([3, 2], [3]), ([4], [4]), ([5, 4], [4, 5]), ([4], [4]), ([7, 4], [4, 7]), ([6, 8, 4, 4], [4, 6, 8]), ([9, 4], [4, 9]), ([4, 10], [4, 10]), ([11, 9], [11]), ([12], [12]), ([13, 12], [12, 13]), ([14, 12], [12, 14]), ([12], [12]), ([16, 12], [12, 16]), ([17, 12], [12, 17]), ([15, 18, 12], [12, 15, 18]), ([12], [12]), ([20, 12], [12, 20]), ([19, 21, 12], [12, 19, 21]), ([12, 22], [12, 22]), ([23, 12], [23]), ([24], [24]), ([25, 24], [24, 25]), ([26, 24], [24, 26]), ([24], [24]), ([28, 24, 24], [24, 28]), ([27, 29, 24], [24, 27, 29]), ([24, 30], [24, 30])])
def spec_ThreeOk.B1 : List Nat := [0, 1, 3, 7, 15, 31, 63, 31, 159, 511, 1023, 2047, 4095, 8191, 16383, 32767, 8191, 73727, 204799, 524287, 8191, 1056767, 4194303, 8388607, 16777215, 33554431, 67108863, 134217727, 33554431, 301989887, 1073741823, 2147483647]
theorem spec_ThreeOk.tab1 : rtab .any (opsOf Try.f147 1) = spec_ThreeOk.T1 := by kernel_rfl
theorem spec_ThreeOk.bits1 : waitsOk spec_ThreeOk.T1.2 spec_ThreeOk.B1 = true := by kernel_rfl
def spec_ThreeOk.T3 : Bool × List (List Nat × List Nat) := (true, [([], []), ([], []), ([1], [1]), ([0, 2], [0, 2]), ([], []), ([4], [4]), ([3, 5, 3], [3, 5]), ([6, 6, 0, 1, 2, 3, 4, 5, 6], [6])])
def spec_ThreeOk.B3 : List Nat := [0, 0, 2, 7, 0, 16, 63, 127]
theorem spec_ThreeOk.tab3 : rtab .any (opsOf Try.f147 3) = spec_ThreeOk.T3 := by kernel_rfl
theorem spec_ThreeOk.bits3 : waitsOk spec_ThreeOk.T3.2 spec_ThreeOk.B3 = true := by kernel_rfl
theorem spec_ThreeOk.calls (k : Nat) (a0_0 : Int) (a0_1 : Int) (A0_2 : Option Addr) (c0_2 : Nat) (l0_2 : List (S122)) (A0_3 : Option Addr) (c0_3 : Nat) (l0_3 : List (S122)) (A0_4 : Option Addr) (c0_4 : Nat) (l0_4 : List Int) (r : Bool) (w : World) (hr0_2 : Kd.C k122 w A0_2 l0_2.length l0_2) (hc0_2 : l0_2.length ≤ c0_2) (hr0_3 : Kd.C k122 w A0_3 l0_3.length l0_3) (hc0_3 : l0_3.length ≤ c0_3) (hr0_4 : Kd.C (Kd.int .i64) w A0_4 l0_4.length l0_4) (hc0_4 : l0_4.length ≤ c0_4) (h : spec_ThreeOk.f k a0_0 a0_1 l0_2 l0_3 l0_4 = some r) :
  Calls Try.prog 147 #[.agg #[.int .i64 a0_0, .int .i64 a0_1, .slice A0_2 l0_2.length c0_2, .slice A0_3 l0_3.length c0_3, .slice A0_4 l0_4.length c0_4]] w fun e w' => e = .returned (.bool r) ∧ Mem w [] w' [] := by
 have hu32 := Try.underlying32
 have hu122 := Try.underlying122
 have HR0_2 := Aside0.mk hr0_2
 have HC0_2 := Aside0.mk hc0_2
 clear hr0_2 hc0_2
 have HR0_3 := Aside0.mk hr0_3
 have HC0_3 := Aside0.mk hc0_3
 clear hr0_3 hc0_3
 have HR0_4 := Aside0.mk hr0_4
 have HC0_4 := Aside0.mk hc0_4
 clear hr0_4 hc0_4
 have HM := Mem.nil w
 have H := h
 clear h
 unfold spec_ThreeOk.f at H
 go_enter Try.func147, Try.ntmps147
 have HC3 := Aside0.mk H
 clear H
 go_upto_region 1 with (first | ((with_reducible refine gN 1 rfl ?_); refine pB 1 32 [.int .i64 a0_0, .int .i64 a0_1, .slice A0_2 l0_2.length c0_2, .slice A0_3 l0_3.length c0_3, .slice A0_4 l0_4.length c0_4] HM rfl ?_; clear HM; intro gb454 w2 HM))
 go_cut [39] (fun v39 wc => ∃ (kq : Nat) (x39_2 : Bool), v39 = .bool x39_2 ∧ Aside0 (spec_ThreeOk.j0 kq x39_2 a0_0 a0_1 l0_2 l0_3 l0_4 = some r) ∧ Aside0 (kq ≤ k) ∧ Mem w [] wc [box 32 gb454 [.int .i64 a0_0, .int .i64 a0_1, .slice A0_2 l0_2.length c0_2, .slice A0_3 l0_3.length c0_3, .slice A0_4 l0_4.length c0_4]])
 case first =>
  have H := HC3.out
  clear HC3
  try go_wp2
  replace H := BN H; obtain ⟨t455, A4, H⟩ := H
  replace H := IB H
  rcases H with ⟨c5, H⟩ | ⟨c5, H⟩
  ·subst c5
   replace H := BN H; obtain ⟨t456, A6, H⟩ := H
   replace H := IB H
   rcases H with ⟨c7, H⟩ | ⟨c7, H⟩
   ·subst c7
    replace H := IT H; rcases H with ⟨c8, H⟩ | ⟨c8, H⟩
    ·have c8b0 : decide (a0_0 < (wrap64 ((l0_2.length : Int) + (l0_3.length : Int)))) = true := decide_eq_true c8
     clear c8
     refine RGN 32 [0, 1, 2, 3, 4, 5, 6, 7, 8, 9, 10, 11, 12, 13, 14, 15, 16, 17, 18, 19, 20, 21, 22, 23, 24, 25, 26, 27, 28, 29, 30, 31] (fun a0 b a w' => a = putSel a0 b [(0, 8, .pointer (some ⟨gb454, 0, none⟩)), (1, 9, .int .i64 a0_0), (2, 10, .bool true), (3, 11, .bool (!true)), (4, 12, .bool (!true)), (5, 13, .pointer (some ⟨gb454, 1, none⟩)), (6, 14, .int .i64 a0_1), (7, 15, .pointer (some ⟨gb454, 0, none⟩)), (8, 16, .int .i64 a0_0), (9, 17, .bool true), (10, 18, .bool (!true)), (11, 19, .bool (!true)), (12, 20, .bool (!true)), (13, 21, .pointer (some ⟨gb454, 2, none⟩)), (14, 22, .slice A0_2 l0_2.length c0_2), (15, 23, .int .i64 (l0_2.length : Int)), (16, 24, .pointer (some ⟨gb454, 3, none⟩)), (17, 25, .slice A0_3 l0_3.length c0_3), (18, 26, .int .i64 (l0_3.length : Int)), (19, 27, .int .i64 (wrap64 ((l0_2.length : Int) + (l0_3.length : Int)))), (20, 28, .pointer (some ⟨gb454, 0, none⟩)), (21, 29, .int .i64 a0_0), (22, 30, .bool (decide ((wrap64 ((l0_2.length : Int) + (l0_3.length : Int))) > a0_0))), (23, 31, .bool (decide ((wrap64 ((l0_2.length : Int) + (l0_3.length : Int))) > a0_0))), (24, 32, .bool (decide ((wrap64 ((l0_2.length : Int) + (l0_3.length : Int))) > a0_0))), (25, 33, undef), (26, 34, undef), (27, 35, undef), (28, 36, undef), (29, 37, undef), (30, 38, undef), (31, 39, .bool true)] ∧ Mem w [] w' [box 32 gb454 [.int .i64 a0_0, .int .i64 a0_1, .slice A0_2 l0_2.length c0_2, .slice A0_3 l0_3.length c0_3, .slice A0_4 l0_4.length c0_4]]) spec_ThreeOk.tab1 spec_ThreeOk.bits1 ?_ ?_ ?_
     ·exact ⟨PS0' rfl _, (HM.drew).pick [0]⟩
     ·clear HM
      refine SY ?_ ?_
      ·intro b a w ha HM hb hon hoff K hK
       have e1 := PG ha 1
       exact VL (.pointer (some ⟨gb454, 0, none⟩)) (hK.out _ _ ⟨PUT ha 0 hb, HM⟩)
      refine SY ?_ ?_
      ·intro b a w ha HM hb hon hoff K hK
       obtain ⟨_,_,_,_,_,_,_,_,_,_⟩ := bk5 (HM.bx 0 rfl)
       have e8 := PE ha 0 hon
       exact VL (.int .i64 a0_0) (hK.out _ _ ⟨PUT ha 1 hb, HM⟩)
      refine SY ?_ ?_
      ·intro b a w ha HM hb hon hoff K hK
       have e9 := PE ha 1 hon
       refine ST (eC (some 10) rfl #[.int .i64 a0_0, .int .i64 1, .int .i64 60] rfl Try.func185 (spec_l01In.calls a0_0 1 60 true _ A4.out) ?_ (hargs := by (simp only [List.map_toArray, List.map_cons, List.map_nil, evc, eval_of e9]) <;> rfl))
       rintro e w18 ⟨rfl, hd⟩
       refine ⟨_, rfl, ?_⟩
       replace HM := HM.drawn hd
       clear hd
       exact hK.out _ _ ⟨PUT ha 2 hb, (HM).pick [0]⟩
      refine SY ?_ ?_
      ·intro b a w ha HM hb hon hoff K hK
       have e10 := PE ha 2 hon
       exact VL (.bool (!true)) (hK.out _ _ ⟨PUT ha 3 hb, HM⟩)
      refine SY ?_ ?_
      ·intro b a w ha HM hb hon hoff K hK
       have e11 := PE ha 3 hon
       exact VL (.bool (!true)) (hK.out _ _ ⟨PUT ha 4 hb, HM⟩)
      refine SY ?_ ?_
      ·intro b a w ha HM hb hon hoff K hK
       have e1 := PG ha 1
       have e12 := PE ha 4 hon
       exact VL (.pointer (some ⟨gb454, 1, none⟩)) (hK.out _ _ ⟨PUT ha 5 hb, HM⟩) (hw := wanted_on rfl rfl rfl (e12.trans (by first | rfl | (simp [*]; done))))
      refine SY ?_ ?_
      ·intro b a w ha HM hb hon hoff K hK
       obtain ⟨_,_,_,_,_,_,_,_,_,_⟩ := bk5 (HM.bx 0 rfl)
       have e13 := PE ha 5 hon
       have e12 := PE ha 4 hon
       exact VL (.int .i64 a0_1) (hK.out _ _ ⟨PUT ha 6 hb, HM⟩) (hw := wanted_on rfl rfl rfl (e12.trans (by first | rfl | (simp [*]; done))))
      refine SY ?_ ?_
      ·intro b a w ha HM hb hon hoff K hK
       have e1 := PG ha 1
       have e12 := PE ha 4 hon
       exact VL (.pointer (some ⟨gb454, 0, none⟩)) (hK.out _ _ ⟨PUT ha 7 hb, HM⟩) (hw := wanted_on rfl rfl rfl (e12.trans (by first | rfl | (simp [*]; done))))
      refine SY ?_ ?_
      ·intro b a w ha HM hb hon hoff K hK
       obtain ⟨_,_,_,_,_,_,_,_,_,_⟩ := bk5 (HM.bx 0 rfl)
       have e15 := PE ha 7 hon
       have e12 := PE ha 4 hon
       exact VL (.int .i64 a0_0) (hK.out _ _ ⟨PUT ha 8 hb, HM⟩) (hw := wanted_on rfl rfl rfl (e12.trans (by first | rfl | (simp [*]; done))))
      refine SY ?_ ?_
      ·intro b a w ha HM hb hon hoff K hK
       have e14 := PE ha 6 hon
       have e16 := PE ha 8 hon
       have e12 := PE ha 4 hon
       refine ST (eC (some 17) rfl #[.int .i64 a0_1, .int .i64 1, .int .i64 a0_0] rfl Try.func185 (spec_l01In.calls a0_1 1 a0_0 true _ A6.out) ?_ (hargs := by (simp only [List.map_toArray, List.map_cons, List.map_nil, evc, eval_of e14, eval_of e16]) <;> rfl)) (hw := wanted_on rfl rfl rfl (e12.trans (by first | rfl | (simp [*]; done))))
       rintro e w21 ⟨rfl, hd⟩
       refine ⟨_, rfl, ?_⟩
       replace HM := HM.drawn hd
       clear hd
       exact hK.out _ _ ⟨PUT ha 9 hb, (HM).pick [0]⟩
      refine SY ?_ ?_
      ·intro b a w ha HM hb hon hoff K hK
       have e17 := PE ha 9 hon
       have e12 := PE ha 4 hon
       exact VL (.bool (!true)) (hK.out _ _ ⟨PUT ha 10 hb, HM⟩) (hw := wanted_on rfl rfl rfl (e12.trans (by first | rfl | (simp [*]; done))))
      refine SY ?_ ?_
      ·intro b a w ha HM hb hon hoff K hK
       have e12 := PE ha 4 hon
       have e18 := PE ha 10 hon
       exact VL (.bool (!true)) (hK.out _ _ ⟨PUT ha 11 hb, HM⟩)
      refine SY ?_ ?_
      ·intro b a w ha HM hb hon hoff K hK
       have e19 := PE ha 11 hon
       exact VL (.bool (!true)) (hK.out _ _ ⟨PUT ha 12 hb, HM⟩)
      refine SY ?_ ?_
      ·intro b a w ha HM hb hon hoff K hK
       have e1 := PG ha 1
       have e20 := PE ha 12 hon
       exact VL (.pointer (some ⟨gb454, 2, none⟩)) (hK.out _ _ ⟨PUT ha 13 hb, HM⟩) (hw := wanted_on rfl rfl rfl (e20.trans (by first | rfl | (simp [*]; done))))
      refine SY ?_ ?_
      ·intro b a w ha HM hb hon hoff K hK
       obtain ⟨_,_,_,_,_,_,_,_,_,_⟩ := bk5 (HM.bx 0 rfl)
       have e21 := PE ha 13 hon
       have e20 := PE ha 12 hon
       exact VL (.slice A0_2 l0_2.length c0_2) (hK.out _ _ ⟨PUT ha 14 hb, HM⟩) (hw := wanted_on rfl rfl rfl (e20.trans (by first | rfl | (simp [*]; done))))
      refine SY ?_ ?_
      ·intro b a w ha HM hb hon hoff K hK
       have e22 := PE ha 14 hon
       have e20 := PE ha 12 hon
       exact VL (.int .i64 (l0_2.length : Int)) (hK.out _ _ ⟨PUT ha 15 hb, HM⟩) (hw := wanted_on rfl rfl rfl (e20.trans (by first | rfl | (simp [*]; done))))
      refine SY ?_ ?_
      ·intro b a w ha HM hb hon hoff K hK
       have e1 := PG ha 1
       have e20 := PE ha 12 hon
       exact VL (.pointer (some ⟨gb454, 3, none⟩)) (hK.out _ _ ⟨PUT ha 16 hb, HM⟩) (hw := wanted_on rfl rfl rfl (e20.trans (by first | rfl | (simp [*]; done))))
      refine SY ?_ ?_
      ·intro b a w ha HM hb hon hoff K hK
       obtain ⟨_,_,_,_,_,_,_,_,_,_⟩ := bk5 (HM.bx 0 rfl)
       have e24 := PE ha 16 hon
       have e20 := PE ha 12 hon
       exact VL (.slice A0_3 l0_3.length c0_3) (hK.out _ _ ⟨PUT ha 17 hb, HM⟩) (hw := wanted_on rfl rfl rfl (e20.trans (by first | rfl | (simp [*]; done))))
      refine SY ?_ ?_
      ·intro b a w ha HM hb hon hoff K hK
       have e25 := PE ha 17 hon
       have e20 := PE ha 12 hon
       exact VL (.int .i64 (l0_3.length : Int)) (hK.out _ _ ⟨PUT ha 18 hb, HM⟩) (hw := wanted_on rfl rfl rfl (e20.trans (by first | rfl | (simp [*]; done))))
      refine SY ?_ ?_
      ·intro b a w ha HM hb hon hoff K hK
       have e23 := PE ha 15 hon
       have e26 := PE ha 18 hon
       have e20 := PE ha 12 hon
       exact VL (.int .i64 (wrap64 ((l0_2.length : Int) + (l0_3.length : Int)))) (hK.out _ _ ⟨PUT ha 19 hb, HM⟩) (hw := wanted_on rfl rfl rfl (e20.trans (by first | rfl | (simp [*]; done))))
      refine SY ?_ ?_
      ·intro b a w ha HM hb hon hoff K hK
       have e1 := PG ha 1
       have e20 := PE ha 12 hon
       exact VL (.pointer (some ⟨gb454, 0, none⟩)) (hK.out _ _ ⟨PUT ha 20 hb, HM⟩) (hw := wanted_on rfl rfl rfl (e20.trans (by first | rfl | (simp [*]; done))))
      refine SY ?_ ?_
      ·intro b a w ha HM hb hon hoff K hK
       obtain ⟨_,_,_,_,_,_,_,_,_,_⟩ := bk5 (HM.bx 0 rfl)
       have e28 := PE ha 20 hon
       have e20 := PE ha 12 hon
       exact VL (.int .i64 a0_0) (hK.out _ _ ⟨PUT ha 21 hb, HM⟩) (hw := wanted_on rfl rfl rfl (e20.trans (by first | rfl | (simp [*]; done))))
      refine SY ?_ ?_
      ·intro b a w ha HM hb hon hoff K hK
       have e27 := PE ha 19 hon
       have e29 := PE ha 21 hon
       have e20 := PE ha 12 hon
       exact VL (.bool (decide ((wrap64 ((l0_2.length : Int) + (l0_3.length : Int))) > a0_0))) (hK.out _ _ ⟨PUT ha 22 hb, HM⟩) (hw := wanted_on rfl rfl rfl (e20.trans (by first | rfl | (simp [*]; done))))
      refine SY ?_ ?_
      ·intro b a w ha HM hb hon hoff K hK
       have e20 := PE ha 12 hon
       have e30 := PE ha 22 hon
       exact VL (.bool (decide ((wrap64 ((l0_2.length : Int) + (l0_3.length : Int))) > a0_0))) (hK.out _ _ ⟨PUT ha 23 hb, HM⟩)
      refine SY ?_ ?_
      ·intro b a w ha HM hb hon hoff K hK
       have e31 := PE ha 23 hon
       exact VL (.bool (decide ((wrap64 ((l0_2.length : Int) + (l0_3.length : Int))) > a0_0))) (hK.out _ _ ⟨PUT ha 24 hb, HM⟩)
      refine SY ?_ ?_
      ·intro b a w ha HM hb hon hoff K hK
       have e32 := PE ha 24 hon
       exact VN ( wanted_off rfl rfl rfl (e32.trans (by first | rfl | (simp [*]; done)))) (hK.out _ _ ⟨PUT ha 25 hb, HM⟩)
      refine SY ?_ ?_
      ·intro b a w ha HM hb hon hoff K hK
       have e32 := PE ha 24 hon
       exact VN ( wanted_off rfl rfl rfl (e32.trans (by first | rfl | (simp [*]; done)))) (hK.out _ _ ⟨PUT ha 26 hb, HM⟩)
      refine SY ?_ ?_
      ·intro b a w ha HM hb hon hoff K hK
       have e32 := PE ha 24 hon
       exact VN ( wanted_off rfl rfl rfl (e32.trans (by first | rfl | (simp [*]; done)))) (hK.out _ _ ⟨PUT ha 27 hb, HM⟩)
      refine SY ?_ ?_
      ·intro b a w ha HM hb hon hoff K hK
       have e32 := PE ha 24 hon
       exact VN ( wanted_off rfl rfl rfl (e32.trans (by first | rfl | (simp [*]; done)))) (hK.out _ _ ⟨PUT ha 28 hb, HM⟩)
      refine SY ?_ ?_
      ·intro b a w ha HM hb hon hoff K hK
       have e32 := PE ha 24 hon
       exact VN ( wanted_off rfl rfl rfl (e32.trans (by first | rfl | (simp [*]; done)))) (hK.out _ _ ⟨PUT ha 29 hb, HM⟩)
      refine SY ?_ ?_
      ·intro b a w ha HM hb hon hoff K hK
       have e32 := PE ha 24 hon
       exact VN ( wanted_off rfl rfl rfl (e32.trans (by first | rfl | (simp [*]; done)))) (hK.out _ _ ⟨PUT ha 30 hb, HM⟩)
      refine SY ?_ ?_
      ·intro b a w ha HM hb hon hoff K hK
       have e32 := PE ha 24 hon
       have e38 := PE ha 30 hon
       exact VL (.bool true) (hK.out _ _ ⟨PUT ha 31 hb, HM⟩)
      exact steps_nil
     rintro _ w25 ⟨rfl, HM⟩
     simp only [putSel, if_true, Act.put, List.setIfInBounds_toArray, List.set_cons_zero, List.set_cons_succ, gt_iff_lt, ge_iff_le]
     have H' := Aside0.mk H
     clear H
     go_wp2
     go_meet
     case rel => exact ⟨_, (true), RS, H', ⟨by first | omega | exact Nat.le_refl _⟩, (MD HM).pick [0]⟩
    ·have c8b0 : decide (a0_0 < (wrap64 ((l0_2.length : Int) + (l0_3.length : Int)))) = false := decide_eq_false c8
     clear c8
     replace H := BN H; obtain ⟨t457, A26, H⟩ := H
     refine RGN 32 [0, 1, 2, 3, 4, 5, 6, 7, 8, 9, 10, 11, 12, 13, 14, 15, 16, 17, 18, 19, 20, 21, 22, 23, 24, 25, 26, 27, 28, 29, 30, 31] (fun a0 b a w' => a = putSel a0 b [(0, 8, .pointer (some ⟨gb454, 0, none⟩)), (1, 9, .int .i64 a0_0), (2, 10, .bool true), (3, 11, .bool (!true)), (4, 12, .bool (!true)), (5, 13, .pointer (some ⟨gb454, 1, none⟩)), (6, 14, .int .i64 a0_1), (7, 15, .pointer (some ⟨gb454, 0, none⟩)), (8, 16, .int .i64 a0_0), (9, 17, .bool true), (10, 18, .bool (!true)), (11, 19, .bool (!true)), (12, 20, .bool (!true)), (13, 21, .pointer (some ⟨gb454, 2, none⟩)), (14, 22, .slice A0_2 l0_2.length c0_2), (15, 23, .int .i64 (l0_2.length : Int)), (16, 24, .pointer (some ⟨gb454, 3, none⟩)), (17, 25, .slice A0_3 l0_3.length c0_3), (18, 26, .int .i64 (l0_3.length : Int)), (19, 27, .int .i64 (wrap64 ((l0_2.length : Int) + (l0_3.length : Int)))), (20, 28, .pointer (some ⟨gb454, 0, none⟩)), (21, 29, .int .i64 a0_0), (22, 30, .bool (decide ((wrap64 ((l0_2.length : Int) + (l0_3.length : Int))) > a0_0))), (23, 31, .bool (decide ((wrap64 ((l0_2.length : Int) + (l0_3.length : Int))) > a0_0))), (24, 32, .bool (decide ((wrap64 ((l0_2.length : Int) + (l0_3.length : Int))) > a0_0))), (25, 33, .pointer (some ⟨gb454, 4, none⟩)), (26, 34, .slice A0_4 l0_4.length c0_4), (27, 35, .int .i64 (l0_4.length : Int)), (28, 36, .agg #[.int .i64 a0_0, .int .i64 a0_1, .slice A0_2 l0_2.length c0_2, .slice A0_3 l0_3.length c0_3, .slice A0_4 l0_4.length c0_4]), (29, 37, .int .i64 t457), (30, 38, .bool (decide ((l0_4.length : Int) > t457))), (31, 39, .bool (decide ((l0_4.length : Int) > t457)))] ∧ Mem w [] w' [box 32 gb454 [.int .i64 a0_0, .int .i64 a0_1, .slice A0_2 l0_2.length c0_2, .slice A0_3 l0_3.length c0_3, .slice A0_4 l0_4.length c0_4]]) spec_ThreeOk.tab1 spec_ThreeOk.bits1 ?_ ?_ ?_
     ·exact ⟨PS0' rfl _, (HM.drew).pick [0]⟩
     ·clear HM
      refine SY ?_ ?_
      ·intro b a w ha HM hb hon hoff K hK
       have e1 := PG ha 1
       exact VL (.pointer (some ⟨gb454, 0, none⟩)) (hK.out _ _ ⟨PUT ha 0 hb, HM⟩)
      refine SY ?_ ?_
      ·intro b a w ha HM hb hon hoff K hK
       obtain ⟨_,_,_,_,_,_,_,_,_,_⟩ := bk5 (HM.bx 0 rfl)
       have e8 := PE ha 0 hon
       exact VL (.int .i64 a0_0) (hK.out _ _ ⟨PUT ha 1 hb, HM⟩)
      refine SY ?_ ?_
      ·intro b a w ha HM hb hon hoff K hK
       have e9 := PE ha 1 hon
       refine ST (eC (some 10) rfl #[.int .i64 a0_0, .int .i64 1, .int .i64 60] rfl Try.func185 (spec_l01In.calls a0_0 1 60 true _ A4.out) ?_ (hargs := by (simp only [List.map_toArray, List.map_cons, List.map_nil, evc, eval_of e9]) <;> rfl))
       rintro e w39 ⟨rfl, hd⟩
       refine ⟨_, rfl, ?_⟩
       replace HM := HM.drawn hd
       clear hd
       exact hK.out _ _ ⟨PUT ha 2 hb, (HM).pick [0]⟩
      refine SY ?_ ?_
      ·intro b a w ha HM hb hon hoff K hK
       have e10 := PE ha 2 hon
       exact VL (.bool (!true)) (hK.out _ _ ⟨PUT ha 3 hb, HM⟩)
      refine SY ?_ ?_
      ·intro b a w ha HM hb hon hoff K hK
       have e11 := PE ha 3 hon
       exact VL (.bool (!true)) (hK.out _ _ ⟨PUT ha 4 hb, HM⟩)
      refine SY ?_ ?_
      ·intro b a w ha HM hb hon hoff K hK
       have e1 := PG ha 1
       have e12 := PE ha 4 hon
       exact VL (.pointer (some ⟨gb454, 1, none⟩)) (hK.out _ _ ⟨PUT ha 5 hb, HM⟩) (hw := wanted_on rfl rfl rfl (e12.trans (by first | rfl | (simp [*]; done))))
      refine SY ?_ ?_
      ·intro b a w ha HM hb hon hoff K hK
       obtain ⟨_,_,_,_,_,_,_,_,_,_⟩ := bk5 (HM.bx 0 rfl)
       have e13 := PE ha 5 hon
       have e12 := PE ha 4 hon
       exact VL (.int .i64 a0_1) (hK.out _ _ ⟨PUT ha 6 hb, HM⟩) (hw := wanted_on rfl rfl rfl (e12.trans (by first | rfl | (simp [*]; done))))
      refine SY ?_ ?_
      ·intro b a w ha HM hb hon hoff K hK
       have e1 := PG ha 1
       have e12 := PE ha 4 hon
       exact VL (.pointer (some ⟨gb454, 0, none⟩)) (hK.out _ _ ⟨PUT ha 7 hb, HM⟩) (hw := wanted_on rfl rfl rfl (e12.trans (by first | rfl | (simp [*]; done))))
      refine SY ?_ ?_
      ·intro b a w ha HM hb hon hoff K hK
       obtain ⟨_,_,_,_,_,_,_,_,_,_⟩ := bk5 (HM.bx 0 rfl)
       have e15 := PE ha 7 hon
       have e12 := PE ha 4 hon
       exact VL (.int .i64 a0_0) (hK.out _ _ ⟨PUT ha 8 hb, HM⟩) (hw := wanted_on rfl rfl rfl (e12.trans (by first | rfl | (simp [*]; done))))
      refine SY ?_ ?_
      ·intro b a w ha HM hb hon hoff K hK
       have e14 := PE ha 6 hon
       have e16 := PE ha 8 hon
       have e12 := PE ha 4 hon
       refine ST (eC (some 17) rfl #[.int .i64 a0_1, .int .i64 1, .int .i64 a0_0] rfl Try.func185 (spec_l01In.calls a0_1 1 a0_0 true _ A6.out) ?_ (hargs := by (simp only [List.map_toArray, List.map_cons, List.map_nil, evc, eval_of e14, eval_of e16]) <;> rfl)) (hw := wanted_on rfl rfl rfl (e12.trans (by first | rfl | (simp [*]; done))))
       rintro e w42 ⟨rfl, hd⟩
       refine ⟨_, rfl, ?_⟩
       replace HM := HM.drawn hd
       clear hd
       exact hK.out _ _ ⟨PUT ha 9 hb, (HM).pick [0]⟩
      refine SY ?_ ?_
      ·intro b a w ha HM hb hon hoff K hK
       have e17 := PE ha 9 hon
       have e12 := PE ha 4 hon
       exact VL (.bool (!true)) (hK.out _ _ ⟨PUT ha 10 hb, HM⟩) (hw := wanted_on rfl rfl rfl (e12.trans (by first | rfl | (simp [*]; done))))
      refine SY ?_ ?_
      ·intro b a w ha HM hb hon hoff K hK
       have e12 := PE ha 4 hon
       have e18 := PE ha 10 hon
       exact VL (.bool (!true)) (hK.out _ _ ⟨PUT ha 11 hb, HM⟩)
      refine SY ?_ ?_
      ·intro b a w ha HM hb hon hoff K hK
       have e19 := PE ha 11 hon
       exact VL (.bool (!true)) (hK.out _ _ ⟨PUT ha 12 hb, HM⟩)
      refine SY ?_ ?_
      ·intro b a w ha HM hb hon hoff K hK
       have e1 := PG ha 1
       have e20 := PE ha 12 hon
       exact VL (.pointer (some ⟨gb454, 2, none⟩)) (hK.out _ _ ⟨PUT ha 13 hb, HM⟩) (hw := wanted_on rfl rfl rfl (e20.trans (by first | rfl | (simp [*]; done))))
      refine SY ?_ ?_
      ·intro b a w ha HM hb hon hoff K hK
       obtain ⟨_,_,_,_,_,_,_,_,_,_⟩ := bk5 (HM.bx 0 rfl)
       have e21 := PE ha 13 hon
       have e20 := PE ha 12 hon
       exact VL (.slice A0_2 l0_2.length c0_2) (hK.out _ _ ⟨PUT ha 14 hb, HM⟩) (hw := wanted_on rfl rfl rfl (e20.trans (by first | rfl | (simp [*]; done))))
      refine SY ?_ ?_
      ·intro b a w ha HM hb hon hoff K hK
       have e22 := PE ha 14 hon
       have e20 := PE ha 12 hon
       exact VL (.int .i64 (l0_2.length : Int)) (hK.out _ _ ⟨PUT ha 15 hb, HM⟩) (hw := wanted_on rfl rfl rfl (e20.trans (by first | rfl | (simp [*]; done))))
      refine SY ?_ ?_
      ·intro b a w ha HM hb hon hoff K hK
       have e1 := PG ha 1
       have e20 := PE ha 12 hon
       exact VL (.pointer (some ⟨gb454, 3, none⟩)) (hK.out _ _ ⟨PUT ha 16 hb, HM⟩) (hw := wanted_on rfl rfl rfl (e20.trans (by first | rfl | (simp [*]; done))))
      refine SY ?_ ?_
      ·intro b a w ha HM hb hon hoff K hK
       obtain ⟨_,_,_,_,_,_,_,_,_,_⟩ := bk5 (HM.bx 0 rfl)
       have e24 := PE ha 16 hon
       have e20 := PE ha 12 hon
       exact VL (.slice A0_3 l0_3.length c0_3) (hK.out _ _ ⟨PUT ha 17 hb, HM⟩) (hw := wanted_on rfl rfl rfl (e20.trans (by first | rfl | (simp [*]; done))))
      refine SY ?_ ?_
      ·intro b a w ha HM hb hon hoff K hK
       have e25 := PE ha 17 hon
       have e20 := PE ha 12 hon
       exact VL (.int .i64 (l0_3.length : Int)) (hK.out _ _ ⟨PUT ha 18 hb, HM⟩) (hw := wanted_on rfl rfl rfl (e20.trans (by first | rfl | (simp [*]; done))))
      refine SY ?_ ?_
      ·intro b a w ha HM hb hon hoff K hK
       have e23 := PE ha 15 hon
       have e26 := PE ha 18 hon
       have e20 := PE ha 12 hon
       exact VL (.int .i64 (wrap64 ((l0_2.length : Int) + (l0_3.length : Int)))) (hK.out _ _ ⟨PUT ha 19 hb, HM⟩) (hw := wanted_on rfl rfl rfl (e20.trans (by first | rfl | (simp [*]; done))))
      refine SY ?_ ?_
      ·intro b a w ha HM hb hon hoff K hK
       have e1 := PG ha 1
       have e20 := PE ha 12 hon
       exact VL (.pointer (some ⟨gb454, 0, none⟩)) (hK.out _ _ ⟨PUT ha 20 hb, HM⟩) (hw := wanted_on rfl rfl rfl (e20.trans (by first | rfl | (simp [*]; done))))
      refine SY ?_ ?_
      ·intro b a w ha HM hb hon hoff K hK
       obtain ⟨_,_,_,_,_,_,_,_,_,_⟩ := bk5 (HM.bx 0 rfl)
       have e28 := PE ha 20 hon
       have e20 := PE ha 12 hon
       exact VL (.int .i64 a0_0) (hK.out _ _ ⟨PUT ha 21 hb, HM⟩) (hw := wanted_on rfl rfl rfl (e20.trans (by first | rfl | (simp [*]; done))))
      refine SY ?_ ?_
      ·intro b a w ha HM hb hon hoff K hK
       have e27 := PE ha 19 hon
       have e29 := PE ha 21 hon
       have e20 := PE ha 12 hon
       exact VL (.bool (decide ((wrap64 ((l0_2.length : Int) + (l0_3.length : Int))) > a0_0))) (hK.out _ _ ⟨PUT ha 22 hb, HM⟩) (hw := wanted_on rfl rfl rfl (e20.trans (by first | rfl | (simp [*]; done))))
      refine SY ?_ ?_
      ·intro b a w ha HM hb hon hoff K hK
       have e20 := PE ha 12 hon
       have e30 := PE ha 22 hon
       exact VL (.bool (decide ((wrap64 ((l0_2.length : Int) + (l0_3.length : Int))) > a0_0))) (hK.out _ _ ⟨PUT ha 23 hb, HM⟩)
      refine SY ?_ ?_
      ·intro b a w ha HM hb hon hoff K hK
       have e31 := PE ha 23 hon
       exact VL (.bool (decide ((wrap64 ((l0_2.length : Int) + (l0_3.length : Int))) > a0_0))) (hK.out _ _ ⟨PUT ha 24 hb, HM⟩)
      refine SY ?_ ?_
      ·intro b a w ha HM hb hon hoff K hK
       have e1 := PG ha 1
       have e32 := PE ha 24 hon
       exact VL (.pointer (some ⟨gb454, 4, none⟩)) (hK.out _ _ ⟨PUT ha 25 hb, HM⟩) (hw := wanted_on rfl rfl rfl (e32.trans (by first | rfl | (simp [*]; done))))
      refine SY ?_ ?_
      ·intro b a w ha HM hb hon hoff K hK
       obtain ⟨_,_,_,_,_,_,_,_,_,_⟩ := bk5 (HM.bx 0 rfl)
       have e33 := PE ha 25 hon
       have e32 := PE ha 24 hon
       exact VL (.slice A0_4 l0_4.length c0_4) (hK.out _ _ ⟨PUT ha 26 hb, HM⟩) (hw := wanted_on rfl rfl rfl (e32.trans (by first | rfl | (simp [*]; done))))
      refine SY ?_ ?_
      ·intro b a w ha HM hb hon hoff K hK
       have e34 := PE ha 26 hon
       have e32 := PE ha 24 hon
       exact VL (.int .i64 (l0_4.length : Int)) (hK.out _ _ ⟨PUT ha 27 hb, HM⟩) (hw := wanted_on rfl rfl rfl (e32.trans (by first | rfl | (simp [*]; done))))
      refine SY ?_ ?_
      ·intro b a w ha HM hb hon hoff K hK
       obtain ⟨_,_,_,_,_,_,_,_,_,_⟩ := bk5 (HM.bx 0 rfl)
       have e1 := PG ha 1
       have e32 := PE ha 24 hon
       exact VL (.agg #[.int .i64 a0_0, .int .i64 a0_1, .slice A0_2 l0_2.length c0_2, .slice A0_3 l0_3.length c0_3, .slice A0_4 l0_4.length c0_4]) (hK.out _ _ ⟨PUT ha 28 hb, HM⟩) (hw := wanted_on rfl rfl rfl (e32.trans (by first | rfl | (simp [*]; done))))
      refine SY ?_ ?_
      ·intro b a w ha HM hb hon hoff K hK
       have e36 := PE ha 28 hon
       have e32 := PE ha 24 hon
       refine ST (eC (some 37) rfl #[.agg #[.int .i64 a0_0, .int .i64 a0_1, .slice A0_2 l0_2.length c0_2, .slice A0_3 l0_3.length c0_3, .slice A0_4 l0_4.length c0_4]] rfl Try.func186 (spec_l10Ghosts.calls a0_0 a0_1 _ _ l0_2 _ _ l0_3 _ _ l0_4 t457 _ (HM.came HR0_2.out) HC0_2.out (HM.came HR0_3.out) HC0_3.out (HM.came HR0_4.out) HC0_4.out A26.out) ?_ (hargs := by (simp only [List.map_toArray, List.map_cons, List.map_nil, evc, eval_of e36]) <;> rfl)) (hw := wanted_on rfl rfl rfl (e32.trans (by first | rfl | (simp [*]; done))))
       rintro e w48 ⟨rfl, hR⟩
       refine ⟨_, rfl, ?_⟩
       replace HM := HM.call hR
       clear hR
       exact hK.out _ _ ⟨PUT ha 29 hb, (HM).pick [0]⟩
      refine SY ?_ ?_
      ·intro b a w ha HM hb hon hoff K hK
       have e35 := PE ha 27 hon
       have e37 := PE ha 29 hon
       have e32 := PE ha 24 hon
       exact VL (.bool (decide ((l0_4.length : Int) > t457))) (hK.out _ _ ⟨PUT ha 30 hb, HM⟩) (hw := wanted_on rfl rfl rfl (e32.trans (by first | rfl | (simp [*]; done))))
      refine SY ?_ ?_
      ·intro b a w ha HM hb hon hoff K hK
       have e32 := PE ha 24 hon
       have e38 := PE ha 30 hon
       exact VL (.bool (decide ((l0_4.length : Int) > t457))) (hK.out _ _ ⟨PUT ha 31 hb, HM⟩)
      exact steps_nil
     rintro _ w49 ⟨rfl, HM⟩
     simp only [putSel, if_true, Act.put, List.setIfInBounds_toArray, List.set_cons_zero, List.set_cons_succ, gt_iff_lt, ge_iff_le]
     have H' := Aside0.mk H
     clear H
     go_wp2
     go_meet
     case rel => exact ⟨_, (decide ((l0_4.length : Int) > t457)), RS, H', ⟨by first | omega | exact Nat.le_refl _⟩, (MD HM).pick [0]⟩
   ·subst c7
    refine RGN 32 [0, 1, 2, 3, 4, 5, 6, 7, 8, 9, 10, 11, 12, 13, 14, 15, 16, 17, 18, 19, 20, 21, 22, 23, 24, 25, 26, 27, 28, 29, 30, 31] (fun a0 b a w' => a = putSel a0 b [(0, 8, .pointer (some ⟨gb454, 0, none⟩)), (1, 9, .int .i64 a0_0), (2, 10, .bool true), (3, 11, .bool (!true)), (4, 12, .bool (!true)), (5, 13, .pointer (some ⟨gb454, 1, none⟩)), (6, 14, .int .i64 a0_1), (7, 15, .pointer (some ⟨gb454, 0, none⟩)), (8, 16, .int .i64 a0_0), (9, 17, .bool false), (10, 18, .bool (!false)), (11, 19, .bool (!false)), (12, 20, .bool (!false)), (13, 21, undef), (14, 22, undef), (15, 23, undef), (16, 24, undef), (17, 25, undef), (18, 26, undef), (19, 27, undef), (20, 28, undef), (21, 29, undef), (22, 30, undef), (23, 31, .bool true), (24, 32, .bool true), (25, 33, undef), (26, 34, undef), (27, 35, undef), (28, 36, undef), (29, 37, undef), (30, 38, undef), (31, 39, .bool true)] ∧ Mem w [] w' [box 32 gb454 [.int .i64 a0_0, .int .i64 a0_1, .slice A0_2 l0_2.length c0_2, .slice A0_3 l0_3.length c0_3, .slice A0_4 l0_4.length c0_4]]) spec_ThreeOk.tab1 spec_ThreeOk.bits1 ?_ ?_ ?_
    ·exact ⟨PS0' rfl _, (HM.drew).pick [0]⟩
    ·clear HM
     refine SY ?_ ?_
     ·intro b a w ha HM hb hon hoff K hK
      have e1 := PG ha 1
      exact VL (.pointer (some ⟨gb454, 0, none⟩)) (hK.out _ _ ⟨PUT ha 0 hb, HM⟩)
     refine SY ?_ ?_
     ·intro b a w ha HM hb hon hoff K hK
      obtain ⟨_,_,_,_,_,_,_,_,_,_⟩ := bk5 (HM.bx 0 rfl)
      have e8 := PE ha 0 hon
      exact VL (.int .i64 a0_0) (hK.out _ _ ⟨PUT ha 1 hb, HM⟩)
     refine SY ?_ ?_
     ·intro b a w ha HM hb hon hoff K hK
      have e9 := PE ha 1 hon
      refine ST (eC (some 10) rfl #[.int .i64 a0_0, .int .i64 1, .int .i64 60] rfl Try.func185 (spec_l01In.calls a0_0 1 60 true _ A4.out) ?_ (hargs := by (simp only [List.map_toArray, List.map_cons, List.map_nil, evc, eval_of e9]) <;> rfl))
      rintro e w56 ⟨rfl, hd⟩
      refine ⟨_, rfl, ?_⟩
      replace HM := HM.drawn hd
      clear hd
      exact hK.out _ _ ⟨PUT ha 2 hb, (HM).pick [0]⟩
     refine SY ?_ ?_
     ·intro b a w ha HM hb hon hoff K hK
      have e10 := PE ha 2 hon
      exact VL (.bool (!true)) (hK.out _ _ ⟨PUT ha 3 hb, HM⟩)
     refine SY ?_ ?_
     ·intro b a w ha HM hb hon hoff K hK
      have e11 := PE ha 3 hon
      exact VL (.bool (!true)) (hK.out _ _ ⟨PUT ha 4 hb, HM⟩)
     refine SY ?_ ?_
     ·intro b a w ha HM hb hon hoff K hK
      have e1 := PG ha 1
      have e12 := PE ha 4 hon
      exact VL (.pointer (some ⟨gb454, 1, none⟩)) (hK.out _ _ ⟨PUT ha 5 hb, HM⟩) (hw := wanted_on rfl rfl rfl (e12.trans (by first | rfl | (simp [*]; done))))
     refine SY ?_ ?_
     ·intro b a w ha HM hb hon hoff K hK
      obtain ⟨_,_,_,_,_,_,_,_,_,_⟩ := bk5 (HM.bx 0 rfl)
      have e13 := PE ha 5 hon
      have e12 := PE ha 4 hon
      exact VL (.int .i64 a0_1) (hK.out _ _ ⟨PUT ha 6 hb, HM⟩) (hw := wanted_on rfl rfl rfl (e12.trans (by first | rfl | (simp [*]; done))))
     refine SY ?_ ?_
     ·intro b a w ha HM hb hon hoff K hK
      have e1 := PG ha 1
      have e12 := PE ha 4 hon
      exact VL (.pointer (some ⟨gb454, 0, none⟩)) (hK.out _ _ ⟨PUT ha 7 hb, HM⟩) (hw := wanted_on rfl rfl rfl (e12.trans (by first | rfl | (simp [*]; done))))
     refine SY ?_ ?_
     ·intro b a w ha HM hb hon hoff K hK
      obtain ⟨_,_,_,_,_,_,_,_,_,_⟩ := bk5 (HM.bx 0 rfl)
      have e15 := PE ha 7 hon
      have e12 := PE ha 4 hon
      exact VL (.int .i64 a0_0) (hK.out _ _ ⟨PUT ha 8 hb, HM⟩) (hw := wanted_on rfl rfl rfl (e12.trans (by first | rfl | (simp [*]; done))))
     refine SY ?_ ?_
     ·intro b a w ha HM hb hon hoff K hK
      have e14 := PE ha 6 hon
      have e16 := PE ha 8 hon
      have e12 := PE ha 4 hon
      refine ST (eC (some 17) rfl #[.int .i64 a0_1, .int .i64 1, .int .i64 a0_0] rfl Try.func185 (spec_l01In.calls a0_1 1 a0_0 false _ A6.out) ?_ (hargs := by (simp only [List.map_toArray, List.map_cons, List.map_nil, evc, eval_of e14, eval_of e16]) <;> rfl)) (hw := wanted_on rfl rfl rfl (e12.trans (by first | rfl | (simp [*]; done))))
      rintro e w59 ⟨rfl, hd⟩
      refine ⟨_, rfl, ?_⟩
      replace HM := HM.drawn hd
      clear hd
      exact hK.out _ _ ⟨PUT ha 9 hb, (HM).pick [0]⟩
     refine SY ?_ ?_
     ·intro b a w ha HM hb hon hoff K hK
      have e17 := PE ha 9 hon
      have e12 := PE ha 4 hon
      exact VL (.bool (!false)) (hK.out _ _ ⟨PUT ha 10 hb, HM⟩) (hw := wanted_on rfl rfl rfl (e12.trans (by first | rfl | (simp [*]; done))))
     refine SY ?_ ?_
     ·intro b a w ha HM hb hon hoff K hK
      have e12 := PE ha 4 hon
      have e18 := PE ha 10 hon
      exact VL (.bool (!false)) (hK.out _ _ ⟨PUT ha 11 hb, HM⟩)
     refine SY ?_ ?_
     ·intro b a w ha HM hb hon hoff K hK
      have e19 := PE ha 11 hon
      exact VL (.bool (!false)) (hK.out _ _ ⟨PUT ha 12 hb, HM⟩)
     refine SY ?_ ?_
     ·intro b a w ha HM hb hon hoff K hK
      have e20 := PE ha 12 hon
      exact VN ( wanted_off rfl rfl rfl (e20.trans (by first | rfl | (simp [*]; done)))) (hK.out _ _ ⟨PUT ha 13 hb, HM⟩)
     refine SY ?_ ?_
     ·intro b a w ha HM hb hon hoff K hK
      have e20 := PE ha 12 hon
      exact VN ( wanted_off rfl rfl rfl (e20.trans (by first | rfl | (simp [*]; done)))) (hK.out _ _ ⟨PUT ha 14 hb, HM⟩)
     refine SY ?_ ?_
     ·intro b a w ha HM hb hon hoff K hK
      have e20 := PE ha 12 hon
      exact VN ( wanted_off rfl rfl rfl (e20.trans (by first | rfl | (simp [*]; done)))) (hK.out _ _ ⟨PUT ha 15 hb, HM⟩)
     refine SY ?_ ?_
     ·intro b a w ha HM hb hon hoff K hK
      have e20 := PE ha 12 hon
      exact VN ( wanted_off rfl rfl rfl (e20.trans (by first | rfl | (simp [*]; done)))) (hK.out _ _ ⟨PUT ha 16 hb, HM⟩)
     refine SY ?_ ?_
     ·intro b a w ha HM hb hon hoff K hK
      have e20 := PE ha 12 hon
      exact VN ( wanted_off rfl rfl rfl (e20.trans (by first | rfl | (simp [*]; done)))) (hK.out _ _ ⟨PUT ha 17 hb, HM⟩)
     refine SY ?_ ?_
     ·intro b a w ha HM hb hon hoff K hK
      have e20 := PE ha 12 hon
      exact VN ( wanted_off rfl rfl rfl (e20.trans (by first | rfl | (simp [*]; done)))) (hK.out _ _ ⟨PUT ha 18 hb, HM⟩)
     refine SY ?_ ?_
     ·intro b a w ha HM hb hon hoff K hK
      have e20 := PE ha 12 hon
      exact VN ( wanted_off rfl rfl rfl (e20.trans (by first | rfl | (simp [*]; done)))) (hK.out _ _ ⟨PUT ha 19 hb, HM⟩)
     refine SY ?_ ?_
     ·intro b a w ha HM hb hon hoff K hK
      have e20 := PE ha 12 hon
      exact VN ( wanted_off rfl rfl rfl (e20.trans (by first | rfl | (simp [*]; done)))) (hK.out _ _ ⟨PUT ha 20 hb, HM⟩)
     refine SY ?_ ?_
     ·intro b a w ha HM hb hon hoff K hK
      have e20 := PE ha 12 hon
      exact VN ( wanted_off rfl rfl rfl (e20.trans (by first | rfl | (simp [*]; done)))) (hK.out _ _ ⟨PUT ha 21 hb, HM⟩)
     refine SY ?_ ?_
     ·intro b a w ha HM hb hon hoff K hK
      have e20 := PE ha 12 hon
      exact VN ( wanted_off rfl rfl rfl (e20.trans (by first | rfl | (simp [*]; done)))) (hK.out _ _ ⟨PUT ha 22 hb, HM⟩)
     refine SY ?_ ?_
     ·intro b a w ha HM hb hon hoff K hK
      have e20 := PE ha 12 hon
      have e30 := PE ha 22 hon
      exact VL (.bool true) (hK.out _ _ ⟨PUT ha 23 hb, HM⟩)
     refine SY ?_ ?_
     ·intro b a w ha HM hb hon hoff K hK
      have e31 := PE ha 23 hon
      exact VL (.bool true) (hK.out _ _ ⟨PUT ha 24 hb, HM⟩)
     refine SY ?_ ?_
     ·intro b a w ha HM hb hon hoff K hK
      have e32 := PE ha 24 hon
      exact VN ( wanted_off rfl rfl rfl (e32.trans (by first | rfl | (simp [*]; done)))) (hK.out _ _ ⟨PUT ha 25 hb, HM⟩)
     refine SY ?_ ?_
     ·intro b a w ha HM hb hon hoff K hK
      have e32 := PE ha 24 hon
      exact VN ( wanted_off rfl rfl rfl (e32.trans (by first | rfl | (simp [*]; done)))) (hK.out _ _ ⟨PUT ha 26 hb, HM⟩)
     refine SY ?_ ?_
     ·intro b a w ha HM hb hon hoff K hK
      have e32 := PE ha 24 hon
      exact VN ( wanted_off rfl rfl rfl (e32.trans (by first | rfl | (simp [*]; done)))) (hK.out _ _ ⟨PUT ha 27 hb, HM⟩)
     refine SY ?_ ?_
     ·intro b a w ha HM hb hon hoff K hK
      have e32 := PE ha 24 hon
      exact VN ( wanted_off rfl rfl rfl (e32.trans (by first | rfl | (simp [*]; done)))) (hK.out _ _ ⟨PUT ha 28 hb, HM⟩)
     refine SY ?_ ?_
     ·intro b a w ha HM hb hon hoff K hK
      have e32 := PE ha 24 hon
      exact VN ( wanted_off rfl rfl rfl (e32.trans (by first | rfl | (simp [*]; done)))) (hK.out _ _ ⟨PUT ha 29 hb, HM⟩)
     refine SY ?_ ?_
     ·intro b a w ha HM hb hon hoff K hK
      have e32 := PE ha 24 hon
      exact VN ( wanted_off rfl rfl rfl (e32.trans (by first | rfl | (simp [*]; done)))) (hK.out _ _ ⟨PUT ha 30 hb, HM⟩)
     refine SY ?_ ?_
     ·intro b a w ha HM hb hon hoff K hK
      have e32 := PE ha 24 hon
      have e38 := PE ha 30 hon
      exact VL (.bool true) (hK.out _ _ ⟨PUT ha 31 hb, HM⟩)
     exact steps_nil
    rintro _ w60 ⟨rfl, HM⟩
    simp only [putSel, if_true, Act.put, List.setIfInBounds_toArray, List.set_cons_zero, List.set_cons_succ, gt_iff_lt, ge_iff_le]
    have H' := Aside0.mk H
    clear H
    go_wp2
    go_meet
    case rel => exact ⟨_, (true), RS, H', ⟨by first | omega | exact Nat.le_refl _⟩, (MD HM).pick [0]⟩
  ·subst c5
   refine RGN 32 [0, 1, 2, 3, 4, 5, 6, 7, 8, 9, 10, 11, 12, 13, 14, 15, 16, 17, 18, 19, 20, 21, 22, 23, 24, 25, 26, 27, 28, 29, 30, 31] (fun a0 b a w' => a = putSel a0 b [(0, 8, .pointer (some ⟨gb454, 0, none⟩)), (1, 9, .int .i64 a0_0), (2, 10, .bool false), (3, 11, .bool (!false)), (4, 12, .bool (!false)), (5, 13, undef), (6, 14, undef), (7, 15, undef), (8, 16, undef), (9, 17, undef), (10, 18, undef), (11, 19, .bool true), (12, 20, .bool true), (13, 21, undef), (14, 22, undef), (15, 23, undef), (16, 24, undef), (17, 25, undef), (18, 26, undef), (19, 27, undef), (20, 28, undef), (21, 29, undef), (22, 30, undef), (23, 31, .bool true), (24, 32, .bool true), (25, 33, undef), (26, 34, undef), (27, 35, undef), (28, 36, undef), (29, 37, undef), (30, 38, undef), (31, 39, .bool true)] ∧ Mem w [] w' [box 32 gb454 [.int .i64 a0_0, .int .i64 a0_1, .slice A0_2 l0_2.length c0_2, .slice A0_3 l0_3.length c0_3, .slice A0_4 l0_4.length c0_4]]) spec_ThreeOk.tab1 spec_ThreeOk.bits1 ?_ ?_ ?_
   ·exact ⟨PS0' rfl _, (HM.drew).pick [0]⟩
   ·clear HM
    refine SY ?_ ?_
    ·intro b a w ha HM hb hon hoff K hK
     have e1 := PG ha 1
     exact VL (.pointer (some ⟨gb454, 0, none⟩)) (hK.out _ _ ⟨PUT ha 0 hb, HM⟩)
    refine SY ?_ ?_
    ·intro b a w ha HM hb hon hoff K hK
     obtain ⟨_,_,_,_,_,_,_,_,_,_⟩ := bk5 (HM.bx 0 rfl)
     have e8 := PE ha 0 hon
     exact VL (.int .i64 a0_0) (hK.out _ _ ⟨PUT ha 1 hb, HM⟩)
    refine SY ?_ ?_
    ·intro b a w ha HM hb hon hoff K hK
     have e9 := PE ha 1 hon
     refine ST (eC (some 10) rfl #[.int .i64 a0_0, .int .i64 1, .int .i64 60] rfl Try.func185 (spec_l01In.calls a0_0 1 60 false _ A4.out) ?_ (hargs := by (simp only [List.map_toArray, List.map_cons, List.map_nil, evc, eval_of e9]) <;> rfl))
     rintro e w64 ⟨rfl, hd⟩
     refine ⟨_, rfl, ?_⟩
     replace HM := HM.drawn hd
     clear hd
     exact hK.out _ _ ⟨PUT ha 2 hb, (HM).pick [0]⟩
    refine SY ?_ ?_
    ·intro b a w ha HM hb hon hoff K hK
     have e10 := PE ha 2 hon
     exact VL (.bool (!false)) (hK.out _ _ ⟨PUT ha 3 hb, HM⟩)
    refine SY ?_ ?_
    ·intro b a w ha HM hb hon hoff K hK
     have e11 := PE ha 3 hon
     exact VL (.bool (!false)) (hK.out _ _ ⟨PUT ha 4 hb, HM⟩)
    refine SY ?_ ?_
    ·intro b a w ha HM hb hon hoff K hK
     have e12 := PE ha 4 hon
     exact VN ( wanted_off rfl rfl rfl (e12.trans (by first | rfl | (simp [*]; done)))) (hK.out _ _ ⟨PUT ha 5 hb, HM⟩)
    refine SY ?_ ?_
    ·intro b a w ha HM hb hon hoff K hK
     have e12 := PE ha 4 hon
     exact VN ( wanted_off rfl rfl rfl (e12.trans (by first | rfl | (simp [*]; done)))) (hK.out _ _ ⟨PUT ha 6 hb, HM⟩)
    refine SY ?_ ?_
    ·intro b a w ha HM hb hon hoff K hK
     have e12 := PE ha 4 hon
     exact VN ( wanted_off rfl rfl rfl (e12.trans (by first | rfl | (simp [*]; done)))) (hK.out _ _ ⟨PUT ha 7 hb, HM⟩)
    refine SY ?_ ?_
    ·intro b a w ha HM hb hon hoff K hK
     have e12 := PE ha 4 hon
     exact VN ( wanted_off rfl rfl rfl (e12.trans (by first | rfl | (simp [*]; done)))) (hK.out _ _ ⟨PUT ha 8 hb, HM⟩)
    refine SY ?_ ?_
    ·intro b a w ha HM hb hon hoff K hK
     have e12 := PE ha 4 hon
     exact VN ( wanted_off rfl rfl rfl (e12.trans (by first | rfl | (simp [*]; done)))) (hK.out _ _ ⟨PUT ha 9 hb, HM⟩)
    refine SY ?_ ?_
    ·intro b a w ha HM hb hon hoff K hK
     have e12 := PE ha 4 hon
     exact VN ( wanted_off rfl rfl rfl (e12.trans (by first | rfl | (simp [*]; done)))) (hK.out _ _ ⟨PUT ha 10 hb, HM⟩)
    refine SY ?_ ?_
    ·intro b a w ha HM hb hon hoff K hK
     have e12 := PE ha 4 hon
     have e18 := PE ha 10 hon
     exact VL (.bool true) (hK.out _ _ ⟨PUT ha 11 hb, HM⟩)
    refine SY ?_ ?_
    ·intro b a w ha HM hb hon hoff K hK
     have e19 := PE ha 11 hon
     exact VL (.bool true) (hK.out _ _ ⟨PUT ha 12 hb, HM⟩)
    refine SY ?_ ?_
    ·intro b a w ha HM hb hon hoff K hK
     have e20 := PE ha 12 hon
     exact VN ( wanted_off rfl rfl rfl (e20.trans (by first | rfl | (simp [*]; done)))) (hK.out _ _ ⟨PUT ha 13 hb, HM⟩)
    refine SY ?_ ?_
    ·intro b a w ha HM hb hon hoff K hK
     have e20 := PE ha 12 hon
     exact VN ( wanted_off rfl rfl rfl (e20.trans (by first | rfl | (simp [*]; done)))) (hK.out _ _ ⟨PUT ha 14 hb, HM⟩)
    refine SY ?_ ?_
    ·intro b a w ha HM hb hon hoff K hK
     have e20 := PE ha 12 hon
     exact VN ( wanted_off rfl rfl rfl (e20.trans (by first | rfl | (simp [*]; done)))) (hK.out _ _ ⟨PUT ha 15 hb, HM⟩)
    refine SY ?_ ?_
    ·intro b a w ha HM hb hon hoff K hK
     have e20 := PE ha 12 hon
     exact VN ( wanted_off rfl rfl rfl (e20.trans (by first | rfl | (simp [*]; done)))) (hK.out _ _ ⟨PUT ha 16 hb, HM⟩)
    refine SY ?_ ?_
    ·intro b a w ha HM hb hon hoff K hK
     have e20 := PE ha 12 hon
     exact VN ( wanted_off rfl rfl rfl (e20.trans (by first | rfl | (simp [*]; done)))) (hK.out _ _ ⟨PUT ha 17 hb, HM⟩)
    refine SY ?_ ?_
    ·intro b a w ha HM hb hon hoff K hK
     have e20 := PE ha 12 hon
     exact VN ( wanted_off rfl rfl rfl (e20.trans (by first | rfl | (simp [*]; done)))) (hK.out _ _ ⟨PUT ha 18 hb, HM⟩)
    refine SY ?_ ?_
    ·intro b a w ha HM hb hon hoff K hK
     have e20 := PE ha 12 hon
     exact VN ( wanted_off rfl rfl rfl (e20.trans (by first | rfl | (simp [*]; done)))) (hK.out _ _ ⟨PUT ha 19 hb, HM⟩)
    refine SY ?_ ?_
    ·intro b a w ha HM hb hon hoff K hK
     have e20 := PE ha 12 hon
     exact VN ( wanted_off rfl rfl rfl (e20.trans (by first | rfl | (simp [*]; done)))) (hK.out _ _ ⟨PUT ha 20 hb, HM⟩)
    refine SY ?_ ?_
    ·intro b a w ha HM hb hon hoff K hK
     have e20 := PE ha 12 hon
     exact VN ( wanted_off rfl rfl rfl (e20.trans (by first | rfl | (simp [*]; done)))) (hK.out _ _ ⟨PUT ha 21 hb, HM⟩)
    refine SY ?_ ?_
    ·intro b a w ha HM hb hon hoff K hK
     have e20 := PE ha 12 hon
     exact VN ( wanted_off rfl rfl rfl (e20.trans (by first | rfl | (simp [*]; done)))) (hK.out _ _ ⟨PUT ha 22 hb, HM⟩)
    refine SY ?_ ?_
    ·intro b a w ha HM hb hon hoff K hK
     have e20 := PE ha 12 hon
     have e30 := PE ha 22 hon
     exact VL (.bool true) (hK.out _ _ ⟨PUT ha 23 hb, HM⟩)
    refine SY ?_ ?_
    ·intro b a w ha HM hb hon hoff K hK
     have e31 := PE ha 23 hon
     exact VL (.bool true) (hK.out _ _ ⟨PUT ha 24 hb, HM⟩)
    refine SY ?_ ?_
    ·intro b a w ha HM hb hon hoff K hK
     have e32 := PE ha 24 hon
     exact VN ( wanted_off rfl rfl rfl (e32.trans (by first | rfl | (simp [*]; done)))) (hK.out _ _ ⟨PUT ha 25 hb, HM⟩)
    refine SY ?_ ?_
    ·intro b a w ha HM hb hon hoff K hK
     have e32 := PE ha 24 hon
     exact VN ( wanted_off rfl rfl rfl (e32.trans (by first | rfl | (simp [*]; done)))) (hK.out _ _ ⟨PUT ha 26 hb, HM⟩)
    refine SY ?_ ?_
    ·intro b a w ha HM hb hon hoff K hK
     have e32 := PE ha 24 hon
     exact VN ( wanted_off rfl rfl rfl (e32.trans (by first | rfl | (simp [*]; done)))) (hK.out _ _ ⟨PUT ha 27 hb, HM⟩)
    refine SY ?_ ?_
    ·intro b a w ha HM hb hon hoff K hK
     have e32 := PE ha 24 hon
     exact VN ( wanted_off rfl rfl rfl (e32.trans (by first | rfl | (simp [*]; done)))) (hK.out _ _ ⟨PUT ha 28 hb, HM⟩)
    refine SY ?_ ?_
    ·intro b a w ha HM hb hon hoff K hK
     have e32 := PE ha 24 hon
     exact VN ( wanted_off rfl rfl rfl (e32.trans (by first | rfl | (simp [*]; done)))) (hK.out _ _ ⟨PUT ha 29 hb, HM⟩)
    refine SY ?_ ?_
    ·intro b a w ha HM hb hon hoff K hK
     have e32 := PE ha 24 hon
     exact VN ( wanted_off rfl rfl rfl (e32.trans (by first | rfl | (simp [*]; done)))) (hK.out _ _ ⟨PUT ha 30 hb, HM⟩)
    refine SY ?_ ?_
    ·intro b a w ha HM hb hon hoff K hK
     have e32 := PE ha 24 hon
     have e38 := PE ha 30 hon
     exact VL (.bool true) (hK.out _ _ ⟨PUT ha 31 hb, HM⟩)
    exact steps_nil
   rintro _ w65 ⟨rfl, HM⟩
   simp only [putSel, if_true, Act.put, List.setIfInBounds_toArray, List.set_cons_zero, List.set_cons_succ, gt_iff_lt, ge_iff_le]
   have H' := Aside0.mk H
   clear H
   go_wp2
   go_meet
   case rel => exact ⟨_, (true), RS, H', ⟨by first | omega | exact Nat.le_refl _⟩, (MD HM).pick [0]⟩
 case rest =>
  clear HC3 HM
  obtain ⟨kq, x39_2, rfl, HA, HJ2, HM⟩ := hcut
  cases kq with
  | zero => exact absurd HA.out (by simp [spec_ThreeOk.j0])
  | succ kj2 =>
   have H := HA.out
   clear HA
   simp only [spec_ThreeOk.j0] at H
   go_upto_if 39 with (fail)
   replace H := IB H
   rcases H with ⟨c66, H⟩ | ⟨c66, H⟩
   ·subst c66
    obtain rfl := Option.some.inj H
    go_wp2
    go_ret
    exact ⟨ER, (MD HM).pick []⟩
   ·subst c66
    try go_wp2
    replace H := BLt H; obtain ⟨y458, Ny458, H⟩ := H
    replace Ny458 := Aside0.mk Ny458
    replace H := GD H; obtain ⟨c67, H⟩ := H
    have LMc67 := Aside0.mk c67
    clear c67
    replace H := BLt H; obtain ⟨y461, Ny461, H⟩ := H
    replace Ny461 := Aside0.mk Ny461
    replace H := GD H; obtain ⟨c68, H⟩ := H
    have LMc68 := Aside0.mk c68
    clear c68
    replace H := BLt H; obtain ⟨y464, Ny464, H⟩ := H
    replace Ny464 := Aside0.mk Ny464
    refine RGN 8 [0, 1, 2, 3, 4, 5, 6, 7] (fun a0 b a w' => ∃ (v459 : Value) (v462 : Value) (v465 : Value), a = putSel a0 b [(0, 40, v459), (1, 41, .pointer (some ⟨gb454, 2, none⟩)), (2, 42, .slice A0_2 l0_2.length c0_2), (3, 43, v462), (4, 44, .pointer (some ⟨gb454, 3, none⟩)), (5, 45, .slice A0_3 l0_3.length c0_3), (6, 46, v465), (7, 3, v465)] ∧ Mem w [] w' [box 32 gb454 [.int .i64 a0_0, .int .i64 a0_1, .slice A0_2 l0_2.length c0_2, .slice A0_3 l0_3.length c0_3, .slice A0_4 l0_4.length c0_4], sel (b 6) (rowR k122 122 v465 y464) (sel (b 3) (rowR k122 122 v462 y461) (sel (b 0) (rowR k122 122 v459 y458) (emp)))]) spec_ThreeOk.tab3 spec_ThreeOk.bits3 ?_ ?_ ?_
    ·exact ⟨.bool false, .bool false, .bool false, PS0' rfl _, (HM.drew.ems 1).pick [0, 1]⟩
    ·clear HM
     refine SZ ?_ ?_
     ·rintro b a w ⟨v459, v462, v465, ha, HM⟩ hb hon hoff K hK
      replace ha := Aside0.mk ha
      refine ST (eL 40 k122 122 ([] : List (S122)) [] (Reps.none _ _) HM rfl ?_)
      clear HM
      intro v459 w74 HM
      replace HM := HM.nm 2 rfl Ny458.out
      exact hK.out _ _ ⟨v459, v462, v465, PUT ha 0 hb, ((HM.iF 2 rfl (hoff 3 rfl)).iF 2 rfl (hoff 6 rfl)).pick [0, 2]⟩
     refine SZ ?_ ?_
     ·rintro b a w ⟨v459, v462, v465, ha, HM⟩ hb hon hoff K hK
      replace ha := Aside0.mk ha
      have e1 := PG ha 1
      exact VL (.pointer (some ⟨gb454, 2, none⟩)) (hK.out _ _ ⟨v459, v462, v465, PUT ha 1 hb, HM⟩)
     refine SZ ?_ ?_
     ·rintro b a w ⟨v459, v462, v465, ha, HM⟩ hb hon hoff K hK
      replace ha := Aside0.mk ha
      obtain ⟨_,_,_,_,_,_,_,_,_,_⟩ := bk5 (HM.bx 0 rfl)
      have e41 := PE ha 1 hon
      exact VL (.slice A0_2 l0_2.length c0_2) (hK.out _ _ ⟨v459, v462, v465, PUT ha 2 hb, HM⟩)
     refine SZ ?_ ?_
     ·rintro b a w ⟨v459, v462, v465, ha, HM⟩ hb hon hoff K hK
      replace ha := Aside0.mk ha
      replace HM := ((HM.sF 1 rfl (hoff 6 rfl)).sF 1 rfl hb).sT 1 rfl (hon 0 rfl)
      have e40 := PE ha 0 hon
      have e42 := PE ha 2 hon
      refine ST (eA 1 (.tmp 40) (.tmp 42) 29 122 k122 v459 y458 l0_2 A0_2 l0_2.length c0_2 HM rfl Try.underlying29 info122 rfl (HM.came HR0_2.out) (by have h_ := LMc67.out; omega) ?_ (ops := #[]) (hw := by rfl) (hs := (eval_of e40)) (hx := (eval_of e42)))
      clear HM
      intro v462 w76 HM
      replace HM := HM.nm 1 rfl Ny461.out
      exact hK.out _ _ ⟨v459, v462, v465, PUT ha 3 hb, (HM.iF 1 rfl (hoff 6 rfl)).pick [0, 1]⟩
     refine SZ ?_ ?_
     ·rintro b a w ⟨v459, v462, v465, ha, HM⟩ hb hon hoff K hK
      replace ha := Aside0.mk ha
      have e1 := PG ha 1
      exact VL (.pointer (some ⟨gb454, 3, none⟩)) (hK.out _ _ ⟨v459, v462, v465, PUT ha 4 hb, HM⟩)
     refine SZ ?_ ?_
     ·rintro b a w ⟨v459, v462, v465, ha, HM⟩ hb hon hoff K hK
      replace ha := Aside0.mk ha
      obtain ⟨_,_,_,_,_,_,_,_,_,_⟩ := bk5 (HM.bx 0 rfl)
      have e44 := PE ha 4 hon
      exact VL (.slice A0_3 l0_3.length c0_3) (hK.out _ _ ⟨v459, v462, v465, PUT ha 5 hb, HM⟩)
     refine SZ ?_ ?_
     ·rintro b a w ⟨v459, v462, v465, ha, HM⟩ hb hon hoff K hK
      replace ha := Aside0.mk ha
      replace HM := (HM.sF 1 rfl hb).sT 1 rfl (hon 3 rfl)
      have e43 := PE ha 3 hon
      have e45 := PE ha 5 hon
      refine ST (eA 1 (.tmp 43) (.tmp 45) 29 122 k122 v462 y461 l0_3 A0_3 l0_3.length c0_3 HM rfl Try.underlying29 info122 rfl (HM.came HR0_3.out) (by have h_ := LMc68.out; omega) ?_ (ops := #[]) (hw := by rfl) (hs := (eval_of e43)) (hx := (eval_of e45)))
      clear HM
      intro v465 w78 HM
      replace HM := HM.nm 1 rfl Ny464.out
      exact hK.out _ _ ⟨v459, v462, v465, PUT (PCH ha 7 (hoff 7 rfl)) 6 hb, (HM).pick [0, 1]⟩
     refine SZ ?_ ?_
     ·rintro b a w ⟨v459, v462, v465, ha, HM⟩ hb hon hoff K hK
      replace ha := Aside0.mk ha
      have e46 := PE ha 6 hon
      exact VL (v465) (hK.out _ _ ⟨v459, v462, v465, PUT ha 7 hb, HM⟩)
     exact steps_nil
    rintro _ w79 ⟨v459, v462, v465, rfl, HM⟩
    replace HM := HM.sT 1 rfl rfl
    simp only [putSel, if_true, Act.put, List.setIfInBounds_toArray, List.set_cons_zero, List.set_cons_succ, gt_iff_lt, ge_iff_le]
    have H' := Aside0.mk H
    clear H
    obtain ⟨Xo80, ko80, rfl⟩ := HM.rdR 1 rfl
    go_wp2
    go_loopg [49] kj2 (fun kq v49 w' => ∃ (x49_2 : Int), v49 = .int .i64 x49_2 ∧ Aside0 (spec_ThreeOk.l0 kq y464 y464 (y464.length : Int) x49_2 a0_0 a0_1 l0_2 l0_3 l0_4 = some r) ∧ Aside0 (kq ≤ kj2) ∧ Mem w [] w' [rowR k122 122 (.slice Xo80 y464.length ko80) y464, box 32 gb454 [.int .i64 a0_0, .int .i64 a0_1, .slice A0_2 l0_2.length c0_2, .slice A0_3 l0_3.length c0_3, .slice A0_4 l0_4.length c0_4]])
    case atStart => exact ⟨(0), RS, H', ⟨Nat.le_refl _⟩, (MD HM).pick [1, 0]⟩
    case round =>
     clear H' HM
     obtain ⟨x49_2, rfl, HA, HK2, HM⟩ := hrel
     cases gk with
     | zero => exact absurd HA.out (by simp [spec_ThreeOk.l0])
     | succ k2 =>
      have H := HA.out
      clear HA
      simp only [spec_ThreeOk.l0] at H
      go_upto_if 50 with (fail)
      replace H := IT H; rcases H with ⟨c81, H⟩ | ⟨c81, H⟩
      ·have c81b0 := decide_eq_true c81
       clear c81
       first|rw [c81b0]|(simp only [i64_w, i32_w]; rw [c81b0])|skip
       replace H := GD H; obtain ⟨c82, H⟩ := H
       have c82b0 := decide_eq_true c82
       clear c82
       replace H := GD H; obtain ⟨c83, H⟩ := H
       have c83b0 := decide_eq_true c83
       clear c83
       replace H := BN H; obtain ⟨t469, A87, H⟩ := H
       replace H := IB H
       rcases H with ⟨c89, H⟩ | ⟨c89, H⟩
       ·subst c89
        replace H := BN H; obtain ⟨t470, A91, H⟩ := H
        have p467 : 0 ≤ (x49_2 : Int) := of_decide_eq_true AS
        have q467 : (x49_2 : Int) < (y464.length : Int) := of_decide_eq_true AS
        obtain ⟨ad467, e467, hx467_0, hx467_1, hx467_2⟩ := at_T122 (HM.CR 0 rfl).2.2 x49_2 p467 q467
        cases e467
        replace p467 := eq_true p467
        replace q467 := eq_true q467
        go_upto_if 64 with (first | ((with_reducible refine gN 5 rfl ?_); refine pB 5 122 [.string (⟨#[]⟩ : ByteArray), .string (⟨#[]⟩ : ByteArray), .int .i64 0] HM rfl ?_; clear HM; intro gb468 w84 HM) | ((with_reducible refine gS 5 rfl ?_); refine pS 2 5 0 [.string ((rd_T122 y464 x49_2).f0), .string ((rd_T122 y464 x49_2).f1), .int .i64 ((rd_T122 y464 x49_2).f2)] HM rfl rfl ?_; clear HM; intro w85 HM; obtain ⟨_,_,_,_,_,_⟩ := bk3 (HM.bx 2 rfl)) | ((with_reducible refine gC 149 rfl ?_); refine pC (some 55) rfl #[.agg #[.string ((rd_T122 y464 x49_2).f0), .string ((rd_T122 y464 x49_2).f1), .int .i64 ((rd_T122 y464 x49_2).f2)]] rfl Try.func149 (spec_ItemOk.calls k2 ((rd_T122 y464 x49_2).f0) ((rd_T122 y464 x49_2).f1) ((rd_T122 y464 x49_2).f2) true _ A87.out) ?_; rintro e w88 ⟨rfl, hR⟩; refine ⟨_, rfl, ?_⟩; replace HM := HM.call hR; clear hR; obtain ⟨_,_,_,_,_,_⟩ := bk3 (HM.bx 2 rfl)) | ((with_reducible refine gC 187 rfl ?_); refine pC (some 61) rfl #[.slice (some ad467) y464.length ko80, .string ((rd_T122 y464 x49_2).f0)] rfl Try.func187 (spec_l10At.calls k2 _ _ y464 ((rd_T122 y464 x49_2).f0) t470 _ (HM.CR 0 rfl).2.2 (HM.CR 0 rfl).2.1 A91.out) ?_; rintro e w92 ⟨rfl, hR⟩; refine ⟨_, rfl, ?_⟩; replace HM := HM.call hR; clear hR))
        replace HM := nzM HM
        replace H := IT H; rcases H with ⟨c93, H⟩ | ⟨c93, H⟩
        ·obtain ⟨c93b0, c93b1⟩ := BE c93
         clear c93
         first|rw [c93b0]|(simp only [i64_w, i32_w]; rw [c93b0])|skip
         have H' := Aside0.mk H
         clear H
         go_wp2
         go_roundg k2
         case measure => have := HJ2.out; have := HK2.out; omega
         case rel => exact ⟨(wrap64 (x49_2 + 1)), RS, H', ⟨by have := HJ2.out; have := HK2.out; omega⟩, (MD HM).pick [0, 1]⟩
        ·obtain ⟨c93b0, c93b1⟩ := BF c93
         first|rw [c93b0]|(simp only [i64_w, i32_w]; rw [c93b0])|skip
         obtain rfl := Option.some.inj H
         go_wp2
         go_ret
         exact ⟨ER, (MD HM).pick []⟩
       ·subst c89
        obtain rfl := Option.some.inj H
        have p467 : 0 ≤ (x49_2 : Int) := of_decide_eq_true AS
        have q467 : (x49_2 : Int) < (y464.length : Int) := of_decide_eq_true AS
        obtain ⟨ad467, e467, hx467_0, hx467_1, hx467_2⟩ := at_T122 (HM.CR 0 rfl).2.2 x49_2 p467 q467
        cases e467
        replace p467 := eq_true p467
        replace q467 := eq_true q467
        go_wp2_with (first | ((with_reducible refine gN 5 rfl ?_); refine pB 5 122 [.string (⟨#[]⟩ : ByteArray), .string (⟨#[]⟩ : ByteArray), .int .i64 0] HM rfl ?_; clear HM; intro gb468 w84 HM) | ((with_reducible refine gS 5 rfl ?_); refine pS 2 5 0 [.string ((rd_T122 y464 x49_2).f0), .string ((rd_T122 y464 x49_2).f1), .int .i64 ((rd_T122 y464 x49_2).f2)] HM rfl rfl ?_; clear HM; intro w85 HM; obtain ⟨_,_,_,_,_,_⟩ := bk3 (HM.bx 2 rfl)) | ((with_reducible refine gC 149 rfl ?_); refine pC (some 55) rfl #[.agg #[.string ((rd_T122 y464 x49_2).f0), .string ((rd_T122 y464 x49_2).f1), .int .i64 ((rd_T122 y464 x49_2).f2)]] rfl Try.func149 (spec_ItemOk.calls k2 ((rd_T122 y464 x49_2).f0) ((rd_T122 y464 x49_2).f1) ((rd_T122 y464 x49_2).f2) false _ A87.out) ?_; rintro e w88 ⟨rfl, hR⟩; refine ⟨_, rfl, ?_⟩; replace HM := HM.call hR; clear hR))
        go_ret
        exact ⟨ER, (MD HM).pick []⟩
      ·have c81b0 := decide_eq_false c81
       clear c81
       first|rw [c81b0]|(simp only [i64_w, i32_w]; rw [c81b0])|skip
       have H' := Aside0.mk H
       clear H
       obtain ⟨_,_,_,_,_,_,_,_,_,_⟩ := bk5 (HM.bx 1 rfl)
       go_wp2
       go_loopg [69] k2 (fun kq v69 w' => ∃ (x69_3 : Int), v69 = .int .i64 x69_3 ∧ Aside0 (spec_ThreeOk.l1 kq l0_4 (l0_4.length : Int) x69_3 a0_0 a0_1 l0_2 l0_3 l0_4 = some r) ∧ Aside0 (kq ≤ k2) ∧ Mem w [] w' [box 32 gb454 [.int .i64 a0_0, .int .i64 a0_1, .slice A0_2 l0_2.length c0_2, .slice A0_3 l0_3.length c0_3, .slice A0_4 l0_4.length c0_4]])
       case atStart => exact ⟨(0), RS, H', ⟨Nat.le_refl _⟩, (MD HM).pick [1]⟩
       case round =>
        clear H' HM
        obtain ⟨x69_3, rfl, HA, HK3, HM⟩ := hrel
        cases gk with
        | zero => exact absurd HA.out (by simp [spec_ThreeOk.l1])
        | succ k3 =>
         have H := HA.out
         clear HA
         simp only [spec_ThreeOk.l1] at H
         go_upto_if 70 with (fail)
         replace H := IT H; rcases H with ⟨c95, H⟩ | ⟨c95, H⟩
         ·have c95b0 := decide_eq_true c95
          clear c95
          first|rw [c95b0]|(simp only [i64_w, i32_w]; rw [c95b0])|skip
          replace H := GD H; obtain ⟨c96, H⟩ := H
          have c96b0 := decide_eq_true c96
          clear c96
          replace H := GD H; obtain ⟨c97, H⟩ := H
          have c97b0 := decide_eq_true c97
          clear c97
          replace H := BN H; obtain ⟨t472, A98, H⟩ := H
          replace H := IB H
          rcases H with ⟨c100, H⟩ | ⟨c100, H⟩
          ·subst c100
           have c102b0 := eq_true (of_decide_eq_true AS : 0 ≤ x69_3)
           replace H := GD H; obtain ⟨c103, H⟩ := H
           have c103b0 := eq_true c103
           have c103b1 : decide (x69_3 ≤ (l0_4.length : Int)) = true := decide_eq_true c103
           clear c103
           replace H := BN H; obtain ⟨t474, A105, H⟩ := H
           have p471 : 0 ≤ (x69_3 : Int) := of_decide_eq_true AS
           have q471 : (x69_3 : Int) < (l0_4.length : Int) := of_decide_eq_true AS
           obtain ⟨ad471, e471, hx471_0⟩ := Kd.at_int (HM.came HR0_4.out) x69_3 p471 q471
           cases e471
           replace p471 := eq_true p471
           replace q471 := eq_true q471
           go_upto_if 84 with (first | ((with_reducible refine gC 164 rfl ?_); refine pC (some 75) rfl #[.int .i64 (rd l0_4 x69_3)] rfl Try.func164 (spec_l01Num.calls (rd l0_4 x69_3) true _ A98.out) ?_; rintro e w99 ⟨rfl, hd⟩; refine ⟨_, rfl, ?_⟩; replace HM := HM.drawn hd; clear hd; obtain ⟨_,_,_,_,_,_,_,_,_,_⟩ := bk5 (HM.bx 0 rfl)) | ((with_reducible refine gate_sl (t := 30) rfl ?_); refine pRtf 30 3 (Kd.int .i64) _ _ x69_3 l0_4 (some ad471) c0_4 rfl Try.underlying30 info3 HC0_4.out (of_decide_eq_true AS) (of_decide_eq_true AS) ?_; intro Yx104 bx104 hYx104 hbx104; have HYx104 := Aside0.mk hYx104; have HBx104 := Aside0.mk hbx104; clear hYx104 hbx104; have hlx104 : (l0_4.take (x69_3 : Int).toNat).length = (x69_3 : Int).toNat := by rw [List.length_take]; have h_ : (x69_3 : Int) ≤ ((l0_4.length : Int) : Int) := of_decide_eq_true AS; omega) | ((with_reducible refine gC 188 rfl ?_); refine pC (some 83) rfl #[.slice Yx104 (l0_4.take (x69_3 : Int).toNat).length bx104, .int .i64 (rd l0_4 x69_3)] rfl Try.func188 (spec_l03Has.calls k3 _ _ (l0_4.take (x69_3 : Int).toNat) (rd l0_4 x69_3) t474 _ (HYx104.out _ (HM.came HR0_4.out)) HBx104.out A105.out) ?_ (hargs := by (try simp only [List.map_toArray, List.map_cons, List.map_nil]); first | done | rfl | (rw [hlx104]; rfl) | (simp only [List.length_take]; rfl)); rintro e w106 ⟨rfl, hd⟩; refine ⟨_, rfl, ?_⟩; replace HM := HM.drawn hd; clear hd))
           replace H := IB H
           rcases H with ⟨c107, H⟩ | ⟨c107, H⟩
           ·subst c107
            obtain rfl := Option.some.inj H
            go_wp2
            go_ret
            exact ⟨ER, (MD HM).pick []⟩
           ·subst c107
            have H' := Aside0.mk H
            clear H
            go_wp2
            go_roundg k3
            case measure => have := HJ2.out; have := HK2.out; have := HK3.out; omega
            case rel => exact ⟨(wrap64 (x69_3 + 1)), RS, H', ⟨by have := HJ2.out; have := HK2.out; have := HK3.out; omega⟩, (MD HM).pick [0]⟩
          ·subst c100
           obtain rfl := Option.some.inj H
           have p471 : 0 ≤ (x69_3 : Int) := of_decide_eq_true AS
           have q471 : (x69_3 : Int) < (l0_4.length : Int) := of_decide_eq_true AS
           obtain ⟨ad471, e471, hx471_0⟩ := Kd.at_int (HM.came HR0_4.out) x69_3 p471 q471
           cases e471
           replace p471 := eq_true p471
           replace q471 := eq_true q471
           go_wp2_with (first | ((with_reducible refine gC 164 rfl ?_); refine pC (some 75) rfl #[.int .i64 (rd l0_4 x69_3)] rfl Try.func164 (spec_l01Num.calls (rd l0_4 x69_3) false _ A98.out) ?_; rintro e w99 ⟨rfl, hd⟩; refine ⟨_, rfl, ?_⟩; replace HM := HM.drawn hd; clear hd))
           go_ret
           exact ⟨ER, (MD HM).pick []⟩
         ·have c95b0 := decide_eq_false c95
          clear c95
          first|rw [c95b0]|(simp only [i64_w, i32_w]; rw [c95b0])|skip
          obtain rfl := Option.some.inj H
          go_wp2
          go_ret
          exact ⟨ER, (MD HM).pick []⟩
def spec_ThreeNew.f (k : Nat) (a0 : Int) (a1 : Int) : Option (Int × Int × (List (S122)) × (List (S122)) × List Int × Bool) := (spec_ThreeOk.f k a0 a1 ([] : List (S122)) ([] : List (S122)) ([] : List Int)).bind fun t477 => (if t477 = true then (some (a0, a1, ([] : List (S122)), ([] : List (S122)), ([] : List Int), true)) else (some (0, 0, ([] : List (S122)), ([] : List (S122)), ([] : List Int), false)))
theorem spec_ThreeNew.calls (k : Nat) (a0 : Int) (a1 : Int) (r1 : Int) (r2 : Int) (r3 : List (S122)) (r4 : List (S122)) (r5 : List Int) (r6 : Bool) (w : World)  (h : spec_ThreeNew.f k a0 a1 = some (r1, r2, r3, r4, r5, r6)) :
  Calls Try.prog 95 #[.int .i64 a0, .int .i64 a1] w fun e w' => ∃ v2_ v3_ v4_ : Value, e = .returned (.tuple #[.agg #[.int .i64 r1, .int .i64 r2, v2_, v3_, v4_], .bool r6]) ∧ Mem w [] w' [rowR k122 122 v2_ r3, rowR k122 122 v3_ r4, rowR (Kd.int .i64) 3 v4_ r5] := by
 have hu32 := Try.underlying32
 have HM := Mem.nil w
 have H := h
 clear h
 unfold spec_ThreeNew.f at H
 go_enter Try.func95, Try.ntmps95
 replace H := BN H; obtain ⟨t477, A7, H⟩ := H
 go_upto_if 12 with (first | ((with_reducible refine gN 4 rfl ?_); refine pB 4 32 [.int .i64 0, .int .i64 0, .slice none 0 0, .slice none 0 0, .slice none 0 0] HM rfl ?_; clear HM; intro gb475 w3 HM) | ((with_reducible refine gN 6 rfl ?_); refine pB 6 32 [.int .i64 0, .int .i64 0, .slice none 0 0, .slice none 0 0, .slice none 0 0] HM rfl ?_; clear HM; intro gb476 w4 HM) | ((with_reducible refine gS 6 rfl ?_); refine pS 1 6 0 [.int .i64 a0, .int .i64 a1, .slice none 0 0, .slice none 0 0, .slice none 0 0] HM rfl rfl ?_; clear HM; intro w5 HM; obtain ⟨_,_,_,_,_,_,_,_,_,_⟩ := bk5 (HM.bx 1 rfl)) | ((with_reducible refine gC 147 rfl ?_); refine pC (some 11) rfl #[.agg #[.int .i64 a0, .int .i64 a1, .slice none 0 0, .slice none 0 0, .slice none 0 0]] rfl Try.func147 (spec_ThreeOk.calls k a0 a1 _ _ ([] : List (S122)) _ _ ([] : List (S122)) _ _ ([] : List Int) t477 _ (Kd.C_nil _ _) (Nat.le_refl _) (Kd.C_nil _ _) (Nat.le_refl _) (Kd.C_nil _ _) (Nat.le_refl _) A7.out) ?_; rintro e w8 ⟨rfl, hR⟩; refine ⟨_, rfl, ?_⟩; replace HM := HM.call hR; clear hR))
 replace HM := nzM HM
 replace H := IB H
 rcases H with ⟨c9, H⟩ | ⟨c9, H⟩
 ·subst c9
  simp only [Option.some.injEq, Prod.mk.injEq] at H
  obtain ⟨rfl, rfl, rfl, rfl, rfl, rfl⟩ := H
  obtain ⟨_,_,_,_,_,_,_,_,_,_⟩ := bk5 (HM.bx 1 rfl)
  go_wp2_with (first | ((with_reducible refine gS 4 rfl ?_); refine pS 0 4 0 [.int .i64 a0, .int .i64 a1, .slice none 0 0, .slice none 0 0, .slice none 0 0] HM rfl rfl ?_; clear HM; intro w11 HM; replace HM := HM.nl k122 122; replace HM := HM.nl k122 122; replace HM := HM.nl (Kd.int .i64) 3))
  refine bodyPost_ret (results_ct rfl _ _ gb475 32 #[.int .i64 a0, .int .i64 a1, .slice none 0 0, .slice none 0 0, .slice none 0 0] (0, 0) _ rfl (HM.bx 0 rfl) Try.underlying32 rfl (by kernel_rfl)) rfl ?_
  exact ⟨_, _, _, ER, (MD HM).pick [2, 3, 4]⟩
 ·subst c9
  simp only [Option.some.injEq, Prod.mk.injEq] at H
  obtain ⟨rfl, rfl, rfl, rfl, rfl, rfl⟩ := H
  go_wp2_with (first | ((with_reducible refine gS 4 rfl ?_); refine pS 0 4 0 [.int .i64 0, .int .i64 0, .slice none 0 0, .slice none 0 0, .slice none 0 0] HM rfl rfl ?_; clear HM; intro w12 HM; replace HM := HM.nl k122 122; replace HM := HM.nl k122 122; replace HM := HM.nl (Kd.int .i64) 3))
  refine bodyPost_ret (results_ct rfl _ _ gb475 32 #[.int .i64 0, .int .i64 0, .slice none 0 0, .slice none 0 0, .slice none 0 0] (0, 0) _ rfl (HM.bx 0 rfl) Try.underlying32 rfl (by kernel_rfl)) rfl ?_
  exact ⟨_, _, _, ER, (MD HM).pick [2, 3, 4]⟩
def spec_l01Of.f (s0_0 : List Int) (s0_1 : Int) (s0_2 : Int) (l1 : List ByteArray) : Option (ByteArray × Int × Int) := (spec_l01Below.f s0_0 s0_1 s0_2 (l1.length : Int)).bind fun bt484 => (if 0 ≤ bt484.1 then (if bt484.1 < (l1.length : Int) then (some (rdOf ByteArray.empty l1 bt484.1, bt484.2.1, bt484.2.2)) else (none)) else (none))
theorem spec_l01Of.calls (g : Nat) (A0_0 : Option Addr) (c0_0 : Nat) (s0_0 : List Int) (s0_1 : Int) (s0_2 : Int) (A1 : Option Addr) (c1 : Nat) (l1 : List ByteArray) (r1 : ByteArray) (r2 : Int) (r3 : Int) (w0 w : World) (F : List SP) (hrs0_0 : Kd.C (Kd.int .u8) w0 A0_0 s0_0.length s0_0) (hcs0_0 : s0_0.length ≤ c0_0) (hM : Mem w0 F w [box 110 g [.slice A0_0 s0_0.length c0_0, .int .i64 s0_1, .int .i64 s0_2], row Kd.string 9 (.slice A1 l1.length c1) l1]) (h : spec_l01Of.f s0_0 s0_1 s0_2 l1 = some (r1, r2, r3)) :
  Calls Try.prog 175 #[.pointer (some ⟨g, 0, none⟩), .slice A1 l1.length c1] w fun e w' => e = .returned (.string r1) ∧ Mem w0 F w' [box 110 g [.slice A0_0 s0_0.length c0_0, .int .i64 r2, .int .i64 r3], row Kd.string 9 (.slice A1 l1.length c1) l1] := by
 have HRs0_0 := Aside0.mk hrs0_0
 have HCs0_0 := Aside0.mk hcs0_0
 clear hrs0_0 hcs0_0
 have HM := hM
 clear hM
 have H := h
 clear h
 unfold spec_l01Of.f at H
 go_enter Try.func175, Try.ntmps175
 replace H := BN H; obtain ⟨⟨t484, t485, t486⟩, A3, H⟩ := H
 replace H := GD H; obtain ⟨c5, H⟩ := H
 have c5b0 : decide (0 ≤ t484) = true := decide_eq_true c5
 clear c5
 replace H := GD H; obtain ⟨c6, H⟩ := H
 have c6b0 : decide (t484 < (l1.length : Int)) = true := decide_eq_true c6
 clear c6
 simp only [Option.some.injEq, Prod.mk.injEq] at H
 obtain ⟨rfl, rfl, rfl⟩ := H
 go_wp2_with (first | ((with_reducible refine gC 73 rfl ?_); refine pC (some 9) rfl #[.pointer (some ⟨g, 0, none⟩), .int .i64 (l1.length : Int)] rfl Try.func73 (spec_l01Below.calls g A0_0 c0_0 s0_0 s0_1 s0_2 (l1.length : Int) t484 t485 t486 _ _ _ HRs0_0.out HCs0_0.out (HM.focus [1] [0]) A3.out) ?_; rintro e w4 ⟨rfl, hR⟩; refine ⟨_, rfl, ?_⟩; replace HM := nzM hR.unfocus; clear hR; have p487 : 0 ≤ (t484 : Int) := of_decide_eq_true AS; have q487 : (t484 : Int) < (l1.length : Int) := of_decide_eq_true AS; obtain ⟨ad487, e487, hx487_0⟩ := Kd.at_string (HM.C 0 rfl).2.2 t484 p487 q487; cases e487; replace p487 := eq_true p487; replace q487 := eq_true q487))
 go_ret
 exact ⟨ER, (MD HM).pick [1, 0]⟩
def spec_l10Key.f (s0_0 : List Int) (s0_1 : Int) (s0_2 : Int) : Option (ByteArray × Int × Int) := (spec_l01Of.f s0_0 s0_1 s0_2 (([(⟨#[97]⟩ : ByteArray), (⟨#[98]⟩ : ByteArray), (⟨#[99]⟩ : ByteArray), (⟨#[100]⟩ : ByteArray), (⟨#[101]⟩ : ByteArray), (⟨#[102]⟩ : ByteArray), (⟨#[103]⟩ : ByteArray), (⟨#[104]⟩ : ByteArray)] : List ByteArray))).bind fun bt491 => (some (bt491.1, bt491.2.1, bt491.2.2))
theorem spec_l10Key.calls (g : Nat) (A0_0 : Option Addr) (c0_0 : Nat) (s0_0 : List Int) (s0_1 : Int) (s0_2 : Int) (r1 : ByteArray) (r2 : Int) (r3 : Int) (w0 w : World) (F : List SP) (hrs0_0 : Kd.C (Kd.int .u8) w0 A0_0 s0_0.length s0_0) (hcs0_0 : s0_0.length ≤ c0_0) (hM : Mem w0 F w [box 110 g [.slice A0_0 s0_0.length c0_0, .int .i64 s0_1, .int .i64 s0_2]]) (h : spec_l10Key.f s0_0 s0_1 s0_2 = some (r1, r2, r3)) :
  Calls Try.prog 128 #[.pointer (some ⟨g, 0, none⟩)] w fun e w' => e = .returned (.string r1) ∧ Mem w0 F w' [box 110 g [.slice A0_0 s0_0.length c0_0, .int .i64 r2, .int .i64 r3]] := by
 have HRs0_0 := Aside0.mk hrs0_0
 have HCs0_0 := Aside0.mk hcs0_0
 clear hrs0_0 hcs0_0
 have HM := hM
 clear hM
 have H := h
 clear h
 unfold spec_l10Key.f at H
 go_enter Try.func128, Try.ntmps128
 replace H := BN H; obtain ⟨⟨t491, t492, t493⟩, A3, H⟩ := H
 simp only [Option.some.injEq, Prod.mk.injEq] at H
 obtain ⟨rfl, rfl, rfl⟩ := H
 go_wp2_with (first | ((with_reducible refine gN 4 rfl ?_); refine pL 4 Kd.string 9 ([(⟨#[97]⟩ : ByteArray), (⟨#[98]⟩ : ByteArray), (⟨#[99]⟩ : ByteArray), (⟨#[100]⟩ : ByteArray), (⟨#[101]⟩ : ByteArray), (⟨#[102]⟩ : ByteArray), (⟨#[103]⟩ : ByteArray), (⟨#[104]⟩ : ByteArray)] : List ByteArray) [.string (⟨#[97]⟩ : ByteArray), .string (⟨#[98]⟩ : ByteArray), .string (⟨#[99]⟩ : ByteArray), .string (⟨#[100]⟩ : ByteArray), .string (⟨#[101]⟩ : ByteArray), .string (⟨#[102]⟩ : ByteArray), .string (⟨#[103]⟩ : ByteArray), .string (⟨#[104]⟩ : ByteArray)] (Reps.one (show Kd.M Kd.string _ _ _ (⟨#[97]⟩ : ByteArray) [.string (⟨#[97]⟩ : ByteArray)] from rfl) (Reps.one (show Kd.M Kd.string _ _ _ (⟨#[98]⟩ : ByteArray) [.string (⟨#[98]⟩ : ByteArray)] from rfl) (Reps.one (show Kd.M Kd.string _ _ _ (⟨#[99]⟩ : ByteArray) [.string (⟨#[99]⟩ : ByteArray)] from rfl) (Reps.one (show Kd.M Kd.string _ _ _ (⟨#[100]⟩ : ByteArray) [.string (⟨#[100]⟩ : ByteArray)] from rfl) (Reps.one (show Kd.M Kd.string _ _ _ (⟨#[101]⟩ : ByteArray) [.string (⟨#[101]⟩ : ByteArray)] from rfl) (Reps.one (show Kd.M Kd.string _ _ _ (⟨#[102]⟩ : ByteArray) [.string (⟨#[102]⟩ : ByteArray)] from rfl) (Reps.one (show Kd.M Kd.string _ _ _ (⟨#[103]⟩ : ByteArray) [.string (⟨#[103]⟩ : ByteArray)] from rfl) (Reps.one (show Kd.M Kd.string _ _ _ (⟨#[104]⟩ : ByteArray) [.string (⟨#[104]⟩ : ByteArray)] from rfl) (Reps.none _ _))))))))) HM rfl ?_; clear HM; intro v489 w2 HM; obtain ⟨Xo5, ko5, rfl⟩ := HM.rdR 1 rfl; replace HM := HM.toQ 1 rfl) | ((with_reducible refine gC 175 rfl ?_); refine pC (some 5) rfl #[.pointer (some ⟨g, 0, none⟩), .slice Xo5 (([(⟨#[97]⟩ : ByteArray), (⟨#[98]⟩ : ByteArray), (⟨#[99]⟩ : ByteArray), (⟨#[100]⟩ : ByteArray), (⟨#[101]⟩ : ByteArray), (⟨#[102]⟩ : ByteArray), (⟨#[103]⟩ : ByteArray), (⟨#[104]⟩ : ByteArray)] : List ByteArray)).length ko5] rfl Try.func175 (spec_l01Of.calls g A0_0 c0_0 s0_0 s0_1 s0_2 Xo5 ko5 (([(⟨#[97]⟩ : ByteArray), (⟨#[98]⟩ : ByteArray), (⟨#[99]⟩ : ByteArray), (⟨#[100]⟩ : ByteArray), (⟨#[101]⟩ : ByteArray), (⟨#[102]⟩ : ByteArray), (⟨#[103]⟩ : ByteArray), (⟨#[104]⟩ : ByteArray)] : List ByteArray)) t491 t492 t493 _ _ _ HRs0_0.out HCs0_0.out (HM.focus [] [0, 1]) A3.out) ?_; rintro e w4 ⟨rfl, hR⟩; refine ⟨_, rfl, ?_⟩; replace HM := nzM hR.unfocus; clear hR))
 go_ret
 exact ⟨ER, (MD HM).pick [0]⟩
end Go.Proofs.Ythnedklbobbkcaa.G

namespace Go.Proofs.Ythnedklbobbkcaa.G
open Go.RowKit Go.Proofs.YthnedklbobbkcaaW.PrintWords Go.Proofs.YthnedklbobbkcaaW.PrintLast Go.Proofs.YthnedklbobbkcaaW.PrintMore Go.Proofs.Ythnedklbobbkcaa.Sh
attribute [local go_sem] max2_int min2_int max_two min_two max_three min_three max_four min_four
set_option linter.unusedVariables false
set_option linter.unusedSimpArgs false
def spec_l10More.f (a0 : Int) : Option (Int) := if a0 ≥ 3 then (some 3) else (some (wrap64 (a0 + 1)))
theorem spec_l10More.calls (a0 : Int) (r : Int) (w : World) (h : spec_l10More.f a0 = some r) :
  Calls Try.prog 206 #[.int .i64 a0] w fun e w' => e = .returned (.int .i64 r) ∧ Drawn0 w w' := by
 have H : (if a0 ≥ 3 then (some 3) else (some (wrap64 (a0 + 1)))) = some r := h
 clear h
 by_cases c2 : a0 ≥ 3
 ·rw [if_pos c2] at H
  have c2b0 : decide (3 ≤ a0) = true := decide_eq_true c2
  clear c2
  obtain rfl := Option.some.inj H
  go_enter Try.func206, Try.ntmps206
  go_wp2
  go_ret
  exact ⟨by first | rfl | (simp; done) | (simp [*]; done), DR⟩
 ·rw [if_neg c2] at H
  have c2b0 : decide (3 ≤ a0) = false := decide_eq_false c2
  clear c2
  obtain rfl := Option.some.inj H
  go_enter Try.func206, Try.ntmps206
  go_wp2
  go_ret
  exact ⟨by first | rfl | (simp; done) | (simp [*]; done), DR⟩
end Go.Proofs.Ythnedklbobbkcaa.G
