/- Mend is the reference's; no conditions beside the sizes that a row reads. Part 5 of the claim FnExactMend, merged by pack.py (this session's program) out of: the print's words, cut to what is needed; texts that gen.py printed (it runs the kit's print in place); texts of this session. -/
import Derived.ChangeArms
import Derived.SizedLaws
import Derived.DataReads
import Derived.WalkKit
import Derived.RowKit
import Derived.KernelRfl
import Derived.Test.YtnlnifpehndacaaRows
import Derived.ProofKit
import Derived.OpenShut
import Derived.ShutString
import Derived.ChangeOld
import Derived.Below
import Derived.Test.YtnlnifpehndacaaKFnExactMend0
import Derived.Test.YtnlnifpehndacaaKFnExactMend1
import Derived.Test.YtnlnifpehndacaaKFnExactMend2
import Derived.Test.YtnlnifpehndacaaKFnExactMend3
import Derived.Test.YtnlnifpehndacaaKFnExactMend4
namespace Go.Proofs.Ytnlnifpehndacaa.CutL
end Go.Proofs.Ytnlnifpehndacaa.CutL
namespace Go.Proofs.Ytnlnifpehndacaa.Fam
end Go.Proofs.Ytnlnifpehndacaa.Fam
namespace Go.Proofs.Ytnlnifpehndacaa.G
end Go.Proofs.Ytnlnifpehndacaa.G
namespace Go.Proofs.Ytnlnifpehndacaa.G.fnExactMend
end Go.Proofs.Ytnlnifpehndacaa.G.fnExactMend
namespace Go.Proofs.Ytnlnifpehndacaa.Man
end Go.Proofs.Ytnlnifpehndacaa.Man
namespace Go.Proofs.Ytnlnifpehndacaa.Ok
end Go.Proofs.Ytnlnifpehndacaa.Ok
namespace Go.Proofs.Ytnlnifpehndacaa.Open
end Go.Proofs.Ytnlnifpehndacaa.Open
namespace Go.Proofs.Ytnlnifpehndacaa.PL
end Go.Proofs.Ytnlnifpehndacaa.PL
namespace Go.Proofs.Ytnlnifpehndacaa.Q
end Go.Proofs.Ytnlnifpehndacaa.Q
namespace Go.Proofs.Ytnlnifpehndacaa.Open
open Go.RowKit Go.Proofs.YtnlnifpehndacaaW.PrintWords
/-- Whatever is read at type t is of the kind k, and meets ok. -/
def Opn {α : Type} (P : Program) (t : TypeId) (k : Kd α) (ok : α → Prop) : Prop :=
 ∀ (H : Type) (enc : TypeId × Value → H) (W : World) (fuel : Nat) (cs : List Value) (d : DataW H) (ps : List MemPlace),
  DataW.trod enc P W 0 (fun _ => true) true fuel t cs = some (d, ps) → (∀ n ∈ d.weights P t, n ≤ reachBytes) → ∃ x, k.K W x cs ∧ ok x
theorem Opn.int {P : Program} {t : TypeId} {q : IntKind} (ht : P.underlying t = some (.int q)) : Opn P t (Kd.int q) (fun n => (Lit.int q n).wf = true) := by
 intro H enc W fuel cs d ps h _
 obtain ⟨n, rfl, _, hw⟩ := DataW.trod_int ht h
 exact ⟨n, rfl, hw⟩
theorem Opn.bool {P : Program} {t : TypeId} (ht : P.underlying t = some .bool) : Opn P t Kd.bool (fun _ => True) := by
 intro H enc W fuel cs d ps h _
 obtain ⟨b, rfl, _⟩ := DataW.trod_bool ht h
 exact ⟨b, rfl, trivial⟩
theorem Opn.string {P : Program} {t : TypeId} (ht : P.underlying t = some .string) : Opn P t Kd.string (fun s => s.size ≤ 140737488351232) := by
 intro H enc W fuel cs d ps h hz
 obtain ⟨s, rfl, hx, _⟩ := DataW.trod_string ht h
 refine ⟨s, rfl, ?_⟩
 obtain ⟨rfl, _⟩ := Prod.mk.inj hx
 have := hz s.data.toList.length (by simp [DataW.weights])
 rw [Array.length_toList] at this
 exact this
theorem Opn.mono {α : Type} {P : Program} {t : TypeId} {k : Kd α} {ok ok' : α → Prop} (h : Opn P t k ok) (hok : ∀ x, ok x → ok' x) : Opn P t k ok' := by
 intro H enc W fuel cs d ps hd hz
 obtain ⟨x, hx, ho⟩ := h H enc W fuel cs d ps hd hz
 exact ⟨x, hx, hok x ho⟩
/-- The fields from one on, one behind the other. -/
def OpnFs {α : Type} (P : Program) (fs : List Field) (off : Nat) (k : Kd α) (ok : α → Prop) : Prop :=
 ∀ (H : Type) (enc : TypeId × Value → H) (W : World) (fuel : Nat) (cs : List Value) (xs : List (DataW H × List MemPlace)),
  xs.length = fs.length → (∀ (i : Nat) (f : Field), fs[i]? = some f → DataW.trod enc P W 0 (fun _ => true) true fuel f.type ((cs.drop f.offset).take (P.cellsOf f.type)) = xs[i]?) →
  (∀ n ∈ DataW.weightsEach P (fs.map (·.type)) (xs.map (·.1)), n ≤ reachBytes) → ∃ x, k.K W x ((cs.drop off).take k.sz) ∧ ok x
theorem OpnFs.one {α : Type} {P : Program} {f : Field} {off : Nat} {k : Kd α} {ok : α → Prop} (ho : f.offset = off) (hc : P.cellsOf f.type = k.sz) (h : Opn P f.type k ok) : OpnFs P [f] off k ok := by
 intro H enc W fuel cs xs hl hx hz
 have h0 := hx 0 f rfl
 rw [ho, hc] at h0
 match xs, hl with
 | [x], _ =>
  refine h H enc W fuel _ x.1 x.2 h0 (fun n hn => hz n ?_)
  simp [DataW.weightsEach, hn]
theorem OpnFs.cons {α β : Type} {P : Program} {f : Field} {fs : List Field} {off : Nat} {k : Kd α} {k2 : Kd β} {ok : α → Prop} {ok2 : β → Prop} (ho : f.offset = off) (hc : P.cellsOf f.type = k.sz) (h : Opn P f.type k ok)
  (h2 : OpnFs P fs (off + k.sz) k2 ok2) : OpnFs P (f :: fs) off (Kd.pair k k2) (fun x => ok x.1 ∧ ok2 x.2) := by
 intro H enc W fuel cs xs hl hx hz
 have h0 := hx 0 f rfl
 rw [ho, hc] at h0
 match xs, hl with
 | x :: xs, hl =>
  obtain ⟨a, ha, hoa⟩ := h H enc W fuel _ x.1 x.2 h0 (fun n hn => hz n (by simp [DataW.weightsEach, hn]))
  obtain ⟨b, hb, hob⟩ := h2 H enc W fuel cs xs (by simpa using hl) (fun i g hg => by simpa using hx (i + 1) g (by simpa using hg)) (fun n hn => hz n (by simp only [List.map_cons, DataW.weightsEach, List.mem_append]; exact Or.inr hn))
  refine ⟨(a, b), ⟨_, _, ?_, ha, hb⟩, hoa, hob⟩
  show (cs.drop off).take (k.sz + k2.sz) = _
  rw [List.take_add, List.drop_drop]
theorem Opn.struct {α : Type} {P : Program} {t : TypeId} {fs : Array Field} {k : Kd α} {ok : α → Prop} (ht : P.underlying t = some (.struct fs)) (hc : P.cellsOf t = k.sz) (h : OpnFs P fs.toList 0 k ok) : Opn P t k ok := by
 intro H enc W fuel cs d ps hd hz
 obtain ⟨xs, n, rfl, hx, hl, hxl, hf⟩ := DataW.trod_struct ht hd
 obtain ⟨rfl, _⟩ := Prod.mk.inj hx
 obtain ⟨x, hK, ho⟩ := h H enc W n cs xs (by simpa using hxl) (fun i f hi => hf i f (by simpa using hi)) (fun m hm => hz m (by simp only [DataW.weights, ht]; exact hm))
 refine ⟨x, ?_, ho⟩
 rw [List.drop_zero, List.take_of_length_le (by omega)] at hK
 exact hK
theorem Opn.iso {α β : Type} {P : Program} {t : TypeId} {k : Kd α} {ok : α → Prop} {f : β → α} (g : α → β) (hg : ∀ x, f (g x) = x) (h : Opn P t k ok) : Opn P t (Kd.iso k f) (fun y => ok (f y)) := by
 intro H enc W fuel cs d ps hd hz
 obtain ⟨x, hx, ho⟩ := h H enc W fuel cs d ps hd hz
 exact ⟨g x, by show k.K W (f (g x)) cs; rw [hg]; exact hx, by show ok (f (g x)); rw [hg]; exact ho⟩
theorem weightsAll_mem {H : Type} {P : Program} {e : TypeId} : ∀ {l : List (DataW H)} {d : DataW H}, d ∈ l → ∀ n ∈ d.weights P e, n ∈ DataW.weightsAll P e l
 | a :: l, d, hd, n, hn => by
  simp only [DataW.weightsAll, List.mem_append]
  rcases List.mem_cons.1 hd with rfl | hd
  ·exact .inl hn
  ·exact .inr (weightsAll_mem hd n hn)
theorem choose_list {α : Type} (p : Nat → α → Prop) : ∀ (n : Nat), (∀ i, i < n → ∃ x, p i x) → ∃ xs : List α, xs.length = n ∧ ∀ i x, xs[i]? = some x → p i x
 | 0, _ => ⟨[], rfl, fun i x h => by simp at h⟩
 | n + 1, h => by
  obtain ⟨xs, hl, hx⟩ := choose_list p n (fun i hi => h i (by omega))
  obtain ⟨y, hy⟩ := h n (by omega)
  refine ⟨xs ++ [y], by simp [hl], fun i x hi => ?_⟩
  rcases Nat.lt_or_ge i n with hin | hin
  ·rw [List.getElem?_append_left (by omega)] at hi
   exact hx i x hi
  ·rw [List.getElem?_append_right (by omega)] at hi
   have : i - xs.length = 0 := by
    rcases Nat.eq_zero_or_pos (i - xs.length) with h0 | h0
    ·exact h0
    ·rw [List.getElem?_eq_none (by simp; omega)] at hi
     cases hi
   rw [this] at hi
   simp only [List.getElem?_cons_zero, Option.some.injEq] at hi
   subst hi
   have : i = n := by omega
   subst this
   exact hy
theorem Opn.slice {α : Type} {P : Program} {t e : TypeId} {k : Kd α} {ok : α → Prop} (B : Nat) (ht : P.underlying t = some (.slice e)) (hc : P.cellsOf e = k.sz) (hB : P.bytesOf e = B) (h : Opn P e k ok) :
  Opn P t (Kd.slice e k) (fun xs => (∀ x ∈ xs, ok x) ∧ xs.length * B ≤ 140737488351232) := by
 intro H enc W fuel cs d ps hd hz
 rcases DataW.trod_slice ht hd with ⟨rfl, _⟩ | ⟨a, len, cap, elems, rest, n, rfl, rfl, hx, _, hl, hm, hel, hcell, _, _⟩
 ·exact ⟨[], ⟨none, 0, rfl, Nat.le_refl _, Kd.C_nil _ _⟩, by simp, by simp⟩
 ·obtain ⟨rfl, _⟩ := Prod.mk.inj hx
  have hz0 := hz (((elems.map (·.1)).length + (rest.map (·.1)).length) * P.bytesOf e) (by simp only [DataW.weights, ht]; exact List.mem_cons_self)
  have hpick : ∀ i, i < len → ∃ x : α, (∃ c, c.length = k.sz ∧ k.K W x c ∧ ∀ j u, c[j]? = some u → W.cell? (a.add (i * k.sz + j)) = some u) ∧ ok x := by
   intro i hi
   have h1 := hcell i hi
   rw [List.getElem?_eq_getElem (by omega)] at h1
   obtain ⟨c, hc1, hc2⟩ := Option.bind_eq_some_iff.1 h1
   obtain ⟨_, hcl, hcc⟩ := World.cells?_some hc1
   obtain ⟨x, hx, ho⟩ := h H enc W n c _ _ hc2 (fun m hm => hz m (by
    simp only [DataW.weights, ht, List.mem_cons, List.mem_append]
    exact .inr (.inl (weightsAll_mem (List.mem_map.2 ⟨_, List.getElem_mem (by omega), rfl⟩) m hm))))
   refine ⟨x, ⟨c, by omega, hx, fun j u hu => ?_⟩, ho⟩
   have hj : j < c.length := by
    rcases Nat.lt_or_ge j c.length with hj | hj
    ·exact hj
    ·rw [List.getElem?_eq_none hj] at hu; cases hu
   have := hcc j (by omega)
   rw [hu, hc] at this
   rw [← this]
   rw [Addr.add_add]
  obtain ⟨xs, hxl, hxs⟩ := choose_list _ len hpick
  subst hxl
  refine ⟨xs, ⟨some a, cap, rfl, hl, rfl, by unfold maxLen at hm; omega, fun _ => ⟨a, rfl, fun j p hj => (hxs j p hj).1⟩⟩, fun x hx => ?_, ?_⟩
  ·obtain ⟨i, hi⟩ := List.getElem?_of_mem hx
   exact (hxs i x hi).2
  ·rw [hB] at hz0
   refine Nat.le_trans (Nat.mul_le_mul_right _ ?_) hz0
   simp only [List.length_map]
   omega
theorem weights_of {H : Type} {P : Program} {ts : List TypeId} {ds : List (DataW H)} {j : Nat} {t : TypeId} {d : DataW H} (hsz : (DataW.weightsEach P ts ds).all (· ≤ reachBytes) = true) (ht : ts[j]? = some t) (hd : ds[j]? = some d) :
  ∀ n ∈ d.weights P t, n ≤ reachBytes := fun n hn => by
 have := List.all_eq_true.1 hsz _ (DataW.weights_mem_each ht hd n hn)
 simpa using this
end Go.Proofs.Ytnlnifpehndacaa.Open

namespace Go.Proofs.Ytnlnifpehndacaa.Ok
open Go.RowKit Go.Proofs.Ytnlnifpehndacaa.Open Go.Proofs.Ytnlnifpehndacaa.G Go.Proofs.YtnlnifpehndacaaW.PrintWords Go.Proofs.YtnlnifpehndacaaW.PrintLast
set_option linter.unusedVariables false
theorem wf_int {k : IntKind} {n : Int} (h : (Lit.int k n).wf = true) : k.min ≤ n ∧ n ≤ k.max := by
 simpa [Lit.wf] using h
def okT9 (s : ByteArray) : Prop := s.size ≤ 140737488351232
set_option maxRecDepth 100000 in
theorem opn9 : Opn Try.prog 9 Kd.string okT9 := Opn.string Try.underlying9
def okT3 (n : Int) : Prop := -9223372036854775808 ≤ n ∧ n ≤ 9223372036854775807
set_option maxRecDepth 100000 in
theorem opn3 : Opn Try.prog 3 (Kd.int .i64) okT3 := (Opn.int Try.underlying3).mono (fun n h => by have e := wf_int (k := .i64) h; rw [show IntKind.min .i64 = -9223372036854775808 from by decide, show IntKind.max .i64 = 9223372036854775807 from by decide] at e; exact e)
def okT99 (x : S99) : Prop := okT9 x.f0 ∧ okT9 x.f1 ∧ okT3 x.f2
set_option maxRecDepth 100000 in
theorem opn99 : Opn Try.prog 99 k99 okT99 := (Opn.iso (f := fun x : S99 => (x.f0, x.f1, x.f2)) (fun p => (⟨p.1, p.2.1, p.2.2⟩ : S99)) (fun _ => rfl) (Opn.struct (k := (Kd.pair Kd.string (Kd.pair Kd.string (Kd.int .i64)))) Try.underlying99 (by kernel_rfl) (OpnFs.cons rfl (by kernel_rfl) opn9 (OpnFs.cons rfl (by kernel_rfl) opn9 (OpnFs.one rfl (by kernel_rfl) opn3))))).mono (fun _ h => h)
def okT40 (xs : List S99) : Prop := (∀ x ∈ xs, okT99 x) ∧ xs.length * 40 ≤ 140737488351232
set_option maxRecDepth 100000 in
theorem opn40 : Opn Try.prog 40 (Kd.slice 99 k99) okT40 := Opn.slice 40 Try.underlying40 (by kernel_rfl) (by kernel_rfl) opn99
def okT23 (xs : List Int) : Prop := (∀ x ∈ xs, okT3 x) ∧ xs.length * 8 ≤ 140737488351232
set_option maxRecDepth 100000 in
theorem opn23 : Opn Try.prog 23 (Kd.slice 3 (Kd.int .i64)) okT23 := Opn.slice 8 Try.underlying23 (by kernel_rfl) (by kernel_rfl) opn3
def okT42 (x : Int × Int × List S99 × List S99 × List Int) : Prop := okT3 x.1 ∧ okT3 x.2.1 ∧ okT40 x.2.2.1 ∧ okT40 x.2.2.2.1 ∧ okT23 x.2.2.2.2
set_option maxRecDepth 100000 in
theorem opn42 : Opn Try.prog 42 (Kd.pair (Kd.int .i64) (Kd.pair (Kd.int .i64) (Kd.pair (Kd.slice 99 k99) (Kd.pair (Kd.slice 99 k99) (Kd.slice 3 (Kd.int .i64)))))) okT42 := (Opn.struct (k := (Kd.pair (Kd.int .i64) (Kd.pair (Kd.int .i64) (Kd.pair (Kd.slice 99 k99) (Kd.pair (Kd.slice 99 k99) (Kd.slice 3 (Kd.int .i64))))))) Try.underlying42 (by kernel_rfl) (OpnFs.cons rfl (by kernel_rfl) opn3 (OpnFs.cons rfl (by kernel_rfl) opn3 (OpnFs.cons rfl (by kernel_rfl) opn40 (OpnFs.cons rfl (by kernel_rfl) opn40 (OpnFs.one rfl (by kernel_rfl) opn23)))))).mono (fun _ h => h)
end Go.Proofs.Ytnlnifpehndacaa.Ok

namespace Go.Proofs.Ytnlnifpehndacaa.G.fnExactMend
open Go.RowKit Go.Proofs.Ytnlnifpehndacaa.Open Go.Proofs.Ytnlnifpehndacaa.Ok Go.Proofs.Ytnlnifpehndacaa.G Go.Proofs.YtnlnifpehndacaaW.PrintWords Go.Proofs.YtnlnifpehndacaaW.PrintLast
set_option linter.unusedVariables false
def FnExactMend.okIn (x0 : ByteArray) (x1 : Int × Int × List S99 × List S99 × List Int) : Prop := okT9 x0 ∧ okT42 x1
def FnExactMend.Pure : Prop := ∀ (x0 : ByteArray) (x1 : Int × Int × List S99 × List S99 × List Int), FnExactMend.okIn x0 x1 → ∃ k, laws_FnExactMend.f k x0 x1.1 x1.2.1 x1.2.2.1 x1.2.2.2.1 x1.2.2.2.2 = some true
end Go.Proofs.Ytnlnifpehndacaa.G.fnExactMend

namespace Go.Proofs.Ytnlnifpehndacaa.PL
open Go.RowKit Go.Proofs.YtnlnifpehndacaaW.PrintWords
theorem Ev.const {α : Type} {x : Option α} {r : α} (h : x = some r) : Ev (fun _ => x) r := ⟨0, fun _ _ => h⟩
theorem Ev.pos {α : Type} {c : Prop} [Decidable c] {f g : Nat → Option α} {r : α} (hc : c) (h : Ev f r) : Ev (fun k => if c then f k else g k) r := by
 obtain ⟨K, h⟩ := h
 exact ⟨K, fun k hk => (if_pos hc).trans (h k hk)⟩
theorem Ev.neg {α : Type} {c : Prop} [Decidable c] {f g : Nat → Option α} {r : α} (hc : ¬ c) (h : Ev g r) : Ev (fun k => if c then f k else g k) r := by
 obtain ⟨K, h⟩ := h
 exact ⟨K, fun k hk => (if_neg hc).trans (h k hk)⟩
theorem Ev.to {α : Type} {f : Nat → Option α} {r s : α} (h : Ev f r) (e : r = s) : Ev f s := e ▸ h
theorem w64 {x : Int} (h0 : -9223372036854775808 ≤ x) (h1 : x ≤ 9223372036854775807) : wrap64 x = x := by
 unfold wrap64
 omega
theorem wsucc {i : Nat} (h : i < 9223372036854775807) : wrap64 ((i : Int) + 1) = ((i + 1 : Nat) : Int) := by
 rw [w64 (by omega) (by omega)]
 omega
theorem getD_at {α : Type} {xs : List α} {i : Nat} (h : i < xs.length) (z : α) : xs.getD ((i : Nat) : Int).toNat z = xs[i] := by
 simp [List.getD_eq_getElem?_getD, h]
theorem drop_at {α : Type} {xs : List α} {i : Nat} (h : i < xs.length) : xs.drop i = xs[i] :: xs.drop (i + 1) := List.drop_eq_getElem_cons h
theorem bytes_eq {a b : ByteArray} : a.toList = b.toList ↔ a = b := by
 rw [ByteArray.toList_eq, ByteArray.toList_eq]
 constructor
 ·intro h
  cases a; cases b
  simp at h
  simp [h]
 ·intro h; rw [h]
/-- What is left of a when m are taken off, or -1. -/
def left (a : Int) (m : Nat) : Int := if (m : Int) ≤ a then a - m else -1
theorem left_pos {a : Int} {m : Nat} (h : (m : Int) ≤ a) : left a m = a - m := if_pos h
theorem left_neg {a : Int} {m : Nat} (h : ¬ (m : Int) ≤ a) : left a m = -1 := if_neg h
theorem left_zero {a : Int} (h : 0 ≤ a) : left a 0 = a := by unfold left; rw [if_pos (by omega)]; omega
theorem left_add {a : Int} {m n : Nat} : left (a - m) n = left a (m + n) := by
 unfold left
 by_cases c : (n : Int) ≤ a - m
 ·rw [if_pos c, if_pos (by omega)]; omega
 ·rw [if_neg c, if_neg (by omega)]
theorem left_neg_add {a : Int} {m n : Nat} (h : ¬ (m : Int) ≤ a) : left a (m + n) = -1 := left_neg (by omega)
theorem set_mid {α : Type} (pre : List α) (x y : α) (rest : List α) : (pre ++ x :: rest).set ((pre.length : Nat) : Int).toNat y = pre ++ y :: rest := by
 simp
theorem getD_mid {α : Type} (pre : List α) (x z : α) (rest : List α) : (pre ++ x :: rest).getD ((pre.length : Nat) : Int).toNat z = x := by
 simp [List.getD_eq_getElem?_getD]
theorem take_drop_set {α β : Type} (f : α → β) (xs : List α) (ys : List β) {i : Nat} (hi : i < xs.length) (hl : ys.length = xs.length) (h : ys.take i = (xs.take i).map f) : (ys.set ((i : Nat) : Int).toNat (f xs[i])).take (i + 1) = (xs.take (i + 1)).map f := by
 rw [Int.toNat_natCast, List.take_succ_eq_append_getElem (by simp; omega), List.take_succ_eq_append_getElem hi, List.map_append, ← h]
 simp [List.take_set_of_le]
end Go.Proofs.Ytnlnifpehndacaa.PL
namespace Go.Proofs.Ytnlnifpehndacaa.Ok
end Go.Proofs.Ytnlnifpehndacaa.Ok
namespace Go.Proofs.Ytnlnifpehndacaa.Fam
end Go.Proofs.Ytnlnifpehndacaa.Fam
namespace Go.Proofs.Ytnlnifpehndacaa.Q
end Go.Proofs.Ytnlnifpehndacaa.Q
namespace Go.Proofs.Ytnlnifpehndacaa.Man
end Go.Proofs.Ytnlnifpehndacaa.Man

namespace Go.Proofs.Ytnlnifpehndacaa.Q
open Go.RowKit Go.Proofs.Ytnlnifpehndacaa.PL Go.Proofs.YtnlnifpehndacaaW.PrintWords
def bs (s : ByteArray) : List UInt8 := s.data.toList
theorem bs_length (s : ByteArray) : (bs s).length = s.size := by unfold bs; rw [Array.length_toList]; rfl
theorem bs_inj {a b : ByteArray} (h : bs a = bs b) : a = b := by
 cases a; cases b
 simp [bs] at h
 simp [h]
theorem bs_mk (l : List UInt8) : bs ⟨l.toArray⟩ = l := by simp [bs]
theorem bs_append (a b : ByteArray) : bs (a ++ b) = bs a ++ bs b := by simp [bs]
theorem append_empty (a : ByteArray) : a ++ (⟨#[]⟩ : ByteArray) = a := bs_inj (by rw [bs_append]; exact List.append_nil _)
theorem bs_toList (a : ByteArray) : a.toList = bs a := ByteArray.toList_eq a
theorem toList_nil {a : ByteArray} : a.toList = [] ↔ a = ⟨#[]⟩ := by
 rw [bs_toList]
 exact ⟨fun h => bs_inj (by rw [h]; rfl), fun h => by rw [h]; rfl⟩
theorem bt_eq (s : ByteArray) (i : Nat) (h : i < s.size) : bt s (i : Int) = (((bs s)[i]'(by rw [bs_length]; exact h)).toNat : Int) := by
 unfold bt bs
 simp only [Int.toNat_natCast, h, dif_pos]
 rfl
theorem drop_bs (s : ByteArray) (i : Nat) (h : i < s.size) : (bs s).drop i = (bs s)[i]'(by rw [bs_length]; exact h) :: (bs s).drop (i + 1) := List.drop_eq_getElem_cons (by rw [bs_length]; exact h)
theorem u8_eq {a : UInt8} {n : Nat} (hn : n < 256) : ((a.toNat : Int) = (n : Int)) ↔ a = UInt8.ofNat n := by
 constructor
 ·intro h
  apply UInt8.toNat.inj
  rw [UInt8.toNat_ofNat']
  omega
 ·intro h
  rw [h, UInt8.toNat_ofNat']
  omega
end Go.Proofs.Ytnlnifpehndacaa.Q

namespace Go.Proofs.Ytnlnifpehndacaa.Q
open Go.RowKit Go.Proofs.Ytnlnifpehndacaa.G Go.Proofs.Ytnlnifpehndacaa.PL Go.Proofs.YtnlnifpehndacaaW.PrintWords
def clean (s : ByteArray) : Bool := (bs s).all fun b => b != 32 && b != 10
theorem spec_l10Clean_l0 (s : ByteArray) (hs : s.size ≤ 140737488351232) : ∀ (d i : Nat), i + d = s.size → Ev (fun k => spec_l10Clean.l0 k s i) (((bs s).drop i).all fun b => b != 32 && b != 10) := by
 intro d
 induction d with
 | zero =>
  intro i hi
  refine Ev.step (fun _ => rfl) ?_
  simp only [spec_l10Clean.l0]
  refine Ev.neg (by omega) ?_
  rw [List.drop_of_length_le (by rw [bs_length]; omega)]
  exact Ev.const rfl
 | succ d ih =>
  intro i hi
  have hlt : i < s.size := by omega
  refine Ev.step (fun _ => rfl) ?_
  simp only [spec_l10Clean.l0]
  rw [bt_eq s i hlt, drop_bs s i hlt, List.all_cons, wsucc (by omega)]
  refine Ev.pos (by omega) ?_
  refine Ev.pos (by omega) ?_
  generalize (bs s)[i]'_ = b
  by_cases c : (b.toNat : Int) = 32
  ·refine Ev.pos c ?_
   have : b = 32 := (u8_eq (n := 32) (by omega)).1 c
   exact Ev.const (by simp [this])
  ·refine Ev.neg c ?_
   have h1 : ¬ b = 32 := fun h => c ((u8_eq (n := 32) (by omega)).2 h)
   by_cases c2 : (b.toNat : Int) = 10
   ·refine Ev.pos c2 ?_
    have : b = 10 := (u8_eq (n := 10) (by omega)).1 c2
    exact Ev.const (by simp [this])
   ·refine Ev.neg c2 ?_
    have h2 : ¬ b = 10 := fun h => c2 ((u8_eq (n := 10) (by omega)).2 h)
    refine Ev.to (ih (i + 1) (by omega)) ?_
    simp [h1, h2]
theorem spec_l10Clean_ev (s : ByteArray) (hs : s.size ≤ 140737488351232) : Ev (fun k => spec_l10Clean.f k s) (clean s) := by
 unfold spec_l10Clean.f
 exact spec_l10Clean_l0 s hs s.size 0 (by omega)
theorem impl_isPlain_l0 (s : ByteArray) (hs : s.size ≤ 140737488351232) : ∀ (d i : Nat), i + d = s.size → Ev (fun k => impl_isPlain.l0 k s i) (((bs s).drop i).all fun b => b != 32 && b != 10) := by
 intro d
 induction d with
 | zero =>
  intro i hi
  refine Ev.step (fun _ => rfl) ?_
  simp only [impl_isPlain.l0]
  refine Ev.neg (by omega) ?_
  rw [List.drop_of_length_le (by rw [bs_length]; omega)]
  exact Ev.const rfl
 | succ d ih =>
  intro i hi
  have hlt : i < s.size := by omega
  refine Ev.step (fun _ => rfl) ?_
  simp only [impl_isPlain.l0]
  rw [bt_eq s i hlt, drop_bs s i hlt, List.all_cons, wsucc (by omega)]
  refine Ev.pos (by omega) ?_
  refine Ev.pos (by omega) ?_
  generalize (bs s)[i]'_ = b
  by_cases c : (b.toNat : Int) = 32
  ·refine Ev.pos c ?_
   have : b = 32 := (u8_eq (n := 32) (by omega)).1 c
   exact Ev.const (by simp [this])
  ·refine Ev.neg c ?_
   have h1 : ¬ b = 32 := fun h => c ((u8_eq (n := 32) (by omega)).2 h)
   by_cases c2 : (b.toNat : Int) = 10
   ·refine Ev.pos c2 ?_
    have : b = 10 := (u8_eq (n := 10) (by omega)).1 c2
    exact Ev.const (by simp [this])
   ·refine Ev.neg c2 ?_
    have h2 : ¬ b = 10 := fun h => c2 ((u8_eq (n := 10) (by omega)).2 h)
    refine Ev.to (ih (i + 1) (by omega)) ?_
    simp [h1, h2]
theorem impl_isPlain_ev (s : ByteArray) (hs : s.size ≤ 140737488351232) : Ev (fun k => impl_isPlain.f k s) (clean s) := by
 unfold impl_isPlain.f
 exact impl_isPlain_l0 s hs s.size 0 (by omega)
def itemOk (key val : ByteArray) (freq : Int) : Bool := decide (1 ≤ key.size) && decide (key.size ≤ 20) && clean key && decide (val.size ≤ 40) && clean val && decide (0 ≤ freq) && decide (freq ≤ 3)
theorem impl_within_eq (x lo hi : Int) : impl_within.f x lo hi = some (decide (lo ≤ x) && decide (x ≤ hi)) := by
 unfold impl_within.f
 by_cases h : x ≥ lo
 ·rw [if_pos h]; simp [h]
 ·rw [if_neg h]
  have : ¬ lo ≤ x := h
  simp [this]
theorem spec_l01In_eq (x lo hi : Int) : spec_l01In.f x lo hi = some (decide (lo ≤ x) && decide (x ≤ hi)) := by
 unfold spec_l01In.f
 by_cases h : x ≥ lo
 ·rw [if_pos h]; simp [h]
 ·rw [if_neg h]
  have : ¬ lo ≤ x := h
  simp [this]
theorem spec_ItemOk_ev (key val : ByteArray) (freq : Int) (h0 : key.size ≤ 140737488351232) (h1 : val.size ≤ 140737488351232) : Ev (fun k => spec_ItemOk.f k key val freq) (itemOk key val freq) := by
 unfold spec_ItemOk.f itemOk
 by_cases a : 1 ≤ key.size
 rotate_left
 ·exact Ev.neg (by omega) (Ev.const (by simp [a]))
 refine Ev.pos (by omega) ?_
 by_cases b : key.size ≤ 20
 rotate_left
 ·exact Ev.neg (by omega) (Ev.const (by simp [b]))
 refine Ev.pos (by omega) ?_
 refine Ev.bind (spec_l10Clean_ev key h0) ?_
 cases c : clean key
 ·exact Ev.neg (by simp) (Ev.const (by simp))
 refine Ev.pos rfl ?_
 by_cases d : val.size ≤ 40
 rotate_left
 ·exact Ev.neg (by omega) (Ev.const (by simp [d]))
 refine Ev.pos (by omega) ?_
 refine Ev.bind (spec_l10Clean_ev val h1) ?_
 cases e : clean val
 ·exact Ev.neg (by simp) (Ev.const (by simp))
 refine Ev.pos rfl ?_
 refine Ev.bind (Ev.const (spec_l01In_eq _ _ _)) ?_
 exact Ev.const (by simp [a, b, d])
theorem impl_ItemOk_ev (key val : ByteArray) (freq : Int) (h0 : key.size ≤ 140737488351232) (h1 : val.size ≤ 140737488351232) : Ev (fun k => impl_ItemOk.f k key val freq) (itemOk key val freq) := by
 unfold impl_ItemOk.f itemOk
 refine Ev.bind (Ev.const (impl_within_eq _ _ _)) ?_
 by_cases a : 1 ≤ key.size
 rotate_left
 ·exact Ev.neg (by simp; omega) (Ev.const (by simp [a]))
 by_cases b : key.size ≤ 20
 rotate_left
 ·exact Ev.neg (by simp; omega) (Ev.const (by simp [b]))
 refine Ev.pos (by simp; omega) ?_
 by_cases d : val.size ≤ 40
 rotate_left
 ·exact Ev.neg (by omega) (Ev.const (by simp [d]))
 refine Ev.pos (by omega) ?_
 refine Ev.bind (impl_isPlain_ev key h0) ?_
 cases c : clean key
 ·exact Ev.neg (by simp) (Ev.const (by simp))
 refine Ev.pos rfl ?_
 refine Ev.bind (impl_isPlain_ev val h1) ?_
 cases e : clean val
 ·exact Ev.neg (by simp) (Ev.const (by simp))
 refine Ev.pos rfl ?_
 refine Ev.bind (Ev.const (impl_within_eq _ _ _)) ?_
 exact Ev.const (by simp [a, b, d])
def isNum (a : Int) : Bool := decide (0 ≤ a) && decide (a ≤ 4294967295)
theorem spec_l01Num_eq (a : Int) : spec_l01Num.f a = some (isNum a) := by
 unfold spec_l01Num.f isNum
 by_cases h : a ≥ 0
 ·rw [if_pos h]; simp [h]
 ·rw [if_neg h]
  have : ¬ 0 ≤ a := h
  simp [this]
theorem impl_isNum_eq (a : Int) : impl_isNum.f a = some (isNum a) := by
 unfold impl_isNum.f isNum
 rw [impl_within_eq]
 rfl
def dg (n : Nat) : ByteArray := strOfNums [(48 + (n : Int))]
def dec (n : Nat) : ByteArray := if n < 10 then dg n else dec (n / 10) ++ dg (n % 10)
termination_by n
decreasing_by omega
theorem strOfNums_size1 (x : Int) : (strOfNums [x]).size = 1 := by simp [strOfNums, ByteArray.size]
theorem dg_size (n : Nat) : (dg n).size = 1 := strOfNums_size1 _
theorem dec_small {n : Nat} (h : n < 10) : dec n = dg n := by rw [dec, if_pos h]
theorem dec_big {n : Nat} (h : ¬ n < 10) : dec n = dec (n / 10) ++ dg (n % 10) := by rw [dec, if_neg h]
theorem dec_size : ∀ (m n : Nat), n < 10 ^ (m + 1) → 1 ≤ (dec n).size ∧ (dec n).size ≤ m + 1
 | 0, n, h => by rw [dec_small (by simpa using h), dg_size]; omega
 | m + 1, n, h => by
  by_cases c : n < 10
  ·rw [dec_small c, dg_size]; omega
  ·rw [dec_big c, ByteArray.size_append, dg_size]
   have := dec_size m (n / 10) (by rw [Nat.pow_succ] at h; omega)
   omega
theorem dec_size10 {n : Nat} (h : n ≤ 4294967295) : 1 ≤ (dec n).size ∧ (dec n).size ≤ 10 := dec_size 9 n (by omega)
theorem dig_w {n : Nat} (h : n < 10) : wrap64 (48 + (n : Int)) % 256 = 48 + (n : Int) := by rw [w64 (by omega) (by omega)]; omega
theorem tdiv10 (n : Nat) : Int.tdiv (n : Int) 10 = ((n / 10 : Nat) : Int) := by
 rw [Int.tdiv_eq_ediv_of_nonneg (by omega)]; omega
theorem tmod10 (n : Nat) : Int.tmod (n : Int) 10 = ((n % 10 : Nat) : Int) := by
 rw [Int.tmod_eq_emod_of_nonneg (by omega)]; omega
def numText (a : Int) : ByteArray := if isNum a = true then dec a.toNat else ⟨#[]⟩
theorem spec_NumText_nat : ∀ (m n : Nat), n < 10 ^ (m + 1) → n ≤ 4294967295 → Ev (fun k => spec_NumText.f k (n : Int)) (dec n) := by
 intro m
 induction m with
 | zero =>
  intro n h hb
  refine Ev.step (fun _ => rfl) ?_
  simp only [spec_NumText.f]
  refine Ev.bind (Ev.const (spec_l01Num_eq _)) ?_
  refine Ev.pos (by simp [isNum]; omega) ?_
  refine Ev.pos (by simp at h; omega) ?_
  rw [dig_w (by simpa using h), dec_small (by simpa using h)]
  exact Ev.const rfl
 | succ m ih =>
  intro n h hb
  refine Ev.step (fun _ => rfl) ?_
  simp only [spec_NumText.f]
  refine Ev.bind (Ev.const (spec_l01Num_eq _)) ?_
  refine Ev.pos (by simp [isNum]; omega) ?_
  by_cases c : n < 10
  ·refine Ev.pos (by omega) ?_
   rw [dig_w c, dec_small c]
   exact Ev.const rfl
  ·refine Ev.neg (by omega) ?_
   rw [tdiv10, tmod10, dig_w (by omega), w64 (x := ((n / 10 : Nat) : Int)) (by omega) (by omega), dec_big c]
   have hz := dec_size10 (n := n / 10) (by omega)
   have hd := dg_size (n % 10)
   refine Ev.bind (ih (n / 10) (by rw [Nat.pow_succ] at h; omega) (by omega)) ?_
   refine Ev.bind (Ev.const rfl) ?_
   refine Ev.pos ?_ (Ev.const rfl)
   have : (strOfNums [48 + ((n % 10 : Nat) : Int)]).size = 1 := strOfNums_size1 _
   omega
theorem spec_NumText_ev (a : Int) : Ev (fun k => spec_NumText.f k a) (numText a) := by
 unfold numText
 cases c : isNum a
 ·refine Ev.step (fun _ => rfl) ?_
  simp only [spec_NumText.f]
  refine Ev.bind (Ev.const (spec_l01Num_eq _)) ?_
  exact Ev.neg (by simp [c]) (Ev.const (by simp))
 ·have h : 0 ≤ a ∧ a ≤ 4294967295 := by simpa [isNum] using c
  obtain ⟨n, rfl⟩ := Int.eq_ofNat_of_zero_le h.1
  exact spec_NumText_nat 9 n (by omega) (by omega)
theorem impl_NumText_nat : ∀ (m n : Nat) (y : ByteArray), n < 10 ^ (m + 1) → n ≤ 4294967295 → y.size + m ≤ 1000 → Ev (fun k => impl_NumText.l0 k (n : Int) y) (dec n ++ y) := by
 intro m
 induction m with
 | zero =>
  intro n y h hb hy
  have hz : (strOfNums [48 + (n : Int)]).size = 1 := strOfNums_size1 _
  refine Ev.step (fun _ => rfl) ?_
  simp only [impl_NumText.l0]
  refine Ev.neg (by simp at h; omega) ?_
  rw [dig_w (by simpa using h), dec_small (by simpa using h)]
  refine Ev.bind (Ev.const rfl) ?_
  exact Ev.pos (by omega) (Ev.const rfl)
 | succ m ih =>
  intro n y h hb hy
  refine Ev.step (fun _ => rfl) ?_
  simp only [impl_NumText.l0]
  by_cases c : n < 10
  ·have hz : (strOfNums [48 + (n : Int)]).size = 1 := strOfNums_size1 _
   refine Ev.neg (by omega) ?_
   rw [dig_w c, dec_small c]
   refine Ev.bind (Ev.const rfl) ?_
   exact Ev.pos (by omega) (Ev.const rfl)
  ·refine Ev.pos (by omega) ?_
   rw [tdiv10, tmod10, dig_w (by omega), w64 (x := ((n / 10 : Nat) : Int)) (by omega) (by omega), dec_big c]
   have hz : (strOfNums [48 + ((n % 10 : Nat) : Int)]).size = 1 := strOfNums_size1 _
   refine Ev.bind (Ev.const rfl) ?_
   refine Ev.pos (by omega) ?_
   refine Ev.to (ih (n / 10) _ (by rw [Nat.pow_succ] at h; omega) (by omega) (by rw [ByteArray.size_append, hz]; omega)) ?_
   rw [ByteArray.append_assoc]; rfl
theorem impl_NumText_ev (a : Int) : Ev (fun k => impl_NumText.f k a) (numText a) := by
 unfold impl_NumText.f numText
 refine Ev.bind (Ev.const (impl_isNum_eq a)) ?_
 cases c : isNum a
 ·exact Ev.neg (by simp) (Ev.const (by simp))
 ·have h : 0 ≤ a ∧ a ≤ 4294967295 := by simpa [isNum] using c
  obtain ⟨n, rfl⟩ := Int.eq_ofNat_of_zero_le h.1
  refine Ev.pos rfl ?_
  refine Ev.to (impl_NumText_nat 9 n ⟨#[]⟩ (by omega) (by omega) (by rw [show (⟨#[]⟩ : ByteArray).size = 0 from rfl]; omega)) ?_
  rw [append_empty, if_pos rfl, Int.toNat_natCast]
theorem numText_size (a : Int) : (numText a).size ≤ 10 := by
 unfold numText
 cases c : isNum a
 ·exact Nat.zero_le _
 ·have h : 0 ≤ a ∧ a ≤ 4294967295 := by simpa [isNum] using c
  exact (dec_size10 (by omega)).2
theorem numText_nil (a : Int) : numText a = ⟨#[]⟩ ↔ isNum a = false := by
 unfold numText
 cases c : isNum a
 ·simp
 ·have h : 0 ≤ a ∧ a ≤ 4294967295 := by simpa [isNum] using c
  rw [if_pos rfl]
  constructor
  ·intro e
   have := (dec_size10 (n := a.toNat) (by omega)).1
   rw [e] at this
   exact absurd this (by decide)
  ·intro e; cases e
def numFrom : List UInt8 → Int → Option Int
 | [], n => some n
 | b :: r, n => if (b.toNat : Int) < 48 then none else if (b.toNat : Int) > 57 then none else numFrom r (wrap64 (wrap64 (10 * n) + (((b.toNat : Int) - 48) % 256)))
def numEnd (s : ByteArray) : Option Int → Int × Bool
 | some n => if numText n = s then (n, true) else (0, false)
 | none => (0, false)
def textNum (s : ByteArray) : Int × Bool := if 1 ≤ s.size ∧ s.size ≤ 10 then numEnd s (numFrom (bs s) 0) else (0, false)
theorem spec_TextNum_l0 (s : ByteArray) (hs : s.size ≤ 10) : ∀ (d i : Nat) (n : Int), i + d = s.size → Ev (fun k => spec_TextNum.l0 k s n i) (numEnd s (numFrom ((bs s).drop i) n)) := by
 intro d
 induction d with
 | zero =>
  intro i n hi
  refine Ev.step (fun _ => rfl) ?_
  simp only [spec_TextNum.l0]
  refine Ev.neg (by omega) ?_
  rw [List.drop_of_length_le (by rw [bs_length]; omega), numFrom, numEnd]
  refine Ev.bind (spec_NumText_ev n) ?_
  by_cases c : numText n = s
  ·exact Ev.pos (bytes_eq.2 c) (Ev.const (by rw [if_pos c]))
  ·exact Ev.neg (fun h => c (bytes_eq.1 h)) (Ev.const (by rw [if_neg c]))
 | succ d ih =>
  intro i n hi
  have hlt : i < s.size := by omega
  refine Ev.step (fun _ => rfl) ?_
  simp only [spec_TextNum.l0]
  rw [bt_eq s i hlt, drop_bs s i hlt, numFrom, wsucc (by omega)]
  refine Ev.pos (by omega) ?_
  refine Ev.pos (by omega) ?_
  generalize (bs s)[i]'_ = b
  by_cases c : (b.toNat : Int) < 48
  ·exact Ev.pos c (Ev.const (by rw [if_pos c]; rfl))
  refine Ev.neg c ?_
  rw [if_neg c]
  by_cases c2 : (b.toNat : Int) > 57
  ·exact Ev.pos c2 (Ev.const (by rw [if_pos c2]; rfl))
  refine Ev.neg c2 ?_
  rw [if_neg c2]
  first | exact ih (i + 1) _ (by omega) | (rw [Int.mul_comm 10 n]; exact ih (i + 1) _ (by omega))
theorem impl_TextNum_l0 (s : ByteArray) (hs : s.size ≤ 10) : ∀ (d i : Nat) (n : Int), i + d = s.size → Ev (fun k => impl_TextNum.l0 k s n i) (numEnd s (numFrom ((bs s).drop i) n)) := by
 intro d
 induction d with
 | zero =>
  intro i n hi
  refine Ev.step (fun _ => rfl) ?_
  simp only [impl_TextNum.l0]
  refine Ev.neg (by omega) ?_
  rw [List.drop_of_length_le (by rw [bs_length]; omega), numFrom, numEnd]
  refine Ev.bind (impl_NumText_ev n) ?_
  by_cases c : numText n = s
  ·exact Ev.pos (bytes_eq.2 c) (Ev.const (by rw [if_pos c]))
  ·exact Ev.neg (fun h => c (bytes_eq.1 h)) (Ev.const (by rw [if_neg c]))
 | succ d ih =>
  intro i n hi
  have hlt : i < s.size := by omega
  refine Ev.step (fun _ => rfl) ?_
  simp only [impl_TextNum.l0]
  rw [bt_eq s i hlt, drop_bs s i hlt, numFrom, wsucc (by omega)]
  refine Ev.pos (by omega) ?_
  refine Ev.pos (by omega) ?_
  generalize (bs s)[i]'_ = b
  by_cases c : (b.toNat : Int) < 48
  ·exact Ev.pos c (Ev.const (by rw [if_pos c]; rfl))
  refine Ev.neg c ?_
  rw [if_neg c]
  by_cases c2 : (b.toNat : Int) > 57
  ·exact Ev.pos c2 (Ev.const (by rw [if_pos c2]; rfl))
  refine Ev.neg c2 ?_
  rw [if_neg c2]
  first | exact ih (i + 1) _ (by omega) | (rw [Int.mul_comm 10 n]; exact ih (i + 1) _ (by omega))
theorem spec_TextNum_ev (s : ByteArray) : Ev (fun k => spec_TextNum.f k s) (textNum s) := by
 unfold spec_TextNum.f textNum
 by_cases a : 1 ≤ s.size
 rotate_left
 ·refine Ev.pos (by omega) (Ev.step (fun _ => rfl) ?_)
  simp only [spec_TextNum.j0]
  exact Ev.const (by rw [if_neg (by omega)])
 refine Ev.neg (by omega) (Ev.step (fun _ => rfl) ?_)
 simp only [spec_TextNum.j0]
 by_cases b : s.size ≤ 10
 ·refine Ev.neg (by simp; omega) ?_
  rw [if_pos ⟨a, b⟩]
  exact spec_TextNum_l0 s b s.size 0 0 (by omega)
 ·exact Ev.pos (by simp; omega) (Ev.const (by rw [if_neg (by omega)]))
theorem impl_TextNum_ev (s : ByteArray) : Ev (fun k => impl_TextNum.f k s) (textNum s) := by
 unfold impl_TextNum.f textNum
 refine Ev.bind (Ev.const (impl_within_eq _ _ _)) ?_
 by_cases a : 1 ≤ s.size ∧ s.size ≤ 10
 ·refine Ev.pos (by simp; omega) ?_
  rw [if_pos a]
  exact impl_TextNum_l0 s a.2 s.size 0 0 (by omega)
 ·exact Ev.neg (by simp; omega) (Ev.const (by rw [if_neg a]))
theorem numFrom_digits : ∀ (l : List UInt8) (n m : Int), numFrom l n = some m → ∀ b ∈ l, 48 ≤ b.toNat ∧ b.toNat ≤ 57
 | [], _, _, _ => by simp
 | b :: r, n, m, h => by
  rw [numFrom] at h
  by_cases c : (b.toNat : Int) < 48
  ·rw [if_pos c] at h; cases h
  rw [if_neg c] at h
  by_cases c2 : (b.toNat : Int) > 57
  ·rw [if_pos c2] at h; cases h
  rw [if_neg c2] at h
  intro x hx
  rcases List.mem_cons.1 hx with rfl | hx
  ·omega
  ·exact numFrom_digits r _ m h x hx
theorem textNum_ok {s : ByteArray} (h : (textNum s).2 = true) : numText (textNum s).1 = s ∧ ∀ b ∈ bs s, 48 ≤ b.toNat ∧ b.toNat ≤ 57 := by
 unfold textNum at h ⊢
 by_cases a : 1 ≤ s.size ∧ s.size ≤ 10
 rotate_left
 ·rw [if_neg a] at h; cases h
 rw [if_pos a] at h ⊢
 cases e : numFrom (bs s) 0 with
 | none => rw [e] at h; cases h
 | some n =>
  rw [e] at h
  refine ⟨?_, numFrom_digits _ _ _ e⟩
  unfold numEnd at h ⊢
  by_cases c : numText n = s
  ·simp only [if_pos c]
   exact c
  ·simp only [if_neg c] at h
   cases h
theorem textNum_bad {s : ByteArray} (h : (textNum s).2 = false) : (textNum s).1 = 0 := by
 unfold textNum at h ⊢
 by_cases a : 1 ≤ s.size ∧ s.size ≤ 10
 rotate_left
 ·rw [if_neg a]
 rw [if_pos a] at h ⊢
 cases e : numFrom (bs s) 0 with
 | none => rfl
 | some n =>
  rw [e] at h
  unfold numEnd at h ⊢
  by_cases c : numText n = s
  ·simp only [if_pos c] at h
   cases h
  ·simp only [if_neg c]
theorem numText_zero : numText 0 = (⟨#[48]⟩ : ByteArray) := by
 unfold numText
 rw [if_pos (by rfl), show (0 : Int).toNat = 0 from rfl, dec_small (by omega)]
 rfl
theorem textNum_zero : textNum (⟨#[48]⟩ : ByteArray) = (0, true) := by
 unfold textNum
 rw [if_pos (by decide)]
 have e : numFrom [48] 0 = some 0 := by
  unfold numFrom
  rw [if_neg (by decide), if_neg (by decide)]
  unfold numFrom
  rw [show ((UInt8.toNat 48 : Nat) : Int) = 48 from rfl]
  congr 1
  unfold wrap64
  omega
 rw [show bs (⟨#[48]⟩ : ByteArray) = [48] from rfl, e]
 unfold numEnd
 simp only [numText_zero, if_pos]
end Go.Proofs.Ytnlnifpehndacaa.Q

namespace Go.Proofs.Ytnlnifpehndacaa.Q
open Go.RowKit Go.Proofs.Ytnlnifpehndacaa.G Go.Proofs.Ytnlnifpehndacaa.PL Go.Proofs.Ytnlnifpehndacaa.Man Go.Proofs.YtnlnifpehndacaaW.PrintWords
def plain (s : ByteArray) : Bool := (bs s).all fun b => b != 61 && b != 42
theorem plain_mark (s : ByteArray) : hasMark s = !plain s := by
 unfold hasMark plain bs
 induction s.data.toList with
 | nil => rfl
 | cons x r ih => rw [List.any_cons, List.all_cons, ih]; cases h : x == 61 <;> cases h2 : x == 42 <;> simp_all [bne]
theorem plain_append (a b : ByteArray) : plain (a ++ b) = (plain a && plain b) := by
 unfold plain
 rw [bs_append, List.all_append]
theorem spec_l20Plain_l0 (s : ByteArray) (hs : s.size ≤ 140737488351232) : ∀ (d i : Nat), i + d = s.size → Ev (fun k => spec_l20Plain.l0 k s i) (((bs s).drop i).all fun b => b != 61 && b != 42) := by
 intro d
 induction d with
 | zero =>
  intro i hi
  refine Ev.step (fun _ => rfl) ?_
  simp only [spec_l20Plain.l0]
  refine Ev.neg (by omega) ?_
  rw [List.drop_of_length_le (by rw [bs_length]; omega)]
  exact Ev.const rfl
 | succ d ih =>
  intro i hi
  have hlt : i < s.size := by omega
  refine Ev.step (fun _ => rfl) ?_
  simp only [spec_l20Plain.l0]
  rw [bt_eq s i hlt, drop_bs s i hlt, List.all_cons, wsucc (by omega)]
  refine Ev.pos (by omega) ?_
  refine Ev.pos (by omega) ?_
  generalize (bs s)[i]'_ = b
  by_cases c : (b.toNat : Int) = 61
  ·refine Ev.pos c ?_
   have : b = 61 := (u8_eq (n := 61) (by omega)).1 c
   exact Ev.const (by simp [this])
  ·refine Ev.neg c ?_
   have h1 : ¬ b = 61 := fun h => c ((u8_eq (n := 61) (by omega)).2 h)
   by_cases c2 : (b.toNat : Int) = 42
   ·refine Ev.pos c2 ?_
    have : b = 42 := (u8_eq (n := 42) (by omega)).1 c2
    exact Ev.const (by simp [this])
   ·refine Ev.neg c2 ?_
    have h2 : ¬ b = 42 := fun h => c2 ((u8_eq (n := 42) (by omega)).2 h)
    refine Ev.to (ih (i + 1) (by omega)) ?_
    simp [h1, h2]
theorem spec_l20Plain_ev (s : ByteArray) (hs : s.size ≤ 140737488351232) : Ev (fun k => spec_l20Plain.f k s) (plain s) := by
 unfold spec_l20Plain.f
 exact spec_l20Plain_l0 s hs s.size 0 (by omega)
def itemText (key val : ByteArray) (freq : Int) : ByteArray := if itemOk key val freq = true ∧ plain key = true ∧ plain val = true then (((key ++ (⟨#[61]⟩ : ByteArray)) ++ val) ++ (⟨#[42]⟩ : ByteArray)) ++ numText freq else ⟨#[]⟩
theorem itemOk_sizes {key val : ByteArray} {freq : Int} (h : itemOk key val freq = true) : key.size ≤ 20 ∧ val.size ≤ 40 := by
 unfold itemOk at h
 simp only [Bool.and_eq_true, decide_eq_true_eq] at h
 omega
theorem spec_ItemText_ev (key val : ByteArray) (freq : Int) (h0 : key.size ≤ 140737488351232) (h1 : val.size ≤ 140737488351232) : Ev (fun k => spec_ItemText.f k key val freq) (itemText key val freq) := by
 unfold spec_ItemText.f itemText
 refine Ev.bind (spec_ItemOk_ev key val freq h0 h1) ?_
 cases a : itemOk key val freq
 ·exact Ev.neg (by simp) (Ev.const (by simp))
 have hs := itemOk_sizes a
 have hn := numText_size freq
 refine Ev.pos rfl ?_
 refine Ev.bind (spec_l20Plain_ev key h0) ?_
 cases b : plain key
 ·exact Ev.neg (by simp) (Ev.const (by simp))
 refine Ev.pos rfl ?_
 refine Ev.bind (spec_l20Plain_ev val h1) ?_
 cases c : plain val
 ·exact Ev.neg (by simp) (Ev.const (by simp))
 refine Ev.pos rfl ?_
 refine Ev.pos (by omega) (Ev.pos (by omega) (Ev.pos (by omega) ?_))
 refine Ev.bind (spec_NumText_ev freq) ?_
 exact Ev.pos (by omega) (Ev.const (by simp))
theorem impl_ItemText_ev (key val : ByteArray) (freq : Int) (h0 : key.size ≤ 140737488351232) (h1 : val.size ≤ 140737488351232) : Ev (fun k => impl_ItemText.f k key val freq) (itemText key val freq) := by
 unfold impl_ItemText.f itemText
 refine Ev.bind (impl_ItemOk_ev key val freq h0 h1) ?_
 cases a : itemOk key val freq
 ·exact Ev.neg (by simp) (Ev.const (by simp))
 have hs := itemOk_sizes a
 have hn := numText_size freq
 refine Ev.pos rfl (Ev.pos (by omega) ?_)
 refine Ev.bind (Ev.const (show strings_ContainsAny.f (key ++ val) (⟨#[61, 42]⟩ : ByteArray) = some (hasMark (key ++ val)) from if_pos ⟨rfl, by rw [ByteArray.size_append]; omega⟩)) ?_
 rw [plain_mark, plain_append]
 cases b : plain key
 ·exact Ev.pos (by simp) (Ev.const (by simp))
 cases c : plain val
 ·exact Ev.pos (by simp) (Ev.const (by simp))
 refine Ev.neg (by simp) ?_
 refine Ev.pos (by omega) (Ev.pos (by omega) (Ev.pos (by omega) ?_))
 refine Ev.bind (impl_NumText_ev freq) ?_
 exact Ev.pos (by omega) (Ev.const (by simp))
end Go.Proofs.Ytnlnifpehndacaa.Q

namespace Go.Proofs.Ytnlnifpehndacaa.Q
open Go.RowKit Go.Proofs.Ytnlnifpehndacaa.G Go.Proofs.Ytnlnifpehndacaa.PL Go.Proofs.Ytnlnifpehndacaa.CutL Go.Proofs.YtnlnifpehndacaaW.PrintWords
def mk (l : List UInt8) : ByteArray := ⟨l.toArray⟩
theorem bs_of_mk (l : List UInt8) : bs (mk l) = l := bs_mk l
theorem mk_of_bs (s : ByteArray) : mk (bs s) = s := bs_inj (bs_mk _)
theorem extract_mk (s : ByteArray) (a b : Nat) : s.extract a b = mk (((bs s).drop a).take (b - a)) := Lib.extract_eq s a b
def prep (p : List UInt8) : List (List UInt8) → List (List UInt8)
 | [] => [p]
 | h :: t => (p ++ h) :: t
def splitB (c : UInt8) : List UInt8 → List (List UInt8)
 | [] => [[]]
 | b :: r => if b = c then [] :: splitB c r else prep [b] (splitB c r)
theorem splitB_ne (c : UInt8) : ∀ l, ∃ h t, splitB c l = h :: t
 | [] => ⟨[], [], rfl⟩
 | b :: r => by
  rw [splitB]
  by_cases e : b = c
  ·rw [if_pos e]; exact ⟨_, _, rfl⟩
  ·obtain ⟨h, t, q⟩ := splitB_ne c r
   rw [if_neg e, q]; exact ⟨_, _, rfl⟩
theorem prep_prep (p q : List UInt8) (l : List (List UInt8)) : prep p (prep q l) = prep (p ++ q) l := by
 cases l <;> simp [prep]
theorem prep_nil {c : UInt8} {l : List UInt8} : prep [] (splitB c l) = splitB c l := by
 obtain ⟨h, t, q⟩ := splitB_ne c l
 rw [q]; rfl
theorem take_snoc (l : List UInt8) (f i : Nat) (h : f ≤ i) (hi : i < l.length) : (l.drop f).take (i + 1 - f) = (l.drop f).take (i - f) ++ [l[i]] := by
 have e : i + 1 - f = (i - f) + 1 := by omega
 rw [e, List.take_add_one, List.getElem?_drop, show f + (i - f) = i by omega, List.getElem?_eq_getElem hi]
 rfl
theorem spec_l01Cut_l0 (s : ByteArray) (c : UInt8) (hs : s.size ≤ 1048576) : ∀ (d i f : Nat) (out : List ByteArray), i + d = s.size → f ≤ i → out.length ≤ i → Ev (fun k => spec_l01Cut.l0 k s (c.toNat : Int) out (f : Int) (i : Int)) (out ++ (prep (((bs s).drop f).take (i - f)) (splitB c ((bs s).drop i))).map mk) := by
 intro d
 induction d with
 | zero =>
  intro i f out hi hf ho
  refine Ev.step (fun _ => rfl) ?_
  simp only [spec_l01Cut.l0]
  refine Ev.neg (by omega) (Ev.pos (by omega) (Ev.pos (by omega) (Ev.pos (by omega) ?_)))
  rw [List.drop_of_length_le (i := i) (by rw [bs_length]; omega), splitB, prep, Int.toNat_natCast, extract_mk, show s.size = i by omega]
  exact Ev.const (by simp)
 | succ d ih =>
  intro i f out hi hf ho
  have hlt : i < s.size := by omega
  refine Ev.step (fun _ => rfl) ?_
  simp only [spec_l01Cut.l0]
  rw [bt_eq s i hlt, drop_bs s i hlt, wsucc (by omega), splitB]
  refine Ev.pos (by omega) (Ev.pos (by omega) ?_)
  have hsn := take_snoc (bs s) f i hf (by rw [bs_length]; omega)
  generalize (bs s)[i]'_ = b at hsn ⊢
  by_cases e : b = c
  ·refine Ev.pos (by rw [e]) (Ev.pos (by omega) (Ev.pos (by omega) (Ev.pos (by omega) (Ev.pos (by omega) ?_))))
   have h := ih (i + 1) (i + 1) (out ++ [s.extract f i]) (by omega) (by omega) (by rw [List.length_append, List.length_singleton]; omega)
   simp only [Int.toNat_natCast]
   refine Ev.to h ?_
   rw [if_pos e, Nat.sub_self, List.take_zero, prep_nil, extract_mk]
   simp [prep]
  ·refine Ev.neg (fun h => e (UInt8.toNat.inj (by omega))) ?_
   have h := ih (i + 1) f out (by omega) (by omega) (by omega)
   refine Ev.to h ?_
   rw [if_neg e, prep_prep, hsn]
theorem spec_l01Cut_ev (s : ByteArray) (c : UInt8) (hs : s.size ≤ 1048576) : Ev (fun k => spec_l01Cut.f k s (c.toNat : Int)) ((splitB c (bs s)).map mk) := by
 unfold spec_l01Cut.f
 refine Ev.to (spec_l01Cut_l0 s c hs s.size 0 0 [] (by omega) (by omega) (by simp)) ?_
 rw [Nat.sub_self, List.take_zero, List.drop_zero, prep_nil, List.nil_append]
/-- the first instance of a byte, and what the cut tells -/
theorem split_idx (c : UInt8) : ∀ l : List UInt8, (Lib.indexByte l c = -1 ∧ splitB c l = [l]) ∨ ∃ i : Nat, Lib.indexByte l c = i ∧ i < l.length ∧ splitB c l = l.take i :: splitB c (l.drop (i + 1)) ∧ l = l.take i ++ c :: l.drop (i + 1)
 | [] => Or.inl ⟨rfl, rfl⟩
 | b :: r => by
  rw [splitB]
  unfold Lib.indexByte
  by_cases e : b = c
  ·refine Or.inr ⟨0, ?_, by simp, ?_, ?_⟩
   ·simp [e]
   ·simp [e]
   ·simp [e]
  ·have e2 : (b == c) = false := beq_eq_false_iff_ne.2 e
   rw [if_neg e, e2]
   rcases split_idx c r with ⟨h1, h2⟩ | ⟨i, h1, h2, h3, h4⟩
   ·refine Or.inl ⟨?_, ?_⟩
    ·rw [h1]; rfl
    ·rw [h2]; rfl
   ·refine Or.inr ⟨i + 1, ?_, ?_, ?_, ?_⟩
    ·have : ¬ ((i : Int) = -1) := by omega
     rw [h1]; simp [this]
    ·rw [List.length_cons]; omega
    ·rw [h3]; rfl
    ·show b :: r = b :: (r.take i ++ c :: r.drop (i + 1))
     rw [← h4]
end Go.Proofs.Ytnlnifpehndacaa.Q

namespace Go.Proofs.Ytnlnifpehndacaa.Q
open Go.RowKit Go.Proofs.Ytnlnifpehndacaa.G Go.Proofs.Ytnlnifpehndacaa.PL Go.Proofs.Ytnlnifpehndacaa.Man Go.Proofs.Ytnlnifpehndacaa.CutL Go.Proofs.YtnlnifpehndacaaW.PrintWords
theorem cutAt_none {s : ByteArray} {c : UInt8} (h : Lib.indexByte (bs s) c = -1) : cutAt s c = (s, ByteArray.empty, false) := by
 have h : Lib.indexByte s.data.toList c = -1 := h
 unfold cutAt
 rw [h, if_neg (by omega)]
theorem cutAt_some {s : ByteArray} {c : UInt8} {i : Nat} (h : Lib.indexByte (bs s) c = i) : cutAt s c = (mk ((bs s).take i), mk ((bs s).drop (i + 1)), true) := by
 have h : Lib.indexByte s.data.toList c = i := h
 unfold cutAt
 rw [h, if_pos (by omega), Int.toNat_natCast, extract_mk, extract_mk, List.drop_zero, Nat.sub_zero, List.take_of_length_le (l := (bs s).drop (i + 1)) (by rw [List.length_drop, bs_length]; omega)]
theorem mk_size (l : List UInt8) : (mk l).size = l.length := by rw [← bs_length, bs_of_mk]
theorem cutAt_size (s : ByteArray) (c : UInt8) : (cutAt s c).1.size ≤ s.size ∧ (cutAt s c).2.1.size ≤ s.size := by
 rcases split_idx c (bs s) with ⟨h, _⟩ | ⟨i, h, hi, _⟩
 ·rw [cutAt_none h]; exact ⟨Nat.le_refl _, Nat.zero_le _⟩
 ·rw [cutAt_some h]
  refine ⟨?_, ?_⟩
  ·rw [mk_size, List.length_take, bs_length]; omega
  ·rw [mk_size, List.length_drop, bs_length]; omega
def textItem (s : ByteArray) : ByteArray × ByteArray × Int × Bool :=
 if (cutAt s 61).2.2 = true ∧ (cutAt (cutAt s 61).2.1 42).2.2 = true ∧ (textNum (cutAt (cutAt s 61).2.1 42).2.1).2 = true ∧ itemText (cutAt s 61).1 (cutAt (cutAt s 61).2.1 42).1 (textNum (cutAt (cutAt s 61).2.1 42).2.1).1 = s
 then ((cutAt s 61).1, (cutAt (cutAt s 61).2.1 42).1, (textNum (cutAt (cutAt s 61).2.1 42).2.1).1, true) else ((⟨#[]⟩ : ByteArray), (⟨#[]⟩ : ByteArray), 0, false)
theorem impl_TextItem_ev (s : ByteArray) (hs : s.size ≤ 1048576) : Ev (fun k => impl_TextItem.f k s) (textItem s) := by
 unfold impl_TextItem.f textItem
 have z1 := cutAt_size s 61
 have z2 := cutAt_size (cutAt s 61).2.1 42
 refine Ev.bind (Ev.const (show strings_Cut.f s (⟨#[61]⟩ : ByteArray) = some (cutAt s 61) from by unfold strings_Cut.f; rw [if_pos (by omega), if_pos rfl])) ?_
 refine Ev.bind (Ev.const (show strings_Cut.f (cutAt s 61).2.1 (⟨#[42]⟩ : ByteArray) = some (cutAt (cutAt s 61).2.1 42) from by unfold strings_Cut.f; rw [if_pos (by omega), if_neg (by decide), if_pos rfl])) ?_
 refine Ev.bind (impl_TextNum_ev _) ?_
 by_cases a : (cutAt s 61).2.2 = true
 rotate_left
 ·exact Ev.neg a (Ev.const (by rw [if_neg (fun h => a h.1)]))
 refine Ev.pos a ?_
 by_cases b : (cutAt (cutAt s 61).2.1 42).2.2 = true
 rotate_left
 ·exact Ev.neg b (Ev.const (by rw [if_neg (fun h => b h.2.1)]))
 refine Ev.pos b ?_
 by_cases c : (textNum (cutAt (cutAt s 61).2.1 42).2.1).2 = true
 rotate_left
 ·exact Ev.neg c (Ev.const (by rw [if_neg (fun h => c h.2.2.1)]))
 refine Ev.pos c ?_
 refine Ev.bind (impl_ItemText_ev _ _ _ (by omega) (by omega)) ?_
 by_cases d : itemText (cutAt s 61).1 (cutAt (cutAt s 61).2.1 42).1 (textNum (cutAt (cutAt s 61).2.1 42).2.1).1 = s
 ·exact Ev.pos (bytes_eq.2 d) (Ev.const (by rw [if_pos ⟨a, b, c, d⟩]))
 ·exact Ev.neg (fun h => d (bytes_eq.1 h)) (Ev.const (by rw [if_neg (fun h => d h.2.2.2)]))
theorem item_marks {key val s : ByteArray} {n : Int} (h : itemText key val n = s) (hs : s ≠ (⟨#[]⟩ : ByteArray)) : plain key = true ∧ plain val = true ∧ bs s = bs key ++ 61 :: (bs val ++ 42 :: bs (numText n)) := by
 unfold itemText at h
 by_cases c : itemOk key val n = true ∧ plain key = true ∧ plain val = true
 ·rw [if_pos c] at h
  refine ⟨c.2.1, c.2.2, ?_⟩
  rw [← h]
  simp only [bs_append]
  rw [show bs (⟨#[61]⟩ : ByteArray) = [61] from rfl, show bs (⟨#[42]⟩ : ByteArray) = [42] from rfl]
  simp
 ·rw [if_neg c] at h
  exact absurd h.symm hs
theorem plain_not {s : ByteArray} (h : plain s = true) : (61 : UInt8) ∉ bs s ∧ (42 : UInt8) ∉ bs s := by
 unfold plain at h
 rw [List.all_eq_true] at h
 exact ⟨fun m => absurd (h _ m) (by decide), fun m => absurd (h _ m) (by decide)⟩
theorem digits_not {s : ByteArray} (h : (textNum s).2 = true) : (61 : UInt8) ∉ bs s ∧ (42 : UInt8) ∉ bs s := by
 have hd := (textNum_ok h).2
 exact ⟨fun m => absurd (hd _ m) (by decide), fun m => absurd (hd _ m) (by decide)⟩
theorem mem_of_split {c : UInt8} {l : List UInt8} {i : Nat} (h : l = l.take i ++ c :: l.drop (i + 1)) : c ∈ l := by
 rw [h]; simp
theorem spec_TextItem_ev (s : ByteArray) (hs : s.size ≤ 1048576) : Ev (fun k => spec_TextItem.f k s) (textItem s) := by
 unfold spec_TextItem.f textItem
 have h61 : Ev (fun k => spec_l01Cut.f k s 61) _ := spec_l01Cut_ev s 61 hs
 refine Ev.bind h61 ?_
 clear h61
 rcases split_idx 61 (bs s) with ⟨h1, h2⟩ | ⟨i, h1, h2, h3, h4⟩
 ·rw [h2, cutAt_none h1]
  exact Ev.neg (by simp) (Ev.const (by simp))
 rw [h3, cutAt_some h1]
 have hi : i < s.size := by rw [bs_length] at h2; exact h2
 have hK : ((bs s).take i).length ≤ 1048576 := by rw [List.length_take, bs_length]; omega
 have hR : ((bs s).drop (i + 1)).length ≤ 1048576 := by rw [List.length_drop, bs_length]; omega
 have hne : s ≠ (⟨#[]⟩ : ByteArray) := by intro e; rw [e] at hi; exact absurd hi (by simp [ByteArray.size])
 clear h1 h2 h3 hi
 generalize (bs s).take i = K at *
 generalize (bs s).drop (i + 1) = R at *
 rcases split_idx 61 R with ⟨g1, g2⟩ | ⟨j, g1, g2, g3, g4⟩
 rotate_left
 ·-- a second 61
  have hm : (61 : UInt8) ∈ R := mem_of_split g4
  have hl : ∀ x y : List UInt8, ¬ (((List.map mk (K :: x :: splitB 61 y)).length : Int) = 2) := by
   intro x y
   obtain ⟨h, t, q⟩ := splitB_ne 61 y
   rw [q]; simp; omega
  rw [g3]
  refine Ev.neg (hl _ _) (Ev.const ?_)
  rw [if_neg]
  rintro ⟨_, hb, hn, he⟩
  simp only at hb hn he
  rcases split_idx 42 R with ⟨k1, k2⟩ | ⟨k, k1, k2, k3, k4⟩
  ·rw [cutAt_none (by rw [bs_of_mk]; exact k1)] at hb; cases hb
  ·rw [cutAt_some (by rw [bs_of_mk]; exact k1), bs_of_mk] at hn he
   have hp := (plain_not (item_marks he hne).2.1).1
   have hd := (digits_not hn).1
   rw [bs_of_mk] at hp hd
   rw [k4] at hm
   rcases List.mem_append.1 hm with h | h
   ·exact hp h
   ·rcases List.mem_cons.1 h with h | h
    ·exact absurd h (by decide)
    ·exact hd h
 rw [g2]
 refine Ev.pos (by simp) (Ev.pos (by simp) ?_)
 have er1 : rdOf ByteArray.empty (List.map mk [K, R]) 1 = mk R := rfl
 have er0 : rdOf ByteArray.empty (List.map mk [K, R]) 0 = mk K := rfl
 rw [er1, er0]
 have h42 : Ev (fun k => spec_l01Cut.f k (mk R) 42) _ := spec_l01Cut_ev (mk R) 42 (by rw [mk_size]; exact hR)
 refine Ev.bind h42 ?_
 clear h42 er0 er1
 rw [bs_of_mk]
 rcases split_idx 42 R with ⟨k1, k2⟩ | ⟨k, k1, k2, k3, k4⟩
 ·rw [k2, cutAt_none (s := mk R) (c := 42) (by rw [bs_of_mk]; exact k1)]
  exact Ev.neg (by simp) (Ev.const (by simp))
 rw [k3, cutAt_some (s := mk R) (c := 42) (by rw [bs_of_mk]; exact k1), bs_of_mk]
 have hV : (R.take k).length ≤ 1048576 := by rw [List.length_take]; omega
 clear k1 k2 k3
 generalize R.take k = V at *
 generalize R.drop (k + 1) = F at *
 simp only
 rcases split_idx 42 F with ⟨m1, m2⟩ | ⟨m, m1, m2, m3, m4⟩
 rotate_left
 ·have hm : (42 : UInt8) ∈ F := mem_of_split m4
  have hl : ∀ x y : List UInt8, ¬ (((List.map mk (V :: x :: splitB 42 y)).length : Int) = 2) := by
   intro x y
   obtain ⟨h, t, q⟩ := splitB_ne 42 y
   rw [q]; simp; omega
  rw [m3]
  refine Ev.neg (hl _ _) (Ev.const ?_)
  rw [if_neg]
  rintro ⟨_, _, hn, _⟩
  have hd := (digits_not hn).2
  rw [bs_of_mk] at hd
  exact hd hm
 rw [m2]
 refine Ev.pos (by simp) (Ev.pos (by simp) ?_)
 have er1 : rdOf ByteArray.empty (List.map mk [V, F]) 1 = mk F := rfl
 have er0 : rdOf ByteArray.empty (List.map mk [V, F]) 0 = mk V := rfl
 rw [er1, er0]
 refine Ev.bind (spec_TextNum_ev (mk F)) ?_
 refine Ev.pos (by simp) (Ev.pos (by simp) ?_)
 refine Ev.bind (spec_ItemText_ev _ _ _ (by rw [mk_size]; omega) (by rw [mk_size]; omega)) ?_
 by_cases d : itemText (mk K) (mk V) (textNum (mk F)).1 = s
 ·refine Ev.pos (bytes_eq.2 d) (Ev.const ?_)
  have hn : (textNum (mk F)).2 = true := by
   cases q : (textNum (mk F)).2
   ·have hz := textNum_bad q
    rw [hz] at d
    have hb := (item_marks d hne).2.2
    rw [h4, k4, bs_of_mk, bs_of_mk] at hb
    have hb := (List.cons.inj (List.append_cancel_left (List.cons.inj (List.append_cancel_left hb)).2)).2
    have hF : mk F = (⟨#[48]⟩ : ByteArray) := by rw [hb, mk_of_bs, numText_zero]
    rw [hF, textNum_zero] at q
    cases q
   ·rfl
  rw [if_pos ⟨trivial, trivial, hn, d⟩]
 ·exact Ev.neg (fun h => d (bytes_eq.1 h)) (Ev.const (by rw [if_neg (fun h => d h.2.2.2)]))
end Go.Proofs.Ytnlnifpehndacaa.Q

namespace Go.Proofs.Ytnlnifpehndacaa.Q
open Go.RowKit Go.Proofs.Ytnlnifpehndacaa.G Go.Proofs.Ytnlnifpehndacaa.PL Go.Proofs.YtnlnifpehndacaaW.PrintWords Go.Proofs.YtnlnifpehndacaaW.PrintLast
abbrev It := S76
def small (l : List It) : Prop := l.length ≤ 4194304 ∧ ∀ x ∈ l, x.f0.size ≤ 140737488351232 ∧ x.f1.size ≤ 140737488351232
theorem spec_l10At_l0 (key : ByteArray) (l : List It) (hl : l.length ≤ 4194304) : ∀ (d i : Nat), i + d = l.length → Ev (fun k => spec_l10At.l0 k key l (l.length : Int) (i : Int)) (impl_itemAt.idx key (l.drop i) i) := by
 intro d
 induction d with
 | zero =>
  intro i hi
  rw [List.drop_of_length_le (by omega)]
  refine Ev.step (fun _ => rfl) ?_
  simp only [spec_l10At.l0]
  exact Ev.neg (by omega) (Ev.const (by rw [impl_itemAt.idx]))
 | succ d ih =>
  intro i hi
  have hx : i < l.length := by omega
  have er : rd_T76 l (i : Int) = l[i] := getD_at hx _
  refine Ev.step (fun _ => rfl) ?_
  simp only [spec_l10At.l0]
  rw [er, drop_at hx, impl_itemAt.idx]
  refine Ev.pos (by omega) (Ev.pos (by omega) (Ev.pos (by omega) ?_))
  by_cases c : l[i].f0.toList = key.toList
  ·exact Ev.pos c (Ev.const (by rw [if_pos c]))
  ·refine Ev.neg c ?_
   rw [if_neg c, wsucc (by omega)]
   exact ih (i + 1) (by omega)
theorem spec_l10At_ev (l : List It) (key : ByteArray) (hl : l.length ≤ 4194304) : Ev (fun k => spec_l10At.f k l key) (impl_itemAt.idx key l 0) := by
 unfold spec_l10At.f
 exact spec_l10At_l0 key l hl l.length 0 (by omega)
theorem spec_l03Has_l0 (a : Int) (l : List Int) (hl : l.length ≤ 140737488351232) : ∀ (d i : Nat), i + d = l.length → Ev (fun k => spec_l03Has.l0 k a l (l.length : Int) (i : Int)) (decide (a ∈ l.drop i)) := by
 intro d
 induction d with
 | zero =>
  intro i hi
  rw [List.drop_of_length_le (by omega)]
  refine Ev.step (fun _ => rfl) ?_
  simp only [spec_l03Has.l0]
  exact Ev.neg (by omega) (Ev.const (by simp))
 | succ d ih =>
  intro i hi
  have hx : i < l.length := by omega
  have er : rd l (i : Int) = l[i] := getD_at hx _
  refine Ev.step (fun _ => rfl) ?_
  simp only [spec_l03Has.l0]
  rw [er, drop_at hx]
  refine Ev.pos (by omega) (Ev.pos (by omega) (Ev.pos (by omega) ?_))
  by_cases c : l[i] = a
  ·exact Ev.pos c (Ev.const (by simp [c]))
  ·refine Ev.neg c ?_
   rw [wsucc (by omega)]
   refine Ev.to (ih (i + 1) (by omega)) ?_
   have c' : ¬ a = l[i] := fun h => c h.symm
   simp only [List.mem_cons, c', false_or]
theorem spec_l03Has_ev (l : List Int) (a : Int) (hl : l.length ≤ 140737488351232) : Ev (fun k => spec_l03Has.f k l a) (decide (a ∈ l)) := by
 unfold spec_l03Has.f
 exact spec_l03Has_l0 a l hl l.length 0 (by omega)
def posI (a : Int) : List Int → Nat → Int
 | [], _ => -1
 | x :: r, i => if a = x then (i : Int) else posI a r (i + 1)
theorem posI_ge (a : Int) : ∀ (l : List Int) (i : Nat), decide (posI a l i ≥ 0) = decide (a ∈ l)
 | [], i => by simp [posI]
 | x :: r, i => by
  rw [posI]
  by_cases c : a = x
  ·rw [if_pos c]; simp [c]
  ·rw [if_neg c, posI_ge a r (i + 1)]; simp [c]
theorem slices_Index_l0 (a : Int) (l : List Int) (hl : l.length ≤ 140737488351232) : ∀ (d i : Nat), i + d = l.length → Ev (fun k => slices_Index_int_int.l0 k l a (l.length : Int) (i : Int)) (posI a (l.drop i) i) := by
 intro d
 induction d with
 | zero =>
  intro i hi
  rw [List.drop_of_length_le (by omega)]
  refine Ev.step (fun _ => rfl) ?_
  simp only [slices_Index_int_int.l0]
  exact Ev.neg (by omega) (Ev.const rfl)
 | succ d ih =>
  intro i hi
  have hx : i < l.length := by omega
  have er : rd l (i : Int) = l[i] := getD_at hx _
  refine Ev.step (fun _ => rfl) ?_
  simp only [slices_Index_int_int.l0]
  rw [er, drop_at hx, posI]
  refine Ev.pos (by omega) (Ev.pos (by omega) (Ev.pos (by omega) ?_))
  by_cases c : a = l[i]
  ·exact Ev.pos c (Ev.const (by rw [if_pos c]))
  ·refine Ev.neg c ?_
   rw [if_neg c, wsucc (by omega)]
   exact ih (i + 1) (by omega)
theorem slices_Contains_ev (l : List Int) (a : Int) (hl : l.length ≤ 140737488351232) : Ev (fun k => slices_Contains_int_int.f k l a) (decide (a ∈ l)) := by
 unfold slices_Contains_int_int.f slices_Index_int_int.f
 refine Ev.bind (slices_Index_l0 a l hl l.length 0 (by omega)) (Ev.const ?_)
 rw [List.drop_zero, posI_ge]
def goodFrom (all : List It) : Nat → List It → Bool
 | _, [] => true
 | i, x :: r => itemOk x.f0 x.f1 x.f2 && (decide (impl_itemAt.idx x.f0 all 0 = (i : Int)) && goodFrom all (i + 1) r)
def numsFrom (g : List Int) : Nat → List Int → Bool
 | _, [] => true
 | i, x :: r => isNum x && (!decide (x ∈ g.take i) && numsFrom g (i + 1) r)
def threeOk (cap most : Int) (s m : List It) (g : List Int) : Bool := decide (1 ≤ cap ∧ cap ≤ 60) && (decide (1 ≤ most ∧ most ≤ cap) && (decide (((s.length + m.length : Nat) : Int) ≤ cap) && (decide ((g.length : Int) ≤ max 1 (cap - most)) && (goodFrom (s ++ m) 0 (s ++ m) && numsFrom g 0 g))))
theorem impl_areItems_l0 (l : List It) (hl : small l) : ∀ (d i : Nat), i + d = l.length → Ev (fun k => impl_areItems.l0 k l l (l.length : Int) (i : Int)) (goodFrom l i (l.drop i)) := by
 have hl1 := hl.1
 intro d
 induction d with
 | zero =>
  intro i hi
  rw [List.drop_of_length_le (by omega)]
  refine Ev.step (fun _ => rfl) ?_
  simp only [impl_areItems.l0]
  exact Ev.neg (by omega) (Ev.const rfl)
 | succ d ih =>
  intro i hi
  have hx : i < l.length := by omega
  have hm := hl.2 l[i] (List.getElem_mem hx)
  have er : rd_T76 l (i : Int) = l[i] := getD_at hx _
  refine Ev.step (fun _ => rfl) ?_
  simp only [impl_areItems.l0]
  rw [er, drop_at hx, goodFrom]
  refine Ev.pos (by omega) (Ev.pos (by omega) (Ev.pos (by omega) ?_))
  refine Ev.bind (impl_ItemOk_ev _ _ _ hm.1 hm.2) ?_
  cases c : itemOk l[i].f0 l[i].f1 l[i].f2
  ·exact Ev.neg (by simp) (Ev.const rfl)
  refine Ev.pos rfl ?_
  refine Ev.bind (Ev.const (show impl_itemAt.f l l[i].f0 = some _ from rfl)) ?_
  by_cases e : impl_itemAt.idx l[i].f0 l 0 = (i : Int)
  ·refine Ev.pos e ?_
   rw [wsucc (by omega)]
   refine Ev.to (ih (i + 1) (by omega)) ?_
   simp [e]
  ·exact Ev.neg e (Ev.const (by simp [e]))
theorem impl_areItems_ev (l : List It) (hl : small l) : Ev (fun k => impl_areItems.f k l) (goodFrom l 0 l) := by
 unfold impl_areItems.f
 exact impl_areItems_l0 l hl l.length 0 (by omega)
theorem append_small {s m : List It} (hs : s.length ≤ 2097152 ∧ ∀ x ∈ s, x.f0.size ≤ 140737488351232 ∧ x.f1.size ≤ 140737488351232) (hm : m.length ≤ 2097152 ∧ ∀ x ∈ m, x.f0.size ≤ 140737488351232 ∧ x.f1.size ≤ 140737488351232) : small (s ++ m) := by
 refine ⟨by rw [List.length_append]; omega, fun x hx => ?_⟩
 rcases List.mem_append.1 hx with h | h
 ·exact hs.2 x h
 ·exact hm.2 x h
theorem impl_ThreeOk_l0 (cap most : Int) (s m : List It) (g : List Int) (hs : s.length ≤ 2097152 ∧ ∀ x ∈ s, x.f0.size ≤ 140737488351232 ∧ x.f1.size ≤ 140737488351232) (hm : m.length ≤ 2097152 ∧ ∀ x ∈ m, x.f0.size ≤ 140737488351232 ∧ x.f1.size ≤ 140737488351232) (hg : g.length ≤ 2097152) : ∀ (d i : Nat), i + d = g.length →
  Ev (fun k => impl_ThreeOk.l0 k g (g.length : Int) (i : Int) cap most s m g) (numsFrom g i (g.drop i) && (decide (((s.length + m.length : Nat) : Int) ≤ cap) && goodFrom (s ++ m) 0 (s ++ m))) := by
 intro d
 induction d with
 | zero =>
  intro i hi
  rw [List.drop_of_length_le (by omega), numsFrom, Bool.true_and]
  refine Ev.step (fun _ => rfl) ?_
  simp only [impl_ThreeOk.l0]
  refine Ev.neg (by omega) ?_
  refine Ev.bind (Ev.const (show impl_copyItems.f s = some s from by unfold impl_copyItems.f; rw [if_pos (by simp; omega)]; simp)) ?_
  refine Ev.pos (by omega) ?_
  refine Ev.bind (Ev.const rfl) ?_
  by_cases c : ((s.length + m.length : Nat) : Int) ≤ cap
  ·refine Ev.pos (by rw [List.length_append]; exact c) ?_
   refine Ev.bind (impl_areItems_ev _ (append_small hs hm)) (Ev.const ?_)
   rw [decide_eq_true c, Bool.true_and]
  ·refine Ev.neg (by rw [List.length_append]; exact c) (Ev.const ?_)
   rw [decide_eq_false c, Bool.false_and]
 | succ d ih =>
  intro i hi
  have hx : i < g.length := by omega
  have er : rd g (i : Int) = g[i] := getD_at hx _
  refine Ev.step (fun _ => rfl) ?_
  simp only [impl_ThreeOk.l0]
  rw [er, drop_at hx, numsFrom]
  refine Ev.pos (by omega) (Ev.pos (by omega) (Ev.pos (by omega) ?_))
  refine Ev.bind (Ev.const (impl_isNum_eq _)) ?_
  cases c : isNum g[i]
  ·exact Ev.neg (by simp) (Ev.const rfl)
  refine Ev.pos rfl (Ev.pos (by omega) ?_)
  rw [Int.toNat_natCast]
  refine Ev.bind (slices_Contains_ev _ _ (by rw [List.length_take]; omega)) ?_
  by_cases e : g[i] ∈ g.take i
  ·exact Ev.pos (by simp [e]) (Ev.const (by simp [e]))
  ·refine Ev.neg (by simp [e]) ?_
   rw [wsucc (by omega)]
   refine Ev.to (ih (i + 1) (by omega)) ?_
   simp [e]
theorem impl_ThreeOk_ev (cap most : Int) (s m : List It) (g : List Int) (hs : s.length ≤ 2097152 ∧ ∀ x ∈ s, x.f0.size ≤ 140737488351232 ∧ x.f1.size ≤ 140737488351232) (hm : m.length ≤ 2097152 ∧ ∀ x ∈ m, x.f0.size ≤ 140737488351232 ∧ x.f1.size ≤ 140737488351232) (hg : g.length ≤ 2097152) : Ev (fun k => impl_ThreeOk.f k cap most s m g) (threeOk cap most s m g) := by
 unfold impl_ThreeOk.f threeOk
 have hj : Ev (fun k => impl_ThreeOk.j0 k true cap most s m g) false := by
  refine Ev.step (fun _ => rfl) ?_
  simp only [impl_ThreeOk.j0]
  exact Ev.const rfl
 refine Ev.bind (Ev.const (impl_within_eq _ _ _)) ?_
 by_cases a : 1 ≤ cap ∧ cap ≤ 60
 rotate_left
 ·exact Ev.neg (by simp; omega) (Ev.to hj (by simp [a]))
 refine Ev.pos (by simp; omega) ?_
 refine Ev.bind (Ev.const (impl_within_eq _ _ _)) ?_
 by_cases b : 1 ≤ most ∧ most ≤ cap
 rotate_left
 ·exact Ev.neg (by simp; omega) (Ev.to hj (by simp [b]))
 refine Ev.pos (by simp; omega) ?_
 refine Ev.bind (Ev.const (show impl_Three_ghosts.f cap most = some (max 1 (cap - most)) from by unfold impl_Three_ghosts.f; rw [w64 (by omega) (by omega)])) ?_
 rw [decide_eq_true a, decide_eq_true b, Bool.true_and, Bool.true_and]
 by_cases c : (g.length : Int) ≤ max 1 (cap - most)
 rotate_left
 ·rw [decide_eq_true (show (g.length : Int) > max 1 (cap - most) by omega), decide_eq_false c]
  refine Ev.to hj (by simp)
 rw [decide_eq_false (show ¬ (g.length : Int) > max 1 (cap - most) by omega), decide_eq_true c]
 refine Ev.step (fun _ => rfl) ?_
 simp only [impl_ThreeOk.j0]
 refine Ev.neg (by simp) ?_
 refine Ev.to (impl_ThreeOk_l0 cap most s m g hs hm hg g.length 0 (by omega)) ?_
 rw [List.drop_zero]
 cases numsFrom g 0 g <;> simp
theorem spec_ThreeOk_l1 (cap most : Int) (s m : List It) (g : List Int) (hg : g.length ≤ 2097152) : ∀ (d i : Nat), i + d = g.length → Ev (fun k => spec_ThreeOk.l1 k g (g.length : Int) (i : Int) cap most s m g) (numsFrom g i (g.drop i)) := by
 intro d
 induction d with
 | zero =>
  intro i hi
  rw [List.drop_of_length_le (by omega), numsFrom]
  refine Ev.step (fun _ => rfl) ?_
  simp only [spec_ThreeOk.l1]
  exact Ev.neg (by omega) (Ev.const rfl)
 | succ d ih =>
  intro i hi
  have hx : i < g.length := by omega
  have er : rd g (i : Int) = g[i] := getD_at hx _
  refine Ev.step (fun _ => rfl) ?_
  simp only [spec_ThreeOk.l1]
  rw [er, drop_at hx, numsFrom]
  refine Ev.pos (by omega) (Ev.pos (by omega) (Ev.pos (by omega) ?_))
  refine Ev.bind (Ev.const (spec_l01Num_eq _)) ?_
  cases c : isNum g[i]
  ·exact Ev.neg (by simp) (Ev.const rfl)
  refine Ev.pos rfl (Ev.pos (by omega) ?_)
  rw [Int.toNat_natCast]
  refine Ev.bind (spec_l03Has_ev _ _ (by rw [List.length_take]; omega)) ?_
  by_cases e : g[i] ∈ g.take i
  ·exact Ev.pos (by simp [e]) (Ev.const (by simp [e]))
  ·refine Ev.neg (by simp [e]) ?_
   rw [wsucc (by omega)]
   refine Ev.to (ih (i + 1) (by omega)) ?_
   simp [e]
theorem spec_ThreeOk_l0 (cap most : Int) (s m : List It) (g : List Int) (l : List It) (hl : small l) (hg : g.length ≤ 2097152) : ∀ (d i : Nat), i + d = l.length → Ev (fun k => spec_ThreeOk.l0 k l l (l.length : Int) (i : Int) cap most s m g) (goodFrom l i (l.drop i) && numsFrom g 0 g) := by
 have hl1 := hl.1
 intro d
 induction d with
 | zero =>
  intro i hi
  rw [List.drop_of_length_le (by omega), goodFrom, Bool.true_and]
  refine Ev.step (fun _ => rfl) ?_
  simp only [spec_ThreeOk.l0]
  exact Ev.neg (by omega) (spec_ThreeOk_l1 cap most s m g hg g.length 0 (by omega))
 | succ d ih =>
  intro i hi
  have hx : i < l.length := by omega
  have hm := hl.2 l[i] (List.getElem_mem hx)
  have er : rd_T76 l (i : Int) = l[i] := getD_at hx _
  refine Ev.step (fun _ => rfl) ?_
  simp only [spec_ThreeOk.l0]
  rw [er, drop_at hx, goodFrom]
  refine Ev.pos (by omega) (Ev.pos (by omega) (Ev.pos (by omega) ?_))
  refine Ev.bind (spec_ItemOk_ev _ _ _ hm.1 hm.2) ?_
  cases c : itemOk l[i].f0 l[i].f1 l[i].f2
  ·exact Ev.neg (by simp) (Ev.const rfl)
  refine Ev.pos rfl ?_
  refine Ev.bind (spec_l10At_ev l _ hl1) ?_
  by_cases e : impl_itemAt.idx l[i].f0 l 0 = (i : Int)
  ·refine Ev.pos e ?_
   rw [wsucc (by omega)]
   refine Ev.to (ih (i + 1) (by omega)) ?_
   simp [e]
  ·exact Ev.neg e (Ev.const (by simp [e]))
theorem spec_ThreeOk_ev (cap most : Int) (s m : List It) (g : List Int) (hs : s.length ≤ 2097152 ∧ ∀ x ∈ s, x.f0.size ≤ 140737488351232 ∧ x.f1.size ≤ 140737488351232) (hm : m.length ≤ 2097152 ∧ ∀ x ∈ m, x.f0.size ≤ 140737488351232 ∧ x.f1.size ≤ 140737488351232) (hg : g.length ≤ 2097152) : Ev (fun k => spec_ThreeOk.f k cap most s m g) (threeOk cap most s m g) := by
 unfold spec_ThreeOk.f threeOk
 have hsl := hs.1
 have hml := hm.1
 have hj : Ev (fun k => spec_ThreeOk.j0 k true cap most s m g) false := by
  refine Ev.step (fun _ => rfl) ?_
  simp only [spec_ThreeOk.j0]
  exact Ev.const rfl
 refine Ev.bind (Ev.const (spec_l01In_eq _ _ _)) ?_
 by_cases a : 1 ≤ cap ∧ cap ≤ 60
 rotate_left
 ·exact Ev.neg (by simp; omega) (Ev.to hj (by simp [a]))
 refine Ev.pos (by simp; omega) ?_
 refine Ev.bind (Ev.const (spec_l01In_eq _ _ _)) ?_
 by_cases b : 1 ≤ most ∧ most ≤ cap
 rotate_left
 ·exact Ev.neg (by simp; omega) (Ev.to hj (by simp [b]))
 refine Ev.pos (by simp; omega) ?_
 rw [decide_eq_true a, decide_eq_true b, Bool.true_and, Bool.true_and, w64 (by omega) (by omega)]
 by_cases q : ((s.length + m.length : Nat) : Int) ≤ cap
 rotate_left
 ·exact Ev.pos (by omega) (Ev.to hj (by rw [decide_eq_false q, Bool.false_and]))
 refine Ev.neg (by omega) ?_
 rw [decide_eq_true q, Bool.true_and]
 have hgh : spec_l10Ghosts.f cap most s m g = some (max 1 (cap - most)) := by
  unfold spec_l10Ghosts.f
  rw [w64 (by omega) (by omega)]
  by_cases z : cap - most < 1
  ·rw [if_pos z]; congr 1; omega
  ·rw [if_neg z]; congr 1; omega
 refine Ev.bind (Ev.const hgh) ?_
 by_cases c : (g.length : Int) ≤ max 1 (cap - most)
 rotate_left
 ·rw [decide_eq_true (show (g.length : Int) > max 1 (cap - most) by omega), decide_eq_false c]
  refine Ev.to hj (by simp)
 rw [decide_eq_false (show ¬ (g.length : Int) > max 1 (cap - most) by omega), decide_eq_true c, Bool.true_and]
 refine Ev.step (fun _ => rfl) ?_
 simp only [spec_ThreeOk.j0]
 refine Ev.neg (by simp) ?_
 refine Ev.bind (Ev.const rfl) ?_
 refine Ev.pos (by simp; omega) ?_
 refine Ev.bind (Ev.const rfl) ?_
 refine Ev.pos (by simp; omega) ?_
 refine Ev.bind (Ev.const rfl) ?_
 rw [List.nil_append]
 exact spec_ThreeOk_l0 cap most s m g (s ++ m) (append_small hs hm) hg (s ++ m).length 0 (by omega)
theorem itemText_size (key val : ByteArray) (freq : Int) : (itemText key val freq).size ≤ 72 := by
 unfold itemText
 by_cases c : itemOk key val freq = true ∧ plain key = true ∧ plain val = true
 ·rw [if_pos c]
  have h := itemOk_sizes c.1
  have hn := numText_size freq
  simp only [ByteArray.size_append]
  rw [show (⟨#[61]⟩ : ByteArray).size = 1 from rfl, show (⟨#[42]⟩ : ByteArray).size = 1 from rfl]
  omega
 ·rw [if_neg c]; exact Nat.zero_le _
def itemsT (w : ByteArray) : List It → Option ByteArray
 | [] => some (w ++ (⟨#[10]⟩ : ByteArray))
 | x :: r => if itemText x.f0 x.f1 x.f2 = (⟨#[]⟩ : ByteArray) then none else itemsT ((w ++ (⟨#[32]⟩ : ByteArray)) ++ itemText x.f0 x.f1 x.f2) r
def numsT (w : ByteArray) : List Int → ByteArray
 | [] => w ++ (⟨#[10]⟩ : ByteArray)
 | x :: r => numsT ((w ++ (⟨#[32]⟩ : ByteArray)) ++ numText x) r
theorem itemsT_size : ∀ (l : List It) (w t : ByteArray), itemsT w l = some t → 1 ≤ t.size ∧ t.size ≤ w.size + 73 * l.length + 1
 | [], w, t, h => by
  rw [itemsT] at h
  obtain rfl := Option.some.inj h
  rw [ByteArray.size_append, show (⟨#[10]⟩ : ByteArray).size = 1 from rfl]
  simp
 | x :: r, w, t, h => by
  rw [itemsT] at h
  by_cases c : itemText x.f0 x.f1 x.f2 = (⟨#[]⟩ : ByteArray)
  ·rw [if_pos c] at h; cases h
  ·rw [if_neg c] at h
   have hh := itemsT_size r _ t h
   have hs := itemText_size x.f0 x.f1 x.f2
   rw [ByteArray.size_append, ByteArray.size_append, show (⟨#[32]⟩ : ByteArray).size = 1 from rfl] at hh
   rw [List.length_cons]
   omega
theorem numsT_size : ∀ (l : List Int) (w : ByteArray), (numsT w l).size ≤ w.size + 11 * l.length + 1
 | [], w => by rw [numsT, ByteArray.size_append, show (⟨#[10]⟩ : ByteArray).size = 1 from rfl]; simp
 | x :: r, w => by
  have hh := numsT_size r ((w ++ (⟨#[32]⟩ : ByteArray)) ++ numText x)
  have hs := numText_size x
  rw [ByteArray.size_append, ByteArray.size_append, show (⟨#[32]⟩ : ByteArray).size = 1 from rfl] at hh
  rw [numsT, List.length_cons]
  omega
def optPair : Option ByteArray → ByteArray × Bool
 | some t => (t, true)
 | none => ((⟨#[]⟩ : ByteArray), false)
theorem spec_l20Items_l0 (l : List It) (hl : small l) : ∀ (d i : Nat) (w : ByteArray), i + d = l.length → w.size ≤ 100 + 73 * i → Ev (fun k => spec_l20Items.l0 k w l (l.length : Int) (i : Int)) (optPair (itemsT w (l.drop i))) := by
 have hl1 := hl.1
 intro d
 induction d with
 | zero =>
  intro i w hi hw
  rw [List.drop_of_length_le (by omega), itemsT]
  refine Ev.step (fun _ => rfl) ?_
  simp only [spec_l20Items.l0]
  exact Ev.neg (by omega) (Ev.pos (by omega) (Ev.const rfl))
 | succ d ih =>
  intro i w hi hw
  have hx : i < l.length := by omega
  have hm := hl.2 l[i] (List.getElem_mem hx)
  have er : rd_T76 l (i : Int) = l[i] := getD_at hx _
  have hs := itemText_size l[i].f0 l[i].f1 l[i].f2
  refine Ev.step (fun _ => rfl) ?_
  simp only [spec_l20Items.l0]
  rw [er, drop_at hx, itemsT]
  refine Ev.pos (by omega) (Ev.pos (by omega) (Ev.pos (by omega) ?_))
  refine Ev.bind (spec_ItemText_ev _ _ _ hm.1 hm.2) ?_
  by_cases c : itemText l[i].f0 l[i].f1 l[i].f2 = (⟨#[]⟩ : ByteArray)
  ·exact Ev.pos (toList_nil.2 c) (Ev.const (by rw [if_pos c]; rfl))
  ·refine Ev.neg (fun h => c (toList_nil.1 h)) (Ev.pos (by omega) (Ev.pos (by omega) ?_))
   rw [if_neg c, wsucc (by omega)]
   refine ih (i + 1) _ (by omega) ?_
   rw [ByteArray.size_append, ByteArray.size_append, show (⟨#[32]⟩ : ByteArray).size = 1 from rfl]
   omega
theorem spec_l20Items_ev (w : ByteArray) (l : List It) (hl : small l) (hw : w.size ≤ 100) : Ev (fun k => spec_l20Items.f k w l) (optPair (itemsT w l)) := by
 unfold spec_l20Items.f
 exact spec_l20Items_l0 l hl l.length 0 w (by omega) (by omega)
theorem spec_l20Nums_l0 (l : List Int) (hl : l.length ≤ 4194304) (hn : ∀ x ∈ l, isNum x = true) : ∀ (d i : Nat) (w : ByteArray), i + d = l.length → w.size ≤ 100 + 11 * i → Ev (fun k => spec_l20Nums.l0 k w l (l.length : Int) (i : Int)) (numsT w (l.drop i)) := by
 intro d
 induction d with
 | zero =>
  intro i w hi hw
  rw [List.drop_of_length_le (by omega), numsT]
  refine Ev.step (fun _ => rfl) ?_
  simp only [spec_l20Nums.l0]
  exact Ev.neg (by omega) (Ev.pos (by omega) (Ev.const rfl))
 | succ d ih =>
  intro i w hi hw
  have hx : i < l.length := by omega
  have er : rd l (i : Int) = l[i] := getD_at hx _
  have hs := numText_size l[i]
  refine Ev.step (fun _ => rfl) ?_
  simp only [spec_l20Nums.l0]
  rw [er, drop_at hx, numsT]
  refine Ev.pos (by omega) (Ev.pos (by omega) (Ev.pos (by omega) (Ev.pos (by omega) ?_)))
  refine Ev.bind (spec_NumText_ev _) (Ev.pos (by omega) ?_)
  refine Ev.bind (Ev.const (spec_l01Num_eq _)) ?_
  refine Ev.pos (hn _ (List.getElem_mem hx)) ?_
  rw [wsucc (by omega)]
  refine ih (i + 1) _ (by omega) ?_
  rw [ByteArray.size_append, ByteArray.size_append, show (⟨#[32]⟩ : ByteArray).size = 1 from rfl]
  omega
theorem spec_l20Nums_ev (w : ByteArray) (l : List Int) (hl : l.length ≤ 4194304) (hn : ∀ x ∈ l, isNum x = true) (hw : w.size ≤ 100) : Ev (fun k => spec_l20Nums.f k w l) (numsT w l) := by
 unfold spec_l20Nums.f
 exact spec_l20Nums_l0 l hl hn l.length 0 w (by omega) (by omega)
abbrev Fine (l : List It) : Prop := l.length ≤ 2097152 ∧ ∀ x ∈ l, x.f0.size ≤ 140737488351232 ∧ x.f1.size ≤ 140737488351232
theorem fine_small {l : List It} (h : Fine l) : small l := ⟨by have := h.1; omega, h.2⟩
end Go.Proofs.Ytnlnifpehndacaa.Q

namespace Go.Proofs.Ytnlnifpehndacaa.Q
open Go.RowKit Go.Proofs.Ytnlnifpehndacaa.G Go.Proofs.Ytnlnifpehndacaa.PL Go.Proofs.Ytnlnifpehndacaa.CutL Go.Proofs.YtnlnifpehndacaaW.PrintWords
def joinW (c : UInt8) : List (List UInt8) → List UInt8
 | [] => []
 | [x] => x
 | x :: y :: r => x ++ c :: joinW c (y :: r)
theorem join_acc (c : UInt8) (a b : List UInt8) (r : List (List UInt8)) : joinW c ((a ++ c :: b) :: r) = joinW c (a :: b :: r) := by
 cases r with
 | nil => simp [joinW]
 | cons y t => simp [joinW]
theorem splitB_free {c : UInt8} : ∀ {l : List UInt8}, c ∉ l → splitB c l = [l]
 | [], _ => rfl
 | b :: r, h => by
  rw [splitB, if_neg (fun e => h (by rw [e]; exact List.mem_cons_self)), splitB_free (fun m => h (List.mem_cons_of_mem _ m))]
  rfl
theorem splitB_app (c : UInt8) : ∀ (a : List UInt8) (l : List UInt8), c ∉ a → splitB c (a ++ c :: l) = a :: splitB c l
 | [], l, _ => by rw [List.nil_append, splitB, if_pos rfl]
 | b :: r, l, h => by
  rw [List.cons_append, splitB, if_neg (fun e => h (by rw [e]; exact List.mem_cons_self)), splitB_app c r l (fun m => h (List.mem_cons_of_mem _ m))]
  rfl
theorem split_join (c : UInt8) : ∀ (ws : List (List UInt8)), ws ≠ [] → (∀ w ∈ ws, c ∉ w) → splitB c (joinW c ws) = ws
 | [], h, _ => absurd rfl h
 | [x], _, h => splitB_free (h x List.mem_cons_self)
 | x :: y :: r, _, h => by
  rw [joinW, splitB_app c x _ (h x List.mem_cons_self), split_join c (y :: r) (by simp) (fun w hw => h w (List.mem_cons_of_mem _ hw))]
theorem join_prep (c : UInt8) (p : List UInt8) (l : List (List UInt8)) (h : l ≠ []) : joinW c (prep p l) = p ++ joinW c l := by
 cases l with
 | nil => exact absurd rfl h
 | cons x t =>
  cases t with
  | nil => rfl
  | cons y r => simp [prep, joinW]
theorem splitB_ne_nil (c : UInt8) (l : List UInt8) : splitB c l ≠ [] := by
 obtain ⟨h, t, q⟩ := splitB_ne c l
 rw [q]; simp
theorem join_split (c : UInt8) : ∀ l : List UInt8, joinW c (splitB c l) = l
 | [] => rfl
 | b :: r => by
  rw [splitB]
  by_cases e : b = c
  ·rw [if_pos e]
   obtain ⟨h, t, q⟩ := splitB_ne c r
   have ih := join_split c r
   rw [q] at ih ⊢
   rw [joinW, ih, e]
   rfl
  ·rw [if_neg e, join_prep c _ _ (splitB_ne_nil c r), join_split c r]
   rfl
theorem split_free (c : UInt8) : ∀ (l : List UInt8), ∀ w ∈ splitB c l, c ∉ w
 | [], w, hw => by
  rw [splitB, List.mem_singleton] at hw
  rw [hw]; simp
 | b :: r, w, hw => by
  rw [splitB] at hw
  by_cases e : b = c
  ·rw [if_pos e] at hw
   rcases List.mem_cons.1 hw with h | h
   ·rw [h]; simp
   ·exact split_free c r w h
  ·rw [if_neg e] at hw
   obtain ⟨h, t, q⟩ := splitB_ne c r
   have ih := split_free c r
   rw [q] at hw ih
   rw [prep] at hw
   rcases List.mem_cons.1 hw with h' | h'
   ·rw [h']
    intro m
    rcases List.mem_cons.1 m with m | m
    ·exact e m.symm
    ·exact ih h List.mem_cons_self m
   ·exact ih w (List.mem_cons_of_mem _ h')
theorem split_mem_len (c : UInt8) : ∀ (l : List UInt8), ∀ w ∈ splitB c l, w.length ≤ l.length
 | [], w, hw => by
  rw [splitB, List.mem_singleton] at hw
  rw [hw]; simp
 | b :: r, w, hw => by
  rw [splitB] at hw
  by_cases e : b = c
  ·rw [if_pos e] at hw
   rcases List.mem_cons.1 hw with h | h
   ·rw [h]; simp
   ·have := split_mem_len c r w h
    rw [List.length_cons]; omega
  ·rw [if_neg e] at hw
   obtain ⟨h, t, q⟩ := splitB_ne c r
   have ih := split_mem_len c r
   rw [q] at hw ih
   rw [prep] at hw
   rcases List.mem_cons.1 hw with h' | h'
   ·have := ih h List.mem_cons_self
    rw [h']; simp; omega
   ·have := ih w (List.mem_cons_of_mem _ h')
    rw [List.length_cons]; omega
theorem split_len (c : UInt8) : ∀ (l : List UInt8), (splitB c l).length ≤ l.length + 1
 | [] => by simp [splitB]
 | b :: r => by
  have ih := split_len c r
  rw [splitB]
  by_cases e : b = c
  ·rw [if_pos e]; simp; omega
  ·obtain ⟨h, t, q⟩ := splitB_ne c r
   rw [if_neg e]
   rw [q] at ih ⊢
   simp [prep] at ih ⊢
   omega
/-- A text that ends in the byte: the last part is empty. -/
theorem split_end (c : UInt8) : ∀ (l : List UInt8), (splitB c (l ++ [c])).getLast? = some []
 | [] => by simp [splitB]
 | b :: r => by
  have ih := split_end c r
  rw [List.cons_append, splitB]
  obtain ⟨h, t, q⟩ := splitB_ne c (r ++ [c])
  by_cases e : b = c
  ·rw [if_pos e]
   rw [q] at ih ⊢
   rw [List.getLast?_cons_cons]; exact ih
  ·rw [if_neg e]
   rw [q] at ih ⊢
   rw [prep]
   cases t with
   | nil =>
    exfalso
    have hj := join_split c (r ++ [c])
    rw [q, joinW] at hj
    have hf := split_free c (r ++ [c]) h (by rw [q]; exact List.mem_cons_self)
    rw [hj] at hf
    exact hf (by simp)
   | cons y z => rw [List.getLast?_cons_cons] at ih ⊢; exact ih
theorem impl_split_l0 (s : ByteArray) (c : UInt8) (hs : s.size ≤ 1048576) : ∀ (d i f : Nat) (out : List ByteArray), i + d = s.size → f ≤ i → out.length ≤ i → Ev (fun k => impl_split.l0 k s (c.toNat : Int) out (f : Int) (i : Int)) (out ++ (prep (((bs s).drop f).take (i - f)) (splitB c ((bs s).drop i))).map mk) := by
 intro d
 induction d with
 | zero =>
  intro i f out hi hf ho
  refine Ev.step (fun _ => rfl) ?_
  simp only [impl_split.l0]
  refine Ev.neg (by omega) (Ev.pos (by omega) (Ev.pos (by omega) (Ev.pos (by omega) ?_)))
  rw [List.drop_of_length_le (i := i) (by rw [bs_length]; omega), splitB, prep, Int.toNat_natCast, extract_mk, show s.size = i by omega]
  exact Ev.const (by simp)
 | succ d ih =>
  intro i f out hi hf ho
  have hlt : i < s.size := by omega
  refine Ev.step (fun _ => rfl) ?_
  simp only [impl_split.l0]
  rw [bt_eq s i hlt, drop_bs s i hlt, wsucc (by omega), splitB]
  refine Ev.pos (by omega) (Ev.pos (by omega) ?_)
  have hsn := take_snoc (bs s) f i hf (by rw [bs_length]; omega)
  generalize (bs s)[i]'_ = b at hsn ⊢
  by_cases e : b = c
  ·refine Ev.pos (by rw [e]) (Ev.pos (by omega) (Ev.pos (by omega) (Ev.pos (by omega) (Ev.pos (by omega) ?_))))
   have h := ih (i + 1) (i + 1) (out ++ [s.extract f i]) (by omega) (by omega) (by rw [List.length_append, List.length_singleton]; omega)
   simp only [Int.toNat_natCast]
   refine Ev.to h ?_
   rw [if_pos e, Nat.sub_self, List.take_zero, prep_nil, extract_mk]
   simp [prep]
  ·refine Ev.neg (fun h => e (UInt8.toNat.inj (by omega))) ?_
   have h := ih (i + 1) f out (by omega) (by omega) (by omega)
   refine Ev.to h ?_
   rw [if_neg e, prep_prep, hsn]
theorem impl_split_ev (s : ByteArray) (c : UInt8) (hs : s.size ≤ 1048576) : Ev (fun k => impl_split.f k s (c.toNat : Int)) ((splitB c (bs s)).map mk) := by
 unfold impl_split.f
 refine Ev.to (impl_split_l0 s c hs s.size 0 0 [] (by omega) (by omega) (by simp)) ?_
 rw [Nat.sub_self, List.take_zero, List.drop_zero, prep_nil, List.nil_append]
def wordsB (s : List UInt8) : List (List UInt8) := splitB 32 s
theorem impl_Cut_ev (s : ByteArray) (hs : s.size ≤ 1048576) : Ev (fun k => impl_Cut.f k s) ((wordsB (bs s)).map mk) := by
 unfold impl_Cut.f
 exact Ev.bind (impl_split_ev s 32 hs) (Ev.const rfl)
theorem spec_Cut_ev (s : ByteArray) (hs : s.size ≤ 1048576) : Ev (fun k => spec_Cut.f k s) ((wordsB (bs s)).map mk) := by
 unfold spec_Cut.f
 exact Ev.bind (spec_l01Cut_ev s 32 hs) (Ev.const rfl)
/-- lines, as the reference cuts them -/
def linesB (s : List UInt8) : List (List UInt8) := if (splitB 10 s).getLast? = some [] then (splitB 10 s).dropLast else splitB 10 s
theorem rdmk {l : List (List UInt8)} {i : Nat} (h : i < l.length) : rdOf ByteArray.empty (l.map mk) (i : Int) = mk l[i] := by
 rw [rdOf, getD_at (by simpa using h)]; simp
theorem spec_Lines_ev (s : ByteArray) (hs : s.size ≤ 1048576) : Ev (fun k => spec_Lines.f k s) ((linesB (bs s)).map mk) := by
 unfold spec_Lines.f linesB
 refine Ev.bind (spec_l01Cut_ev s 10 hs) ?_
 have hl := split_len 10 (bs s)
 rw [bs_length] at hl
 have hn := splitB_ne_nil 10 (bs s)
 generalize splitB 10 (bs s) = L at *
 have h1 : 0 < L.length := List.length_pos_iff.2 hn
 have ew : wrap64 (((L.map mk).length : Int) - 1) = ((L.length - 1 : Nat) : Int) := by
  rw [List.length_map, w64 (by omega) (by omega)]; omega
 rw [ew, rdmk (show L.length - 1 < L.length by omega), Int.toNat_natCast]
 refine Ev.pos (by omega) (Ev.pos (by rw [List.length_map]; omega) ?_)
 have e : L.getLast? = some L[L.length - 1] := by rw [List.getLast?_eq_getElem?, List.getElem?_eq_getElem]
 rw [e]
 by_cases c : L[L.length - 1] = []
 ·rw [c, if_pos rfl]
  refine Ev.pos (by rw [bs_toList]; rfl) (Ev.pos (by rw [List.length_map]; omega) (Ev.const ?_))
  rw [List.dropLast_eq_take, List.map_take]
 ·rw [if_neg (fun h => c (Option.some.inj h))]
  refine Ev.neg (fun h => c ?_) (Ev.const rfl)
  rw [bs_toList, bs_of_mk] at h
  exact h
-- texts without some byte
theorem dg_bytes (n : Nat) (h : n < 10) : bs (dg n) = [UInt8.ofNat (48 + n)] := by
 unfold dg bs strOfNums
 simp only [List.map_cons, List.map_nil]
 rw [show (48 + (n : Int)).toNat = 48 + n by omega]
theorem dec_digits : ∀ (m n : Nat), n < 10 ^ (m + 1) → ∀ b ∈ bs (dec n), 48 ≤ b.toNat ∧ b.toNat ≤ 57
 | 0, n, h => by
  have h : n < 10 := by simpa using h
  rw [dec_small h, dg_bytes n h]
  intro b hb
  rw [List.mem_singleton.1 hb, UInt8.toNat_ofNat']
  omega
 | m + 1, n, h => by
  by_cases c : n < 10
  ·rw [dec_small c, dg_bytes n c]
   intro b hb
   rw [List.mem_singleton.1 hb, UInt8.toNat_ofNat']
   omega
  ·rw [dec_big c, bs_append, dg_bytes _ (Nat.mod_lt _ (by omega))]
   intro b hb
   rcases List.mem_append.1 hb with hb | hb
   ·exact dec_digits m (n / 10) (by rw [Nat.pow_succ] at h; omega) b hb
   ·rw [List.mem_singleton.1 hb, UInt8.toNat_ofNat']
    omega
theorem numText_digits (a : Int) : ∀ b ∈ bs (numText a), 48 ≤ b.toNat ∧ b.toNat ≤ 57 := by
 unfold numText
 by_cases c : isNum a = true
 ·rw [if_pos c]
  unfold isNum at c
  simp only [Bool.and_eq_true, decide_eq_true_eq] at c
  exact dec_digits 9 a.toNat (by omega)
 ·rw [if_neg c]
  intro b hb
  exact absurd hb (by simp [bs])
theorem numText_free (a : Int) {c : UInt8} (h : c.toNat < 48) : c ∉ bs (numText a) := fun m => by
 have := numText_digits a c m
 omega
theorem itemText_free (key val : ByteArray) (n : Int) : (32 : UInt8) ∉ bs (itemText key val n) ∧ (10 : UInt8) ∉ bs (itemText key val n) := by
 unfold itemText
 by_cases c : itemOk key val n = true ∧ plain key = true ∧ plain val = true
 ·rw [if_pos c]
  have h := c.1
  unfold itemOk clean at h
  simp only [Bool.and_eq_true, decide_eq_true_eq] at h
  obtain ⟨⟨⟨⟨⟨⟨_, _⟩, hk⟩, _⟩, hv⟩, _⟩, _⟩ := h
  rw [List.all_eq_true] at hk hv
  simp only [bs_append, List.mem_append, not_or]
  rw [show bs (⟨#[61]⟩ : ByteArray) = [61] from rfl, show bs (⟨#[42]⟩ : ByteArray) = [42] from rfl]
  exact ⟨⟨⟨⟨⟨fun m => absurd (hk _ m) (by decide), by decide⟩, fun m => absurd (hv _ m) (by decide)⟩, by decide⟩, numText_free n (by decide)⟩, ⟨⟨⟨⟨fun m => absurd (hk _ m) (by decide), by decide⟩, fun m => absurd (hv _ m) (by decide)⟩, by decide⟩, numText_free n (by decide)⟩⟩
 ·rw [if_neg c]
  simp [bs]
-- what is read
theorem textNum_isNum (s : ByteArray) : isNum (textNum s).1 = true := by
 cases q : (textNum s).2
 ·rw [textNum_bad q]; rfl
 ·have h := (textNum_ok q).1
  cases c : isNum (textNum s).1
  ·rw [(numText_nil _).2 c] at h
   rw [← h] at q
   exact absurd q (by decide)
  ·rfl
theorem textNum_fix {s : ByteArray} (h : numText (textNum s).1 = s) : (textNum s).2 = true := by
 cases q : (textNum s).2
 ·rw [textNum_bad q, numText_zero] at h
  rw [← h, textNum_zero] at q
  cases q
 ·rfl
theorem textItem_ok {s : ByteArray} (h : (textItem s).2.2.2 = true) : itemText (textItem s).1 (textItem s).2.1 (textItem s).2.2.1 = s ∧ s ≠ (⟨#[]⟩ : ByteArray) := by
 unfold textItem at h ⊢
 split at h
 ·rename_i c
  rw [if_pos c]
  refine ⟨c.2.2.2, fun e => ?_⟩
  rw [e] at c
  exact absurd c.1 (by decide)
 ·cases h
theorem itemText_none : itemText (⟨#[]⟩ : ByteArray) (⟨#[]⟩ : ByteArray) 0 = (⟨#[]⟩ : ByteArray) := by
 unfold itemText
 rw [if_neg]
 rintro ⟨h, _⟩
 exact absurd h (by decide)
theorem textItem_fix {s : ByteArray} (h : itemText (textItem s).1 (textItem s).2.1 (textItem s).2.2.1 ≠ (⟨#[]⟩ : ByteArray)) : (textItem s).2.2.2 = true := by
 cases q : (textItem s).2.2.2
 ·exfalso
  apply h
  unfold textItem at q ⊢
  split at q
  ·cases q
  ·rename_i c
   rw [if_neg c]
   exact itemText_none
 ·rfl
theorem textItem_size (s : ByteArray) (hs : s.size ≤ 1048576) : (textItem s).1.size ≤ 1048576 ∧ (textItem s).2.1.size ≤ 1048576 := by
 have z1 := cutAt_size s 61
 have z2 := cutAt_size (cutAt s 61).2.1 42
 unfold textItem
 split
 ·exact ⟨by dsimp only; omega, by dsimp only; omega⟩
 ·exact ⟨by decide, by decide⟩
abbrev mkIt (s : ByteArray) : It := ⟨(textItem s).1, (textItem s).2.1, (textItem s).2.2.1⟩
def numsOf (ws : List (List UInt8)) : List Int := ws.tail.map fun w => (textNum (mk w)).1
def numsAll (ws : List (List UInt8)) : Bool := ws.tail.all fun w => (textNum (mk w)).2
def itemsOf (ws : List (List UInt8)) : List It := ws.tail.map fun w => mkIt (mk w)
def itemsAll (ws : List (List UInt8)) : Bool := ws.tail.all fun w => (textItem (mk w)).2.2.2
theorem spec_l20Numbers_ev (ws : List (List UInt8)) (h0 : ws ≠ []) (hl : ws.length ≤ 1048577) : Ev (fun k => spec_l20Numbers.f k (ws.map mk)) (numsOf ws) := by
 have go : ∀ (l : List (List UInt8)), l.length ≤ 1048577 → ∀ (d i : Nat) (out : List Int), i + d = l.length → out.length ≤ i → Ev (fun k => spec_l20Numbers.l0 k out (l.map mk) ((l.map mk).length : Int) (i : Int)) (out ++ (l.drop i).map fun w => (textNum (mk w)).1) := by
  intro l hl d
  induction d with
  | zero =>
   intro i out hi ho
   refine Ev.step (fun _ => rfl) ?_
   simp only [spec_l20Numbers.l0]
   rw [List.drop_of_length_le (by omega)]
   exact Ev.neg (by rw [List.length_map]; omega) (Ev.const (by simp))
  | succ d ih =>
   intro i out hi ho
   have hx : i < l.length := by omega
   refine Ev.step (fun _ => rfl) ?_
   simp only [spec_l20Numbers.l0]
   rw [rdmk hx, drop_at hx, wsucc (by omega)]
   refine Ev.pos (by rw [List.length_map]; omega) (Ev.pos (by omega) (Ev.pos (by rw [List.length_map]; omega) ?_))
   refine Ev.bind (spec_TextNum_ev _) (Ev.pos (by omega) ?_)
   refine Ev.to (ih (i + 1) _ (by omega) (by rw [List.length_append, List.length_singleton]; omega)) (by rw [List.map_cons, List.append_assoc]; rfl)
 unfold spec_l20Numbers.f numsOf
 refine Ev.pos (by rw [List.length_map]; have := List.length_pos_iff.2 h0; omega) ?_
 rw [← List.map_tail]
 refine Ev.to (go ws.tail (by rw [List.length_tail]; omega) ws.tail.length 0 [] (by omega) (by simp)) (by simp)
theorem spec_l20Read_ev (ws : List (List UInt8)) (h0 : ws ≠ []) (hl : ws.length ≤ 1048577) (hz : ∀ w ∈ ws, w.length ≤ 1048576) : Ev (fun k => spec_l20Read.f k (ws.map mk)) (itemsOf ws) := by
 have go : ∀ (l : List (List UInt8)), l.length ≤ 1048577 → (∀ w ∈ l, w.length ≤ 1048576) → ∀ (d i : Nat) (out : List It), i + d = l.length → out.length ≤ i → Ev (fun k => spec_l20Read.l0 k out (l.map mk) ((l.map mk).length : Int) (i : Int)) (out ++ (l.drop i).map fun w => mkIt (mk w)) := by
  intro l hl hz d
  induction d with
  | zero =>
   intro i out hi ho
   refine Ev.step (fun _ => rfl) ?_
   simp only [spec_l20Read.l0]
   rw [List.drop_of_length_le (by omega)]
   exact Ev.neg (by rw [List.length_map]; omega) (Ev.const (by simp))
  | succ d ih =>
   intro i out hi ho
   have hx : i < l.length := by omega
   refine Ev.step (fun _ => rfl) ?_
   simp only [spec_l20Read.l0]
   rw [rdmk hx, drop_at hx, wsucc (by omega)]
   refine Ev.pos (by rw [List.length_map]; omega) (Ev.pos (by omega) (Ev.pos (by rw [List.length_map]; omega) ?_))
   refine Ev.bind (spec_TextItem_ev _ (by rw [mk_size]; exact hz _ (List.getElem_mem hx))) (Ev.pos (by omega) ?_)
   refine Ev.to (ih (i + 1) _ (by omega) (by rw [List.length_append, List.length_singleton]; omega)) (by rw [List.map_cons, List.append_assoc]; rfl)
 unfold spec_l20Read.f itemsOf
 refine Ev.pos (by rw [List.length_map]; have := List.length_pos_iff.2 h0; omega) ?_
 rw [← List.map_tail]
 refine Ev.to (go ws.tail (by rw [List.length_tail]; omega) (fun w hw => hz w (List.mem_of_mem_tail hw)) ws.tail.length 0 [] (by omega) (by simp)) (by simp)
theorem impl_numbers_ev (s word : ByteArray) (hs : s.size ≤ 1048576) : Ev (fun k => impl_numbers.f k s word) (if numsAll (wordsB (bs s)) = true then (numsOf (wordsB (bs s)), decide ((wordsB (bs s)).headD [] = bs word)) else ([], false)) := by
 have hl : (wordsB (bs s)).length ≤ 1048577 := by have := split_len 32 (bs s); rw [bs_length] at this; unfold wordsB; omega
 have h0 : wordsB (bs s) ≠ [] := splitB_ne_nil 32 (bs s)
 unfold impl_numbers.f
 refine Ev.bind (impl_Cut_ev s hs) ?_
 generalize wordsB (bs s) = ws at *
 have hp := List.length_pos_iff.2 h0
 have go : ∀ (l : List (List UInt8)), l.length ≤ 1048577 → ∀ (d i : Nat) (out : List Int), i + d = l.length → out.length ≤ i → Ev (fun k => impl_numbers.l0 k word (ws.map mk) out (l.map mk) ((l.map mk).length : Int) (i : Int)) (if ((l.drop i).all fun w => (textNum (mk w)).2) = true then (out ++ (l.drop i).map fun w => (textNum (mk w)).1, decide (ws.headD [] = bs word)) else ([], false)) := by
  intro l hl d
  induction d with
  | zero =>
   intro i out hi ho
   refine Ev.step (fun _ => rfl) ?_
   simp only [impl_numbers.l0]
   rw [List.drop_of_length_le (by omega)]
   have e := rdmk (l := ws) (i := 0) hp
   rw [show ((0 : Nat) : Int) = 0 from rfl] at e
   rw [e]
   refine Ev.neg (by rw [List.length_map]; omega) (Ev.pos (by rw [List.length_map]; omega) (Ev.const ?_))
   rw [List.all_nil, if_pos rfl, bs_toList, bs_toList, bs_of_mk]
   cases ws with
   | nil => exact absurd rfl h0
   | cons x r =>
    have e2 : ((x :: r)[0] == bs word) = decide ((x :: r).headD [] = bs word) := by
     rw [Bool.eq_iff_iff, beq_iff_eq, decide_eq_true_iff]; rfl
    rw [e2, List.map_nil, List.append_nil]
  | succ d ih =>
   intro i out hi ho
   have hx : i < l.length := by omega
   refine Ev.step (fun _ => rfl) ?_
   simp only [impl_numbers.l0]
   rw [rdmk hx, drop_at hx, wsucc (by omega), List.all_cons]
   refine Ev.pos (by rw [List.length_map]; omega) (Ev.pos (by omega) (Ev.pos (by rw [List.length_map]; omega) ?_))
   refine Ev.bind (impl_TextNum_ev _) ?_
   cases q : (textNum (mk l[i])).2
   ·exact Ev.neg (by simp) (Ev.const (by simp))
   ·refine Ev.pos rfl (Ev.pos (by omega) ?_)
    refine Ev.to (ih (i + 1) _ (by omega) (by rw [List.length_append, List.length_singleton]; omega)) (by rw [Bool.true_and, List.map_cons, List.append_assoc]; rfl)
 refine Ev.pos (by rw [List.length_map]; omega) (Ev.bind (Ev.const rfl) ?_)
 rw [← List.map_tail]
 unfold numsAll numsOf
 exact Ev.to (go ws.tail (by rw [List.length_tail]; omega) ws.tail.length 0 [] (by omega) (by simp)) (by simp)
theorem impl_items_ev (s word : ByteArray) (hs : s.size ≤ 1048576) : Ev (fun k => impl_items.f k s word) (if itemsAll (wordsB (bs s)) = true then (itemsOf (wordsB (bs s)), decide ((wordsB (bs s)).headD [] = bs word)) else ([], false)) := by
 have hl : (wordsB (bs s)).length ≤ 1048577 := by have := split_len 32 (bs s); rw [bs_length] at this; unfold wordsB; omega
 have h0 : wordsB (bs s) ≠ [] := splitB_ne_nil 32 (bs s)
 have hz : ∀ w ∈ wordsB (bs s), w.length ≤ 1048576 := fun w hw => by have := split_mem_len 32 (bs s) w hw; rw [bs_length] at this; omega
 unfold impl_items.f
 refine Ev.bind (impl_Cut_ev s hs) ?_
 generalize wordsB (bs s) = ws at *
 have hp := List.length_pos_iff.2 h0
 have go : ∀ (l : List (List UInt8)), l.length ≤ 1048577 → (∀ w ∈ l, w.length ≤ 1048576) → ∀ (d i : Nat) (out : List It), i + d = l.length → out.length ≤ i → Ev (fun k => impl_items.l0 k word (ws.map mk) out (l.map mk) ((l.map mk).length : Int) (i : Int)) (if ((l.drop i).all fun w => (textItem (mk w)).2.2.2) = true then (out ++ (l.drop i).map fun w => mkIt (mk w), decide (ws.headD [] = bs word)) else ([], false)) := by
  intro l hl hz d
  induction d with
  | zero =>
   intro i out hi ho
   refine Ev.step (fun _ => rfl) ?_
   simp only [impl_items.l0]
   rw [List.drop_of_length_le (by omega)]
   have e := rdmk (l := ws) (i := 0) hp
   rw [show ((0 : Nat) : Int) = 0 from rfl] at e
   rw [e]
   refine Ev.neg (by rw [List.length_map]; omega) (Ev.pos (by rw [List.length_map]; omega) (Ev.const ?_))
   rw [List.all_nil, if_pos rfl, bs_toList, bs_toList, bs_of_mk]
   cases ws with
   | nil => exact absurd rfl h0
   | cons x r =>
    have e2 : ((x :: r)[0] == bs word) = decide ((x :: r).headD [] = bs word) := by
     rw [Bool.eq_iff_iff, beq_iff_eq, decide_eq_true_iff]; rfl
    rw [e2, List.map_nil, List.append_nil]
  | succ d ih =>
   intro i out hi ho
   have hx : i < l.length := by omega
   refine Ev.step (fun _ => rfl) ?_
   simp only [impl_items.l0]
   rw [rdmk hx, drop_at hx, wsucc (by omega), List.all_cons]
   refine Ev.pos (by rw [List.length_map]; omega) (Ev.pos (by omega) (Ev.pos (by rw [List.length_map]; omega) ?_))
   refine Ev.bind (impl_TextItem_ev _ (by rw [mk_size]; exact hz _ (List.getElem_mem hx))) ?_
   cases q : (textItem (mk l[i])).2.2.2
   ·exact Ev.neg (by simp) (Ev.const (by simp))
   ·refine Ev.pos rfl (Ev.pos (by omega) ?_)
    refine Ev.to (ih (i + 1) _ (by omega) (by rw [List.length_append, List.length_singleton]; omega)) (by rw [Bool.true_and, List.map_cons, List.append_assoc]; rfl)
 refine Ev.pos (by rw [List.length_map]; omega) (Ev.bind (Ev.const rfl) ?_)
 rw [← List.map_tail]
 unfold itemsAll itemsOf
 exact Ev.to (go ws.tail (by rw [List.length_tail]; omega) (fun w hw => hz w (List.mem_of_mem_tail hw)) ws.tail.length 0 [] (by omega) (by simp)) (by simp)
abbrev wThree : ByteArray := ⟨#[116, 104, 114, 101, 101]⟩
abbrev wSmall : ByteArray := ⟨#[115, 109, 97, 108, 108]⟩
abbrev wMain : ByteArray := ⟨#[109, 97, 105, 110]⟩
abbrev wGhost : ByteArray := ⟨#[103, 104, 111, 115, 116]⟩
def rawText (h0 h1 : Int) (s m : List It) (g : List Int) : ByteArray :=
 match itemsT wSmall s, itemsT wMain m with
 | some a, some b => ((numsT wThree [h0, h1] ++ a) ++ b) ++ numsT wGhost g
 | _, _ => (⟨#[]⟩ : ByteArray)
theorem spec_l20Text_ev (h0 h1 : Int) (s m : List It) (g : List Int) (hs : Fine s) (hm : Fine m) (hg : g.length ≤ 2097152) (n0 : isNum h0 = true) (n1 : isNum h1 = true) (hn : ∀ x ∈ g, isNum x = true) : Ev (fun k => spec_l20Text.f k h0 h1 s m g) (rawText h0 h1 s m g) := by
 unfold spec_l20Text.f rawText
 have hsl := hs.1
 have hml := hm.1
 refine Ev.bind (spec_l20Items_ev _ s (fine_small hs) (show (5 : Nat) ≤ 100 by omega)) ?_
 refine Ev.bind (spec_l20Items_ev _ m (fine_small hm) (show (4 : Nat) ≤ 100 by omega)) ?_
 have hz := itemsT_size s wSmall
 have hy := itemsT_size m wMain
 rw [show wSmall.size = 5 from rfl] at hz
 rw [show wMain.size = 4 from rfl] at hy
 have hj : ∀ x y, Ev (fun k => spec_l20Text.j0 k x y true h0 h1 s m g) (⟨#[]⟩ : ByteArray) := by
  intro x y
  refine Ev.step (fun _ => rfl) ?_
  simp only [spec_l20Text.j0]
  exact Ev.const rfl
 cases a : itemsT wSmall s with
 | none => exact Ev.neg (by simp [optPair]) (hj _ _)
 | some ta =>
  refine Ev.pos (by simp [optPair]) ?_
  cases b : itemsT wMain m with
  | none => exact hj _ _
  | some tb =>
   have za := (hz ta a).2
   have zb := (hy tb b).2
   have zn := numsT_size [h0, h1] (⟨#[116, 104, 114, 101, 101]⟩ : ByteArray)
   have zg := numsT_size g (⟨#[103, 104, 111, 115, 116]⟩ : ByteArray)
   rw [show (⟨#[116, 104, 114, 101, 101]⟩ : ByteArray).size = 5 from rfl, show [h0, h1].length = 2 from rfl] at zn
   rw [show (⟨#[103, 104, 111, 115, 116]⟩ : ByteArray).size = 5 from rfl] at zg
   refine Ev.step (fun _ => rfl) ?_
   simp only [spec_l20Text.j0, optPair]
   refine Ev.neg (by simp) ?_
   refine Ev.bind (spec_l20Nums_ev _ [h0, h1] (by simp) ?_ (show (5 : Nat) ≤ 100 by omega)) ?_
   ·intro x hx
    simp only [List.mem_cons, List.not_mem_nil, or_false] at hx
    rcases hx with rfl | rfl
    ·exact n0
    ·exact n1
   refine Ev.pos (by omega) (Ev.pos (by omega) ?_)
   refine Ev.bind (spec_l20Nums_ev _ g (by omega) hn (show (5 : Nat) ≤ 100 by omega)) ?_
   exact Ev.pos (by omega) (Ev.const rfl)
-- the texts by their words
theorem numsT_words : ∀ (l : List Int) (w : ByteArray), bs (numsT w l) = joinW 32 (bs w :: l.map fun n => bs (numText n)) ++ [10]
 | [], w => by rw [numsT, bs_append]; rfl
 | x :: r, w => by
  rw [numsT, numsT_words r, bs_append, bs_append, List.map_cons, show bs (⟨#[32]⟩ : ByteArray) = [32] from rfl, List.append_assoc, List.singleton_append, join_acc]
theorem itemsT_words : ∀ (l : List It) (w t : ByteArray), itemsT w l = some t ↔ (∀ x ∈ l, itemText x.f0 x.f1 x.f2 ≠ (⟨#[]⟩ : ByteArray)) ∧ bs t = joinW 32 (bs w :: l.map fun x => bs (itemText x.f0 x.f1 x.f2)) ++ [10]
 | [], w, t => by
  rw [itemsT]
  constructor
  ·intro h
   rw [← Option.some.inj h, bs_append]
   exact ⟨fun x hx => absurd hx (by simp), rfl⟩
  ·rintro ⟨_, h⟩
   refine congrArg some (bs_inj ?_)
   rw [h, bs_append]; rfl
 | x :: r, w, t => by
  rw [itemsT]
  by_cases c : itemText x.f0 x.f1 x.f2 = (⟨#[]⟩ : ByteArray)
  ·rw [if_pos c]
   exact ⟨fun h => (by cases h), fun h => absurd c (h.1 x List.mem_cons_self)⟩
  ·rw [if_neg c, itemsT_words r, bs_append, bs_append, List.map_cons, show bs (⟨#[32]⟩ : ByteArray) = [32] from rfl, List.append_assoc, List.singleton_append, join_acc]
   constructor
   ·rintro ⟨h1, h2⟩
    refine ⟨fun y hy => ?_, h2⟩
    rcases List.mem_cons.1 hy with rfl | hy
    ·exact c
    ·exact h1 y hy
   ·rintro ⟨h1, h2⟩
    exact ⟨fun y hy => h1 y (List.mem_cons_of_mem _ hy), h2⟩
theorem join_free {c d : UInt8} (hd : d ≠ c) : ∀ (l : List (List UInt8)), (∀ w ∈ l, d ∉ w) → d ∉ joinW c l
 | [], _ => by simp [joinW]
 | [x], h => by rw [joinW]; exact h x List.mem_cons_self
 | x :: y :: r, h => by
  rw [joinW, List.mem_append, not_or]
  refine ⟨h x List.mem_cons_self, fun m => ?_⟩
  rcases List.mem_cons.1 m with m | m
  ·exact hd m
  ·exact join_free hd (y :: r) (fun w hw => h w (List.mem_cons_of_mem _ hw)) m
/-- A line is right: its words are the word and texts of numbers. -/
def lineN (word : ByteArray) (l : List UInt8) : Prop := numsAll (wordsB l) = true ∧ (wordsB l).headD [] = bs word
def lineI (word : ByteArray) (l : List UInt8) : Prop := itemsAll (wordsB l) = true ∧ (wordsB l).headD [] = bs word
theorem head_tail {l : List (List UInt8)} (h : l ≠ []) : l = l.headD [] :: l.tail := by
 cases l with
 | nil => exact absurd rfl h
 | cons x r => rfl
theorem lineN_of {word : ByteArray} {l : List UInt8} (h : lineN word l) : joinW 32 (bs word :: (numsOf (wordsB l)).map fun n => bs (numText n)) = l := by
 obtain ⟨h1, h2⟩ := h
 have e := join_split 32 l
 have ht := head_tail (splitB_ne_nil 32 l)
 unfold wordsB at h1 h2
 rw [h2] at ht
 rw [ht] at e
 unfold numsOf wordsB
 rw [List.map_map]
 have em : (splitB 32 l).tail.map ((fun n => bs (numText n)) ∘ fun w => (textNum (mk w)).1) = (splitB 32 l).tail := by
  unfold numsAll at h1
  rw [List.all_eq_true] at h1
  conv => rhs; rw [← List.map_id (splitB 32 l).tail]
  refine List.map_congr_left (fun w hw => ?_)
  simp only [Function.comp_apply, id_eq]
  rw [(textNum_ok (h1 w hw)).1, bs_of_mk]
 rw [em]; exact e
theorem of_lineN {word : ByteArray} {l : List UInt8} {ns : List Int} (hw : (32 : UInt8) ∉ bs word) (h : l = joinW 32 (bs word :: ns.map fun n => bs (numText n))) : wordsB l = bs word :: ns.map fun n => bs (numText n) := by
 unfold wordsB
 rw [h]
 refine split_join 32 _ (by simp) (fun w hw' => ?_)
 rcases List.mem_cons.1 hw' with rfl | hw'
 ·exact hw
 ·obtain ⟨n, _, rfl⟩ := List.mem_map.1 hw'
  exact numText_free n (by decide)
/-- What was read, written again, gives the line: so the line is right. -/
theorem lineN_fix {word : ByteArray} {l : List UInt8} (hw : (32 : UInt8) ∉ bs word) (h : l = joinW 32 (bs word :: (numsOf (wordsB l)).map fun n => bs (numText n))) : lineN word l := by
 have e := of_lineN hw h
 refine ⟨?_, by rw [e]; rfl⟩
 unfold numsAll
 rw [List.all_eq_true]
 intro w hm
 have et : (wordsB l).tail = ((wordsB l).tail.map fun w => (textNum (mk w)).1).map fun n => bs (numText n) := congrArg List.tail e
 rw [List.map_map] at et
 obtain ⟨i, hi, rfl⟩ := List.getElem_of_mem hm
 have hg := congrArg (fun z => z[i]?) et
 simp only [List.getElem?_map, List.getElem?_eq_getElem hi, Option.map_some, Function.comp_apply, Option.some.injEq] at hg
 refine textNum_fix (bs_inj ?_)
 rw [bs_of_mk]
 exact hg.symm
theorem lineI_of {word : ByteArray} {l : List UInt8} (h : lineI word l) : (∀ x ∈ itemsOf (wordsB l), itemText x.f0 x.f1 x.f2 ≠ (⟨#[]⟩ : ByteArray)) ∧ joinW 32 (bs word :: (itemsOf (wordsB l)).map fun x => bs (itemText x.f0 x.f1 x.f2)) = l := by
 obtain ⟨h1, h2⟩ := h
 have e := join_split 32 l
 have ht := head_tail (splitB_ne_nil 32 l)
 unfold wordsB at h1 h2
 rw [h2] at ht
 rw [ht] at e
 unfold itemsAll at h1
 rw [List.all_eq_true] at h1
 unfold itemsOf wordsB
 refine ⟨fun x hx => ?_, ?_⟩
 ·obtain ⟨w, hw, rfl⟩ := List.mem_map.1 hx
  have ho := textItem_ok (h1 w hw)
  show itemText (textItem (mk w)).1 (textItem (mk w)).2.1 (textItem (mk w)).2.2.1 ≠ _
  rw [ho.1]
  exact ho.2
 rw [List.map_map]
 have em : (splitB 32 l).tail.map ((fun x : It => bs (itemText x.f0 x.f1 x.f2)) ∘ fun w => mkIt (mk w)) = (splitB 32 l).tail := by
  conv => rhs; rw [← List.map_id (splitB 32 l).tail]
  refine List.map_congr_left (fun w hw => ?_)
  show bs (itemText (textItem (mk w)).1 (textItem (mk w)).2.1 (textItem (mk w)).2.2.1) = w
  rw [(textItem_ok (h1 w hw)).1, bs_of_mk]
 rw [em]; exact e
theorem lineI_fix {word : ByteArray} {l : List UInt8} (hw : (32 : UInt8) ∉ bs word) (hne : ∀ x ∈ itemsOf (wordsB l), itemText x.f0 x.f1 x.f2 ≠ (⟨#[]⟩ : ByteArray)) (h : l = joinW 32 (bs word :: (itemsOf (wordsB l)).map fun x => bs (itemText x.f0 x.f1 x.f2))) : lineI word l := by
 have e : wordsB l = bs word :: (itemsOf (wordsB l)).map fun x => bs (itemText x.f0 x.f1 x.f2) := by
  conv => lhs; unfold wordsB; rw [h]
  refine split_join 32 _ (by simp) (fun w hw' => ?_)
  rcases List.mem_cons.1 hw' with rfl | hw'
  ·exact hw
  ·obtain ⟨x, _, rfl⟩ := List.mem_map.1 hw'
   exact (itemText_free _ _ _).1
 refine ⟨?_, by rw [e]; rfl⟩
 unfold itemsAll
 rw [List.all_eq_true]
 intro w hm
 exact textItem_fix (hne (mkIt (mk w)) (List.mem_map.2 ⟨w, hm, rfl⟩))
instance (w : ByteArray) (l : List UInt8) : Decidable (lineN w l) := by unfold lineN; infer_instance
instance (w : ByteArray) (l : List UInt8) : Decidable (lineI w l) := by unfold lineI; infer_instance
theorem rawText_end (h0 h1 : Int) (s m : List It) (g : List Int) : rawText h0 h1 s m g = (⟨#[]⟩ : ByteArray) ∨ ∃ x, bs (rawText h0 h1 s m g) = x ++ [10] := by
 unfold rawText
 split
 ·refine .inr ?_
  simp only [bs_append, numsT_words]
  exact ⟨_, (List.append_assoc _ _ _).symm⟩
 ·exact .inl rfl
theorem words_free (w : ByteArray) (ns : List Int) (h : (10 : UInt8) ∉ bs w) : (10 : UInt8) ∉ joinW 32 (bs w :: ns.map fun n => bs (numText n)) := by
 refine join_free (by decide) _ (fun x hx => ?_)
 rcases List.mem_cons.1 hx with rfl | hx
 ·exact h
 ·obtain ⟨n, _, rfl⟩ := List.mem_map.1 hx
  exact numText_free n (by decide)
theorem items_free (w : ByteArray) (l : List It) (h : (10 : UInt8) ∉ bs w) : (10 : UInt8) ∉ joinW 32 (bs w :: l.map fun x => bs (itemText x.f0 x.f1 x.f2)) := by
 refine join_free (by decide) _ (fun x hx => ?_)
 rcases List.mem_cons.1 hx with rfl | hx
 ·exact h
 ·obtain ⟨n, _, rfl⟩ := List.mem_map.1 hx
  exact (itemText_free _ _ _).2
theorem four_lines {u0 u1 u2 u3 : List UInt8} (h0 : (10 : UInt8) ∉ u0) (h1 : (10 : UInt8) ∉ u1) (h2 : (10 : UInt8) ∉ u2) (h3 : (10 : UInt8) ∉ u3) : splitB 10 (((u0 ++ [10] ++ (u1 ++ [10])) ++ (u2 ++ [10])) ++ (u3 ++ [10])) = [u0, u1, u2, u3, []] := by
 have e : ((u0 ++ [10] ++ (u1 ++ [10])) ++ (u2 ++ [10])) ++ (u3 ++ [10]) = u0 ++ 10 :: (u1 ++ 10 :: (u2 ++ 10 :: (u3 ++ 10 :: []))) := by simp
 rw [e, splitB_app _ _ _ h0, splitB_app _ _ _ h1, splitB_app _ _ _ h2, splitB_app _ _ _ h3]
 rfl
theorem rd2 (x y : Int) : rd ([x, y] ++ [0, 0]) 0 = x ∧ rd ([x, y] ++ [0, 0]) 1 = y := ⟨rfl, rfl⟩
theorem raw_iff {s : ByteArray} {l0 l1 l2 l3 : List UInt8} (hs : splitB 10 (bs s) = [l0, l1, l2, l3, []]) : rawText (rd (numsOf (wordsB l0) ++ [0, 0]) 0) (rd (numsOf (wordsB l0) ++ [0, 0]) 1) (itemsOf (wordsB l1)) (itemsOf (wordsB l2)) (numsOf (wordsB l3)) = s ↔ (lineN wThree l0 ∧ lineI wSmall l1 ∧ lineI wMain l2 ∧ lineN wGhost l3 ∧ (numsOf (wordsB l0)).length = 2) := by
 have hj := join_split 10 (bs s)
 rw [hs] at hj
 have ej : joinW 10 [l0, l1, l2, l3, []] = ((l0 ++ [10] ++ (l1 ++ [10])) ++ (l2 ++ [10])) ++ (l3 ++ [10]) := by simp [joinW]
 rw [ej] at hj
 constructor
 ·intro h
  unfold rawText at h
  split at h
  rotate_left
  ·exfalso
   rw [← h] at hs
   exact absurd (congrArg List.length hs) (by rw [show splitB 10 (bs (⟨#[]⟩ : ByteArray)) = [[]] from rfl]; simp)
  rename_i a b ha hb
  obtain ⟨na, ta⟩ := (itemsT_words _ _ _).1 ha
  obtain ⟨nb, tb⟩ := (itemsT_words _ _ _).1 hb
  have hk := hs
  rw [← h, bs_append, bs_append, bs_append, numsT_words, numsT_words, ta, tb, four_lines (words_free _ _ (by decide)) (items_free _ _ (by decide)) (items_free _ _ (by decide)) (words_free _ _ (by decide))] at hk
  simp only [List.cons.injEq, and_true] at hk
  obtain ⟨k0, k1, k2, k3⟩ := hk
  have w0 := of_lineN (ns := [rd (numsOf (wordsB l0) ++ [0, 0]) 0, rd (numsOf (wordsB l0) ++ [0, 0]) 1]) (word := wThree) (by decide) k0.symm
  have hl : (numsOf (wordsB l0)).length = 2 := by
   have := congrArg List.length w0
   unfold numsOf
   simp at this ⊢
   omega
  have hn : ∃ x y, numsOf (wordsB l0) = [x, y] := by
   generalize numsOf (wordsB l0) = ns at hl
   match ns, hl with
   | [x, y], _ => exact ⟨x, y, rfl⟩
  obtain ⟨x, y, hn⟩ := hn
  have e0 : l0 = joinW 32 (bs wThree :: (numsOf (wordsB l0)).map fun n => bs (numText n)) := by
   rw [hn] at k0 ⊢
   exact k0.symm
  exact ⟨lineN_fix (by decide) e0, lineI_fix (by decide) na k1.symm, lineI_fix (by decide) nb k2.symm, lineN_fix (by decide) k3.symm, hl⟩
 ·rintro ⟨h0, h1, h2, h3, hl⟩
  have hn : ∃ x y, numsOf (wordsB l0) = [x, y] := by
   generalize numsOf (wordsB l0) = ns at hl
   match ns, hl with
   | [x, y], _ => exact ⟨x, y, rfl⟩
  obtain ⟨x, y, hn⟩ := hn
  have e0 := lineN_of h0
  obtain ⟨n1, e1⟩ := lineI_of h1
  obtain ⟨n2, e2⟩ := lineI_of h2
  have e3 := lineN_of h3
  rw [hn] at e0 ⊢
  rw [(rd2 x y).1, (rd2 x y).2]
  have ha : itemsT wSmall (itemsOf (wordsB l1)) = some (mk (l1 ++ [10])) := (itemsT_words _ _ _).2 ⟨n1, by rw [bs_of_mk, e1]⟩
  have hb : itemsT wMain (itemsOf (wordsB l2)) = some (mk (l2 ++ [10])) := (itemsT_words _ _ _).2 ⟨n2, by rw [bs_of_mk, e2]⟩
  unfold rawText
  rw [ha, hb]
  refine bs_inj ?_
  rw [← hj]
  simp only [bs_append, numsT_words, bs_of_mk]
  rw [e0, e3]
abbrev R3 : Type := Int × Int × List It × List It × List Int × Int
def textThree (s : ByteArray) : R3 :=
 if s.size > 8000 then (0, 0, [], [], [], 1)
 else match splitB 10 (bs s) with
  | [l0, l1, l2, l3, []] =>
   if lineN wThree l0 ∧ lineI wSmall l1 ∧ lineI wMain l2 ∧ lineN wGhost l3 ∧ (numsOf (wordsB l0)).length = 2 then
    (if threeOk (rd (numsOf (wordsB l0)) 0) (rd (numsOf (wordsB l0)) 1) (itemsOf (wordsB l1)) (itemsOf (wordsB l2)) (numsOf (wordsB l3)) = true then (rd (numsOf (wordsB l0)) 0, rd (numsOf (wordsB l0)) 1, itemsOf (wordsB l1), itemsOf (wordsB l2), numsOf (wordsB l3), 0) else (0, 0, [], [], [], 3))
   else (0, 0, [], [], [], 2)
  | _ => (0, 0, [], [], [], 2)
theorem five_lines {L : List (List UInt8)} (h : L.length = 5) : ∃ a b c d e, L = [a, b, c, d, e] := by
 match L, h with
 | [a, b, c, d, e], _ => exact ⟨a, b, c, d, e, rfl⟩
theorem four_list {L : List (List UInt8)} (h : L.length = 4) : ∃ a b c d, L = [a, b, c, d] := by
 match L, h with
 | [a, b, c, d], _ => exact ⟨a, b, c, d, rfl⟩
theorem line_sizes {s : ByteArray} (hs : s.size ≤ 1048576) {l : List UInt8} (h : l ∈ splitB 10 (bs s)) : l.length ≤ 1048576 ∧ (wordsB l).length ≤ 1048577 ∧ ∀ w ∈ wordsB l, w.length ≤ 1048576 := by
 have h1 := split_mem_len 10 (bs s) l h
 rw [bs_length] at h1
 have h2 := split_len 32 l
 refine ⟨by omega, by unfold wordsB; omega, fun w hw => ?_⟩
 have := split_mem_len 32 l w hw
 omega
theorem items_fine {l : List UInt8} (h : (wordsB l).length ≤ 1048577) (hw : ∀ w ∈ wordsB l, w.length ≤ 1048576) : Fine (itemsOf (wordsB l)) := by
 unfold itemsOf
 refine ⟨by rw [List.length_map, List.length_tail]; omega, fun x hx => ?_⟩
 obtain ⟨w, hm, rfl⟩ := List.mem_map.1 hx
 have hz := textItem_size (mk w) (by rw [mk_size]; exact hw w (List.mem_of_mem_tail hm))
 exact ⟨by show (textItem (mk w)).1.size ≤ _; omega, by show (textItem (mk w)).2.1.size ≤ _; omega⟩
theorem nums_len {l : List UInt8} (h : (wordsB l).length ≤ 1048577) : (numsOf (wordsB l)).length ≤ 1048577 := by
 unfold numsOf
 rw [List.length_map, List.length_tail]; omega
theorem nums_num (ws : List (List UInt8)) : ∀ x ∈ numsOf ws, isNum x = true := by
 intro x hx
 obtain ⟨w, _, rfl⟩ := List.mem_map.1 hx
 exact textNum_isNum _
theorem impl_j1_bad (a : List Int) (b c : List It) (d : List Int) : Ev (fun k => impl_TextThree.j1 k a b c d true) (0, 0, [], [], [], 2) := by
 refine Ev.step (fun _ => rfl) ?_
 simp only [impl_TextThree.j1]
 exact Ev.const rfl
theorem impl_j0_bad (l : List ByteArray) : Ev (fun k => impl_TextThree.j0 k l true) (0, 0, [], [], [], 2) := by
 refine Ev.step (fun _ => rfl) ?_
 simp only [impl_TextThree.j0]
 exact Ev.const rfl
theorem pickN {w : ByteArray} {l : List UInt8} {α : Type} {x : α} {z : α} (h : lineN w l) : (if numsAll (wordsB l) = true then (x, decide ((wordsB l).headD [] = bs w)) else (z, false)) = (x, true) := by
 rw [if_pos h.1, decide_eq_true h.2]
theorem pickN_not {w : ByteArray} {l : List UInt8} {α : Type} {x : α} {z : α} (h : ¬ lineN w l) : (if numsAll (wordsB l) = true then (x, decide ((wordsB l).headD [] = bs w)) else (z, false)).2 = false := by
 by_cases c : numsAll (wordsB l) = true
 ·rw [if_pos c]; exact decide_eq_false (fun e => h ⟨c, e⟩)
 ·rw [if_neg c]
theorem pickI {w : ByteArray} {l : List UInt8} {α : Type} {x : α} {z : α} (h : lineI w l) : (if itemsAll (wordsB l) = true then (x, decide ((wordsB l).headD [] = bs w)) else (z, false)) = (x, true) := by
 rw [if_pos h.1, decide_eq_true h.2]
theorem pickI_not {w : ByteArray} {l : List UInt8} {α : Type} {x : α} {z : α} (h : ¬ lineI w l) : (if itemsAll (wordsB l) = true then (x, decide ((wordsB l).headD [] = bs w)) else (z, false)).2 = false := by
 by_cases c : itemsAll (wordsB l) = true
 ·rw [if_pos c]; exact decide_eq_false (fun e => h ⟨c, e⟩)
 ·rw [if_neg c]
theorem impl_TextThree_ev (s : ByteArray) (hs : s.size ≤ 1048576) : Ev (fun k => impl_TextThree.f k s) (textThree s) := by
 unfold impl_TextThree.f textThree
 by_cases c : s.size > 8000
 ·exact Ev.pos (by omega) (Ev.const (by rw [if_pos c]))
 refine Ev.neg (by omega) ?_
 rw [if_neg c]
 refine Ev.bind (impl_split_ev s 10 hs) ?_
 have hz := @line_sizes s hs
 generalize splitB 10 (bs s) = L at hz ⊢
 by_cases h5 : L.length = 5
 rotate_left
 ·refine Ev.neg (by rw [List.length_map]; omega) (Ev.to (impl_j0_bad _) ?_)
  split
  ·exact absurd rfl h5
  ·rfl
 obtain ⟨l0, l1, l2, l3, l4, rfl⟩ := five_lines h5
 refine Ev.pos (by simp) (Ev.pos (by simp) ?_)
 have r4 : rdOf ByteArray.empty (List.map mk [l0, l1, l2, l3, l4]) 4 = mk l4 := rfl
 rw [r4, bs_toList, bs_of_mk]
 cases l4 with
 | cons x r => exact impl_j0_bad _
 | nil =>
  refine Ev.step (fun _ => rfl) ?_
  simp only [impl_TextThree.j0]
  have r0 : rdOf ByteArray.empty (List.map mk [l0, l1, l2, l3, []]) 0 = mk l0 := rfl
  have r1 : rdOf ByteArray.empty (List.map mk [l0, l1, l2, l3, []]) 1 = mk l1 := rfl
  have r2 : rdOf ByteArray.empty (List.map mk [l0, l1, l2, l3, []]) 2 = mk l2 := rfl
  have r3 : rdOf ByteArray.empty (List.map mk [l0, l1, l2, l3, []]) 3 = mk l3 := rfl
  rw [r0, r1, r2, r3]
  have z0 := hz (l := l0) (by simp)
  have z1 := hz (l := l1) (by simp)
  have z2 := hz (l := l2) (by simp)
  have z3 := hz (l := l3) (by simp)
  refine Ev.neg (by simp) (Ev.pos (by simp) ?_)
  refine Ev.bind (impl_numbers_ev (mk l0) wThree (by rw [mk_size]; exact z0.1)) (Ev.pos (by simp) ?_)
  refine Ev.bind (impl_items_ev (mk l1) wSmall (by rw [mk_size]; exact z1.1)) (Ev.pos (by simp) ?_)
  refine Ev.bind (impl_items_ev (mk l2) wMain (by rw [mk_size]; exact z2.1)) (Ev.pos (by simp) ?_)
  refine Ev.bind (impl_numbers_ev (mk l3) wGhost (by rw [mk_size]; exact z3.1)) ?_
  simp only [bs_of_mk]
  by_cases c0 : lineN wThree l0
  rotate_left
  ·exact Ev.neg (by rw [pickN_not c0]; simp) (Ev.to (impl_j1_bad _ _ _ _) (by rw [if_neg (fun h => c0 h.1)]))
  rw [pickN c0]
  refine Ev.pos rfl ?_
  by_cases c1 : lineI wSmall l1
  rotate_left
  ·exact Ev.neg (by rw [pickI_not c1]; simp) (Ev.to (impl_j1_bad _ _ _ _) (by rw [if_neg (fun h => c1 h.2.1)]))
  rw [pickI c1]
  refine Ev.pos rfl ?_
  by_cases c2 : lineI wMain l2
  rotate_left
  ·exact Ev.neg (by rw [pickI_not c2]; simp) (Ev.to (impl_j1_bad _ _ _ _) (by rw [if_neg (fun h => c2 h.2.2.1)]))
  rw [pickI c2]
  refine Ev.pos rfl ?_
  by_cases c3 : lineN wGhost l3
  rotate_left
  ·exact Ev.neg (by rw [pickN_not c3]; simp) (Ev.to (impl_j1_bad _ _ _ _) (by rw [if_neg (fun h => c3 h.2.2.2.1)]))
  rw [pickN c3]
  refine Ev.pos rfl ?_
  by_cases c4 : (numsOf (wordsB l0)).length = 2
  rotate_left
  ·have e : (((numsOf (wordsB l0)).length : Int) != 2) = true := by rw [bne_iff_ne]; omega
   rw [e]
   exact Ev.to (impl_j1_bad _ _ _ _) (by rw [if_neg (fun h => c4 h.2.2.2.2)])
  rw [if_pos ⟨c0, c1, c2, c3, c4⟩]
  have e : (((numsOf (wordsB l0)).length : Int) != 2) = false := by rw [bne_eq_false_iff_eq]; omega
  rw [e]
  refine Ev.step (fun _ => rfl) ?_
  simp only [impl_TextThree.j1]
  refine Ev.neg (by simp) (Ev.pos (by omega) (Ev.pos (by omega) ?_))
  have hg := nums_len z3.2.1
  refine Ev.bind (impl_ThreeOk_ev _ _ _ _ _ (items_fine z1.2.1 z1.2.2) (items_fine z2.2.1 z2.2.2) (by omega)) ?_
  cases q : threeOk (rd (numsOf (wordsB l0)) 0) (rd (numsOf (wordsB l0)) 1) (itemsOf (wordsB l1)) (itemsOf (wordsB l2)) (numsOf (wordsB l3))
  ·exact Ev.neg (by simp) (Ev.const (by simp))
  ·exact Ev.pos rfl (Ev.const (by simp))
theorem rd_num {l : List UInt8} (i : Nat) (hi : i < 2) : isNum (rd (numsOf (wordsB l) ++ [0, 0]) (i : Int)) = true := by
 have h : i < (numsOf (wordsB l) ++ [0, 0]).length := by rw [List.length_append]; simp; omega
 rw [show rd (numsOf (wordsB l) ++ [0, 0]) (i : Int) = (numsOf (wordsB l) ++ [0, 0])[i] from getD_at h _]
 have hm := List.getElem_mem h
 rcases List.mem_append.1 hm with hm | hm
 ·exact nums_num _ _ hm
 ·simp only [List.mem_cons, List.not_mem_nil, or_false, or_self] at hm
  rw [hm]; rfl
theorem spec_TextThree_ev (s : ByteArray) (hs : s.size ≤ 1048576) : Ev (fun k => spec_TextThree.f k s) (textThree s) := by
 unfold spec_TextThree.f textThree
 by_cases c : s.size > 8000
 ·exact Ev.pos (by omega) (Ev.const (by rw [if_pos c]))
 refine Ev.neg (by omega) ?_
 rw [if_neg c]
 refine Ev.bind (spec_Lines_ev s hs) ?_
 have hz := @line_sizes s hs
 by_cases h4 : (linesB (bs s)).length = 4
 rotate_left
 ·refine Ev.neg (by rw [List.length_map]; omega) (Ev.const ?_)
  split
  ·rename_i hL
   exfalso
   apply h4
   unfold linesB
   rw [hL]; rfl
  ·rfl
 have hm : ∀ l ∈ linesB (bs s), l ∈ splitB 10 (bs s) := by
  intro l hl
  unfold linesB at hl
  split at hl
  ·exact List.dropLast_subset _ hl
  ·exact hl
 obtain ⟨l0, l1, l2, l3, hL⟩ := four_list h4
 rw [hL] at hm ⊢
 have r0 : rdOf ByteArray.empty (List.map mk [l0, l1, l2, l3]) 0 = mk l0 := rfl
 have r1 : rdOf ByteArray.empty (List.map mk [l0, l1, l2, l3]) 1 = mk l1 := rfl
 have r2 : rdOf ByteArray.empty (List.map mk [l0, l1, l2, l3]) 2 = mk l2 := rfl
 have r3 : rdOf ByteArray.empty (List.map mk [l0, l1, l2, l3]) 3 = mk l3 := rfl
 rw [r0, r1, r2, r3]
 have z0 := hz (hm l0 (by simp))
 have z1 := hz (hm l1 (by simp))
 have z2 := hz (hm l2 (by simp))
 have z3 := hz (hm l3 (by simp))
 have g0 := nums_len z0.2.1
 have g3 := nums_len z3.2.1
 refine Ev.pos (by simp) (Ev.pos (by simp) ?_)
 refine Ev.bind (spec_Cut_ev (mk l0) (by rw [mk_size]; exact z0.1)) ?_
 rw [bs_of_mk]
 refine Ev.bind (spec_l20Numbers_ev _ (splitB_ne_nil 32 l0) z0.2.1) (Ev.bind (Ev.const rfl) ?_)
 refine Ev.pos (by simp; omega) (Ev.bind (Ev.const rfl) ?_)
 refine Ev.pos (by simp; omega) (Ev.pos (by simp; omega) (Ev.pos (by simp) ?_))
 refine Ev.bind (spec_Cut_ev (mk l1) (by rw [mk_size]; exact z1.1)) ?_
 rw [bs_of_mk]
 refine Ev.bind (spec_l20Read_ev _ (splitB_ne_nil 32 l1) z1.2.1 z1.2.2) (Ev.pos (by simp) ?_)
 refine Ev.bind (spec_Cut_ev (mk l2) (by rw [mk_size]; exact z2.1)) ?_
 rw [bs_of_mk]
 refine Ev.bind (spec_l20Read_ev _ (splitB_ne_nil 32 l2) z2.2.1 z2.2.2) (Ev.pos (by simp) ?_)
 refine Ev.bind (spec_Cut_ev (mk l3) (by rw [mk_size]; exact z3.1)) ?_
 rw [bs_of_mk]
 refine Ev.bind (spec_l20Numbers_ev _ (splitB_ne_nil 32 l3) z3.2.1) ?_
 have f1 := items_fine z1.2.1 z1.2.2
 have f2 := items_fine z2.2.1 z2.2.2
 refine Ev.bind (spec_l20Text_ev _ _ _ _ _ f1 f2 (by omega) (rd_num 0 (by omega)) (rd_num 1 (by omega)) (nums_num _)) ?_
 by_cases a : (splitB 10 (bs s)).getLast? = some []
 ·have e5 : splitB 10 (bs s) = [l0, l1, l2, l3, []] := by
   unfold linesB at hL
   rw [if_pos a] at hL
   have := List.dropLast_concat_getLast (splitB_ne_nil 10 (bs s))
   rw [hL] at this
   rw [List.getLast?_eq_some_getLast (splitB_ne_nil 10 (bs s))] at a
   rw [Option.some.inj a] at this
   exact this.symm
  have hi := raw_iff e5
  rw [e5]
  simp only
  by_cases q : (lineN wThree l0 ∧ lineI wSmall l1 ∧ lineI wMain l2 ∧ lineN wGhost l3 ∧ (numsOf (wordsB l0)).length = 2)
  ·rw [if_pos q]
   refine Ev.pos (bytes_eq.2 (hi.2 q)) ?_
   have hn : ∃ x y, numsOf (wordsB l0) = [x, y] := by
    have hl := q.2.2.2.2
    generalize numsOf (wordsB l0) = ns at hl
    match ns, hl with
    | [x, y], _ => exact ⟨x, y, rfl⟩
   obtain ⟨x, y, hn⟩ := hn
   rw [hn, (rd2 x y).1, (rd2 x y).2]
   refine Ev.bind (spec_ThreeOk_ev _ _ _ _ _ f1 f2 (by omega)) ?_
   have ex : rd [x, y] 0 = x := rfl
   have ey : rd [x, y] 1 = y := rfl
   rw [ex, ey]
   cases t : threeOk x y (itemsOf (wordsB l1)) (itemsOf (wordsB l2)) (numsOf (wordsB l3))
   ·exact Ev.neg (by simp) (Ev.const (by simp))
   ·exact Ev.pos rfl (Ev.const (by simp))
  ·rw [if_neg q]
   exact Ev.neg (fun h => q (hi.1 (bytes_eq.1 h))) (Ev.const rfl)
 ·have e4 : splitB 10 (bs s) = [l0, l1, l2, l3] := by
   unfold linesB at hL
   rw [if_neg a] at hL
   exact hL
  refine Ev.neg (fun h => ?_) (Ev.const ?_)
  ·have h := bytes_eq.1 h
   rcases rawText_end (rd (numsOf (wordsB l0) ++ [0, 0]) 0) (rd (numsOf (wordsB l0) ++ [0, 0]) 1) (itemsOf (wordsB l1)) (itemsOf (wordsB l2)) (numsOf (wordsB l3)) with r | ⟨x, r⟩
   ·rw [r] at h
    rw [← h] at e4
    exact absurd (congrArg List.length e4) (by rw [show splitB 10 (bs (⟨#[]⟩ : ByteArray)) = [[]] from rfl]; simp)
   ·rw [h] at r
    rw [r] at a
    exact a (split_end 10 x)
  ·rw [e4]
end Go.Proofs.Ytnlnifpehndacaa.Q

namespace Go.Proofs.Ytnlnifpehndacaa.Fam
open Go.RowKit Go.Proofs.Ytnlnifpehndacaa.G Go.Proofs.Ytnlnifpehndacaa.PL Go.Proofs.Ytnlnifpehndacaa.Ok Go.Proofs.YtnlnifpehndacaaW.PrintWords Go.Proofs.YtnlnifpehndacaaW.PrintLast Go.Proofs.YtnlnifpehndacaaW.PrintMore
set_option linter.unusedVariables false
set_option linter.unusedSimpArgs false
def cvItem (x : S99) : S76 := ⟨x.f0, x.f1, x.f2⟩
instance decItem : DecidableEq S76 := fun a b => decidable_of_iff (a.f0 = b.f0 ∧ a.f1 = b.f1 ∧ a.f2 = b.f2) (by cases a; cases b; simp)
def szmItem (x : S99) : Nat := x.f0.size + x.f1.size
theorem szItem_ev (x0 : ByteArray) (x1 : ByteArray) (x2 : Int) (a : Int) (h0 : 0 ≤ a) (h1 : a ≤ 1048576) (o0 : x0.size ≤ 140737488351232) (o1 : x1.size ≤ 140737488351232) : Ev (fun k => laws_szItem.f x0 x1 x2 a) (left a (x0.size + x1.size)) := by
 unfold laws_szItem.f
 by_cases c0 : ((x0.size : Nat) : Int) ≤ a
 rotate_left
 ·rw [w64 (x := a - (x0.size : Int)) (by omega) (by omega)]
  refine Ev.pos (by omega) ?_
  exact Ev.const (congrArg some (left_neg (by omega)).symm)
 rw [w64 (x := a - (x0.size : Int)) (by omega) (by omega)]
 refine Ev.neg (by omega) ?_
 by_cases c1 : ((x1.size : Nat) : Int) ≤ a - (x0.size : Nat)
 rotate_left
 ·rw [w64 (x := a - (x0.size : Nat) - (x1.size : Int)) (by omega) (by omega)]
  refine Ev.pos (by omega) ?_
  exact Ev.const (congrArg some (left_neg (by omega)).symm)
 rw [w64 (x := a - (x0.size : Nat) - (x1.size : Int)) (by omega) (by omega)]
 refine Ev.neg (by omega) ?_
 exact Ev.const (by first | rfl | exact congrArg some (by rw [left_pos (by omega)] <;> omega))
theorem toItem_ev (x0 : ByteArray) (x1 : ByteArray) (x2 : Int)  : Ev (fun k => laws_toItem.f x0 x1 x2) (x0, x1, x2) := by
 unfold laws_toItem.f
 exact Ev.const rfl
theorem eqItem_ev (x0 : ByteArray) (x1 : ByteArray) (x2 : Int)  : Ev (fun k => laws_eqItem.f x0 x1 x2 x0 x1 x2) true := by
 unfold laws_eqItem.f
 refine Ev.pos rfl ?_
 refine Ev.pos rfl ?_
 refine Ev.pos rfl ?_
 exact Ev.const rfl
end Go.Proofs.Ytnlnifpehndacaa.Fam

namespace Go.Proofs.Ytnlnifpehndacaa.Fam
open Go.RowKit Go.Proofs.Ytnlnifpehndacaa.G Go.Proofs.Ytnlnifpehndacaa.PL Go.Proofs.YtnlnifpehndacaaW.PrintWords Go.Proofs.YtnlnifpehndacaaW.PrintLast
set_option linter.unusedVariables false
set_option linter.unusedSimpArgs false
theorem strOfNums_size (xs : List Int) : (strOfNums xs).size = xs.length := by
 simp [strOfNums, ByteArray.size]
theorem markText_l0 : ∀ (n : Nat) (x : Int) (y : ByteArray), x < 10 ^ n → y.size + n ≤ 1000 → ∃ t, Ev (fun k => laws_markText.l0 k x y) t
 | 0, x, y, hx, hy => by
  refine ⟨(⟨#[109]⟩ : ByteArray) ++ y, Ev.step (fun _ => rfl) ?_⟩
  simp only [laws_markText.l0]
  refine Ev.neg (by simp at hx; omega) ?_
  refine Ev.pos (by omega) ?_
  exact Ev.const rfl
 | n + 1, x, y, hx, hy => by
  by_cases h0 : x > 0
  ·have hd : Int.tdiv x 10 = x / 10 := Int.tdiv_eq_ediv_of_nonneg (by omega)
   have hxd : wrap64 (Int.tdiv x 10) < 10 ^ n := by
    rw [hd]
    have h1 : x / 10 < 10 ^ n := by rw [Int.pow_succ] at hx; omega
    by_cases hb : x / 10 ≤ 9223372036854775807
    ·rw [w64 (by omega) hb]; exact h1
    ·have h2 : wrap64 (x / 10) < 9223372036854775808 := by unfold wrap64; omega
     omega
   have hz : (strOfNums [wrap64 (48 + Int.tmod x 10) % 256]).size = 1 := by rw [strOfNums_size]; rfl
   obtain ⟨t, ht⟩ := markText_l0 n (wrap64 (Int.tdiv x 10)) (strOfNums [wrap64 (48 + Int.tmod x 10) % 256] ++ y) hxd (by rw [ByteArray.size_append, hz]; omega)
   refine ⟨t, Ev.step (fun _ => rfl) ?_⟩
   simp only [laws_markText.l0]
   refine Ev.pos h0 ?_
   refine Ev.bind (Ev.const rfl) ?_
   refine Ev.pos (by omega) ?_
   exact ht
  ·refine ⟨(⟨#[109]⟩ : ByteArray) ++ y, Ev.step (fun _ => rfl) ?_⟩
   simp only [laws_markText.l0]
   refine Ev.neg h0 ?_
   refine Ev.pos (by omega) ?_
   exact Ev.const rfl
theorem markText_any (m : Int) (h : m ≤ 4611686018427387904) : ∃ t, Ev (fun k => laws_markText.f k m) t := by
 unfold laws_markText.f
 by_cases c : m ≤ 0
 ·exact ⟨_, Ev.pos c (Ev.const rfl)⟩
 ·obtain ⟨t, ht⟩ := markText_l0 20 m ⟨#[]⟩ (by rw [show (10 : Int) ^ 20 = 100000000000000000000 from by decide]; omega) (by rw [show (⟨#[]⟩ : ByteArray).size = 0 from rfl]; omega)
  exact ⟨t, Ev.neg c ht⟩
open Classical in
noncomputable def tx (m : Int) : ByteArray := if h : m ≤ 4611686018427387904 then Classical.choose (markText_any m h) else ⟨#[]⟩
theorem tx_ev (m : Int) (h0 : 1 ≤ m) (h : m ≤ 4611686018427387904) : Ev (fun k => laws_markText.f k m) (tx m) := by
 unfold tx
 rw [dif_pos h]
 exact Classical.choose_spec (markText_any m h)
theorem wrap_add1 {m : Int} (h0 : 0 ≤ m) (h : m ≤ 4611686018427387904) : wrap64 (m + 1) = m + 1 := w64 (by omega) (by omega)
theorem wrap_add2 {m : Int} (h0 : 0 ≤ m) (h : m ≤ 4611686018427387904) : wrap64 (m + 1 + 1) = m + 2 := by rw [w64 (by omega) (by omega)]; omega
theorem wrap_add3 {m : Int} (h0 : 0 ≤ m) (h : m ≤ 4611686018427387904) : wrap64 (m + 2 + 1) = m + 3 := by rw [w64 (by omega) (by omega)]; omega
end Go.Proofs.Ytnlnifpehndacaa.Fam

namespace Go.Proofs.Ytnlnifpehndacaa.Fam
open Go.RowKit Go.Proofs.Ytnlnifpehndacaa.G Go.Proofs.Ytnlnifpehndacaa.PL Go.Proofs.Ytnlnifpehndacaa.Ok Go.Proofs.YtnlnifpehndacaaW.PrintWords Go.Proofs.YtnlnifpehndacaaW.PrintLast Go.Proofs.YtnlnifpehndacaaW.PrintMore
set_option linter.unusedVariables false
set_option linter.unusedSimpArgs false
def szmItemS (l : List S99) : Nat := l.length + (l.map fun x => (szmItem x)).sum
theorem szItemS_l0 (l : List S99) (ho : okT40 l) : ∀ (d i : Nat) (a : Int), i + d = l.length → 0 ≤ a → a ≤ 1048576 → Ev (fun k => laws_szItemS.l0 k l a i) (left a ((l.drop i).map fun x => (szmItem x)).sum) := by
 have hl := ho.2
 intro d
 induction d with
 | zero =>
  intro i a hi h0 h1
  refine Ev.step (fun _ => rfl) ?_
  simp only [laws_szItemS.l0]
  refine Ev.neg (by omega) ?_
  rw [List.drop_of_length_le (by omega)]
  exact Ev.const (congrArg some (left_zero h0).symm)
 | succ d ih =>
  intro i a hi h0 h1
  have hlt : i < l.length := by omega
  have er : rd_T99 l (i : Int) = l[i] := getD_at hlt _
  have hok := ho.1 _ (List.getElem_mem hlt)
  refine Ev.step (fun _ => rfl) ?_
  simp only [laws_szItemS.l0]
  refine Ev.pos (by omega) ?_
  refine Ev.pos (by omega) ?_
  rw [er, drop_at hlt, List.map_cons, List.sum_cons, wsucc (by omega)]
  have hz : (szmItem l[i]) = (l[i]).f0.size + (l[i]).f1.size := rfl
  refine Ev.bind (szItem_ev (l[i]).f0 (l[i]).f1 (l[i]).f2 a h0 h1 hok.1 hok.2.1) ?_
  rw [← hz]
  by_cases c : (((szmItem l[i]) : Nat) : Int) ≤ a
  ·rw [left_pos c]
   refine Ev.neg (by omega) ?_
   refine Ev.to (ih (i + 1) (a - (szmItem l[i])) (by omega) (by omega) (by omega)) ?_
   exact left_add
  ·rw [left_neg c]
   refine Ev.pos (by omega) ?_
   exact Ev.const (congrArg some (left_neg_add c).symm)
theorem szItemS_ev (l : List S99) (a : Int) (h0 : 0 ≤ a) (h1 : a ≤ 1048576) (o : okT40 l) : Ev (fun k => laws_szItemS.f k l a) (left a (szmItemS l)) := by
 have ho := o.2
 unfold laws_szItemS.f szmItemS
 rw [w64 (by omega) (by omega)]
 by_cases c : (l.length : Int) ≤ a
 ·refine Ev.neg (by omega) ?_
  refine Ev.to (szItemS_l0 l o l.length 0 (a - l.length) (by omega) (by omega) (by omega)) ?_
  rw [List.drop_zero]
  exact left_add
 ·refine Ev.pos (by omega) ?_
  exact Ev.const (congrArg some (left_neg_add c).symm)
theorem toItemS_l0 (l : List S99) (ho : okT40 l) : ∀ (d i : Nat) (ys : List S76), i + d = l.length → ys.length = l.length → ys.take i = (l.take i).map cvItem → Ev (fun k => laws_toItemS.l0 k l ys i) (l.map cvItem) := by
 have hl := ho.2
 intro d
 induction d with
 | zero =>
  intro i ys hi hy ht
  refine Ev.step (fun _ => rfl) ?_
  simp only [laws_toItemS.l0]
  refine Ev.neg (by omega) ?_
  rw [List.take_of_length_le (by omega), List.take_of_length_le (by omega)] at ht
  exact Ev.const (congrArg some ht)
 | succ d ih =>
  intro i ys hi hy ht
  have hlt : i < l.length := by omega
  have er : rd_T99 l (i : Int) = l[i] := getD_at hlt _
  have hok := ho.1 _ (List.getElem_mem hlt)
  refine Ev.step (fun _ => rfl) ?_
  simp only [laws_toItemS.l0]
  refine Ev.pos (by omega) ?_
  refine Ev.pos (by omega) ?_
  rw [er, wsucc (by omega)]
  refine Ev.bind (toItem_ev (l[i]).f0 (l[i]).f1 (l[i]).f2 ) ?_
  refine Ev.pos (by omega) ?_
  exact ih (i + 1) _ (by omega) (by simp [hy]) (take_drop_set cvItem l ys hlt hy ht)
theorem toItemS_ev (l : List S99) (o : okT40 l) : Ev (fun k => laws_toItemS.f k l) (l.map cvItem) := by
 have ho := o.2
 unfold laws_toItemS.f
 rw [Int.toNat_natCast]
 refine Ev.pos (by omega) ?_
 refine Ev.pos (by omega) ?_
 refine Ev.to (toItemS_l0 l o l.length 0 _ (by omega) (by simp) (by simp)) ?_
 rfl
theorem eqItemS_l0 (l : List S76) (ho : l.length ≤ 140737488351232) : ∀ (d i : Nat), i + d = l.length → Ev (fun k => laws_eqItemS.l0 k l l i) true := by
 have hl : l.length ≤ 140737488351232 := ho
 intro d
 induction d with
 | zero =>
  intro i hi
  refine Ev.step (fun _ => rfl) ?_
  simp only [laws_eqItemS.l0]
  refine Ev.neg (by omega) ?_
  exact Ev.const rfl
 | succ d ih =>
  intro i hi
  refine Ev.step (fun _ => rfl) ?_
  simp only [laws_eqItemS.l0]
  refine Ev.pos (by omega) ?_
  refine Ev.pos (by omega) ?_
  refine Ev.pos (by omega) ?_
  rw [wsucc (by omega)]
  refine Ev.bind (eqItem_ev _ _ _ ) ?_
  refine Ev.pos rfl ?_
  exact ih (i + 1) (by omega)
theorem eqItemS_ev (l : List S76) (ho : l.length ≤ 140737488351232) : Ev (fun k => laws_eqItemS.f k l l) true := by
 unfold laws_eqItemS.f
 refine Ev.pos rfl ?_
 exact eqItemS_l0 l ho l.length 0 (by omega)
noncomputable def mkItemS : Int → List S76 → List S76
 | _, [] => []
 | m, _ :: r => (⟨(tx m), (tx (m + 1)), (m + 2)⟩ : S76) :: mkItemS (m + 3) r
theorem rdm_ItemS (pre : List S76) (x : S76) (rest : List S76) : rd_T76 (pre ++ x :: rest) (pre.length : Int) = x := getD_mid pre x _ rest
theorem markItemS_l0 : ∀ (rest pre : List S76) (m : Int), 1 ≤ m → (m + 3 * (rest.length : Int) ≤ 4611686018427387904 ∧ (pre.length : Int) + rest.length ≤ 4611686018427387904) → Ev (fun k => laws_markItemS.l0 k (pre ++ rest) m (pre.length : Int)) (m + 3 * (rest.length : Int), pre ++ mkItemS m rest)
 | [], pre, m, h0, h1 => by
  refine Ev.step (fun _ => rfl) ?_
  simp only [laws_markItemS.l0]
  refine Ev.neg (by simp) ?_
  exact Ev.const (by simp [mkItemS])
 | x :: rest, pre, m, h0, h1 => by
  simp only [List.length_cons, Int.natCast_add, Int.cast_ofNat_Int] at h1
  have hlen : (pre.length : Int) < 4611686018427387904 := by omega
  have hstep := markItemS_l0 rest (pre ++ [(⟨(tx m), (tx (m + 1)), (m + 2)⟩ : S76)]) (m + 3) (by omega) (by simp only [List.length_append, List.length_singleton, Int.natCast_add]; omega)
  refine Ev.step (fun _ => rfl) ?_
  simp only [laws_markItemS.l0]
  have hlt : (pre.length : Int) < ((pre ++ x :: rest).length : Int) := by simp; omega
  simp only [wrap_add1 (m := m) (by omega) (by omega), wrap_add2 (m := m) (by omega) (by omega), wrap_add3 (m := m) (by omega) (by omega), rdm_ItemS, set_mid]
  have w1 : wrap64 ((pre.length : Int) + 1) = (((pre ++ [(⟨(tx m), (tx (m + 1)), (m + 2)⟩ : S76)]).length : Nat) : Int) := by rw [w64 (by omega) (by omega)]; simp
  rw [w1]
  refine Ev.pos hlt ?_
  try first | with_reducible refine Ev.pos (Int.natCast_nonneg _) ?_ | with_reducible refine Ev.pos rfl ?_ | with_reducible refine Ev.pos trivial ?_ | with_reducible refine Ev.bind (tx_ev _ (by omega) (by omega)) ?_ | with_reducible refine Ev.bind (Ev.const rfl) ?_ | with_reducible refine Ev.neg (by simp) ?_
  try first | with_reducible refine Ev.pos (Int.natCast_nonneg _) ?_ | with_reducible refine Ev.pos rfl ?_ | with_reducible refine Ev.pos trivial ?_ | with_reducible refine Ev.bind (tx_ev _ (by omega) (by omega)) ?_ | with_reducible refine Ev.bind (Ev.const rfl) ?_ | with_reducible refine Ev.neg (by simp) ?_
  try first | with_reducible refine Ev.pos (Int.natCast_nonneg _) ?_ | with_reducible refine Ev.pos rfl ?_ | with_reducible refine Ev.pos trivial ?_ | with_reducible refine Ev.bind (tx_ev _ (by omega) (by omega)) ?_ | with_reducible refine Ev.bind (Ev.const rfl) ?_ | with_reducible refine Ev.neg (by simp) ?_
  try first | with_reducible refine Ev.pos (Int.natCast_nonneg _) ?_ | with_reducible refine Ev.pos rfl ?_ | with_reducible refine Ev.pos trivial ?_ | with_reducible refine Ev.bind (tx_ev _ (by omega) (by omega)) ?_ | with_reducible refine Ev.bind (Ev.const rfl) ?_ | with_reducible refine Ev.neg (by simp) ?_
  try first | with_reducible refine Ev.pos (Int.natCast_nonneg _) ?_ | with_reducible refine Ev.pos rfl ?_ | with_reducible refine Ev.pos trivial ?_ | with_reducible refine Ev.bind (tx_ev _ (by omega) (by omega)) ?_ | with_reducible refine Ev.bind (Ev.const rfl) ?_ | with_reducible refine Ev.neg (by simp) ?_
  try first | with_reducible refine Ev.pos (Int.natCast_nonneg _) ?_ | with_reducible refine Ev.pos rfl ?_ | with_reducible refine Ev.pos trivial ?_ | with_reducible refine Ev.bind (tx_ev _ (by omega) (by omega)) ?_ | with_reducible refine Ev.bind (Ev.const rfl) ?_ | with_reducible refine Ev.neg (by simp) ?_
  try first | with_reducible refine Ev.pos (Int.natCast_nonneg _) ?_ | with_reducible refine Ev.pos rfl ?_ | with_reducible refine Ev.pos trivial ?_ | with_reducible refine Ev.bind (tx_ev _ (by omega) (by omega)) ?_ | with_reducible refine Ev.bind (Ev.const rfl) ?_ | with_reducible refine Ev.neg (by simp) ?_
  try first | with_reducible refine Ev.pos (Int.natCast_nonneg _) ?_ | with_reducible refine Ev.pos rfl ?_ | with_reducible refine Ev.pos trivial ?_ | with_reducible refine Ev.bind (tx_ev _ (by omega) (by omega)) ?_ | with_reducible refine Ev.bind (Ev.const rfl) ?_ | with_reducible refine Ev.neg (by simp) ?_
  try first | with_reducible refine Ev.pos (Int.natCast_nonneg _) ?_ | with_reducible refine Ev.pos rfl ?_ | with_reducible refine Ev.pos trivial ?_ | with_reducible refine Ev.bind (tx_ev _ (by omega) (by omega)) ?_ | with_reducible refine Ev.bind (Ev.const rfl) ?_ | with_reducible refine Ev.neg (by simp) ?_
  try first | with_reducible refine Ev.pos (Int.natCast_nonneg _) ?_ | with_reducible refine Ev.pos rfl ?_ | with_reducible refine Ev.pos trivial ?_ | with_reducible refine Ev.bind (tx_ev _ (by omega) (by omega)) ?_ | with_reducible refine Ev.bind (Ev.const rfl) ?_ | with_reducible refine Ev.neg (by simp) ?_
  try first | with_reducible refine Ev.pos (Int.natCast_nonneg _) ?_ | with_reducible refine Ev.pos rfl ?_ | with_reducible refine Ev.pos trivial ?_ | with_reducible refine Ev.bind (tx_ev _ (by omega) (by omega)) ?_ | with_reducible refine Ev.bind (Ev.const rfl) ?_ | with_reducible refine Ev.neg (by simp) ?_
  try first | with_reducible refine Ev.pos (Int.natCast_nonneg _) ?_ | with_reducible refine Ev.pos rfl ?_ | with_reducible refine Ev.pos trivial ?_ | with_reducible refine Ev.bind (tx_ev _ (by omega) (by omega)) ?_ | with_reducible refine Ev.bind (Ev.const rfl) ?_ | with_reducible refine Ev.neg (by simp) ?_
  try simp only [rdm_ItemS, set_mid]
  refine Ev.to (by simpa only [List.append_assoc, List.singleton_append] using hstep) ?_
  simp [mkItemS, Int.natCast_add]; try omega
theorem heldItemS_l0 : ∀ (rest pre : List S76) (m : Int), 1 ≤ m → (m + 3 * (rest.length : Int) ≤ 4611686018427387904 ∧ (pre.length : Int) + rest.length ≤ 4611686018427387904) → Ev (fun k => laws_heldItemS.l0 k (pre ++ mkItemS m rest) m (pre.length : Int)) (m + 3 * (rest.length : Int))
 | [], pre, m, h0, h1 => by
  refine Ev.step (fun _ => rfl) ?_
  simp only [laws_heldItemS.l0]
  refine Ev.neg (by simp [mkItemS]) ?_
  exact Ev.const (by simp)
 | x :: rest, pre, m, h0, h1 => by
  simp only [List.length_cons, Int.natCast_add, Int.cast_ofNat_Int] at h1
  have hlen : (pre.length : Int) < 4611686018427387904 := by omega
  have hstep := heldItemS_l0 rest (pre ++ [(⟨(tx m), (tx (m + 1)), (m + 2)⟩ : S76)]) (m + 3) (by omega) (by simp only [List.length_append, List.length_singleton, Int.natCast_add]; omega)
  refine Ev.step (fun _ => rfl) ?_
  simp only [laws_heldItemS.l0, mkItemS]
  have hlt : (pre.length : Int) < ((pre ++ (⟨(tx m), (tx (m + 1)), (m + 2)⟩ : S76) :: mkItemS (m + 3) rest).length : Int) := by simp; omega
  simp only [wrap_add1 (m := m) (by omega) (by omega), wrap_add2 (m := m) (by omega) (by omega), wrap_add3 (m := m) (by omega) (by omega), rdm_ItemS, set_mid]
  have w1 : wrap64 ((pre.length : Int) + 1) = (((pre ++ [(⟨(tx m), (tx (m + 1)), (m + 2)⟩ : S76)]).length : Nat) : Int) := by rw [w64 (by omega) (by omega)]; simp
  rw [w1]
  refine Ev.pos hlt ?_
  try first | with_reducible refine Ev.pos (Int.natCast_nonneg _) ?_ | with_reducible refine Ev.pos rfl ?_ | with_reducible refine Ev.pos trivial ?_ | with_reducible refine Ev.bind (tx_ev _ (by omega) (by omega)) ?_ | with_reducible refine Ev.bind (Ev.const rfl) ?_ | with_reducible refine Ev.neg (by simp) ?_
  try first | with_reducible refine Ev.pos (Int.natCast_nonneg _) ?_ | with_reducible refine Ev.pos rfl ?_ | with_reducible refine Ev.pos trivial ?_ | with_reducible refine Ev.bind (tx_ev _ (by omega) (by omega)) ?_ | with_reducible refine Ev.bind (Ev.const rfl) ?_ | with_reducible refine Ev.neg (by simp) ?_
  try first | with_reducible refine Ev.pos (Int.natCast_nonneg _) ?_ | with_reducible refine Ev.pos rfl ?_ | with_reducible refine Ev.pos trivial ?_ | with_reducible refine Ev.bind (tx_ev _ (by omega) (by omega)) ?_ | with_reducible refine Ev.bind (Ev.const rfl) ?_ | with_reducible refine Ev.neg (by simp) ?_
  try first | with_reducible refine Ev.pos (Int.natCast_nonneg _) ?_ | with_reducible refine Ev.pos rfl ?_ | with_reducible refine Ev.pos trivial ?_ | with_reducible refine Ev.bind (tx_ev _ (by omega) (by omega)) ?_ | with_reducible refine Ev.bind (Ev.const rfl) ?_ | with_reducible refine Ev.neg (by simp) ?_
  try first | with_reducible refine Ev.pos (Int.natCast_nonneg _) ?_ | with_reducible refine Ev.pos rfl ?_ | with_reducible refine Ev.pos trivial ?_ | with_reducible refine Ev.bind (tx_ev _ (by omega) (by omega)) ?_ | with_reducible refine Ev.bind (Ev.const rfl) ?_ | with_reducible refine Ev.neg (by simp) ?_
  try first | with_reducible refine Ev.pos (Int.natCast_nonneg _) ?_ | with_reducible refine Ev.pos rfl ?_ | with_reducible refine Ev.pos trivial ?_ | with_reducible refine Ev.bind (tx_ev _ (by omega) (by omega)) ?_ | with_reducible refine Ev.bind (Ev.const rfl) ?_ | with_reducible refine Ev.neg (by simp) ?_
  try first | with_reducible refine Ev.pos (Int.natCast_nonneg _) ?_ | with_reducible refine Ev.pos rfl ?_ | with_reducible refine Ev.pos trivial ?_ | with_reducible refine Ev.bind (tx_ev _ (by omega) (by omega)) ?_ | with_reducible refine Ev.bind (Ev.const rfl) ?_ | with_reducible refine Ev.neg (by simp) ?_
  try first | with_reducible refine Ev.pos (Int.natCast_nonneg _) ?_ | with_reducible refine Ev.pos rfl ?_ | with_reducible refine Ev.pos trivial ?_ | with_reducible refine Ev.bind (tx_ev _ (by omega) (by omega)) ?_ | with_reducible refine Ev.bind (Ev.const rfl) ?_ | with_reducible refine Ev.neg (by simp) ?_
  try first | with_reducible refine Ev.pos (Int.natCast_nonneg _) ?_ | with_reducible refine Ev.pos rfl ?_ | with_reducible refine Ev.pos trivial ?_ | with_reducible refine Ev.bind (tx_ev _ (by omega) (by omega)) ?_ | with_reducible refine Ev.bind (Ev.const rfl) ?_ | with_reducible refine Ev.neg (by simp) ?_
  try first | with_reducible refine Ev.pos (Int.natCast_nonneg _) ?_ | with_reducible refine Ev.pos rfl ?_ | with_reducible refine Ev.pos trivial ?_ | with_reducible refine Ev.bind (tx_ev _ (by omega) (by omega)) ?_ | with_reducible refine Ev.bind (Ev.const rfl) ?_ | with_reducible refine Ev.neg (by simp) ?_
  try first | with_reducible refine Ev.pos (Int.natCast_nonneg _) ?_ | with_reducible refine Ev.pos rfl ?_ | with_reducible refine Ev.pos trivial ?_ | with_reducible refine Ev.bind (tx_ev _ (by omega) (by omega)) ?_ | with_reducible refine Ev.bind (Ev.const rfl) ?_ | with_reducible refine Ev.neg (by simp) ?_
  try first | with_reducible refine Ev.pos (Int.natCast_nonneg _) ?_ | with_reducible refine Ev.pos rfl ?_ | with_reducible refine Ev.pos trivial ?_ | with_reducible refine Ev.bind (tx_ev _ (by omega) (by omega)) ?_ | with_reducible refine Ev.bind (Ev.const rfl) ?_ | with_reducible refine Ev.neg (by simp) ?_
  try simp only [rdm_ItemS, set_mid]
  refine Ev.to (by simpa only [List.append_assoc, List.singleton_append] using hstep) ?_
  simp [Int.natCast_add]; try omega
theorem markItemS_ev (l : List S76) (m : Int) (h0 : 1 ≤ m) (h1 : m + 3 * (l.length : Int) ≤ 4611686018427387904) : Ev (fun k => laws_markItemS.f k l m) (m + 3 * (l.length : Int), mkItemS m l) := by
 unfold laws_markItemS.f
 have h := markItemS_l0 l [] m h0 ⟨h1, by simp; omega⟩
 simpa using h
theorem heldItemS_ev (l : List S76) (m : Int) (h0 : 1 ≤ m) (h1 : m + 3 * (l.length : Int) ≤ 4611686018427387904) : Ev (fun k => laws_heldItemS.f k (mkItemS m l) m) (m + 3 * (l.length : Int)) := by
 unfold laws_heldItemS.f
 have h := heldItemS_l0 l [] m h0 ⟨h1, by simp; omega⟩
 simpa using h
def szmIntS (l : List Int) : Nat := l.length
theorem szIntS_ev (l : List Int) (a : Int) (h0 : 0 ≤ a) (h1 : a ≤ 1048576) (o : okT23 l) : Ev (fun k => laws_szIntS.f l a) (left a (szmIntS l)) := by
 have ho := o.2
 unfold laws_szIntS.f szmIntS
 rw [w64 (by omega) (by omega)]
 by_cases c : (l.length : Int) ≤ a
 ·refine Ev.neg (by omega) ?_
  exact Ev.const (congrArg some (left_pos c).symm)
 ·refine Ev.pos (by omega) ?_
  exact Ev.const (congrArg some (left_neg c).symm)
theorem toIntS_l0 (l : List Int) (ho : okT23 l) : ∀ (d i : Nat) (ys : List Int), i + d = l.length → ys.length = l.length → ys.take i = (l.take i).map id → Ev (fun k => laws_toIntS.l0 k l ys i) (l.map id) := by
 have hl := ho.2
 intro d
 induction d with
 | zero =>
  intro i ys hi hy ht
  refine Ev.step (fun _ => rfl) ?_
  simp only [laws_toIntS.l0]
  refine Ev.neg (by omega) ?_
  rw [List.take_of_length_le (by omega), List.take_of_length_le (by omega)] at ht
  exact Ev.const (congrArg some ht)
 | succ d ih =>
  intro i ys hi hy ht
  have hlt : i < l.length := by omega
  have er : rd l (i : Int) = l[i] := getD_at hlt _
  have hok := ho.1 _ (List.getElem_mem hlt)
  refine Ev.step (fun _ => rfl) ?_
  simp only [laws_toIntS.l0]
  refine Ev.pos (by omega) ?_
  refine Ev.pos (by omega) ?_
  rw [er, wsucc (by omega)]
  refine Ev.pos (by omega) ?_
  exact ih (i + 1) _ (by omega) (by simp [hy]) (take_drop_set id l ys hlt hy ht)
theorem toIntS_ev (l : List Int) (o : okT23 l) : Ev (fun k => laws_toIntS.f k l) l := by
 have ho := o.2
 unfold laws_toIntS.f
 rw [Int.toNat_natCast]
 refine Ev.pos (by omega) ?_
 refine Ev.pos (by omega) ?_
 refine Ev.to (toIntS_l0 l o l.length 0 _ (by omega) (by simp) (by simp)) ?_
 simp
theorem eqIntS_l0 (l : List Int) (ho : l.length ≤ 140737488351232) : ∀ (d i : Nat), i + d = l.length → Ev (fun k => laws_eqIntS.l0 k l l i) true := by
 have hl : l.length ≤ 140737488351232 := ho
 intro d
 induction d with
 | zero =>
  intro i hi
  refine Ev.step (fun _ => rfl) ?_
  simp only [laws_eqIntS.l0]
  refine Ev.neg (by omega) ?_
  exact Ev.const rfl
 | succ d ih =>
  intro i hi
  refine Ev.step (fun _ => rfl) ?_
  simp only [laws_eqIntS.l0]
  refine Ev.pos (by omega) ?_
  refine Ev.pos (by omega) ?_
  refine Ev.pos (by omega) ?_
  rw [wsucc (by omega)]
  first | refine Ev.pos rfl ?_ | refine Ev.pos trivial ?_ | refine Ev.neg (by simp) ?_
  exact ih (i + 1) (by omega)
theorem eqIntS_ev (l : List Int) (ho : l.length ≤ 140737488351232) : Ev (fun k => laws_eqIntS.f k l l) true := by
 unfold laws_eqIntS.f
 refine Ev.pos rfl ?_
 exact eqIntS_l0 l ho l.length 0 (by omega)
noncomputable def mkIntS : Int → List Int → List Int
 | _, [] => []
 | m, _ :: r => m :: mkIntS (m + 1) r
theorem rdm_IntS (pre : List Int) (x : Int) (rest : List Int) : rd (pre ++ x :: rest) (pre.length : Int) = x := getD_mid pre x _ rest
theorem markIntS_l0 : ∀ (rest pre : List Int) (m : Int), 1 ≤ m → (m + 1 * (rest.length : Int) ≤ 4611686018427387904 ∧ (pre.length : Int) + rest.length ≤ 4611686018427387904) → Ev (fun k => laws_markIntS.l0 k (pre ++ rest) m (pre.length : Int)) (m + 1 * (rest.length : Int), pre ++ mkIntS m rest)
 | [], pre, m, h0, h1 => by
  refine Ev.step (fun _ => rfl) ?_
  simp only [laws_markIntS.l0]
  refine Ev.neg (by simp) ?_
  exact Ev.const (by simp [mkIntS])
 | x :: rest, pre, m, h0, h1 => by
  simp only [List.length_cons, Int.natCast_add, Int.cast_ofNat_Int] at h1
  have hlen : (pre.length : Int) < 4611686018427387904 := by omega
  have hstep := markIntS_l0 rest (pre ++ [m]) (m + 1) (by omega) (by simp only [List.length_append, List.length_singleton, Int.natCast_add]; omega)
  refine Ev.step (fun _ => rfl) ?_
  simp only [laws_markIntS.l0]
  have hlt : (pre.length : Int) < ((pre ++ x :: rest).length : Int) := by simp; omega
  simp only [wrap_add1 (m := m) (by omega) (by omega), rdm_IntS, set_mid]
  have w1 : wrap64 ((pre.length : Int) + 1) = (((pre ++ [m]).length : Nat) : Int) := by rw [w64 (by omega) (by omega)]; simp
  rw [w1]
  refine Ev.pos hlt ?_
  try first | with_reducible refine Ev.pos (Int.natCast_nonneg _) ?_ | with_reducible refine Ev.pos rfl ?_ | with_reducible refine Ev.pos trivial ?_ | with_reducible refine Ev.bind (tx_ev _ (by omega) (by omega)) ?_ | with_reducible refine Ev.bind (Ev.const rfl) ?_ | with_reducible refine Ev.neg (by simp) ?_
  try first | with_reducible refine Ev.pos (Int.natCast_nonneg _) ?_ | with_reducible refine Ev.pos rfl ?_ | with_reducible refine Ev.pos trivial ?_ | with_reducible refine Ev.bind (tx_ev _ (by omega) (by omega)) ?_ | with_reducible refine Ev.bind (Ev.const rfl) ?_ | with_reducible refine Ev.neg (by simp) ?_
  try first | with_reducible refine Ev.pos (Int.natCast_nonneg _) ?_ | with_reducible refine Ev.pos rfl ?_ | with_reducible refine Ev.pos trivial ?_ | with_reducible refine Ev.bind (tx_ev _ (by omega) (by omega)) ?_ | with_reducible refine Ev.bind (Ev.const rfl) ?_ | with_reducible refine Ev.neg (by simp) ?_
  try first | with_reducible refine Ev.pos (Int.natCast_nonneg _) ?_ | with_reducible refine Ev.pos rfl ?_ | with_reducible refine Ev.pos trivial ?_ | with_reducible refine Ev.bind (tx_ev _ (by omega) (by omega)) ?_ | with_reducible refine Ev.bind (Ev.const rfl) ?_ | with_reducible refine Ev.neg (by simp) ?_
  try first | with_reducible refine Ev.pos (Int.natCast_nonneg _) ?_ | with_reducible refine Ev.pos rfl ?_ | with_reducible refine Ev.pos trivial ?_ | with_reducible refine Ev.bind (tx_ev _ (by omega) (by omega)) ?_ | with_reducible refine Ev.bind (Ev.const rfl) ?_ | with_reducible refine Ev.neg (by simp) ?_
  try first | with_reducible refine Ev.pos (Int.natCast_nonneg _) ?_ | with_reducible refine Ev.pos rfl ?_ | with_reducible refine Ev.pos trivial ?_ | with_reducible refine Ev.bind (tx_ev _ (by omega) (by omega)) ?_ | with_reducible refine Ev.bind (Ev.const rfl) ?_ | with_reducible refine Ev.neg (by simp) ?_
  try simp only [rdm_IntS, set_mid]
  refine Ev.to (by simpa only [List.append_assoc, List.singleton_append] using hstep) ?_
  simp [mkIntS, Int.natCast_add]; try omega
theorem heldIntS_l0 : ∀ (rest pre : List Int) (m : Int), 1 ≤ m → (m + 1 * (rest.length : Int) ≤ 4611686018427387904 ∧ (pre.length : Int) + rest.length ≤ 4611686018427387904) → Ev (fun k => laws_heldIntS.l0 k (pre ++ mkIntS m rest) m (pre.length : Int)) (m + 1 * (rest.length : Int))
 | [], pre, m, h0, h1 => by
  refine Ev.step (fun _ => rfl) ?_
  simp only [laws_heldIntS.l0]
  refine Ev.neg (by simp [mkIntS]) ?_
  exact Ev.const (by simp)
 | x :: rest, pre, m, h0, h1 => by
  simp only [List.length_cons, Int.natCast_add, Int.cast_ofNat_Int] at h1
  have hlen : (pre.length : Int) < 4611686018427387904 := by omega
  have hstep := heldIntS_l0 rest (pre ++ [m]) (m + 1) (by omega) (by simp only [List.length_append, List.length_singleton, Int.natCast_add]; omega)
  refine Ev.step (fun _ => rfl) ?_
  simp only [laws_heldIntS.l0, mkIntS]
  have hlt : (pre.length : Int) < ((pre ++ m :: mkIntS (m + 1) rest).length : Int) := by simp; omega
  simp only [wrap_add1 (m := m) (by omega) (by omega), rdm_IntS, set_mid]
  have w1 : wrap64 ((pre.length : Int) + 1) = (((pre ++ [m]).length : Nat) : Int) := by rw [w64 (by omega) (by omega)]; simp
  rw [w1]
  refine Ev.pos hlt ?_
  try first | with_reducible refine Ev.pos (Int.natCast_nonneg _) ?_ | with_reducible refine Ev.pos rfl ?_ | with_reducible refine Ev.pos trivial ?_ | with_reducible refine Ev.bind (tx_ev _ (by omega) (by omega)) ?_ | with_reducible refine Ev.bind (Ev.const rfl) ?_ | with_reducible refine Ev.neg (by simp) ?_
  try first | with_reducible refine Ev.pos (Int.natCast_nonneg _) ?_ | with_reducible refine Ev.pos rfl ?_ | with_reducible refine Ev.pos trivial ?_ | with_reducible refine Ev.bind (tx_ev _ (by omega) (by omega)) ?_ | with_reducible refine Ev.bind (Ev.const rfl) ?_ | with_reducible refine Ev.neg (by simp) ?_
  try first | with_reducible refine Ev.pos (Int.natCast_nonneg _) ?_ | with_reducible refine Ev.pos rfl ?_ | with_reducible refine Ev.pos trivial ?_ | with_reducible refine Ev.bind (tx_ev _ (by omega) (by omega)) ?_ | with_reducible refine Ev.bind (Ev.const rfl) ?_ | with_reducible refine Ev.neg (by simp) ?_
  try first | with_reducible refine Ev.pos (Int.natCast_nonneg _) ?_ | with_reducible refine Ev.pos rfl ?_ | with_reducible refine Ev.pos trivial ?_ | with_reducible refine Ev.bind (tx_ev _ (by omega) (by omega)) ?_ | with_reducible refine Ev.bind (Ev.const rfl) ?_ | with_reducible refine Ev.neg (by simp) ?_
  try first | with_reducible refine Ev.pos (Int.natCast_nonneg _) ?_ | with_reducible refine Ev.pos rfl ?_ | with_reducible refine Ev.pos trivial ?_ | with_reducible refine Ev.bind (tx_ev _ (by omega) (by omega)) ?_ | with_reducible refine Ev.bind (Ev.const rfl) ?_ | with_reducible refine Ev.neg (by simp) ?_
  try first | with_reducible refine Ev.pos (Int.natCast_nonneg _) ?_ | with_reducible refine Ev.pos rfl ?_ | with_reducible refine Ev.pos trivial ?_ | with_reducible refine Ev.bind (tx_ev _ (by omega) (by omega)) ?_ | with_reducible refine Ev.bind (Ev.const rfl) ?_ | with_reducible refine Ev.neg (by simp) ?_
  try simp only [rdm_IntS, set_mid]
  refine Ev.to (by simpa only [List.append_assoc, List.singleton_append] using hstep) ?_
  simp [Int.natCast_add]; try omega
theorem markIntS_ev (l : List Int) (m : Int) (h0 : 1 ≤ m) (h1 : m + 1 * (l.length : Int) ≤ 4611686018427387904) : Ev (fun k => laws_markIntS.f k l m) (m + 1 * (l.length : Int), mkIntS m l) := by
 unfold laws_markIntS.f
 have h := markIntS_l0 l [] m h0 ⟨h1, by simp; omega⟩
 simpa using h
theorem heldIntS_ev (l : List Int) (m : Int) (h0 : 1 ≤ m) (h1 : m + 1 * (l.length : Int) ≤ 4611686018427387904) : Ev (fun k => laws_heldIntS.f k (mkIntS m l) m) (m + 1 * (l.length : Int)) := by
 unfold laws_heldIntS.f
 have h := heldIntS_l0 l [] m h0 ⟨h1, by simp; omega⟩
 simpa using h
theorem szThree_ev (x0 : Int) (x1 : Int) (x2 : List S99) (x3 : List S99) (x4 : List Int) (a : Int) (h0 : 0 ≤ a) (h1 : a ≤ 1048576) (o0 : okT40 x2) (o1 : okT40 x3) (o2 : okT23 x4) : Ev (fun k => laws_szThree.f k x0 x1 x2 x3 x4 a) (left a (szmItemS x2 + szmItemS x3 + szmIntS x4)) := by
 unfold laws_szThree.f
 refine Ev.bind (szItemS_ev x2 a (by omega) (by omega) o0) ?_
 by_cases c0 : ((szmItemS x2 : Nat) : Int) ≤ a
 rotate_left
 ·rw [left_neg c0]
  refine Ev.pos (by omega) ?_
  exact Ev.const (by first | rfl | exact congrArg some (left_neg (by omega)).symm)
 rw [left_pos c0]
 refine Ev.neg (by omega) ?_
 refine Ev.bind (szItemS_ev x3 (a - (szmItemS x2 : Nat)) (by omega) (by omega) o1) ?_
 by_cases c1 : ((szmItemS x3 : Nat) : Int) ≤ a - (szmItemS x2 : Nat)
 rotate_left
 ·rw [left_neg c1]
  refine Ev.pos (by omega) ?_
  exact Ev.const (by first | rfl | exact congrArg some (left_neg (by omega)).symm)
 rw [left_pos c1]
 refine Ev.neg (by omega) ?_
 refine Ev.bind (szIntS_ev x4 ((a - (szmItemS x2 : Nat)) - (szmItemS x3 : Nat)) (by omega) (by omega) o2) ?_
 by_cases c2 : ((szmIntS x4 : Nat) : Int) ≤ (a - (szmItemS x2 : Nat)) - (szmItemS x3 : Nat)
 rotate_left
 ·rw [left_neg c2]
  refine Ev.pos (by omega) ?_
  exact Ev.const (by first | rfl | exact congrArg some (left_neg (by omega)).symm)
 rw [left_pos c2]
 refine Ev.neg (by omega) ?_
 exact Ev.const (by first | rfl | exact congrArg some (by rw [left_pos (by omega)] <;> omega))
theorem toThree_ev (x0 : Int) (x1 : Int) (x2 : List S99) (x3 : List S99) (x4 : List Int) (o_x2 : okT40 x2) (o_x3 : okT40 x3) (o_x4 : okT23 x4) : Ev (fun k => laws_toThree.f k x0 x1 x2 x3 x4) (x0, x1, (x2.map cvItem), (x3.map cvItem), x4) := by
 unfold laws_toThree.f
 refine Ev.bind (toItemS_ev x2 o_x2) ?_
 refine Ev.bind (toItemS_ev x3 o_x3) ?_
 refine Ev.bind (toIntS_ev x4 o_x4) ?_
 exact Ev.const rfl
theorem eqThree_ev (x0 : Int) (x1 : Int) (x2 : List S76) (x3 : List S76) (x4 : List Int) (o_x2 : x2.length ≤ 140737488351232) (o_x3 : x3.length ≤ 140737488351232) (o_x4 : x4.length ≤ 140737488351232) : Ev (fun k => laws_eqThree.f k x0 x1 x2 x3 x4 x0 x1 x2 x3 x4) true := by
 unfold laws_eqThree.f
 refine Ev.pos rfl ?_
 refine Ev.pos rfl ?_
 refine Ev.bind (eqItemS_ev x2 o_x2) ?_
 refine Ev.pos rfl ?_
 refine Ev.bind (eqItemS_ev x3 o_x3) ?_
 refine Ev.pos rfl ?_
 refine Ev.bind (eqIntS_ev x4 o_x4) ?_
 refine Ev.pos rfl ?_
 exact Ev.const rfl
end Go.Proofs.Ytnlnifpehndacaa.Fam

namespace Go.Proofs.Ytnlnifpehndacaa.Q
open Go.RowKit Go.Proofs.Ytnlnifpehndacaa.G Go.Proofs.Ytnlnifpehndacaa.PL Go.Proofs.Ytnlnifpehndacaa.Ok Go.Proofs.Ytnlnifpehndacaa.Fam Go.Proofs.YtnlnifpehndacaaW.PrintWords Go.Proofs.YtnlnifpehndacaaW.PrintLast
theorem markThree_ev (cap most : Int) (s m : List It) (g : List Int) (n : Int) (h0 : 1 ≤ n) (h1 : n ≤ 1000000000) (hs : s.length ≤ 2097152) (hm : m.length ≤ 2097152) (hg : g.length ≤ 2097152) : Ev (fun k => laws_markThree.f k cap most s m g n) (n + 3 * (s.length : Int) + 3 * (m.length : Int) + 1 * (g.length : Int), mkItemS n s, mkItemS (n + 3 * (s.length : Int)) m, mkIntS (n + 3 * (s.length : Int) + 3 * (m.length : Int)) g) := by
 unfold laws_markThree.f
 refine Ev.bind (markItemS_ev s n h0 (by omega)) ?_
 refine Ev.bind (markItemS_ev m _ (by omega) (by omega)) ?_
 exact Ev.bind (markIntS_ev g _ (by omega) (by omega)) (Ev.const rfl)
theorem heldThree_ev (cap most : Int) (s m : List It) (g : List Int) (n : Int) (h0 : 1 ≤ n) (h1 : n ≤ 1000000000) (hs : s.length ≤ 2097152) (hm : m.length ≤ 2097152) (hg : g.length ≤ 2097152) : Ev (fun k => laws_heldThree.f k cap most (mkItemS n s) (mkItemS (n + 3 * (s.length : Int)) m) (mkIntS (n + 3 * (s.length : Int) + 3 * (m.length : Int)) g) n) (n + 3 * (s.length : Int) + 3 * (m.length : Int) + 1 * (g.length : Int)) := by
 unfold laws_heldThree.f
 refine Ev.bind (heldItemS_ev s n h0 (by omega)) (Ev.neg (by omega) ?_)
 refine Ev.bind (heldItemS_ev m _ (by omega) (by omega)) (Ev.neg (by omega) ?_)
 exact Ev.bind (heldIntS_ev g _ (by omega) (by omega)) (Ev.neg (by omega) (Ev.const rfl))
end Go.Proofs.Ytnlnifpehndacaa.Q

namespace Go.Proofs.Ytnlnifpehndacaa.Q
open Go.RowKit Go.Proofs.Ytnlnifpehndacaa.G Go.Proofs.Ytnlnifpehndacaa.PL Go.Proofs.YtnlnifpehndacaaW.PrintWords
theorem threeOk_len {cap most : Int} {s m : List It} {g : List Int} (h : threeOk cap most s m g = true) : s.length ≤ 60 ∧ m.length ≤ 60 ∧ g.length ≤ 60 := by
 unfold threeOk at h
 simp only [Bool.and_eq_true, decide_eq_true_eq] at h
 obtain ⟨h1, h2, h3, h4, _⟩ := h
 have : max 1 (cap - most) ≤ 60 := by omega
 exact ⟨by omega, by omega, by omega⟩
theorem textThree_len (s : ByteArray) : (textThree s).2.2.1.length ≤ 60 ∧ (textThree s).2.2.2.1.length ≤ 60 ∧ (textThree s).2.2.2.2.1.length ≤ 60 := by
 unfold textThree
 split
 ·simp
 ·split
  ·split
   ·split
    ·rename_i h
     exact threeOk_len h
    ·simp
   ·simp
  ·simp
end Go.Proofs.Ytnlnifpehndacaa.Q

namespace Go.Proofs.Ytnlnifpehndacaa.Q
open Go.RowKit Go.Proofs.Ytnlnifpehndacaa.G Go.Proofs.Ytnlnifpehndacaa.PL Go.Proofs.Ytnlnifpehndacaa.Ok Go.Proofs.Ytnlnifpehndacaa.Fam Go.Proofs.YtnlnifpehndacaaW.PrintWords
theorem three_fine {l : List S99} (o : okT40 l) (h : szmItemS l ≤ 1048576) : Fine (l.map cvItem) := by
 have z0 : l.length ≤ szmItemS l := Nat.le_add_right _ _
 refine ⟨by rw [List.length_map]; omega, fun x hx => ?_⟩
 obtain ⟨y, hy, rfl⟩ := List.mem_map.1 hx
 have ho := o.1 y hy
 exact ⟨ho.1, ho.2.1⟩
def mend (x : ByteArray) (cap most : Int) (s m : List It) (g : List Int) : Int × Int × List It × List It × List Int × Bool :=
 if (textThree x).2.2.2.2.2 = 0 then ((textThree x).1, (textThree x).2.1, (textThree x).2.2.1, (textThree x).2.2.2.1, (textThree x).2.2.2.2.1, true)
 else if threeOk cap most s m g = true then (cap, most, s, m, g, false) else (0, 0, [], [], [], false)
theorem spec_Mend_ev (x : ByteArray) (cap most : Int) (s m : List It) (g : List Int) (hx : x.size ≤ 1048576) (hs : Fine s) (hm : Fine m) (hg : g.length ≤ 2097152) : Ev (fun k => spec_Mend.f k x cap most s m g) (mend x cap most s m g) := by
 unfold spec_Mend.f mend
 refine Ev.bind (spec_TextThree_ev x hx) ?_
 by_cases c : (textThree x).2.2.2.2.2 = 0
 ·exact Ev.pos c (Ev.const (by rw [if_pos c]))
 ·refine Ev.neg c ?_
  rw [if_neg c]
  refine Ev.bind (spec_ThreeOk_ev _ _ _ _ _ hs hm hg) ?_
  cases q : threeOk cap most s m g
  ·exact Ev.neg (by simp) (Ev.const (by simp))
  ·obtain ⟨l1, l2, l3⟩ := threeOk_len q
   refine Ev.pos rfl (Ev.bind (Ev.const (r := (cap, most, s, m, g)) ?_) (Ev.const (by simp)))
   unfold spec_l10Copy.f
   simp only [Option.bind_some, List.nil_append, List.length_nil, Nat.zero_add]
   rw [if_pos (by omega), if_pos (by omega), if_pos (by omega)]
theorem impl_Mend_ev (x : ByteArray) (cap most : Int) (s m : List It) (g : List Int) (hx : x.size ≤ 1048576) (hs : Fine s) (hm : Fine m) (hg : g.length ≤ 2097152) : Ev (fun k => impl_Mend.f k x cap most s m g) (mend x cap most s m g) := by
 unfold impl_Mend.f mend
 refine Ev.bind (impl_TextThree_ev x hx) ?_
 by_cases c : (textThree x).2.2.2.2.2 = 0
 ·exact Ev.pos c (Ev.const (by rw [if_pos c]))
 ·refine Ev.neg c ?_
  rw [if_neg c]
  refine Ev.bind (impl_ThreeOk_ev _ _ _ _ _ hs hm hg) ?_
  cases q : threeOk cap most s m g
  ·exact Ev.neg (by simp) (Ev.const (by simp))
  ·obtain ⟨l1, l2, l3⟩ := threeOk_len q
   refine Ev.pos rfl (Ev.bind (Ev.const (r := (cap, most, s, m, g)) ?_) (Ev.const (by simp)))
   unfold impl_copyThree.f impl_copyItems.f impl_copyInts.f
   simp only [List.nil_append, List.length_nil, Nat.zero_add]
   rw [if_pos (by omega), if_pos (by omega), Option.bind_some, Option.bind_some, if_pos (by omega)]
   rfl
theorem mend_len (x : ByteArray) (cap most : Int) (s m : List It) (g : List Int) : (mend x cap most s m g).2.2.1.length ≤ 60 ∧ (mend x cap most s m g).2.2.2.1.length ≤ 60 ∧ (mend x cap most s m g).2.2.2.2.1.length ≤ 60 := by
 unfold mend
 split
 ·exact textThree_len x
 ·split
  ·rename_i h
   exact threeOk_len h
  ·simp
end Go.Proofs.Ytnlnifpehndacaa.Q
namespace Go.Proofs.Ytnlnifpehndacaa.Pure
open Go.RowKit Go.Proofs.Ytnlnifpehndacaa.G Go.Proofs.Ytnlnifpehndacaa.PL Go.Proofs.Ytnlnifpehndacaa.Ok Go.Proofs.Ytnlnifpehndacaa.Fam Go.Proofs.Ytnlnifpehndacaa.Q Go.Proofs.YtnlnifpehndacaaW.PrintWords Go.Proofs.YtnlnifpehndacaaW.PrintLast Go.Proofs.Ytnlnifpehndacaa.G.fnExactMend
theorem FnExactMend : FnExactMend.Pure := by
 intro x0 x1 ⟨_, _, _, p0, p1, p2⟩
 apply Ev.rounds
 unfold laws_FnExactMend.f
 have p0' : okT40 x1.2.2.1 := p0
 have p1' : okT40 x1.2.2.2.1 := p1
 have p2' : okT23 x1.2.2.2.2 := p2
 have b0 := p0'.2
 have b1 := p1'.2
 have b2 := p2'.2
 by_cases c0 : (x0.size : Int) > 1048576
 ·exact Ev.pos c0 (Ev.const rfl)
 refine Ev.neg c0 ?_
 refine Ev.bind (szThree_ev _ _ _ _ _ 1048576 (by omega) (by omega) p0 p1 p2) ?_
 by_cases c1 : ((szmItemS x1.2.2.1 + szmItemS x1.2.2.2.1 + szmIntS x1.2.2.2.2 : Nat) : Int) ≤ 1048576
 rotate_left
 ·rw [left_neg c1]; exact Ev.pos (by omega) (Ev.const rfl)
 rw [left_pos c1]
 have z2 : x1.2.2.2.2.length ≤ szmIntS x1.2.2.2.2 := Nat.le_refl _
 have f0 : Fine (x1.2.2.1.map cvItem) := three_fine p0 (by omega)
 have f1 : Fine (x1.2.2.2.1.map cvItem) := three_fine p1 (by omega)
 have f2 : x1.2.2.2.2.length ≤ 2097152 := by omega
 refine Ev.neg (by omega) ?_
 have hT := toThree_ev x1.1 x1.2.1 x1.2.2.1 x1.2.2.2.1 x1.2.2.2.2 p0 p1 p2
 obtain ⟨l1, l2, l3⟩ := mend_len x0 x1.1 x1.2.1 (x1.2.2.1.map cvItem) (x1.2.2.2.1.map cvItem) x1.2.2.2.2
 have hI := impl_Mend_ev x0 x1.1 x1.2.1 (x1.2.2.1.map cvItem) (x1.2.2.2.1.map cvItem) x1.2.2.2.2 (by omega) f0 f1 f2
 refine Ev.bind hT ?_
 refine Ev.bind (spec_Mend_ev x0 x1.1 x1.2.1 (x1.2.2.1.map cvItem) (x1.2.2.2.1.map cvItem) x1.2.2.2.2 (by omega) f0 f1 f2) ?_
 refine Ev.bind hT ?_
 refine Ev.bind hI ?_
 revert l1 l2 l3 hI
 generalize mend x0 x1.1 x1.2.1 (x1.2.2.1.map cvItem) (x1.2.2.2.1.map cvItem) x1.2.2.2.2 = R
 obtain ⟨rc, rm, r1, r2, r3, ok⟩ := R
 intro l1 l2 l3 hI
 have l1 : r1.length ≤ 60 := l1
 have l2 : r2.length ≤ 60 := l2
 have l3 : r3.length ≤ 60 := l3
 have hE := eqThree_ev rc rm r1 r2 r3 (by omega) (by omega) (by omega)
 have hc : (ok != ok) = false := by simp
 refine Ev.bind hE (Ev.pos rfl ?_)
 rw [hc]
 refine Ev.step (fun _ => rfl) ?_
 simp only [laws_FnExactMend.j0]
 refine Ev.neg (by simp) ?_
 refine Ev.bind hT ?_
 refine Ev.bind (eqThree_ev _ _ _ _ _ (by rw [List.length_map]; omega) (by rw [List.length_map]; omega) (show x1.2.2.2.2.length ≤ 140737488351232 by omega)) (Ev.pos rfl ?_)
 refine Ev.bind (markThree_ev _ _ _ _ _ 1 (by omega) (by omega) f0.1 f1.1 f2) (Ev.neg (by omega) ?_)
 refine Ev.bind hE (Ev.pos rfl ?_)
 rw [hc]
 refine Ev.step (fun _ => rfl) ?_
 simp only [laws_FnExactMend.j1]
 refine Ev.neg (by simp) ?_
 refine Ev.bind (markThree_ev rc rm r1 r2 r3 1 (by omega) (by omega) (by omega) (by omega) (by omega)) ?_
 have hH := heldThree_ev rc rm r1 r2 r3 1 (by omega) (by omega) (by omega) (by omega) (by omega)
 refine Ev.bind hH (Ev.neg (by omega) (Ev.pos rfl ?_))
 refine Ev.bind hT ?_
 refine Ev.bind hI ?_
 refine Ev.bind hE (Ev.pos rfl ?_)
 rw [hc]
 refine Ev.step (fun _ => rfl) ?_
 simp only [laws_FnExactMend.j2]
 refine Ev.neg (by simp) ?_
 exact Ev.bind hH (Ev.neg (by omega) (Ev.pos rfl (Ev.const rfl)))
end Go.Proofs.Ytnlnifpehndacaa.Pure

namespace Go.Proofs.Ytnlnifpehndacaa.fnExactMend
open Go.ChangeShapes Go.WideShapes Go.ChangeAt Go.RowKit Go.Proofs.Ytnlnifpehndacaa.Open Go.Proofs.Ytnlnifpehndacaa.Ok Go.Proofs.Ytnlnifpehndacaa.G.fnExactMend Go.Proofs.Ytnlnifpehndacaa.G Go.Proofs.YtnlnifpehndacaaW.PrintWords
set_option linter.unusedVariables false
theorem own : ownKnob Try.prog.godebug = none := by kernel_rfl
theorem laidOut : laidOutB Try.prog = true := by kernel_rfl
set_option maxRecDepth 100000 in
set_option maxHeartbeats 2000000 in
theorem lifted (pure : FnExactMend.Pure) (os : Os) (started : os.Started) (H : Type) (enc : TypeId × Value → H) :
  ReturnsInHanded {} Try.checked os 5 .any (Rows.fnExactMendSpec.pre6 enc Try.prog Try.f5 Rows.fnExactMendRow.domain false) (Rows.fnExactMendSpec.post enc Try.prog Try.f5 false true false false) := by
 refine returnsInHanded_of_change_sized (C := Try.checked) own started (by kernel_rfl) Try.func5
  (ChangeSpec.witness6 (enc := enc) (C := Try.checked) false ⟨#[], #[.string ByteArray.empty, .agg #[.int .i64 0, .int .i64 0, .slice none 0 0, .slice none 0 0, .slice none 0 0]], []⟩ 8 (by kernel_rfl) (by kernel_rfl) (by kernel_rfl) (by kernel_rfl)) ?_
 intro W base args ds gs before hval0 hW hcnd hsz0 _
 have hsz : (DataW.weightsEach Try.prog (Try.f5.params.toList ++ Rows.fnExactMendSpec.plain.varTypes Try.prog) (ds ++ gs)).all (· ≤ reachBytes) = true := hsz0
 have hval : ∀ (j : Nat) t v, Try.f5.params[j]? = some t → args[j]? = some v → Value.okWide Try.prog W .any base t v := hval0
 have hW' := hW
 obtain ⟨p, q, hA0, hV, rfl, hfz, hnd⟩ := hW
 have hA : DataW.TrodAll enc Try.prog W 0 (fun _ => true) true Try.f5.params.toList args.toList ds p := hA0
 rw [Try.params5] at hA hval hsz
 obtain ⟨v0, vs0, d0, ds0, p0, q0, hargs, rfl, rfl, h0, r0⟩ := trodAll_cons hA
 obtain ⟨v1, vs1, d1, ds1, p1, q1, rfl, rfl, rfl, h1, r1⟩ := trodAll_cons r0
 obtain ⟨rfl, rfl, rfl⟩ := trodAll_nil r1
 obtain rfl : args = #[v0, v1] := by cases args; simp_all
 obtain ⟨rfl, rfl⟩ := trodVars_none hV
 have k0 := h0
 have lt0 : ∀ x ∈ p0, x.block < W.heap.size := by obtain ⟨m, hm⟩ := k0; exact DataW.trod_lt m _ _ _ hm
 obtain ⟨fuel0, hf0⟩ := h0
 obtain ⟨x0, hK0, ok0⟩ := opn9 H enc W fuel0 _ _ _ hf0 (weights_of hsz (j := 0) (t := 9) rfl rfl)
 obtain ⟨b0, rfl⟩ := okWide_string Try.underlying9 (hval 0 9 v0 rfl rfl)
 obtain rfl : b0 = x0 := by have e_ : [_] = [_] := hK0; simpa using e_
 have k1 := h1
 have lt1 : ∀ x ∈ p1, x.block < W.heap.size := by obtain ⟨m, hm⟩ := k1; exact DataW.trod_lt m _ _ _ hm
 obtain ⟨fuel1, hf1⟩ := h1
 obtain ⟨x1, hK1, ok1⟩ := opn42 H enc W fuel1 _ _ _ hf1 (weights_of hsz (j := 1) (t := 42) rfl rfl)
 obtain ⟨cs1, rfl, _⟩ := okWide_struct Try.underlying42 (hval 1 42 v1 rfl rfl)
 have hK1' : (Kd.pair (Kd.int .i64) (Kd.pair (Kd.int .i64) (Kd.pair (Kd.slice 99 k99) (Kd.pair (Kd.slice 99 k99) (Kd.slice 3 (Kd.int .i64)))))).K W x1 cs1.toList := hK1
 obtain ⟨_, _, hcs1, rfl, ⟨_, _, rfl, rfl, ⟨_, _, rfl, ⟨A1_0, c1_0, rfl, hl1_0, hC1_0⟩, ⟨_, _, rfl, ⟨A1_1, c1_1, rfl, hl1_1, hC1_1⟩, ⟨A1_2, c1_2, rfl, hl1_2, hC1_2⟩⟩⟩⟩⟩ := hK1'
 obtain rfl : cs1 = #[.int .i64 x1.1, .int .i64 x1.2.1, .slice A1_0 x1.2.2.1.length c1_0, .slice A1_1 x1.2.2.2.1.length c1_1, .slice A1_2 x1.2.2.2.2.length c1_2] := by apply Array.toList_inj.1; rw [hcs1]; rfl
 clear hA0 hval0 hsz0 hsz
 obtain ⟨k, hk⟩ := pure b0 x1 ⟨ok0, ok1⟩
 refine (Go.Proofs.Ytnlnifpehndacaa.G.laws_FnExactMend.calls k b0 x1.1 x1.2.1 A1_0 c1_0 x1.2.2.1 A1_1 c1_1 x1.2.2.2.1 A1_2 c1_2 x1.2.2.2.2 true W hC1_0 hl1_0 hC1_1 hl1_1 hC1_2 hl1_2 hk).mono fun e W' ⟨he, bel⟩ => ?_
 subst he
 exact ⟨_, rfl, _, _, _, [], _, [], hW', trodAll_mk1 (shut_bool Try.underlying4 _), (trodAll_cons_mk (Below.trod laidOut (by kernel_rfl) (of_decide_eq_true (by kernel_rfl)) k0 bel lt0) (trodAll_cons_mk (Below.trod laidOut (by kernel_rfl) (of_decide_eq_true (by kernel_rfl)) k1 bel lt1) trodAll_mk0)), rfl, bel.frame _, fun h => by cases h⟩
theorem over (pure : FnExactMend.Pure) : Rows.fnExactMendRow.holds Try.pinned (OpenSpec.ofChange Rows.fnExactMendSpec) :=
 OpenClaim.holds_of_wide 5 Try.f5 rfl rfl rfl rfl rfl rfl rfl ⟨rfl, rfl, rfl, rfl, rfl⟩ rfl rfl rfl rfl rfl (by kernel_rfl) Try.func5 (by kernel_rfl)
  (of_decide_eq_true (by kernel_rfl)) (by unfold Func.isWrapper; first | (rw [if_pos (by decide +kernel)]; kernel_rfl) | (rw [if_neg (by decide +kernel)]; exact ⟨rfl, rfl⟩))
  (fun os started H enc _ => lifted pure os started H enc)
end Go.Proofs.Ytnlnifpehndacaa.fnExactMend
namespace Go.Proofs.Ytnlnifpehndacaa
/-- The row, for the claim. -/
theorem fnExactMend_holds : Rows.FnExactMendSaid := fnExactMend.over Pure.FnExactMend
end Go.Proofs.Ytnlnifpehndacaa
