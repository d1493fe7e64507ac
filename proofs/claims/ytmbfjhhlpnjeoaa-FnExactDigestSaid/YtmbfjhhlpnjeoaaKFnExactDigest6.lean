/- Digest is the reference's; no conditions beside the sizes that a row reads. Part 6 of the claim FnExactDigest, merged by pack.py (this session's program) out of: the print's words, cut to what is needed; texts that gen.py printed (it runs the kit's print in place); texts of this session. -/
import Derived.ChangeArms
import Derived.SizedLaws
import Derived.DataReads
import Derived.WalkKit
import Derived.RowKit
import Derived.KernelRfl
import Derived.Test.YtmbfjhhlpnjeoaaRows
import Derived.ProofKit
import Derived.OpenShut
import Derived.ShutString
import Derived.ChangeOld
import Derived.Below
import Derived.Test.YtmbfjhhlpnjeoaaKFnExactDigest0
import Derived.Test.YtmbfjhhlpnjeoaaKFnExactDigest1
import Derived.Test.YtmbfjhhlpnjeoaaKFnExactDigest2
import Derived.Test.YtmbfjhhlpnjeoaaKFnExactDigest3
import Derived.Test.YtmbfjhhlpnjeoaaKFnExactDigest4
import Derived.Test.YtmbfjhhlpnjeoaaKFnExactDigest5
namespace Go.Proofs.Ytmbfjhhlpnjeoaa.Fam
end Go.Proofs.Ytmbfjhhlpnjeoaa.Fam
namespace Go.Proofs.Ytmbfjhhlpnjeoaa.G
end Go.Proofs.Ytmbfjhhlpnjeoaa.G
namespace Go.Proofs.Ytmbfjhhlpnjeoaa.G.fnExactDigest
end Go.Proofs.Ytmbfjhhlpnjeoaa.G.fnExactDigest
namespace Go.Proofs.Ytmbfjhhlpnjeoaa.Man
end Go.Proofs.Ytmbfjhhlpnjeoaa.Man
namespace Go.Proofs.Ytmbfjhhlpnjeoaa.Ok
end Go.Proofs.Ytmbfjhhlpnjeoaa.Ok
namespace Go.Proofs.Ytmbfjhhlpnjeoaa.Open
end Go.Proofs.Ytmbfjhhlpnjeoaa.Open
namespace Go.Proofs.Ytmbfjhhlpnjeoaa.PL
end Go.Proofs.Ytmbfjhhlpnjeoaa.PL
namespace Go.Proofs.Ytmbfjhhlpnjeoaa.Q
end Go.Proofs.Ytmbfjhhlpnjeoaa.Q
namespace Go.Proofs.Ytmbfjhhlpnjeoaa.Open
open Go.RowKit Go.Proofs.YtmbfjhhlpnjeoaaW.PrintWords
/-- Whatever is read at type t is of the kind k, and meets ok. -/
def Opn {α : Type} (P : Program) (t : TypeId) (k : Kd α) (ok : α → Prop) : Prop :=
  ∀ (H : Type) (enc : TypeId × Value → H) (W : World) (fuel : Nat) (cs : List Value) (d : DataW H) (ps : List MemPlace),
    DataW.trod enc P W 0 (fun _ => true) true fuel t cs = some (d, ps) → (∀ n ∈ d.weights P t, n ≤ reachBytes) → ∃ x, k.K W x cs ∧ ok x
theorem Opn.int {P : Program} {t : TypeId} {q : IntKind} (ht : P.underlying t = some (.int q)) : Opn P t (Kd.int q) (fun n => (Lit.int q n).wf = true) := by
  intro H enc W fuel cs d ps h _
  obtain ⟨n, rfl, _, hw⟩ := DataW.trod_int ht h
  exact ⟨n, rfl, hw⟩
theorem Opn.bool {P : Program} {t : TypeId} (ht : P.underlying t = some .bool) : Opn P t Kd.bool (fun _ => True) := by
  intro H enc W fuel cs d ps h _
  obtain ⟨b, rfl, _⟩ := DataW.trod_bool ht h
  exact ⟨b, rfl, trivial⟩
theorem Opn.string {P : Program} {t : TypeId} (ht : P.underlying t = some .string) : Opn P t Kd.string (fun s => s.size ≤ 140737488351232) := by
  intro H enc W fuel cs d ps h hz
  obtain ⟨s, rfl, hx, _⟩ := DataW.trod_string ht h
  refine ⟨s, rfl, ?_⟩
  obtain ⟨rfl, _⟩ := Prod.mk.inj hx
  have := hz s.data.toList.length (by simp [DataW.weights])
  rw [Array.length_toList] at this
  exact this
theorem Opn.mono {α : Type} {P : Program} {t : TypeId} {k : Kd α} {ok ok' : α → Prop} (h : Opn P t k ok) (hok : ∀ x, ok x → ok' x) : Opn P t k ok' := by
  intro H enc W fuel cs d ps hd hz
  obtain ⟨x, hx, ho⟩ := h H enc W fuel cs d ps hd hz
  exact ⟨x, hx, hok x ho⟩
/-- The fields from one on, one behind the other. -/
def OpnFs {α : Type} (P : Program) (fs : List Field) (off : Nat) (k : Kd α) (ok : α → Prop) : Prop :=
  ∀ (H : Type) (enc : TypeId × Value → H) (W : World) (fuel : Nat) (cs : List Value) (xs : List (DataW H × List MemPlace)),
    xs.length = fs.length → (∀ (i : Nat) (f : Field), fs[i]? = some f → DataW.trod enc P W 0 (fun _ => true) true fuel f.type ((cs.drop f.offset).take (P.cellsOf f.type)) = xs[i]?) →
    (∀ n ∈ DataW.weightsEach P (fs.map (·.type)) (xs.map (·.1)), n ≤ reachBytes) → ∃ x, k.K W x ((cs.drop off).take k.sz) ∧ ok x
theorem OpnFs.one {α : Type} {P : Program} {f : Field} {off : Nat} {k : Kd α} {ok : α → Prop} (ho : f.offset = off) (hc : P.cellsOf f.type = k.sz) (h : Opn P f.type k ok) : OpnFs P [f] off k ok := by
  intro H enc W fuel cs xs hl hx hz
  have h0 := hx 0 f rfl
  rw [ho, hc] at h0
  match xs, hl with
  | [x], _ =>
    refine h H enc W fuel _ x.1 x.2 h0 (fun n hn => hz n ?_)
    simp [DataW.weightsEach, hn]
theorem OpnFs.cons {α β : Type} {P : Program} {f : Field} {fs : List Field} {off : Nat} {k : Kd α} {k2 : Kd β} {ok : α → Prop} {ok2 : β → Prop} (ho : f.offset = off) (hc : P.cellsOf f.type = k.sz) (h : Opn P f.type k ok)
    (h2 : OpnFs P fs (off + k.sz) k2 ok2) : OpnFs P (f :: fs) off (Kd.pair k k2) (fun x => ok x.1 ∧ ok2 x.2) := by
  intro H enc W fuel cs xs hl hx hz
  have h0 := hx 0 f rfl
  rw [ho, hc] at h0
  match xs, hl with
  | x :: xs, hl =>
    obtain ⟨a, ha, hoa⟩ := h H enc W fuel _ x.1 x.2 h0 (fun n hn => hz n (by simp [DataW.weightsEach, hn]))
    obtain ⟨b, hb, hob⟩ := h2 H enc W fuel cs xs (by simpa using hl) (fun i g hg => by simpa using hx (i + 1) g (by simpa using hg)) (fun n hn => hz n (by simp only [List.map_cons, DataW.weightsEach, List.mem_append]; exact Or.inr hn))
    refine ⟨(a, b), ⟨_, _, ?_, ha, hb⟩, hoa, hob⟩
    show (cs.drop off).take (k.sz + k2.sz) = _
    rw [List.take_add, List.drop_drop]
theorem Opn.struct {α : Type} {P : Program} {t : TypeId} {fs : Array Field} {k : Kd α} {ok : α → Prop} (ht : P.underlying t = some (.struct fs)) (hc : P.cellsOf t = k.sz) (h : OpnFs P fs.toList 0 k ok) : Opn P t k ok := by
  intro H enc W fuel cs d ps hd hz
  obtain ⟨xs, n, rfl, hx, hl, hxl, hf⟩ := DataW.trod_struct ht hd
  obtain ⟨rfl, _⟩ := Prod.mk.inj hx
  obtain ⟨x, hK, ho⟩ := h H enc W n cs xs (by simpa using hxl) (fun i f hi => hf i f (by simpa using hi)) (fun m hm => hz m (by simp only [DataW.weights, ht]; exact hm))
  refine ⟨x, ?_, ho⟩
  rw [List.drop_zero, List.take_of_length_le (by omega)] at hK
  exact hK
theorem Opn.iso {α β : Type} {P : Program} {t : TypeId} {k : Kd α} {ok : α → Prop} {f : β → α} (g : α → β) (hg : ∀ x, f (g x) = x) (h : Opn P t k ok) : Opn P t (Kd.iso k f) (fun y => ok (f y)) := by
  intro H enc W fuel cs d ps hd hz
  obtain ⟨x, hx, ho⟩ := h H enc W fuel cs d ps hd hz
  exact ⟨g x, by show k.K W (f (g x)) cs; rw [hg]; exact hx, by show ok (f (g x)); rw [hg]; exact ho⟩
theorem weightsAll_mem {H : Type} {P : Program} {e : TypeId} : ∀ {l : List (DataW H)} {d : DataW H}, d ∈ l → ∀ n ∈ d.weights P e, n ∈ DataW.weightsAll P e l
  | a :: l, d, hd, n, hn => by
    simp only [DataW.weightsAll, List.mem_append]
    rcases List.mem_cons.1 hd with rfl | hd
    · exact .inl hn
    · exact .inr (weightsAll_mem hd n hn)
theorem choose_list {α : Type} (p : Nat → α → Prop) : ∀ (n : Nat), (∀ i, i < n → ∃ x, p i x) → ∃ xs : List α, xs.length = n ∧ ∀ i x, xs[i]? = some x → p i x
  | 0, _ => ⟨[], rfl, fun i x h => by simp at h⟩
  | n + 1, h => by
    obtain ⟨xs, hl, hx⟩ := choose_list p n (fun i hi => h i (by omega))
    obtain ⟨y, hy⟩ := h n (by omega)
    refine ⟨xs ++ [y], by simp [hl], fun i x hi => ?_⟩
    rcases Nat.lt_or_ge i n with hin | hin
    · rw [List.getElem?_append_left (by omega)] at hi
      exact hx i x hi
    · rw [List.getElem?_append_right (by omega)] at hi
      have : i - xs.length = 0 := by
        rcases Nat.eq_zero_or_pos (i - xs.length) with h0 | h0
        · exact h0
        · rw [List.getElem?_eq_none (by simp; omega)] at hi
          cases hi
      rw [this] at hi
      simp only [List.getElem?_cons_zero, Option.some.injEq] at hi
      subst hi
      have : i = n := by omega
      subst this
      exact hy
theorem Opn.slice {α : Type} {P : Program} {t e : TypeId} {k : Kd α} {ok : α → Prop} (B : Nat) (ht : P.underlying t = some (.slice e)) (hc : P.cellsOf e = k.sz) (hB : P.bytesOf e = B) (h : Opn P e k ok) :
    Opn P t (Kd.slice e k) (fun xs => (∀ x ∈ xs, ok x) ∧ xs.length * B ≤ 140737488351232) := by
  intro H enc W fuel cs d ps hd hz
  rcases DataW.trod_slice ht hd with ⟨rfl, _⟩ | ⟨a, len, cap, elems, rest, n, rfl, rfl, hx, _, hl, hm, hel, hcell, _, _⟩
  · exact ⟨[], ⟨none, 0, rfl, Nat.le_refl _, Kd.C_nil _ _⟩, by simp, by simp⟩
  · obtain ⟨rfl, _⟩ := Prod.mk.inj hx
    have hz0 := hz (((elems.map (·.1)).length + (rest.map (·.1)).length) * P.bytesOf e) (by simp only [DataW.weights, ht]; exact List.mem_cons_self)
    have hpick : ∀ i, i < len → ∃ x : α, (∃ c, c.length = k.sz ∧ k.K W x c ∧ ∀ j u, c[j]? = some u → W.cell? (a.add (i * k.sz + j)) = some u) ∧ ok x := by
      intro i hi
      have h1 := hcell i hi
      rw [List.getElem?_eq_getElem (by omega)] at h1
      obtain ⟨c, hc1, hc2⟩ := Option.bind_eq_some_iff.1 h1
      obtain ⟨_, hcl, hcc⟩ := World.cells?_some hc1
      obtain ⟨x, hx, ho⟩ := h H enc W n c _ _ hc2 (fun m hm => hz m (by
        simp only [DataW.weights, ht, List.mem_cons, List.mem_append]
        exact .inr (.inl (weightsAll_mem (List.mem_map.2 ⟨_, List.getElem_mem (by omega), rfl⟩) m hm))))
      refine ⟨x, ⟨c, by omega, hx, fun j u hu => ?_⟩, ho⟩
      have hj : j < c.length := by
        rcases Nat.lt_or_ge j c.length with hj | hj
        · exact hj
        · rw [List.getElem?_eq_none hj] at hu; cases hu
      have := hcc j (by omega)
      rw [hu, hc] at this
      rw [← this]
      rw [Addr.add_add]
    obtain ⟨xs, hxl, hxs⟩ := choose_list _ len hpick
    subst hxl
    refine ⟨xs, ⟨some a, cap, rfl, hl, rfl, by unfold maxLen at hm; omega, fun _ => ⟨a, rfl, fun j p hj => (hxs j p hj).1⟩⟩, fun x hx => ?_, ?_⟩
    · obtain ⟨i, hi⟩ := List.getElem?_of_mem hx
      exact (hxs i x hi).2
    · rw [hB] at hz0
      refine Nat.le_trans (Nat.mul_le_mul_right _ ?_) hz0
      simp only [List.length_map]
      omega
theorem weights_of {H : Type} {P : Program} {ts : List TypeId} {ds : List (DataW H)} {j : Nat} {t : TypeId} {d : DataW H} (hsz : (DataW.weightsEach P ts ds).all (· ≤ reachBytes) = true) (ht : ts[j]? = some t) (hd : ds[j]? = some d) :
    ∀ n ∈ d.weights P t, n ≤ reachBytes := fun n hn => by
  have := List.all_eq_true.1 hsz _ (DataW.weights_mem_each ht hd n hn)
  simpa using this
end Go.Proofs.Ytmbfjhhlpnjeoaa.Open

namespace Go.Proofs.Ytmbfjhhlpnjeoaa.Ok
open Go.RowKit Go.Proofs.Ytmbfjhhlpnjeoaa.Open Go.Proofs.Ytmbfjhhlpnjeoaa.G Go.Proofs.YtmbfjhhlpnjeoaaW.PrintWords Go.Proofs.YtmbfjhhlpnjeoaaW.PrintLast
set_option linter.unusedVariables false
theorem wf_int {k : IntKind} {n : Int} (h : (Lit.int k n).wf = true) : k.min ≤ n ∧ n ≤ k.max := by
  simpa [Lit.wf] using h
def okT3 (n : Int) : Prop := -9223372036854775808 ≤ n ∧ n ≤ 9223372036854775807
set_option maxRecDepth 100000 in
theorem opn3 : Opn Try.prog 3 (Kd.int .i64) okT3 := (Opn.int Try.underlying3).mono (fun n h => by have e := wf_int (k := .i64) h; rw [show IntKind.min .i64 = -9223372036854775808 from by decide, show IntKind.max .i64 = 9223372036854775807 from by decide] at e; exact e)
def okT9 (s : ByteArray) : Prop := s.size ≤ 140737488351232
set_option maxRecDepth 100000 in
theorem opn9 : Opn Try.prog 9 Kd.string okT9 := Opn.string Try.underlying9
def okT161 (x : S161) : Prop := okT9 x.f0 ∧ okT9 x.f1 ∧ okT3 x.f2
set_option maxRecDepth 100000 in
theorem opn161 : Opn Try.prog 161 k161 okT161 := (Opn.iso (f := fun x : S161 => (x.f0, x.f1, x.f2)) (fun p => (⟨p.1, p.2.1, p.2.2⟩ : S161)) (fun _ => rfl) (Opn.struct (k := (Kd.pair Kd.string (Kd.pair Kd.string (Kd.int .i64)))) Try.underlying161 (by kernel_rfl) (OpnFs.cons rfl (by kernel_rfl) opn9 (OpnFs.cons rfl (by kernel_rfl) opn9 (OpnFs.one rfl (by kernel_rfl) opn3))))).mono (fun _ h => h)
def okT37 (xs : List S161) : Prop := (∀ x ∈ xs, okT161 x) ∧ xs.length * 40 ≤ 140737488351232
set_option maxRecDepth 100000 in
theorem opn37 : Opn Try.prog 37 (Kd.slice 161 k161) okT37 := Opn.slice 40 Try.underlying37 (by kernel_rfl) (by kernel_rfl) opn161
def okT38 (xs : List Int) : Prop := (∀ x ∈ xs, okT3 x) ∧ xs.length * 8 ≤ 140737488351232
set_option maxRecDepth 100000 in
theorem opn38 : Opn Try.prog 38 (Kd.slice 3 (Kd.int .i64)) okT38 := Opn.slice 8 Try.underlying38 (by kernel_rfl) (by kernel_rfl) opn3
def okT40 (x : Int × Int × List S161 × List S161 × List Int) : Prop := okT3 x.1 ∧ okT3 x.2.1 ∧ okT37 x.2.2.1 ∧ okT37 x.2.2.2.1 ∧ okT38 x.2.2.2.2
set_option maxRecDepth 100000 in
theorem opn40 : Opn Try.prog 40 (Kd.pair (Kd.int .i64) (Kd.pair (Kd.int .i64) (Kd.pair (Kd.slice 161 k161) (Kd.pair (Kd.slice 161 k161) (Kd.slice 3 (Kd.int .i64)))))) okT40 := (Opn.struct (k := (Kd.pair (Kd.int .i64) (Kd.pair (Kd.int .i64) (Kd.pair (Kd.slice 161 k161) (Kd.pair (Kd.slice 161 k161) (Kd.slice 3 (Kd.int .i64))))))) Try.underlying40 (by kernel_rfl) (OpnFs.cons rfl (by kernel_rfl) opn3 (OpnFs.cons rfl (by kernel_rfl) opn3 (OpnFs.cons rfl (by kernel_rfl) opn37 (OpnFs.cons rfl (by kernel_rfl) opn37 (OpnFs.one rfl (by kernel_rfl) opn38)))))).mono (fun _ h => h)
end Go.Proofs.Ytmbfjhhlpnjeoaa.Ok

namespace Go.Proofs.Ytmbfjhhlpnjeoaa.G.fnExactDigest
open Go.RowKit Go.Proofs.Ytmbfjhhlpnjeoaa.Open Go.Proofs.Ytmbfjhhlpnjeoaa.Ok Go.Proofs.Ytmbfjhhlpnjeoaa.G Go.Proofs.YtmbfjhhlpnjeoaaW.PrintWords Go.Proofs.YtmbfjhhlpnjeoaaW.PrintLast
set_option linter.unusedVariables false
def FnExactDigest.okIn (x0 : Int × Int × List S161 × List S161 × List Int) : Prop := okT40 x0
def FnExactDigest.Pure : Prop := ∀ (x0 : Int × Int × List S161 × List S161 × List Int), FnExactDigest.okIn x0 → ∃ k, laws_FnExactDigest.f k x0.1 x0.2.1 x0.2.2.1 x0.2.2.2.1 x0.2.2.2.2 = some true
end Go.Proofs.Ytmbfjhhlpnjeoaa.G.fnExactDigest

namespace Go.Proofs.Ytmbfjhhlpnjeoaa.PL
open Go.RowKit Go.Proofs.YtmbfjhhlpnjeoaaW.PrintWords
theorem Ev.const {α : Type} {x : Option α} {r : α} (h : x = some r) : Ev (fun _ => x) r := ⟨0, fun _ _ => h⟩
theorem Ev.pos {α : Type} {c : Prop} [Decidable c] {f g : Nat → Option α} {r : α} (hc : c) (h : Ev f r) : Ev (fun k => if c then f k else g k) r := by
  obtain ⟨K, h⟩ := h
  exact ⟨K, fun k hk => (if_pos hc).trans (h k hk)⟩
theorem Ev.neg {α : Type} {c : Prop} [Decidable c] {f g : Nat → Option α} {r : α} (hc : ¬ c) (h : Ev g r) : Ev (fun k => if c then f k else g k) r := by
  obtain ⟨K, h⟩ := h
  exact ⟨K, fun k hk => (if_neg hc).trans (h k hk)⟩
theorem Ev.to {α : Type} {f : Nat → Option α} {r s : α} (h : Ev f r) (e : r = s) : Ev f s := e ▸ h
theorem w64 {x : Int} (h0 : -9223372036854775808 ≤ x) (h1 : x ≤ 9223372036854775807) : wrap64 x = x := by
  unfold wrap64
  omega
theorem wsucc {i : Nat} (h : i < 9223372036854775807) : wrap64 ((i : Int) + 1) = ((i + 1 : Nat) : Int) := by
  rw [w64 (by omega) (by omega)]
  omega
theorem getD_at {α : Type} {xs : List α} {i : Nat} (h : i < xs.length) (z : α) : xs.getD ((i : Nat) : Int).toNat z = xs[i] := by
  simp [List.getD_eq_getElem?_getD, h]
theorem drop_at {α : Type} {xs : List α} {i : Nat} (h : i < xs.length) : xs.drop i = xs[i] :: xs.drop (i + 1) := List.drop_eq_getElem_cons h
/-- What is left of a when m are taken off, or -1. -/
def left (a : Int) (m : Nat) : Int := if (m : Int) ≤ a then a - m else -1
theorem left_pos {a : Int} {m : Nat} (h : (m : Int) ≤ a) : left a m = a - m := if_pos h
theorem left_neg {a : Int} {m : Nat} (h : ¬ (m : Int) ≤ a) : left a m = -1 := if_neg h
theorem left_zero {a : Int} (h : 0 ≤ a) : left a 0 = a := by unfold left; rw [if_pos (by omega)]; omega
theorem left_add {a : Int} {m n : Nat} : left (a - m) n = left a (m + n) := by
  unfold left
  by_cases c : (n : Int) ≤ a - m
  · rw [if_pos c, if_pos (by omega)]; omega
  · rw [if_neg c, if_neg (by omega)]
theorem left_neg_add {a : Int} {m n : Nat} (h : ¬ (m : Int) ≤ a) : left a (m + n) = -1 := left_neg (by omega)
theorem take_drop_set {α β : Type} (f : α → β) (xs : List α) (ys : List β) {i : Nat} (hi : i < xs.length) (hl : ys.length = xs.length) (h : ys.take i = (xs.take i).map f) : (ys.set ((i : Nat) : Int).toNat (f xs[i])).take (i + 1) = (xs.take (i + 1)).map f := by
  rw [Int.toNat_natCast, List.take_succ_eq_append_getElem (by simp; omega), List.take_succ_eq_append_getElem hi, List.map_append, ← h]
  simp [List.take_set_of_le]
end Go.Proofs.Ytmbfjhhlpnjeoaa.PL

namespace Go.Proofs.Ytmbfjhhlpnjeoaa.Q
open Go.RowKit Go.Proofs.Ytmbfjhhlpnjeoaa.PL Go.Proofs.YtmbfjhhlpnjeoaaW.PrintWords
def bs (s : ByteArray) : List UInt8 := s.data.toList
theorem bs_length (s : ByteArray) : (bs s).length = s.size := by unfold bs; rw [Array.length_toList]; rfl
theorem bs_inj {a b : ByteArray} (h : bs a = bs b) : a = b := by
  cases a; cases b
  simp [bs] at h
  simp [h]
theorem bs_append (a b : ByteArray) : bs (a ++ b) = bs a ++ bs b := by simp [bs]
theorem append_empty (a : ByteArray) : a ++ (⟨#[]⟩ : ByteArray) = a := bs_inj (by rw [bs_append]; exact List.append_nil _)
theorem empty_append (a : ByteArray) : (⟨#[]⟩ : ByteArray) ++ a = a := bs_inj (by rw [bs_append]; exact List.nil_append _)
theorem bs_toList (a : ByteArray) : a.toList = bs a := ByteArray.toList_eq a
theorem toList_nil {a : ByteArray} : a.toList = [] ↔ a = ⟨#[]⟩ := by
  rw [bs_toList]
  exact ⟨fun h => bs_inj (by rw [h]; rfl), fun h => by rw [h]; rfl⟩
theorem bt_eq (s : ByteArray) (i : Nat) (h : i < s.size) : bt s (i : Int) = (((bs s)[i]'(by rw [bs_length]; exact h)).toNat : Int) := by
  unfold bt bs
  simp only [Int.toNat_natCast, h, dif_pos]
  rfl
theorem drop_bs (s : ByteArray) (i : Nat) (h : i < s.size) : (bs s).drop i = (bs s)[i]'(by rw [bs_length]; exact h) :: (bs s).drop (i + 1) := List.drop_eq_getElem_cons (by rw [bs_length]; exact h)
theorem u8_eq {a : UInt8} {n : Nat} (hn : n < 256) : ((a.toNat : Int) = (n : Int)) ↔ a = UInt8.ofNat n := by
  constructor
  · intro h
    apply UInt8.toNat.inj
    rw [UInt8.toNat_ofNat']
    omega
  · intro h
    rw [h, UInt8.toNat_ofNat']
    omega
end Go.Proofs.Ytmbfjhhlpnjeoaa.Q

namespace Go.Proofs.Ytmbfjhhlpnjeoaa.Q
open Go.RowKit Go.Proofs.Ytmbfjhhlpnjeoaa.G Go.Proofs.Ytmbfjhhlpnjeoaa.PL Go.Proofs.YtmbfjhhlpnjeoaaW.PrintWords
def clean (s : ByteArray) : Bool := (bs s).all fun b => b != 32 && b != 10
theorem spec_l10Clean_l0 (s : ByteArray) (hs : s.size ≤ 140737488351232) : ∀ (d i : Nat), i + d = s.size → Ev (fun k => spec_l10Clean.l0 k s i) (((bs s).drop i).all fun b => b != 32 && b != 10) := by
  intro d
  induction d with
  | zero =>
    intro i hi
    refine Ev.step (fun _ => rfl) ?_
    simp only [spec_l10Clean.l0]
    refine Ev.neg (by omega) ?_
    rw [List.drop_of_length_le (by rw [bs_length]; omega)]
    exact Ev.const rfl
  | succ d ih =>
    intro i hi
    have hlt : i < s.size := by omega
    refine Ev.step (fun _ => rfl) ?_
    simp only [spec_l10Clean.l0]
    rw [bt_eq s i hlt, drop_bs s i hlt, List.all_cons, wsucc (by omega)]
    refine Ev.pos (by omega) ?_
    refine Ev.pos (by omega) ?_
    generalize (bs s)[i]'_ = b
    by_cases c : (b.toNat : Int) = 32
    · refine Ev.pos c ?_
      have : b = 32 := (u8_eq (n := 32) (by omega)).1 c
      exact Ev.const (by simp [this])
    · refine Ev.neg c ?_
      have h1 : ¬ b = 32 := fun h => c ((u8_eq (n := 32) (by omega)).2 h)
      by_cases c2 : (b.toNat : Int) = 10
      · refine Ev.pos c2 ?_
        have : b = 10 := (u8_eq (n := 10) (by omega)).1 c2
        exact Ev.const (by simp [this])
      · refine Ev.neg c2 ?_
        have h2 : ¬ b = 10 := fun h => c2 ((u8_eq (n := 10) (by omega)).2 h)
        refine Ev.to (ih (i + 1) (by omega)) ?_
        simp [h1, h2]
theorem spec_l10Clean_ev (s : ByteArray) (hs : s.size ≤ 140737488351232) : Ev (fun k => spec_l10Clean.f k s) (clean s) := by
  unfold spec_l10Clean.f
  exact spec_l10Clean_l0 s hs s.size 0 (by omega)
theorem impl_isPlain_l0 (s : ByteArray) (hs : s.size ≤ 140737488351232) : ∀ (d i : Nat), i + d = s.size → Ev (fun k => impl_isPlain.l0 k s i) (((bs s).drop i).all fun b => b != 32 && b != 10) := by
  intro d
  induction d with
  | zero =>
    intro i hi
    refine Ev.step (fun _ => rfl) ?_
    simp only [impl_isPlain.l0]
    refine Ev.neg (by omega) ?_
    rw [List.drop_of_length_le (by rw [bs_length]; omega)]
    exact Ev.const rfl
  | succ d ih =>
    intro i hi
    have hlt : i < s.size := by omega
    refine Ev.step (fun _ => rfl) ?_
    simp only [impl_isPlain.l0]
    rw [bt_eq s i hlt, drop_bs s i hlt, List.all_cons, wsucc (by omega)]
    refine Ev.pos (by omega) ?_
    refine Ev.pos (by omega) ?_
    generalize (bs s)[i]'_ = b
    by_cases c : (b.toNat : Int) = 32
    · refine Ev.pos c ?_
      have : b = 32 := (u8_eq (n := 32) (by omega)).1 c
      exact Ev.const (by simp [this])
    · refine Ev.neg c ?_
      have h1 : ¬ b = 32 := fun h => c ((u8_eq (n := 32) (by omega)).2 h)
      by_cases c2 : (b.toNat : Int) = 10
      · refine Ev.pos c2 ?_
        have : b = 10 := (u8_eq (n := 10) (by omega)).1 c2
        exact Ev.const (by simp [this])
      · refine Ev.neg c2 ?_
        have h2 : ¬ b = 10 := fun h => c2 ((u8_eq (n := 10) (by omega)).2 h)
        refine Ev.to (ih (i + 1) (by omega)) ?_
        simp [h1, h2]
theorem impl_isPlain_ev (s : ByteArray) (hs : s.size ≤ 140737488351232) : Ev (fun k => impl_isPlain.f k s) (clean s) := by
  unfold impl_isPlain.f
  exact impl_isPlain_l0 s hs s.size 0 (by omega)
end Go.Proofs.Ytmbfjhhlpnjeoaa.Q

namespace Go.Proofs.Ytmbfjhhlpnjeoaa.Q
open Go.RowKit Go.Proofs.Ytmbfjhhlpnjeoaa.G Go.Proofs.Ytmbfjhhlpnjeoaa.PL Go.Proofs.YtmbfjhhlpnjeoaaW.PrintWords
def itemOk (key val : ByteArray) (freq : Int) : Bool := decide (1 ≤ key.size) && decide (key.size ≤ 20) && clean key && decide (val.size ≤ 40) && clean val && decide (0 ≤ freq) && decide (freq ≤ 3)
theorem impl_within_eq (x lo hi : Int) : impl_within.f x lo hi = some (decide (lo ≤ x) && decide (x ≤ hi)) := by
  unfold impl_within.f
  by_cases h : x ≥ lo
  · rw [if_pos h]; simp [h]
  · rw [if_neg h]
    have : ¬ lo ≤ x := h
    simp [this]
theorem spec_l01In_eq (x lo hi : Int) : spec_l01In.f x lo hi = some (decide (lo ≤ x) && decide (x ≤ hi)) := by
  unfold spec_l01In.f
  by_cases h : x ≥ lo
  · rw [if_pos h]; simp [h]
  · rw [if_neg h]
    have : ¬ lo ≤ x := h
    simp [this]
theorem spec_ItemOk_ev (key val : ByteArray) (freq : Int) (h0 : key.size ≤ 140737488351232) (h1 : val.size ≤ 140737488351232) : Ev (fun k => spec_ItemOk.f k key val freq) (itemOk key val freq) := by
  unfold spec_ItemOk.f itemOk
  by_cases a : 1 ≤ key.size
  rotate_left
  · exact Ev.neg (by omega) (Ev.const (by simp [a]))
  refine Ev.pos (by omega) ?_
  by_cases b : key.size ≤ 20
  rotate_left
  · exact Ev.neg (by omega) (Ev.const (by simp [b]))
  refine Ev.pos (by omega) ?_
  refine Ev.bind (spec_l10Clean_ev key h0) ?_
  cases c : clean key
  · exact Ev.neg (by simp) (Ev.const (by simp))
  refine Ev.pos rfl ?_
  by_cases d : val.size ≤ 40
  rotate_left
  · exact Ev.neg (by omega) (Ev.const (by simp [d]))
  refine Ev.pos (by omega) ?_
  refine Ev.bind (spec_l10Clean_ev val h1) ?_
  cases e : clean val
  · exact Ev.neg (by simp) (Ev.const (by simp))
  refine Ev.pos rfl ?_
  refine Ev.bind (Ev.const (spec_l01In_eq _ _ _)) ?_
  exact Ev.const (by simp [a, b, d])
theorem impl_ItemOk_ev (key val : ByteArray) (freq : Int) (h0 : key.size ≤ 140737488351232) (h1 : val.size ≤ 140737488351232) : Ev (fun k => impl_ItemOk.f k key val freq) (itemOk key val freq) := by
  unfold impl_ItemOk.f itemOk
  refine Ev.bind (Ev.const (impl_within_eq _ _ _)) ?_
  by_cases a : 1 ≤ key.size
  rotate_left
  · exact Ev.neg (by simp; omega) (Ev.const (by simp [a]))
  by_cases b : key.size ≤ 20
  rotate_left
  · exact Ev.neg (by simp; omega) (Ev.const (by simp [b]))
  refine Ev.pos (by simp; omega) ?_
  by_cases d : val.size ≤ 40
  rotate_left
  · exact Ev.neg (by omega) (Ev.const (by simp [d]))
  refine Ev.pos (by omega) ?_
  refine Ev.bind (impl_isPlain_ev key h0) ?_
  cases c : clean key
  · exact Ev.neg (by simp) (Ev.const (by simp))
  refine Ev.pos rfl ?_
  refine Ev.bind (impl_isPlain_ev val h1) ?_
  cases e : clean val
  · exact Ev.neg (by simp) (Ev.const (by simp))
  refine Ev.pos rfl ?_
  refine Ev.bind (Ev.const (impl_within_eq _ _ _)) ?_
  exact Ev.const (by simp [a, b, d])
end Go.Proofs.Ytmbfjhhlpnjeoaa.Q

namespace Go.Proofs.Ytmbfjhhlpnjeoaa.Q
open Go.RowKit Go.Proofs.Ytmbfjhhlpnjeoaa.G Go.Proofs.Ytmbfjhhlpnjeoaa.PL Go.Proofs.YtmbfjhhlpnjeoaaW.PrintWords
def isNum (a : Int) : Bool := decide (0 ≤ a) && decide (a ≤ 4294967295)
theorem spec_l01Num_eq (a : Int) : spec_l01Num.f a = some (isNum a) := by
  unfold spec_l01Num.f isNum
  by_cases h : a ≥ 0
  · rw [if_pos h]; simp [h]
  · rw [if_neg h]
    have : ¬ 0 ≤ a := h
    simp [this]
theorem impl_isNum_eq (a : Int) : impl_isNum.f a = some (isNum a) := by
  unfold impl_isNum.f isNum
  rw [impl_within_eq]
  rfl
end Go.Proofs.Ytmbfjhhlpnjeoaa.Q

namespace Go.Proofs.Ytmbfjhhlpnjeoaa.Q
open Go.RowKit Go.Proofs.Ytmbfjhhlpnjeoaa.G Go.Proofs.Ytmbfjhhlpnjeoaa.PL Go.Proofs.YtmbfjhhlpnjeoaaW.PrintWords
def dg (n : Nat) : ByteArray := strOfNums [(48 + (n : Int))]
def dec (n : Nat) : ByteArray := if n < 10 then dg n else dec (n / 10) ++ dg (n % 10)
termination_by n
decreasing_by omega
theorem strOfNums_size1 (x : Int) : (strOfNums [x]).size = 1 := by simp [strOfNums, ByteArray.size]
theorem dg_size (n : Nat) : (dg n).size = 1 := strOfNums_size1 _
theorem dec_small {n : Nat} (h : n < 10) : dec n = dg n := by rw [dec, if_pos h]
theorem dec_big {n : Nat} (h : ¬ n < 10) : dec n = dec (n / 10) ++ dg (n % 10) := by rw [dec, if_neg h]
theorem dec_size : ∀ (m n : Nat), n < 10 ^ (m + 1) → 1 ≤ (dec n).size ∧ (dec n).size ≤ m + 1
  | 0, n, h => by rw [dec_small (by simpa using h), dg_size]; omega
  | m + 1, n, h => by
    by_cases c : n < 10
    · rw [dec_small c, dg_size]; omega
    · rw [dec_big c, ByteArray.size_append, dg_size]
      have := dec_size m (n / 10) (by rw [Nat.pow_succ] at h; omega)
      omega
theorem dec_size10 {n : Nat} (h : n ≤ 4294967295) : 1 ≤ (dec n).size ∧ (dec n).size ≤ 10 := dec_size 9 n (by omega)
theorem dig_w {n : Nat} (h : n < 10) : wrap64 (48 + (n : Int)) % 256 = 48 + (n : Int) := by rw [w64 (by omega) (by omega)]; omega
theorem tdiv10 (n : Nat) : Int.tdiv (n : Int) 10 = ((n / 10 : Nat) : Int) := by
  rw [Int.tdiv_eq_ediv_of_nonneg (by omega)]; omega
theorem tmod10 (n : Nat) : Int.tmod (n : Int) 10 = ((n % 10 : Nat) : Int) := by
  rw [Int.tmod_eq_emod_of_nonneg (by omega)]; omega
def numText (a : Int) : ByteArray := if isNum a = true then dec a.toNat else ⟨#[]⟩
theorem spec_NumText_nat : ∀ (m n : Nat), n < 10 ^ (m + 1) → n ≤ 4294967295 → Ev (fun k => spec_NumText.f k (n : Int)) (dec n) := by
  intro m
  induction m with
  | zero =>
    intro n h hb
    refine Ev.step (fun _ => rfl) ?_
    simp only [spec_NumText.f]
    refine Ev.bind (Ev.const (spec_l01Num_eq _)) ?_
    refine Ev.pos (by simp [isNum]; omega) ?_
    refine Ev.pos (by simp at h; omega) ?_
    rw [dig_w (by simpa using h), dec_small (by simpa using h)]
    exact Ev.const rfl
  | succ m ih =>
    intro n h hb
    refine Ev.step (fun _ => rfl) ?_
    simp only [spec_NumText.f]
    refine Ev.bind (Ev.const (spec_l01Num_eq _)) ?_
    refine Ev.pos (by simp [isNum]; omega) ?_
    by_cases c : n < 10
    · refine Ev.pos (by omega) ?_
      rw [dig_w c, dec_small c]
      exact Ev.const rfl
    · refine Ev.neg (by omega) ?_
      rw [tdiv10, tmod10, dig_w (by omega), w64 (x := ((n / 10 : Nat) : Int)) (by omega) (by omega), dec_big c]
      have hz := dec_size10 (n := n / 10) (by omega)
      have hd := dg_size (n % 10)
      refine Ev.bind (ih (n / 10) (by rw [Nat.pow_succ] at h; omega) (by omega)) ?_
      refine Ev.bind (Ev.const rfl) ?_
      refine Ev.pos ?_ (Ev.const rfl)
      have : (strOfNums [48 + ((n % 10 : Nat) : Int)]).size = 1 := strOfNums_size1 _
      omega
theorem spec_NumText_ev (a : Int) : Ev (fun k => spec_NumText.f k a) (numText a) := by
  unfold numText
  cases c : isNum a
  · refine Ev.step (fun _ => rfl) ?_
    simp only [spec_NumText.f]
    refine Ev.bind (Ev.const (spec_l01Num_eq _)) ?_
    exact Ev.neg (by simp [c]) (Ev.const (by simp))
  · have h : 0 ≤ a ∧ a ≤ 4294967295 := by simpa [isNum] using c
    obtain ⟨n, rfl⟩ := Int.eq_ofNat_of_zero_le h.1
    exact spec_NumText_nat 9 n (by omega) (by omega)
theorem impl_NumText_nat : ∀ (m n : Nat) (y : ByteArray), n < 10 ^ (m + 1) → n ≤ 4294967295 → y.size + m ≤ 1000 → Ev (fun k => impl_NumText.l0 k (n : Int) y) (dec n ++ y) := by
  intro m
  induction m with
  | zero =>
    intro n y h hb hy
    have hz : (strOfNums [48 + (n : Int)]).size = 1 := strOfNums_size1 _
    refine Ev.step (fun _ => rfl) ?_
    simp only [impl_NumText.l0]
    refine Ev.neg (by simp at h; omega) ?_
    rw [dig_w (by simpa using h), dec_small (by simpa using h)]
    refine Ev.bind (Ev.const rfl) ?_
    exact Ev.pos (by omega) (Ev.const rfl)
  | succ m ih =>
    intro n y h hb hy
    refine Ev.step (fun _ => rfl) ?_
    simp only [impl_NumText.l0]
    by_cases c : n < 10
    · have hz : (strOfNums [48 + (n : Int)]).size = 1 := strOfNums_size1 _
      refine Ev.neg (by omega) ?_
      rw [dig_w c, dec_small c]
      refine Ev.bind (Ev.const rfl) ?_
      exact Ev.pos (by omega) (Ev.const rfl)
    · refine Ev.pos (by omega) ?_
      rw [tdiv10, tmod10, dig_w (by omega), w64 (x := ((n / 10 : Nat) : Int)) (by omega) (by omega), dec_big c]
      have hz : (strOfNums [48 + ((n % 10 : Nat) : Int)]).size = 1 := strOfNums_size1 _
      refine Ev.bind (Ev.const rfl) ?_
      refine Ev.pos (by omega) ?_
      refine Ev.to (ih (n / 10) _ (by rw [Nat.pow_succ] at h; omega) (by omega) (by rw [ByteArray.size_append, hz]; omega)) ?_
      rw [ByteArray.append_assoc]; rfl
theorem impl_NumText_ev (a : Int) : Ev (fun k => impl_NumText.f k a) (numText a) := by
  unfold impl_NumText.f numText
  refine Ev.bind (Ev.const (impl_isNum_eq a)) ?_
  cases c : isNum a
  · exact Ev.neg (by simp) (Ev.const (by simp))
  · have h : 0 ≤ a ∧ a ≤ 4294967295 := by simpa [isNum] using c
    obtain ⟨n, rfl⟩ := Int.eq_ofNat_of_zero_le h.1
    refine Ev.pos rfl ?_
    refine Ev.to (impl_NumText_nat 9 n ⟨#[]⟩ (by omega) (by omega) (by rw [show (⟨#[]⟩ : ByteArray).size = 0 from rfl]; omega)) ?_
    rw [append_empty, if_pos rfl, Int.toNat_natCast]
theorem numText_size (a : Int) : (numText a).size ≤ 10 := by
  unfold numText
  cases c : isNum a
  · exact Nat.zero_le _
  · have h : 0 ≤ a ∧ a ≤ 4294967295 := by simpa [isNum] using c
    exact (dec_size10 (by omega)).2
end Go.Proofs.Ytmbfjhhlpnjeoaa.Q

namespace Go.Proofs.Ytmbfjhhlpnjeoaa.Q
open Go.RowKit Go.Proofs.Ytmbfjhhlpnjeoaa.G Go.Proofs.Ytmbfjhhlpnjeoaa.PL Go.Proofs.Ytmbfjhhlpnjeoaa.Man Go.Proofs.YtmbfjhhlpnjeoaaW.PrintWords
def plain (s : ByteArray) : Bool := (bs s).all fun b => b != 61 && b != 42
theorem plain_mark (s : ByteArray) : hasMark s = !plain s := by
  unfold hasMark plain bs
  induction s.data.toList with
  | nil => rfl
  | cons x r ih => rw [List.any_cons, List.all_cons, ih]; cases h : x == 61 <;> cases h2 : x == 42 <;> simp_all [bne]
theorem plain_append (a b : ByteArray) : plain (a ++ b) = (plain a && plain b) := by
  unfold plain
  rw [bs_append, List.all_append]
theorem spec_l20Plain_l0 (s : ByteArray) (hs : s.size ≤ 140737488351232) : ∀ (d i : Nat), i + d = s.size → Ev (fun k => spec_l20Plain.l0 k s i) (((bs s).drop i).all fun b => b != 61 && b != 42) := by
  intro d
  induction d with
  | zero =>
    intro i hi
    refine Ev.step (fun _ => rfl) ?_
    simp only [spec_l20Plain.l0]
    refine Ev.neg (by omega) ?_
    rw [List.drop_of_length_le (by rw [bs_length]; omega)]
    exact Ev.const rfl
  | succ d ih =>
    intro i hi
    have hlt : i < s.size := by omega
    refine Ev.step (fun _ => rfl) ?_
    simp only [spec_l20Plain.l0]
    rw [bt_eq s i hlt, drop_bs s i hlt, List.all_cons, wsucc (by omega)]
    refine Ev.pos (by omega) ?_
    refine Ev.pos (by omega) ?_
    generalize (bs s)[i]'_ = b
    by_cases c : (b.toNat : Int) = 61
    · refine Ev.pos c ?_
      have : b = 61 := (u8_eq (n := 61) (by omega)).1 c
      exact Ev.const (by simp [this])
    · refine Ev.neg c ?_
      have h1 : ¬ b = 61 := fun h => c ((u8_eq (n := 61) (by omega)).2 h)
      by_cases c2 : (b.toNat : Int) = 42
      · refine Ev.pos c2 ?_
        have : b = 42 := (u8_eq (n := 42) (by omega)).1 c2
        exact Ev.const (by simp [this])
      · refine Ev.neg c2 ?_
        have h2 : ¬ b = 42 := fun h => c2 ((u8_eq (n := 42) (by omega)).2 h)
        refine Ev.to (ih (i + 1) (by omega)) ?_
        simp [h1, h2]
theorem spec_l20Plain_ev (s : ByteArray) (hs : s.size ≤ 140737488351232) : Ev (fun k => spec_l20Plain.f k s) (plain s) := by
  unfold spec_l20Plain.f
  exact spec_l20Plain_l0 s hs s.size 0 (by omega)
def itemText (key val : ByteArray) (freq : Int) : ByteArray := if itemOk key val freq = true ∧ plain key = true ∧ plain val = true then (((key ++ (⟨#[61]⟩ : ByteArray)) ++ val) ++ (⟨#[42]⟩ : ByteArray)) ++ numText freq else ⟨#[]⟩
theorem itemOk_sizes {key val : ByteArray} {freq : Int} (h : itemOk key val freq = true) : key.size ≤ 20 ∧ val.size ≤ 40 := by
  unfold itemOk at h
  simp only [Bool.and_eq_true, decide_eq_true_eq] at h
  omega
theorem spec_ItemText_ev (key val : ByteArray) (freq : Int) (h0 : key.size ≤ 140737488351232) (h1 : val.size ≤ 140737488351232) : Ev (fun k => spec_ItemText.f k key val freq) (itemText key val freq) := by
  unfold spec_ItemText.f itemText
  refine Ev.bind (spec_ItemOk_ev key val freq h0 h1) ?_
  cases a : itemOk key val freq
  · exact Ev.neg (by simp) (Ev.const (by simp))
  have hs := itemOk_sizes a
  have hn := numText_size freq
  refine Ev.pos rfl ?_
  refine Ev.bind (spec_l20Plain_ev key h0) ?_
  cases b : plain key
  · exact Ev.neg (by simp) (Ev.const (by simp))
  refine Ev.pos rfl ?_
  refine Ev.bind (spec_l20Plain_ev val h1) ?_
  cases c : plain val
  · exact Ev.neg (by simp) (Ev.const (by simp))
  refine Ev.pos rfl ?_
  refine Ev.pos (by omega) (Ev.pos (by omega) (Ev.pos (by omega) ?_))
  refine Ev.bind (spec_NumText_ev freq) ?_
  exact Ev.pos (by omega) (Ev.const (by simp))
theorem impl_ItemText_ev (key val : ByteArray) (freq : Int) (h0 : key.size ≤ 140737488351232) (h1 : val.size ≤ 140737488351232) : Ev (fun k => impl_ItemText.f k key val freq) (itemText key val freq) := by
  unfold impl_ItemText.f itemText
  refine Ev.bind (impl_ItemOk_ev key val freq h0 h1) ?_
  cases a : itemOk key val freq
  · exact Ev.neg (by simp) (Ev.const (by simp))
  have hs := itemOk_sizes a
  have hn := numText_size freq
  refine Ev.pos rfl (Ev.pos (by omega) ?_)
  refine Ev.bind (Ev.const (show strings_ContainsAny.f (key ++ val) (⟨#[61, 42]⟩ : ByteArray) = some (hasMark (key ++ val)) from if_pos ⟨rfl, by rw [ByteArray.size_append]; omega⟩)) ?_
  rw [plain_mark, plain_append]
  cases b : plain key
  · exact Ev.pos (by simp) (Ev.const (by simp))
  cases c : plain val
  · exact Ev.pos (by simp) (Ev.const (by simp))
  refine Ev.neg (by simp) ?_
  refine Ev.pos (by omega) (Ev.pos (by omega) (Ev.pos (by omega) ?_))
  refine Ev.bind (impl_NumText_ev freq) ?_
  exact Ev.pos (by omega) (Ev.const (by simp))
end Go.Proofs.Ytmbfjhhlpnjeoaa.Q

namespace Go.Proofs.Ytmbfjhhlpnjeoaa.Q
open Go.RowKit Go.Proofs.Ytmbfjhhlpnjeoaa.G Go.Proofs.Ytmbfjhhlpnjeoaa.PL Go.Proofs.YtmbfjhhlpnjeoaaW.PrintWords Go.Proofs.YtmbfjhhlpnjeoaaW.PrintLast
abbrev It := S23
def small (l : List It) : Prop := l.length ≤ 4194304 ∧ ∀ x ∈ l, x.f0.size ≤ 140737488351232 ∧ x.f1.size ≤ 140737488351232
theorem spec_l10At_l0 (key : ByteArray) (l : List It) (hl : l.length ≤ 4194304) : ∀ (d i : Nat), i + d = l.length → Ev (fun k => spec_l10At.l0 k key l (l.length : Int) (i : Int)) (impl_itemAt.idx key (l.drop i) i) := by
  intro d
  induction d with
  | zero =>
    intro i hi
    rw [List.drop_of_length_le (by omega)]
    refine Ev.step (fun _ => rfl) ?_
    simp only [spec_l10At.l0]
    exact Ev.neg (by omega) (Ev.const (by rw [impl_itemAt.idx]))
  | succ d ih =>
    intro i hi
    have hx : i < l.length := by omega
    have er : rd_T23 l (i : Int) = l[i] := getD_at hx _
    refine Ev.step (fun _ => rfl) ?_
    simp only [spec_l10At.l0]
    rw [er, drop_at hx, impl_itemAt.idx]
    refine Ev.pos (by omega) (Ev.pos (by omega) (Ev.pos (by omega) ?_))
    by_cases c : l[i].f0.toList = key.toList
    · exact Ev.pos c (Ev.const (by rw [if_pos c]))
    · refine Ev.neg c ?_
      rw [if_neg c, wsucc (by omega)]
      exact ih (i + 1) (by omega)
theorem spec_l10At_ev (l : List It) (key : ByteArray) (hl : l.length ≤ 4194304) : Ev (fun k => spec_l10At.f k l key) (impl_itemAt.idx key l 0) := by
  unfold spec_l10At.f
  exact spec_l10At_l0 key l hl l.length 0 (by omega)
theorem spec_l03Has_l0 (a : Int) (l : List Int) (hl : l.length ≤ 140737488351232) : ∀ (d i : Nat), i + d = l.length → Ev (fun k => spec_l03Has.l0 k a l (l.length : Int) (i : Int)) (decide (a ∈ l.drop i)) := by
  intro d
  induction d with
  | zero =>
    intro i hi
    rw [List.drop_of_length_le (by omega)]
    refine Ev.step (fun _ => rfl) ?_
    simp only [spec_l03Has.l0]
    exact Ev.neg (by omega) (Ev.const (by simp))
  | succ d ih =>
    intro i hi
    have hx : i < l.length := by omega
    have er : rd l (i : Int) = l[i] := getD_at hx _
    refine Ev.step (fun _ => rfl) ?_
    simp only [spec_l03Has.l0]
    rw [er, drop_at hx]
    refine Ev.pos (by omega) (Ev.pos (by omega) (Ev.pos (by omega) ?_))
    by_cases c : l[i] = a
    · exact Ev.pos c (Ev.const (by simp [c]))
    · refine Ev.neg c ?_
      rw [wsucc (by omega)]
      refine Ev.to (ih (i + 1) (by omega)) ?_
      have c' : ¬ a = l[i] := fun h => c h.symm
      simp only [List.mem_cons, c', false_or]
theorem spec_l03Has_ev (l : List Int) (a : Int) (hl : l.length ≤ 140737488351232) : Ev (fun k => spec_l03Has.f k l a) (decide (a ∈ l)) := by
  unfold spec_l03Has.f
  exact spec_l03Has_l0 a l hl l.length 0 (by omega)
def posI (a : Int) : List Int → Nat → Int
  | [], _ => -1
  | x :: r, i => if a = x then (i : Int) else posI a r (i + 1)
theorem posI_ge (a : Int) : ∀ (l : List Int) (i : Nat), decide (posI a l i ≥ 0) = decide (a ∈ l)
  | [], i => by simp [posI]
  | x :: r, i => by
    rw [posI]
    by_cases c : a = x
    · rw [if_pos c]; simp [c]
    · rw [if_neg c, posI_ge a r (i + 1)]; simp [c]
theorem slices_Index_l0 (a : Int) (l : List Int) (hl : l.length ≤ 140737488351232) : ∀ (d i : Nat), i + d = l.length → Ev (fun k => slices_Index_int_int.l0 k l a (l.length : Int) (i : Int)) (posI a (l.drop i) i) := by
  intro d
  induction d with
  | zero =>
    intro i hi
    rw [List.drop_of_length_le (by omega)]
    refine Ev.step (fun _ => rfl) ?_
    simp only [slices_Index_int_int.l0]
    exact Ev.neg (by omega) (Ev.const rfl)
  | succ d ih =>
    intro i hi
    have hx : i < l.length := by omega
    have er : rd l (i : Int) = l[i] := getD_at hx _
    refine Ev.step (fun _ => rfl) ?_
    simp only [slices_Index_int_int.l0]
    rw [er, drop_at hx, posI]
    refine Ev.pos (by omega) (Ev.pos (by omega) (Ev.pos (by omega) ?_))
    by_cases c : a = l[i]
    · exact Ev.pos c (Ev.const (by rw [if_pos c]))
    · refine Ev.neg c ?_
      rw [if_neg c, wsucc (by omega)]
      exact ih (i + 1) (by omega)
theorem slices_Contains_ev (l : List Int) (a : Int) (hl : l.length ≤ 140737488351232) : Ev (fun k => slices_Contains_int_int.f k l a) (decide (a ∈ l)) := by
  unfold slices_Contains_int_int.f slices_Index_int_int.f
  refine Ev.bind (slices_Index_l0 a l hl l.length 0 (by omega)) (Ev.const ?_)
  rw [List.drop_zero, posI_ge]
def goodFrom (all : List It) : Nat → List It → Bool
  | _, [] => true
  | i, x :: r => itemOk x.f0 x.f1 x.f2 && (decide (impl_itemAt.idx x.f0 all 0 = (i : Int)) && goodFrom all (i + 1) r)
def numsFrom (g : List Int) : Nat → List Int → Bool
  | _, [] => true
  | i, x :: r => isNum x && (!decide (x ∈ g.take i) && numsFrom g (i + 1) r)
def threeOk (cap most : Int) (s m : List It) (g : List Int) : Bool := decide (1 ≤ cap ∧ cap ≤ 60) && (decide (1 ≤ most ∧ most ≤ cap) && (decide (((s.length + m.length : Nat) : Int) ≤ cap) && (decide ((g.length : Int) ≤ max 1 (cap - most)) && (goodFrom (s ++ m) 0 (s ++ m) && numsFrom g 0 g))))
theorem impl_areItems_l0 (l : List It) (hl : small l) : ∀ (d i : Nat), i + d = l.length → Ev (fun k => impl_areItems.l0 k l l (l.length : Int) (i : Int)) (goodFrom l i (l.drop i)) := by
  have hl1 := hl.1
  intro d
  induction d with
  | zero =>
    intro i hi
    rw [List.drop_of_length_le (by omega)]
    refine Ev.step (fun _ => rfl) ?_
    simp only [impl_areItems.l0]
    exact Ev.neg (by omega) (Ev.const rfl)
  | succ d ih =>
    intro i hi
    have hx : i < l.length := by omega
    have hm := hl.2 l[i] (List.getElem_mem hx)
    have er : rd_T23 l (i : Int) = l[i] := getD_at hx _
    refine Ev.step (fun _ => rfl) ?_
    simp only [impl_areItems.l0]
    rw [er, drop_at hx, goodFrom]
    refine Ev.pos (by omega) (Ev.pos (by omega) (Ev.pos (by omega) ?_))
    refine Ev.bind (impl_ItemOk_ev _ _ _ hm.1 hm.2) ?_
    cases c : itemOk l[i].f0 l[i].f1 l[i].f2
    · exact Ev.neg (by simp) (Ev.const rfl)
    refine Ev.pos rfl ?_
    refine Ev.bind (Ev.const (show impl_itemAt.f l l[i].f0 = some _ from rfl)) ?_
    by_cases e : impl_itemAt.idx l[i].f0 l 0 = (i : Int)
    · refine Ev.pos e ?_
      rw [wsucc (by omega)]
      refine Ev.to (ih (i + 1) (by omega)) ?_
      simp [e]
    · exact Ev.neg e (Ev.const (by simp [e]))
theorem impl_areItems_ev (l : List It) (hl : small l) : Ev (fun k => impl_areItems.f k l) (goodFrom l 0 l) := by
  unfold impl_areItems.f
  exact impl_areItems_l0 l hl l.length 0 (by omega)
theorem append_small {s m : List It} (hs : s.length ≤ 2097152 ∧ ∀ x ∈ s, x.f0.size ≤ 140737488351232 ∧ x.f1.size ≤ 140737488351232) (hm : m.length ≤ 2097152 ∧ ∀ x ∈ m, x.f0.size ≤ 140737488351232 ∧ x.f1.size ≤ 140737488351232) : small (s ++ m) := by
  refine ⟨by rw [List.length_append]; omega, fun x hx => ?_⟩
  rcases List.mem_append.1 hx with h | h
  · exact hs.2 x h
  · exact hm.2 x h
theorem impl_ThreeOk_l0 (cap most : Int) (s m : List It) (g : List Int) (hs : s.length ≤ 2097152 ∧ ∀ x ∈ s, x.f0.size ≤ 140737488351232 ∧ x.f1.size ≤ 140737488351232) (hm : m.length ≤ 2097152 ∧ ∀ x ∈ m, x.f0.size ≤ 140737488351232 ∧ x.f1.size ≤ 140737488351232) (hg : g.length ≤ 2097152) : ∀ (d i : Nat), i + d = g.length →
    Ev (fun k => impl_ThreeOk.l0 k g (g.length : Int) (i : Int) cap most s m g) (numsFrom g i (g.drop i) && (decide (((s.length + m.length : Nat) : Int) ≤ cap) && goodFrom (s ++ m) 0 (s ++ m))) := by
  intro d
  induction d with
  | zero =>
    intro i hi
    rw [List.drop_of_length_le (by omega), numsFrom, Bool.true_and]
    refine Ev.step (fun _ => rfl) ?_
    simp only [impl_ThreeOk.l0]
    refine Ev.neg (by omega) ?_
    refine Ev.bind (Ev.const (show impl_copyItems.f s = some s from by unfold impl_copyItems.f; rw [if_pos (by simp; omega)]; simp)) ?_
    refine Ev.pos (by omega) ?_
    refine Ev.bind (Ev.const rfl) ?_
    by_cases c : ((s.length + m.length : Nat) : Int) ≤ cap
    · refine Ev.pos (by rw [List.length_append]; exact c) ?_
      refine Ev.bind (impl_areItems_ev _ (append_small hs hm)) (Ev.const ?_)
      rw [decide_eq_true c, Bool.true_and]
    · refine Ev.neg (by rw [List.length_append]; exact c) (Ev.const ?_)
      rw [decide_eq_false c, Bool.false_and]
  | succ d ih =>
    intro i hi
    have hx : i < g.length := by omega
    have er : rd g (i : Int) = g[i] := getD_at hx _
    refine Ev.step (fun _ => rfl) ?_
    simp only [impl_ThreeOk.l0]
    rw [er, drop_at hx, numsFrom]
    refine Ev.pos (by omega) (Ev.pos (by omega) (Ev.pos (by omega) ?_))
    refine Ev.bind (Ev.const (impl_isNum_eq _)) ?_
    cases c : isNum g[i]
    · exact Ev.neg (by simp) (Ev.const rfl)
    refine Ev.pos rfl (Ev.pos (by omega) ?_)
    rw [Int.toNat_natCast]
    refine Ev.bind (slices_Contains_ev _ _ (by rw [List.length_take]; omega)) ?_
    by_cases e : g[i] ∈ g.take i
    · exact Ev.pos (by simp [e]) (Ev.const (by simp [e]))
    · refine Ev.neg (by simp [e]) ?_
      rw [wsucc (by omega)]
      refine Ev.to (ih (i + 1) (by omega)) ?_
      simp [e]
theorem impl_ThreeOk_ev (cap most : Int) (s m : List It) (g : List Int) (hs : s.length ≤ 2097152 ∧ ∀ x ∈ s, x.f0.size ≤ 140737488351232 ∧ x.f1.size ≤ 140737488351232) (hm : m.length ≤ 2097152 ∧ ∀ x ∈ m, x.f0.size ≤ 140737488351232 ∧ x.f1.size ≤ 140737488351232) (hg : g.length ≤ 2097152) : Ev (fun k => impl_ThreeOk.f k cap most s m g) (threeOk cap most s m g) := by
  unfold impl_ThreeOk.f threeOk
  have hj : Ev (fun k => impl_ThreeOk.j0 k true cap most s m g) false := by
    refine Ev.step (fun _ => rfl) ?_
    simp only [impl_ThreeOk.j0]
    exact Ev.const rfl
  refine Ev.bind (Ev.const (impl_within_eq _ _ _)) ?_
  by_cases a : 1 ≤ cap ∧ cap ≤ 60
  rotate_left
  · exact Ev.neg (by simp; omega) (Ev.to hj (by simp [a]))
  refine Ev.pos (by simp; omega) ?_
  refine Ev.bind (Ev.const (impl_within_eq _ _ _)) ?_
  by_cases b : 1 ≤ most ∧ most ≤ cap
  rotate_left
  · exact Ev.neg (by simp; omega) (Ev.to hj (by simp [b]))
  refine Ev.pos (by simp; omega) ?_
  refine Ev.bind (Ev.const (show impl_Three_ghosts.f cap most = some (max 1 (cap - most)) from by unfold impl_Three_ghosts.f; rw [w64 (by omega) (by omega)])) ?_
  rw [decide_eq_true a, decide_eq_true b, Bool.true_and, Bool.true_and]
  by_cases c : (g.length : Int) ≤ max 1 (cap - most)
  rotate_left
  · rw [decide_eq_true (show (g.length : Int) > max 1 (cap - most) by omega), decide_eq_false c]
    refine Ev.to hj (by simp)
  rw [decide_eq_false (show ¬ (g.length : Int) > max 1 (cap - most) by omega), decide_eq_true c]
  refine Ev.step (fun _ => rfl) ?_
  simp only [impl_ThreeOk.j0]
  refine Ev.neg (by simp) ?_
  refine Ev.to (impl_ThreeOk_l0 cap most s m g hs hm hg g.length 0 (by omega)) ?_
  rw [List.drop_zero]
  cases numsFrom g 0 g <;> simp
theorem spec_ThreeOk_l1 (cap most : Int) (s m : List It) (g : List Int) (hg : g.length ≤ 2097152) : ∀ (d i : Nat), i + d = g.length → Ev (fun k => spec_ThreeOk.l1 k g (g.length : Int) (i : Int) cap most s m g) (numsFrom g i (g.drop i)) := by
  intro d
  induction d with
  | zero =>
    intro i hi
    rw [List.drop_of_length_le (by omega), numsFrom]
    refine Ev.step (fun _ => rfl) ?_
    simp only [spec_ThreeOk.l1]
    exact Ev.neg (by omega) (Ev.const rfl)
  | succ d ih =>
    intro i hi
    have hx : i < g.length := by omega
    have er : rd g (i : Int) = g[i] := getD_at hx _
    refine Ev.step (fun _ => rfl) ?_
    simp only [spec_ThreeOk.l1]
    rw [er, drop_at hx, numsFrom]
    refine Ev.pos (by omega) (Ev.pos (by omega) (Ev.pos (by omega) ?_))
    refine Ev.bind (Ev.const (spec_l01Num_eq _)) ?_
    cases c : isNum g[i]
    · exact Ev.neg (by simp) (Ev.const rfl)
    refine Ev.pos rfl (Ev.pos (by omega) ?_)
    rw [Int.toNat_natCast]
    refine Ev.bind (spec_l03Has_ev _ _ (by rw [List.length_take]; omega)) ?_
    by_cases e : g[i] ∈ g.take i
    · exact Ev.pos (by simp [e]) (Ev.const (by simp [e]))
    · refine Ev.neg (by simp [e]) ?_
      rw [wsucc (by omega)]
      refine Ev.to (ih (i + 1) (by omega)) ?_
      simp [e]
theorem spec_ThreeOk_l0 (cap most : Int) (s m : List It) (g : List Int) (l : List It) (hl : small l) (hg : g.length ≤ 2097152) : ∀ (d i : Nat), i + d = l.length → Ev (fun k => spec_ThreeOk.l0 k l l (l.length : Int) (i : Int) cap most s m g) (goodFrom l i (l.drop i) && numsFrom g 0 g) := by
  have hl1 := hl.1
  intro d
  induction d with
  | zero =>
    intro i hi
    rw [List.drop_of_length_le (by omega), goodFrom, Bool.true_and]
    refine Ev.step (fun _ => rfl) ?_
    simp only [spec_ThreeOk.l0]
    exact Ev.neg (by omega) (spec_ThreeOk_l1 cap most s m g hg g.length 0 (by omega))
  | succ d ih =>
    intro i hi
    have hx : i < l.length := by omega
    have hm := hl.2 l[i] (List.getElem_mem hx)
    have er : rd_T23 l (i : Int) = l[i] := getD_at hx _
    refine Ev.step (fun _ => rfl) ?_
    simp only [spec_ThreeOk.l0]
    rw [er, drop_at hx, goodFrom]
    refine Ev.pos (by omega) (Ev.pos (by omega) (Ev.pos (by omega) ?_))
    refine Ev.bind (spec_ItemOk_ev _ _ _ hm.1 hm.2) ?_
    cases c : itemOk l[i].f0 l[i].f1 l[i].f2
    · exact Ev.neg (by simp) (Ev.const rfl)
    refine Ev.pos rfl ?_
    refine Ev.bind (spec_l10At_ev l _ hl1) ?_
    by_cases e : impl_itemAt.idx l[i].f0 l 0 = (i : Int)
    · refine Ev.pos e ?_
      rw [wsucc (by omega)]
      refine Ev.to (ih (i + 1) (by omega)) ?_
      simp [e]
    · exact Ev.neg e (Ev.const (by simp [e]))
theorem spec_ThreeOk_ev (cap most : Int) (s m : List It) (g : List Int) (hs : s.length ≤ 2097152 ∧ ∀ x ∈ s, x.f0.size ≤ 140737488351232 ∧ x.f1.size ≤ 140737488351232) (hm : m.length ≤ 2097152 ∧ ∀ x ∈ m, x.f0.size ≤ 140737488351232 ∧ x.f1.size ≤ 140737488351232) (hg : g.length ≤ 2097152) : Ev (fun k => spec_ThreeOk.f k cap most s m g) (threeOk cap most s m g) := by
  unfold spec_ThreeOk.f threeOk
  have hsl := hs.1
  have hml := hm.1
  have hj : Ev (fun k => spec_ThreeOk.j0 k true cap most s m g) false := by
    refine Ev.step (fun _ => rfl) ?_
    simp only [spec_ThreeOk.j0]
    exact Ev.const rfl
  refine Ev.bind (Ev.const (spec_l01In_eq _ _ _)) ?_
  by_cases a : 1 ≤ cap ∧ cap ≤ 60
  rotate_left
  · exact Ev.neg (by simp; omega) (Ev.to hj (by simp [a]))
  refine Ev.pos (by simp; omega) ?_
  refine Ev.bind (Ev.const (spec_l01In_eq _ _ _)) ?_
  by_cases b : 1 ≤ most ∧ most ≤ cap
  rotate_left
  · exact Ev.neg (by simp; omega) (Ev.to hj (by simp [b]))
  refine Ev.pos (by simp; omega) ?_
  rw [decide_eq_true a, decide_eq_true b, Bool.true_and, Bool.true_and, w64 (by omega) (by omega)]
  by_cases q : ((s.length + m.length : Nat) : Int) ≤ cap
  rotate_left
  · exact Ev.pos (by omega) (Ev.to hj (by rw [decide_eq_false q, Bool.false_and]))
  refine Ev.neg (by omega) ?_
  rw [decide_eq_true q, Bool.true_and]
  have hgh : spec_l10Ghosts.f cap most s m g = some (max 1 (cap - most)) := by
    unfold spec_l10Ghosts.f
    rw [w64 (by omega) (by omega)]
    by_cases z : cap - most < 1
    · rw [if_pos z]; congr 1; omega
    · rw [if_neg z]; congr 1; omega
  refine Ev.bind (Ev.const hgh) ?_
  by_cases c : (g.length : Int) ≤ max 1 (cap - most)
  rotate_left
  · rw [decide_eq_true (show (g.length : Int) > max 1 (cap - most) by omega), decide_eq_false c]
    refine Ev.to hj (by simp)
  rw [decide_eq_false (show ¬ (g.length : Int) > max 1 (cap - most) by omega), decide_eq_true c, Bool.true_and]
  refine Ev.step (fun _ => rfl) ?_
  simp only [spec_ThreeOk.j0]
  refine Ev.neg (by simp) ?_
  refine Ev.bind (Ev.const rfl) ?_
  refine Ev.pos (by simp; omega) ?_
  refine Ev.bind (Ev.const rfl) ?_
  refine Ev.pos (by simp; omega) ?_
  refine Ev.bind (Ev.const rfl) ?_
  rw [List.nil_append]
  exact spec_ThreeOk_l0 cap most s m g (s ++ m) (append_small hs hm) hg (s ++ m).length 0 (by omega)
end Go.Proofs.Ytmbfjhhlpnjeoaa.Q

namespace Go.Proofs.Ytmbfjhhlpnjeoaa.Q
open Go.RowKit Go.Proofs.Ytmbfjhhlpnjeoaa.G Go.Proofs.Ytmbfjhhlpnjeoaa.PL Go.Proofs.YtmbfjhhlpnjeoaaW.PrintWords Go.Proofs.YtmbfjhhlpnjeoaaW.PrintLast
theorem itemText_size (key val : ByteArray) (freq : Int) : (itemText key val freq).size ≤ 72 := by
  unfold itemText
  by_cases c : itemOk key val freq = true ∧ plain key = true ∧ plain val = true
  · rw [if_pos c]
    have h := itemOk_sizes c.1
    have hn := numText_size freq
    simp only [ByteArray.size_append]
    rw [show (⟨#[61]⟩ : ByteArray).size = 1 from rfl, show (⟨#[42]⟩ : ByteArray).size = 1 from rfl]
    omega
  · rw [if_neg c]; exact Nat.zero_le _
def itemsT (w : ByteArray) : List It → Option ByteArray
  | [] => some (w ++ (⟨#[10]⟩ : ByteArray))
  | x :: r => if itemText x.f0 x.f1 x.f2 = (⟨#[]⟩ : ByteArray) then none else itemsT ((w ++ (⟨#[32]⟩ : ByteArray)) ++ itemText x.f0 x.f1 x.f2) r
def numsT (w : ByteArray) : List Int → ByteArray
  | [] => w ++ (⟨#[10]⟩ : ByteArray)
  | x :: r => numsT ((w ++ (⟨#[32]⟩ : ByteArray)) ++ numText x) r
theorem itemsT_size : ∀ (l : List It) (w t : ByteArray), itemsT w l = some t → 1 ≤ t.size ∧ t.size ≤ w.size + 73 * l.length + 1
  | [], w, t, h => by
    rw [itemsT] at h
    obtain rfl := Option.some.inj h
    rw [ByteArray.size_append, show (⟨#[10]⟩ : ByteArray).size = 1 from rfl]
    simp
  | x :: r, w, t, h => by
    rw [itemsT] at h
    by_cases c : itemText x.f0 x.f1 x.f2 = (⟨#[]⟩ : ByteArray)
    · rw [if_pos c] at h; cases h
    · rw [if_neg c] at h
      have hh := itemsT_size r _ t h
      have hs := itemText_size x.f0 x.f1 x.f2
      rw [ByteArray.size_append, ByteArray.size_append, show (⟨#[32]⟩ : ByteArray).size = 1 from rfl] at hh
      rw [List.length_cons]
      omega
theorem numsT_size : ∀ (l : List Int) (w : ByteArray), (numsT w l).size ≤ w.size + 11 * l.length + 1
  | [], w => by rw [numsT, ByteArray.size_append, show (⟨#[10]⟩ : ByteArray).size = 1 from rfl]; simp
  | x :: r, w => by
    have hh := numsT_size r ((w ++ (⟨#[32]⟩ : ByteArray)) ++ numText x)
    have hs := numText_size x
    rw [ByteArray.size_append, ByteArray.size_append, show (⟨#[32]⟩ : ByteArray).size = 1 from rfl] at hh
    rw [numsT, List.length_cons]
    omega
theorem numsT_append : ∀ (l : List Int) (p w : ByteArray), numsT (p ++ w) l = p ++ numsT w l
  | [], p, w => by rw [numsT, numsT, ByteArray.append_assoc]
  | x :: r, p, w => by rw [numsT, numsT, ← numsT_append r, ByteArray.append_assoc, ByteArray.append_assoc, ByteArray.append_assoc]
def optText : Option ByteArray → ByteArray
  | some t => t
  | none => (⟨#[]⟩ : ByteArray)
def optPair : Option ByteArray → ByteArray × Bool
  | some t => (t, true)
  | none => ((⟨#[]⟩ : ByteArray), false)
theorem impl_itemsText_l0 (l : List It) (hl : small l) : ∀ (d i : Nat) (w : ByteArray), i + d = l.length → w.size ≤ 100 + 73 * i → Ev (fun k => impl_itemsText.l0 k w l (l.length : Int) (i : Int)) (optText (itemsT w (l.drop i))) := by
  have hl1 := hl.1
  intro d
  induction d with
  | zero =>
    intro i w hi hw
    rw [List.drop_of_length_le (by omega), itemsT]
    refine Ev.step (fun _ => rfl) ?_
    simp only [impl_itemsText.l0]
    exact Ev.neg (by omega) (Ev.pos (by omega) (Ev.const rfl))
  | succ d ih =>
    intro i w hi hw
    have hx : i < l.length := by omega
    have hm := hl.2 l[i] (List.getElem_mem hx)
    have er : rd_T23 l (i : Int) = l[i] := getD_at hx _
    have hs := itemText_size l[i].f0 l[i].f1 l[i].f2
    refine Ev.step (fun _ => rfl) ?_
    simp only [impl_itemsText.l0]
    rw [er, drop_at hx, itemsT]
    refine Ev.pos (by omega) (Ev.pos (by omega) (Ev.pos (by omega) ?_))
    refine Ev.bind (impl_ItemText_ev _ _ _ hm.1 hm.2) ?_
    by_cases c : itemText l[i].f0 l[i].f1 l[i].f2 = (⟨#[]⟩ : ByteArray)
    · exact Ev.pos (toList_nil.2 c) (Ev.const (by rw [if_pos c]; rfl))
    · refine Ev.neg (fun h => c (toList_nil.1 h)) (Ev.pos (by omega) (Ev.pos (by omega) ?_))
      rw [if_neg c, wsucc (by omega)]
      refine ih (i + 1) _ (by omega) ?_
      rw [ByteArray.size_append, ByteArray.size_append, show (⟨#[32]⟩ : ByteArray).size = 1 from rfl]
      omega
theorem spec_l20Items_l0 (l : List It) (hl : small l) : ∀ (d i : Nat) (w : ByteArray), i + d = l.length → w.size ≤ 100 + 73 * i → Ev (fun k => spec_l20Items.l0 k w l (l.length : Int) (i : Int)) (optPair (itemsT w (l.drop i))) := by
  have hl1 := hl.1
  intro d
  induction d with
  | zero =>
    intro i w hi hw
    rw [List.drop_of_length_le (by omega), itemsT]
    refine Ev.step (fun _ => rfl) ?_
    simp only [spec_l20Items.l0]
    exact Ev.neg (by omega) (Ev.pos (by omega) (Ev.const rfl))
  | succ d ih =>
    intro i w hi hw
    have hx : i < l.length := by omega
    have hm := hl.2 l[i] (List.getElem_mem hx)
    have er : rd_T23 l (i : Int) = l[i] := getD_at hx _
    have hs := itemText_size l[i].f0 l[i].f1 l[i].f2
    refine Ev.step (fun _ => rfl) ?_
    simp only [spec_l20Items.l0]
    rw [er, drop_at hx, itemsT]
    refine Ev.pos (by omega) (Ev.pos (by omega) (Ev.pos (by omega) ?_))
    refine Ev.bind (spec_ItemText_ev _ _ _ hm.1 hm.2) ?_
    by_cases c : itemText l[i].f0 l[i].f1 l[i].f2 = (⟨#[]⟩ : ByteArray)
    · exact Ev.pos (toList_nil.2 c) (Ev.const (by rw [if_pos c]; rfl))
    · refine Ev.neg (fun h => c (toList_nil.1 h)) (Ev.pos (by omega) (Ev.pos (by omega) ?_))
      rw [if_neg c, wsucc (by omega)]
      refine ih (i + 1) _ (by omega) ?_
      rw [ByteArray.size_append, ByteArray.size_append, show (⟨#[32]⟩ : ByteArray).size = 1 from rfl]
      omega
theorem impl_itemsText_ev (w : ByteArray) (l : List It) (hl : small l) (hw : w.size ≤ 100) : Ev (fun k => impl_itemsText.f k w l) (optText (itemsT w l)) := by
  unfold impl_itemsText.f
  exact impl_itemsText_l0 l hl l.length 0 w (by omega) (by omega)
theorem spec_l20Items_ev (w : ByteArray) (l : List It) (hl : small l) (hw : w.size ≤ 100) : Ev (fun k => spec_l20Items.f k w l) (optPair (itemsT w l)) := by
  unfold spec_l20Items.f
  exact spec_l20Items_l0 l hl l.length 0 w (by omega) (by omega)
theorem spec_l20Nums_l0 (l : List Int) (hl : l.length ≤ 4194304) (hn : ∀ x ∈ l, isNum x = true) : ∀ (d i : Nat) (w : ByteArray), i + d = l.length → w.size ≤ 100 + 11 * i → Ev (fun k => spec_l20Nums.l0 k w l (l.length : Int) (i : Int)) (numsT w (l.drop i)) := by
  intro d
  induction d with
  | zero =>
    intro i w hi hw
    rw [List.drop_of_length_le (by omega), numsT]
    refine Ev.step (fun _ => rfl) ?_
    simp only [spec_l20Nums.l0]
    exact Ev.neg (by omega) (Ev.pos (by omega) (Ev.const rfl))
  | succ d ih =>
    intro i w hi hw
    have hx : i < l.length := by omega
    have er : rd l (i : Int) = l[i] := getD_at hx _
    have hs := numText_size l[i]
    refine Ev.step (fun _ => rfl) ?_
    simp only [spec_l20Nums.l0]
    rw [er, drop_at hx, numsT]
    refine Ev.pos (by omega) (Ev.pos (by omega) (Ev.pos (by omega) (Ev.pos (by omega) ?_)))
    refine Ev.bind (spec_NumText_ev _) (Ev.pos (by omega) ?_)
    refine Ev.bind (Ev.const (spec_l01Num_eq _)) ?_
    refine Ev.pos (hn _ (List.getElem_mem hx)) ?_
    rw [wsucc (by omega)]
    refine ih (i + 1) _ (by omega) ?_
    rw [ByteArray.size_append, ByteArray.size_append, show (⟨#[32]⟩ : ByteArray).size = 1 from rfl]
    omega
theorem spec_l20Nums_ev (w : ByteArray) (l : List Int) (hl : l.length ≤ 4194304) (hn : ∀ x ∈ l, isNum x = true) (hw : w.size ≤ 100) : Ev (fun k => spec_l20Nums.f k w l) (numsT w l) := by
  unfold spec_l20Nums.f
  exact spec_l20Nums_l0 l hl hn l.length 0 w (by omega) (by omega)
theorem impl_ThreeText_l0 (l : List Int) (hl : l.length ≤ 4194304) : ∀ (d i : Nat) (w : ByteArray), i + d = l.length → w.size ≤ 1000000000 + 11 * i → Ev (fun k => impl_ThreeText.l0 k w l (l.length : Int) (i : Int)) (numsT w (l.drop i)) := by
  intro d
  induction d with
  | zero =>
    intro i w hi hw
    rw [List.drop_of_length_le (by omega), numsT]
    refine Ev.step (fun _ => rfl) ?_
    simp only [impl_ThreeText.l0]
    exact Ev.neg (by omega) (Ev.pos (by omega) (Ev.const rfl))
  | succ d ih =>
    intro i w hi hw
    have hx : i < l.length := by omega
    have er : rd l (i : Int) = l[i] := getD_at hx _
    have hs := numText_size l[i]
    refine Ev.step (fun _ => rfl) ?_
    simp only [impl_ThreeText.l0]
    rw [er, drop_at hx, numsT]
    refine Ev.pos (by omega) (Ev.pos (by omega) (Ev.pos (by omega) (Ev.pos (by omega) ?_)))
    refine Ev.bind (impl_NumText_ev _) (Ev.pos (by omega) ?_)
    rw [wsucc (by omega)]
    refine ih (i + 1) _ (by omega) ?_
    rw [ByteArray.size_append, ByteArray.size_append, show (⟨#[32]⟩ : ByteArray).size = 1 from rfl]
    omega
theorem impl_glued3 (a b c : ByteArray) (ha : a.size ≤ 100) (hb : b.size ≤ 100) (hc : c.size ≤ 100) : Ev (fun k => impl_glued.f k [a, b, c]) ((((a ++ (⟨#[32]⟩ : ByteArray)) ++ b) ++ (⟨#[32]⟩ : ByteArray)) ++ c) := by
  unfold impl_glued.f
  have e0 : rdOf ByteArray.empty [a, b, c] 0 = a := rfl
  have e1 : rdOf ByteArray.empty [a, b, c] 1 = b := rfl
  have e2 : rdOf ByteArray.empty [a, b, c] 2 = c := rfl
  have z : (⟨#[]⟩ : ByteArray).size = 0 := rfl
  have s1 : (⟨#[32]⟩ : ByteArray).size = 1 := rfl
  show Ev (fun k => impl_glued.l0 k (⟨#[]⟩ : ByteArray) [a, b, c] 3 0) _
  refine Ev.step (fun _ => rfl) ?_
  simp only [impl_glued.l0]
  refine Ev.pos (by omega) (Ev.pos (by omega) (Ev.pos (by simp) (Ev.neg (by omega) ?_)))
  rw [e0, show wrap64 (0 + 1) = 1 from by rw [w64 (by omega) (by omega)]; rfl, empty_append]
  refine Ev.pos (by omega) (Ev.step (fun _ => rfl) ?_)
  simp only [impl_glued.l0]
  refine Ev.pos (by omega) (Ev.pos (by omega) (Ev.pos (by simp) (Ev.pos (by omega) ?_)))
  rw [e1, show wrap64 (1 + 1) = 2 from by rw [w64 (by omega) (by omega)]; rfl]
  refine Ev.pos (by omega) (Ev.pos (by omega) (Ev.step (fun _ => rfl) ?_))
  simp only [impl_glued.l0]
  refine Ev.pos (by omega) (Ev.pos (by omega) (Ev.pos (by simp) (Ev.pos (by omega) ?_)))
  rw [e2, show wrap64 (2 + 1) = 3 from by rw [w64 (by omega) (by omega)]; rfl]
  refine Ev.pos (by simp only [ByteArray.size_append]; omega) (Ev.pos (by simp only [ByteArray.size_append]; omega) (Ev.step (fun _ => rfl) ?_))
  simp only [impl_glued.l0]
  exact Ev.neg (by omega) (Ev.const rfl)
def threeText (cap most : Int) (s m : List It) (g : List Int) : ByteArray :=
  if threeOk cap most s m g = true then
    match itemsT (⟨#[115, 109, 97, 108, 108]⟩ : ByteArray) s, itemsT (⟨#[109, 97, 105, 110]⟩ : ByteArray) m with
    | some a, some b => ((numsT (⟨#[116, 104, 114, 101, 101]⟩ : ByteArray) [cap, most] ++ a) ++ b) ++ numsT (⟨#[103, 104, 111, 115, 116]⟩ : ByteArray) g
    | _, _ => (⟨#[]⟩ : ByteArray)
  else (⟨#[]⟩ : ByteArray)
theorem numsFrom_all (g : List Int) : ∀ (l : List Int) (i : Nat), numsFrom g i l = true → ∀ x ∈ l, isNum x = true
  | [], _, _ => by simp
  | y :: r, i, h => by
    rw [numsFrom, Bool.and_eq_true, Bool.and_eq_true] at h
    intro x hx
    rcases List.mem_cons.1 hx with rfl | hx
    · exact h.1
    · exact numsFrom_all g r _ h.2.2 x hx
theorem threeOk_nums {cap most : Int} {s m : List It} {g : List Int} (h : threeOk cap most s m g = true) : (1 ≤ cap ∧ cap ≤ 60) ∧ (1 ≤ most ∧ most ≤ cap) ∧ ∀ x ∈ g, isNum x = true := by
  unfold threeOk at h
  simp only [Bool.and_eq_true, decide_eq_true_eq] at h
  exact ⟨h.1, h.2.1, numsFrom_all g g 0 h.2.2.2.2.2⟩
abbrev Fine (l : List It) : Prop := l.length ≤ 2097152 ∧ ∀ x ∈ l, x.f0.size ≤ 140737488351232 ∧ x.f1.size ≤ 140737488351232
theorem fine_small {l : List It} (h : Fine l) : small l := ⟨by have := h.1; omega, h.2⟩
theorem spec_ThreeText_ev (cap most : Int) (s m : List It) (g : List Int) (hs : Fine s) (hm : Fine m) (hg : g.length ≤ 2097152) : Ev (fun k => spec_ThreeText.f k cap most s m g) (threeText cap most s m g) := by
  unfold spec_ThreeText.f threeText
  have hsl := hs.1
  have hml := hm.1
  refine Ev.bind (spec_ThreeOk_ev cap most s m g hs hm hg) ?_
  cases c : threeOk cap most s m g
  · exact Ev.neg (by simp) (Ev.const (by simp))
  obtain ⟨hc1, hc2, hn⟩ := threeOk_nums c
  refine Ev.pos rfl ?_
  rw [if_pos rfl]
  refine Ev.to (r := _) (s := _) (Ev.bind ?_ (Ev.const rfl)) rfl
  unfold spec_l20Text.f
  refine Ev.bind (spec_l20Items_ev _ s (fine_small hs) (show (5 : Nat) ≤ 100 by omega)) ?_
  refine Ev.bind (spec_l20Items_ev _ m (fine_small hm) (show (4 : Nat) ≤ 100 by omega)) ?_
  have hz := itemsT_size s (⟨#[115, 109, 97, 108, 108]⟩ : ByteArray)
  have hy := itemsT_size m (⟨#[109, 97, 105, 110]⟩ : ByteArray)
  rw [show (⟨#[115, 109, 97, 108, 108]⟩ : ByteArray).size = 5 from rfl] at hz
  rw [show (⟨#[109, 97, 105, 110]⟩ : ByteArray).size = 4 from rfl] at hy
  have hj : ∀ x y, Ev (fun k => spec_l20Text.j0 k x y true cap most s m g) (⟨#[]⟩ : ByteArray) := by
    intro x y
    refine Ev.step (fun _ => rfl) ?_
    simp only [spec_l20Text.j0]
    exact Ev.const rfl
  cases a : itemsT (⟨#[115, 109, 97, 108, 108]⟩ : ByteArray) s with
  | none => exact Ev.neg (by simp [optPair]) (hj _ _)
  | some ta =>
    refine Ev.pos (by simp [optPair]) ?_
    cases b : itemsT (⟨#[109, 97, 105, 110]⟩ : ByteArray) m with
    | none => exact hj _ _
    | some tb =>
      have za := (hz ta a).2
      have zb := (hy tb b).2
      have zn := numsT_size [cap, most] (⟨#[116, 104, 114, 101, 101]⟩ : ByteArray)
      have zg := numsT_size g (⟨#[103, 104, 111, 115, 116]⟩ : ByteArray)
      rw [show (⟨#[116, 104, 114, 101, 101]⟩ : ByteArray).size = 5 from rfl, show [cap, most].length = 2 from rfl] at zn
      rw [show (⟨#[103, 104, 111, 115, 116]⟩ : ByteArray).size = 5 from rfl] at zg
      refine Ev.step (fun _ => rfl) ?_
      simp only [spec_l20Text.j0, optPair]
      refine Ev.neg (by simp) ?_
      refine Ev.bind (spec_l20Nums_ev _ [cap, most] (by simp) ?_ (show (5 : Nat) ≤ 100 by omega)) ?_
      · intro x hx
        unfold isNum
        simp only [List.mem_cons, List.not_mem_nil, or_false] at hx
        simp
        omega
      refine Ev.pos (by omega) (Ev.pos (by omega) ?_)
      refine Ev.bind (spec_l20Nums_ev _ g (by omega) hn (show (5 : Nat) ≤ 100 by omega)) ?_
      exact Ev.pos (by omega) (Ev.const rfl)
theorem impl_ThreeText_ev (cap most : Int) (s m : List It) (g : List Int) (hs : Fine s) (hm : Fine m) (hg : g.length ≤ 2097152) : Ev (fun k => impl_ThreeText.f k cap most s m g) (threeText cap most s m g) := by
  unfold impl_ThreeText.f threeText
  have hsl := hs.1
  have hml := hm.1
  refine Ev.bind (impl_itemsText_ev _ s (fine_small hs) (show (5 : Nat) ≤ 100 by omega)) ?_
  refine Ev.bind (impl_itemsText_ev _ m (fine_small hm) (show (4 : Nat) ≤ 100 by omega)) ?_
  refine Ev.bind (impl_ThreeOk_ev cap most s m g hs hm hg) ?_
  have hz := itemsT_size s (⟨#[115, 109, 97, 108, 108]⟩ : ByteArray)
  have hy := itemsT_size m (⟨#[109, 97, 105, 110]⟩ : ByteArray)
  rw [show (⟨#[115, 109, 97, 108, 108]⟩ : ByteArray).size = 5 from rfl] at hz
  rw [show (⟨#[109, 97, 105, 110]⟩ : ByteArray).size = 4 from rfl] at hy
  have hj : ∀ x y, Ev (fun k => impl_ThreeText.j0 k x y true cap most s m g) (⟨#[]⟩ : ByteArray) := by
    intro x y
    refine Ev.step (fun _ => rfl) ?_
    simp only [impl_ThreeText.j0]
    exact Ev.const rfl
  cases c : threeOk cap most s m g
  · refine Ev.neg (by simp) ?_
    exact Ev.to (hj _ _) (by simp)
  obtain ⟨hc1, hc2, hn⟩ := threeOk_nums c
  refine Ev.pos rfl ?_
  rw [if_pos rfl]
  cases a : itemsT (⟨#[115, 109, 97, 108, 108]⟩ : ByteArray) s with
  | none => exact Ev.pos (toList_nil.2 rfl) (hj _ _)
  | some ta =>
    have na : ta ≠ (⟨#[]⟩ : ByteArray) := by
      intro e
      have := (hz ta a).1
      rw [e] at this
      exact absurd this (by decide)
    refine Ev.neg (fun h => na (toList_nil.1 h)) ?_
    cases b : itemsT (⟨#[109, 97, 105, 110]⟩ : ByteArray) m with
    | none =>
      have e : ((optText none).toList == ([] : List UInt8)) = true := by
        rw [beq_iff_eq]; exact toList_nil.2 rfl
      rw [e]
      exact hj _ _
    | some tb =>
      have nb : tb ≠ (⟨#[]⟩ : ByteArray) := by
        intro e
        have := (hy tb b).1
        rw [e] at this
        exact absurd this (by decide)
      have e : ((optText (some tb)).toList == ([] : List UInt8)) = false := by
        rw [beq_eq_false_iff_ne]; exact fun h => nb (toList_nil.1 h)
      rw [e]
      have za := (hz ta a).2
      have zb := (hy tb b).2
      have n1 := numText_size cap
      have n2 := numText_size most
      have s32 : (⟨#[32]⟩ : ByteArray).size = 1 := rfl
      have s10 : (⟨#[10]⟩ : ByteArray).size = 1 := rfl
      have s5 : (⟨#[116, 104, 114, 101, 101]⟩ : ByteArray).size = 5 := rfl
      have g5 : (⟨#[103, 104, 111, 115, 116]⟩ : ByteArray).size = 5 := rfl
      refine Ev.step (fun _ => rfl) ?_
      simp only [impl_ThreeText.j0, optText]
      refine Ev.neg (by simp) ?_
      refine Ev.bind (impl_NumText_ev cap) (Ev.bind (impl_NumText_ev most) ?_)
      refine Ev.bind (impl_glued3 _ _ _ (by omega) (by omega) (by omega)) ?_
      refine Ev.pos (by simp only [ByteArray.size_append]; omega) (Ev.pos (by simp only [ByteArray.size_append]; omega) (Ev.pos (by simp only [ByteArray.size_append]; omega) (Ev.pos (by simp only [ByteArray.size_append]; omega) ?_)))
      refine Ev.to (impl_ThreeText_l0 g (by omega) g.length 0 _ (by omega) (by simp only [ByteArray.size_append]; omega)) ?_
      rw [List.drop_zero, numsT_append]
      rfl
end Go.Proofs.Ytmbfjhhlpnjeoaa.Q

namespace Go.Proofs.Ytmbfjhhlpnjeoaa.Q
open Go.RowKit Go.Proofs.Ytmbfjhhlpnjeoaa.G Go.Proofs.Ytmbfjhhlpnjeoaa.PL Go.Proofs.YtmbfjhhlpnjeoaaW.PrintWords
/-- The hash of a text. -/
def hashOn : List UInt8 → Int → Int
  | [], h => h
  | c :: r, h => hashOn r (Int.tmod (wrap64 ((Go.bits .xor .i64 h (wrap64 (c.toNat : Int))) * 16777619)) 4294967296)
def hash (s : ByteArray) : Int := hashOn (bs s) 2166136261
theorem spec_Hash_ev (s : ByteArray) (hz : s.size ≤ 140737488351232) : Ev (fun k => spec_Hash.f k s) (hash s) := by
  have go : ∀ (d i : Nat) (h : Int), i + d = s.size → Ev (fun k => spec_Hash.l0 k s h (i : Int)) (hashOn ((bs s).drop i) h) := by
    intro d
    induction d with
    | zero =>
      intro i h hi
      rw [List.drop_of_length_le (by rw [bs_length]; omega)]
      refine Ev.step (fun _ => rfl) ?_
      simp only [spec_Hash.l0]
      exact Ev.neg (by omega) (Ev.const rfl)
    | succ d ih =>
      intro i h hi
      have hx : i < s.size := by omega
      refine Ev.step (fun _ => rfl) ?_
      simp only [spec_Hash.l0]
      rw [drop_bs s i hx, hashOn, bt_eq s i hx]
      refine Ev.pos (by omega) (Ev.pos (by omega) ?_)
      rw [wsucc (by omega)]
      exact ih (i + 1) _ (by omega)
  unfold spec_Hash.f hash
  exact go s.size 0 _ (by omega)
theorem impl_Hash_ev (s : ByteArray) (hz : s.size ≤ 140737488351232) : Ev (fun k => impl_Hash.f k s) (hash s) := by
  have go : ∀ (d i : Nat) (h : Int), i + d = s.size → Ev (fun k => impl_Hash.l0 k s h (i : Int)) (hashOn ((bs s).drop i) h) := by
    intro d
    induction d with
    | zero =>
      intro i h hi
      rw [List.drop_of_length_le (by rw [bs_length]; omega)]
      refine Ev.step (fun _ => rfl) ?_
      simp only [impl_Hash.l0]
      exact Ev.neg (by omega) (Ev.const rfl)
    | succ d ih =>
      intro i h hi
      have hx : i < s.size := by omega
      refine Ev.step (fun _ => rfl) ?_
      simp only [impl_Hash.l0]
      rw [drop_bs s i hx, hashOn, bt_eq s i hx]
      refine Ev.pos (by omega) (Ev.pos (by omega) ?_)
      rw [wsucc (by omega)]
      exact ih (i + 1) _ (by omega)
  unfold impl_Hash.f hash
  exact go s.size 0 _ (by omega)
end Go.Proofs.Ytmbfjhhlpnjeoaa.Q

namespace Go.Proofs.Ytmbfjhhlpnjeoaa.Q
open Go.RowKit Go.Proofs.Ytmbfjhhlpnjeoaa.G Go.Proofs.Ytmbfjhhlpnjeoaa.PL Go.Proofs.YtmbfjhhlpnjeoaaW.PrintWords Go.Proofs.YtmbfjhhlpnjeoaaW.PrintLast
theorem threeText_size (cap most : Int) (s m : List It) (g : List Int) (hs : Fine s) (hm : Fine m) (hg : g.length ≤ 2097152) : (threeText cap most s m g).size ≤ 140737488351232 := by
  have hsl := hs.1
  have hml := hm.1
  unfold threeText
  by_cases c : threeOk cap most s m g = true
  rotate_left
  · rw [if_neg c]; exact Nat.zero_le _
  rw [if_pos c]
  have hz := itemsT_size s (⟨#[115, 109, 97, 108, 108]⟩ : ByteArray)
  have hy := itemsT_size m (⟨#[109, 97, 105, 110]⟩ : ByteArray)
  rw [show (⟨#[115, 109, 97, 108, 108]⟩ : ByteArray).size = 5 from rfl] at hz
  rw [show (⟨#[109, 97, 105, 110]⟩ : ByteArray).size = 4 from rfl] at hy
  cases a : itemsT (⟨#[115, 109, 97, 108, 108]⟩ : ByteArray) s with
  | none => exact Nat.zero_le _
  | some ta =>
    cases b : itemsT (⟨#[109, 97, 105, 110]⟩ : ByteArray) m with
    | none => exact Nat.zero_le _
    | some tb =>
      have za := (hz ta a).2
      have zb := (hy tb b).2
      have zn := numsT_size [cap, most] (⟨#[116, 104, 114, 101, 101]⟩ : ByteArray)
      have zg := numsT_size g (⟨#[103, 104, 111, 115, 116]⟩ : ByteArray)
      rw [show (⟨#[116, 104, 114, 101, 101]⟩ : ByteArray).size = 5 from rfl, show [cap, most].length = 2 from rfl] at zn
      rw [show (⟨#[103, 104, 111, 115, 116]⟩ : ByteArray).size = 5 from rfl] at zg
      simp only [ByteArray.size_append]
      omega
def digest (cap most : Int) (s m : List It) (g : List Int) : Int := if threeText cap most s m g = (⟨#[]⟩ : ByteArray) then 0 else hash (threeText cap most s m g)
theorem spec_Digest_ev (cap most : Int) (s m : List It) (g : List Int) (hs : Fine s) (hm : Fine m) (hg : g.length ≤ 2097152) : Ev (fun k => spec_Digest.f k cap most s m g) (digest cap most s m g) := by
  unfold spec_Digest.f digest
  refine Ev.bind (spec_ThreeText_ev cap most s m g hs hm hg) ?_
  by_cases c : threeText cap most s m g = (⟨#[]⟩ : ByteArray)
  · exact Ev.pos (toList_nil.2 c) (Ev.const (by rw [if_pos c]))
  · refine Ev.neg (fun h => c (toList_nil.1 h)) ?_
    rw [if_neg c]
    exact Ev.bind (spec_Hash_ev _ (threeText_size cap most s m g hs hm hg)) (Ev.const rfl)
theorem impl_Digest_ev (cap most : Int) (s m : List It) (g : List Int) (hs : Fine s) (hm : Fine m) (hg : g.length ≤ 2097152) : Ev (fun k => impl_Digest.f k cap most s m g) (digest cap most s m g) := by
  unfold impl_Digest.f digest
  refine Ev.bind (impl_ThreeText_ev cap most s m g hs hm hg) ?_
  by_cases c : threeText cap most s m g = (⟨#[]⟩ : ByteArray)
  · exact Ev.pos (toList_nil.2 c) (Ev.const (by rw [if_pos c]))
  · refine Ev.neg (fun h => c (toList_nil.1 h)) ?_
    rw [if_neg c]
    exact Ev.bind (impl_Hash_ev _ (threeText_size cap most s m g hs hm hg)) (Ev.const rfl)
end Go.Proofs.Ytmbfjhhlpnjeoaa.Q

namespace Go.Proofs.Ytmbfjhhlpnjeoaa.Fam
open Go.RowKit Go.Proofs.Ytmbfjhhlpnjeoaa.G Go.Proofs.Ytmbfjhhlpnjeoaa.PL Go.Proofs.Ytmbfjhhlpnjeoaa.Ok Go.Proofs.YtmbfjhhlpnjeoaaW.PrintWords Go.Proofs.YtmbfjhhlpnjeoaaW.PrintLast Go.Proofs.YtmbfjhhlpnjeoaaW.PrintMore
set_option linter.unusedVariables false
set_option linter.unusedSimpArgs false
def cvItem (x : S161) : S23 := ⟨x.f0, x.f1, x.f2⟩
instance decItem : DecidableEq S23 := fun a b => decidable_of_iff (a.f0 = b.f0 ∧ a.f1 = b.f1 ∧ a.f2 = b.f2) (by cases a; cases b; simp)
def szmItem (x : S161) : Nat := x.f0.size + x.f1.size
theorem szItem_ev (x0 : ByteArray) (x1 : ByteArray) (x2 : Int) (a : Int) (h0 : 0 ≤ a) (h1 : a ≤ 1048576) (o0 : x0.size ≤ 140737488351232) (o1 : x1.size ≤ 140737488351232) : Ev (fun k => laws_szItem.f x0 x1 x2 a) (left a (x0.size + x1.size)) := by
  unfold laws_szItem.f
  by_cases c0 : ((x0.size : Nat) : Int) ≤ a
  rotate_left
  · rw [w64 (x := a - (x0.size : Int)) (by omega) (by omega)]
    refine Ev.pos (by omega) ?_
    exact Ev.const (congrArg some (left_neg (by omega)).symm)
  rw [w64 (x := a - (x0.size : Int)) (by omega) (by omega)]
  refine Ev.neg (by omega) ?_
  by_cases c1 : ((x1.size : Nat) : Int) ≤ a - (x0.size : Nat)
  rotate_left
  · rw [w64 (x := a - (x0.size : Nat) - (x1.size : Int)) (by omega) (by omega)]
    refine Ev.pos (by omega) ?_
    exact Ev.const (congrArg some (left_neg (by omega)).symm)
  rw [w64 (x := a - (x0.size : Nat) - (x1.size : Int)) (by omega) (by omega)]
  refine Ev.neg (by omega) ?_
  exact Ev.const (by first | rfl | exact congrArg some (by rw [left_pos (by omega)] <;> omega))
theorem toItem_ev (x0 : ByteArray) (x1 : ByteArray) (x2 : Int)  : Ev (fun k => laws_toItem.f x0 x1 x2) (x0, x1, x2) := by
  unfold laws_toItem.f
  exact Ev.const rfl
theorem eqItem_ev (x0 : ByteArray) (x1 : ByteArray) (x2 : Int)  : Ev (fun k => laws_eqItem.f x0 x1 x2 x0 x1 x2) true := by
  unfold laws_eqItem.f
  refine Ev.pos rfl ?_
  refine Ev.pos rfl ?_
  refine Ev.pos rfl ?_
  exact Ev.const rfl
end Go.Proofs.Ytmbfjhhlpnjeoaa.Fam

namespace Go.Proofs.Ytmbfjhhlpnjeoaa.Fam
open Go.RowKit Go.Proofs.Ytmbfjhhlpnjeoaa.G Go.Proofs.Ytmbfjhhlpnjeoaa.PL Go.Proofs.Ytmbfjhhlpnjeoaa.Ok Go.Proofs.YtmbfjhhlpnjeoaaW.PrintWords Go.Proofs.YtmbfjhhlpnjeoaaW.PrintLast Go.Proofs.YtmbfjhhlpnjeoaaW.PrintMore
set_option linter.unusedVariables false
set_option linter.unusedSimpArgs false
def szmItemS (l : List S161) : Nat := l.length + (l.map fun x => (szmItem x)).sum
theorem szItemS_l0 (l : List S161) (ho : okT37 l) : ∀ (d i : Nat) (a : Int), i + d = l.length → 0 ≤ a → a ≤ 1048576 → Ev (fun k => laws_szItemS.l0 k l a i) (left a ((l.drop i).map fun x => (szmItem x)).sum) := by
  have hl := ho.2
  intro d
  induction d with
  | zero =>
    intro i a hi h0 h1
    refine Ev.step (fun _ => rfl) ?_
    simp only [laws_szItemS.l0]
    refine Ev.neg (by omega) ?_
    rw [List.drop_of_length_le (by omega)]
    exact Ev.const (congrArg some (left_zero h0).symm)
  | succ d ih =>
    intro i a hi h0 h1
    have hlt : i < l.length := by omega
    have er : rd_T161 l (i : Int) = l[i] := getD_at hlt _
    have hok := ho.1 _ (List.getElem_mem hlt)
    refine Ev.step (fun _ => rfl) ?_
    simp only [laws_szItemS.l0]
    refine Ev.pos (by omega) ?_
    refine Ev.pos (by omega) ?_
    rw [er, drop_at hlt, List.map_cons, List.sum_cons, wsucc (by omega)]
    have hz : (szmItem l[i]) = (l[i]).f0.size + (l[i]).f1.size := rfl
    refine Ev.bind (szItem_ev (l[i]).f0 (l[i]).f1 (l[i]).f2 a h0 h1 hok.1 hok.2.1) ?_
    rw [← hz]
    by_cases c : (((szmItem l[i]) : Nat) : Int) ≤ a
    · rw [left_pos c]
      refine Ev.neg (by omega) ?_
      refine Ev.to (ih (i + 1) (a - (szmItem l[i])) (by omega) (by omega) (by omega)) ?_
      exact left_add
    · rw [left_neg c]
      refine Ev.pos (by omega) ?_
      exact Ev.const (congrArg some (left_neg_add c).symm)
theorem szItemS_ev (l : List S161) (a : Int) (h0 : 0 ≤ a) (h1 : a ≤ 1048576) (o : okT37 l) : Ev (fun k => laws_szItemS.f k l a) (left a (szmItemS l)) := by
  have ho := o.2
  unfold laws_szItemS.f szmItemS
  rw [w64 (by omega) (by omega)]
  by_cases c : (l.length : Int) ≤ a
  · refine Ev.neg (by omega) ?_
    refine Ev.to (szItemS_l0 l o l.length 0 (a - l.length) (by omega) (by omega) (by omega)) ?_
    rw [List.drop_zero]
    exact left_add
  · refine Ev.pos (by omega) ?_
    exact Ev.const (congrArg some (left_neg_add c).symm)
theorem toItemS_l0 (l : List S161) (ho : okT37 l) : ∀ (d i : Nat) (ys : List S23), i + d = l.length → ys.length = l.length → ys.take i = (l.take i).map cvItem → Ev (fun k => laws_toItemS.l0 k l ys i) (l.map cvItem) := by
  have hl := ho.2
  intro d
  induction d with
  | zero =>
    intro i ys hi hy ht
    refine Ev.step (fun _ => rfl) ?_
    simp only [laws_toItemS.l0]
    refine Ev.neg (by omega) ?_
    rw [List.take_of_length_le (by omega), List.take_of_length_le (by omega)] at ht
    exact Ev.const (congrArg some ht)
  | succ d ih =>
    intro i ys hi hy ht
    have hlt : i < l.length := by omega
    have er : rd_T161 l (i : Int) = l[i] := getD_at hlt _
    have hok := ho.1 _ (List.getElem_mem hlt)
    refine Ev.step (fun _ => rfl) ?_
    simp only [laws_toItemS.l0]
    refine Ev.pos (by omega) ?_
    refine Ev.pos (by omega) ?_
    rw [er, wsucc (by omega)]
    refine Ev.bind (toItem_ev (l[i]).f0 (l[i]).f1 (l[i]).f2 ) ?_
    refine Ev.pos (by omega) ?_
    exact ih (i + 1) _ (by omega) (by simp [hy]) (take_drop_set cvItem l ys hlt hy ht)
theorem toItemS_ev (l : List S161) (o : okT37 l) : Ev (fun k => laws_toItemS.f k l) (l.map cvItem) := by
  have ho := o.2
  unfold laws_toItemS.f
  rw [Int.toNat_natCast]
  refine Ev.pos (by omega) ?_
  refine Ev.pos (by omega) ?_
  refine Ev.to (toItemS_l0 l o l.length 0 _ (by omega) (by simp) (by simp)) ?_
  rfl
theorem eqItemS_l0 (l : List S23) (ho : l.length ≤ 140737488351232) : ∀ (d i : Nat), i + d = l.length → Ev (fun k => laws_eqItemS.l0 k l l i) true := by
  have hl : l.length ≤ 140737488351232 := ho
  intro d
  induction d with
  | zero =>
    intro i hi
    refine Ev.step (fun _ => rfl) ?_
    simp only [laws_eqItemS.l0]
    refine Ev.neg (by omega) ?_
    exact Ev.const rfl
  | succ d ih =>
    intro i hi
    refine Ev.step (fun _ => rfl) ?_
    simp only [laws_eqItemS.l0]
    refine Ev.pos (by omega) ?_
    refine Ev.pos (by omega) ?_
    refine Ev.pos (by omega) ?_
    rw [wsucc (by omega)]
    refine Ev.bind (eqItem_ev _ _ _ ) ?_
    refine Ev.pos rfl ?_
    exact ih (i + 1) (by omega)
theorem eqItemS_ev (l : List S23) (ho : l.length ≤ 140737488351232) : Ev (fun k => laws_eqItemS.f k l l) true := by
  unfold laws_eqItemS.f
  refine Ev.pos rfl ?_
  exact eqItemS_l0 l ho l.length 0 (by omega)
end Go.Proofs.Ytmbfjhhlpnjeoaa.Fam

namespace Go.Proofs.Ytmbfjhhlpnjeoaa.Fam
open Go.RowKit Go.Proofs.Ytmbfjhhlpnjeoaa.G Go.Proofs.Ytmbfjhhlpnjeoaa.PL Go.Proofs.Ytmbfjhhlpnjeoaa.Ok Go.Proofs.YtmbfjhhlpnjeoaaW.PrintWords Go.Proofs.YtmbfjhhlpnjeoaaW.PrintLast Go.Proofs.YtmbfjhhlpnjeoaaW.PrintMore
set_option linter.unusedVariables false
set_option linter.unusedSimpArgs false
def szmIntS (l : List Int) : Nat := l.length
theorem szIntS_ev (l : List Int) (a : Int) (h0 : 0 ≤ a) (h1 : a ≤ 1048576) (o : okT38 l) : Ev (fun k => laws_szIntS.f l a) (left a (szmIntS l)) := by
  have ho := o.2
  unfold laws_szIntS.f szmIntS
  rw [w64 (by omega) (by omega)]
  by_cases c : (l.length : Int) ≤ a
  · refine Ev.neg (by omega) ?_
    exact Ev.const (congrArg some (left_pos c).symm)
  · refine Ev.pos (by omega) ?_
    exact Ev.const (congrArg some (left_neg c).symm)
theorem toIntS_l0 (l : List Int) (ho : okT38 l) : ∀ (d i : Nat) (ys : List Int), i + d = l.length → ys.length = l.length → ys.take i = (l.take i).map id → Ev (fun k => laws_toIntS.l0 k l ys i) (l.map id) := by
  have hl := ho.2
  intro d
  induction d with
  | zero =>
    intro i ys hi hy ht
    refine Ev.step (fun _ => rfl) ?_
    simp only [laws_toIntS.l0]
    refine Ev.neg (by omega) ?_
    rw [List.take_of_length_le (by omega), List.take_of_length_le (by omega)] at ht
    exact Ev.const (congrArg some ht)
  | succ d ih =>
    intro i ys hi hy ht
    have hlt : i < l.length := by omega
    have er : rd l (i : Int) = l[i] := getD_at hlt _
    have hok := ho.1 _ (List.getElem_mem hlt)
    refine Ev.step (fun _ => rfl) ?_
    simp only [laws_toIntS.l0]
    refine Ev.pos (by omega) ?_
    refine Ev.pos (by omega) ?_
    rw [er, wsucc (by omega)]
    refine Ev.pos (by omega) ?_
    exact ih (i + 1) _ (by omega) (by simp [hy]) (take_drop_set id l ys hlt hy ht)
theorem toIntS_ev (l : List Int) (o : okT38 l) : Ev (fun k => laws_toIntS.f k l) l := by
  have ho := o.2
  unfold laws_toIntS.f
  rw [Int.toNat_natCast]
  refine Ev.pos (by omega) ?_
  refine Ev.pos (by omega) ?_
  refine Ev.to (toIntS_l0 l o l.length 0 _ (by omega) (by simp) (by simp)) ?_
  simp
theorem eqIntS_l0 (l : List Int) (ho : l.length ≤ 140737488351232) : ∀ (d i : Nat), i + d = l.length → Ev (fun k => laws_eqIntS.l0 k l l i) true := by
  have hl : l.length ≤ 140737488351232 := ho
  intro d
  induction d with
  | zero =>
    intro i hi
    refine Ev.step (fun _ => rfl) ?_
    simp only [laws_eqIntS.l0]
    refine Ev.neg (by omega) ?_
    exact Ev.const rfl
  | succ d ih =>
    intro i hi
    refine Ev.step (fun _ => rfl) ?_
    simp only [laws_eqIntS.l0]
    refine Ev.pos (by omega) ?_
    refine Ev.pos (by omega) ?_
    refine Ev.pos (by omega) ?_
    rw [wsucc (by omega)]
    first | refine Ev.pos rfl ?_ | refine Ev.pos trivial ?_ | refine Ev.neg (by simp) ?_
    exact ih (i + 1) (by omega)
theorem eqIntS_ev (l : List Int) (ho : l.length ≤ 140737488351232) : Ev (fun k => laws_eqIntS.f k l l) true := by
  unfold laws_eqIntS.f
  refine Ev.pos rfl ?_
  exact eqIntS_l0 l ho l.length 0 (by omega)
end Go.Proofs.Ytmbfjhhlpnjeoaa.Fam

namespace Go.Proofs.Ytmbfjhhlpnjeoaa.Fam
open Go.RowKit Go.Proofs.Ytmbfjhhlpnjeoaa.G Go.Proofs.Ytmbfjhhlpnjeoaa.PL Go.Proofs.Ytmbfjhhlpnjeoaa.Ok Go.Proofs.YtmbfjhhlpnjeoaaW.PrintWords Go.Proofs.YtmbfjhhlpnjeoaaW.PrintLast Go.Proofs.YtmbfjhhlpnjeoaaW.PrintMore
set_option linter.unusedVariables false
set_option linter.unusedSimpArgs false
theorem szThree_ev (x0 : Int) (x1 : Int) (x2 : List S161) (x3 : List S161) (x4 : List Int) (a : Int) (h0 : 0 ≤ a) (h1 : a ≤ 1048576) (o0 : okT37 x2) (o1 : okT37 x3) (o2 : okT38 x4) : Ev (fun k => laws_szThree.f k x0 x1 x2 x3 x4 a) (left a (szmItemS x2 + szmItemS x3 + szmIntS x4)) := by
  unfold laws_szThree.f
  refine Ev.bind (szItemS_ev x2 a (by omega) (by omega) o0) ?_
  by_cases c0 : ((szmItemS x2 : Nat) : Int) ≤ a
  rotate_left
  · rw [left_neg c0]
    refine Ev.pos (by omega) ?_
    exact Ev.const (by first | rfl | exact congrArg some (left_neg (by omega)).symm)
  rw [left_pos c0]
  refine Ev.neg (by omega) ?_
  refine Ev.bind (szItemS_ev x3 (a - (szmItemS x2 : Nat)) (by omega) (by omega) o1) ?_
  by_cases c1 : ((szmItemS x3 : Nat) : Int) ≤ a - (szmItemS x2 : Nat)
  rotate_left
  · rw [left_neg c1]
    refine Ev.pos (by omega) ?_
    exact Ev.const (by first | rfl | exact congrArg some (left_neg (by omega)).symm)
  rw [left_pos c1]
  refine Ev.neg (by omega) ?_
  refine Ev.bind (szIntS_ev x4 ((a - (szmItemS x2 : Nat)) - (szmItemS x3 : Nat)) (by omega) (by omega) o2) ?_
  by_cases c2 : ((szmIntS x4 : Nat) : Int) ≤ (a - (szmItemS x2 : Nat)) - (szmItemS x3 : Nat)
  rotate_left
  · rw [left_neg c2]
    refine Ev.pos (by omega) ?_
    exact Ev.const (by first | rfl | exact congrArg some (left_neg (by omega)).symm)
  rw [left_pos c2]
  refine Ev.neg (by omega) ?_
  exact Ev.const (by first | rfl | exact congrArg some (by rw [left_pos (by omega)] <;> omega))
theorem toThree_ev (x0 : Int) (x1 : Int) (x2 : List S161) (x3 : List S161) (x4 : List Int) (o_x2 : okT37 x2) (o_x3 : okT37 x3) (o_x4 : okT38 x4) : Ev (fun k => laws_toThree.f k x0 x1 x2 x3 x4) (x0, x1, (x2.map cvItem), (x3.map cvItem), x4) := by
  unfold laws_toThree.f
  refine Ev.bind (toItemS_ev x2 o_x2) ?_
  refine Ev.bind (toItemS_ev x3 o_x3) ?_
  refine Ev.bind (toIntS_ev x4 o_x4) ?_
  exact Ev.const rfl
theorem eqThree_ev (x0 : Int) (x1 : Int) (x2 : List S23) (x3 : List S23) (x4 : List Int) (o_x2 : x2.length ≤ 140737488351232) (o_x3 : x3.length ≤ 140737488351232) (o_x4 : x4.length ≤ 140737488351232) : Ev (fun k => laws_eqThree.f k x0 x1 x2 x3 x4 x0 x1 x2 x3 x4) true := by
  unfold laws_eqThree.f
  refine Ev.pos rfl ?_
  refine Ev.pos rfl ?_
  refine Ev.bind (eqItemS_ev x2 o_x2) ?_
  refine Ev.pos rfl ?_
  refine Ev.bind (eqItemS_ev x3 o_x3) ?_
  refine Ev.pos rfl ?_
  refine Ev.bind (eqIntS_ev x4 o_x4) ?_
  refine Ev.pos rfl ?_
  exact Ev.const rfl
end Go.Proofs.Ytmbfjhhlpnjeoaa.Fam

namespace Go.Proofs.Ytmbfjhhlpnjeoaa.Pure
open Go.RowKit Go.Proofs.Ytmbfjhhlpnjeoaa.G Go.Proofs.Ytmbfjhhlpnjeoaa.PL Go.Proofs.Ytmbfjhhlpnjeoaa.Ok Go.Proofs.Ytmbfjhhlpnjeoaa.Fam Go.Proofs.Ytmbfjhhlpnjeoaa.Q Go.Proofs.YtmbfjhhlpnjeoaaW.PrintWords Go.Proofs.YtmbfjhhlpnjeoaaW.PrintLast Go.Proofs.Ytmbfjhhlpnjeoaa.G.fnExactDigest
theorem FnExactDigest : FnExactDigest.Pure := by
  intro x0 ⟨_, _, p0, p1, p2⟩
  apply Ev.rounds
  unfold laws_FnExactDigest.f
  have p0' : okT37 x0.2.2.1 := p0
  have p1' : okT37 x0.2.2.2.1 := p1
  have p2' : okT38 x0.2.2.2.2 := p2
  have q0 := p0'.2
  have q1 := p1'.2
  have q2 := p2'.2
  refine Ev.bind (szThree_ev _ _ _ _ _ 1048576 (by omega) (by omega) p0 p1 p2) ?_
  by_cases c0 : ((szmItemS x0.2.2.1 + szmItemS x0.2.2.2.1 + szmIntS x0.2.2.2.2 : Nat) : Int) ≤ 1048576
  rotate_left
  · rw [left_neg c0]; exact Ev.pos (by omega) (Ev.const rfl)
  rw [left_pos c0]
  have z0 : x0.2.2.1.length ≤ szmItemS x0.2.2.1 := Nat.le_add_right _ _
  have z1 : x0.2.2.2.1.length ≤ szmItemS x0.2.2.2.1 := Nat.le_add_right _ _
  have z2 : x0.2.2.2.2.length ≤ szmIntS x0.2.2.2.2 := Nat.le_refl _
  have f0 : Fine (x0.2.2.1.map cvItem) := by
    refine ⟨by rw [List.length_map]; omega, fun x hx => ?_⟩
    obtain ⟨y, hy, rfl⟩ := List.mem_map.1 hx
    have ho := p0'.1 y hy
    exact ⟨ho.1, ho.2.1⟩
  have f1 : Fine (x0.2.2.2.1.map cvItem) := by
    refine ⟨by rw [List.length_map]; omega, fun x hx => ?_⟩
    obtain ⟨y, hy, rfl⟩ := List.mem_map.1 hx
    have ho := p1'.1 y hy
    exact ⟨ho.1, ho.2.1⟩
  have f2 : x0.2.2.2.2.length ≤ 2097152 := by omega
  refine Ev.neg (by omega) ?_
  refine Ev.bind (toThree_ev _ _ _ _ _ p0 p1 p2) ?_
  refine Ev.bind (spec_Digest_ev _ _ _ _ _ f0 f1 f2) ?_
  refine Ev.bind (toThree_ev _ _ _ _ _ p0 p1 p2) ?_
  refine Ev.bind (impl_Digest_ev _ _ _ _ _ f0 f1 f2) ?_
  refine Ev.pos rfl ?_
  refine Ev.bind (toThree_ev _ _ _ _ _ p0 p1 p2) ?_
  refine Ev.bind (eqThree_ev _ _ _ _ _ (by rw [List.length_map]; omega) (by rw [List.length_map]; omega) (show x0.2.2.2.2.length ≤ 140737488351232 by omega)) ?_
  exact Ev.pos rfl (Ev.const rfl)
end Go.Proofs.Ytmbfjhhlpnjeoaa.Pure

namespace Go.Proofs.Ytmbfjhhlpnjeoaa.fnExactDigest
open Go.ChangeShapes Go.WideShapes Go.ChangeAt Go.RowKit Go.Proofs.Ytmbfjhhlpnjeoaa.Open Go.Proofs.Ytmbfjhhlpnjeoaa.Ok Go.Proofs.Ytmbfjhhlpnjeoaa.G.fnExactDigest Go.Proofs.Ytmbfjhhlpnjeoaa.G Go.Proofs.YtmbfjhhlpnjeoaaW.PrintWords
set_option linter.unusedVariables false
theorem own : ownKnob Try.prog.godebug = none := by kernel_rfl
theorem laidOut : laidOutB Try.prog = true := by kernel_rfl
set_option maxRecDepth 100000 in
set_option maxHeartbeats 2000000 in
theorem lifted (pure : FnExactDigest.Pure) (os : Os) (started : os.Started) (H : Type) (enc : TypeId × Value → H) :
    ReturnsInHanded {} Try.checked os 6 .any (Rows.fnExactDigestSpec.pre6 enc Try.prog Try.f6 Rows.fnExactDigestRow.domain false) (Rows.fnExactDigestSpec.post enc Try.prog Try.f6 false true false false) := by
  refine returnsInHanded_of_change_sized (C := Try.checked) own started (by kernel_rfl) Try.func6
    (ChangeSpec.witness6 (enc := enc) (C := Try.checked) false ⟨#[], #[.agg #[.int .i64 0, .int .i64 0, .slice none 0 0, .slice none 0 0, .slice none 0 0]], []⟩ 8 (by kernel_rfl) (by kernel_rfl) (by kernel_rfl) (by kernel_rfl)) ?_
  intro W base args ds gs before hval0 hW hcnd hsz0 _
  have hsz : (DataW.weightsEach Try.prog (Try.f6.params.toList ++ Rows.fnExactDigestSpec.plain.varTypes Try.prog) (ds ++ gs)).all (· ≤ reachBytes) = true := hsz0
  have hval : ∀ (j : Nat) t v, Try.f6.params[j]? = some t → args[j]? = some v → Value.okWide Try.prog W .any base t v := hval0
  have hW' := hW
  obtain ⟨p, q, hA0, hV, rfl, hfz, hnd⟩ := hW
  have hA : DataW.TrodAll enc Try.prog W 0 (fun _ => true) true Try.f6.params.toList args.toList ds p := hA0
  rw [Try.params6] at hA hval hsz
  obtain ⟨v0, vs0, d0, ds0, p0, q0, hargs, rfl, rfl, h0, r0⟩ := trodAll_cons hA
  obtain ⟨rfl, rfl, rfl⟩ := trodAll_nil r0
  obtain rfl : args = #[v0] := by cases args; simp_all
  obtain ⟨rfl, rfl⟩ := trodVars_none hV
  have k0 := h0
  have lt0 : ∀ x ∈ p0, x.block < W.heap.size := by obtain ⟨m, hm⟩ := k0; exact DataW.trod_lt m _ _ _ hm
  obtain ⟨fuel0, hf0⟩ := h0
  obtain ⟨x0, hK0, ok0⟩ := opn40 H enc W fuel0 _ _ _ hf0 (weights_of hsz (j := 0) (t := 40) rfl rfl)
  obtain ⟨cs0, rfl, _⟩ := okWide_struct Try.underlying40 (hval 0 40 v0 rfl rfl)
  have hK0' : (Kd.pair (Kd.int .i64) (Kd.pair (Kd.int .i64) (Kd.pair (Kd.slice 161 k161) (Kd.pair (Kd.slice 161 k161) (Kd.slice 3 (Kd.int .i64)))))).K W x0 cs0.toList := hK0
  obtain ⟨_, _, hcs0, rfl, ⟨_, _, rfl, rfl, ⟨_, _, rfl, ⟨A0_0, c0_0, rfl, hl0_0, hC0_0⟩, ⟨_, _, rfl, ⟨A0_1, c0_1, rfl, hl0_1, hC0_1⟩, ⟨A0_2, c0_2, rfl, hl0_2, hC0_2⟩⟩⟩⟩⟩ := hK0'
  obtain rfl : cs0 = #[.int .i64 x0.1, .int .i64 x0.2.1, .slice A0_0 x0.2.2.1.length c0_0, .slice A0_1 x0.2.2.2.1.length c0_1, .slice A0_2 x0.2.2.2.2.length c0_2] := by apply Array.toList_inj.1; rw [hcs0]; rfl
  clear hA0 hval0 hsz0 hsz
  obtain ⟨k, hk⟩ := pure x0 ok0
  refine (Go.Proofs.Ytmbfjhhlpnjeoaa.G.laws_FnExactDigest.calls k x0.1 x0.2.1 A0_0 c0_0 x0.2.2.1 A0_1 c0_1 x0.2.2.2.1 A0_2 c0_2 x0.2.2.2.2 true W hC0_0 hl0_0 hC0_1 hl0_1 hC0_2 hl0_2 hk).mono fun e W' ⟨he, bel⟩ => ?_
  subst he
  exact ⟨_, rfl, _, _, _, [], _, [], hW', trodAll_mk1 (shut_bool Try.underlying4 _), (trodAll_cons_mk (Below.trod laidOut (by kernel_rfl) (of_decide_eq_true (by kernel_rfl)) k0 bel lt0) trodAll_mk0), rfl, bel.frame _, fun h => by cases h⟩
theorem over (pure : FnExactDigest.Pure) : Rows.fnExactDigestRow.holds Try.pinned (OpenSpec.ofChange Rows.fnExactDigestSpec) :=
  OpenClaim.holds_of_wide 6 Try.f6 rfl rfl rfl rfl rfl rfl rfl ⟨rfl, rfl, rfl, rfl, rfl⟩ rfl rfl rfl rfl rfl (by kernel_rfl) Try.func6 (by kernel_rfl)
    (of_decide_eq_true (by kernel_rfl)) (by unfold Func.isWrapper; first | (rw [if_pos (by decide +kernel)]; kernel_rfl) | (rw [if_neg (by decide +kernel)]; exact ⟨rfl, rfl⟩))
    (fun os started H enc _ => lifted pure os started H enc)
end Go.Proofs.Ytmbfjhhlpnjeoaa.fnExactDigest
namespace Go.Proofs.Ytmbfjhhlpnjeoaa
/-- The row, for the claim. -/
theorem fnExactDigest_holds : Rows.FnExactDigestSaid := fnExactDigest.over Pure.FnExactDigest
end Go.Proofs.Ytmbfjhhlpnjeoaa
