/- CmdText is the reference's; no conditions beside the sizes that a row reads. Part 4 of the claim FnExactCmdText, merged by pack.py (this session's program) out of: the print's words, cut to what is needed; texts that gen.py printed (it runs the kit's print in place); texts of this session. -/
import Derived.ChangeArms
import Derived.SizedLaws
import Derived.DataReads
import Derived.WalkKit
import Derived.RowKit
import Derived.KernelRfl
import Derived.Test.YtlmpbngndcagbaaRows
import Derived.ProofKit
import Derived.OpenShut
import Derived.ShutString
import Derived.ChangeOld
import Derived.Below
import Derived.Test.YtlmpbngndcagbaaKFnExactCmdText0
import Derived.Test.YtlmpbngndcagbaaKFnExactCmdText1
import Derived.Test.YtlmpbngndcagbaaKFnExactCmdText2
import Derived.Test.YtlmpbngndcagbaaKFnExactCmdText3
namespace Go.Proofs.Ytlmpbngndcagbaa.Open
open Go.RowKit Go.Proofs.YtlmpbngndcagbaaW.PrintWords
/-- Whatever is read at type t is of the kind k, and meets ok. -/
def Opn {α : Type} (P : Program) (t : TypeId) (k : Kd α) (ok : α → Prop) : Prop :=
  ∀ (H : Type) (enc : TypeId × Value → H) (W : World) (fuel : Nat) (cs : List Value) (d : DataW H) (ps : List MemPlace),
    DataW.trod enc P W 0 (fun _ => true) true fuel t cs = some (d, ps) → (∀ n ∈ d.weights P t, n ≤ reachBytes) → ∃ x, k.K W x cs ∧ ok x
theorem Opn.int {P : Program} {t : TypeId} {q : IntKind} (ht : P.underlying t = some (.int q)) : Opn P t (Kd.int q) (fun n => (Lit.int q n).wf = true) := by
  intro H enc W fuel cs d ps h _
  obtain ⟨n, rfl, _, hw⟩ := DataW.trod_int ht h
  exact ⟨n, rfl, hw⟩
theorem Opn.bool {P : Program} {t : TypeId} (ht : P.underlying t = some .bool) : Opn P t Kd.bool (fun _ => True) := by
  intro H enc W fuel cs d ps h _
  obtain ⟨b, rfl, _⟩ := DataW.trod_bool ht h
  exact ⟨b, rfl, trivial⟩
theorem Opn.string {P : Program} {t : TypeId} (ht : P.underlying t = some .string) : Opn P t Kd.string (fun s => s.size ≤ 140737488351232) := by
  intro H enc W fuel cs d ps h hz
  obtain ⟨s, rfl, hx, _⟩ := DataW.trod_string ht h
  refine ⟨s, rfl, ?_⟩
  obtain ⟨rfl, _⟩ := Prod.mk.inj hx
  have := hz s.data.toList.length (by simp [DataW.weights])
  rw [Array.length_toList] at this
  exact this
theorem Opn.mono {α : Type} {P : Program} {t : TypeId} {k : Kd α} {ok ok' : α → Prop} (h : Opn P t k ok) (hok : ∀ x, ok x → ok' x) : Opn P t k ok' := by
  intro H enc W fuel cs d ps hd hz
  obtain ⟨x, hx, ho⟩ := h H enc W fuel cs d ps hd hz
  exact ⟨x, hx, hok x ho⟩
/-- The fields from one on, one behind the other. -/
def OpnFs {α : Type} (P : Program) (fs : List Field) (off : Nat) (k : Kd α) (ok : α → Prop) : Prop :=
  ∀ (H : Type) (enc : TypeId × Value → H) (W : World) (fuel : Nat) (cs : List Value) (xs : List (DataW H × List MemPlace)),
    xs.length = fs.length → (∀ (i : Nat) (f : Field), fs[i]? = some f → DataW.trod enc P W 0 (fun _ => true) true fuel f.type ((cs.drop f.offset).take (P.cellsOf f.type)) = xs[i]?) →
    (∀ n ∈ DataW.weightsEach P (fs.map (·.type)) (xs.map (·.1)), n ≤ reachBytes) → ∃ x, k.K W x ((cs.drop off).take k.sz) ∧ ok x
theorem OpnFs.one {α : Type} {P : Program} {f : Field} {off : Nat} {k : Kd α} {ok : α → Prop} (ho : f.offset = off) (hc : P.cellsOf f.type = k.sz) (h : Opn P f.type k ok) : OpnFs P [f] off k ok := by
  intro H enc W fuel cs xs hl hx hz
  have h0 := hx 0 f rfl
  rw [ho, hc] at h0
  match xs, hl with
  | [x], _ =>
    refine h H enc W fuel _ x.1 x.2 h0 (fun n hn => hz n ?_)
    simp [DataW.weightsEach, hn]
theorem OpnFs.cons {α β : Type} {P : Program} {f : Field} {fs : List Field} {off : Nat} {k : Kd α} {k2 : Kd β} {ok : α → Prop} {ok2 : β → Prop} (ho : f.offset = off) (hc : P.cellsOf f.type = k.sz) (h : Opn P f.type k ok)
    (h2 : OpnFs P fs (off + k.sz) k2 ok2) : OpnFs P (f :: fs) off (Kd.pair k k2) (fun x => ok x.1 ∧ ok2 x.2) := by
  intro H enc W fuel cs xs hl hx hz
  have h0 := hx 0 f rfl
  rw [ho, hc] at h0
  match xs, hl with
  | x :: xs, hl =>
    obtain ⟨a, ha, hoa⟩ := h H enc W fuel _ x.1 x.2 h0 (fun n hn => hz n (by simp [DataW.weightsEach, hn]))
    obtain ⟨b, hb, hob⟩ := h2 H enc W fuel cs xs (by simpa using hl) (fun i g hg => by simpa using hx (i + 1) g (by simpa using hg)) (fun n hn => hz n (by simp only [List.map_cons, DataW.weightsEach, List.mem_append]; exact Or.inr hn))
    refine ⟨(a, b), ⟨_, _, ?_, ha, hb⟩, hoa, hob⟩
    show (cs.drop off).take (k.sz + k2.sz) = _
    rw [List.take_add, List.drop_drop]
theorem Opn.struct {α : Type} {P : Program} {t : TypeId} {fs : Array Field} {k : Kd α} {ok : α → Prop} (ht : P.underlying t = some (.struct fs)) (hc : P.cellsOf t = k.sz) (h : OpnFs P fs.toList 0 k ok) : Opn P t k ok := by
  intro H enc W fuel cs d ps hd hz
  obtain ⟨xs, n, rfl, hx, hl, hxl, hf⟩ := DataW.trod_struct ht hd
  obtain ⟨rfl, _⟩ := Prod.mk.inj hx
  obtain ⟨x, hK, ho⟩ := h H enc W n cs xs (by simpa using hxl) (fun i f hi => hf i f (by simpa using hi)) (fun m hm => hz m (by simp only [DataW.weights, ht]; exact hm))
  refine ⟨x, ?_, ho⟩
  rw [List.drop_zero, List.take_of_length_le (by omega)] at hK
  exact hK
theorem Opn.iso {α β : Type} {P : Program} {t : TypeId} {k : Kd α} {ok : α → Prop} {f : β → α} (g : α → β) (hg : ∀ x, f (g x) = x) (h : Opn P t k ok) : Opn P t (Kd.iso k f) (fun y => ok (f y)) := by
  intro H enc W fuel cs d ps hd hz
  obtain ⟨x, hx, ho⟩ := h H enc W fuel cs d ps hd hz
  exact ⟨g x, by show k.K W (f (g x)) cs; rw [hg]; exact hx, by show ok (f (g x)); rw [hg]; exact ho⟩
theorem weightsAll_mem {H : Type} {P : Program} {e : TypeId} : ∀ {l : List (DataW H)} {d : DataW H}, d ∈ l → ∀ n ∈ d.weights P e, n ∈ DataW.weightsAll P e l
  | a :: l, d, hd, n, hn => by
    simp only [DataW.weightsAll, List.mem_append]
    rcases List.mem_cons.1 hd with rfl | hd
    · exact .inl hn
    · exact .inr (weightsAll_mem hd n hn)
theorem choose_list {α : Type} (p : Nat → α → Prop) : ∀ (n : Nat), (∀ i, i < n → ∃ x, p i x) → ∃ xs : List α, xs.length = n ∧ ∀ i x, xs[i]? = some x → p i x
  | 0, _ => ⟨[], rfl, fun i x h => by simp at h⟩
  | n + 1, h => by
    obtain ⟨xs, hl, hx⟩ := choose_list p n (fun i hi => h i (by omega))
    obtain ⟨y, hy⟩ := h n (by omega)
    refine ⟨xs ++ [y], by simp [hl], fun i x hi => ?_⟩
    rcases Nat.lt_or_ge i n with hin | hin
    · rw [List.getElem?_append_left (by omega)] at hi
      exact hx i x hi
    · rw [List.getElem?_append_right (by omega)] at hi
      have : i - xs.length = 0 := by
        rcases Nat.eq_zero_or_pos (i - xs.length) with h0 | h0
        · exact h0
        · rw [List.getElem?_eq_none (by simp; omega)] at hi
          cases hi
      rw [this] at hi
      simp only [List.getElem?_cons_zero, Option.some.injEq] at hi
      subst hi
      have : i = n := by omega
      subst this
      exact hy
theorem Opn.slice {α : Type} {P : Program} {t e : TypeId} {k : Kd α} {ok : α → Prop} (B : Nat) (ht : P.underlying t = some (.slice e)) (hc : P.cellsOf e = k.sz) (hB : P.bytesOf e = B) (h : Opn P e k ok) :
    Opn P t (Kd.slice e k) (fun xs => (∀ x ∈ xs, ok x) ∧ xs.length * B ≤ 140737488351232) := by
  intro H enc W fuel cs d ps hd hz
  rcases DataW.trod_slice ht hd with ⟨rfl, _⟩ | ⟨a, len, cap, elems, rest, n, rfl, rfl, hx, _, hl, hm, hel, hcell, _, _⟩
  · exact ⟨[], ⟨none, 0, rfl, Nat.le_refl _, Kd.C_nil _ _⟩, by simp, by simp⟩
  · obtain ⟨rfl, _⟩ := Prod.mk.inj hx
    have hz0 := hz (((elems.map (·.1)).length + (rest.map (·.1)).length) * P.bytesOf e) (by simp only [DataW.weights, ht]; exact List.mem_cons_self)
    have hpick : ∀ i, i < len → ∃ x : α, (∃ c, c.length = k.sz ∧ k.K W x c ∧ ∀ j u, c[j]? = some u → W.cell? (a.add (i * k.sz + j)) = some u) ∧ ok x := by
      intro i hi
      have h1 := hcell i hi
      rw [List.getElem?_eq_getElem (by omega)] at h1
      obtain ⟨c, hc1, hc2⟩ := Option.bind_eq_some_iff.1 h1
      obtain ⟨_, hcl, hcc⟩ := World.cells?_some hc1
      obtain ⟨x, hx, ho⟩ := h H enc W n c _ _ hc2 (fun m hm => hz m (by
        simp only [DataW.weights, ht, List.mem_cons, List.mem_append]
        exact .inr (.inl (weightsAll_mem (List.mem_map.2 ⟨_, List.getElem_mem (by omega), rfl⟩) m hm))))
      refine ⟨x, ⟨c, by omega, hx, fun j u hu => ?_⟩, ho⟩
      have hj : j < c.length := by
        rcases Nat.lt_or_ge j c.length with hj | hj
        · exact hj
        · rw [List.getElem?_eq_none hj] at hu; cases hu
      have := hcc j (by omega)
      rw [hu, hc] at this
      rw [← this]
      rw [Addr.add_add]
    obtain ⟨xs, hxl, hxs⟩ := choose_list _ len hpick
    subst hxl
    refine ⟨xs, ⟨some a, cap, rfl, hl, rfl, by unfold maxLen at hm; omega, fun _ => ⟨a, rfl, fun j p hj => (hxs j p hj).1⟩⟩, fun x hx => ?_, ?_⟩
    · obtain ⟨i, hi⟩ := List.getElem?_of_mem hx
      exact (hxs i x hi).2
    · rw [hB] at hz0
      refine Nat.le_trans (Nat.mul_le_mul_right _ ?_) hz0
      simp only [List.length_map]
      omega
theorem weights_of {H : Type} {P : Program} {ts : List TypeId} {ds : List (DataW H)} {j : Nat} {t : TypeId} {d : DataW H} (hsz : (DataW.weightsEach P ts ds).all (· ≤ reachBytes) = true) (ht : ts[j]? = some t) (hd : ds[j]? = some d) :
    ∀ n ∈ d.weights P t, n ≤ reachBytes := fun n hn => by
  have := List.all_eq_true.1 hsz _ (DataW.weights_mem_each ht hd n hn)
  simpa using this
end Go.Proofs.Ytlmpbngndcagbaa.Open

namespace Go.Proofs.Ytlmpbngndcagbaa.Ok
open Go.RowKit Go.Proofs.Ytlmpbngndcagbaa.Open Go.Proofs.Ytlmpbngndcagbaa.G Go.Proofs.YtlmpbngndcagbaaW.PrintWords Go.Proofs.YtlmpbngndcagbaaW.PrintLast
set_option linter.unusedVariables false
theorem wf_int {k : IntKind} {n : Int} (h : (Lit.int k n).wf = true) : k.min ≤ n ∧ n ≤ k.max := by
  simpa [Lit.wf] using h
def okT9 (s : ByteArray) : Prop := s.size ≤ 140737488351232
set_option maxRecDepth 100000 in
theorem opn9 : Opn Try.prog 9 Kd.string okT9 := Opn.string Try.underlying9
def okT3 (n : Int) : Prop := -9223372036854775808 ≤ n ∧ n ≤ 9223372036854775807
set_option maxRecDepth 100000 in
theorem opn3 : Opn Try.prog 3 (Kd.int .i64) okT3 := (Opn.int Try.underlying3).mono (fun n h => by have e := wf_int (k := .i64) h; rw [show IntKind.min .i64 = -9223372036854775808 from by decide, show IntKind.max .i64 = 9223372036854775807 from by decide] at e; exact e)
def okT69 (x : S69) : Prop := okT3 x.f0 ∧ okT9 x.f1 ∧ okT9 x.f2
set_option maxRecDepth 100000 in
theorem opn69 : Opn Try.prog 69 k69 okT69 := (Opn.iso (f := fun x : S69 => (x.f0, x.f1, x.f2)) (fun p => (⟨p.1, p.2.1, p.2.2⟩ : S69)) (fun _ => rfl) (Opn.struct (k := (Kd.pair (Kd.int .i64) (Kd.pair Kd.string Kd.string))) Try.underlying69 (by kernel_rfl) (OpnFs.cons rfl (by kernel_rfl) opn3 (OpnFs.cons rfl (by kernel_rfl) opn9 (OpnFs.one rfl (by kernel_rfl) opn9))))).mono (fun _ h => h)
def okT62 (xs : List ByteArray) : Prop := (∀ x ∈ xs, okT9 x) ∧ xs.length * 16 ≤ 140737488351232
set_option maxRecDepth 100000 in
theorem opn62 : Opn Try.prog 62 (Kd.slice 9 Kd.string) okT62 := Opn.slice 16 Try.underlying62 (by kernel_rfl) (by kernel_rfl) opn9
def okT71 (x : Int × Int × Int × S69 × List ByteArray) : Prop := okT3 x.1 ∧ okT3 x.2.1 ∧ okT3 x.2.2.1 ∧ okT69 x.2.2.2.1 ∧ okT62 x.2.2.2.2
set_option maxRecDepth 100000 in
theorem opn71 : Opn Try.prog 71 (Kd.pair (Kd.int .i64) (Kd.pair (Kd.int .i64) (Kd.pair (Kd.int .i64) (Kd.pair k69 (Kd.slice 9 Kd.string))))) okT71 := (Opn.struct (k := (Kd.pair (Kd.int .i64) (Kd.pair (Kd.int .i64) (Kd.pair (Kd.int .i64) (Kd.pair k69 (Kd.slice 9 Kd.string)))))) Try.underlying71 (by kernel_rfl) (OpnFs.cons rfl (by kernel_rfl) opn3 (OpnFs.cons rfl (by kernel_rfl) opn3 (OpnFs.cons rfl (by kernel_rfl) opn3 (OpnFs.cons rfl (by kernel_rfl) opn69 (OpnFs.one rfl (by kernel_rfl) opn62)))))).mono (fun _ h => h)
end Go.Proofs.Ytlmpbngndcagbaa.Ok

namespace Go.Proofs.Ytlmpbngndcagbaa.G.fnExactCmdText
open Go.RowKit Go.Proofs.Ytlmpbngndcagbaa.Open Go.Proofs.Ytlmpbngndcagbaa.Ok Go.Proofs.Ytlmpbngndcagbaa.G Go.Proofs.YtlmpbngndcagbaaW.PrintWords Go.Proofs.YtlmpbngndcagbaaW.PrintLast
set_option linter.unusedVariables false
def FnExactCmdText.okIn (x0 : Int × Int × Int × S69 × List ByteArray) : Prop := okT71 x0
def FnExactCmdText.Pure : Prop := ∀ (x0 : Int × Int × Int × S69 × List ByteArray), FnExactCmdText.okIn x0 → ∃ k, laws_FnExactCmdText.f k x0.1 x0.2.1 x0.2.2.1 x0.2.2.2.1.f0 x0.2.2.2.1.f1 x0.2.2.2.1.f2 x0.2.2.2.2 = some true
end Go.Proofs.Ytlmpbngndcagbaa.G.fnExactCmdText

namespace Go.Proofs.Ytlmpbngndcagbaa.PL
open Go.RowKit Go.Proofs.YtlmpbngndcagbaaW.PrintWords
theorem Ev.const {α : Type} {x : Option α} {r : α} (h : x = some r) : Ev (fun _ => x) r := ⟨0, fun _ _ => h⟩
theorem Ev.pos {α : Type} {c : Prop} [Decidable c] {f g : Nat → Option α} {r : α} (hc : c) (h : Ev f r) : Ev (fun k => if c then f k else g k) r := by
  obtain ⟨K, h⟩ := h
  exact ⟨K, fun k hk => (if_pos hc).trans (h k hk)⟩
theorem Ev.neg {α : Type} {c : Prop} [Decidable c] {f g : Nat → Option α} {r : α} (hc : ¬ c) (h : Ev g r) : Ev (fun k => if c then f k else g k) r := by
  obtain ⟨K, h⟩ := h
  exact ⟨K, fun k hk => (if_neg hc).trans (h k hk)⟩
theorem Ev.to {α : Type} {f : Nat → Option α} {r s : α} (h : Ev f r) (e : r = s) : Ev f s := e ▸ h
theorem w64 {x : Int} (h0 : -9223372036854775808 ≤ x) (h1 : x ≤ 9223372036854775807) : wrap64 x = x := by
  unfold wrap64
  omega
theorem wsucc {i : Nat} (h : i < 9223372036854775807) : wrap64 ((i : Int) + 1) = ((i + 1 : Nat) : Int) := by
  rw [w64 (by omega) (by omega)]
  omega
theorem getD_at {α : Type} {xs : List α} {i : Nat} (h : i < xs.length) (z : α) : xs.getD ((i : Nat) : Int).toNat z = xs[i] := by
  simp [List.getD_eq_getElem?_getD, h]
theorem drop_at {α : Type} {xs : List α} {i : Nat} (h : i < xs.length) : xs.drop i = xs[i] :: xs.drop (i + 1) := List.drop_eq_getElem_cons h
/-- What is left of a when m are taken off, or -1. -/
def left (a : Int) (m : Nat) : Int := if (m : Int) ≤ a then a - m else -1
theorem left_pos {a : Int} {m : Nat} (h : (m : Int) ≤ a) : left a m = a - m := if_pos h
theorem left_neg {a : Int} {m : Nat} (h : ¬ (m : Int) ≤ a) : left a m = -1 := if_neg h
theorem left_zero {a : Int} (h : 0 ≤ a) : left a 0 = a := by unfold left; rw [if_pos (by omega)]; omega
theorem left_add {a : Int} {m n : Nat} : left (a - m) n = left a (m + n) := by
  unfold left
  by_cases c : (n : Int) ≤ a - m
  · rw [if_pos c, if_pos (by omega)]; omega
  · rw [if_neg c, if_neg (by omega)]
theorem left_neg_add {a : Int} {m n : Nat} (h : ¬ (m : Int) ≤ a) : left a (m + n) = -1 := left_neg (by omega)
theorem take_drop_set {α β : Type} (f : α → β) (xs : List α) (ys : List β) {i : Nat} (hi : i < xs.length) (hl : ys.length = xs.length) (h : ys.take i = (xs.take i).map f) : (ys.set ((i : Nat) : Int).toNat (f xs[i])).take (i + 1) = (xs.take (i + 1)).map f := by
  rw [Int.toNat_natCast, List.take_succ_eq_append_getElem (by simp; omega), List.take_succ_eq_append_getElem hi, List.map_append, ← h]
  simp [List.take_set_of_le]
end Go.Proofs.Ytlmpbngndcagbaa.PL

namespace Go.Proofs.Ytlmpbngndcagbaa.Q
open Go.RowKit Go.Proofs.Ytlmpbngndcagbaa.PL Go.Proofs.YtlmpbngndcagbaaW.PrintWords
def bs (s : ByteArray) : List UInt8 := s.data.toList
theorem bs_length (s : ByteArray) : (bs s).length = s.size := by unfold bs; rw [Array.length_toList]; rfl
theorem bs_inj {a b : ByteArray} (h : bs a = bs b) : a = b := by
  cases a; cases b
  simp [bs] at h
  simp [h]
theorem bs_append (a b : ByteArray) : bs (a ++ b) = bs a ++ bs b := by simp [bs]
theorem append_empty (a : ByteArray) : a ++ (⟨#[]⟩ : ByteArray) = a := bs_inj (by rw [bs_append]; exact List.append_nil _)
theorem empty_append (a : ByteArray) : (⟨#[]⟩ : ByteArray) ++ a = a := bs_inj (by rw [bs_append]; exact List.nil_append _)
theorem bs_toList (a : ByteArray) : a.toList = bs a := ByteArray.toList_eq a
theorem toList_nil {a : ByteArray} : a.toList = [] ↔ a = ⟨#[]⟩ := by
  rw [bs_toList]
  exact ⟨fun h => bs_inj (by rw [h]; rfl), fun h => by rw [h]; rfl⟩
theorem bt_eq (s : ByteArray) (i : Nat) (h : i < s.size) : bt s (i : Int) = (((bs s)[i]'(by rw [bs_length]; exact h)).toNat : Int) := by
  unfold bt bs
  simp only [Int.toNat_natCast, h, dif_pos]
  rfl
theorem drop_bs (s : ByteArray) (i : Nat) (h : i < s.size) : (bs s).drop i = (bs s)[i]'(by rw [bs_length]; exact h) :: (bs s).drop (i + 1) := List.drop_eq_getElem_cons (by rw [bs_length]; exact h)
theorem u8_eq {a : UInt8} {n : Nat} (hn : n < 256) : ((a.toNat : Int) = (n : Int)) ↔ a = UInt8.ofNat n := by
  constructor
  · intro h
    apply UInt8.toNat.inj
    rw [UInt8.toNat_ofNat']
    omega
  · intro h
    rw [h, UInt8.toNat_ofNat']
    omega
end Go.Proofs.Ytlmpbngndcagbaa.Q

namespace Go.Proofs.Ytlmpbngndcagbaa.Q
open Go.RowKit Go.Proofs.Ytlmpbngndcagbaa.G Go.Proofs.Ytlmpbngndcagbaa.PL Go.Proofs.YtlmpbngndcagbaaW.PrintWords
def clean (s : ByteArray) : Bool := (bs s).all fun b => b != 32 && b != 10
theorem spec_l10Clean_l0 (s : ByteArray) (hs : s.size ≤ 140737488351232) : ∀ (d i : Nat), i + d = s.size → Ev (fun k => spec_l10Clean.l0 k s i) (((bs s).drop i).all fun b => b != 32 && b != 10) := by
  intro d
  induction d with
  | zero =>
    intro i hi
    refine Ev.step (fun _ => rfl) ?_
    simp only [spec_l10Clean.l0]
    refine Ev.neg (by omega) ?_
    rw [List.drop_of_length_le (by rw [bs_length]; omega)]
    exact Ev.const rfl
  | succ d ih =>
    intro i hi
    have hlt : i < s.size := by omega
    refine Ev.step (fun _ => rfl) ?_
    simp only [spec_l10Clean.l0]
    rw [bt_eq s i hlt, drop_bs s i hlt, List.all_cons, wsucc (by omega)]
    refine Ev.pos (by omega) ?_
    refine Ev.pos (by omega) ?_
    generalize (bs s)[i]'_ = b
    by_cases c : (b.toNat : Int) = 32
    · refine Ev.pos c ?_
      have : b = 32 := (u8_eq (n := 32) (by omega)).1 c
      exact Ev.const (by simp [this])
    · refine Ev.neg c ?_
      have h1 : ¬ b = 32 := fun h => c ((u8_eq (n := 32) (by omega)).2 h)
      by_cases c2 : (b.toNat : Int) = 10
      · refine Ev.pos c2 ?_
        have : b = 10 := (u8_eq (n := 10) (by omega)).1 c2
        exact Ev.const (by simp [this])
      · refine Ev.neg c2 ?_
        have h2 : ¬ b = 10 := fun h => c2 ((u8_eq (n := 10) (by omega)).2 h)
        refine Ev.to (ih (i + 1) (by omega)) ?_
        simp [h1, h2]
theorem spec_l10Clean_ev (s : ByteArray) (hs : s.size ≤ 140737488351232) : Ev (fun k => spec_l10Clean.f k s) (clean s) := by
  unfold spec_l10Clean.f
  exact spec_l10Clean_l0 s hs s.size 0 (by omega)
theorem impl_isPlain_l0 (s : ByteArray) (hs : s.size ≤ 140737488351232) : ∀ (d i : Nat), i + d = s.size → Ev (fun k => impl_isPlain.l0 k s i) (((bs s).drop i).all fun b => b != 32 && b != 10) := by
  intro d
  induction d with
  | zero =>
    intro i hi
    refine Ev.step (fun _ => rfl) ?_
    simp only [impl_isPlain.l0]
    refine Ev.neg (by omega) ?_
    rw [List.drop_of_length_le (by rw [bs_length]; omega)]
    exact Ev.const rfl
  | succ d ih =>
    intro i hi
    have hlt : i < s.size := by omega
    refine Ev.step (fun _ => rfl) ?_
    simp only [impl_isPlain.l0]
    rw [bt_eq s i hlt, drop_bs s i hlt, List.all_cons, wsucc (by omega)]
    refine Ev.pos (by omega) ?_
    refine Ev.pos (by omega) ?_
    generalize (bs s)[i]'_ = b
    by_cases c : (b.toNat : Int) = 32
    · refine Ev.pos c ?_
      have : b = 32 := (u8_eq (n := 32) (by omega)).1 c
      exact Ev.const (by simp [this])
    · refine Ev.neg c ?_
      have h1 : ¬ b = 32 := fun h => c ((u8_eq (n := 32) (by omega)).2 h)
      by_cases c2 : (b.toNat : Int) = 10
      · refine Ev.pos c2 ?_
        have : b = 10 := (u8_eq (n := 10) (by omega)).1 c2
        exact Ev.const (by simp [this])
      · refine Ev.neg c2 ?_
        have h2 : ¬ b = 10 := fun h => c2 ((u8_eq (n := 10) (by omega)).2 h)
        refine Ev.to (ih (i + 1) (by omega)) ?_
        simp [h1, h2]
theorem impl_isPlain_ev (s : ByteArray) (hs : s.size ≤ 140737488351232) : Ev (fun k => impl_isPlain.f k s) (clean s) := by
  unfold impl_isPlain.f
  exact impl_isPlain_l0 s hs s.size 0 (by omega)
end Go.Proofs.Ytlmpbngndcagbaa.Q

namespace Go.Proofs.Ytlmpbngndcagbaa.Q
open Go.RowKit Go.Proofs.Ytlmpbngndcagbaa.G Go.Proofs.Ytlmpbngndcagbaa.PL Go.Proofs.YtlmpbngndcagbaaW.PrintWords
def itemOk (key val : ByteArray) (freq : Int) : Bool := decide (1 ≤ key.size) && decide (key.size ≤ 20) && clean key && decide (val.size ≤ 40) && clean val && decide (0 ≤ freq) && decide (freq ≤ 3)
theorem impl_within_eq (x lo hi : Int) : impl_within.f x lo hi = some (decide (lo ≤ x) && decide (x ≤ hi)) := by
  unfold impl_within.f
  by_cases h : x ≥ lo
  · rw [if_pos h]; simp [h]
  · rw [if_neg h]
    have : ¬ lo ≤ x := h
    simp [this]
theorem spec_l01In_eq (x lo hi : Int) : spec_l01In.f x lo hi = some (decide (lo ≤ x) && decide (x ≤ hi)) := by
  unfold spec_l01In.f
  by_cases h : x ≥ lo
  · rw [if_pos h]; simp [h]
  · rw [if_neg h]
    have : ¬ lo ≤ x := h
    simp [this]
theorem spec_ItemOk_ev (key val : ByteArray) (freq : Int) (h0 : key.size ≤ 140737488351232) (h1 : val.size ≤ 140737488351232) : Ev (fun k => spec_ItemOk.f k key val freq) (itemOk key val freq) := by
  unfold spec_ItemOk.f itemOk
  by_cases a : 1 ≤ key.size
  rotate_left
  · exact Ev.neg (by omega) (Ev.const (by simp [a]))
  refine Ev.pos (by omega) ?_
  by_cases b : key.size ≤ 20
  rotate_left
  · exact Ev.neg (by omega) (Ev.const (by simp [b]))
  refine Ev.pos (by omega) ?_
  refine Ev.bind (spec_l10Clean_ev key h0) ?_
  cases c : clean key
  · exact Ev.neg (by simp) (Ev.const (by simp))
  refine Ev.pos rfl ?_
  by_cases d : val.size ≤ 40
  rotate_left
  · exact Ev.neg (by omega) (Ev.const (by simp [d]))
  refine Ev.pos (by omega) ?_
  refine Ev.bind (spec_l10Clean_ev val h1) ?_
  cases e : clean val
  · exact Ev.neg (by simp) (Ev.const (by simp))
  refine Ev.pos rfl ?_
  refine Ev.bind (Ev.const (spec_l01In_eq _ _ _)) ?_
  exact Ev.const (by simp [a, b, d])
theorem impl_ItemOk_ev (key val : ByteArray) (freq : Int) (h0 : key.size ≤ 140737488351232) (h1 : val.size ≤ 140737488351232) : Ev (fun k => impl_ItemOk.f k key val freq) (itemOk key val freq) := by
  unfold impl_ItemOk.f itemOk
  refine Ev.bind (Ev.const (impl_within_eq _ _ _)) ?_
  by_cases a : 1 ≤ key.size
  rotate_left
  · exact Ev.neg (by simp; omega) (Ev.const (by simp [a]))
  by_cases b : key.size ≤ 20
  rotate_left
  · exact Ev.neg (by simp; omega) (Ev.const (by simp [b]))
  refine Ev.pos (by simp; omega) ?_
  by_cases d : val.size ≤ 40
  rotate_left
  · exact Ev.neg (by omega) (Ev.const (by simp [d]))
  refine Ev.pos (by omega) ?_
  refine Ev.bind (impl_isPlain_ev key h0) ?_
  cases c : clean key
  · exact Ev.neg (by simp) (Ev.const (by simp))
  refine Ev.pos rfl ?_
  refine Ev.bind (impl_isPlain_ev val h1) ?_
  cases e : clean val
  · exact Ev.neg (by simp) (Ev.const (by simp))
  refine Ev.pos rfl ?_
  refine Ev.bind (Ev.const (impl_within_eq _ _ _)) ?_
  exact Ev.const (by simp [a, b, d])
end Go.Proofs.Ytlmpbngndcagbaa.Q

namespace Go.Proofs.Ytlmpbngndcagbaa.Q
open Go.RowKit Go.Proofs.Ytlmpbngndcagbaa.G Go.Proofs.Ytlmpbngndcagbaa.PL Go.Proofs.YtlmpbngndcagbaaW.PrintWords
def dg (n : Nat) : ByteArray := strOfNums [(48 + (n : Int))]
def dec (n : Nat) : ByteArray := if n < 10 then dg n else dec (n / 10) ++ dg (n % 10)
termination_by n
decreasing_by omega
theorem strOfNums_size1 (x : Int) : (strOfNums [x]).size = 1 := by simp [strOfNums, ByteArray.size]
theorem dg_size (n : Nat) : (dg n).size = 1 := strOfNums_size1 _
theorem dec_small {n : Nat} (h : n < 10) : dec n = dg n := by rw [dec, if_pos h]
theorem dec_big {n : Nat} (h : ¬ n < 10) : dec n = dec (n / 10) ++ dg (n % 10) := by rw [dec, if_neg h]
theorem dec_size : ∀ (m n : Nat), n < 10 ^ (m + 1) → 1 ≤ (dec n).size ∧ (dec n).size ≤ m + 1
  | 0, n, h => by rw [dec_small (by simpa using h), dg_size]; omega
  | m + 1, n, h => by
    by_cases c : n < 10
    · rw [dec_small c, dg_size]; omega
    · rw [dec_big c, ByteArray.size_append, dg_size]
      have := dec_size m (n / 10) (by rw [Nat.pow_succ] at h; omega)
      omega
theorem dec_size10 {n : Nat} (h : n ≤ 4294967295) : 1 ≤ (dec n).size ∧ (dec n).size ≤ 10 := dec_size 9 n (by omega)
theorem dig_w {n : Nat} (h : n < 10) : wrap64 (48 + (n : Int)) % 256 = 48 + (n : Int) := by rw [w64 (by omega) (by omega)]; omega
theorem tdiv10 (n : Nat) : Int.tdiv (n : Int) 10 = ((n / 10 : Nat) : Int) := by
  rw [Int.tdiv_eq_ediv_of_nonneg (by omega)]; omega
theorem tmod10 (n : Nat) : Int.tmod (n : Int) 10 = ((n % 10 : Nat) : Int) := by
  rw [Int.tmod_eq_emod_of_nonneg (by omega)]; omega
def isNum (a : Int) : Bool := decide (0 ≤ a) && decide (a ≤ 4294967295)
def numText (a : Int) : ByteArray := if isNum a = true then dec a.toNat else ⟨#[]⟩
theorem spec_l01Num_eq (a : Int) : spec_l01Num.f a = some (isNum a) := by
  unfold spec_l01Num.f isNum
  by_cases h : a ≥ 0
  · rw [if_pos h]; simp [h]
  · rw [if_neg h]
    have : ¬ 0 ≤ a := h
    simp [this]
theorem impl_isNum_eq (a : Int) : impl_isNum.f a = some (isNum a) := by
  unfold impl_isNum.f isNum
  rw [impl_within_eq]
  rfl
theorem spec_NumText_nat : ∀ (m n : Nat), n < 10 ^ (m + 1) → n ≤ 4294967295 → Ev (fun k => spec_NumText.f k (n : Int)) (dec n) := by
  intro m
  induction m with
  | zero =>
    intro n h hb
    refine Ev.step (fun _ => rfl) ?_
    simp only [spec_NumText.f]
    refine Ev.bind (Ev.const (spec_l01Num_eq _)) ?_
    refine Ev.pos (by simp [isNum]; omega) ?_
    refine Ev.pos (by simp at h; omega) ?_
    rw [dig_w (by simpa using h), dec_small (by simpa using h)]
    exact Ev.const rfl
  | succ m ih =>
    intro n h hb
    refine Ev.step (fun _ => rfl) ?_
    simp only [spec_NumText.f]
    refine Ev.bind (Ev.const (spec_l01Num_eq _)) ?_
    refine Ev.pos (by simp [isNum]; omega) ?_
    by_cases c : n < 10
    · refine Ev.pos (by omega) ?_
      rw [dig_w c, dec_small c]
      exact Ev.const rfl
    · refine Ev.neg (by omega) ?_
      rw [tdiv10, tmod10, dig_w (by omega), w64 (x := ((n / 10 : Nat) : Int)) (by omega) (by omega), dec_big c]
      have hz := dec_size10 (n := n / 10) (by omega)
      have hd := dg_size (n % 10)
      refine Ev.bind (ih (n / 10) (by rw [Nat.pow_succ] at h; omega) (by omega)) ?_
      refine Ev.bind (Ev.const rfl) ?_
      refine Ev.pos ?_ (Ev.const rfl)
      have : (strOfNums [48 + ((n % 10 : Nat) : Int)]).size = 1 := strOfNums_size1 _
      omega
theorem spec_NumText_ev (a : Int) : Ev (fun k => spec_NumText.f k a) (numText a) := by
  unfold numText
  cases c : isNum a
  · refine Ev.step (fun _ => rfl) ?_
    simp only [spec_NumText.f]
    refine Ev.bind (Ev.const (spec_l01Num_eq _)) ?_
    exact Ev.neg (by simp [c]) (Ev.const (by simp))
  · have h : 0 ≤ a ∧ a ≤ 4294967295 := by simpa [isNum] using c
    obtain ⟨n, rfl⟩ := Int.eq_ofNat_of_zero_le h.1
    exact spec_NumText_nat 9 n (by omega) (by omega)
theorem impl_NumText_nat : ∀ (m n : Nat) (y : ByteArray), n < 10 ^ (m + 1) → n ≤ 4294967295 → y.size + m ≤ 1000 → Ev (fun k => impl_NumText.l0 k (n : Int) y) (dec n ++ y) := by
  intro m
  induction m with
  | zero =>
    intro n y h hb hy
    have hz : (strOfNums [48 + (n : Int)]).size = 1 := strOfNums_size1 _
    refine Ev.step (fun _ => rfl) ?_
    simp only [impl_NumText.l0]
    refine Ev.neg (by simp at h; omega) ?_
    rw [dig_w (by simpa using h), dec_small (by simpa using h)]
    refine Ev.bind (Ev.const rfl) ?_
    exact Ev.pos (by omega) (Ev.const rfl)
  | succ m ih =>
    intro n y h hb hy
    refine Ev.step (fun _ => rfl) ?_
    simp only [impl_NumText.l0]
    by_cases c : n < 10
    · have hz : (strOfNums [48 + (n : Int)]).size = 1 := strOfNums_size1 _
      refine Ev.neg (by omega) ?_
      rw [dig_w c, dec_small c]
      refine Ev.bind (Ev.const rfl) ?_
      exact Ev.pos (by omega) (Ev.const rfl)
    · refine Ev.pos (by omega) ?_
      rw [tdiv10, tmod10, dig_w (by omega), w64 (x := ((n / 10 : Nat) : Int)) (by omega) (by omega), dec_big c]
      have hz : (strOfNums [48 + ((n % 10 : Nat) : Int)]).size = 1 := strOfNums_size1 _
      refine Ev.bind (Ev.const rfl) ?_
      refine Ev.pos (by omega) ?_
      refine Ev.to (ih (n / 10) _ (by rw [Nat.pow_succ] at h; omega) (by omega) (by rw [ByteArray.size_append, hz]; omega)) ?_
      rw [ByteArray.append_assoc]; rfl
theorem impl_NumText_ev (a : Int) : Ev (fun k => impl_NumText.f k a) (numText a) := by
  unfold impl_NumText.f numText
  refine Ev.bind (Ev.const (impl_isNum_eq a)) ?_
  cases c : isNum a
  · exact Ev.neg (by simp) (Ev.const (by simp))
  · have h : 0 ≤ a ∧ a ≤ 4294967295 := by simpa [isNum] using c
    obtain ⟨n, rfl⟩ := Int.eq_ofNat_of_zero_le h.1
    refine Ev.pos rfl ?_
    refine Ev.to (impl_NumText_nat 9 n ⟨#[]⟩ (by omega) (by omega) (by rw [show (⟨#[]⟩ : ByteArray).size = 0 from rfl]; omega)) ?_
    rw [append_empty, if_pos rfl, Int.toNat_natCast]
theorem numText_size (a : Int) : (numText a).size ≤ 10 := by
  unfold numText
  cases c : isNum a
  · exact Nat.zero_le _
  · have h : 0 ≤ a ∧ a ≤ 4294967295 := by simpa [isNum] using c
    exact (dec_size10 (by omega)).2
theorem numText_nil (a : Int) : numText a = ⟨#[]⟩ ↔ isNum a = false := by
  unfold numText
  cases c : isNum a
  · simp
  · have h : 0 ≤ a ∧ a ≤ 4294967295 := by simpa [isNum] using c
    rw [if_pos rfl]
    constructor
    · intro e
      have := (dec_size10 (n := a.toNat) (by omega)).1
      rw [e] at this
      exact absurd this (by decide)
    · intro e; cases e
end Go.Proofs.Ytlmpbngndcagbaa.Q

namespace Go.Proofs.Ytlmpbngndcagbaa.Q
open Go.RowKit Go.Proofs.Ytlmpbngndcagbaa.G Go.Proofs.Ytlmpbngndcagbaa.PL Go.Proofs.YtlmpbngndcagbaaW.PrintWords
def asksOk (l : List ByteArray) : Bool := (l.all fun s => itemOk s ⟨#[]⟩ 0) && decide (l.length ≤ 300)
theorem spec_AsksOk_l0 (l : List ByteArray) (hl : l.length ≤ 140737488351232) (ho : ∀ s ∈ l, s.size ≤ 140737488351232) : ∀ (d i : Nat), i + d = l.length →
    Ev (fun k => spec_AsksOk.l0 k l l (l.length : Int) i) (((l.drop i).all fun s => itemOk s ⟨#[]⟩ 0) && decide (l.length ≤ 300)) := by
  intro d
  induction d with
  | zero =>
    intro i hi
    refine Ev.step (fun _ => rfl) ?_
    simp only [spec_AsksOk.l0]
    refine Ev.neg (by omega) ?_
    rw [List.drop_of_length_le (by omega)]
    exact Ev.const (by simp; omega)
  | succ d ih =>
    intro i hi
    have hlt : i < l.length := by omega
    have er : rdOf ByteArray.empty l (i : Int) = l[i] := getD_at hlt _
    refine Ev.step (fun _ => rfl) ?_
    simp only [spec_AsksOk.l0]
    rw [er, drop_at hlt, wsucc (by omega), List.all_cons]
    refine Ev.pos (by omega) (Ev.pos (by omega) (Ev.pos (by omega) ?_))
    refine Ev.bind (spec_ItemOk_ev _ _ _ (ho _ (List.getElem_mem hlt)) (by decide)) ?_
    cases c : itemOk l[i] ⟨#[]⟩ 0
    · exact Ev.neg (by simp) (Ev.const (by simp))
    · refine Ev.pos rfl ?_
      rw [Bool.true_and]
      exact ih (i + 1) (by omega)
theorem spec_AsksOk_ev (l : List ByteArray) (hl : l.length ≤ 140737488351232) (ho : ∀ s ∈ l, s.size ≤ 140737488351232) : Ev (fun k => spec_AsksOk.f k l) (asksOk l) := by
  unfold spec_AsksOk.f
  exact spec_AsksOk_l0 l hl ho l.length 0 (by omega)
theorem impl_AsksOk_l0 (l : List ByteArray) (hl : l.length ≤ 140737488351232) (ho : ∀ s ∈ l, s.size ≤ 140737488351232) : ∀ (d i : Nat), i + d = l.length →
    Ev (fun k => impl_AsksOk.l0 k l l (l.length : Int) i) (((l.drop i).all fun s => itemOk s ⟨#[]⟩ 0) && decide (l.length ≤ 300)) := by
  intro d
  induction d with
  | zero =>
    intro i hi
    refine Ev.step (fun _ => rfl) ?_
    simp only [impl_AsksOk.l0]
    refine Ev.neg (by omega) ?_
    rw [List.drop_of_length_le (by omega)]
    exact Ev.const (by simp; omega)
  | succ d ih =>
    intro i hi
    have hlt : i < l.length := by omega
    have er : rdOf ByteArray.empty l (i : Int) = l[i] := getD_at hlt _
    refine Ev.step (fun _ => rfl) ?_
    simp only [impl_AsksOk.l0]
    rw [er, drop_at hlt, wsucc (by omega), List.all_cons]
    refine Ev.pos (by omega) (Ev.pos (by omega) (Ev.pos (by omega) ?_))
    refine Ev.bind (impl_ItemOk_ev _ _ _ (ho _ (List.getElem_mem hlt)) (by decide)) ?_
    cases c : itemOk l[i] ⟨#[]⟩ 0
    · exact Ev.neg (by simp) (Ev.const (by simp))
    · refine Ev.pos rfl ?_
      rw [Bool.true_and]
      exact ih (i + 1) (by omega)
theorem impl_AsksOk_ev (l : List ByteArray) (hl : l.length ≤ 140737488351232) (ho : ∀ s ∈ l, s.size ≤ 140737488351232) : Ev (fun k => impl_AsksOk.f k l) (asksOk l) := by
  unfold impl_AsksOk.f
  exact impl_AsksOk_l0 l hl ho l.length 0 (by omega)
theorem asksOk_mem {l : List ByteArray} (h : asksOk l = true) : (∀ s ∈ l, 1 ≤ s.size ∧ s.size ≤ 20) ∧ l.length ≤ 300 := by
  unfold asksOk at h
  rw [Bool.and_eq_true, List.all_eq_true] at h
  refine ⟨fun s hs => ?_, by simpa using h.2⟩
  have := h.1 s hs
  unfold itemOk at this
  simp only [Bool.and_eq_true, decide_eq_true_eq] at this
  omega
/-- Words with blanks between. -/
def glueOn (acc : ByteArray) (l : List ByteArray) : ByteArray := l.foldl (fun a t => (a ++ (⟨#[32]⟩ : ByteArray)) ++ t) acc
def glue : List ByteArray → ByteArray
  | [] => ⟨#[]⟩
  | x :: r => glueOn x r
def tsum (l : List ByteArray) : Nat := (l.map ByteArray.size).sum
theorem glueOn_size (l : List ByteArray) : ∀ acc : ByteArray, (glueOn acc l).size = acc.size + l.length + tsum l := by
  induction l with
  | nil => intro acc; simp [glueOn, tsum]
  | cons x r ih =>
    intro acc
    have := ih ((acc ++ (⟨#[32]⟩ : ByteArray)) ++ x)
    unfold glueOn at this ⊢
    rw [List.foldl_cons, this, ByteArray.size_append, ByteArray.size_append, show (⟨#[32]⟩ : ByteArray).size = 1 from rfl]
    simp only [tsum, List.map_cons, List.sum_cons, List.length_cons]
    omega
theorem impl_glued_l0 (l : List ByteArray) (hl : l.length ≤ 140737488351232) : ∀ (d i : Nat) (acc : ByteArray), 1 ≤ i → i + d = l.length → acc.size + (l.drop i).length + tsum (l.drop i) ≤ 4611686018427387904 →
    Ev (fun k => impl_glued.l0 k acc l (l.length : Int) i) (glueOn acc (l.drop i)) := by
  intro d
  induction d with
  | zero =>
    intro i acc h1 hi hs
    refine Ev.step (fun _ => rfl) ?_
    simp only [impl_glued.l0]
    refine Ev.neg (by omega) ?_
    rw [List.drop_of_length_le (by omega)]
    exact Ev.const rfl
  | succ d ih =>
    intro i acc h1 hi hs
    have hlt : i < l.length := by omega
    have er : rdOf ByteArray.empty l (i : Int) = l[i] := getD_at hlt _
    refine Ev.step (fun _ => rfl) ?_
    simp only [impl_glued.l0]
    rw [drop_at hlt] at hs
    simp only [tsum, List.map_cons, List.sum_cons, List.length_cons] at hs
    rw [er, drop_at hlt, wsucc (by omega)]
    refine Ev.pos (by omega) (Ev.pos (by omega) (Ev.pos (by omega) (Ev.pos (by omega) (Ev.pos (by omega) (Ev.pos (by omega) ?_)))))
    refine ih (i + 1) _ (by omega) (by omega) ?_
    rw [ByteArray.size_append, ByteArray.size_append, show (⟨#[32]⟩ : ByteArray).size = 1 from rfl]
    simp only [tsum]
    omega
theorem impl_glued_all (l : List ByteArray) (hl : l.length ≤ 140737488351232) (hs : l.length + tsum l ≤ 4611686018427387904) : Ev (fun k => impl_glued.l0 k (⟨#[]⟩ : ByteArray) l (l.length : Int) 0) (glue l) := by
  refine Ev.step (fun _ => rfl) ?_
  simp only [impl_glued.l0]
  cases l with
  | nil => exact Ev.neg (by simp) (Ev.const rfl)
  | cons x r =>
    have er : rdOf ByteArray.empty (x :: r) 0 = x := rfl
    simp only [tsum, List.map_cons, List.sum_cons, List.length_cons] at hs
    have hz : (⟨#[]⟩ : ByteArray).size = 0 := rfl
    rw [er]
    refine Ev.pos (by simp <;> omega) (Ev.pos (by omega) (Ev.pos (by simp <;> omega) (Ev.neg (by omega) (Ev.pos (by omega) ?_))))
    have e0 : (⟨#[]⟩ : ByteArray) ++ x = x := empty_append x
    rw [e0, w64 (x := 0 + 1) (by omega) (by omega)]
    refine Ev.to (impl_glued_l0 (x :: r) hl r.length 1 x (by omega) (by simp; omega) ?_) ?_
    · simp only [List.drop_succ_cons, List.drop_zero, tsum]; omega
    · simp [glue]
theorem spec_AsksText_l0 (l : List ByteArray) (hl : l.length ≤ 140737488351232) : ∀ (d i : Nat) (acc : ByteArray), 1 ≤ i → i + d = l.length → acc.size + (l.drop i).length + tsum (l.drop i) ≤ 4611686018427387904 →
    Ev (fun k => spec_AsksText.l0 k acc l (l.length : Int) i) (glueOn acc (l.drop i)) := by
  intro d
  induction d with
  | zero =>
    intro i acc h1 hi hs
    refine Ev.step (fun _ => rfl) ?_
    simp only [spec_AsksText.l0]
    refine Ev.neg (by omega) ?_
    rw [List.drop_of_length_le (by omega)]
    exact Ev.const rfl
  | succ d ih =>
    intro i acc h1 hi hs
    have hlt : i < l.length := by omega
    have er : rdOf ByteArray.empty l (i : Int) = l[i] := getD_at hlt _
    refine Ev.step (fun _ => rfl) ?_
    simp only [spec_AsksText.l0]
    rw [drop_at hlt] at hs
    simp only [tsum, List.map_cons, List.sum_cons, List.length_cons] at hs
    rw [er, drop_at hlt, wsucc (by omega)]
    refine Ev.pos (by omega) (Ev.pos (by omega) (Ev.pos (by omega) (Ev.pos (by omega) (Ev.pos (by omega) (Ev.pos (by omega) ?_)))))
    refine ih (i + 1) _ (by omega) (by omega) ?_
    rw [ByteArray.size_append, ByteArray.size_append, show (⟨#[32]⟩ : ByteArray).size = 1 from rfl]
    simp only [tsum]
    omega
theorem spec_AsksText_all (l : List ByteArray) (hl : l.length ≤ 140737488351232) (hs : l.length + tsum l ≤ 4611686018427387904) : Ev (fun k => spec_AsksText.l0 k (⟨#[]⟩ : ByteArray) l (l.length : Int) 0) (glue l) := by
  refine Ev.step (fun _ => rfl) ?_
  simp only [spec_AsksText.l0]
  cases l with
  | nil => exact Ev.neg (by simp) (Ev.const rfl)
  | cons x r =>
    have er : rdOf ByteArray.empty (x :: r) 0 = x := rfl
    simp only [tsum, List.map_cons, List.sum_cons, List.length_cons] at hs
    have hz : (⟨#[]⟩ : ByteArray).size = 0 := rfl
    rw [er]
    refine Ev.pos (by simp <;> omega) (Ev.pos (by omega) (Ev.pos (by simp <;> omega) (Ev.neg (by omega) (Ev.pos (by omega) ?_))))
    have e0 : (⟨#[]⟩ : ByteArray) ++ x = x := empty_append x
    rw [e0, w64 (x := 0 + 1) (by omega) (by omega)]
    refine Ev.to (spec_AsksText_l0 (x :: r) hl r.length 1 x (by omega) (by simp; omega) ?_) ?_
    · simp only [List.drop_succ_cons, List.drop_zero, tsum]; omega
    · simp [glue]
theorem impl_glued_ev (l : List ByteArray) (hl : l.length ≤ 140737488351232) (hs : l.length + tsum l ≤ 4611686018427387904) : Ev (fun k => impl_glued.f k l) (glue l) := by
  unfold impl_glued.f
  exact impl_glued_all l hl hs
theorem tsum_le {l : List ByteArray} {b : Nat} (h : ∀ s ∈ l, s.size ≤ b) : tsum l ≤ b * l.length := by
  induction l with
  | nil => simp [tsum]
  | cons x r ih =>
    have h1 := h x (by simp)
    have h2 := ih (fun s hs => h s (by simp [hs]))
    simp only [tsum, List.map_cons, List.sum_cons, List.length_cons] at h2 ⊢
    rw [Nat.mul_succ]
    omega
def asksText (l : List ByteArray) : ByteArray := if asksOk l = true then glue l else ⟨#[]⟩
theorem glue_bound {l : List ByteArray} (h : asksOk l = true) : l.length + tsum l ≤ 6300 := by
  obtain ⟨h1, h2⟩ := asksOk_mem h
  have := tsum_le (b := 20) (fun s hs => (h1 s hs).2)
  omega
theorem impl_AsksText_ev (l : List ByteArray) (hl : l.length ≤ 140737488351232) (ho : ∀ s ∈ l, s.size ≤ 140737488351232) : Ev (fun k => impl_AsksText.f k l) (asksText l) := by
  unfold impl_AsksText.f asksText
  refine Ev.bind (impl_AsksOk_ev l hl ho) ?_
  cases c : asksOk l
  · exact Ev.neg (by simp) (Ev.const (by simp))
  · have := glue_bound c
    refine Ev.pos rfl ?_
    refine Ev.bind (impl_glued_ev l hl (by omega)) ?_
    exact Ev.const (by simp)
theorem spec_AsksText_ev (l : List ByteArray) (hl : l.length ≤ 140737488351232) (ho : ∀ s ∈ l, s.size ≤ 140737488351232) : Ev (fun k => spec_AsksText.f k l) (asksText l) := by
  unfold spec_AsksText.f asksText
  refine Ev.bind (spec_AsksOk_ev l hl ho) ?_
  cases c : asksOk l
  · exact Ev.neg (by simp) (Ev.const (by simp))
  · have := glue_bound c
    refine Ev.pos rfl ?_
    rw [if_pos rfl]
    exact spec_AsksText_all l hl (by omega)
theorem asksText_size (l : List ByteArray) : (asksText l).size ≤ 6300 := by
  unfold asksText
  cases c : asksOk l
  · exact Nat.zero_le _
  · have := glue_bound c
    rw [if_pos rfl]
    cases l with
    | nil => exact Nat.zero_le _
    | cons x r =>
      simp only [tsum, List.map_cons, List.sum_cons, List.length_cons] at this
      show (glueOn x r).size ≤ 6300
      rw [glueOn_size]
      simp only [tsum]
      omega
theorem asksText_nil (l : List ByteArray) : asksText l = ⟨#[]⟩ ↔ (asksOk l = false ∨ l = []) := by
  unfold asksText
  cases c : asksOk l
  · simp
  · rw [if_pos rfl]
    cases l with
    | nil => simp [glue]
    | cons x r =>
      have h1 := (asksOk_mem c).1 x (by simp)
      constructor
      · intro h
        have hz := congrArg ByteArray.size h
        rw [show glue (x :: r) = glueOn x r from rfl, glueOn_size, show (⟨#[]⟩ : ByteArray).size = 0 from rfl] at hz
        omega
      · intro h; simp at h
end Go.Proofs.Ytlmpbngndcagbaa.Q

namespace Go.Proofs.Ytlmpbngndcagbaa.Q
open Go.RowKit Go.Proofs.Ytlmpbngndcagbaa.G Go.Proofs.Ytlmpbngndcagbaa.PL Go.Proofs.YtlmpbngndcagbaaW.PrintWords
def opOk (kind : Int) (key val : ByteArray) : Bool := decide (1 ≤ kind) && decide (kind ≤ 3) && itemOk key val 0 && (decide (kind = 2) || decide (val = ⟨#[]⟩))
theorem nil_beq (a : ByteArray) : (a.toList == ([] : List UInt8)) = decide (a = ⟨#[]⟩) := by
  rw [Bool.eq_iff_iff]
  simp [toList_nil]
theorem spec_OpOk_ev (kind : Int) (key val : ByteArray) (h0 : key.size ≤ 140737488351232) (h1 : val.size ≤ 140737488351232) : Ev (fun k => spec_OpOk.f k kind key val) (opOk kind key val) := by
  unfold spec_OpOk.f opOk
  by_cases a : 1 ≤ kind
  rotate_left
  · exact Ev.neg (by omega) (Ev.const (by simp [a]))
  refine Ev.pos (by omega) ?_
  by_cases b : kind ≤ 3
  rotate_left
  · exact Ev.neg (by omega) (Ev.const (by simp [b]))
  refine Ev.pos (by omega) ?_
  refine Ev.bind (spec_ItemOk_ev key val 0 h0 h1) ?_
  cases c : itemOk key val 0
  · exact Ev.neg (by simp) (Ev.const (by simp))
  refine Ev.pos rfl ?_
  by_cases d : kind = 2
  · exact Ev.pos d (Ev.const (by simp [d]))
  · exact Ev.neg d (Ev.const (by rw [nil_beq]; simp [a, b, d]))
theorem impl_OpOk_ev (kind : Int) (key val : ByteArray) (h0 : key.size ≤ 140737488351232) (h1 : val.size ≤ 140737488351232) : Ev (fun k => impl_OpOk.f k kind key val) (opOk kind key val) := by
  unfold impl_OpOk.f opOk
  refine Ev.bind (Ev.const (impl_within_eq _ _ _)) ?_
  by_cases a : 1 ≤ kind
  rotate_left
  · exact Ev.neg (by simp; omega) (Ev.const (by simp [a]))
  by_cases b : kind ≤ 3
  rotate_left
  · exact Ev.neg (by simp; omega) (Ev.const (by simp [b]))
  refine Ev.pos (by simp; omega) ?_
  refine Ev.bind (impl_ItemOk_ev key val 0 h0 h1) ?_
  cases c : itemOk key val 0
  · exact Ev.neg (by simp) (Ev.const (by simp))
  refine Ev.pos rfl ?_
  by_cases d : kind = 2
  · exact Ev.pos d (Ev.const (by simp [d]))
  · exact Ev.neg d (Ev.const (by rw [nil_beq]; simp [a, b, d]))
/-- The text of an op. -/
def opText (kind : Int) (key val : ByteArray) : ByteArray :=
  if opOk kind key val = true then (if kind = 1 then (⟨#[103, 101, 116, 32]⟩ : ByteArray) ++ key else if kind = 2 then (((⟨#[112, 117, 116, 32]⟩ : ByteArray) ++ key) ++ (⟨#[32]⟩ : ByteArray)) ++ val else (⟨#[100, 114, 111, 112, 32]⟩ : ByteArray) ++ key) else ⟨#[]⟩
theorem spec_OpText_ev (kind : Int) (key val : ByteArray) (h0 : key.size ≤ 140737488351232) (h1 : val.size ≤ 140737488351232) : Ev (fun k => spec_OpText.f k kind key val) (opText kind key val) := by
  unfold spec_OpText.f opText
  refine Ev.bind (spec_OpOk_ev kind key val h0 h1) ?_
  cases c : opOk kind key val
  · exact Ev.neg (by simp) (Ev.const (by simp))
  refine Ev.pos rfl ?_
  rw [if_pos rfl]
  by_cases a : kind = 1
  · exact Ev.pos a (Ev.pos (by omega) (Ev.const (by rw [if_pos a])))
  refine Ev.neg a ?_
  by_cases b : kind = 2
  · exact Ev.pos b (Ev.pos (by omega) (Ev.pos (by omega) (Ev.pos (by omega) (Ev.const (by rw [if_neg a, if_pos b])))))
  exact Ev.neg b (Ev.pos (by omega) (Ev.const (by rw [if_neg a, if_neg b])))
theorem impl_OpText_ev (kind : Int) (key val : ByteArray) (h0 : key.size ≤ 140737488351232) (h1 : val.size ≤ 140737488351232) : Ev (fun k => impl_OpText.f k kind key val) (opText kind key val) := by
  unfold impl_OpText.f opText
  refine Ev.bind (impl_OpOk_ev kind key val h0 h1) ?_
  cases c : opOk kind key val
  · exact Ev.neg (by simp) (Ev.const (by simp))
  refine Ev.pos rfl ?_
  rw [if_pos rfl]
  by_cases a : kind = 1
  · exact Ev.pos a (Ev.pos (by omega) (Ev.const (by rw [if_pos a])))
  refine Ev.neg a ?_
  by_cases b : kind = 2
  · exact Ev.pos b (Ev.pos (by omega) (Ev.pos (by omega) (Ev.pos (by omega) (Ev.const (by rw [if_neg a, if_pos b])))))
  exact Ev.neg b (Ev.pos (by omega) (Ev.const (by rw [if_neg a, if_neg b])))
end Go.Proofs.Ytlmpbngndcagbaa.Q

namespace Go.Proofs.Ytlmpbngndcagbaa.Q
open Go.RowKit Go.Proofs.Ytlmpbngndcagbaa.G Go.Proofs.Ytlmpbngndcagbaa.PL Go.Proofs.YtlmpbngndcagbaaW.PrintWords
def cmdAlone (kind a b opk : Int) (key val : ByteArray) (asks : List ByteArray) : Bool :=
  (decide (kind = 1) || decide (kind = 6) || decide (a = 0)) && (decide (kind = 1) || decide (b = 0)) && (decide (kind = 2) || (decide (opk = 0) && decide (key = ⟨#[]⟩) && decide (val = ⟨#[]⟩))) && (decide (kind = 3) || decide (asks = []))
def kwNew : ByteArray := ⟨#[110, 101, 119]⟩
def sp : ByteArray := ⟨#[32]⟩
def cmdText (kind a b opk : Int) (key val : ByteArray) (asks : List ByteArray) : ByteArray :=
  if cmdAlone kind a b opk key val asks = true then
    if kind = 1 then (if isNum a = true ∧ isNum b = true then (((kwNew ++ sp) ++ numText a) ++ sp) ++ numText b else ⟨#[]⟩)
    else if kind = 2 then opText opk key val
    else if kind = 3 then (if asksOk asks = true ∧ asks ≠ [] then (⟨#[97, 115, 107, 32]⟩ : ByteArray) ++ asksText asks else ⟨#[]⟩)
    else if kind = 4 then ⟨#[115, 104, 111, 119]⟩
    else if kind = 5 then ⟨#[114, 97, 116, 101]⟩
    else if kind = 6 then (if isNum a = true then (⟨#[108, 97, 98, 32]⟩ : ByteArray) ++ numText a else ⟨#[]⟩)
    else if kind = 7 then ⟨#[115, 97, 118, 101]⟩
    else ⟨#[]⟩
  else ⟨#[]⟩
theorem len_zero (l : List ByteArray) : (((l.length : Int)) == 0) = decide (l = []) := by
  rw [Bool.eq_iff_iff]; cases l <;> simp <;> omega
theorem impl_isAlone_eq (kind a b opk : Int) (key val : ByteArray) (asks : List ByteArray) : impl_isAlone.f kind a b opk key val asks = some (cmdAlone kind a b opk key val asks) := by
  unfold impl_isAlone.f cmdAlone
  simp only [toList_nil, len_zero]
  by_cases h1 : kind = 1
  · subst h1
    by_cases h2 : opk = 0 <;> by_cases h3 : key = ⟨#[]⟩ <;> by_cases h4 : val = ⟨#[]⟩ <;> simp [h2, h3, h4]
  by_cases h6 : kind = 6
  · subst h6
    by_cases hb : b = 0 <;> by_cases h2 : opk = 0 <;> by_cases h3 : key = ⟨#[]⟩ <;> by_cases h4 : val = ⟨#[]⟩ <;> simp [hb, h2, h3, h4]
  by_cases k2 : kind = 2
  · subst k2
    by_cases ha : a = 0 <;> by_cases hb : b = 0 <;> simp [ha, hb]
  by_cases k3 : kind = 3
  · subst k3
    by_cases ha : a = 0 <;> by_cases hb : b = 0 <;> by_cases h2 : opk = 0 <;> by_cases h3 : key = ⟨#[]⟩ <;> by_cases h4 : val = ⟨#[]⟩ <;> simp [ha, hb, h2, h3, h4]
  by_cases ha : a = 0 <;> by_cases hb : b = 0 <;> by_cases h2 : opk = 0 <;> by_cases h3 : key = ⟨#[]⟩ <;> by_cases h4 : val = ⟨#[]⟩ <;> simp [h1, h6, k2, k3, ha, hb, h2, h3, h4]
theorem len_pos (l : List ByteArray) : decide (((l.length : Int)) > 0) = !decide (l = []) := by
  rw [Bool.eq_iff_iff]; cases l <;> simp <;> omega
theorem l21Zero_j0 (x : Bool) (kind a b opk : Int) (key val : ByteArray) (asks : List ByteArray) : Ev (fun k => spec_l21Zero.j0 k x kind a b opk key val asks) (!x && (decide (kind = 1) || (decide (b = 0) && (decide (kind = 6) || decide (a = 0))))) := by
  refine Ev.step (fun _ => rfl) ?_
  simp only [spec_l21Zero.j0]
  cases x
  · refine Ev.neg (by simp) ?_
    by_cases h1 : kind = 1
    · exact Ev.pos h1 (Ev.const (by simp [h1]))
    refine Ev.neg h1 ?_
    by_cases hb : b = 0
    rotate_left
    · exact Ev.neg hb (Ev.const (by simp [h1, hb]))
    refine Ev.pos hb ?_
    by_cases h6 : kind = 6
    · exact Ev.pos h6 (Ev.const (by simp [h6, hb]))
    refine Ev.neg h6 (Ev.const ?_)
    by_cases ha : a = 0 <;> simp [h1, hb, h6, ha]
  · exact Ev.pos rfl (Ev.const (by simp))
theorem spec_l21Zero_ev (kind a b opk : Int) (key val : ByteArray) (asks : List ByteArray) : Ev (fun k => spec_l21Zero.f k kind a b opk key val asks) (cmdAlone kind a b opk key val asks) := by
  have J := fun x => l21Zero_j0 x kind a b opk key val asks
  unfold spec_l21Zero.f cmdAlone
  simp only [toList_nil, len_pos]
  have fin : ∀ (x : Bool), (!x) = ((decide (kind = 2) || (decide (opk = 0) && decide (key = ⟨#[]⟩) && decide (val = ⟨#[]⟩))) && (decide (kind = 3) || decide (asks = []))) →
      (!x && (decide (kind = 1) || (decide (b = 0) && (decide (kind = 6) || decide (a = 0))))) = ((decide (kind = 1) || decide (kind = 6) || decide (a = 0)) && (decide (kind = 1) || decide (b = 0)) && (decide (kind = 2) || (decide (opk = 0) && decide (key = ⟨#[]⟩) && decide (val = ⟨#[]⟩))) && (decide (kind = 3) || decide (asks = []))) := by
    intro x hx
    rw [hx]
    cases decide (kind = 1) <;> cases decide (kind = 6) <;> cases decide (a = 0) <;> cases decide (b = 0) <;> cases decide (kind = 2) <;> cases (decide (opk = 0) && decide (key = ⟨#[]⟩) && decide (val = ⟨#[]⟩)) <;> cases decide (kind = 3) <;> cases decide (asks = []) <;> rfl
  by_cases k2 : kind = 2
  · refine Ev.pos k2 ?_
    refine Ev.neg (by omega) (Ev.to (J _) (fin _ ?_))
    have k3 : ¬ kind = 3 := by omega
    simp [k2]
  refine Ev.neg k2 ?_
  by_cases h2 : opk = 0
  rotate_left
  · exact Ev.neg h2 (Ev.to (J _) (fin _ (by simp [k2, h2])))
  refine Ev.pos h2 ?_
  by_cases h3 : key = ⟨#[]⟩
  rotate_left
  · exact Ev.neg h3 (Ev.to (J _) (fin _ (by simp [k2, h3])))
  refine Ev.pos h3 ?_
  by_cases h4 : val = ⟨#[]⟩
  rotate_left
  · exact Ev.neg h4 (Ev.to (J _) (fin _ (by simp [k2, h4])))
  refine Ev.pos h4 ?_
  by_cases k3 : kind = 3
  · exact Ev.pos k3 (Ev.to (J _) (fin _ (by simp [h2, h3, h4, k3])))
  · exact Ev.neg k3 (Ev.to (J _) (fin _ (by simp [h2, h3, h4, k3])))
theorem new_glue (a b : ByteArray) : glue [(⟨#[110, 101, 119]⟩ : ByteArray), a, b] = (((kwNew ++ sp) ++ a) ++ sp) ++ b := rfl
theorem isNum_zero : isNum 0 = true := by decide
theorem sz3 : kwNew.size = 3 := rfl
theorem cmdAlone_ab {kind a b opk : Int} {key val : ByteArray} {asks : List ByteArray} (h : cmdAlone kind a b opk key val asks = true) : (kind = 1 ∨ b = 0) ∧ (kind = 1 ∨ kind = 6 ∨ a = 0) := by
  unfold cmdAlone at h
  simp only [Bool.and_eq_true, Bool.or_eq_true, decide_eq_true_eq] at h
  obtain ⟨⟨⟨h1, h2⟩, _⟩, _⟩ := h
  exact ⟨h2, by rcases h1 with (h | h) | h <;> simp [h]⟩
theorem impl_CmdText_ev (kind a b opk : Int) (key val : ByteArray) (asks : List ByteArray) (hk : key.size ≤ 140737488351232) (hv : val.size ≤ 140737488351232) (hl : asks.length ≤ 140737488351232) (ho : ∀ s ∈ asks, s.size ≤ 140737488351232) :
    Ev (fun k => impl_CmdText.f k kind a b opk key val asks) (cmdText kind a b opk key val asks) := by
  have NO : ∀ x y : ByteArray, Ev (fun k => impl_CmdText.j0 k x y true kind a b opk key val asks) ⟨#[]⟩ := by
    intro x y
    refine Ev.step (fun _ => rfl) ?_
    simp only [impl_CmdText.j0]
    first | exact Ev.pos trivial (Ev.const rfl) | exact Ev.const rfl
  unfold impl_CmdText.f cmdText
  refine Ev.bind (impl_NumText_ev a) ?_
  refine Ev.bind (impl_NumText_ev b) ?_
  refine Ev.bind (Ev.const (impl_isAlone_eq _ _ _ _ _ _ _)) ?_
  cases c : cmdAlone kind a b opk key val asks
  · exact Ev.neg (by simp) (Ev.to (NO _ _) (by simp))
  refine Ev.pos rfl ?_
  rw [if_pos rfl, nil_beq]
  simp only [toList_nil, numText_nil]
  obtain ⟨hb, ha⟩ := cmdAlone_ab c
  have na := numText_size a
  have nb := numText_size b
  cases ia : isNum a
  · refine Ev.pos rfl (Ev.to (NO _ _) ?_)
    have ha' : kind = 1 ∨ kind = 6 := by
      rcases ha with h | h | h
      · exact .inl h
      · exact .inr h
      · rw [h, isNum_zero] at ia; cases ia
    rcases ha' with rfl | rfl <;> simp
  refine Ev.neg (by simp) ?_
  cases ib : isNum b
  · simp only [decide_true]
    refine Ev.to (NO _ _) ?_
    have hb' : kind = 1 := by
      rcases hb with h | h
      · exact h
      · rw [h, isNum_zero] at ib; cases ib
    subst hb'
    simp
  refine Ev.step (fun _ => rfl) ?_
  simp only [impl_CmdText.j0]
  refine Ev.neg (by simp) ?_
  by_cases k1 : kind = 1
  · refine Ev.pos k1 ?_
    refine Ev.bind (impl_glued_ev _ (by simp) ?_) ?_
    · have e : (⟨#[110, 101, 119]⟩ : ByteArray).size = 3 := rfl
      simp only [tsum, List.map_cons, List.map_nil, List.sum_cons, List.sum_nil, List.length_cons, List.length_nil, e]
      omega
    · exact Ev.const (by rw [new_glue]; simp [k1])
  refine Ev.neg k1 ?_
  by_cases k2 : kind = 2
  · refine Ev.pos k2 ?_
    refine Ev.bind (impl_OpText_ev _ _ _ hk hv) ?_
    exact Ev.const (by simp [k2])
  refine Ev.neg k2 ?_
  by_cases k3 : kind = 3
  · refine Ev.pos k3 ?_
    have hsz := asksText_size asks
    refine Ev.bind (impl_AsksText_ev asks hl ho) ?_
    rw [if_neg k1, if_neg k2, if_pos k3]
    by_cases d : asksText asks = ⟨#[]⟩
    · refine Ev.pos (toList_nil.2 d) (Ev.const ?_)
      rw [if_neg]
      intro ⟨h1, h2⟩
      rcases (asksText_nil asks).1 d with h | h
      · rw [h] at h1; cases h1
      · exact h2 h
    · refine Ev.neg (fun h => d (toList_nil.1 h)) ?_
      have h1 : asksOk asks = true ∧ asks ≠ [] := by
        constructor
        · cases h : asksOk asks
          · exact absurd ((asksText_nil asks).2 (.inl h)) d
          · rfl
        · intro h; exact d ((asksText_nil asks).2 (.inr h))
      rw [if_pos h1]
      exact Ev.pos (by omega) (Ev.const rfl)
  refine Ev.neg k3 ?_
  rw [if_neg k1, if_neg k2, if_neg k3]
  by_cases k4 : kind = 4
  · exact Ev.pos k4 (Ev.const (by rw [if_pos k4]))
  refine Ev.neg k4 ?_
  rw [if_neg k4]
  by_cases k5 : kind = 5
  · exact Ev.pos k5 (Ev.const (by rw [if_pos k5]))
  refine Ev.neg k5 ?_
  rw [if_neg k5]
  by_cases k6 : kind = 6
  · refine Ev.pos k6 (Ev.pos (by omega) (Ev.const ?_))
    rw [if_pos k6, if_pos trivial]
  refine Ev.neg k6 ?_
  rw [if_neg k6]
  by_cases k7 : kind = 7
  · exact Ev.pos k7 (Ev.const (by rw [if_pos k7]))
  exact Ev.neg k7 (Ev.const (by rw [if_neg k7]))
theorem spec_l21Word_eq (kind : Int) : spec_l21Word.f kind = some (if kind = 1 then kwNew else if kind = 3 then ⟨#[97, 115, 107]⟩ else if kind = 4 then ⟨#[115, 104, 111, 119]⟩ else if kind = 5 then ⟨#[114, 97, 116, 101]⟩ else if kind = 6 then ⟨#[108, 97, 98]⟩ else if kind = 7 then ⟨#[115, 97, 118, 101]⟩ else ⟨#[]⟩) := by
  unfold spec_l21Word.f
  by_cases k1 : kind = 1
  · rw [if_pos k1, if_pos k1]; rfl
  rw [if_neg k1, if_neg k1]
  by_cases k3 : kind = 3
  · rw [if_pos k3, if_pos k3]
  rw [if_neg k3, if_neg k3]
  by_cases k4 : kind = 4
  · rw [if_pos k4, if_pos k4]
  rw [if_neg k4, if_neg k4]
  by_cases k5 : kind = 5
  · rw [if_pos k5, if_pos k5]
  rw [if_neg k5, if_neg k5]
  by_cases k6 : kind = 6
  · rw [if_pos k6, if_pos k6]
  rw [if_neg k6, if_neg k6]
  by_cases k7 : kind = 7
  · rw [if_pos k7, if_pos k7]
  rw [if_neg k7, if_neg k7]
theorem spec_CmdText_ev (kind a b opk : Int) (key val : ByteArray) (asks : List ByteArray) (hk : key.size ≤ 140737488351232) (hv : val.size ≤ 140737488351232) (hl : asks.length ≤ 140737488351232) (ho : ∀ s ∈ asks, s.size ≤ 140737488351232) :
    Ev (fun k => spec_CmdText.f k kind a b opk key val asks) (cmdText kind a b opk key val asks) := by
  have NO : ∀ x : ByteArray, Ev (fun k => spec_CmdText.j0 k x true kind a b opk key val asks) ⟨#[]⟩ := by
    intro x
    refine Ev.step (fun _ => rfl) ?_
    simp only [spec_CmdText.j0]
    first | exact Ev.pos trivial (Ev.const rfl) | exact Ev.const rfl
  unfold spec_CmdText.f cmdText
  refine Ev.bind (spec_l21Zero_ev _ _ _ _ _ _ _) ?_
  cases c : cmdAlone kind a b opk key val asks
  · exact Ev.neg (by simp) (Ev.const (by simp))
  refine Ev.pos rfl ?_
  rw [if_pos rfl]
  refine Ev.bind (Ev.const (spec_l21Word_eq kind)) ?_
  have na := numText_size a
  have nb := numText_size b
  by_cases k2 : kind = 2
  · refine Ev.pos k2 ?_
    refine Ev.bind (spec_OpText_ev _ _ _ hk hv) ?_
    exact Ev.const (by simp [k2])
  refine Ev.neg k2 ?_
  by_cases k3 : kind = 3
  · refine Ev.pos k3 ?_
    have hsz := asksText_size asks
    have k1 : ¬ kind = 1 := by omega
    rw [if_neg k1, if_neg k2, if_pos k3, if_pos k3, if_neg k1]
    have e3 : (⟨#[97, 115, 107]⟩ : ByteArray).size = 3 := rfl
    refine Ev.bind (spec_AsksOk_ev asks hl ho) ?_
    cases d : asksOk asks
    · exact Ev.neg (by simp) (Ev.const (by simp))
    refine Ev.pos rfl ?_
    by_cases e : asks = []
    · refine Ev.pos (by simp [e]) (Ev.const (by simp [e]))
    · have hn : ¬ (asks.length : Int) = 0 := fun h => e (List.length_eq_zero_iff.1 (by omega))
      refine Ev.neg hn ?_
      refine Ev.pos (by omega) ?_
      refine Ev.bind (spec_AsksText_ev asks hl ho) ?_
      refine Ev.pos (by omega) (Ev.const ?_)
      rw [if_pos ⟨rfl, e⟩]
      rfl
  refine Ev.neg k3 ?_
  by_cases k1 : kind = 1
  · refine Ev.pos k1 ?_
    rw [if_pos k1, if_pos k1]
    refine Ev.bind (Ev.const (spec_l01Num_eq a)) ?_
    cases ia : isNum a
    · exact Ev.neg (by simp) (Ev.to (NO _) (by simp))
    refine Ev.pos rfl ?_
    refine Ev.bind (Ev.const (spec_l01Num_eq b)) ?_
    cases ib : isNum b
    · exact Ev.to (NO _) (by simp)
    refine Ev.step (fun _ => rfl) ?_
    simp only [spec_CmdText.j0]
    have e3 := sz3
    refine Ev.neg (by simp) (Ev.pos (by omega) ?_)
    refine Ev.bind (spec_NumText_ev a) ?_
    refine Ev.pos (by omega) (Ev.pos (by omega) ?_)
    refine Ev.bind (spec_NumText_ev b) ?_
    exact Ev.pos (by omega) (Ev.const (by simp [sp]))
  refine Ev.neg k1 ?_
  rw [if_neg k1, if_neg k2, if_neg k3, if_neg k1, if_neg k3]
  by_cases k6 : kind = 6
  · refine Ev.pos k6 ?_
    have k4 : ¬ kind = 4 := by omega
    have k5 : ¬ kind = 5 := by omega
    rw [if_neg k4, if_neg k5, if_pos k6, if_neg k4, if_neg k5, if_pos k6]
    refine Ev.bind (Ev.const (spec_l01Num_eq a)) ?_
    cases ia : isNum a
    · exact Ev.neg (by simp) (Ev.const (by simp))
    refine Ev.pos rfl ?_
    have e3 : (⟨#[108, 97, 98]⟩ : ByteArray).size = 3 := rfl
    refine Ev.pos (by omega) ?_
    refine Ev.bind (spec_NumText_ev a) ?_
    exact Ev.pos (by omega) (Ev.const rfl)
  refine Ev.neg k6 (Ev.const ?_)
  by_cases k4 : kind = 4
  · rw [if_pos k4, if_pos k4]
  rw [if_neg k4, if_neg k4]
  by_cases k5 : kind = 5
  · rw [if_pos k5, if_pos k5]
  rw [if_neg k5, if_neg k5, if_neg k6, if_neg k6]
end Go.Proofs.Ytlmpbngndcagbaa.Q

namespace Go.Proofs.Ytlmpbngndcagbaa.Fam
open Go.RowKit Go.Proofs.Ytlmpbngndcagbaa.G Go.Proofs.Ytlmpbngndcagbaa.PL Go.Proofs.Ytlmpbngndcagbaa.Ok Go.Proofs.YtlmpbngndcagbaaW.PrintWords Go.Proofs.YtlmpbngndcagbaaW.PrintLast Go.Proofs.YtlmpbngndcagbaaW.PrintMore
set_option linter.unusedVariables false
set_option linter.unusedSimpArgs false
instance decOp : DecidableEq S74 := fun a b => decidable_of_iff (a.f0 = b.f0 ∧ a.f1 = b.f1 ∧ a.f2 = b.f2) (by cases a; cases b; simp)
theorem szOp_ev (x0 : Int) (x1 : ByteArray) (x2 : ByteArray) (a : Int) (h0 : 0 ≤ a) (h1 : a ≤ 1048576) (o0 : x1.size ≤ 140737488351232) (o1 : x2.size ≤ 140737488351232) : Ev (fun k => laws_szOp.f x0 x1 x2 a) (left a (x1.size + x2.size)) := by
  unfold laws_szOp.f
  by_cases c0 : ((x1.size : Nat) : Int) ≤ a
  rotate_left
  · rw [w64 (x := a - (x1.size : Int)) (by omega) (by omega)]
    refine Ev.pos (by omega) ?_
    exact Ev.const (congrArg some (left_neg (by omega)).symm)
  rw [w64 (x := a - (x1.size : Int)) (by omega) (by omega)]
  refine Ev.neg (by omega) ?_
  by_cases c1 : ((x2.size : Nat) : Int) ≤ a - (x1.size : Nat)
  rotate_left
  · rw [w64 (x := a - (x1.size : Nat) - (x2.size : Int)) (by omega) (by omega)]
    refine Ev.pos (by omega) ?_
    exact Ev.const (congrArg some (left_neg (by omega)).symm)
  rw [w64 (x := a - (x1.size : Nat) - (x2.size : Int)) (by omega) (by omega)]
  refine Ev.neg (by omega) ?_
  exact Ev.const (congrArg some (by rw [left_pos (by omega)]; omega))
theorem toOp_ev (x0 : Int) (x1 : ByteArray) (x2 : ByteArray)  : Ev (fun k => laws_toOp.f x0 x1 x2) (x0, x1, x2) := by
  unfold laws_toOp.f
  exact Ev.const rfl
theorem eqOp_ev (x0 : Int) (x1 : ByteArray) (x2 : ByteArray)  : Ev (fun k => laws_eqOp.f x0 x1 x2 x0 x1 x2) true := by
  unfold laws_eqOp.f
  refine Ev.pos rfl ?_
  refine Ev.pos rfl ?_
  refine Ev.pos rfl ?_
  exact Ev.const rfl
end Go.Proofs.Ytlmpbngndcagbaa.Fam

namespace Go.Proofs.Ytlmpbngndcagbaa.Fam
open Go.RowKit Go.Proofs.Ytlmpbngndcagbaa.G Go.Proofs.Ytlmpbngndcagbaa.PL Go.Proofs.Ytlmpbngndcagbaa.Ok Go.Proofs.YtlmpbngndcagbaaW.PrintWords Go.Proofs.YtlmpbngndcagbaaW.PrintLast Go.Proofs.YtlmpbngndcagbaaW.PrintMore
set_option linter.unusedVariables false
set_option linter.unusedSimpArgs false
def szmStringS (l : List ByteArray) : Nat := l.length + (l.map fun x => x.size).sum
theorem szStringS_l0 (l : List ByteArray) (ho : okT62 l) : ∀ (d i : Nat) (a : Int), i + d = l.length → 0 ≤ a → a ≤ 1048576 → Ev (fun k => laws_szStringS.l0 k l a i) (left a ((l.drop i).map fun x => x.size).sum) := by
  have hl := ho.2
  intro d
  induction d with
  | zero =>
    intro i a hi h0 h1
    refine Ev.step (fun _ => rfl) ?_
    simp only [laws_szStringS.l0]
    refine Ev.neg (by omega) ?_
    rw [List.drop_of_length_le (by omega)]
    exact Ev.const (congrArg some (left_zero h0).symm)
  | succ d ih =>
    intro i a hi h0 h1
    have hlt : i < l.length := by omega
    have er : rdOf ByteArray.empty l (i : Int) = l[i] := getD_at hlt _
    have hok := ho.1 _ (List.getElem_mem hlt)
    refine Ev.step (fun _ => rfl) ?_
    simp only [laws_szStringS.l0]
    refine Ev.pos (by omega) ?_
    refine Ev.pos (by omega) ?_
    rw [er, drop_at hlt, List.map_cons, List.sum_cons, wsucc (by omega)]
    have hs : (l[i]).size ≤ 140737488351232 := hok
    rw [w64 (x := a - ((l[i]).size : Int)) (by omega) (by omega)]
    by_cases c : (((l[i]).size : Nat) : Int) ≤ a
    · refine Ev.neg (by omega) ?_
      refine Ev.to (ih (i + 1) (a - (l[i]).size) (by omega) (by omega) (by omega)) ?_
      exact left_add
    · refine Ev.pos (by omega) ?_
      exact Ev.const (congrArg some (left_neg_add c).symm)
theorem szStringS_ev (l : List ByteArray) (a : Int) (h0 : 0 ≤ a) (h1 : a ≤ 1048576) (o : okT62 l) : Ev (fun k => laws_szStringS.f k l a) (left a (szmStringS l)) := by
  have ho := o.2
  unfold laws_szStringS.f szmStringS
  rw [w64 (by omega) (by omega)]
  by_cases c : (l.length : Int) ≤ a
  · refine Ev.neg (by omega) ?_
    refine Ev.to (szStringS_l0 l o l.length 0 (a - l.length) (by omega) (by omega) (by omega)) ?_
    rw [List.drop_zero]
    exact left_add
  · refine Ev.pos (by omega) ?_
    exact Ev.const (congrArg some (left_neg_add c).symm)
theorem toStringS_l0 (l : List ByteArray) (ho : okT62 l) : ∀ (d i : Nat) (ys : List ByteArray), i + d = l.length → ys.length = l.length → ys.take i = (l.take i).map id → Ev (fun k => laws_toStringS.l0 k l ys i) (l.map id) := by
  have hl := ho.2
  intro d
  induction d with
  | zero =>
    intro i ys hi hy ht
    refine Ev.step (fun _ => rfl) ?_
    simp only [laws_toStringS.l0]
    refine Ev.neg (by omega) ?_
    rw [List.take_of_length_le (by omega), List.take_of_length_le (by omega)] at ht
    exact Ev.const (congrArg some ht)
  | succ d ih =>
    intro i ys hi hy ht
    have hlt : i < l.length := by omega
    have er : rdOf ByteArray.empty l (i : Int) = l[i] := getD_at hlt _
    have hok := ho.1 _ (List.getElem_mem hlt)
    refine Ev.step (fun _ => rfl) ?_
    simp only [laws_toStringS.l0]
    refine Ev.pos (by omega) ?_
    refine Ev.pos (by omega) ?_
    rw [er, wsucc (by omega)]
    refine Ev.pos (by omega) ?_
    exact ih (i + 1) _ (by omega) (by simp [hy]) (take_drop_set id l ys hlt hy ht)
theorem toStringS_ev (l : List ByteArray) (o : okT62 l) : Ev (fun k => laws_toStringS.f k l) l := by
  have ho := o.2
  unfold laws_toStringS.f
  rw [Int.toNat_natCast]
  refine Ev.pos (by omega) ?_
  refine Ev.pos (by omega) ?_
  refine Ev.to (toStringS_l0 l o l.length 0 _ (by omega) (by simp) (by simp)) ?_
  simp
theorem eqStringS_l0 (l : List ByteArray) (ho : l.length ≤ 140737488351232) : ∀ (d i : Nat), i + d = l.length → Ev (fun k => laws_eqStringS.l0 k l l i) true := by
  have hl : l.length ≤ 140737488351232 := ho
  intro d
  induction d with
  | zero =>
    intro i hi
    refine Ev.step (fun _ => rfl) ?_
    simp only [laws_eqStringS.l0]
    refine Ev.neg (by omega) ?_
    exact Ev.const rfl
  | succ d ih =>
    intro i hi
    refine Ev.step (fun _ => rfl) ?_
    simp only [laws_eqStringS.l0]
    refine Ev.pos (by omega) ?_
    refine Ev.pos (by omega) ?_
    refine Ev.pos (by omega) ?_
    rw [wsucc (by omega)]
    first | refine Ev.pos rfl ?_ | refine Ev.pos trivial ?_ | refine Ev.neg (by simp) ?_
    exact ih (i + 1) (by omega)
theorem eqStringS_ev (l : List ByteArray) (ho : l.length ≤ 140737488351232) : Ev (fun k => laws_eqStringS.f k l l) true := by
  unfold laws_eqStringS.f
  refine Ev.pos rfl ?_
  exact eqStringS_l0 l ho l.length 0 (by omega)
end Go.Proofs.Ytlmpbngndcagbaa.Fam

namespace Go.Proofs.Ytlmpbngndcagbaa.Fam
open Go.RowKit Go.Proofs.Ytlmpbngndcagbaa.G Go.Proofs.Ytlmpbngndcagbaa.PL Go.Proofs.Ytlmpbngndcagbaa.Ok Go.Proofs.YtlmpbngndcagbaaW.PrintWords Go.Proofs.YtlmpbngndcagbaaW.PrintLast Go.Proofs.YtlmpbngndcagbaaW.PrintMore
set_option linter.unusedVariables false
set_option linter.unusedSimpArgs false
theorem szCmd_ev (x0 : Int) (x1 : Int) (x2 : Int) (x3 : Int) (x4 : ByteArray) (x5 : ByteArray) (x6 : List ByteArray) (a : Int) (h0 : 0 ≤ a) (h1 : a ≤ 1048576) (o0_0 : x4.size ≤ 140737488351232) (o0_1 : x5.size ≤ 140737488351232) (o1 : okT62 x6) : Ev (fun k => laws_szCmd.f k x0 x1 x2 x3 x4 x5 x6 a) (left a ((x4.size + x5.size) + szmStringS x6)) := by
  unfold laws_szCmd.f
  refine Ev.bind (szOp_ev x3 x4 x5 a (by omega) (by omega) o0_0 o0_1) ?_
  by_cases c0 : ((x4.size + x5.size : Nat) : Int) ≤ a
  rotate_left
  · rw [left_neg c0]
    refine Ev.pos (by omega) ?_
    exact Ev.const (congrArg some (left_neg (by omega)).symm)
  rw [left_pos c0]
  refine Ev.neg (by omega) ?_
  refine Ev.bind (szStringS_ev x6 (a - (x4.size + x5.size : Nat)) (by omega) (by omega) o1) ?_
  by_cases c1 : ((szmStringS x6 : Nat) : Int) ≤ a - (x4.size + x5.size : Nat)
  rotate_left
  · rw [left_neg c1]
    refine Ev.pos (by omega) ?_
    exact Ev.const (congrArg some (left_neg (by omega)).symm)
  rw [left_pos c1]
  refine Ev.neg (by omega) ?_
  exact Ev.const (congrArg some (by rw [left_pos (by omega)]; omega))
theorem toCmd_ev (x0 : Int) (x1 : Int) (x2 : Int) (x3 : Int) (x4 : ByteArray) (x5 : ByteArray) (x6 : List ByteArray) (o_x6 : okT62 x6) : Ev (fun k => laws_toCmd.f k x0 x1 x2 x3 x4 x5 x6) (x0, x1, x2, x3, x4, x5, x6) := by
  unfold laws_toCmd.f
  refine Ev.bind (toOp_ev x3 x4 x5 ) ?_
  refine Ev.bind (toStringS_ev x6 o_x6) ?_
  exact Ev.const rfl
theorem eqCmd_ev (x0 : Int) (x1 : Int) (x2 : Int) (x3 : Int) (x4 : ByteArray) (x5 : ByteArray) (x6 : List ByteArray) (o_x6 : x6.length ≤ 140737488351232) : Ev (fun k => laws_eqCmd.f k x0 x1 x2 x3 x4 x5 x6 x0 x1 x2 x3 x4 x5 x6) true := by
  unfold laws_eqCmd.f
  refine Ev.pos rfl ?_
  refine Ev.pos rfl ?_
  refine Ev.pos rfl ?_
  refine Ev.bind (eqOp_ev x3 x4 x5 ) ?_
  refine Ev.pos rfl ?_
  refine Ev.bind (eqStringS_ev x6 o_x6) ?_
  refine Ev.pos rfl ?_
  exact Ev.const rfl
end Go.Proofs.Ytlmpbngndcagbaa.Fam

namespace Go.Proofs.Ytlmpbngndcagbaa.Pure
open Go.RowKit Go.Proofs.Ytlmpbngndcagbaa.G Go.Proofs.Ytlmpbngndcagbaa.PL Go.Proofs.Ytlmpbngndcagbaa.Ok Go.Proofs.Ytlmpbngndcagbaa.Fam Go.Proofs.Ytlmpbngndcagbaa.Q Go.Proofs.YtlmpbngndcagbaaW.PrintWords Go.Proofs.YtlmpbngndcagbaaW.PrintLast Go.Proofs.Ytlmpbngndcagbaa.G.fnExactCmdText
theorem FnExactCmdText : FnExactCmdText.Pure := by
  intro x0 ⟨_, _, _, ⟨_, o4, o5⟩, o6⟩
  apply Ev.rounds
  unfold laws_FnExactCmdText.f
  have o6' : okT62 x0.2.2.2.2 := o6
  have b6 := o6'.2
  have l6 : x0.2.2.2.2.length ≤ 140737488351232 := by omega
  refine Ev.bind (szCmd_ev _ _ _ _ _ _ _ 1048576 (by omega) (by omega) o4 o5 o6) ?_
  generalize (x0.2.2.2.1.f1.size + x0.2.2.2.1.f2.size) + szmStringS x0.2.2.2.2 = m0
  by_cases c0 : (m0 : Int) ≤ 1048576
  rotate_left
  · rw [left_neg c0]; exact Ev.pos (by omega) (Ev.const rfl)
  rw [left_pos c0]
  refine Ev.neg (by omega) ?_
  refine Ev.bind (toCmd_ev _ _ _ _ _ _ _ o6) ?_
  refine Ev.bind (spec_CmdText_ev _ _ _ _ _ _ _ o4 o5 l6 o6'.1) ?_
  refine Ev.bind (toCmd_ev _ _ _ _ _ _ _ o6) ?_
  refine Ev.bind (impl_CmdText_ev _ _ _ _ _ _ _ o4 o5 l6 o6'.1) ?_
  refine Ev.pos rfl ?_
  refine Ev.bind (toCmd_ev _ _ _ _ _ _ _ o6) ?_
  refine Ev.bind (eqCmd_ev _ _ _ _ _ _ _ l6) ?_
  refine Ev.pos rfl ?_
  exact Ev.const rfl
end Go.Proofs.Ytlmpbngndcagbaa.Pure

namespace Go.Proofs.Ytlmpbngndcagbaa.fnExactCmdText
open Go.ChangeShapes Go.WideShapes Go.ChangeAt Go.RowKit Go.Proofs.Ytlmpbngndcagbaa.Open Go.Proofs.Ytlmpbngndcagbaa.Ok Go.Proofs.Ytlmpbngndcagbaa.G.fnExactCmdText Go.Proofs.Ytlmpbngndcagbaa.G Go.Proofs.YtlmpbngndcagbaaW.PrintWords
set_option linter.unusedVariables false
theorem own : ownKnob Try.prog.godebug = none := by kernel_rfl
theorem laidOut : laidOutB Try.prog = true := by kernel_rfl
set_option maxRecDepth 100000 in
set_option maxHeartbeats 2000000 in
theorem lifted (pure : FnExactCmdText.Pure) (os : Os) (started : os.Started) (H : Type) (enc : TypeId × Value → H) :
    ReturnsInHanded {} Try.checked os 9 .any (Rows.fnExactCmdTextSpec.pre6 enc Try.prog Try.f9 Rows.fnExactCmdTextRow.domain false) (Rows.fnExactCmdTextSpec.post enc Try.prog Try.f9 false true false false) := by
  refine returnsInHanded_of_change_sized (C := Try.checked) own started (by kernel_rfl) Try.func9
    (ChangeSpec.witness6 (enc := enc) (C := Try.checked) false ⟨#[], #[.agg #[.int .i64 0, .int .i64 0, .int .i64 0, .int .i64 0, .string ByteArray.empty, .string ByteArray.empty, .slice none 0 0]], []⟩ 8 (by kernel_rfl) (by kernel_rfl) (by kernel_rfl) (by kernel_rfl)) ?_
  intro W base args ds gs before hval0 hW hcnd hsz0 _
  have hsz : (DataW.weightsEach Try.prog (Try.f9.params.toList ++ Rows.fnExactCmdTextSpec.plain.varTypes Try.prog) (ds ++ gs)).all (· ≤ reachBytes) = true := hsz0
  have hval : ∀ (j : Nat) t v, Try.f9.params[j]? = some t → args[j]? = some v → Value.okWide Try.prog W .any base t v := hval0
  have hW' := hW
  obtain ⟨p, q, hA0, hV, rfl, hfz, hnd⟩ := hW
  have hA : DataW.TrodAll enc Try.prog W 0 (fun _ => true) true Try.f9.params.toList args.toList ds p := hA0
  rw [Try.params9] at hA hval hsz
  obtain ⟨v0, vs0, d0, ds0, p0, q0, hargs, rfl, rfl, h0, r0⟩ := trodAll_cons hA
  obtain ⟨rfl, rfl, rfl⟩ := trodAll_nil r0
  obtain rfl : args = #[v0] := by cases args; simp_all
  obtain ⟨rfl, rfl⟩ := trodVars_none hV
  have k0 := h0
  have lt0 : ∀ x ∈ p0, x.block < W.heap.size := by obtain ⟨m, hm⟩ := k0; exact DataW.trod_lt m _ _ _ hm
  obtain ⟨fuel0, hf0⟩ := h0
  obtain ⟨x0, hK0, ok0⟩ := opn71 H enc W fuel0 _ _ _ hf0 (weights_of hsz (j := 0) (t := 71) rfl rfl)
  obtain ⟨cs0, rfl, _⟩ := okWide_struct Try.underlying71 (hval 0 71 v0 rfl rfl)
  have hK0' : (Kd.pair (Kd.int .i64) (Kd.pair (Kd.int .i64) (Kd.pair (Kd.int .i64) (Kd.pair k69 (Kd.slice 9 Kd.string))))).K W x0 cs0.toList := hK0
  obtain ⟨_, _, hcs0, rfl, ⟨_, _, rfl, rfl, ⟨_, _, rfl, rfl, ⟨_, _, rfl, ⟨_, _, rfl, rfl, ⟨_, _, rfl, rfl, rfl⟩⟩, ⟨A0_0, c0_0, rfl, hl0_0, hC0_0⟩⟩⟩⟩⟩ := hK0'
  obtain rfl : cs0 = #[.int .i64 x0.1, .int .i64 x0.2.1, .int .i64 x0.2.2.1, .int .i64 x0.2.2.2.1.f0, .string x0.2.2.2.1.f1, .string x0.2.2.2.1.f2, .slice A0_0 x0.2.2.2.2.length c0_0] := by apply Array.toList_inj.1; rw [hcs0]; rfl
  clear hA0 hval0 hsz0 hsz
  obtain ⟨k, hk⟩ := pure x0 ok0
  refine (Go.Proofs.Ytlmpbngndcagbaa.G.laws_FnExactCmdText.calls k x0.1 x0.2.1 x0.2.2.1 x0.2.2.2.1.f0 x0.2.2.2.1.f1 x0.2.2.2.1.f2 A0_0 c0_0 x0.2.2.2.2 true W hC0_0 hl0_0 hk).mono fun e W' ⟨he, bel⟩ => ?_
  subst he
  exact ⟨_, rfl, _, _, _, [], _, [], hW', trodAll_mk1 (shut_bool Try.underlying4 _), (trodAll_cons_mk (Below.trod laidOut (by kernel_rfl) (of_decide_eq_true (by kernel_rfl)) k0 bel lt0) trodAll_mk0), rfl, bel.frame _, fun h => by cases h⟩
theorem over (pure : FnExactCmdText.Pure) : Rows.fnExactCmdTextRow.holds Try.pinned (OpenSpec.ofChange Rows.fnExactCmdTextSpec) :=
  OpenClaim.holds_of_wide 9 Try.f9 rfl rfl rfl rfl rfl rfl rfl ⟨rfl, rfl, rfl, rfl, rfl⟩ rfl rfl rfl rfl rfl (by kernel_rfl) Try.func9 (by kernel_rfl)
    (of_decide_eq_true (by kernel_rfl)) (by unfold Func.isWrapper; first | (rw [if_pos (by decide +kernel)]; kernel_rfl) | (rw [if_neg (by decide +kernel)]; exact ⟨rfl, rfl⟩))
    (fun os started H enc _ => lifted pure os started H enc)
end Go.Proofs.Ytlmpbngndcagbaa.fnExactCmdText
namespace Go.Proofs.Ytlmpbngndcagbaa
/-- The row, for the claim. -/
theorem fnExactCmdText_holds : Rows.FnExactCmdTextSaid := fnExactCmdText.over Pure.FnExactCmdText
end Go.Proofs.Ytlmpbngndcagbaa
