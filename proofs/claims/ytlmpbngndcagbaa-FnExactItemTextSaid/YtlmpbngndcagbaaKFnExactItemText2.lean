/- ItemText is the reference's; no conditions beside the sizes that a row reads. Part 2 of the claim FnExactItemText, merged by pack.py (this session's program) out of: the print's words, cut to what is needed; texts that gen.py printed (it runs the kit's print in place); texts of this session. -/
import Derived.ChangeArms
import Derived.SizedLaws
import Derived.DataReads
import Derived.WalkKit
import Derived.RowKit
import Derived.KernelRfl
import Derived.Test.YtlmpbngndcagbaaRows
import Derived.ProofKit
import Derived.OpenShut
import Derived.ShutString
import Derived.ChangeOld
import Derived.Below
import Derived.Test.YtlmpbngndcagbaaKFnExactItemText0
import Derived.Test.YtlmpbngndcagbaaKFnExactItemText1
namespace Go.Proofs.Ytlmpbngndcagbaa.Open
open Go.RowKit Go.Proofs.YtlmpbngndcagbaaW.PrintWords
/-- Whatever is read at type t is of the kind k, and meets ok. -/
def Opn {α : Type} (P : Program) (t : TypeId) (k : Kd α) (ok : α → Prop) : Prop :=
  ∀ (H : Type) (enc : TypeId × Value → H) (W : World) (fuel : Nat) (cs : List Value) (d : DataW H) (ps : List MemPlace),
    DataW.trod enc P W 0 (fun _ => true) true fuel t cs = some (d, ps) → (∀ n ∈ d.weights P t, n ≤ reachBytes) → ∃ x, k.K W x cs ∧ ok x
theorem Opn.int {P : Program} {t : TypeId} {q : IntKind} (ht : P.underlying t = some (.int q)) : Opn P t (Kd.int q) (fun n => (Lit.int q n).wf = true) := by
  intro H enc W fuel cs d ps h _
  obtain ⟨n, rfl, _, hw⟩ := DataW.trod_int ht h
  exact ⟨n, rfl, hw⟩
theorem Opn.bool {P : Program} {t : TypeId} (ht : P.underlying t = some .bool) : Opn P t Kd.bool (fun _ => True) := by
  intro H enc W fuel cs d ps h _
  obtain ⟨b, rfl, _⟩ := DataW.trod_bool ht h
  exact ⟨b, rfl, trivial⟩
theorem Opn.string {P : Program} {t : TypeId} (ht : P.underlying t = some .string) : Opn P t Kd.string (fun s => s.size ≤ 140737488351232) := by
  intro H enc W fuel cs d ps h hz
  obtain ⟨s, rfl, hx, _⟩ := DataW.trod_string ht h
  refine ⟨s, rfl, ?_⟩
  obtain ⟨rfl, _⟩ := Prod.mk.inj hx
  have := hz s.data.toList.length (by simp [DataW.weights])
  rw [Array.length_toList] at this
  exact this
theorem Opn.mono {α : Type} {P : Program} {t : TypeId} {k : Kd α} {ok ok' : α → Prop} (h : Opn P t k ok) (hok : ∀ x, ok x → ok' x) : Opn P t k ok' := by
  intro H enc W fuel cs d ps hd hz
  obtain ⟨x, hx, ho⟩ := h H enc W fuel cs d ps hd hz
  exact ⟨x, hx, hok x ho⟩
/-- The fields from one on, one behind the other. -/
def OpnFs {α : Type} (P : Program) (fs : List Field) (off : Nat) (k : Kd α) (ok : α → Prop) : Prop :=
  ∀ (H : Type) (enc : TypeId × Value → H) (W : World) (fuel : Nat) (cs : List Value) (xs : List (DataW H × List MemPlace)),
    xs.length = fs.length → (∀ (i : Nat) (f : Field), fs[i]? = some f → DataW.trod enc P W 0 (fun _ => true) true fuel f.type ((cs.drop f.offset).take (P.cellsOf f.type)) = xs[i]?) →
    (∀ n ∈ DataW.weightsEach P (fs.map (·.type)) (xs.map (·.1)), n ≤ reachBytes) → ∃ x, k.K W x ((cs.drop off).take k.sz) ∧ ok x
theorem OpnFs.one {α : Type} {P : Program} {f : Field} {off : Nat} {k : Kd α} {ok : α → Prop} (ho : f.offset = off) (hc : P.cellsOf f.type = k.sz) (h : Opn P f.type k ok) : OpnFs P [f] off k ok := by
  intro H enc W fuel cs xs hl hx hz
  have h0 := hx 0 f rfl
  rw [ho, hc] at h0
  match xs, hl with
  | [x], _ =>
    refine h H enc W fuel _ x.1 x.2 h0 (fun n hn => hz n ?_)
    simp [DataW.weightsEach, hn]
theorem OpnFs.cons {α β : Type} {P : Program} {f : Field} {fs : List Field} {off : Nat} {k : Kd α} {k2 : Kd β} {ok : α → Prop} {ok2 : β → Prop} (ho : f.offset = off) (hc : P.cellsOf f.type = k.sz) (h : Opn P f.type k ok)
    (h2 : OpnFs P fs (off + k.sz) k2 ok2) : OpnFs P (f :: fs) off (Kd.pair k k2) (fun x => ok x.1 ∧ ok2 x.2) := by
  intro H enc W fuel cs xs hl hx hz
  have h0 := hx 0 f rfl
  rw [ho, hc] at h0
  match xs, hl with
  | x :: xs, hl =>
    obtain ⟨a, ha, hoa⟩ := h H enc W fuel _ x.1 x.2 h0 (fun n hn => hz n (by simp [DataW.weightsEach, hn]))
    obtain ⟨b, hb, hob⟩ := h2 H enc W fuel cs xs (by simpa using hl) (fun i g hg => by simpa using hx (i + 1) g (by simpa using hg)) (fun n hn => hz n (by simp only [List.map_cons, DataW.weightsEach, List.mem_append]; exact Or.inr hn))
    refine ⟨(a, b), ⟨_, _, ?_, ha, hb⟩, hoa, hob⟩
    show (cs.drop off).take (k.sz + k2.sz) = _
    rw [List.take_add, List.drop_drop]
theorem Opn.struct {α : Type} {P : Program} {t : TypeId} {fs : Array Field} {k : Kd α} {ok : α → Prop} (ht : P.underlying t = some (.struct fs)) (hc : P.cellsOf t = k.sz) (h : OpnFs P fs.toList 0 k ok) : Opn P t k ok := by
  intro H enc W fuel cs d ps hd hz
  obtain ⟨xs, n, rfl, hx, hl, hxl, hf⟩ := DataW.trod_struct ht hd
  obtain ⟨rfl, _⟩ := Prod.mk.inj hx
  obtain ⟨x, hK, ho⟩ := h H enc W n cs xs (by simpa using hxl) (fun i f hi => hf i f (by simpa using hi)) (fun m hm => hz m (by simp only [DataW.weights, ht]; exact hm))
  refine ⟨x, ?_, ho⟩
  rw [List.drop_zero, List.take_of_length_le (by omega)] at hK
  exact hK
theorem Opn.iso {α β : Type} {P : Program} {t : TypeId} {k : Kd α} {ok : α → Prop} {f : β → α} (g : α → β) (hg : ∀ x, f (g x) = x) (h : Opn P t k ok) : Opn P t (Kd.iso k f) (fun y => ok (f y)) := by
  intro H enc W fuel cs d ps hd hz
  obtain ⟨x, hx, ho⟩ := h H enc W fuel cs d ps hd hz
  exact ⟨g x, by show k.K W (f (g x)) cs; rw [hg]; exact hx, by show ok (f (g x)); rw [hg]; exact ho⟩
theorem weightsAll_mem {H : Type} {P : Program} {e : TypeId} : ∀ {l : List (DataW H)} {d : DataW H}, d ∈ l → ∀ n ∈ d.weights P e, n ∈ DataW.weightsAll P e l
  | a :: l, d, hd, n, hn => by
    simp only [DataW.weightsAll, List.mem_append]
    rcases List.mem_cons.1 hd with rfl | hd
    · exact .inl hn
    · exact .inr (weightsAll_mem hd n hn)
theorem choose_list {α : Type} (p : Nat → α → Prop) : ∀ (n : Nat), (∀ i, i < n → ∃ x, p i x) → ∃ xs : List α, xs.length = n ∧ ∀ i x, xs[i]? = some x → p i x
  | 0, _ => ⟨[], rfl, fun i x h => by simp at h⟩
  | n + 1, h => by
    obtain ⟨xs, hl, hx⟩ := choose_list p n (fun i hi => h i (by omega))
    obtain ⟨y, hy⟩ := h n (by omega)
    refine ⟨xs ++ [y], by simp [hl], fun i x hi => ?_⟩
    rcases Nat.lt_or_ge i n with hin | hin
    · rw [List.getElem?_append_left (by omega)] at hi
      exact hx i x hi
    · rw [List.getElem?_append_right (by omega)] at hi
      have : i - xs.length = 0 := by
        rcases Nat.eq_zero_or_pos (i - xs.length) with h0 | h0
        · exact h0
        · rw [List.getElem?_eq_none (by simp; omega)] at hi
          cases hi
      rw [this] at hi
      simp only [List.getElem?_cons_zero, Option.some.injEq] at hi
      subst hi
      have : i = n := by omega
      subst this
      exact hy
theorem Opn.slice {α : Type} {P : Program} {t e : TypeId} {k : Kd α} {ok : α → Prop} (B : Nat) (ht : P.underlying t = some (.slice e)) (hc : P.cellsOf e = k.sz) (hB : P.bytesOf e = B) (h : Opn P e k ok) :
    Opn P t (Kd.slice e k) (fun xs => (∀ x ∈ xs, ok x) ∧ xs.length * B ≤ 140737488351232) := by
  intro H enc W fuel cs d ps hd hz
  rcases DataW.trod_slice ht hd with ⟨rfl, _⟩ | ⟨a, len, cap, elems, rest, n, rfl, rfl, hx, _, hl, hm, hel, hcell, _, _⟩
  · exact ⟨[], ⟨none, 0, rfl, Nat.le_refl _, Kd.C_nil _ _⟩, by simp, by simp⟩
  · obtain ⟨rfl, _⟩ := Prod.mk.inj hx
    have hz0 := hz (((elems.map (·.1)).length + (rest.map (·.1)).length) * P.bytesOf e) (by simp only [DataW.weights, ht]; exact List.mem_cons_self)
    have hpick : ∀ i, i < len → ∃ x : α, (∃ c, c.length = k.sz ∧ k.K W x c ∧ ∀ j u, c[j]? = some u → W.cell? (a.add (i * k.sz + j)) = some u) ∧ ok x := by
      intro i hi
      have h1 := hcell i hi
      rw [List.getElem?_eq_getElem (by omega)] at h1
      obtain ⟨c, hc1, hc2⟩ := Option.bind_eq_some_iff.1 h1
      obtain ⟨_, hcl, hcc⟩ := World.cells?_some hc1
      obtain ⟨x, hx, ho⟩ := h H enc W n c _ _ hc2 (fun m hm => hz m (by
        simp only [DataW.weights, ht, List.mem_cons, List.mem_append]
        exact .inr (.inl (weightsAll_mem (List.mem_map.2 ⟨_, List.getElem_mem (by omega), rfl⟩) m hm))))
      refine ⟨x, ⟨c, by omega, hx, fun j u hu => ?_⟩, ho⟩
      have hj : j < c.length := by
        rcases Nat.lt_or_ge j c.length with hj | hj
        · exact hj
        · rw [List.getElem?_eq_none hj] at hu; cases hu
      have := hcc j (by omega)
      rw [hu, hc] at this
      rw [← this]
      rw [Addr.add_add]
    obtain ⟨xs, hxl, hxs⟩ := choose_list _ len hpick
    subst hxl
    refine ⟨xs, ⟨some a, cap, rfl, hl, rfl, by unfold maxLen at hm; omega, fun _ => ⟨a, rfl, fun j p hj => (hxs j p hj).1⟩⟩, fun x hx => ?_, ?_⟩
    · obtain ⟨i, hi⟩ := List.getElem?_of_mem hx
      exact (hxs i x hi).2
    · rw [hB] at hz0
      refine Nat.le_trans (Nat.mul_le_mul_right _ ?_) hz0
      simp only [List.length_map]
      omega
theorem weights_of {H : Type} {P : Program} {ts : List TypeId} {ds : List (DataW H)} {j : Nat} {t : TypeId} {d : DataW H} (hsz : (DataW.weightsEach P ts ds).all (· ≤ reachBytes) = true) (ht : ts[j]? = some t) (hd : ds[j]? = some d) :
    ∀ n ∈ d.weights P t, n ≤ reachBytes := fun n hn => by
  have := List.all_eq_true.1 hsz _ (DataW.weights_mem_each ht hd n hn)
  simpa using this
end Go.Proofs.Ytlmpbngndcagbaa.Open

namespace Go.Proofs.Ytlmpbngndcagbaa.Ok
open Go.RowKit Go.Proofs.Ytlmpbngndcagbaa.Open Go.Proofs.Ytlmpbngndcagbaa.G Go.Proofs.YtlmpbngndcagbaaW.PrintWords Go.Proofs.YtlmpbngndcagbaaW.PrintLast
set_option linter.unusedVariables false
theorem wf_int {k : IntKind} {n : Int} (h : (Lit.int k n).wf = true) : k.min ≤ n ∧ n ≤ k.max := by
  simpa [Lit.wf] using h
def okT9 (s : ByteArray) : Prop := s.size ≤ 140737488351232
set_option maxRecDepth 100000 in
theorem opn9 : Opn Try.prog 9 Kd.string okT9 := Opn.string Try.underlying9
def okT3 (n : Int) : Prop := -9223372036854775808 ≤ n ∧ n ≤ 9223372036854775807
set_option maxRecDepth 100000 in
theorem opn3 : Opn Try.prog 3 (Kd.int .i64) okT3 := (Opn.int Try.underlying3).mono (fun n h => by have e := wf_int (k := .i64) h; rw [show IntKind.min .i64 = -9223372036854775808 from by decide, show IntKind.max .i64 = 9223372036854775807 from by decide] at e; exact e)
def okT54 (x : S54) : Prop := okT9 x.f0 ∧ okT9 x.f1 ∧ okT3 x.f2
set_option maxRecDepth 100000 in
theorem opn54 : Opn Try.prog 54 k54 okT54 := (Opn.iso (f := fun x : S54 => (x.f0, x.f1, x.f2)) (fun p => (⟨p.1, p.2.1, p.2.2⟩ : S54)) (fun _ => rfl) (Opn.struct (k := (Kd.pair Kd.string (Kd.pair Kd.string (Kd.int .i64)))) Try.underlying54 (by kernel_rfl) (OpnFs.cons rfl (by kernel_rfl) opn9 (OpnFs.cons rfl (by kernel_rfl) opn9 (OpnFs.one rfl (by kernel_rfl) opn3))))).mono (fun _ h => h)
end Go.Proofs.Ytlmpbngndcagbaa.Ok

namespace Go.Proofs.Ytlmpbngndcagbaa.G.fnExactItemText
open Go.RowKit Go.Proofs.Ytlmpbngndcagbaa.Open Go.Proofs.Ytlmpbngndcagbaa.Ok Go.Proofs.Ytlmpbngndcagbaa.G Go.Proofs.YtlmpbngndcagbaaW.PrintWords Go.Proofs.YtlmpbngndcagbaaW.PrintLast
set_option linter.unusedVariables false
def FnExactItemText.okIn (x0 : S54) : Prop := okT54 x0
def FnExactItemText.Pure : Prop := ∀ (x0 : S54), FnExactItemText.okIn x0 → ∃ k, laws_FnExactItemText.f k x0.f0 x0.f1 x0.f2 = some true
end Go.Proofs.Ytlmpbngndcagbaa.G.fnExactItemText

namespace Go.Proofs.Ytlmpbngndcagbaa.PL
open Go.RowKit Go.Proofs.YtlmpbngndcagbaaW.PrintWords
theorem Ev.const {α : Type} {x : Option α} {r : α} (h : x = some r) : Ev (fun _ => x) r := ⟨0, fun _ _ => h⟩
theorem Ev.pos {α : Type} {c : Prop} [Decidable c] {f g : Nat → Option α} {r : α} (hc : c) (h : Ev f r) : Ev (fun k => if c then f k else g k) r := by
  obtain ⟨K, h⟩ := h
  exact ⟨K, fun k hk => (if_pos hc).trans (h k hk)⟩
theorem Ev.neg {α : Type} {c : Prop} [Decidable c] {f g : Nat → Option α} {r : α} (hc : ¬ c) (h : Ev g r) : Ev (fun k => if c then f k else g k) r := by
  obtain ⟨K, h⟩ := h
  exact ⟨K, fun k hk => (if_neg hc).trans (h k hk)⟩
theorem Ev.to {α : Type} {f : Nat → Option α} {r s : α} (h : Ev f r) (e : r = s) : Ev f s := e ▸ h
theorem w64 {x : Int} (h0 : -9223372036854775808 ≤ x) (h1 : x ≤ 9223372036854775807) : wrap64 x = x := by
  unfold wrap64
  omega
theorem wsucc {i : Nat} (h : i < 9223372036854775807) : wrap64 ((i : Int) + 1) = ((i + 1 : Nat) : Int) := by
  rw [w64 (by omega) (by omega)]
  omega
/-- What is left of a when m are taken off, or -1. -/
def left (a : Int) (m : Nat) : Int := if (m : Int) ≤ a then a - m else -1
theorem left_pos {a : Int} {m : Nat} (h : (m : Int) ≤ a) : left a m = a - m := if_pos h
theorem left_neg {a : Int} {m : Nat} (h : ¬ (m : Int) ≤ a) : left a m = -1 := if_neg h
end Go.Proofs.Ytlmpbngndcagbaa.PL

namespace Go.Proofs.Ytlmpbngndcagbaa.Q
open Go.RowKit Go.Proofs.Ytlmpbngndcagbaa.PL Go.Proofs.YtlmpbngndcagbaaW.PrintWords
def bs (s : ByteArray) : List UInt8 := s.data.toList
theorem bs_length (s : ByteArray) : (bs s).length = s.size := by unfold bs; rw [Array.length_toList]; rfl
theorem bs_inj {a b : ByteArray} (h : bs a = bs b) : a = b := by
  cases a; cases b
  simp [bs] at h
  simp [h]
theorem bs_append (a b : ByteArray) : bs (a ++ b) = bs a ++ bs b := by simp [bs]
theorem append_empty (a : ByteArray) : a ++ (⟨#[]⟩ : ByteArray) = a := bs_inj (by rw [bs_append]; exact List.append_nil _)
theorem bt_eq (s : ByteArray) (i : Nat) (h : i < s.size) : bt s (i : Int) = (((bs s)[i]'(by rw [bs_length]; exact h)).toNat : Int) := by
  unfold bt bs
  simp only [Int.toNat_natCast, h, dif_pos]
  rfl
theorem drop_bs (s : ByteArray) (i : Nat) (h : i < s.size) : (bs s).drop i = (bs s)[i]'(by rw [bs_length]; exact h) :: (bs s).drop (i + 1) := List.drop_eq_getElem_cons (by rw [bs_length]; exact h)
theorem u8_eq {a : UInt8} {n : Nat} (hn : n < 256) : ((a.toNat : Int) = (n : Int)) ↔ a = UInt8.ofNat n := by
  constructor
  · intro h
    apply UInt8.toNat.inj
    rw [UInt8.toNat_ofNat']
    omega
  · intro h
    rw [h, UInt8.toNat_ofNat']
    omega
end Go.Proofs.Ytlmpbngndcagbaa.Q

namespace Go.Proofs.Ytlmpbngndcagbaa.Q
open Go.RowKit Go.Proofs.Ytlmpbngndcagbaa.G Go.Proofs.Ytlmpbngndcagbaa.PL Go.Proofs.YtlmpbngndcagbaaW.PrintWords
def clean (s : ByteArray) : Bool := (bs s).all fun b => b != 32 && b != 10
theorem spec_l10Clean_l0 (s : ByteArray) (hs : s.size ≤ 140737488351232) : ∀ (d i : Nat), i + d = s.size → Ev (fun k => spec_l10Clean.l0 k s i) (((bs s).drop i).all fun b => b != 32 && b != 10) := by
  intro d
  induction d with
  | zero =>
    intro i hi
    refine Ev.step (fun _ => rfl) ?_
    simp only [spec_l10Clean.l0]
    refine Ev.neg (by omega) ?_
    rw [List.drop_of_length_le (by rw [bs_length]; omega)]
    exact Ev.const rfl
  | succ d ih =>
    intro i hi
    have hlt : i < s.size := by omega
    refine Ev.step (fun _ => rfl) ?_
    simp only [spec_l10Clean.l0]
    rw [bt_eq s i hlt, drop_bs s i hlt, List.all_cons, wsucc (by omega)]
    refine Ev.pos (by omega) ?_
    refine Ev.pos (by omega) ?_
    generalize (bs s)[i]'_ = b
    by_cases c : (b.toNat : Int) = 32
    · refine Ev.pos c ?_
      have : b = 32 := (u8_eq (n := 32) (by omega)).1 c
      exact Ev.const (by simp [this])
    · refine Ev.neg c ?_
      have h1 : ¬ b = 32 := fun h => c ((u8_eq (n := 32) (by omega)).2 h)
      by_cases c2 : (b.toNat : Int) = 10
      · refine Ev.pos c2 ?_
        have : b = 10 := (u8_eq (n := 10) (by omega)).1 c2
        exact Ev.const (by simp [this])
      · refine Ev.neg c2 ?_
        have h2 : ¬ b = 10 := fun h => c2 ((u8_eq (n := 10) (by omega)).2 h)
        refine Ev.to (ih (i + 1) (by omega)) ?_
        simp [h1, h2]
theorem spec_l10Clean_ev (s : ByteArray) (hs : s.size ≤ 140737488351232) : Ev (fun k => spec_l10Clean.f k s) (clean s) := by
  unfold spec_l10Clean.f
  exact spec_l10Clean_l0 s hs s.size 0 (by omega)
theorem impl_isPlain_l0 (s : ByteArray) (hs : s.size ≤ 140737488351232) : ∀ (d i : Nat), i + d = s.size → Ev (fun k => impl_isPlain.l0 k s i) (((bs s).drop i).all fun b => b != 32 && b != 10) := by
  intro d
  induction d with
  | zero =>
    intro i hi
    refine Ev.step (fun _ => rfl) ?_
    simp only [impl_isPlain.l0]
    refine Ev.neg (by omega) ?_
    rw [List.drop_of_length_le (by rw [bs_length]; omega)]
    exact Ev.const rfl
  | succ d ih =>
    intro i hi
    have hlt : i < s.size := by omega
    refine Ev.step (fun _ => rfl) ?_
    simp only [impl_isPlain.l0]
    rw [bt_eq s i hlt, drop_bs s i hlt, List.all_cons, wsucc (by omega)]
    refine Ev.pos (by omega) ?_
    refine Ev.pos (by omega) ?_
    generalize (bs s)[i]'_ = b
    by_cases c : (b.toNat : Int) = 32
    · refine Ev.pos c ?_
      have : b = 32 := (u8_eq (n := 32) (by omega)).1 c
      exact Ev.const (by simp [this])
    · refine Ev.neg c ?_
      have h1 : ¬ b = 32 := fun h => c ((u8_eq (n := 32) (by omega)).2 h)
      by_cases c2 : (b.toNat : Int) = 10
      · refine Ev.pos c2 ?_
        have : b = 10 := (u8_eq (n := 10) (by omega)).1 c2
        exact Ev.const (by simp [this])
      · refine Ev.neg c2 ?_
        have h2 : ¬ b = 10 := fun h => c2 ((u8_eq (n := 10) (by omega)).2 h)
        refine Ev.to (ih (i + 1) (by omega)) ?_
        simp [h1, h2]
theorem impl_isPlain_ev (s : ByteArray) (hs : s.size ≤ 140737488351232) : Ev (fun k => impl_isPlain.f k s) (clean s) := by
  unfold impl_isPlain.f
  exact impl_isPlain_l0 s hs s.size 0 (by omega)
end Go.Proofs.Ytlmpbngndcagbaa.Q

namespace Go.Proofs.Ytlmpbngndcagbaa.Q
open Go.RowKit Go.Proofs.Ytlmpbngndcagbaa.G Go.Proofs.Ytlmpbngndcagbaa.PL Go.Proofs.YtlmpbngndcagbaaW.PrintWords
def itemOk (key val : ByteArray) (freq : Int) : Bool := decide (1 ≤ key.size) && decide (key.size ≤ 20) && clean key && decide (val.size ≤ 40) && clean val && decide (0 ≤ freq) && decide (freq ≤ 3)
theorem impl_within_eq (x lo hi : Int) : impl_within.f x lo hi = some (decide (lo ≤ x) && decide (x ≤ hi)) := by
  unfold impl_within.f
  by_cases h : x ≥ lo
  · rw [if_pos h]; simp [h]
  · rw [if_neg h]
    have : ¬ lo ≤ x := h
    simp [this]
theorem spec_l01In_eq (x lo hi : Int) : spec_l01In.f x lo hi = some (decide (lo ≤ x) && decide (x ≤ hi)) := by
  unfold spec_l01In.f
  by_cases h : x ≥ lo
  · rw [if_pos h]; simp [h]
  · rw [if_neg h]
    have : ¬ lo ≤ x := h
    simp [this]
theorem spec_ItemOk_ev (key val : ByteArray) (freq : Int) (h0 : key.size ≤ 140737488351232) (h1 : val.size ≤ 140737488351232) : Ev (fun k => spec_ItemOk.f k key val freq) (itemOk key val freq) := by
  unfold spec_ItemOk.f itemOk
  by_cases a : 1 ≤ key.size
  rotate_left
  · exact Ev.neg (by omega) (Ev.const (by simp [a]))
  refine Ev.pos (by omega) ?_
  by_cases b : key.size ≤ 20
  rotate_left
  · exact Ev.neg (by omega) (Ev.const (by simp [b]))
  refine Ev.pos (by omega) ?_
  refine Ev.bind (spec_l10Clean_ev key h0) ?_
  cases c : clean key
  · exact Ev.neg (by simp) (Ev.const (by simp))
  refine Ev.pos rfl ?_
  by_cases d : val.size ≤ 40
  rotate_left
  · exact Ev.neg (by omega) (Ev.const (by simp [d]))
  refine Ev.pos (by omega) ?_
  refine Ev.bind (spec_l10Clean_ev val h1) ?_
  cases e : clean val
  · exact Ev.neg (by simp) (Ev.const (by simp))
  refine Ev.pos rfl ?_
  refine Ev.bind (Ev.const (spec_l01In_eq _ _ _)) ?_
  exact Ev.const (by simp [a, b, d])
theorem impl_ItemOk_ev (key val : ByteArray) (freq : Int) (h0 : key.size ≤ 140737488351232) (h1 : val.size ≤ 140737488351232) : Ev (fun k => impl_ItemOk.f k key val freq) (itemOk key val freq) := by
  unfold impl_ItemOk.f itemOk
  refine Ev.bind (Ev.const (impl_within_eq _ _ _)) ?_
  by_cases a : 1 ≤ key.size
  rotate_left
  · exact Ev.neg (by simp; omega) (Ev.const (by simp [a]))
  by_cases b : key.size ≤ 20
  rotate_left
  · exact Ev.neg (by simp; omega) (Ev.const (by simp [b]))
  refine Ev.pos (by simp; omega) ?_
  by_cases d : val.size ≤ 40
  rotate_left
  · exact Ev.neg (by omega) (Ev.const (by simp [d]))
  refine Ev.pos (by omega) ?_
  refine Ev.bind (impl_isPlain_ev key h0) ?_
  cases c : clean key
  · exact Ev.neg (by simp) (Ev.const (by simp))
  refine Ev.pos rfl ?_
  refine Ev.bind (impl_isPlain_ev val h1) ?_
  cases e : clean val
  · exact Ev.neg (by simp) (Ev.const (by simp))
  refine Ev.pos rfl ?_
  refine Ev.bind (Ev.const (impl_within_eq _ _ _)) ?_
  exact Ev.const (by simp [a, b, d])
end Go.Proofs.Ytlmpbngndcagbaa.Q

namespace Go.Proofs.Ytlmpbngndcagbaa.Q
open Go.RowKit Go.Proofs.Ytlmpbngndcagbaa.G Go.Proofs.Ytlmpbngndcagbaa.PL Go.Proofs.YtlmpbngndcagbaaW.PrintWords
def isNum (a : Int) : Bool := decide (0 ≤ a) && decide (a ≤ 4294967295)
theorem spec_l01Num_eq (a : Int) : spec_l01Num.f a = some (isNum a) := by
  unfold spec_l01Num.f isNum
  by_cases h : a ≥ 0
  · rw [if_pos h]; simp [h]
  · rw [if_neg h]
    have : ¬ 0 ≤ a := h
    simp [this]
theorem impl_isNum_eq (a : Int) : impl_isNum.f a = some (isNum a) := by
  unfold impl_isNum.f isNum
  rw [impl_within_eq]
  rfl
end Go.Proofs.Ytlmpbngndcagbaa.Q

namespace Go.Proofs.Ytlmpbngndcagbaa.Q
open Go.RowKit Go.Proofs.Ytlmpbngndcagbaa.G Go.Proofs.Ytlmpbngndcagbaa.PL Go.Proofs.YtlmpbngndcagbaaW.PrintWords
def dg (n : Nat) : ByteArray := strOfNums [(48 + (n : Int))]
def dec (n : Nat) : ByteArray := if n < 10 then dg n else dec (n / 10) ++ dg (n % 10)
termination_by n
decreasing_by omega
theorem strOfNums_size1 (x : Int) : (strOfNums [x]).size = 1 := by simp [strOfNums, ByteArray.size]
theorem dg_size (n : Nat) : (dg n).size = 1 := strOfNums_size1 _
theorem dec_small {n : Nat} (h : n < 10) : dec n = dg n := by rw [dec, if_pos h]
theorem dec_big {n : Nat} (h : ¬ n < 10) : dec n = dec (n / 10) ++ dg (n % 10) := by rw [dec, if_neg h]
theorem dec_size : ∀ (m n : Nat), n < 10 ^ (m + 1) → 1 ≤ (dec n).size ∧ (dec n).size ≤ m + 1
  | 0, n, h => by rw [dec_small (by simpa using h), dg_size]; omega
  | m + 1, n, h => by
    by_cases c : n < 10
    · rw [dec_small c, dg_size]; omega
    · rw [dec_big c, ByteArray.size_append, dg_size]
      have := dec_size m (n / 10) (by rw [Nat.pow_succ] at h; omega)
      omega
theorem dec_size10 {n : Nat} (h : n ≤ 4294967295) : 1 ≤ (dec n).size ∧ (dec n).size ≤ 10 := dec_size 9 n (by omega)
theorem dig_w {n : Nat} (h : n < 10) : wrap64 (48 + (n : Int)) % 256 = 48 + (n : Int) := by rw [w64 (by omega) (by omega)]; omega
theorem tdiv10 (n : Nat) : Int.tdiv (n : Int) 10 = ((n / 10 : Nat) : Int) := by
  rw [Int.tdiv_eq_ediv_of_nonneg (by omega)]; omega
theorem tmod10 (n : Nat) : Int.tmod (n : Int) 10 = ((n % 10 : Nat) : Int) := by
  rw [Int.tmod_eq_emod_of_nonneg (by omega)]; omega
def numText (a : Int) : ByteArray := if isNum a = true then dec a.toNat else ⟨#[]⟩
theorem spec_NumText_nat : ∀ (m n : Nat), n < 10 ^ (m + 1) → n ≤ 4294967295 → Ev (fun k => spec_NumText.f k (n : Int)) (dec n) := by
  intro m
  induction m with
  | zero =>
    intro n h hb
    refine Ev.step (fun _ => rfl) ?_
    simp only [spec_NumText.f]
    refine Ev.bind (Ev.const (spec_l01Num_eq _)) ?_
    refine Ev.pos (by simp [isNum]; omega) ?_
    refine Ev.pos (by simp at h; omega) ?_
    rw [dig_w (by simpa using h), dec_small (by simpa using h)]
    exact Ev.const rfl
  | succ m ih =>
    intro n h hb
    refine Ev.step (fun _ => rfl) ?_
    simp only [spec_NumText.f]
    refine Ev.bind (Ev.const (spec_l01Num_eq _)) ?_
    refine Ev.pos (by simp [isNum]; omega) ?_
    by_cases c : n < 10
    · refine Ev.pos (by omega) ?_
      rw [dig_w c, dec_small c]
      exact Ev.const rfl
    · refine Ev.neg (by omega) ?_
      rw [tdiv10, tmod10, dig_w (by omega), w64 (x := ((n / 10 : Nat) : Int)) (by omega) (by omega), dec_big c]
      have hz := dec_size10 (n := n / 10) (by omega)
      have hd := dg_size (n % 10)
      refine Ev.bind (ih (n / 10) (by rw [Nat.pow_succ] at h; omega) (by omega)) ?_
      refine Ev.bind (Ev.const rfl) ?_
      refine Ev.pos ?_ (Ev.const rfl)
      have : (strOfNums [48 + ((n % 10 : Nat) : Int)]).size = 1 := strOfNums_size1 _
      omega
theorem spec_NumText_ev (a : Int) : Ev (fun k => spec_NumText.f k a) (numText a) := by
  unfold numText
  cases c : isNum a
  · refine Ev.step (fun _ => rfl) ?_
    simp only [spec_NumText.f]
    refine Ev.bind (Ev.const (spec_l01Num_eq _)) ?_
    exact Ev.neg (by simp [c]) (Ev.const (by simp))
  · have h : 0 ≤ a ∧ a ≤ 4294967295 := by simpa [isNum] using c
    obtain ⟨n, rfl⟩ := Int.eq_ofNat_of_zero_le h.1
    exact spec_NumText_nat 9 n (by omega) (by omega)
theorem impl_NumText_nat : ∀ (m n : Nat) (y : ByteArray), n < 10 ^ (m + 1) → n ≤ 4294967295 → y.size + m ≤ 1000 → Ev (fun k => impl_NumText.l0 k (n : Int) y) (dec n ++ y) := by
  intro m
  induction m with
  | zero =>
    intro n y h hb hy
    have hz : (strOfNums [48 + (n : Int)]).size = 1 := strOfNums_size1 _
    refine Ev.step (fun _ => rfl) ?_
    simp only [impl_NumText.l0]
    refine Ev.neg (by simp at h; omega) ?_
    rw [dig_w (by simpa using h), dec_small (by simpa using h)]
    refine Ev.bind (Ev.const rfl) ?_
    exact Ev.pos (by omega) (Ev.const rfl)
  | succ m ih =>
    intro n y h hb hy
    refine Ev.step (fun _ => rfl) ?_
    simp only [impl_NumText.l0]
    by_cases c : n < 10
    · have hz : (strOfNums [48 + (n : Int)]).size = 1 := strOfNums_size1 _
      refine Ev.neg (by omega) ?_
      rw [dig_w c, dec_small c]
      refine Ev.bind (Ev.const rfl) ?_
      exact Ev.pos (by omega) (Ev.const rfl)
    · refine Ev.pos (by omega) ?_
      rw [tdiv10, tmod10, dig_w (by omega), w64 (x := ((n / 10 : Nat) : Int)) (by omega) (by omega), dec_big c]
      have hz : (strOfNums [48 + ((n % 10 : Nat) : Int)]).size = 1 := strOfNums_size1 _
      refine Ev.bind (Ev.const rfl) ?_
      refine Ev.pos (by omega) ?_
      refine Ev.to (ih (n / 10) _ (by rw [Nat.pow_succ] at h; omega) (by omega) (by rw [ByteArray.size_append, hz]; omega)) ?_
      rw [ByteArray.append_assoc]; rfl
theorem impl_NumText_ev (a : Int) : Ev (fun k => impl_NumText.f k a) (numText a) := by
  unfold impl_NumText.f numText
  refine Ev.bind (Ev.const (impl_isNum_eq a)) ?_
  cases c : isNum a
  · exact Ev.neg (by simp) (Ev.const (by simp))
  · have h : 0 ≤ a ∧ a ≤ 4294967295 := by simpa [isNum] using c
    obtain ⟨n, rfl⟩ := Int.eq_ofNat_of_zero_le h.1
    refine Ev.pos rfl ?_
    refine Ev.to (impl_NumText_nat 9 n ⟨#[]⟩ (by omega) (by omega) (by rw [show (⟨#[]⟩ : ByteArray).size = 0 from rfl]; omega)) ?_
    rw [append_empty, if_pos rfl, Int.toNat_natCast]
theorem numText_size (a : Int) : (numText a).size ≤ 10 := by
  unfold numText
  cases c : isNum a
  · exact Nat.zero_le _
  · have h : 0 ≤ a ∧ a ≤ 4294967295 := by simpa [isNum] using c
    exact (dec_size10 (by omega)).2
end Go.Proofs.Ytlmpbngndcagbaa.Q

namespace Go.Proofs.Ytlmpbngndcagbaa.Q
open Go.RowKit Go.Proofs.Ytlmpbngndcagbaa.G Go.Proofs.Ytlmpbngndcagbaa.PL Go.Proofs.Ytlmpbngndcagbaa.Man Go.Proofs.YtlmpbngndcagbaaW.PrintWords
def plain (s : ByteArray) : Bool := (bs s).all fun b => b != 61 && b != 42
theorem plain_mark (s : ByteArray) : hasMark s = !plain s := by
  unfold hasMark plain bs
  induction s.data.toList with
  | nil => rfl
  | cons x r ih => rw [List.any_cons, List.all_cons, ih]; cases h : x == 61 <;> cases h2 : x == 42 <;> simp_all [bne]
theorem plain_append (a b : ByteArray) : plain (a ++ b) = (plain a && plain b) := by
  unfold plain
  rw [bs_append, List.all_append]
theorem spec_l20Plain_l0 (s : ByteArray) (hs : s.size ≤ 140737488351232) : ∀ (d i : Nat), i + d = s.size → Ev (fun k => spec_l20Plain.l0 k s i) (((bs s).drop i).all fun b => b != 61 && b != 42) := by
  intro d
  induction d with
  | zero =>
    intro i hi
    refine Ev.step (fun _ => rfl) ?_
    simp only [spec_l20Plain.l0]
    refine Ev.neg (by omega) ?_
    rw [List.drop_of_length_le (by rw [bs_length]; omega)]
    exact Ev.const rfl
  | succ d ih =>
    intro i hi
    have hlt : i < s.size := by omega
    refine Ev.step (fun _ => rfl) ?_
    simp only [spec_l20Plain.l0]
    rw [bt_eq s i hlt, drop_bs s i hlt, List.all_cons, wsucc (by omega)]
    refine Ev.pos (by omega) ?_
    refine Ev.pos (by omega) ?_
    generalize (bs s)[i]'_ = b
    by_cases c : (b.toNat : Int) = 61
    · refine Ev.pos c ?_
      have : b = 61 := (u8_eq (n := 61) (by omega)).1 c
      exact Ev.const (by simp [this])
    · refine Ev.neg c ?_
      have h1 : ¬ b = 61 := fun h => c ((u8_eq (n := 61) (by omega)).2 h)
      by_cases c2 : (b.toNat : Int) = 42
      · refine Ev.pos c2 ?_
        have : b = 42 := (u8_eq (n := 42) (by omega)).1 c2
        exact Ev.const (by simp [this])
      · refine Ev.neg c2 ?_
        have h2 : ¬ b = 42 := fun h => c2 ((u8_eq (n := 42) (by omega)).2 h)
        refine Ev.to (ih (i + 1) (by omega)) ?_
        simp [h1, h2]
theorem spec_l20Plain_ev (s : ByteArray) (hs : s.size ≤ 140737488351232) : Ev (fun k => spec_l20Plain.f k s) (plain s) := by
  unfold spec_l20Plain.f
  exact spec_l20Plain_l0 s hs s.size 0 (by omega)
def itemText (key val : ByteArray) (freq : Int) : ByteArray := if itemOk key val freq = true ∧ plain key = true ∧ plain val = true then (((key ++ (⟨#[61]⟩ : ByteArray)) ++ val) ++ (⟨#[42]⟩ : ByteArray)) ++ numText freq else ⟨#[]⟩
theorem itemOk_sizes {key val : ByteArray} {freq : Int} (h : itemOk key val freq = true) : key.size ≤ 20 ∧ val.size ≤ 40 := by
  unfold itemOk at h
  simp only [Bool.and_eq_true, decide_eq_true_eq] at h
  omega
theorem spec_ItemText_ev (key val : ByteArray) (freq : Int) (h0 : key.size ≤ 140737488351232) (h1 : val.size ≤ 140737488351232) : Ev (fun k => spec_ItemText.f k key val freq) (itemText key val freq) := by
  unfold spec_ItemText.f itemText
  refine Ev.bind (spec_ItemOk_ev key val freq h0 h1) ?_
  cases a : itemOk key val freq
  · exact Ev.neg (by simp) (Ev.const (by simp))
  have hs := itemOk_sizes a
  have hn := numText_size freq
  refine Ev.pos rfl ?_
  refine Ev.bind (spec_l20Plain_ev key h0) ?_
  cases b : plain key
  · exact Ev.neg (by simp) (Ev.const (by simp))
  refine Ev.pos rfl ?_
  refine Ev.bind (spec_l20Plain_ev val h1) ?_
  cases c : plain val
  · exact Ev.neg (by simp) (Ev.const (by simp))
  refine Ev.pos rfl ?_
  refine Ev.pos (by omega) (Ev.pos (by omega) (Ev.pos (by omega) ?_))
  refine Ev.bind (spec_NumText_ev freq) ?_
  exact Ev.pos (by omega) (Ev.const (by simp))
theorem impl_ItemText_ev (key val : ByteArray) (freq : Int) (h0 : key.size ≤ 140737488351232) (h1 : val.size ≤ 140737488351232) : Ev (fun k => impl_ItemText.f k key val freq) (itemText key val freq) := by
  unfold impl_ItemText.f itemText
  refine Ev.bind (impl_ItemOk_ev key val freq h0 h1) ?_
  cases a : itemOk key val freq
  · exact Ev.neg (by simp) (Ev.const (by simp))
  have hs := itemOk_sizes a
  have hn := numText_size freq
  refine Ev.pos rfl (Ev.pos (by omega) ?_)
  refine Ev.bind (Ev.const (show strings_ContainsAny.f (key ++ val) (⟨#[61, 42]⟩ : ByteArray) = some (hasMark (key ++ val)) from if_pos ⟨rfl, by rw [ByteArray.size_append]; omega⟩)) ?_
  rw [plain_mark, plain_append]
  cases b : plain key
  · exact Ev.pos (by simp) (Ev.const (by simp))
  cases c : plain val
  · exact Ev.pos (by simp) (Ev.const (by simp))
  refine Ev.neg (by simp) ?_
  refine Ev.pos (by omega) (Ev.pos (by omega) (Ev.pos (by omega) ?_))
  refine Ev.bind (impl_NumText_ev freq) ?_
  exact Ev.pos (by omega) (Ev.const (by simp))
end Go.Proofs.Ytlmpbngndcagbaa.Q

namespace Go.Proofs.Ytlmpbngndcagbaa.Fam
open Go.RowKit Go.Proofs.Ytlmpbngndcagbaa.G Go.Proofs.Ytlmpbngndcagbaa.PL Go.Proofs.Ytlmpbngndcagbaa.Ok Go.Proofs.YtlmpbngndcagbaaW.PrintWords Go.Proofs.YtlmpbngndcagbaaW.PrintLast Go.Proofs.YtlmpbngndcagbaaW.PrintMore
set_option linter.unusedVariables false
set_option linter.unusedSimpArgs false
instance decItem : DecidableEq S57 := fun a b => decidable_of_iff (a.f0 = b.f0 ∧ a.f1 = b.f1 ∧ a.f2 = b.f2) (by cases a; cases b; simp)
theorem szItem_ev (x0 : ByteArray) (x1 : ByteArray) (x2 : Int) (a : Int) (h0 : 0 ≤ a) (h1 : a ≤ 1048576) (o0 : x0.size ≤ 140737488351232) (o1 : x1.size ≤ 140737488351232) : Ev (fun k => laws_szItem.f x0 x1 x2 a) (left a (x0.size + x1.size)) := by
  unfold laws_szItem.f
  by_cases c0 : ((x0.size : Nat) : Int) ≤ a
  rotate_left
  · rw [w64 (x := a - (x0.size : Int)) (by omega) (by omega)]
    refine Ev.pos (by omega) ?_
    exact Ev.const (congrArg some (left_neg (by omega)).symm)
  rw [w64 (x := a - (x0.size : Int)) (by omega) (by omega)]
  refine Ev.neg (by omega) ?_
  by_cases c1 : ((x1.size : Nat) : Int) ≤ a - (x0.size : Nat)
  rotate_left
  · rw [w64 (x := a - (x0.size : Nat) - (x1.size : Int)) (by omega) (by omega)]
    refine Ev.pos (by omega) ?_
    exact Ev.const (congrArg some (left_neg (by omega)).symm)
  rw [w64 (x := a - (x0.size : Nat) - (x1.size : Int)) (by omega) (by omega)]
  refine Ev.neg (by omega) ?_
  exact Ev.const (by first | rfl | exact congrArg some (by rw [left_pos (by omega)] <;> omega))
theorem toItem_ev (x0 : ByteArray) (x1 : ByteArray) (x2 : Int)  : Ev (fun k => laws_toItem.f x0 x1 x2) (x0, x1, x2) := by
  unfold laws_toItem.f
  exact Ev.const rfl
end Go.Proofs.Ytlmpbngndcagbaa.Fam

namespace Go.Proofs.Ytlmpbngndcagbaa.Pure
open Go.RowKit Go.Proofs.Ytlmpbngndcagbaa.G Go.Proofs.Ytlmpbngndcagbaa.PL Go.Proofs.Ytlmpbngndcagbaa.Ok Go.Proofs.Ytlmpbngndcagbaa.Fam Go.Proofs.Ytlmpbngndcagbaa.Q Go.Proofs.YtlmpbngndcagbaaW.PrintWords Go.Proofs.YtlmpbngndcagbaaW.PrintLast Go.Proofs.Ytlmpbngndcagbaa.G.fnExactItemText
theorem FnExactItemText : FnExactItemText.Pure := by
  intro x0 ⟨o1, o2, _⟩
  apply Ev.rounds
  unfold laws_FnExactItemText.f
  refine Ev.bind (szItem_ev _ _ _ 1048576 (by omega) (by omega) o1 o2) ?_
  generalize x0.f0.size + x0.f1.size = m0
  by_cases c0 : (m0 : Int) ≤ 1048576
  rotate_left
  · rw [left_neg c0]; exact Ev.pos (by omega) (Ev.const rfl)
  rw [left_pos c0]
  refine Ev.neg (by omega) ?_
  refine Ev.bind (toItem_ev _ _ _) ?_
  refine Ev.bind (spec_ItemText_ev _ _ _ o1 o2) ?_
  refine Ev.bind (toItem_ev _ _ _) ?_
  refine Ev.bind (impl_ItemText_ev _ _ _ o1 o2) ?_
  exact Ev.pos rfl (Ev.const rfl)
end Go.Proofs.Ytlmpbngndcagbaa.Pure

namespace Go.Proofs.Ytlmpbngndcagbaa.fnExactItemText
open Go.ChangeShapes Go.WideShapes Go.ChangeAt Go.RowKit Go.Proofs.Ytlmpbngndcagbaa.Open Go.Proofs.Ytlmpbngndcagbaa.Ok Go.Proofs.Ytlmpbngndcagbaa.G.fnExactItemText Go.Proofs.Ytlmpbngndcagbaa.G Go.Proofs.YtlmpbngndcagbaaW.PrintWords
set_option linter.unusedVariables false
theorem own : ownKnob Try.prog.godebug = none := by kernel_rfl
theorem laidOut : laidOutB Try.prog = true := by kernel_rfl
set_option maxRecDepth 100000 in
set_option maxHeartbeats 2000000 in
theorem lifted (pure : FnExactItemText.Pure) (os : Os) (started : os.Started) (H : Type) (enc : TypeId × Value → H) :
    ReturnsInHanded {} Try.checked os 7 .any (Rows.fnExactItemTextSpec.pre6 enc Try.prog Try.f7 Rows.fnExactItemTextRow.domain false) (Rows.fnExactItemTextSpec.post enc Try.prog Try.f7 false true false false) := by
  refine returnsInHanded_of_change_sized (C := Try.checked) own started (by kernel_rfl) Try.func7
    (ChangeSpec.witness6 (enc := enc) (C := Try.checked) false ⟨#[], #[.agg #[.string ByteArray.empty, .string ByteArray.empty, .int .i64 0]], []⟩ 8 (by kernel_rfl) (by kernel_rfl) (by kernel_rfl) (by kernel_rfl)) ?_
  intro W base args ds gs before hval0 hW hcnd hsz0 _
  have hsz : (DataW.weightsEach Try.prog (Try.f7.params.toList ++ Rows.fnExactItemTextSpec.plain.varTypes Try.prog) (ds ++ gs)).all (· ≤ reachBytes) = true := hsz0
  have hval : ∀ (j : Nat) t v, Try.f7.params[j]? = some t → args[j]? = some v → Value.okWide Try.prog W .any base t v := hval0
  have hW' := hW
  obtain ⟨p, q, hA0, hV, rfl, hfz, hnd⟩ := hW
  have hA : DataW.TrodAll enc Try.prog W 0 (fun _ => true) true Try.f7.params.toList args.toList ds p := hA0
  rw [Try.params7] at hA hval hsz
  obtain ⟨v0, vs0, d0, ds0, p0, q0, hargs, rfl, rfl, h0, r0⟩ := trodAll_cons hA
  obtain ⟨rfl, rfl, rfl⟩ := trodAll_nil r0
  obtain rfl : args = #[v0] := by cases args; simp_all
  obtain ⟨rfl, rfl⟩ := trodVars_none hV
  have k0 := h0
  have lt0 : ∀ x ∈ p0, x.block < W.heap.size := by obtain ⟨m, hm⟩ := k0; exact DataW.trod_lt m _ _ _ hm
  obtain ⟨fuel0, hf0⟩ := h0
  obtain ⟨x0, hK0, ok0⟩ := opn54 H enc W fuel0 _ _ _ hf0 (weights_of hsz (j := 0) (t := 54) rfl rfl)
  obtain ⟨cs0, rfl, _⟩ := okWide_struct Try.underlying54 (hval 0 54 v0 rfl rfl)
  have hK0' : k54.K W x0 cs0.toList := hK0
  obtain ⟨_, _, hcs0, rfl, ⟨_, _, rfl, rfl, rfl⟩⟩ := hK0'
  obtain rfl : cs0 = #[.string x0.f0, .string x0.f1, .int .i64 x0.f2] := by apply Array.toList_inj.1; rw [hcs0]; rfl
  clear hA0 hval0 hsz0 hsz
  obtain ⟨k, hk⟩ := pure x0 ok0
  refine (Go.Proofs.Ytlmpbngndcagbaa.G.laws_FnExactItemText.calls k x0.f0 x0.f1 x0.f2 true W  hk).mono fun e W' ⟨he, bel⟩ => ?_
  subst he
  exact ⟨_, rfl, _, _, _, [], _, [], hW', trodAll_mk1 (shut_bool Try.underlying4 _), (trodAll_cons_mk (Below.trod laidOut (by kernel_rfl) (of_decide_eq_true (by kernel_rfl)) k0 bel lt0) trodAll_mk0), rfl, bel.frame _, fun h => by cases h⟩
theorem over (pure : FnExactItemText.Pure) : Rows.fnExactItemTextRow.holds Try.pinned (OpenSpec.ofChange Rows.fnExactItemTextSpec) :=
  OpenClaim.holds_of_wide 7 Try.f7 rfl rfl rfl rfl rfl rfl rfl ⟨rfl, rfl, rfl, rfl, rfl⟩ rfl rfl rfl rfl rfl (by kernel_rfl) Try.func7 (by kernel_rfl)
    (of_decide_eq_true (by kernel_rfl)) (by unfold Func.isWrapper; first | (rw [if_pos (by decide +kernel)]; kernel_rfl) | (rw [if_neg (by decide +kernel)]; exact ⟨rfl, rfl⟩))
    (fun os started H enc _ => lifted pure os started H enc)
end Go.Proofs.Ytlmpbngndcagbaa.fnExactItemText
namespace Go.Proofs.Ytlmpbngndcagbaa
/-- The row, for the claim. -/
theorem fnExactItemText_holds : Rows.FnExactItemTextSaid := fnExactItemText.over Pure.FnExactItemText
end Go.Proofs.Ytlmpbngndcagbaa
