/- PlaceOf is the reference's; no conditions beside the sizes that a row reads. Part 6 of the claim FnExactPlaceOf, merged by pack.py (this session's program) out of: the print's words, cut to what is needed; texts that gen.py printed (it runs the kit's print in place); texts of this session. -/
import Derived.ChangeArms
import Derived.SizedLaws
import Derived.DataReads
import Derived.WalkKit
import Derived.RowKit
import Derived.KernelRfl
import Derived.Test.YtmbfjhhlpnjeoaaRows
import Derived.ProofKit
import Derived.OpenShut
import Derived.ShutString
import Derived.ChangeOld
import Derived.Below
import Derived.Test.YtmbfjhhlpnjeoaaKFnExactPlaceOf0
import Derived.Test.YtmbfjhhlpnjeoaaKFnExactPlaceOf1
import Derived.Test.YtmbfjhhlpnjeoaaKFnExactPlaceOf2
import Derived.Test.YtmbfjhhlpnjeoaaKFnExactPlaceOf3
import Derived.Test.YtmbfjhhlpnjeoaaKFnExactPlaceOf4
import Derived.Test.YtmbfjhhlpnjeoaaKFnExactPlaceOf5
namespace Go.Proofs.Ytmbfjhhlpnjeoaa.Open
open Go.RowKit Go.Proofs.YtmbfjhhlpnjeoaaW.PrintWords
/-- Whatever is read at type t is of the kind k, and meets ok. -/
def Opn {α : Type} (P : Program) (t : TypeId) (k : Kd α) (ok : α → Prop) : Prop :=
  ∀ (H : Type) (enc : TypeId × Value → H) (W : World) (fuel : Nat) (cs : List Value) (d : DataW H) (ps : List MemPlace),
    DataW.trod enc P W 0 (fun _ => true) true fuel t cs = some (d, ps) → (∀ n ∈ d.weights P t, n ≤ reachBytes) → ∃ x, k.K W x cs ∧ ok x
theorem Opn.int {P : Program} {t : TypeId} {q : IntKind} (ht : P.underlying t = some (.int q)) : Opn P t (Kd.int q) (fun n => (Lit.int q n).wf = true) := by
  intro H enc W fuel cs d ps h _
  obtain ⟨n, rfl, _, hw⟩ := DataW.trod_int ht h
  exact ⟨n, rfl, hw⟩
theorem Opn.bool {P : Program} {t : TypeId} (ht : P.underlying t = some .bool) : Opn P t Kd.bool (fun _ => True) := by
  intro H enc W fuel cs d ps h _
  obtain ⟨b, rfl, _⟩ := DataW.trod_bool ht h
  exact ⟨b, rfl, trivial⟩
theorem Opn.string {P : Program} {t : TypeId} (ht : P.underlying t = some .string) : Opn P t Kd.string (fun s => s.size ≤ 140737488351232) := by
  intro H enc W fuel cs d ps h hz
  obtain ⟨s, rfl, hx, _⟩ := DataW.trod_string ht h
  refine ⟨s, rfl, ?_⟩
  obtain ⟨rfl, _⟩ := Prod.mk.inj hx
  have := hz s.data.toList.length (by simp [DataW.weights])
  rw [Array.length_toList] at this
  exact this
theorem Opn.mono {α : Type} {P : Program} {t : TypeId} {k : Kd α} {ok ok' : α → Prop} (h : Opn P t k ok) (hok : ∀ x, ok x → ok' x) : Opn P t k ok' := by
  intro H enc W fuel cs d ps hd hz
  obtain ⟨x, hx, ho⟩ := h H enc W fuel cs d ps hd hz
  exact ⟨x, hx, hok x ho⟩
/-- The fields from one on, one behind the other. -/
def OpnFs {α : Type} (P : Program) (fs : List Field) (off : Nat) (k : Kd α) (ok : α → Prop) : Prop :=
  ∀ (H : Type) (enc : TypeId × Value → H) (W : World) (fuel : Nat) (cs : List Value) (xs : List (DataW H × List MemPlace)),
    xs.length = fs.length → (∀ (i : Nat) (f : Field), fs[i]? = some f → DataW.trod enc P W 0 (fun _ => true) true fuel f.type ((cs.drop f.offset).take (P.cellsOf f.type)) = xs[i]?) →
    (∀ n ∈ DataW.weightsEach P (fs.map (·.type)) (xs.map (·.1)), n ≤ reachBytes) → ∃ x, k.K W x ((cs.drop off).take k.sz) ∧ ok x
theorem OpnFs.one {α : Type} {P : Program} {f : Field} {off : Nat} {k : Kd α} {ok : α → Prop} (ho : f.offset = off) (hc : P.cellsOf f.type = k.sz) (h : Opn P f.type k ok) : OpnFs P [f] off k ok := by
  intro H enc W fuel cs xs hl hx hz
  have h0 := hx 0 f rfl
  rw [ho, hc] at h0
  match xs, hl with
  | [x], _ =>
    refine h H enc W fuel _ x.1 x.2 h0 (fun n hn => hz n ?_)
    simp [DataW.weightsEach, hn]
theorem OpnFs.cons {α β : Type} {P : Program} {f : Field} {fs : List Field} {off : Nat} {k : Kd α} {k2 : Kd β} {ok : α → Prop} {ok2 : β → Prop} (ho : f.offset = off) (hc : P.cellsOf f.type = k.sz) (h : Opn P f.type k ok)
    (h2 : OpnFs P fs (off + k.sz) k2 ok2) : OpnFs P (f :: fs) off (Kd.pair k k2) (fun x => ok x.1 ∧ ok2 x.2) := by
  intro H enc W fuel cs xs hl hx hz
  have h0 := hx 0 f rfl
  rw [ho, hc] at h0
  match xs, hl with
  | x :: xs, hl =>
    obtain ⟨a, ha, hoa⟩ := h H enc W fuel _ x.1 x.2 h0 (fun n hn => hz n (by simp [DataW.weightsEach, hn]))
    obtain ⟨b, hb, hob⟩ := h2 H enc W fuel cs xs (by simpa using hl) (fun i g hg => by simpa using hx (i + 1) g (by simpa using hg)) (fun n hn => hz n (by simp only [List.map_cons, DataW.weightsEach, List.mem_append]; exact Or.inr hn))
    refine ⟨(a, b), ⟨_, _, ?_, ha, hb⟩, hoa, hob⟩
    show (cs.drop off).take (k.sz + k2.sz) = _
    rw [List.take_add, List.drop_drop]
theorem Opn.struct {α : Type} {P : Program} {t : TypeId} {fs : Array Field} {k : Kd α} {ok : α → Prop} (ht : P.underlying t = some (.struct fs)) (hc : P.cellsOf t = k.sz) (h : OpnFs P fs.toList 0 k ok) : Opn P t k ok := by
  intro H enc W fuel cs d ps hd hz
  obtain ⟨xs, n, rfl, hx, hl, hxl, hf⟩ := DataW.trod_struct ht hd
  obtain ⟨rfl, _⟩ := Prod.mk.inj hx
  obtain ⟨x, hK, ho⟩ := h H enc W n cs xs (by simpa using hxl) (fun i f hi => hf i f (by simpa using hi)) (fun m hm => hz m (by simp only [DataW.weights, ht]; exact hm))
  refine ⟨x, ?_, ho⟩
  rw [List.drop_zero, List.take_of_length_le (by omega)] at hK
  exact hK
theorem Opn.iso {α β : Type} {P : Program} {t : TypeId} {k : Kd α} {ok : α → Prop} {f : β → α} (g : α → β) (hg : ∀ x, f (g x) = x) (h : Opn P t k ok) : Opn P t (Kd.iso k f) (fun y => ok (f y)) := by
  intro H enc W fuel cs d ps hd hz
  obtain ⟨x, hx, ho⟩ := h H enc W fuel cs d ps hd hz
  exact ⟨g x, by show k.K W (f (g x)) cs; rw [hg]; exact hx, by show ok (f (g x)); rw [hg]; exact ho⟩
theorem weightsAll_mem {H : Type} {P : Program} {e : TypeId} : ∀ {l : List (DataW H)} {d : DataW H}, d ∈ l → ∀ n ∈ d.weights P e, n ∈ DataW.weightsAll P e l
  | a :: l, d, hd, n, hn => by
    simp only [DataW.weightsAll, List.mem_append]
    rcases List.mem_cons.1 hd with rfl | hd
    · exact .inl hn
    · exact .inr (weightsAll_mem hd n hn)
theorem choose_list {α : Type} (p : Nat → α → Prop) : ∀ (n : Nat), (∀ i, i < n → ∃ x, p i x) → ∃ xs : List α, xs.length = n ∧ ∀ i x, xs[i]? = some x → p i x
  | 0, _ => ⟨[], rfl, fun i x h => by simp at h⟩
  | n + 1, h => by
    obtain ⟨xs, hl, hx⟩ := choose_list p n (fun i hi => h i (by omega))
    obtain ⟨y, hy⟩ := h n (by omega)
    refine ⟨xs ++ [y], by simp [hl], fun i x hi => ?_⟩
    rcases Nat.lt_or_ge i n with hin | hin
    · rw [List.getElem?_append_left (by omega)] at hi
      exact hx i x hi
    · rw [List.getElem?_append_right (by omega)] at hi
      have : i - xs.length = 0 := by
        rcases Nat.eq_zero_or_pos (i - xs.length) with h0 | h0
        · exact h0
        · rw [List.getElem?_eq_none (by simp; omega)] at hi
          cases hi
      rw [this] at hi
      simp only [List.getElem?_cons_zero, Option.some.injEq] at hi
      subst hi
      have : i = n := by omega
      subst this
      exact hy
theorem Opn.slice {α : Type} {P : Program} {t e : TypeId} {k : Kd α} {ok : α → Prop} (B : Nat) (ht : P.underlying t = some (.slice e)) (hc : P.cellsOf e = k.sz) (hB : P.bytesOf e = B) (h : Opn P e k ok) :
    Opn P t (Kd.slice e k) (fun xs => (∀ x ∈ xs, ok x) ∧ xs.length * B ≤ 140737488351232) := by
  intro H enc W fuel cs d ps hd hz
  rcases DataW.trod_slice ht hd with ⟨rfl, _⟩ | ⟨a, len, cap, elems, rest, n, rfl, rfl, hx, _, hl, hm, hel, hcell, _, _⟩
  · exact ⟨[], ⟨none, 0, rfl, Nat.le_refl _, Kd.C_nil _ _⟩, by simp, by simp⟩
  · obtain ⟨rfl, _⟩ := Prod.mk.inj hx
    have hz0 := hz (((elems.map (·.1)).length + (rest.map (·.1)).length) * P.bytesOf e) (by simp only [DataW.weights, ht]; exact List.mem_cons_self)
    have hpick : ∀ i, i < len → ∃ x : α, (∃ c, c.length = k.sz ∧ k.K W x c ∧ ∀ j u, c[j]? = some u → W.cell? (a.add (i * k.sz + j)) = some u) ∧ ok x := by
      intro i hi
      have h1 := hcell i hi
      rw [List.getElem?_eq_getElem (by omega)] at h1
      obtain ⟨c, hc1, hc2⟩ := Option.bind_eq_some_iff.1 h1
      obtain ⟨_, hcl, hcc⟩ := World.cells?_some hc1
      obtain ⟨x, hx, ho⟩ := h H enc W n c _ _ hc2 (fun m hm => hz m (by
        simp only [DataW.weights, ht, List.mem_cons, List.mem_append]
        exact .inr (.inl (weightsAll_mem (List.mem_map.2 ⟨_, List.getElem_mem (by omega), rfl⟩) m hm))))
      refine ⟨x, ⟨c, by omega, hx, fun j u hu => ?_⟩, ho⟩
      have hj : j < c.length := by
        rcases Nat.lt_or_ge j c.length with hj | hj
        · exact hj
        · rw [List.getElem?_eq_none hj] at hu; cases hu
      have := hcc j (by omega)
      rw [hu, hc] at this
      rw [← this]
      rw [Addr.add_add]
    obtain ⟨xs, hxl, hxs⟩ := choose_list _ len hpick
    subst hxl
    refine ⟨xs, ⟨some a, cap, rfl, hl, rfl, by unfold maxLen at hm; omega, fun _ => ⟨a, rfl, fun j p hj => (hxs j p hj).1⟩⟩, fun x hx => ?_, ?_⟩
    · obtain ⟨i, hi⟩ := List.getElem?_of_mem hx
      exact (hxs i x hi).2
    · rw [hB] at hz0
      refine Nat.le_trans (Nat.mul_le_mul_right _ ?_) hz0
      simp only [List.length_map]
      omega
theorem weights_of {H : Type} {P : Program} {ts : List TypeId} {ds : List (DataW H)} {j : Nat} {t : TypeId} {d : DataW H} (hsz : (DataW.weightsEach P ts ds).all (· ≤ reachBytes) = true) (ht : ts[j]? = some t) (hd : ds[j]? = some d) :
    ∀ n ∈ d.weights P t, n ≤ reachBytes := fun n hn => by
  have := List.all_eq_true.1 hsz _ (DataW.weights_mem_each ht hd n hn)
  simpa using this
end Go.Proofs.Ytmbfjhhlpnjeoaa.Open

namespace Go.Proofs.Ytmbfjhhlpnjeoaa.Ok
open Go.RowKit Go.Proofs.Ytmbfjhhlpnjeoaa.Open Go.Proofs.Ytmbfjhhlpnjeoaa.G Go.Proofs.YtmbfjhhlpnjeoaaW.PrintWords Go.Proofs.YtmbfjhhlpnjeoaaW.PrintLast
set_option linter.unusedVariables false
theorem wf_int {k : IntKind} {n : Int} (h : (Lit.int k n).wf = true) : k.min ≤ n ∧ n ≤ k.max := by
  simpa [Lit.wf] using h
def okT3 (n : Int) : Prop := -9223372036854775808 ≤ n ∧ n ≤ 9223372036854775807
set_option maxRecDepth 100000 in
theorem opn3 : Opn Try.prog 3 (Kd.int .i64) okT3 := (Opn.int Try.underlying3).mono (fun n h => by have e := wf_int (k := .i64) h; rw [show IntKind.min .i64 = -9223372036854775808 from by decide, show IntKind.max .i64 = 9223372036854775807 from by decide] at e; exact e)
def okT9 (s : ByteArray) : Prop := s.size ≤ 140737488351232
set_option maxRecDepth 100000 in
theorem opn9 : Opn Try.prog 9 Kd.string okT9 := Opn.string Try.underlying9
def okT161 (x : S161) : Prop := okT9 x.f0 ∧ okT9 x.f1 ∧ okT3 x.f2
set_option maxRecDepth 100000 in
theorem opn161 : Opn Try.prog 161 k161 okT161 := (Opn.iso (f := fun x : S161 => (x.f0, x.f1, x.f2)) (fun p => (⟨p.1, p.2.1, p.2.2⟩ : S161)) (fun _ => rfl) (Opn.struct (k := (Kd.pair Kd.string (Kd.pair Kd.string (Kd.int .i64)))) Try.underlying161 (by kernel_rfl) (OpnFs.cons rfl (by kernel_rfl) opn9 (OpnFs.cons rfl (by kernel_rfl) opn9 (OpnFs.one rfl (by kernel_rfl) opn3))))).mono (fun _ h => h)
def okT37 (xs : List S161) : Prop := (∀ x ∈ xs, okT161 x) ∧ xs.length * 40 ≤ 140737488351232
set_option maxRecDepth 100000 in
theorem opn37 : Opn Try.prog 37 (Kd.slice 161 k161) okT37 := Opn.slice 40 Try.underlying37 (by kernel_rfl) (by kernel_rfl) opn161
def okT38 (xs : List Int) : Prop := (∀ x ∈ xs, okT3 x) ∧ xs.length * 8 ≤ 140737488351232
set_option maxRecDepth 100000 in
theorem opn38 : Opn Try.prog 38 (Kd.slice 3 (Kd.int .i64)) okT38 := Opn.slice 8 Try.underlying38 (by kernel_rfl) (by kernel_rfl) opn3
def okT40 (x : Int × Int × List S161 × List S161 × List Int) : Prop := okT3 x.1 ∧ okT3 x.2.1 ∧ okT37 x.2.2.1 ∧ okT37 x.2.2.2.1 ∧ okT38 x.2.2.2.2
set_option maxRecDepth 100000 in
theorem opn40 : Opn Try.prog 40 (Kd.pair (Kd.int .i64) (Kd.pair (Kd.int .i64) (Kd.pair (Kd.slice 161 k161) (Kd.pair (Kd.slice 161 k161) (Kd.slice 3 (Kd.int .i64)))))) okT40 := (Opn.struct (k := (Kd.pair (Kd.int .i64) (Kd.pair (Kd.int .i64) (Kd.pair (Kd.slice 161 k161) (Kd.pair (Kd.slice 161 k161) (Kd.slice 3 (Kd.int .i64))))))) Try.underlying40 (by kernel_rfl) (OpnFs.cons rfl (by kernel_rfl) opn3 (OpnFs.cons rfl (by kernel_rfl) opn3 (OpnFs.cons rfl (by kernel_rfl) opn37 (OpnFs.cons rfl (by kernel_rfl) opn37 (OpnFs.one rfl (by kernel_rfl) opn38)))))).mono (fun _ h => h)
def okT221 (x : S221) : Prop := okT3 x.f0 ∧ okT3 x.f1
set_option maxRecDepth 100000 in
theorem opn221 : Opn Try.prog 221 k221 okT221 := (Opn.iso (f := fun x : S221 => (x.f0, x.f1)) (fun p => (⟨p.1, p.2⟩ : S221)) (fun _ => rfl) (Opn.struct (k := (Kd.pair (Kd.int .i64) (Kd.int .i64))) Try.underlying221 (by kernel_rfl) (OpnFs.cons rfl (by kernel_rfl) opn3 (OpnFs.one rfl (by kernel_rfl) opn3)))).mono (fun _ h => h)
def okT55 (xs : List S221) : Prop := (∀ x ∈ xs, okT221 x) ∧ xs.length * 16 ≤ 140737488351232
set_option maxRecDepth 100000 in
theorem opn55 : Opn Try.prog 55 (Kd.slice 221 k221) okT55 := Opn.slice 16 Try.underlying55 (by kernel_rfl) (by kernel_rfl) opn221
def okT57 (x : Int × List Int × List S221) : Prop := okT3 x.1 ∧ okT38 x.2.1 ∧ okT55 x.2.2
set_option maxRecDepth 100000 in
theorem opn57 : Opn Try.prog 57 (Kd.pair (Kd.int .i64) (Kd.pair (Kd.slice 3 (Kd.int .i64)) (Kd.slice 221 k221))) okT57 := (Opn.struct (k := (Kd.pair (Kd.int .i64) (Kd.pair (Kd.slice 3 (Kd.int .i64)) (Kd.slice 221 k221)))) Try.underlying57 (by kernel_rfl) (OpnFs.cons rfl (by kernel_rfl) opn3 (OpnFs.cons rfl (by kernel_rfl) opn38 (OpnFs.one rfl (by kernel_rfl) opn55)))).mono (fun _ h => h)
def okT59 (x : List Int × (Int × List Int × List S221) × List Int) : Prop := okT38 x.1 ∧ okT57 x.2.1 ∧ okT38 x.2.2
set_option maxRecDepth 100000 in
theorem opn59 : Opn Try.prog 59 (Kd.pair (Kd.slice 3 (Kd.int .i64)) (Kd.pair (Kd.pair (Kd.int .i64) (Kd.pair (Kd.slice 3 (Kd.int .i64)) (Kd.slice 221 k221))) (Kd.slice 3 (Kd.int .i64)))) okT59 := (Opn.struct (k := (Kd.pair (Kd.slice 3 (Kd.int .i64)) (Kd.pair (Kd.pair (Kd.int .i64) (Kd.pair (Kd.slice 3 (Kd.int .i64)) (Kd.slice 221 k221))) (Kd.slice 3 (Kd.int .i64))))) Try.underlying59 (by kernel_rfl) (OpnFs.cons rfl (by kernel_rfl) opn38 (OpnFs.cons rfl (by kernel_rfl) opn57 (OpnFs.one rfl (by kernel_rfl) opn38)))).mono (fun _ h => h)
def okT174 (x : S174) : Prop := okT9 x.f0 ∧ okT3 x.f1
set_option maxRecDepth 100000 in
theorem opn174 : Opn Try.prog 174 k174 okT174 := (Opn.iso (f := fun x : S174 => (x.f0, x.f1)) (fun p => (⟨p.1, p.2⟩ : S174)) (fun _ => rfl) (Opn.struct (k := (Kd.pair Kd.string (Kd.int .i64))) Try.underlying174 (by kernel_rfl) (OpnFs.cons rfl (by kernel_rfl) opn9 (OpnFs.one rfl (by kernel_rfl) opn3)))).mono (fun _ h => h)
def okT60 (xs : List S174) : Prop := (∀ x ∈ xs, okT174 x) ∧ xs.length * 24 ≤ 140737488351232
set_option maxRecDepth 100000 in
theorem opn60 : Opn Try.prog 60 (Kd.slice 174 k174) okT60 := Opn.slice 24 Try.underlying60 (by kernel_rfl) (by kernel_rfl) opn174
def okT215 (x : S215) : Prop := okT3 x.f0 ∧ okT9 x.f1 ∧ okT9 x.f2
set_option maxRecDepth 100000 in
theorem opn215 : Opn Try.prog 215 k215 okT215 := (Opn.iso (f := fun x : S215 => (x.f0, x.f1, x.f2)) (fun p => (⟨p.1, p.2.1, p.2.2⟩ : S215)) (fun _ => rfl) (Opn.struct (k := (Kd.pair (Kd.int .i64) (Kd.pair Kd.string Kd.string))) Try.underlying215 (by kernel_rfl) (OpnFs.cons rfl (by kernel_rfl) opn3 (OpnFs.cons rfl (by kernel_rfl) opn9 (OpnFs.one rfl (by kernel_rfl) opn9))))).mono (fun _ h => h)
def okT176 (xs : List S215) : Prop := (∀ x ∈ xs, okT215 x) ∧ xs.length * 40 ≤ 140737488351232
set_option maxRecDepth 100000 in
theorem opn176 : Opn Try.prog 176 (Kd.slice 215 k215) okT176 := Opn.slice 40 Try.underlying176 (by kernel_rfl) (by kernel_rfl) opn215
def okT4 (_ : Bool) : Prop := True
set_option maxRecDepth 100000 in
theorem opn4 : Opn Try.prog 4 Kd.bool okT4 := Opn.bool Try.underlying4
def okT217 (x : S217) : Prop := okT4 x.f0 ∧ okT9 x.f1 ∧ okT9 x.f2
set_option maxRecDepth 100000 in
theorem opn217 : Opn Try.prog 217 k217 okT217 := (Opn.iso (f := fun x : S217 => (x.f0, x.f1, x.f2)) (fun p => (⟨p.1, p.2.1, p.2.2⟩ : S217)) (fun _ => rfl) (Opn.struct (k := (Kd.pair Kd.bool (Kd.pair Kd.string Kd.string))) Try.underlying217 (by kernel_rfl) (OpnFs.cons rfl (by kernel_rfl) opn4 (OpnFs.cons rfl (by kernel_rfl) opn9 (OpnFs.one rfl (by kernel_rfl) opn9))))).mono (fun _ h => h)
def okT177 (xs : List S217) : Prop := (∀ x ∈ xs, okT217 x) ∧ xs.length * 40 ≤ 140737488351232
set_option maxRecDepth 100000 in
theorem opn177 : Opn Try.prog 177 (Kd.slice 217 k217) okT177 := Opn.slice 40 Try.underlying177 (by kernel_rfl) (by kernel_rfl) opn217
def okT179 (x : S179) : Prop := okT176 x.f0 ∧ okT3 x.f1 ∧ okT3 x.f2 ∧ okT3 x.f3 ∧ okT177 x.f4
set_option maxRecDepth 100000 in
theorem opn179 : Opn Try.prog 179 k179 okT179 := (Opn.iso (f := fun x : S179 => (x.f0, x.f1, x.f2, x.f3, x.f4)) (fun p => (⟨p.1, p.2.1, p.2.2.1, p.2.2.2.1, p.2.2.2.2⟩ : S179)) (fun _ => rfl) (Opn.struct (k := (Kd.pair (Kd.slice 215 k215) (Kd.pair (Kd.int .i64) (Kd.pair (Kd.int .i64) (Kd.pair (Kd.int .i64) (Kd.slice 217 k217)))))) Try.underlying179 (by kernel_rfl) (OpnFs.cons rfl (by kernel_rfl) opn176 (OpnFs.cons rfl (by kernel_rfl) opn3 (OpnFs.cons rfl (by kernel_rfl) opn3 (OpnFs.cons rfl (by kernel_rfl) opn3 (OpnFs.one rfl (by kernel_rfl) opn177))))))).mono (fun _ h => h)
def okT61 (xs : List S179) : Prop := (∀ x ∈ xs, okT179 x) ∧ xs.length * 72 ≤ 140737488351232
set_option maxRecDepth 100000 in
theorem opn61 : Opn Try.prog 61 (Kd.slice 179 k179) okT61 := Opn.slice 72 Try.underlying61 (by kernel_rfl) (by kernel_rfl) opn179
def okT186 (x : S186) : Prop := okT3 x.f0 ∧ okT3 x.f1
set_option maxRecDepth 100000 in
theorem opn186 : Opn Try.prog 186 k186 okT186 := (Opn.iso (f := fun x : S186 => (x.f0, x.f1)) (fun p => (⟨p.1, p.2⟩ : S186)) (fun _ => rfl) (Opn.struct (k := (Kd.pair (Kd.int .i64) (Kd.int .i64))) Try.underlying186 (by kernel_rfl) (OpnFs.cons rfl (by kernel_rfl) opn3 (OpnFs.one rfl (by kernel_rfl) opn3)))).mono (fun _ h => h)
def okT62 (xs : List S186) : Prop := (∀ x ∈ xs, okT186 x) ∧ xs.length * 16 ≤ 140737488351232
set_option maxRecDepth 100000 in
theorem opn62 : Opn Try.prog 62 (Kd.slice 186 k186) okT62 := Opn.slice 16 Try.underlying62 (by kernel_rfl) (by kernel_rfl) opn186
def okT64 (x : (Int × Int × List S161 × List S161 × List Int) × (List Int × (Int × List Int × List S221) × List Int) × List S174 × List S179 × List S186) : Prop := okT40 x.1 ∧ okT59 x.2.1 ∧ okT60 x.2.2.1 ∧ okT61 x.2.2.2.1 ∧ okT62 x.2.2.2.2
set_option maxRecDepth 100000 in
theorem opn64 : Opn Try.prog 64 (Kd.pair (Kd.pair (Kd.int .i64) (Kd.pair (Kd.int .i64) (Kd.pair (Kd.slice 161 k161) (Kd.pair (Kd.slice 161 k161) (Kd.slice 3 (Kd.int .i64)))))) (Kd.pair (Kd.pair (Kd.slice 3 (Kd.int .i64)) (Kd.pair (Kd.pair (Kd.int .i64) (Kd.pair (Kd.slice 3 (Kd.int .i64)) (Kd.slice 221 k221))) (Kd.slice 3 (Kd.int .i64)))) (Kd.pair (Kd.slice 174 k174) (Kd.pair (Kd.slice 179 k179) (Kd.slice 186 k186))))) okT64 := (Opn.struct (k := (Kd.pair (Kd.pair (Kd.int .i64) (Kd.pair (Kd.int .i64) (Kd.pair (Kd.slice 161 k161) (Kd.pair (Kd.slice 161 k161) (Kd.slice 3 (Kd.int .i64)))))) (Kd.pair (Kd.pair (Kd.slice 3 (Kd.int .i64)) (Kd.pair (Kd.pair (Kd.int .i64) (Kd.pair (Kd.slice 3 (Kd.int .i64)) (Kd.slice 221 k221))) (Kd.slice 3 (Kd.int .i64)))) (Kd.pair (Kd.slice 174 k174) (Kd.pair (Kd.slice 179 k179) (Kd.slice 186 k186)))))) Try.underlying64 (by kernel_rfl) (OpnFs.cons rfl (by kernel_rfl) opn40 (OpnFs.cons rfl (by kernel_rfl) opn59 (OpnFs.cons rfl (by kernel_rfl) opn60 (OpnFs.cons rfl (by kernel_rfl) opn61 (OpnFs.one rfl (by kernel_rfl) opn62)))))).mono (fun _ h => h)
end Go.Proofs.Ytmbfjhhlpnjeoaa.Ok

namespace Go.Proofs.Ytmbfjhhlpnjeoaa.G.fnExactPlaceOf
open Go.RowKit Go.Proofs.Ytmbfjhhlpnjeoaa.Open Go.Proofs.Ytmbfjhhlpnjeoaa.Ok Go.Proofs.Ytmbfjhhlpnjeoaa.G Go.Proofs.YtmbfjhhlpnjeoaaW.PrintWords Go.Proofs.YtmbfjhhlpnjeoaaW.PrintLast
set_option linter.unusedVariables false
def FnExactPlaceOf.okIn (x0 : (Int × Int × List S161 × List S161 × List Int) × (List Int × (Int × List Int × List S221) × List Int) × List S174 × List S179 × List S186) (x1 : ByteArray) : Prop := okT64 x0 ∧ okT9 x1
def FnExactPlaceOf.Pure : Prop := ∀ (x0 : (Int × Int × List S161 × List S161 × List Int) × (List Int × (Int × List Int × List S221) × List Int) × List S174 × List S179 × List S186) (x1 : ByteArray), FnExactPlaceOf.okIn x0 x1 → ∃ k, laws_FnExactPlaceOf.f k x0.1.1 x0.1.2.1 x0.1.2.2.1 x0.1.2.2.2.1 x0.1.2.2.2.2 x0.2.1.1 x0.2.1.2.1.1 x0.2.1.2.1.2.1 x0.2.1.2.1.2.2 x0.2.1.2.2 x0.2.2.1 x0.2.2.2.1 x0.2.2.2.2 x1 = some true
end Go.Proofs.Ytmbfjhhlpnjeoaa.G.fnExactPlaceOf

namespace Go.Proofs.Ytmbfjhhlpnjeoaa.PL
open Go.RowKit Go.Proofs.YtmbfjhhlpnjeoaaW.PrintWords
theorem Ev.const {α : Type} {x : Option α} {r : α} (h : x = some r) : Ev (fun _ => x) r := ⟨0, fun _ _ => h⟩
theorem Ev.pos {α : Type} {c : Prop} [Decidable c] {f g : Nat → Option α} {r : α} (hc : c) (h : Ev f r) : Ev (fun k => if c then f k else g k) r := by
  obtain ⟨K, h⟩ := h
  exact ⟨K, fun k hk => (if_pos hc).trans (h k hk)⟩
theorem Ev.neg {α : Type} {c : Prop} [Decidable c] {f g : Nat → Option α} {r : α} (hc : ¬ c) (h : Ev g r) : Ev (fun k => if c then f k else g k) r := by
  obtain ⟨K, h⟩ := h
  exact ⟨K, fun k hk => (if_neg hc).trans (h k hk)⟩
theorem Ev.to {α : Type} {f : Nat → Option α} {r s : α} (h : Ev f r) (e : r = s) : Ev f s := e ▸ h
theorem w64 {x : Int} (h0 : -9223372036854775808 ≤ x) (h1 : x ≤ 9223372036854775807) : wrap64 x = x := by
  unfold wrap64
  omega
theorem wsucc {i : Nat} (h : i < 9223372036854775807) : wrap64 ((i : Int) + 1) = ((i + 1 : Nat) : Int) := by
  rw [w64 (by omega) (by omega)]
  omega
theorem getD_at {α : Type} {xs : List α} {i : Nat} (h : i < xs.length) (z : α) : xs.getD ((i : Nat) : Int).toNat z = xs[i] := by
  simp [List.getD_eq_getElem?_getD, h]
theorem drop_at {α : Type} {xs : List α} {i : Nat} (h : i < xs.length) : xs.drop i = xs[i] :: xs.drop (i + 1) := List.drop_eq_getElem_cons h
theorem bytes_eq {a b : ByteArray} : a.toList = b.toList ↔ a = b := by
  rw [ByteArray.toList_eq, ByteArray.toList_eq]
  constructor
  · intro h
    cases a; cases b
    simp at h
    simp [h]
  · intro h; rw [h]
/-- What is left of a when m are taken off, or -1. -/
def left (a : Int) (m : Nat) : Int := if (m : Int) ≤ a then a - m else -1
theorem left_pos {a : Int} {m : Nat} (h : (m : Int) ≤ a) : left a m = a - m := if_pos h
theorem left_neg {a : Int} {m : Nat} (h : ¬ (m : Int) ≤ a) : left a m = -1 := if_neg h
theorem left_zero {a : Int} (h : 0 ≤ a) : left a 0 = a := by unfold left; rw [if_pos (by omega)]; omega
theorem left_add {a : Int} {m n : Nat} : left (a - m) n = left a (m + n) := by
  unfold left
  by_cases c : (n : Int) ≤ a - m
  · rw [if_pos c, if_pos (by omega)]; omega
  · rw [if_neg c, if_neg (by omega)]
theorem left_neg_add {a : Int} {m n : Nat} (h : ¬ (m : Int) ≤ a) : left a (m + n) = -1 := left_neg (by omega)
theorem take_drop_set {α β : Type} (f : α → β) (xs : List α) (ys : List β) {i : Nat} (hi : i < xs.length) (hl : ys.length = xs.length) (h : ys.take i = (xs.take i).map f) : (ys.set ((i : Nat) : Int).toNat (f xs[i])).take (i + 1) = (xs.take (i + 1)).map f := by
  rw [Int.toNat_natCast, List.take_succ_eq_append_getElem (by simp; omega), List.take_succ_eq_append_getElem hi, List.map_append, ← h]
  simp [List.take_set_of_le]
end Go.Proofs.Ytmbfjhhlpnjeoaa.PL

namespace Go.Proofs.Ytmbfjhhlpnjeoaa.Fam
open Go.RowKit Go.Proofs.Ytmbfjhhlpnjeoaa.G Go.Proofs.Ytmbfjhhlpnjeoaa.PL Go.Proofs.Ytmbfjhhlpnjeoaa.Ok Go.Proofs.YtmbfjhhlpnjeoaaW.PrintWords Go.Proofs.YtmbfjhhlpnjeoaaW.PrintLast Go.Proofs.YtmbfjhhlpnjeoaaW.PrintMore
set_option linter.unusedVariables false
set_option linter.unusedSimpArgs false
def cvItem (x : S161) : S23 := ⟨x.f0, x.f1, x.f2⟩
instance decItem : DecidableEq S23 := fun a b => decidable_of_iff (a.f0 = b.f0 ∧ a.f1 = b.f1 ∧ a.f2 = b.f2) (by cases a; cases b; simp)
def szmItem (x : S161) : Nat := x.f0.size + x.f1.size
theorem szItem_ev (x0 : ByteArray) (x1 : ByteArray) (x2 : Int) (a : Int) (h0 : 0 ≤ a) (h1 : a ≤ 1048576) (o0 : x0.size ≤ 140737488351232) (o1 : x1.size ≤ 140737488351232) : Ev (fun k => laws_szItem.f x0 x1 x2 a) (left a (x0.size + x1.size)) := by
  unfold laws_szItem.f
  by_cases c0 : ((x0.size : Nat) : Int) ≤ a
  rotate_left
  · rw [w64 (x := a - (x0.size : Int)) (by omega) (by omega)]
    refine Ev.pos (by omega) ?_
    exact Ev.const (congrArg some (left_neg (by omega)).symm)
  rw [w64 (x := a - (x0.size : Int)) (by omega) (by omega)]
  refine Ev.neg (by omega) ?_
  by_cases c1 : ((x1.size : Nat) : Int) ≤ a - (x0.size : Nat)
  rotate_left
  · rw [w64 (x := a - (x0.size : Nat) - (x1.size : Int)) (by omega) (by omega)]
    refine Ev.pos (by omega) ?_
    exact Ev.const (congrArg some (left_neg (by omega)).symm)
  rw [w64 (x := a - (x0.size : Nat) - (x1.size : Int)) (by omega) (by omega)]
  refine Ev.neg (by omega) ?_
  exact Ev.const (by first | rfl | exact congrArg some (by rw [left_pos (by omega)] <;> omega))
theorem toItem_ev (x0 : ByteArray) (x1 : ByteArray) (x2 : Int)  : Ev (fun k => laws_toItem.f x0 x1 x2) (x0, x1, x2) := by
  unfold laws_toItem.f
  exact Ev.const rfl
theorem eqItem_ev (x0 : ByteArray) (x1 : ByteArray) (x2 : Int)  : Ev (fun k => laws_eqItem.f x0 x1 x2 x0 x1 x2) true := by
  unfold laws_eqItem.f
  refine Ev.pos rfl ?_
  refine Ev.pos rfl ?_
  refine Ev.pos rfl ?_
  exact Ev.const rfl
end Go.Proofs.Ytmbfjhhlpnjeoaa.Fam

namespace Go.Proofs.Ytmbfjhhlpnjeoaa.Fam
open Go.RowKit Go.Proofs.Ytmbfjhhlpnjeoaa.G Go.Proofs.Ytmbfjhhlpnjeoaa.PL Go.Proofs.Ytmbfjhhlpnjeoaa.Ok Go.Proofs.YtmbfjhhlpnjeoaaW.PrintWords Go.Proofs.YtmbfjhhlpnjeoaaW.PrintLast Go.Proofs.YtmbfjhhlpnjeoaaW.PrintMore
set_option linter.unusedVariables false
set_option linter.unusedSimpArgs false
def szmItemS (l : List S161) : Nat := l.length + (l.map fun x => (szmItem x)).sum
theorem szItemS_l0 (l : List S161) (ho : okT37 l) : ∀ (d i : Nat) (a : Int), i + d = l.length → 0 ≤ a → a ≤ 1048576 → Ev (fun k => laws_szItemS.l0 k l a i) (left a ((l.drop i).map fun x => (szmItem x)).sum) := by
  have hl := ho.2
  intro d
  induction d with
  | zero =>
    intro i a hi h0 h1
    refine Ev.step (fun _ => rfl) ?_
    simp only [laws_szItemS.l0]
    refine Ev.neg (by omega) ?_
    rw [List.drop_of_length_le (by omega)]
    exact Ev.const (congrArg some (left_zero h0).symm)
  | succ d ih =>
    intro i a hi h0 h1
    have hlt : i < l.length := by omega
    have er : rd_T161 l (i : Int) = l[i] := getD_at hlt _
    have hok := ho.1 _ (List.getElem_mem hlt)
    refine Ev.step (fun _ => rfl) ?_
    simp only [laws_szItemS.l0]
    refine Ev.pos (by omega) ?_
    refine Ev.pos (by omega) ?_
    rw [er, drop_at hlt, List.map_cons, List.sum_cons, wsucc (by omega)]
    have hz : (szmItem l[i]) = (l[i]).f0.size + (l[i]).f1.size := rfl
    refine Ev.bind (szItem_ev (l[i]).f0 (l[i]).f1 (l[i]).f2 a h0 h1 hok.1 hok.2.1) ?_
    rw [← hz]
    by_cases c : (((szmItem l[i]) : Nat) : Int) ≤ a
    · rw [left_pos c]
      refine Ev.neg (by omega) ?_
      refine Ev.to (ih (i + 1) (a - (szmItem l[i])) (by omega) (by omega) (by omega)) ?_
      exact left_add
    · rw [left_neg c]
      refine Ev.pos (by omega) ?_
      exact Ev.const (congrArg some (left_neg_add c).symm)
theorem szItemS_ev (l : List S161) (a : Int) (h0 : 0 ≤ a) (h1 : a ≤ 1048576) (o : okT37 l) : Ev (fun k => laws_szItemS.f k l a) (left a (szmItemS l)) := by
  have ho := o.2
  unfold laws_szItemS.f szmItemS
  rw [w64 (by omega) (by omega)]
  by_cases c : (l.length : Int) ≤ a
  · refine Ev.neg (by omega) ?_
    refine Ev.to (szItemS_l0 l o l.length 0 (a - l.length) (by omega) (by omega) (by omega)) ?_
    rw [List.drop_zero]
    exact left_add
  · refine Ev.pos (by omega) ?_
    exact Ev.const (congrArg some (left_neg_add c).symm)
theorem toItemS_l0 (l : List S161) (ho : okT37 l) : ∀ (d i : Nat) (ys : List S23), i + d = l.length → ys.length = l.length → ys.take i = (l.take i).map cvItem → Ev (fun k => laws_toItemS.l0 k l ys i) (l.map cvItem) := by
  have hl := ho.2
  intro d
  induction d with
  | zero =>
    intro i ys hi hy ht
    refine Ev.step (fun _ => rfl) ?_
    simp only [laws_toItemS.l0]
    refine Ev.neg (by omega) ?_
    rw [List.take_of_length_le (by omega), List.take_of_length_le (by omega)] at ht
    exact Ev.const (congrArg some ht)
  | succ d ih =>
    intro i ys hi hy ht
    have hlt : i < l.length := by omega
    have er : rd_T161 l (i : Int) = l[i] := getD_at hlt _
    have hok := ho.1 _ (List.getElem_mem hlt)
    refine Ev.step (fun _ => rfl) ?_
    simp only [laws_toItemS.l0]
    refine Ev.pos (by omega) ?_
    refine Ev.pos (by omega) ?_
    rw [er, wsucc (by omega)]
    refine Ev.bind (toItem_ev (l[i]).f0 (l[i]).f1 (l[i]).f2 ) ?_
    refine Ev.pos (by omega) ?_
    exact ih (i + 1) _ (by omega) (by simp [hy]) (take_drop_set cvItem l ys hlt hy ht)
theorem toItemS_ev (l : List S161) (o : okT37 l) : Ev (fun k => laws_toItemS.f k l) (l.map cvItem) := by
  have ho := o.2
  unfold laws_toItemS.f
  rw [Int.toNat_natCast]
  refine Ev.pos (by omega) ?_
  refine Ev.pos (by omega) ?_
  refine Ev.to (toItemS_l0 l o l.length 0 _ (by omega) (by simp) (by simp)) ?_
  rfl
theorem eqItemS_l0 (l : List S23) (ho : l.length ≤ 140737488351232) : ∀ (d i : Nat), i + d = l.length → Ev (fun k => laws_eqItemS.l0 k l l i) true := by
  have hl : l.length ≤ 140737488351232 := ho
  intro d
  induction d with
  | zero =>
    intro i hi
    refine Ev.step (fun _ => rfl) ?_
    simp only [laws_eqItemS.l0]
    refine Ev.neg (by omega) ?_
    exact Ev.const rfl
  | succ d ih =>
    intro i hi
    refine Ev.step (fun _ => rfl) ?_
    simp only [laws_eqItemS.l0]
    refine Ev.pos (by omega) ?_
    refine Ev.pos (by omega) ?_
    refine Ev.pos (by omega) ?_
    rw [wsucc (by omega)]
    refine Ev.bind (eqItem_ev _ _ _ ) ?_
    refine Ev.pos rfl ?_
    exact ih (i + 1) (by omega)
theorem eqItemS_ev (l : List S23) (ho : l.length ≤ 140737488351232) : Ev (fun k => laws_eqItemS.f k l l) true := by
  unfold laws_eqItemS.f
  refine Ev.pos rfl ?_
  exact eqItemS_l0 l ho l.length 0 (by omega)
end Go.Proofs.Ytmbfjhhlpnjeoaa.Fam

namespace Go.Proofs.Ytmbfjhhlpnjeoaa.Fam
open Go.RowKit Go.Proofs.Ytmbfjhhlpnjeoaa.G Go.Proofs.Ytmbfjhhlpnjeoaa.PL Go.Proofs.Ytmbfjhhlpnjeoaa.Ok Go.Proofs.YtmbfjhhlpnjeoaaW.PrintWords Go.Proofs.YtmbfjhhlpnjeoaaW.PrintLast Go.Proofs.YtmbfjhhlpnjeoaaW.PrintMore
set_option linter.unusedVariables false
set_option linter.unusedSimpArgs false
def szmIntS (l : List Int) : Nat := l.length
theorem szIntS_ev (l : List Int) (a : Int) (h0 : 0 ≤ a) (h1 : a ≤ 1048576) (o : okT38 l) : Ev (fun k => laws_szIntS.f l a) (left a (szmIntS l)) := by
  have ho := o.2
  unfold laws_szIntS.f szmIntS
  rw [w64 (by omega) (by omega)]
  by_cases c : (l.length : Int) ≤ a
  · refine Ev.neg (by omega) ?_
    exact Ev.const (congrArg some (left_pos c).symm)
  · refine Ev.pos (by omega) ?_
    exact Ev.const (congrArg some (left_neg c).symm)
theorem toIntS_l0 (l : List Int) (ho : okT38 l) : ∀ (d i : Nat) (ys : List Int), i + d = l.length → ys.length = l.length → ys.take i = (l.take i).map id → Ev (fun k => laws_toIntS.l0 k l ys i) (l.map id) := by
  have hl := ho.2
  intro d
  induction d with
  | zero =>
    intro i ys hi hy ht
    refine Ev.step (fun _ => rfl) ?_
    simp only [laws_toIntS.l0]
    refine Ev.neg (by omega) ?_
    rw [List.take_of_length_le (by omega), List.take_of_length_le (by omega)] at ht
    exact Ev.const (congrArg some ht)
  | succ d ih =>
    intro i ys hi hy ht
    have hlt : i < l.length := by omega
    have er : rd l (i : Int) = l[i] := getD_at hlt _
    have hok := ho.1 _ (List.getElem_mem hlt)
    refine Ev.step (fun _ => rfl) ?_
    simp only [laws_toIntS.l0]
    refine Ev.pos (by omega) ?_
    refine Ev.pos (by omega) ?_
    rw [er, wsucc (by omega)]
    refine Ev.pos (by omega) ?_
    exact ih (i + 1) _ (by omega) (by simp [hy]) (take_drop_set id l ys hlt hy ht)
theorem toIntS_ev (l : List Int) (o : okT38 l) : Ev (fun k => laws_toIntS.f k l) l := by
  have ho := o.2
  unfold laws_toIntS.f
  rw [Int.toNat_natCast]
  refine Ev.pos (by omega) ?_
  refine Ev.pos (by omega) ?_
  refine Ev.to (toIntS_l0 l o l.length 0 _ (by omega) (by simp) (by simp)) ?_
  simp
theorem eqIntS_l0 (l : List Int) (ho : l.length ≤ 140737488351232) : ∀ (d i : Nat), i + d = l.length → Ev (fun k => laws_eqIntS.l0 k l l i) true := by
  have hl : l.length ≤ 140737488351232 := ho
  intro d
  induction d with
  | zero =>
    intro i hi
    refine Ev.step (fun _ => rfl) ?_
    simp only [laws_eqIntS.l0]
    refine Ev.neg (by omega) ?_
    exact Ev.const rfl
  | succ d ih =>
    intro i hi
    refine Ev.step (fun _ => rfl) ?_
    simp only [laws_eqIntS.l0]
    refine Ev.pos (by omega) ?_
    refine Ev.pos (by omega) ?_
    refine Ev.pos (by omega) ?_
    rw [wsucc (by omega)]
    first | refine Ev.pos rfl ?_ | refine Ev.pos trivial ?_ | refine Ev.neg (by simp) ?_
    exact ih (i + 1) (by omega)
theorem eqIntS_ev (l : List Int) (ho : l.length ≤ 140737488351232) : Ev (fun k => laws_eqIntS.f k l l) true := by
  unfold laws_eqIntS.f
  refine Ev.pos rfl ?_
  exact eqIntS_l0 l ho l.length 0 (by omega)
end Go.Proofs.Ytmbfjhhlpnjeoaa.Fam

namespace Go.Proofs.Ytmbfjhhlpnjeoaa.Fam
open Go.RowKit Go.Proofs.Ytmbfjhhlpnjeoaa.G Go.Proofs.Ytmbfjhhlpnjeoaa.PL Go.Proofs.Ytmbfjhhlpnjeoaa.Ok Go.Proofs.YtmbfjhhlpnjeoaaW.PrintWords Go.Proofs.YtmbfjhhlpnjeoaaW.PrintLast Go.Proofs.YtmbfjhhlpnjeoaaW.PrintMore
set_option linter.unusedVariables false
set_option linter.unusedSimpArgs false
theorem szThree_ev (x0 : Int) (x1 : Int) (x2 : List S161) (x3 : List S161) (x4 : List Int) (a : Int) (h0 : 0 ≤ a) (h1 : a ≤ 1048576) (o0 : okT37 x2) (o1 : okT37 x3) (o2 : okT38 x4) : Ev (fun k => laws_szThree.f k x0 x1 x2 x3 x4 a) (left a (szmItemS x2 + szmItemS x3 + szmIntS x4)) := by
  unfold laws_szThree.f
  refine Ev.bind (szItemS_ev x2 a (by omega) (by omega) o0) ?_
  by_cases c0 : ((szmItemS x2 : Nat) : Int) ≤ a
  rotate_left
  · rw [left_neg c0]
    refine Ev.pos (by omega) ?_
    exact Ev.const (by first | rfl | exact congrArg some (left_neg (by omega)).symm)
  rw [left_pos c0]
  refine Ev.neg (by omega) ?_
  refine Ev.bind (szItemS_ev x3 (a - (szmItemS x2 : Nat)) (by omega) (by omega) o1) ?_
  by_cases c1 : ((szmItemS x3 : Nat) : Int) ≤ a - (szmItemS x2 : Nat)
  rotate_left
  · rw [left_neg c1]
    refine Ev.pos (by omega) ?_
    exact Ev.const (by first | rfl | exact congrArg some (left_neg (by omega)).symm)
  rw [left_pos c1]
  refine Ev.neg (by omega) ?_
  refine Ev.bind (szIntS_ev x4 ((a - (szmItemS x2 : Nat)) - (szmItemS x3 : Nat)) (by omega) (by omega) o2) ?_
  by_cases c2 : ((szmIntS x4 : Nat) : Int) ≤ (a - (szmItemS x2 : Nat)) - (szmItemS x3 : Nat)
  rotate_left
  · rw [left_neg c2]
    refine Ev.pos (by omega) ?_
    exact Ev.const (by first | rfl | exact congrArg some (left_neg (by omega)).symm)
  rw [left_pos c2]
  refine Ev.neg (by omega) ?_
  exact Ev.const (by first | rfl | exact congrArg some (by rw [left_pos (by omega)] <;> omega))
theorem toThree_ev (x0 : Int) (x1 : Int) (x2 : List S161) (x3 : List S161) (x4 : List Int) (o_x2 : okT37 x2) (o_x3 : okT37 x3) (o_x4 : okT38 x4) : Ev (fun k => laws_toThree.f k x0 x1 x2 x3 x4) (x0, x1, (x2.map cvItem), (x3.map cvItem), x4) := by
  unfold laws_toThree.f
  refine Ev.bind (toItemS_ev x2 o_x2) ?_
  refine Ev.bind (toItemS_ev x3 o_x3) ?_
  refine Ev.bind (toIntS_ev x4 o_x4) ?_
  exact Ev.const rfl
theorem eqThree_ev (x0 : Int) (x1 : Int) (x2 : List S23) (x3 : List S23) (x4 : List Int) (o_x2 : x2.length ≤ 140737488351232) (o_x3 : x3.length ≤ 140737488351232) (o_x4 : x4.length ≤ 140737488351232) : Ev (fun k => laws_eqThree.f k x0 x1 x2 x3 x4 x0 x1 x2 x3 x4) true := by
  unfold laws_eqThree.f
  refine Ev.pos rfl ?_
  refine Ev.pos rfl ?_
  refine Ev.bind (eqItemS_ev x2 o_x2) ?_
  refine Ev.pos rfl ?_
  refine Ev.bind (eqItemS_ev x3 o_x3) ?_
  refine Ev.pos rfl ?_
  refine Ev.bind (eqIntS_ev x4 o_x4) ?_
  refine Ev.pos rfl ?_
  exact Ev.const rfl
end Go.Proofs.Ytmbfjhhlpnjeoaa.Fam

namespace Go.Proofs.Ytmbfjhhlpnjeoaa.Fam
open Go.RowKit Go.Proofs.Ytmbfjhhlpnjeoaa.G Go.Proofs.Ytmbfjhhlpnjeoaa.PL Go.Proofs.Ytmbfjhhlpnjeoaa.Ok Go.Proofs.YtmbfjhhlpnjeoaaW.PrintWords Go.Proofs.YtmbfjhhlpnjeoaaW.PrintLast Go.Proofs.YtmbfjhhlpnjeoaaW.PrintMore
set_option linter.unusedVariables false
set_option linter.unusedSimpArgs false
def cvGone (x : S221) : S219 := ⟨x.f0, x.f1⟩
instance decGone : DecidableEq S219 := fun a b => decidable_of_iff (a.f0 = b.f0 ∧ a.f1 = b.f1) (by cases a; cases b; simp)
theorem toGone_ev (x0 : Int) (x1 : Int)  : Ev (fun k => laws_toGone.f x0 x1) (x0, x1) := by
  unfold laws_toGone.f
  exact Ev.const rfl
theorem eqGone_ev (x0 : Int) (x1 : Int)  : Ev (fun k => laws_eqGone.f x0 x1 x0 x1) true := by
  unfold laws_eqGone.f
  refine Ev.pos rfl ?_
  refine Ev.pos rfl ?_
  exact Ev.const rfl
end Go.Proofs.Ytmbfjhhlpnjeoaa.Fam

namespace Go.Proofs.Ytmbfjhhlpnjeoaa.Fam
open Go.RowKit Go.Proofs.Ytmbfjhhlpnjeoaa.G Go.Proofs.Ytmbfjhhlpnjeoaa.PL Go.Proofs.Ytmbfjhhlpnjeoaa.Ok Go.Proofs.YtmbfjhhlpnjeoaaW.PrintWords Go.Proofs.YtmbfjhhlpnjeoaaW.PrintLast Go.Proofs.YtmbfjhhlpnjeoaaW.PrintMore
set_option linter.unusedVariables false
set_option linter.unusedSimpArgs false
def szmGoneS (l : List S221) : Nat := l.length
theorem szGoneS_ev (l : List S221) (a : Int) (h0 : 0 ≤ a) (h1 : a ≤ 1048576) (o : okT55 l) : Ev (fun k => laws_szGoneS.f l a) (left a (szmGoneS l)) := by
  have ho := o.2
  unfold laws_szGoneS.f szmGoneS
  rw [w64 (by omega) (by omega)]
  by_cases c : (l.length : Int) ≤ a
  · refine Ev.neg (by omega) ?_
    exact Ev.const (congrArg some (left_pos c).symm)
  · refine Ev.pos (by omega) ?_
    exact Ev.const (congrArg some (left_neg c).symm)
theorem toGoneS_l0 (l : List S221) (ho : okT55 l) : ∀ (d i : Nat) (ys : List S219), i + d = l.length → ys.length = l.length → ys.take i = (l.take i).map cvGone → Ev (fun k => laws_toGoneS.l0 k l ys i) (l.map cvGone) := by
  have hl := ho.2
  intro d
  induction d with
  | zero =>
    intro i ys hi hy ht
    refine Ev.step (fun _ => rfl) ?_
    simp only [laws_toGoneS.l0]
    refine Ev.neg (by omega) ?_
    rw [List.take_of_length_le (by omega), List.take_of_length_le (by omega)] at ht
    exact Ev.const (congrArg some ht)
  | succ d ih =>
    intro i ys hi hy ht
    have hlt : i < l.length := by omega
    have er : rd_T221 l (i : Int) = l[i] := getD_at hlt _
    have hok := ho.1 _ (List.getElem_mem hlt)
    refine Ev.step (fun _ => rfl) ?_
    simp only [laws_toGoneS.l0]
    refine Ev.pos (by omega) ?_
    refine Ev.pos (by omega) ?_
    rw [er, wsucc (by omega)]
    refine Ev.bind (toGone_ev (l[i]).f0 (l[i]).f1 ) ?_
    refine Ev.pos (by omega) ?_
    exact ih (i + 1) _ (by omega) (by simp [hy]) (take_drop_set cvGone l ys hlt hy ht)
theorem toGoneS_ev (l : List S221) (o : okT55 l) : Ev (fun k => laws_toGoneS.f k l) (l.map cvGone) := by
  have ho := o.2
  unfold laws_toGoneS.f
  rw [Int.toNat_natCast]
  refine Ev.pos (by omega) ?_
  refine Ev.pos (by omega) ?_
  refine Ev.to (toGoneS_l0 l o l.length 0 _ (by omega) (by simp) (by simp)) ?_
  rfl
theorem eqGoneS_l0 (l : List S219) (ho : l.length ≤ 140737488351232) : ∀ (d i : Nat), i + d = l.length → Ev (fun k => laws_eqGoneS.l0 k l l i) true := by
  have hl : l.length ≤ 140737488351232 := ho
  intro d
  induction d with
  | zero =>
    intro i hi
    refine Ev.step (fun _ => rfl) ?_
    simp only [laws_eqGoneS.l0]
    refine Ev.neg (by omega) ?_
    exact Ev.const rfl
  | succ d ih =>
    intro i hi
    refine Ev.step (fun _ => rfl) ?_
    simp only [laws_eqGoneS.l0]
    refine Ev.pos (by omega) ?_
    refine Ev.pos (by omega) ?_
    refine Ev.pos (by omega) ?_
    rw [wsucc (by omega)]
    refine Ev.bind (eqGone_ev _ _ ) ?_
    refine Ev.pos rfl ?_
    exact ih (i + 1) (by omega)
theorem eqGoneS_ev (l : List S219) (ho : l.length ≤ 140737488351232) : Ev (fun k => laws_eqGoneS.f k l l) true := by
  unfold laws_eqGoneS.f
  refine Ev.pos rfl ?_
  exact eqGoneS_l0 l ho l.length 0 (by omega)
end Go.Proofs.Ytmbfjhhlpnjeoaa.Fam

namespace Go.Proofs.Ytmbfjhhlpnjeoaa.Fam
open Go.RowKit Go.Proofs.Ytmbfjhhlpnjeoaa.G Go.Proofs.Ytmbfjhhlpnjeoaa.PL Go.Proofs.Ytmbfjhhlpnjeoaa.Ok Go.Proofs.YtmbfjhhlpnjeoaaW.PrintWords Go.Proofs.YtmbfjhhlpnjeoaaW.PrintLast Go.Proofs.YtmbfjhhlpnjeoaaW.PrintMore
set_option linter.unusedVariables false
set_option linter.unusedSimpArgs false
theorem szAges_ev (x0 : Int) (x1 : List Int) (x2 : List S221) (a : Int) (h0 : 0 ≤ a) (h1 : a ≤ 1048576) (o0 : okT38 x1) (o1 : okT55 x2) : Ev (fun k => laws_szAges.f x0 x1 x2 a) (left a (szmIntS x1 + szmGoneS x2)) := by
  unfold laws_szAges.f
  refine Ev.bind (szIntS_ev x1 a (by omega) (by omega) o0) ?_
  by_cases c0 : ((szmIntS x1 : Nat) : Int) ≤ a
  rotate_left
  · rw [left_neg c0]
    refine Ev.pos (by omega) ?_
    exact Ev.const (by first | rfl | exact congrArg some (left_neg (by omega)).symm)
  rw [left_pos c0]
  refine Ev.neg (by omega) ?_
  refine Ev.bind (szGoneS_ev x2 (a - (szmIntS x1 : Nat)) (by omega) (by omega) o1) ?_
  by_cases c1 : ((szmGoneS x2 : Nat) : Int) ≤ a - (szmIntS x1 : Nat)
  rotate_left
  · rw [left_neg c1]
    refine Ev.pos (by omega) ?_
    exact Ev.const (by first | rfl | exact congrArg some (left_neg (by omega)).symm)
  rw [left_pos c1]
  refine Ev.neg (by omega) ?_
  exact Ev.const (by first | rfl | exact congrArg some (by rw [left_pos (by omega)] <;> omega))
theorem toAges_ev (x0 : Int) (x1 : List Int) (x2 : List S221) (o_x1 : okT38 x1) (o_x2 : okT55 x2) : Ev (fun k => laws_toAges.f k x0 x1 x2) (x0, x1, (x2.map cvGone)) := by
  unfold laws_toAges.f
  refine Ev.bind (toIntS_ev x1 o_x1) ?_
  refine Ev.bind (toGoneS_ev x2 o_x2) ?_
  exact Ev.const rfl
theorem eqAges_ev (x0 : Int) (x1 : List Int) (x2 : List S219) (o_x1 : x1.length ≤ 140737488351232) (o_x2 : x2.length ≤ 140737488351232) : Ev (fun k => laws_eqAges.f k x0 x1 x2 x0 x1 x2) true := by
  unfold laws_eqAges.f
  refine Ev.pos rfl ?_
  refine Ev.bind (eqIntS_ev x1 o_x1) ?_
  refine Ev.pos rfl ?_
  refine Ev.bind (eqGoneS_ev x2 o_x2) ?_
  refine Ev.pos rfl ?_
  exact Ev.const rfl
end Go.Proofs.Ytmbfjhhlpnjeoaa.Fam

namespace Go.Proofs.Ytmbfjhhlpnjeoaa.Fam
open Go.RowKit Go.Proofs.Ytmbfjhhlpnjeoaa.G Go.Proofs.Ytmbfjhhlpnjeoaa.PL Go.Proofs.Ytmbfjhhlpnjeoaa.Ok Go.Proofs.YtmbfjhhlpnjeoaaW.PrintWords Go.Proofs.YtmbfjhhlpnjeoaaW.PrintLast Go.Proofs.YtmbfjhhlpnjeoaaW.PrintMore
set_option linter.unusedVariables false
set_option linter.unusedSimpArgs false
theorem szPool_ev (x0 : List Int) (x1 : Int) (x2 : List Int) (x3 : List S221) (x4 : List Int) (a : Int) (h0 : 0 ≤ a) (h1 : a ≤ 1048576) (o0 : okT38 x0) (o1_0 : okT38 x2) (o1_1 : okT55 x3) (o2 : okT38 x4) : Ev (fun k => laws_szPool.f x0 x1 x2 x3 x4 a) (left a (szmIntS x0 + (szmIntS x2 + szmGoneS x3) + szmIntS x4)) := by
  unfold laws_szPool.f
  refine Ev.bind (szIntS_ev x0 a (by omega) (by omega) o0) ?_
  by_cases c0 : ((szmIntS x0 : Nat) : Int) ≤ a
  rotate_left
  · rw [left_neg c0]
    refine Ev.pos (by omega) ?_
    exact Ev.const (by first | rfl | exact congrArg some (left_neg (by omega)).symm)
  rw [left_pos c0]
  refine Ev.neg (by omega) ?_
  refine Ev.bind (szAges_ev x1 x2 x3 (a - (szmIntS x0 : Nat)) (by omega) (by omega) o1_0 o1_1) ?_
  by_cases c1 : ((szmIntS x2 + szmGoneS x3 : Nat) : Int) ≤ a - (szmIntS x0 : Nat)
  rotate_left
  · rw [left_neg c1]
    refine Ev.pos (by omega) ?_
    exact Ev.const (by first | rfl | exact congrArg some (left_neg (by omega)).symm)
  rw [left_pos c1]
  refine Ev.neg (by omega) ?_
  refine Ev.bind (szIntS_ev x4 ((a - (szmIntS x0 : Nat)) - (szmIntS x2 + szmGoneS x3 : Nat)) (by omega) (by omega) o2) ?_
  by_cases c2 : ((szmIntS x4 : Nat) : Int) ≤ (a - (szmIntS x0 : Nat)) - (szmIntS x2 + szmGoneS x3 : Nat)
  rotate_left
  · rw [left_neg c2]
    refine Ev.pos (by omega) ?_
    exact Ev.const (by first | rfl | exact congrArg some (left_neg (by omega)).symm)
  rw [left_pos c2]
  refine Ev.neg (by omega) ?_
  exact Ev.const (by first | rfl | exact congrArg some (by rw [left_pos (by omega)] <;> omega))
theorem toPool_ev (x0 : List Int) (x1 : Int) (x2 : List Int) (x3 : List S221) (x4 : List Int) (o_x0 : okT38 x0) (o_x2 : okT38 x2) (o_x3 : okT55 x3) (o_x4 : okT38 x4) : Ev (fun k => laws_toPool.f k x0 x1 x2 x3 x4) (x0, x1, x2, (x3.map cvGone), x4) := by
  unfold laws_toPool.f
  refine Ev.bind (toIntS_ev x0 o_x0) ?_
  refine Ev.bind (toAges_ev x1 x2 x3 o_x2 o_x3) ?_
  refine Ev.bind (toIntS_ev x4 o_x4) ?_
  exact Ev.const rfl
theorem eqPool_ev (x0 : List Int) (x1 : Int) (x2 : List Int) (x3 : List S219) (x4 : List Int) (o_x0 : x0.length ≤ 140737488351232) (o_x2 : x2.length ≤ 140737488351232) (o_x3 : x3.length ≤ 140737488351232) (o_x4 : x4.length ≤ 140737488351232) : Ev (fun k => laws_eqPool.f k x0 x1 x2 x3 x4 x0 x1 x2 x3 x4) true := by
  unfold laws_eqPool.f
  refine Ev.bind (eqIntS_ev x0 o_x0) ?_
  refine Ev.pos rfl ?_
  refine Ev.bind (eqAges_ev x1 x2 x3 o_x2 o_x3) ?_
  refine Ev.pos rfl ?_
  refine Ev.bind (eqIntS_ev x4 o_x4) ?_
  refine Ev.pos rfl ?_
  exact Ev.const rfl
end Go.Proofs.Ytmbfjhhlpnjeoaa.Fam

namespace Go.Proofs.Ytmbfjhhlpnjeoaa.Fam
open Go.RowKit Go.Proofs.Ytmbfjhhlpnjeoaa.G Go.Proofs.Ytmbfjhhlpnjeoaa.PL Go.Proofs.Ytmbfjhhlpnjeoaa.Ok Go.Proofs.YtmbfjhhlpnjeoaaW.PrintWords Go.Proofs.YtmbfjhhlpnjeoaaW.PrintLast Go.Proofs.YtmbfjhhlpnjeoaaW.PrintMore
set_option linter.unusedVariables false
set_option linter.unusedSimpArgs false
def cvSpot (x : S174) : S124 := ⟨x.f0, x.f1⟩
instance decSpot : DecidableEq S124 := fun a b => decidable_of_iff (a.f0 = b.f0 ∧ a.f1 = b.f1) (by cases a; cases b; simp)
def szmSpot (x : S174) : Nat := x.f0.size
theorem szSpot_ev (x0 : ByteArray) (x1 : Int) (a : Int) (h0 : 0 ≤ a) (h1 : a ≤ 1048576) (o0 : x0.size ≤ 140737488351232) : Ev (fun k => laws_szSpot.f x0 x1 a) (left a (x0.size)) := by
  unfold laws_szSpot.f
  by_cases c0 : ((x0.size : Nat) : Int) ≤ a
  rotate_left
  · rw [w64 (x := a - (x0.size : Int)) (by omega) (by omega)]
    refine Ev.pos (by omega) ?_
    exact Ev.const (congrArg some (left_neg (by omega)).symm)
  rw [w64 (x := a - (x0.size : Int)) (by omega) (by omega)]
  refine Ev.neg (by omega) ?_
  exact Ev.const (by first | rfl | exact congrArg some (by rw [left_pos (by omega)] <;> omega))
theorem toSpot_ev (x0 : ByteArray) (x1 : Int)  : Ev (fun k => laws_toSpot.f x0 x1) (x0, x1) := by
  unfold laws_toSpot.f
  exact Ev.const rfl
theorem eqSpot_ev (x0 : ByteArray) (x1 : Int)  : Ev (fun k => laws_eqSpot.f x0 x1 x0 x1) true := by
  unfold laws_eqSpot.f
  refine Ev.pos rfl ?_
  refine Ev.pos rfl ?_
  exact Ev.const rfl
end Go.Proofs.Ytmbfjhhlpnjeoaa.Fam

namespace Go.Proofs.Ytmbfjhhlpnjeoaa.Fam
open Go.RowKit Go.Proofs.Ytmbfjhhlpnjeoaa.G Go.Proofs.Ytmbfjhhlpnjeoaa.PL Go.Proofs.Ytmbfjhhlpnjeoaa.Ok Go.Proofs.YtmbfjhhlpnjeoaaW.PrintWords Go.Proofs.YtmbfjhhlpnjeoaaW.PrintLast Go.Proofs.YtmbfjhhlpnjeoaaW.PrintMore
set_option linter.unusedVariables false
set_option linter.unusedSimpArgs false
def szmSpotS (l : List S174) : Nat := l.length + (l.map fun x => (szmSpot x)).sum
theorem szSpotS_l0 (l : List S174) (ho : okT60 l) : ∀ (d i : Nat) (a : Int), i + d = l.length → 0 ≤ a → a ≤ 1048576 → Ev (fun k => laws_szSpotS.l0 k l a i) (left a ((l.drop i).map fun x => (szmSpot x)).sum) := by
  have hl := ho.2
  intro d
  induction d with
  | zero =>
    intro i a hi h0 h1
    refine Ev.step (fun _ => rfl) ?_
    simp only [laws_szSpotS.l0]
    refine Ev.neg (by omega) ?_
    rw [List.drop_of_length_le (by omega)]
    exact Ev.const (congrArg some (left_zero h0).symm)
  | succ d ih =>
    intro i a hi h0 h1
    have hlt : i < l.length := by omega
    have er : rd_T174 l (i : Int) = l[i] := getD_at hlt _
    have hok := ho.1 _ (List.getElem_mem hlt)
    refine Ev.step (fun _ => rfl) ?_
    simp only [laws_szSpotS.l0]
    refine Ev.pos (by omega) ?_
    refine Ev.pos (by omega) ?_
    rw [er, drop_at hlt, List.map_cons, List.sum_cons, wsucc (by omega)]
    have hz : (szmSpot l[i]) = (l[i]).f0.size := rfl
    refine Ev.bind (szSpot_ev (l[i]).f0 (l[i]).f1 a h0 h1 hok.1) ?_
    rw [← hz]
    by_cases c : (((szmSpot l[i]) : Nat) : Int) ≤ a
    · rw [left_pos c]
      refine Ev.neg (by omega) ?_
      refine Ev.to (ih (i + 1) (a - (szmSpot l[i])) (by omega) (by omega) (by omega)) ?_
      exact left_add
    · rw [left_neg c]
      refine Ev.pos (by omega) ?_
      exact Ev.const (congrArg some (left_neg_add c).symm)
theorem szSpotS_ev (l : List S174) (a : Int) (h0 : 0 ≤ a) (h1 : a ≤ 1048576) (o : okT60 l) : Ev (fun k => laws_szSpotS.f k l a) (left a (szmSpotS l)) := by
  have ho := o.2
  unfold laws_szSpotS.f szmSpotS
  rw [w64 (by omega) (by omega)]
  by_cases c : (l.length : Int) ≤ a
  · refine Ev.neg (by omega) ?_
    refine Ev.to (szSpotS_l0 l o l.length 0 (a - l.length) (by omega) (by omega) (by omega)) ?_
    rw [List.drop_zero]
    exact left_add
  · refine Ev.pos (by omega) ?_
    exact Ev.const (congrArg some (left_neg_add c).symm)
theorem toSpotS_l0 (l : List S174) (ho : okT60 l) : ∀ (d i : Nat) (ys : List S124), i + d = l.length → ys.length = l.length → ys.take i = (l.take i).map cvSpot → Ev (fun k => laws_toSpotS.l0 k l ys i) (l.map cvSpot) := by
  have hl := ho.2
  intro d
  induction d with
  | zero =>
    intro i ys hi hy ht
    refine Ev.step (fun _ => rfl) ?_
    simp only [laws_toSpotS.l0]
    refine Ev.neg (by omega) ?_
    rw [List.take_of_length_le (by omega), List.take_of_length_le (by omega)] at ht
    exact Ev.const (congrArg some ht)
  | succ d ih =>
    intro i ys hi hy ht
    have hlt : i < l.length := by omega
    have er : rd_T174 l (i : Int) = l[i] := getD_at hlt _
    have hok := ho.1 _ (List.getElem_mem hlt)
    refine Ev.step (fun _ => rfl) ?_
    simp only [laws_toSpotS.l0]
    refine Ev.pos (by omega) ?_
    refine Ev.pos (by omega) ?_
    rw [er, wsucc (by omega)]
    refine Ev.bind (toSpot_ev (l[i]).f0 (l[i]).f1 ) ?_
    refine Ev.pos (by omega) ?_
    exact ih (i + 1) _ (by omega) (by simp [hy]) (take_drop_set cvSpot l ys hlt hy ht)
theorem toSpotS_ev (l : List S174) (o : okT60 l) : Ev (fun k => laws_toSpotS.f k l) (l.map cvSpot) := by
  have ho := o.2
  unfold laws_toSpotS.f
  rw [Int.toNat_natCast]
  refine Ev.pos (by omega) ?_
  refine Ev.pos (by omega) ?_
  refine Ev.to (toSpotS_l0 l o l.length 0 _ (by omega) (by simp) (by simp)) ?_
  rfl
theorem eqSpotS_l0 (l : List S124) (ho : l.length ≤ 140737488351232) : ∀ (d i : Nat), i + d = l.length → Ev (fun k => laws_eqSpotS.l0 k l l i) true := by
  have hl : l.length ≤ 140737488351232 := ho
  intro d
  induction d with
  | zero =>
    intro i hi
    refine Ev.step (fun _ => rfl) ?_
    simp only [laws_eqSpotS.l0]
    refine Ev.neg (by omega) ?_
    exact Ev.const rfl
  | succ d ih =>
    intro i hi
    refine Ev.step (fun _ => rfl) ?_
    simp only [laws_eqSpotS.l0]
    refine Ev.pos (by omega) ?_
    refine Ev.pos (by omega) ?_
    refine Ev.pos (by omega) ?_
    rw [wsucc (by omega)]
    refine Ev.bind (eqSpot_ev _ _ ) ?_
    refine Ev.pos rfl ?_
    exact ih (i + 1) (by omega)
theorem eqSpotS_ev (l : List S124) (ho : l.length ≤ 140737488351232) : Ev (fun k => laws_eqSpotS.f k l l) true := by
  unfold laws_eqSpotS.f
  refine Ev.pos rfl ?_
  exact eqSpotS_l0 l ho l.length 0 (by omega)
end Go.Proofs.Ytmbfjhhlpnjeoaa.Fam

namespace Go.Proofs.Ytmbfjhhlpnjeoaa.Fam
open Go.RowKit Go.Proofs.Ytmbfjhhlpnjeoaa.G Go.Proofs.Ytmbfjhhlpnjeoaa.PL Go.Proofs.Ytmbfjhhlpnjeoaa.Ok Go.Proofs.YtmbfjhhlpnjeoaaW.PrintWords Go.Proofs.YtmbfjhhlpnjeoaaW.PrintLast Go.Proofs.YtmbfjhhlpnjeoaaW.PrintMore
set_option linter.unusedVariables false
set_option linter.unusedSimpArgs false
def cvOp (x : S215) : S29 := ⟨x.f0, x.f1, x.f2⟩
instance decOp : DecidableEq S29 := fun a b => decidable_of_iff (a.f0 = b.f0 ∧ a.f1 = b.f1 ∧ a.f2 = b.f2) (by cases a; cases b; simp)
def szmOp (x : S215) : Nat := x.f1.size + x.f2.size
theorem szOp_ev (x0 : Int) (x1 : ByteArray) (x2 : ByteArray) (a : Int) (h0 : 0 ≤ a) (h1 : a ≤ 1048576) (o0 : x1.size ≤ 140737488351232) (o1 : x2.size ≤ 140737488351232) : Ev (fun k => laws_szOp.f x0 x1 x2 a) (left a (x1.size + x2.size)) := by
  unfold laws_szOp.f
  by_cases c0 : ((x1.size : Nat) : Int) ≤ a
  rotate_left
  · rw [w64 (x := a - (x1.size : Int)) (by omega) (by omega)]
    refine Ev.pos (by omega) ?_
    exact Ev.const (congrArg some (left_neg (by omega)).symm)
  rw [w64 (x := a - (x1.size : Int)) (by omega) (by omega)]
  refine Ev.neg (by omega) ?_
  by_cases c1 : ((x2.size : Nat) : Int) ≤ a - (x1.size : Nat)
  rotate_left
  · rw [w64 (x := a - (x1.size : Nat) - (x2.size : Int)) (by omega) (by omega)]
    refine Ev.pos (by omega) ?_
    exact Ev.const (congrArg some (left_neg (by omega)).symm)
  rw [w64 (x := a - (x1.size : Nat) - (x2.size : Int)) (by omega) (by omega)]
  refine Ev.neg (by omega) ?_
  exact Ev.const (by first | rfl | exact congrArg some (by rw [left_pos (by omega)] <;> omega))
theorem toOp_ev (x0 : Int) (x1 : ByteArray) (x2 : ByteArray)  : Ev (fun k => laws_toOp.f x0 x1 x2) (x0, x1, x2) := by
  unfold laws_toOp.f
  exact Ev.const rfl
theorem eqOp_ev (x0 : Int) (x1 : ByteArray) (x2 : ByteArray)  : Ev (fun k => laws_eqOp.f x0 x1 x2 x0 x1 x2) true := by
  unfold laws_eqOp.f
  refine Ev.pos rfl ?_
  refine Ev.pos rfl ?_
  refine Ev.pos rfl ?_
  exact Ev.const rfl
end Go.Proofs.Ytmbfjhhlpnjeoaa.Fam

namespace Go.Proofs.Ytmbfjhhlpnjeoaa.Fam
open Go.RowKit Go.Proofs.Ytmbfjhhlpnjeoaa.G Go.Proofs.Ytmbfjhhlpnjeoaa.PL Go.Proofs.Ytmbfjhhlpnjeoaa.Ok Go.Proofs.YtmbfjhhlpnjeoaaW.PrintWords Go.Proofs.YtmbfjhhlpnjeoaaW.PrintLast Go.Proofs.YtmbfjhhlpnjeoaaW.PrintMore
set_option linter.unusedVariables false
set_option linter.unusedSimpArgs false
def szmOpS (l : List S215) : Nat := l.length + (l.map fun x => (szmOp x)).sum
theorem szOpS_l0 (l : List S215) (ho : okT176 l) : ∀ (d i : Nat) (a : Int), i + d = l.length → 0 ≤ a → a ≤ 1048576 → Ev (fun k => laws_szOpS.l0 k l a i) (left a ((l.drop i).map fun x => (szmOp x)).sum) := by
  have hl := ho.2
  intro d
  induction d with
  | zero =>
    intro i a hi h0 h1
    refine Ev.step (fun _ => rfl) ?_
    simp only [laws_szOpS.l0]
    refine Ev.neg (by omega) ?_
    rw [List.drop_of_length_le (by omega)]
    exact Ev.const (congrArg some (left_zero h0).symm)
  | succ d ih =>
    intro i a hi h0 h1
    have hlt : i < l.length := by omega
    have er : rd_T215 l (i : Int) = l[i] := getD_at hlt _
    have hok := ho.1 _ (List.getElem_mem hlt)
    refine Ev.step (fun _ => rfl) ?_
    simp only [laws_szOpS.l0]
    refine Ev.pos (by omega) ?_
    refine Ev.pos (by omega) ?_
    rw [er, drop_at hlt, List.map_cons, List.sum_cons, wsucc (by omega)]
    have hz : (szmOp l[i]) = (l[i]).f1.size + (l[i]).f2.size := rfl
    refine Ev.bind (szOp_ev (l[i]).f0 (l[i]).f1 (l[i]).f2 a h0 h1 hok.2.1 hok.2.2) ?_
    rw [← hz]
    by_cases c : (((szmOp l[i]) : Nat) : Int) ≤ a
    · rw [left_pos c]
      refine Ev.neg (by omega) ?_
      refine Ev.to (ih (i + 1) (a - (szmOp l[i])) (by omega) (by omega) (by omega)) ?_
      exact left_add
    · rw [left_neg c]
      refine Ev.pos (by omega) ?_
      exact Ev.const (congrArg some (left_neg_add c).symm)
theorem szOpS_ev (l : List S215) (a : Int) (h0 : 0 ≤ a) (h1 : a ≤ 1048576) (o : okT176 l) : Ev (fun k => laws_szOpS.f k l a) (left a (szmOpS l)) := by
  have ho := o.2
  unfold laws_szOpS.f szmOpS
  rw [w64 (by omega) (by omega)]
  by_cases c : (l.length : Int) ≤ a
  · refine Ev.neg (by omega) ?_
    refine Ev.to (szOpS_l0 l o l.length 0 (a - l.length) (by omega) (by omega) (by omega)) ?_
    rw [List.drop_zero]
    exact left_add
  · refine Ev.pos (by omega) ?_
    exact Ev.const (congrArg some (left_neg_add c).symm)
theorem toOpS_l0 (l : List S215) (ho : okT176 l) : ∀ (d i : Nat) (ys : List S29), i + d = l.length → ys.length = l.length → ys.take i = (l.take i).map cvOp → Ev (fun k => laws_toOpS.l0 k l ys i) (l.map cvOp) := by
  have hl := ho.2
  intro d
  induction d with
  | zero =>
    intro i ys hi hy ht
    refine Ev.step (fun _ => rfl) ?_
    simp only [laws_toOpS.l0]
    refine Ev.neg (by omega) ?_
    rw [List.take_of_length_le (by omega), List.take_of_length_le (by omega)] at ht
    exact Ev.const (congrArg some ht)
  | succ d ih =>
    intro i ys hi hy ht
    have hlt : i < l.length := by omega
    have er : rd_T215 l (i : Int) = l[i] := getD_at hlt _
    have hok := ho.1 _ (List.getElem_mem hlt)
    refine Ev.step (fun _ => rfl) ?_
    simp only [laws_toOpS.l0]
    refine Ev.pos (by omega) ?_
    refine Ev.pos (by omega) ?_
    rw [er, wsucc (by omega)]
    refine Ev.bind (toOp_ev (l[i]).f0 (l[i]).f1 (l[i]).f2 ) ?_
    refine Ev.pos (by omega) ?_
    exact ih (i + 1) _ (by omega) (by simp [hy]) (take_drop_set cvOp l ys hlt hy ht)
theorem toOpS_ev (l : List S215) (o : okT176 l) : Ev (fun k => laws_toOpS.f k l) (l.map cvOp) := by
  have ho := o.2
  unfold laws_toOpS.f
  rw [Int.toNat_natCast]
  refine Ev.pos (by omega) ?_
  refine Ev.pos (by omega) ?_
  refine Ev.to (toOpS_l0 l o l.length 0 _ (by omega) (by simp) (by simp)) ?_
  rfl
theorem eqOpS_l0 (l : List S29) (ho : l.length ≤ 140737488351232) : ∀ (d i : Nat), i + d = l.length → Ev (fun k => laws_eqOpS.l0 k l l i) true := by
  have hl : l.length ≤ 140737488351232 := ho
  intro d
  induction d with
  | zero =>
    intro i hi
    refine Ev.step (fun _ => rfl) ?_
    simp only [laws_eqOpS.l0]
    refine Ev.neg (by omega) ?_
    exact Ev.const rfl
  | succ d ih =>
    intro i hi
    refine Ev.step (fun _ => rfl) ?_
    simp only [laws_eqOpS.l0]
    refine Ev.pos (by omega) ?_
    refine Ev.pos (by omega) ?_
    refine Ev.pos (by omega) ?_
    rw [wsucc (by omega)]
    refine Ev.bind (eqOp_ev _ _ _ ) ?_
    refine Ev.pos rfl ?_
    exact ih (i + 1) (by omega)
theorem eqOpS_ev (l : List S29) (ho : l.length ≤ 140737488351232) : Ev (fun k => laws_eqOpS.f k l l) true := by
  unfold laws_eqOpS.f
  refine Ev.pos rfl ?_
  exact eqOpS_l0 l ho l.length 0 (by omega)
end Go.Proofs.Ytmbfjhhlpnjeoaa.Fam

namespace Go.Proofs.Ytmbfjhhlpnjeoaa.Fam
open Go.RowKit Go.Proofs.Ytmbfjhhlpnjeoaa.G Go.Proofs.Ytmbfjhhlpnjeoaa.PL Go.Proofs.Ytmbfjhhlpnjeoaa.Ok Go.Proofs.YtmbfjhhlpnjeoaaW.PrintWords Go.Proofs.YtmbfjhhlpnjeoaaW.PrintLast Go.Proofs.YtmbfjhhlpnjeoaaW.PrintMore
set_option linter.unusedVariables false
set_option linter.unusedSimpArgs false
def cvReply (x : S217) : S150 := ⟨x.f0, x.f1, x.f2⟩
instance decReply : DecidableEq S150 := fun a b => decidable_of_iff (a.f0 = b.f0 ∧ a.f1 = b.f1 ∧ a.f2 = b.f2) (by cases a; cases b; simp)
def szmReply (x : S217) : Nat := x.f1.size + x.f2.size
theorem szReply_ev (x0 : Bool) (x1 : ByteArray) (x2 : ByteArray) (a : Int) (h0 : 0 ≤ a) (h1 : a ≤ 1048576) (o0 : x1.size ≤ 140737488351232) (o1 : x2.size ≤ 140737488351232) : Ev (fun k => laws_szReply.f x0 x1 x2 a) (left a (x1.size + x2.size)) := by
  unfold laws_szReply.f
  by_cases c0 : ((x1.size : Nat) : Int) ≤ a
  rotate_left
  · rw [w64 (x := a - (x1.size : Int)) (by omega) (by omega)]
    refine Ev.pos (by omega) ?_
    exact Ev.const (congrArg some (left_neg (by omega)).symm)
  rw [w64 (x := a - (x1.size : Int)) (by omega) (by omega)]
  refine Ev.neg (by omega) ?_
  by_cases c1 : ((x2.size : Nat) : Int) ≤ a - (x1.size : Nat)
  rotate_left
  · rw [w64 (x := a - (x1.size : Nat) - (x2.size : Int)) (by omega) (by omega)]
    refine Ev.pos (by omega) ?_
    exact Ev.const (congrArg some (left_neg (by omega)).symm)
  rw [w64 (x := a - (x1.size : Nat) - (x2.size : Int)) (by omega) (by omega)]
  refine Ev.neg (by omega) ?_
  exact Ev.const (by first | rfl | exact congrArg some (by rw [left_pos (by omega)] <;> omega))
theorem toReply_ev (x0 : Bool) (x1 : ByteArray) (x2 : ByteArray)  : Ev (fun k => laws_toReply.f x0 x1 x2) (x0, x1, x2) := by
  unfold laws_toReply.f
  exact Ev.const rfl
theorem eqReply_ev (x0 : Bool) (x1 : ByteArray) (x2 : ByteArray)  : Ev (fun k => laws_eqReply.f x0 x1 x2 x0 x1 x2) true := by
  unfold laws_eqReply.f
  refine Ev.neg (by simp) ?_
  refine Ev.pos rfl ?_
  refine Ev.pos rfl ?_
  exact Ev.const rfl
end Go.Proofs.Ytmbfjhhlpnjeoaa.Fam

namespace Go.Proofs.Ytmbfjhhlpnjeoaa.Fam
open Go.RowKit Go.Proofs.Ytmbfjhhlpnjeoaa.G Go.Proofs.Ytmbfjhhlpnjeoaa.PL Go.Proofs.Ytmbfjhhlpnjeoaa.Ok Go.Proofs.YtmbfjhhlpnjeoaaW.PrintWords Go.Proofs.YtmbfjhhlpnjeoaaW.PrintLast Go.Proofs.YtmbfjhhlpnjeoaaW.PrintMore
set_option linter.unusedVariables false
set_option linter.unusedSimpArgs false
def szmReplyS (l : List S217) : Nat := l.length + (l.map fun x => (szmReply x)).sum
theorem szReplyS_l0 (l : List S217) (ho : okT177 l) : ∀ (d i : Nat) (a : Int), i + d = l.length → 0 ≤ a → a ≤ 1048576 → Ev (fun k => laws_szReplyS.l0 k l a i) (left a ((l.drop i).map fun x => (szmReply x)).sum) := by
  have hl := ho.2
  intro d
  induction d with
  | zero =>
    intro i a hi h0 h1
    refine Ev.step (fun _ => rfl) ?_
    simp only [laws_szReplyS.l0]
    refine Ev.neg (by omega) ?_
    rw [List.drop_of_length_le (by omega)]
    exact Ev.const (congrArg some (left_zero h0).symm)
  | succ d ih =>
    intro i a hi h0 h1
    have hlt : i < l.length := by omega
    have er : rd_T217 l (i : Int) = l[i] := getD_at hlt _
    have hok := ho.1 _ (List.getElem_mem hlt)
    refine Ev.step (fun _ => rfl) ?_
    simp only [laws_szReplyS.l0]
    refine Ev.pos (by omega) ?_
    refine Ev.pos (by omega) ?_
    rw [er, drop_at hlt, List.map_cons, List.sum_cons, wsucc (by omega)]
    have hz : (szmReply l[i]) = (l[i]).f1.size + (l[i]).f2.size := rfl
    refine Ev.bind (szReply_ev (l[i]).f0 (l[i]).f1 (l[i]).f2 a h0 h1 hok.2.1 hok.2.2) ?_
    rw [← hz]
    by_cases c : (((szmReply l[i]) : Nat) : Int) ≤ a
    · rw [left_pos c]
      refine Ev.neg (by omega) ?_
      refine Ev.to (ih (i + 1) (a - (szmReply l[i])) (by omega) (by omega) (by omega)) ?_
      exact left_add
    · rw [left_neg c]
      refine Ev.pos (by omega) ?_
      exact Ev.const (congrArg some (left_neg_add c).symm)
theorem szReplyS_ev (l : List S217) (a : Int) (h0 : 0 ≤ a) (h1 : a ≤ 1048576) (o : okT177 l) : Ev (fun k => laws_szReplyS.f k l a) (left a (szmReplyS l)) := by
  have ho := o.2
  unfold laws_szReplyS.f szmReplyS
  rw [w64 (by omega) (by omega)]
  by_cases c : (l.length : Int) ≤ a
  · refine Ev.neg (by omega) ?_
    refine Ev.to (szReplyS_l0 l o l.length 0 (a - l.length) (by omega) (by omega) (by omega)) ?_
    rw [List.drop_zero]
    exact left_add
  · refine Ev.pos (by omega) ?_
    exact Ev.const (congrArg some (left_neg_add c).symm)
theorem toReplyS_l0 (l : List S217) (ho : okT177 l) : ∀ (d i : Nat) (ys : List S150), i + d = l.length → ys.length = l.length → ys.take i = (l.take i).map cvReply → Ev (fun k => laws_toReplyS.l0 k l ys i) (l.map cvReply) := by
  have hl := ho.2
  intro d
  induction d with
  | zero =>
    intro i ys hi hy ht
    refine Ev.step (fun _ => rfl) ?_
    simp only [laws_toReplyS.l0]
    refine Ev.neg (by omega) ?_
    rw [List.take_of_length_le (by omega), List.take_of_length_le (by omega)] at ht
    exact Ev.const (congrArg some ht)
  | succ d ih =>
    intro i ys hi hy ht
    have hlt : i < l.length := by omega
    have er : rd_T217 l (i : Int) = l[i] := getD_at hlt _
    have hok := ho.1 _ (List.getElem_mem hlt)
    refine Ev.step (fun _ => rfl) ?_
    simp only [laws_toReplyS.l0]
    refine Ev.pos (by omega) ?_
    refine Ev.pos (by omega) ?_
    rw [er, wsucc (by omega)]
    refine Ev.bind (toReply_ev (l[i]).f0 (l[i]).f1 (l[i]).f2 ) ?_
    refine Ev.pos (by omega) ?_
    exact ih (i + 1) _ (by omega) (by simp [hy]) (take_drop_set cvReply l ys hlt hy ht)
theorem toReplyS_ev (l : List S217) (o : okT177 l) : Ev (fun k => laws_toReplyS.f k l) (l.map cvReply) := by
  have ho := o.2
  unfold laws_toReplyS.f
  rw [Int.toNat_natCast]
  refine Ev.pos (by omega) ?_
  refine Ev.pos (by omega) ?_
  refine Ev.to (toReplyS_l0 l o l.length 0 _ (by omega) (by simp) (by simp)) ?_
  rfl
theorem eqReplyS_l0 (l : List S150) (ho : l.length ≤ 140737488351232) : ∀ (d i : Nat), i + d = l.length → Ev (fun k => laws_eqReplyS.l0 k l l i) true := by
  have hl : l.length ≤ 140737488351232 := ho
  intro d
  induction d with
  | zero =>
    intro i hi
    refine Ev.step (fun _ => rfl) ?_
    simp only [laws_eqReplyS.l0]
    refine Ev.neg (by omega) ?_
    exact Ev.const rfl
  | succ d ih =>
    intro i hi
    refine Ev.step (fun _ => rfl) ?_
    simp only [laws_eqReplyS.l0]
    refine Ev.pos (by omega) ?_
    refine Ev.pos (by omega) ?_
    refine Ev.pos (by omega) ?_
    rw [wsucc (by omega)]
    refine Ev.bind (eqReply_ev _ _ _ ) ?_
    refine Ev.pos rfl ?_
    exact ih (i + 1) (by omega)
theorem eqReplyS_ev (l : List S150) (ho : l.length ≤ 140737488351232) : Ev (fun k => laws_eqReplyS.f k l l) true := by
  unfold laws_eqReplyS.f
  refine Ev.pos rfl ?_
  exact eqReplyS_l0 l ho l.length 0 (by omega)
end Go.Proofs.Ytmbfjhhlpnjeoaa.Fam

namespace Go.Proofs.Ytmbfjhhlpnjeoaa.Fam
open Go.RowKit Go.Proofs.Ytmbfjhhlpnjeoaa.G Go.Proofs.Ytmbfjhhlpnjeoaa.PL Go.Proofs.Ytmbfjhhlpnjeoaa.Ok Go.Proofs.YtmbfjhhlpnjeoaaW.PrintWords Go.Proofs.YtmbfjhhlpnjeoaaW.PrintLast Go.Proofs.YtmbfjhhlpnjeoaaW.PrintMore
set_option linter.unusedVariables false
set_option linter.unusedSimpArgs false
def cvUser (x : S179) : S142 := ⟨(x.f0.map cvOp), x.f1, x.f2, x.f3, (x.f4.map cvReply)⟩
instance decUser : DecidableEq S142 := fun a b => decidable_of_iff (a.f0 = b.f0 ∧ a.f1 = b.f1 ∧ a.f2 = b.f2 ∧ a.f3 = b.f3 ∧ a.f4 = b.f4) (by cases a; cases b; simp)
def szmUser (x : S179) : Nat := szmOpS x.f0 + szmReplyS x.f4
theorem szUser_ev (x0 : List S215) (x1 : Int) (x2 : Int) (x3 : Int) (x4 : List S217) (a : Int) (h0 : 0 ≤ a) (h1 : a ≤ 1048576) (o0 : okT176 x0) (o1 : okT177 x4) : Ev (fun k => laws_szUser.f k x0 x1 x2 x3 x4 a) (left a (szmOpS x0 + szmReplyS x4)) := by
  unfold laws_szUser.f
  refine Ev.bind (szOpS_ev x0 a (by omega) (by omega) o0) ?_
  by_cases c0 : ((szmOpS x0 : Nat) : Int) ≤ a
  rotate_left
  · rw [left_neg c0]
    refine Ev.pos (by omega) ?_
    exact Ev.const (by first | rfl | exact congrArg some (left_neg (by omega)).symm)
  rw [left_pos c0]
  refine Ev.neg (by omega) ?_
  refine Ev.bind (szReplyS_ev x4 (a - (szmOpS x0 : Nat)) (by omega) (by omega) o1) ?_
  by_cases c1 : ((szmReplyS x4 : Nat) : Int) ≤ a - (szmOpS x0 : Nat)
  rotate_left
  · rw [left_neg c1]
    refine Ev.pos (by omega) ?_
    exact Ev.const (by first | rfl | exact congrArg some (left_neg (by omega)).symm)
  rw [left_pos c1]
  refine Ev.neg (by omega) ?_
  exact Ev.const (by first | rfl | exact congrArg some (by rw [left_pos (by omega)] <;> omega))
theorem toUser_ev (x0 : List S215) (x1 : Int) (x2 : Int) (x3 : Int) (x4 : List S217) (o_x0 : okT176 x0) (o_x4 : okT177 x4) : Ev (fun k => laws_toUser.f k x0 x1 x2 x3 x4) ((x0.map cvOp), x1, x2, x3, (x4.map cvReply)) := by
  unfold laws_toUser.f
  refine Ev.bind (toOpS_ev x0 o_x0) ?_
  refine Ev.bind (toReplyS_ev x4 o_x4) ?_
  exact Ev.const rfl
theorem eqUser_ev (x0 : List S29) (x1 : Int) (x2 : Int) (x3 : Int) (x4 : List S150) (o_x0 : x0.length ≤ 140737488351232) (o_x4 : x4.length ≤ 140737488351232) : Ev (fun k => laws_eqUser.f k x0 x1 x2 x3 x4 x0 x1 x2 x3 x4) true := by
  unfold laws_eqUser.f
  refine Ev.bind (eqOpS_ev x0 o_x0) ?_
  refine Ev.pos rfl ?_
  refine Ev.pos rfl ?_
  refine Ev.pos rfl ?_
  refine Ev.pos rfl ?_
  refine Ev.bind (eqReplyS_ev x4 o_x4) ?_
  refine Ev.pos rfl ?_
  exact Ev.const rfl
end Go.Proofs.Ytmbfjhhlpnjeoaa.Fam

namespace Go.Proofs.Ytmbfjhhlpnjeoaa.Fam
open Go.RowKit Go.Proofs.Ytmbfjhhlpnjeoaa.G Go.Proofs.Ytmbfjhhlpnjeoaa.PL Go.Proofs.Ytmbfjhhlpnjeoaa.Ok Go.Proofs.YtmbfjhhlpnjeoaaW.PrintWords Go.Proofs.YtmbfjhhlpnjeoaaW.PrintLast Go.Proofs.YtmbfjhhlpnjeoaaW.PrintMore
set_option linter.unusedVariables false
set_option linter.unusedSimpArgs false
def szmUserS (l : List S179) : Nat := l.length + (l.map fun x => (szmUser x)).sum
theorem szUserS_l0 (l : List S179) (ho : okT61 l) : ∀ (d i : Nat) (a : Int), i + d = l.length → 0 ≤ a → a ≤ 1048576 → Ev (fun k => laws_szUserS.l0 k l a i) (left a ((l.drop i).map fun x => (szmUser x)).sum) := by
  have hl := ho.2
  intro d
  induction d with
  | zero =>
    intro i a hi h0 h1
    refine Ev.step (fun _ => rfl) ?_
    simp only [laws_szUserS.l0]
    refine Ev.neg (by omega) ?_
    rw [List.drop_of_length_le (by omega)]
    exact Ev.const (congrArg some (left_zero h0).symm)
  | succ d ih =>
    intro i a hi h0 h1
    have hlt : i < l.length := by omega
    have er : rd_T179 l (i : Int) = l[i] := getD_at hlt _
    have hok := ho.1 _ (List.getElem_mem hlt)
    refine Ev.step (fun _ => rfl) ?_
    simp only [laws_szUserS.l0]
    refine Ev.pos (by omega) ?_
    refine Ev.pos (by omega) ?_
    rw [er, drop_at hlt, List.map_cons, List.sum_cons, wsucc (by omega)]
    have hz : (szmUser l[i]) = szmOpS (l[i]).f0 + szmReplyS (l[i]).f4 := rfl
    refine Ev.bind (szUser_ev (l[i]).f0 (l[i]).f1 (l[i]).f2 (l[i]).f3 (l[i]).f4 a h0 h1 hok.1 hok.2.2.2.2) ?_
    rw [← hz]
    by_cases c : (((szmUser l[i]) : Nat) : Int) ≤ a
    · rw [left_pos c]
      refine Ev.neg (by omega) ?_
      refine Ev.to (ih (i + 1) (a - (szmUser l[i])) (by omega) (by omega) (by omega)) ?_
      exact left_add
    · rw [left_neg c]
      refine Ev.pos (by omega) ?_
      exact Ev.const (congrArg some (left_neg_add c).symm)
theorem szUserS_ev (l : List S179) (a : Int) (h0 : 0 ≤ a) (h1 : a ≤ 1048576) (o : okT61 l) : Ev (fun k => laws_szUserS.f k l a) (left a (szmUserS l)) := by
  have ho := o.2
  unfold laws_szUserS.f szmUserS
  rw [w64 (by omega) (by omega)]
  by_cases c : (l.length : Int) ≤ a
  · refine Ev.neg (by omega) ?_
    refine Ev.to (szUserS_l0 l o l.length 0 (a - l.length) (by omega) (by omega) (by omega)) ?_
    rw [List.drop_zero]
    exact left_add
  · refine Ev.pos (by omega) ?_
    exact Ev.const (congrArg some (left_neg_add c).symm)
theorem toUserS_l0 (l : List S179) (ho : okT61 l) : ∀ (d i : Nat) (ys : List S142), i + d = l.length → ys.length = l.length → ys.take i = (l.take i).map cvUser → Ev (fun k => laws_toUserS.l0 k l ys i) (l.map cvUser) := by
  have hl := ho.2
  intro d
  induction d with
  | zero =>
    intro i ys hi hy ht
    refine Ev.step (fun _ => rfl) ?_
    simp only [laws_toUserS.l0]
    refine Ev.neg (by omega) ?_
    rw [List.take_of_length_le (by omega), List.take_of_length_le (by omega)] at ht
    exact Ev.const (congrArg some ht)
  | succ d ih =>
    intro i ys hi hy ht
    have hlt : i < l.length := by omega
    have er : rd_T179 l (i : Int) = l[i] := getD_at hlt _
    have hok := ho.1 _ (List.getElem_mem hlt)
    refine Ev.step (fun _ => rfl) ?_
    simp only [laws_toUserS.l0]
    refine Ev.pos (by omega) ?_
    refine Ev.pos (by omega) ?_
    rw [er, wsucc (by omega)]
    refine Ev.bind (toUser_ev (l[i]).f0 (l[i]).f1 (l[i]).f2 (l[i]).f3 (l[i]).f4 (hok.1) (hok.2.2.2.2)) ?_
    refine Ev.pos (by omega) ?_
    exact ih (i + 1) _ (by omega) (by simp [hy]) (take_drop_set cvUser l ys hlt hy ht)
theorem toUserS_ev (l : List S179) (o : okT61 l) : Ev (fun k => laws_toUserS.f k l) (l.map cvUser) := by
  have ho := o.2
  unfold laws_toUserS.f
  rw [Int.toNat_natCast]
  refine Ev.pos (by omega) ?_
  refine Ev.pos (by omega) ?_
  refine Ev.to (toUserS_l0 l o l.length 0 _ (by omega) (by simp) (by simp)) ?_
  rfl
def lenokUserS (l : List S142) : Prop := l.length ≤ 140737488351232 ∧ ∀ x ∈ l, x.f0.length ≤ 140737488351232 ∧ x.f4.length ≤ 140737488351232
theorem eqUserS_l0 (l : List S142) (ho : lenokUserS l) : ∀ (d i : Nat), i + d = l.length → Ev (fun k => laws_eqUserS.l0 k l l i) true := by
  have hl : l.length ≤ 140737488351232 := ho.1
  intro d
  induction d with
  | zero =>
    intro i hi
    refine Ev.step (fun _ => rfl) ?_
    simp only [laws_eqUserS.l0]
    refine Ev.neg (by omega) ?_
    exact Ev.const rfl
  | succ d ih =>
    intro i hi
    refine Ev.step (fun _ => rfl) ?_
    simp only [laws_eqUserS.l0]
    refine Ev.pos (by omega) ?_
    refine Ev.pos (by omega) ?_
    refine Ev.pos (by omega) ?_
    rw [wsucc (by omega)]
    have hlt : i < l.length := by omega
    have er : rd_T142 l (i : Int) = l[i] := getD_at hlt _
    have hok := ho.2 _ (List.getElem_mem hlt)
    rw [er]
    refine Ev.bind (eqUser_ev _ _ _ _ _ (hok.1) (hok.2)) ?_
    refine Ev.pos rfl ?_
    exact ih (i + 1) (by omega)
theorem eqUserS_ev (l : List S142) (ho : lenokUserS l) : Ev (fun k => laws_eqUserS.f k l l) true := by
  unfold laws_eqUserS.f
  refine Ev.pos rfl ?_
  exact eqUserS_l0 l ho l.length 0 (by omega)
end Go.Proofs.Ytmbfjhhlpnjeoaa.Fam

namespace Go.Proofs.Ytmbfjhhlpnjeoaa.Fam
open Go.RowKit Go.Proofs.Ytmbfjhhlpnjeoaa.G Go.Proofs.Ytmbfjhhlpnjeoaa.PL Go.Proofs.Ytmbfjhhlpnjeoaa.Ok Go.Proofs.YtmbfjhhlpnjeoaaW.PrintWords Go.Proofs.YtmbfjhhlpnjeoaaW.PrintLast Go.Proofs.YtmbfjhhlpnjeoaaW.PrintMore
set_option linter.unusedVariables false
set_option linter.unusedSimpArgs false
def cvDeed (x : S186) : S184 := ⟨x.f0, x.f1⟩
instance decDeed : DecidableEq S184 := fun a b => decidable_of_iff (a.f0 = b.f0 ∧ a.f1 = b.f1) (by cases a; cases b; simp)
theorem toDeed_ev (x0 : Int) (x1 : Int)  : Ev (fun k => laws_toDeed.f x0 x1) (x0, x1) := by
  unfold laws_toDeed.f
  exact Ev.const rfl
theorem eqDeed_ev (x0 : Int) (x1 : Int)  : Ev (fun k => laws_eqDeed.f x0 x1 x0 x1) true := by
  unfold laws_eqDeed.f
  refine Ev.pos rfl ?_
  refine Ev.pos rfl ?_
  exact Ev.const rfl
end Go.Proofs.Ytmbfjhhlpnjeoaa.Fam

namespace Go.Proofs.Ytmbfjhhlpnjeoaa.Fam
open Go.RowKit Go.Proofs.Ytmbfjhhlpnjeoaa.G Go.Proofs.Ytmbfjhhlpnjeoaa.PL Go.Proofs.Ytmbfjhhlpnjeoaa.Ok Go.Proofs.YtmbfjhhlpnjeoaaW.PrintWords Go.Proofs.YtmbfjhhlpnjeoaaW.PrintLast Go.Proofs.YtmbfjhhlpnjeoaaW.PrintMore
set_option linter.unusedVariables false
set_option linter.unusedSimpArgs false
def szmDeedS (l : List S186) : Nat := l.length
theorem szDeedS_ev (l : List S186) (a : Int) (h0 : 0 ≤ a) (h1 : a ≤ 1048576) (o : okT62 l) : Ev (fun k => laws_szDeedS.f l a) (left a (szmDeedS l)) := by
  have ho := o.2
  unfold laws_szDeedS.f szmDeedS
  rw [w64 (by omega) (by omega)]
  by_cases c : (l.length : Int) ≤ a
  · refine Ev.neg (by omega) ?_
    exact Ev.const (congrArg some (left_pos c).symm)
  · refine Ev.pos (by omega) ?_
    exact Ev.const (congrArg some (left_neg c).symm)
theorem toDeedS_l0 (l : List S186) (ho : okT62 l) : ∀ (d i : Nat) (ys : List S184), i + d = l.length → ys.length = l.length → ys.take i = (l.take i).map cvDeed → Ev (fun k => laws_toDeedS.l0 k l ys i) (l.map cvDeed) := by
  have hl := ho.2
  intro d
  induction d with
  | zero =>
    intro i ys hi hy ht
    refine Ev.step (fun _ => rfl) ?_
    simp only [laws_toDeedS.l0]
    refine Ev.neg (by omega) ?_
    rw [List.take_of_length_le (by omega), List.take_of_length_le (by omega)] at ht
    exact Ev.const (congrArg some ht)
  | succ d ih =>
    intro i ys hi hy ht
    have hlt : i < l.length := by omega
    have er : rd_T186 l (i : Int) = l[i] := getD_at hlt _
    have hok := ho.1 _ (List.getElem_mem hlt)
    refine Ev.step (fun _ => rfl) ?_
    simp only [laws_toDeedS.l0]
    refine Ev.pos (by omega) ?_
    refine Ev.pos (by omega) ?_
    rw [er, wsucc (by omega)]
    refine Ev.bind (toDeed_ev (l[i]).f0 (l[i]).f1 ) ?_
    refine Ev.pos (by omega) ?_
    exact ih (i + 1) _ (by omega) (by simp [hy]) (take_drop_set cvDeed l ys hlt hy ht)
theorem toDeedS_ev (l : List S186) (o : okT62 l) : Ev (fun k => laws_toDeedS.f k l) (l.map cvDeed) := by
  have ho := o.2
  unfold laws_toDeedS.f
  rw [Int.toNat_natCast]
  refine Ev.pos (by omega) ?_
  refine Ev.pos (by omega) ?_
  refine Ev.to (toDeedS_l0 l o l.length 0 _ (by omega) (by simp) (by simp)) ?_
  rfl
theorem eqDeedS_l0 (l : List S184) (ho : l.length ≤ 140737488351232) : ∀ (d i : Nat), i + d = l.length → Ev (fun k => laws_eqDeedS.l0 k l l i) true := by
  have hl : l.length ≤ 140737488351232 := ho
  intro d
  induction d with
  | zero =>
    intro i hi
    refine Ev.step (fun _ => rfl) ?_
    simp only [laws_eqDeedS.l0]
    refine Ev.neg (by omega) ?_
    exact Ev.const rfl
  | succ d ih =>
    intro i hi
    refine Ev.step (fun _ => rfl) ?_
    simp only [laws_eqDeedS.l0]
    refine Ev.pos (by omega) ?_
    refine Ev.pos (by omega) ?_
    refine Ev.pos (by omega) ?_
    rw [wsucc (by omega)]
    refine Ev.bind (eqDeed_ev _ _ ) ?_
    refine Ev.pos rfl ?_
    exact ih (i + 1) (by omega)
theorem eqDeedS_ev (l : List S184) (ho : l.length ≤ 140737488351232) : Ev (fun k => laws_eqDeedS.f k l l) true := by
  unfold laws_eqDeedS.f
  refine Ev.pos rfl ?_
  exact eqDeedS_l0 l ho l.length 0 (by omega)
end Go.Proofs.Ytmbfjhhlpnjeoaa.Fam

namespace Go.Proofs.Ytmbfjhhlpnjeoaa.Fam
open Go.RowKit Go.Proofs.Ytmbfjhhlpnjeoaa.G Go.Proofs.Ytmbfjhhlpnjeoaa.PL Go.Proofs.Ytmbfjhhlpnjeoaa.Ok Go.Proofs.YtmbfjhhlpnjeoaaW.PrintWords Go.Proofs.YtmbfjhhlpnjeoaaW.PrintLast Go.Proofs.YtmbfjhhlpnjeoaaW.PrintMore
set_option linter.unusedVariables false
set_option linter.unusedSimpArgs false
theorem szDesk_ev (x0 : Int) (x1 : Int) (x2 : List S161) (x3 : List S161) (x4 : List Int) (x5 : List Int) (x6 : Int) (x7 : List Int) (x8 : List S221) (x9 : List Int) (x10 : List S174) (x11 : List S179) (x12 : List S186) (a : Int) (h0 : 0 ≤ a) (h1 : a ≤ 1048576) (o0_0 : okT37 x2) (o0_1 : okT37 x3) (o0_2 : okT38 x4) (o1_0 : okT38 x5) (o1_1 : okT38 x7) (o1_2 : okT55 x8) (o1_3 : okT38 x9) (o2 : okT60 x10) (o3 : okT61 x11) (o4 : okT62 x12) : Ev (fun k => laws_szDesk.f k x0 x1 x2 x3 x4 x5 x6 x7 x8 x9 x10 x11 x12 a) (left a ((szmItemS x2 + szmItemS x3 + szmIntS x4) + (szmIntS x5 + (szmIntS x7 + szmGoneS x8) + szmIntS x9) + szmSpotS x10 + szmUserS x11 + szmDeedS x12)) := by
  unfold laws_szDesk.f
  refine Ev.bind (szThree_ev x0 x1 x2 x3 x4 a (by omega) (by omega) o0_0 o0_1 o0_2) ?_
  by_cases c0 : ((szmItemS x2 + szmItemS x3 + szmIntS x4 : Nat) : Int) ≤ a
  rotate_left
  · rw [left_neg c0]
    refine Ev.pos (by omega) ?_
    exact Ev.const (by first | rfl | exact congrArg some (left_neg (by omega)).symm)
  rw [left_pos c0]
  refine Ev.neg (by omega) ?_
  refine Ev.bind (szPool_ev x5 x6 x7 x8 x9 (a - (szmItemS x2 + szmItemS x3 + szmIntS x4 : Nat)) (by omega) (by omega) o1_0 o1_1 o1_2 o1_3) ?_
  by_cases c1 : ((szmIntS x5 + (szmIntS x7 + szmGoneS x8) + szmIntS x9 : Nat) : Int) ≤ a - (szmItemS x2 + szmItemS x3 + szmIntS x4 : Nat)
  rotate_left
  · rw [left_neg c1]
    refine Ev.pos (by omega) ?_
    exact Ev.const (by first | rfl | exact congrArg some (left_neg (by omega)).symm)
  rw [left_pos c1]
  refine Ev.neg (by omega) ?_
  refine Ev.bind (szSpotS_ev x10 ((a - (szmItemS x2 + szmItemS x3 + szmIntS x4 : Nat)) - (szmIntS x5 + (szmIntS x7 + szmGoneS x8) + szmIntS x9 : Nat)) (by omega) (by omega) o2) ?_
  by_cases c2 : ((szmSpotS x10 : Nat) : Int) ≤ (a - (szmItemS x2 + szmItemS x3 + szmIntS x4 : Nat)) - (szmIntS x5 + (szmIntS x7 + szmGoneS x8) + szmIntS x9 : Nat)
  rotate_left
  · rw [left_neg c2]
    refine Ev.pos (by omega) ?_
    exact Ev.const (by first | rfl | exact congrArg some (left_neg (by omega)).symm)
  rw [left_pos c2]
  refine Ev.neg (by omega) ?_
  refine Ev.bind (szUserS_ev x11 (((a - (szmItemS x2 + szmItemS x3 + szmIntS x4 : Nat)) - (szmIntS x5 + (szmIntS x7 + szmGoneS x8) + szmIntS x9 : Nat)) - (szmSpotS x10 : Nat)) (by omega) (by omega) o3) ?_
  by_cases c3 : ((szmUserS x11 : Nat) : Int) ≤ ((a - (szmItemS x2 + szmItemS x3 + szmIntS x4 : Nat)) - (szmIntS x5 + (szmIntS x7 + szmGoneS x8) + szmIntS x9 : Nat)) - (szmSpotS x10 : Nat)
  rotate_left
  · rw [left_neg c3]
    refine Ev.pos (by omega) ?_
    exact Ev.const (by first | rfl | exact congrArg some (left_neg (by omega)).symm)
  rw [left_pos c3]
  refine Ev.neg (by omega) ?_
  refine Ev.bind (szDeedS_ev x12 ((((a - (szmItemS x2 + szmItemS x3 + szmIntS x4 : Nat)) - (szmIntS x5 + (szmIntS x7 + szmGoneS x8) + szmIntS x9 : Nat)) - (szmSpotS x10 : Nat)) - (szmUserS x11 : Nat)) (by omega) (by omega) o4) ?_
  by_cases c4 : ((szmDeedS x12 : Nat) : Int) ≤ (((a - (szmItemS x2 + szmItemS x3 + szmIntS x4 : Nat)) - (szmIntS x5 + (szmIntS x7 + szmGoneS x8) + szmIntS x9 : Nat)) - (szmSpotS x10 : Nat)) - (szmUserS x11 : Nat)
  rotate_left
  · rw [left_neg c4]
    refine Ev.pos (by omega) ?_
    exact Ev.const (by first | rfl | exact congrArg some (left_neg (by omega)).symm)
  rw [left_pos c4]
  refine Ev.neg (by omega) ?_
  exact Ev.const (by first | rfl | exact congrArg some (by rw [left_pos (by omega)] <;> omega))
theorem toDesk_ev (x0 : Int) (x1 : Int) (x2 : List S161) (x3 : List S161) (x4 : List Int) (x5 : List Int) (x6 : Int) (x7 : List Int) (x8 : List S221) (x9 : List Int) (x10 : List S174) (x11 : List S179) (x12 : List S186) (o_x2 : okT37 x2) (o_x3 : okT37 x3) (o_x4 : okT38 x4) (o_x5 : okT38 x5) (o_x7 : okT38 x7) (o_x8 : okT55 x8) (o_x9 : okT38 x9) (o_x10 : okT60 x10) (o_x11 : okT61 x11) (o_x12 : okT62 x12) : Ev (fun k => laws_toDesk.f k x0 x1 x2 x3 x4 x5 x6 x7 x8 x9 x10 x11 x12) (x0, x1, (x2.map cvItem), (x3.map cvItem), x4, x5, x6, x7, (x8.map cvGone), x9, (x10.map cvSpot), (x11.map cvUser), (x12.map cvDeed)) := by
  unfold laws_toDesk.f
  refine Ev.bind (toThree_ev x0 x1 x2 x3 x4 o_x2 o_x3 o_x4) ?_
  refine Ev.bind (toPool_ev x5 x6 x7 x8 x9 o_x5 o_x7 o_x8 o_x9) ?_
  refine Ev.bind (toSpotS_ev x10 o_x10) ?_
  refine Ev.bind (toUserS_ev x11 o_x11) ?_
  refine Ev.bind (toDeedS_ev x12 o_x12) ?_
  exact Ev.const rfl
theorem eqDesk_ev (x0 : Int) (x1 : Int) (x2 : List S23) (x3 : List S23) (x4 : List Int) (x5 : List Int) (x6 : Int) (x7 : List Int) (x8 : List S219) (x9 : List Int) (x10 : List S124) (x11 : List S142) (x12 : List S184) (o_x2 : x2.length ≤ 140737488351232) (o_x3 : x3.length ≤ 140737488351232) (o_x4 : x4.length ≤ 140737488351232) (o_x5 : x5.length ≤ 140737488351232) (o_x7 : x7.length ≤ 140737488351232) (o_x8 : x8.length ≤ 140737488351232) (o_x9 : x9.length ≤ 140737488351232) (o_x10 : x10.length ≤ 140737488351232) (o_x11 : lenokUserS x11) (o_x12 : x12.length ≤ 140737488351232) : Ev (fun k => laws_eqDesk.f k x0 x1 x2 x3 x4 x5 x6 x7 x8 x9 x10 x11 x12 x0 x1 x2 x3 x4 x5 x6 x7 x8 x9 x10 x11 x12) true := by
  unfold laws_eqDesk.f
  refine Ev.bind (eqThree_ev x0 x1 x2 x3 x4 o_x2 o_x3 o_x4) ?_
  refine Ev.pos rfl ?_
  refine Ev.bind (eqPool_ev x5 x6 x7 x8 x9 o_x5 o_x7 o_x8 o_x9) ?_
  refine Ev.pos rfl ?_
  refine Ev.bind (eqSpotS_ev x10 o_x10) ?_
  refine Ev.pos rfl ?_
  refine Ev.bind (eqUserS_ev x11 o_x11) ?_
  refine Ev.pos rfl ?_
  refine Ev.bind (eqDeedS_ev x12 o_x12) ?_
  refine Ev.pos rfl ?_
  exact Ev.const rfl
end Go.Proofs.Ytmbfjhhlpnjeoaa.Fam

namespace Go.Proofs.Ytmbfjhhlpnjeoaa.Q
open Go.RowKit Go.Proofs.Ytmbfjhhlpnjeoaa.G Go.Proofs.Ytmbfjhhlpnjeoaa.PL Go.Proofs.Ytmbfjhhlpnjeoaa.Ok Go.Proofs.Ytmbfjhhlpnjeoaa.Fam Go.Proofs.YtmbfjhhlpnjeoaaW.PrintWords Go.Proofs.YtmbfjhhlpnjeoaaW.PrintLast
abbrev Sp := S124
def placeOf (s : ByteArray) : List Sp → Int
  | [] => -1
  | x :: r => if x.f0 = s then x.f1 else placeOf s r
def spotAtFrom (s : ByteArray) : List Sp → Nat → Int
  | [], _ => -1
  | x :: r, i => if x.f0 = s then (i : Int) else spotAtFrom s r (i + 1)
theorem impl_PlaceOf_l0 (s : ByteArray) (l : List Sp) (hl : l.length ≤ 140737488351232) : ∀ (d i : Nat), i + d = l.length → Ev (fun k => impl_PlaceOf.l0 k s l (l.length : Int) (i : Int)) (placeOf s (l.drop i)) := by
  intro d
  induction d with
  | zero =>
    intro i hi
    rw [List.drop_of_length_le (by omega)]
    refine Ev.step (fun _ => rfl) ?_
    simp only [impl_PlaceOf.l0]
    exact Ev.neg (by omega) (Ev.const rfl)
  | succ d ih =>
    intro i hi
    have hx : i < l.length := by omega
    have er : rd_T124 l (i : Int) = l[i] := getD_at hx _
    refine Ev.step (fun _ => rfl) ?_
    simp only [impl_PlaceOf.l0]
    rw [er, drop_at hx, placeOf]
    refine Ev.pos (by omega) (Ev.pos (by omega) (Ev.pos (by omega) ?_))
    by_cases c : l[i].f0 = s
    · exact Ev.pos (bytes_eq.2 c) (Ev.const (by rw [if_pos c]))
    · refine Ev.neg (fun e => c (bytes_eq.1 e)) ?_
      rw [if_neg c, wsucc (by omega)]
      exact ih (i + 1) (by omega)
theorem spec_l17Spot_l0 (s : ByteArray) (l : List Sp) (hl : l.length ≤ 140737488351232) : ∀ (d i : Nat), i + d = l.length → Ev (fun k => spec_l17Spot.l0 k s l (l.length : Int) (i : Int)) (spotAtFrom s (l.drop i) i) := by
  intro d
  induction d with
  | zero =>
    intro i hi
    rw [List.drop_of_length_le (by omega)]
    refine Ev.step (fun _ => rfl) ?_
    simp only [spec_l17Spot.l0]
    exact Ev.neg (by omega) (Ev.const rfl)
  | succ d ih =>
    intro i hi
    have hx : i < l.length := by omega
    have er : rd_T124 l (i : Int) = l[i] := getD_at hx _
    refine Ev.step (fun _ => rfl) ?_
    simp only [spec_l17Spot.l0]
    rw [er, drop_at hx, spotAtFrom]
    refine Ev.pos (by omega) (Ev.pos (by omega) (Ev.pos (by omega) ?_))
    by_cases c : l[i].f0 = s
    · exact Ev.pos (bytes_eq.2 c) (Ev.const (by rw [if_pos c]))
    · refine Ev.neg (fun e => c (bytes_eq.1 e)) ?_
      rw [if_neg c, wsucc (by omega)]
      exact ih (i + 1) (by omega)
theorem spot_place (s : ByteArray) (l : List Sp) : ∀ (d i : Nat), i + d = l.length → (spotAtFrom s (l.drop i) i = -1 ∧ placeOf s (l.drop i) = -1) ∨ ∃ (j : Nat) (h : j < l.length), spotAtFrom s (l.drop i) i = (j : Int) ∧ placeOf s (l.drop i) = l[j].f1 := by
  intro d
  induction d with
  | zero =>
    intro i hi
    rw [List.drop_of_length_le (by omega)]
    exact Or.inl ⟨rfl, rfl⟩
  | succ d ih =>
    intro i hi
    have hx : i < l.length := by omega
    rw [drop_at hx, placeOf, spotAtFrom]
    by_cases c : l[i].f0 = s
    · exact Or.inr ⟨i, hx, by rw [if_pos c], by rw [if_pos c]⟩
    · rw [if_neg c, if_neg c]; exact ih (i + 1) (by omega)
end Go.Proofs.Ytmbfjhhlpnjeoaa.Q
namespace Go.Proofs.Ytmbfjhhlpnjeoaa.Pure
open Go.RowKit Go.Proofs.Ytmbfjhhlpnjeoaa.G Go.Proofs.Ytmbfjhhlpnjeoaa.PL Go.Proofs.Ytmbfjhhlpnjeoaa.Ok Go.Proofs.Ytmbfjhhlpnjeoaa.Fam Go.Proofs.Ytmbfjhhlpnjeoaa.Q Go.Proofs.YtmbfjhhlpnjeoaaW.PrintWords Go.Proofs.YtmbfjhhlpnjeoaaW.PrintLast Go.Proofs.Ytmbfjhhlpnjeoaa.G.fnExactPlaceOf
theorem impl_PlaceOf_ev (a0 a1 : Int) (l2 l3 : List S23) (l4 l5 : List Int) (a6 : Int) (l7 : List Int) (l8 : List S219) (l9 : List Int) (l : List Sp) (l11 : List S142) (l12 : List S184) (s : ByteArray) (hl : l.length ≤ 140737488351232) : Ev (fun k => impl_PlaceOf.f k a0 a1 l2 l3 l4 l5 a6 l7 l8 l9 l l11 l12 s) (placeOf s l) := by
  unfold impl_PlaceOf.f
  exact impl_PlaceOf_l0 s l hl l.length 0 (by omega)
theorem spec_PlaceOf_ev (a0 a1 : Int) (l2 l3 : List S23) (l4 l5 : List Int) (a6 : Int) (l7 : List Int) (l8 : List S219) (l9 : List Int) (l : List Sp) (l11 : List S142) (l12 : List S184) (s : ByteArray) (hl : l.length ≤ 140737488351232) : Ev (fun k => spec_PlaceOf.f k a0 a1 l2 l3 l4 l5 a6 l7 l8 l9 l l11 l12 s) (placeOf s l) := by
  unfold spec_PlaceOf.f spec_l17Spot.f
  refine Ev.bind (spec_l17Spot_l0 s l hl l.length 0 (by omega)) ?_
  rcases spot_place s l l.length 0 (by omega) with ⟨e1, e2⟩ | ⟨j, hj, e1, e2⟩
  · rw [List.drop_zero] at e1 e2
    rw [List.drop_zero, e1, e2]
    exact Ev.pos (by omega) (Ev.const rfl)
  · rw [List.drop_zero] at e1 e2
    rw [List.drop_zero, e1, e2]
    have er : rd_T124 l (j : Int) = l[j] := getD_at hj _
    rw [er]
    exact Ev.neg (by omega) (Ev.pos (by omega) (Ev.pos (by omega) (Ev.const rfl)))
theorem FnExactPlaceOf : FnExactPlaceOf.Pure := by
  intro x0 x1 ⟨⟨⟨_, _, a2, a3, a4⟩, ⟨p0, ⟨_, p1, p2⟩, p3⟩, s, u, d⟩, o1⟩
  apply Ev.rounds
  unfold laws_FnExactPlaceOf.f
  have b2 := a2.2; have b3 := a3.2; have b4 := a4.2; have b5 := p0.2; have b7 := p1.2; have b8 := p2.2; have b9 := p3.2; have b10 := s.2; have b11 := u.2; have b12 := d.2
  have hu : lenokUserS (x0.2.2.2.1.map cvUser) := by
    refine ⟨by rw [List.length_map]; omega, fun y hy => ?_⟩
    obtain ⟨z, hz, rfl⟩ := List.mem_map.1 hy
    have hz := u.1 z hz
    have c0 := hz.1.2
    have c4 := hz.2.2.2.2.2
    refine ⟨?_, ?_⟩
    · show (z.f0.map cvOp).length ≤ _
      rw [List.length_map]; omega
    · show (z.f4.map cvReply).length ≤ _
      rw [List.length_map]; omega
  have hl : (x0.2.2.1.map cvSpot).length ≤ 140737488351232 := by rw [List.length_map]; omega
  have e2 : (x0.1.2.2.1.map cvItem).length ≤ 140737488351232 := by rw [List.length_map]; omega
  have e3 : (x0.1.2.2.2.1.map cvItem).length ≤ 140737488351232 := by rw [List.length_map]; omega
  have e4 : x0.1.2.2.2.2.length ≤ 140737488351232 := by omega
  have e5 : x0.2.1.1.length ≤ 140737488351232 := by omega
  have e7 : x0.2.1.2.1.2.1.length ≤ 140737488351232 := by omega
  have e8 : (x0.2.1.2.1.2.2.map cvGone).length ≤ 140737488351232 := by rw [List.length_map]; omega
  have e9 : x0.2.1.2.2.length ≤ 140737488351232 := by omega
  have e12 : (x0.2.2.2.2.map cvDeed).length ≤ 140737488351232 := by rw [List.length_map]; omega
  by_cases c1 : (x1.size : Int) > 1048576
  · exact Ev.pos c1 (Ev.const rfl)
  refine Ev.neg c1 ?_
  refine Ev.bind (szDesk_ev _ _ _ _ _ _ _ _ _ _ _ _ _ 1048576 (by omega) (by omega) a2 a3 a4 p0 p1 p2 p3 s u d) ?_
  by_cases c0 : ((szmItemS x0.1.2.2.1 + szmItemS x0.1.2.2.2.1 + szmIntS x0.1.2.2.2.2) + (szmIntS x0.2.1.1 + (szmIntS x0.2.1.2.1.2.1 + szmGoneS x0.2.1.2.1.2.2) + szmIntS x0.2.1.2.2) + szmSpotS x0.2.2.1 + szmUserS x0.2.2.2.1 + szmDeedS x0.2.2.2.2 : Nat) ≤ (1048576 : Int)
  rotate_left
  · rw [left_neg c0]; exact Ev.pos (by omega) (Ev.const rfl)
  rw [left_pos c0]
  refine Ev.neg (by omega) ?_
  refine Ev.bind (toDesk_ev _ _ _ _ _ _ _ _ _ _ _ _ _ a2 a3 a4 p0 p1 p2 p3 s u d) ?_
  refine Ev.bind (spec_PlaceOf_ev _ _ _ _ _ _ _ _ _ _ _ _ _ x1 hl) ?_
  refine Ev.bind (toDesk_ev _ _ _ _ _ _ _ _ _ _ _ _ _ a2 a3 a4 p0 p1 p2 p3 s u d) ?_
  refine Ev.bind (impl_PlaceOf_ev _ _ _ _ _ _ _ _ _ _ _ _ _ x1 hl) ?_
  refine Ev.pos rfl ?_
  refine Ev.bind (toDesk_ev _ _ _ _ _ _ _ _ _ _ _ _ _ a2 a3 a4 p0 p1 p2 p3 s u d) ?_
  refine Ev.bind (eqDesk_ev _ _ _ _ _ _ _ _ _ _ _ _ _ e2 e3 e4 e5 e7 e8 e9 hl hu e12) ?_
  refine Ev.pos rfl ?_
  exact Ev.const rfl
end Go.Proofs.Ytmbfjhhlpnjeoaa.Pure

namespace Go.Proofs.Ytmbfjhhlpnjeoaa.fnExactPlaceOf
open Go.ChangeShapes Go.WideShapes Go.ChangeAt Go.RowKit Go.Proofs.Ytmbfjhhlpnjeoaa.Open Go.Proofs.Ytmbfjhhlpnjeoaa.Ok Go.Proofs.Ytmbfjhhlpnjeoaa.G.fnExactPlaceOf Go.Proofs.Ytmbfjhhlpnjeoaa.G Go.Proofs.YtmbfjhhlpnjeoaaW.PrintWords
set_option linter.unusedVariables false
theorem own : ownKnob Try.prog.godebug = none := by kernel_rfl
theorem laidOut : laidOutB Try.prog = true := by kernel_rfl
set_option maxRecDepth 100000 in
set_option maxHeartbeats 2000000 in
theorem lifted (pure : FnExactPlaceOf.Pure) (os : Os) (started : os.Started) (H : Type) (enc : TypeId × Value → H) :
    ReturnsInHanded {} Try.checked os 8 .any (Rows.fnExactPlaceOfSpec.pre6 enc Try.prog Try.f8 Rows.fnExactPlaceOfRow.domain false) (Rows.fnExactPlaceOfSpec.post enc Try.prog Try.f8 false true false false) := by
  refine returnsInHanded_of_change_sized (C := Try.checked) own started (by kernel_rfl) Try.func8
    (ChangeSpec.witness6 (enc := enc) (C := Try.checked) false ⟨#[], #[.agg #[.int .i64 0, .int .i64 0, .slice none 0 0, .slice none 0 0, .slice none 0 0, .slice none 0 0, .int .i64 0, .slice none 0 0, .slice none 0 0, .slice none 0 0, .slice none 0 0, .slice none 0 0, .slice none 0 0], .string ByteArray.empty], []⟩ 8 (by kernel_rfl) (by kernel_rfl) (by kernel_rfl) (by kernel_rfl)) ?_
  intro W base args ds gs before hval0 hW hcnd hsz0 _
  have hsz : (DataW.weightsEach Try.prog (Try.f8.params.toList ++ Rows.fnExactPlaceOfSpec.plain.varTypes Try.prog) (ds ++ gs)).all (· ≤ reachBytes) = true := hsz0
  have hval : ∀ (j : Nat) t v, Try.f8.params[j]? = some t → args[j]? = some v → Value.okWide Try.prog W .any base t v := hval0
  have hW' := hW
  obtain ⟨p, q, hA0, hV, rfl, hfz, hnd⟩ := hW
  have hA : DataW.TrodAll enc Try.prog W 0 (fun _ => true) true Try.f8.params.toList args.toList ds p := hA0
  rw [Try.params8] at hA hval hsz
  obtain ⟨v0, vs0, d0, ds0, p0, q0, hargs, rfl, rfl, h0, r0⟩ := trodAll_cons hA
  obtain ⟨v1, vs1, d1, ds1, p1, q1, rfl, rfl, rfl, h1, r1⟩ := trodAll_cons r0
  obtain ⟨rfl, rfl, rfl⟩ := trodAll_nil r1
  obtain rfl : args = #[v0, v1] := by cases args; simp_all
  obtain ⟨rfl, rfl⟩ := trodVars_none hV
  have k0 := h0
  have lt0 : ∀ x ∈ p0, x.block < W.heap.size := by obtain ⟨m, hm⟩ := k0; exact DataW.trod_lt m _ _ _ hm
  obtain ⟨fuel0, hf0⟩ := h0
  obtain ⟨x0, hK0, ok0⟩ := opn64 H enc W fuel0 _ _ _ hf0 (weights_of hsz (j := 0) (t := 64) rfl rfl)
  obtain ⟨cs0, rfl, _⟩ := okWide_struct Try.underlying64 (hval 0 64 v0 rfl rfl)
  have hK0' : (Kd.pair (Kd.pair (Kd.int .i64) (Kd.pair (Kd.int .i64) (Kd.pair (Kd.slice 161 k161) (Kd.pair (Kd.slice 161 k161) (Kd.slice 3 (Kd.int .i64)))))) (Kd.pair (Kd.pair (Kd.slice 3 (Kd.int .i64)) (Kd.pair (Kd.pair (Kd.int .i64) (Kd.pair (Kd.slice 3 (Kd.int .i64)) (Kd.slice 221 k221))) (Kd.slice 3 (Kd.int .i64)))) (Kd.pair (Kd.slice 174 k174) (Kd.pair (Kd.slice 179 k179) (Kd.slice 186 k186))))).K W x0 cs0.toList := hK0
  obtain ⟨_, _, hcs0, ⟨_, _, rfl, rfl, ⟨_, _, rfl, rfl, ⟨_, _, rfl, ⟨A0_0, c0_0, rfl, hl0_0, hC0_0⟩, ⟨_, _, rfl, ⟨A0_1, c0_1, rfl, hl0_1, hC0_1⟩, ⟨A0_2, c0_2, rfl, hl0_2, hC0_2⟩⟩⟩⟩⟩, ⟨_, _, rfl, ⟨_, _, rfl, ⟨A0_3, c0_3, rfl, hl0_3, hC0_3⟩, ⟨_, _, rfl, ⟨_, _, rfl, rfl, ⟨_, _, rfl, ⟨A0_4, c0_4, rfl, hl0_4, hC0_4⟩, ⟨A0_5, c0_5, rfl, hl0_5, hC0_5⟩⟩⟩, ⟨A0_6, c0_6, rfl, hl0_6, hC0_6⟩⟩⟩, ⟨_, _, rfl, ⟨A0_7, c0_7, rfl, hl0_7, hC0_7⟩, ⟨_, _, rfl, ⟨A0_8, c0_8, rfl, hl0_8, hC0_8⟩, ⟨A0_9, c0_9, rfl, hl0_9, hC0_9⟩⟩⟩⟩⟩ := hK0'
  obtain rfl : cs0 = #[.int .i64 x0.1.1, .int .i64 x0.1.2.1, .slice A0_0 x0.1.2.2.1.length c0_0, .slice A0_1 x0.1.2.2.2.1.length c0_1, .slice A0_2 x0.1.2.2.2.2.length c0_2, .slice A0_3 x0.2.1.1.length c0_3, .int .i64 x0.2.1.2.1.1, .slice A0_4 x0.2.1.2.1.2.1.length c0_4, .slice A0_5 x0.2.1.2.1.2.2.length c0_5, .slice A0_6 x0.2.1.2.2.length c0_6, .slice A0_7 x0.2.2.1.length c0_7, .slice A0_8 x0.2.2.2.1.length c0_8, .slice A0_9 x0.2.2.2.2.length c0_9] := by apply Array.toList_inj.1; rw [hcs0]; rfl
  have k1 := h1
  have lt1 : ∀ x ∈ p1, x.block < W.heap.size := by obtain ⟨m, hm⟩ := k1; exact DataW.trod_lt m _ _ _ hm
  obtain ⟨fuel1, hf1⟩ := h1
  obtain ⟨x1, hK1, ok1⟩ := opn9 H enc W fuel1 _ _ _ hf1 (weights_of hsz (j := 1) (t := 9) rfl rfl)
  obtain ⟨b1, rfl⟩ := okWide_string Try.underlying9 (hval 1 9 v1 rfl rfl)
  obtain rfl : b1 = x1 := by have e_ : [_] = [_] := hK1; simpa using e_
  clear hA0 hval0 hsz0 hsz
  obtain ⟨k, hk⟩ := pure x0 b1 ⟨ok0, ok1⟩
  refine (Go.Proofs.Ytmbfjhhlpnjeoaa.G.laws_FnExactPlaceOf.calls k x0.1.1 x0.1.2.1 A0_0 c0_0 x0.1.2.2.1 A0_1 c0_1 x0.1.2.2.2.1 A0_2 c0_2 x0.1.2.2.2.2 A0_3 c0_3 x0.2.1.1 x0.2.1.2.1.1 A0_4 c0_4 x0.2.1.2.1.2.1 A0_5 c0_5 x0.2.1.2.1.2.2 A0_6 c0_6 x0.2.1.2.2 A0_7 c0_7 x0.2.2.1 A0_8 c0_8 x0.2.2.2.1 A0_9 c0_9 x0.2.2.2.2 b1 true W hC0_0 hl0_0 hC0_1 hl0_1 hC0_2 hl0_2 hC0_3 hl0_3 hC0_4 hl0_4 hC0_5 hl0_5 hC0_6 hl0_6 hC0_7 hl0_7 hC0_8 hl0_8 hC0_9 hl0_9 hk).mono fun e W' ⟨he, bel⟩ => ?_
  subst he
  exact ⟨_, rfl, _, _, _, [], _, [], hW', trodAll_mk1 (shut_bool Try.underlying4 _), (trodAll_cons_mk (Below.trod laidOut (by kernel_rfl) (of_decide_eq_true (by kernel_rfl)) k0 bel lt0) (trodAll_cons_mk (Below.trod laidOut (by kernel_rfl) (of_decide_eq_true (by kernel_rfl)) k1 bel lt1) trodAll_mk0)), rfl, bel.frame _, fun h => by cases h⟩
theorem over (pure : FnExactPlaceOf.Pure) : Rows.fnExactPlaceOfRow.holds Try.pinned (OpenSpec.ofChange Rows.fnExactPlaceOfSpec) :=
  OpenClaim.holds_of_wide 8 Try.f8 rfl rfl rfl rfl rfl rfl rfl ⟨rfl, rfl, rfl, rfl, rfl⟩ rfl rfl rfl rfl rfl (by kernel_rfl) Try.func8 (by kernel_rfl)
    (of_decide_eq_true (by kernel_rfl)) (by unfold Func.isWrapper; first | (rw [if_pos (by decide +kernel)]; kernel_rfl) | (rw [if_neg (by decide +kernel)]; exact ⟨rfl, rfl⟩))
    (fun os started H enc _ => lifted pure os started H enc)
end Go.Proofs.Ytmbfjhhlpnjeoaa.fnExactPlaceOf
namespace Go.Proofs.Ytmbfjhhlpnjeoaa
/-- The row, for the claim. -/
theorem fnExactPlaceOf_holds : Rows.FnExactPlaceOfSaid := fnExactPlaceOf.over Pure.FnExactPlaceOf
end Go.Proofs.Ytmbfjhhlpnjeoaa
