/- A datum that a row reads, opened into the kinds that the printed contracts ask for: integers, bools, strings, structs, slices, in any nesting; no conditions. -/
import Derived.ChangeArms
import Derived.SizedLaws
import Derived.DataReads
import Derived.WalkKit
import Derived.RowKit
import Derived.Test.YtlmpbngndcagbaaWWords
namespace Go.Proofs.Ytlmpbngndcagbaa.Open
open Go.RowKit Go.Proofs.YtlmpbngndcagbaaW.PrintWords

/-- Whatever is read at type t is of the kind k, and meets ok. -/
def Opn {α : Type} (P : Program) (t : TypeId) (k : Kd α) (ok : α → Prop) : Prop :=
  ∀ (H : Type) (enc : TypeId × Value → H) (W : World) (fuel : Nat) (cs : List Value) (d : DataW H) (ps : List MemPlace),
    DataW.trod enc P W 0 (fun _ => true) true fuel t cs = some (d, ps) → (∀ n ∈ d.weights P t, n ≤ reachBytes) → ∃ x, k.K W x cs ∧ ok x

theorem Opn.int {P : Program} {t : TypeId} {q : IntKind} (ht : P.underlying t = some (.int q)) : Opn P t (Kd.int q) (fun n => (Lit.int q n).wf = true) := by
  intro H enc W fuel cs d ps h _
  obtain ⟨n, rfl, _, hw⟩ := DataW.trod_int ht h
  exact ⟨n, rfl, hw⟩

theorem Opn.bool {P : Program} {t : TypeId} (ht : P.underlying t = some .bool) : Opn P t Kd.bool (fun _ => True) := by
  intro H enc W fuel cs d ps h _
  obtain ⟨b, rfl, _⟩ := DataW.trod_bool ht h
  exact ⟨b, rfl, trivial⟩

theorem Opn.string {P : Program} {t : TypeId} (ht : P.underlying t = some .string) : Opn P t Kd.string (fun s => s.size ≤ 140737488351232) := by
  intro H enc W fuel cs d ps h hz
  obtain ⟨s, rfl, hx, _⟩ := DataW.trod_string ht h
  refine ⟨s, rfl, ?_⟩
  obtain ⟨rfl, _⟩ := Prod.mk.inj hx
  have := hz s.data.toList.length (by simp [DataW.weights])
  rw [Array.length_toList] at this
  exact this

theorem Opn.mono {α : Type} {P : Program} {t : TypeId} {k : Kd α} {ok ok' : α → Prop} (h : Opn P t k ok) (hok : ∀ x, ok x → ok' x) : Opn P t k ok' := by
  intro H enc W fuel cs d ps hd hz
  obtain ⟨x, hx, ho⟩ := h H enc W fuel cs d ps hd hz
  exact ⟨x, hx, hok x ho⟩

/-- The fields from one on, one behind the other. -/
def OpnFs {α : Type} (P : Program) (fs : List Field) (off : Nat) (k : Kd α) (ok : α → Prop) : Prop :=
  ∀ (H : Type) (enc : TypeId × Value → H) (W : World) (fuel : Nat) (cs : List Value) (xs : List (DataW H × List MemPlace)),
    xs.length = fs.length → (∀ (i : Nat) (f : Field), fs[i]? = some f → DataW.trod enc P W 0 (fun _ => true) true fuel f.type ((cs.drop f.offset).take (P.cellsOf f.type)) = xs[i]?) →
    (∀ n ∈ DataW.weightsEach P (fs.map (·.type)) (xs.map (·.1)), n ≤ reachBytes) → ∃ x, k.K W x ((cs.drop off).take k.sz) ∧ ok x

theorem OpnFs.one {α : Type} {P : Program} {f : Field} {off : Nat} {k : Kd α} {ok : α → Prop} (ho : f.offset = off) (hc : P.cellsOf f.type = k.sz) (h : Opn P f.type k ok) : OpnFs P [f] off k ok := by
  intro H enc W fuel cs xs hl hx hz
  have h0 := hx 0 f rfl
  rw [ho, hc] at h0
  match xs, hl with
  | [x], _ =>
    refine h H enc W fuel _ x.1 x.2 h0 (fun n hn => hz n ?_)
    simp [DataW.weightsEach, hn]

theorem OpnFs.cons {α β : Type} {P : Program} {f : Field} {fs : List Field} {off : Nat} {k : Kd α} {k2 : Kd β} {ok : α → Prop} {ok2 : β → Prop} (ho : f.offset = off) (hc : P.cellsOf f.type = k.sz) (h : Opn P f.type k ok)
    (h2 : OpnFs P fs (off + k.sz) k2 ok2) : OpnFs P (f :: fs) off (Kd.pair k k2) (fun x => ok x.1 ∧ ok2 x.2) := by
  intro H enc W fuel cs xs hl hx hz
  have h0 := hx 0 f rfl
  rw [ho, hc] at h0
  match xs, hl with
  | x :: xs, hl =>
    obtain ⟨a, ha, hoa⟩ := h H enc W fuel _ x.1 x.2 h0 (fun n hn => hz n (by simp [DataW.weightsEach, hn]))
    obtain ⟨b, hb, hob⟩ := h2 H enc W fuel cs xs (by simpa using hl) (fun i g hg => by simpa using hx (i + 1) g (by simpa using hg)) (fun n hn => hz n (by simp only [List.map_cons, DataW.weightsEach, List.mem_append]; exact Or.inr hn))
    refine ⟨(a, b), ⟨_, _, ?_, ha, hb⟩, hoa, hob⟩
    show (cs.drop off).take (k.sz + k2.sz) = _
    rw [List.take_add, List.drop_drop]

theorem Opn.struct {α : Type} {P : Program} {t : TypeId} {fs : Array Field} {k : Kd α} {ok : α → Prop} (ht : P.underlying t = some (.struct fs)) (hc : P.cellsOf t = k.sz) (h : OpnFs P fs.toList 0 k ok) : Opn P t k ok := by
  intro H enc W fuel cs d ps hd hz
  obtain ⟨xs, n, rfl, hx, hl, hxl, hf⟩ := DataW.trod_struct ht hd
  obtain ⟨rfl, _⟩ := Prod.mk.inj hx
  obtain ⟨x, hK, ho⟩ := h H enc W n cs xs (by simpa using hxl) (fun i f hi => hf i f (by simpa using hi)) (fun m hm => hz m (by simp only [DataW.weights, ht]; exact hm))
  refine ⟨x, ?_, ho⟩
  rw [List.drop_zero, List.take_of_length_le (by omega)] at hK
  exact hK

theorem Opn.iso {α β : Type} {P : Program} {t : TypeId} {k : Kd α} {ok : α → Prop} {f : β → α} (g : α → β) (hg : ∀ x, f (g x) = x) (h : Opn P t k ok) : Opn P t (Kd.iso k f) (fun y => ok (f y)) := by
  intro H enc W fuel cs d ps hd hz
  obtain ⟨x, hx, ho⟩ := h H enc W fuel cs d ps hd hz
  exact ⟨g x, by show k.K W (f (g x)) cs; rw [hg]; exact hx, by show ok (f (g x)); rw [hg]; exact ho⟩

theorem weightsAll_mem {H : Type} {P : Program} {e : TypeId} : ∀ {l : List (DataW H)} {d : DataW H}, d ∈ l → ∀ n ∈ d.weights P e, n ∈ DataW.weightsAll P e l
  | a :: l, d, hd, n, hn => by
    simp only [DataW.weightsAll, List.mem_append]
    rcases List.mem_cons.1 hd with rfl | hd
    · exact .inl hn
    · exact .inr (weightsAll_mem hd n hn)

theorem choose_list {α : Type} (p : Nat → α → Prop) : ∀ (n : Nat), (∀ i, i < n → ∃ x, p i x) → ∃ xs : List α, xs.length = n ∧ ∀ i x, xs[i]? = some x → p i x
  | 0, _ => ⟨[], rfl, fun i x h => by simp at h⟩
  | n + 1, h => by
    obtain ⟨xs, hl, hx⟩ := choose_list p n (fun i hi => h i (by omega))
    obtain ⟨y, hy⟩ := h n (by omega)
    refine ⟨xs ++ [y], by simp [hl], fun i x hi => ?_⟩
    rcases Nat.lt_or_ge i n with hin | hin
    · rw [List.getElem?_append_left (by omega)] at hi
      exact hx i x hi
    · rw [List.getElem?_append_right (by omega)] at hi
      have : i - xs.length = 0 := by
        rcases Nat.eq_zero_or_pos (i - xs.length) with h0 | h0
        · exact h0
        · rw [List.getElem?_eq_none (by simp; omega)] at hi
          cases hi
      rw [this] at hi
      simp only [List.getElem?_cons_zero, Option.some.injEq] at hi
      subst hi
      have : i = n := by omega
      subst this
      exact hy

theorem Opn.slice {α : Type} {P : Program} {t e : TypeId} {k : Kd α} {ok : α → Prop} (B : Nat) (ht : P.underlying t = some (.slice e)) (hc : P.cellsOf e = k.sz) (hB : P.bytesOf e = B) (h : Opn P e k ok) :
    Opn P t (Kd.slice e k) (fun xs => (∀ x ∈ xs, ok x) ∧ xs.length * B ≤ 140737488351232) := by
  intro H enc W fuel cs d ps hd hz
  rcases DataW.trod_slice ht hd with ⟨rfl, _⟩ | ⟨a, len, cap, elems, rest, n, rfl, rfl, hx, _, hl, hm, hel, hcell, _, _⟩
  · exact ⟨[], ⟨none, 0, rfl, Nat.le_refl _, Kd.C_nil _ _⟩, by simp, by simp⟩
  · obtain ⟨rfl, _⟩ := Prod.mk.inj hx
    have hz0 := hz (((elems.map (·.1)).length + (rest.map (·.1)).length) * P.bytesOf e) (by simp only [DataW.weights, ht]; exact List.mem_cons_self)
    have hpick : ∀ i, i < len → ∃ x : α, (∃ c, c.length = k.sz ∧ k.K W x c ∧ ∀ j u, c[j]? = some u → W.cell? (a.add (i * k.sz + j)) = some u) ∧ ok x := by
      intro i hi
      have h1 := hcell i hi
      rw [List.getElem?_eq_getElem (by omega)] at h1
      obtain ⟨c, hc1, hc2⟩ := Option.bind_eq_some_iff.1 h1
      obtain ⟨_, hcl, hcc⟩ := World.cells?_some hc1
      obtain ⟨x, hx, ho⟩ := h H enc W n c _ _ hc2 (fun m hm => hz m (by
        simp only [DataW.weights, ht, List.mem_cons, List.mem_append]
        exact .inr (.inl (weightsAll_mem (List.mem_map.2 ⟨_, List.getElem_mem (by omega), rfl⟩) m hm))))
      refine ⟨x, ⟨c, by omega, hx, fun j u hu => ?_⟩, ho⟩
      have hj : j < c.length := by
        rcases Nat.lt_or_ge j c.length with hj | hj
        · exact hj
        · rw [List.getElem?_eq_none hj] at hu; cases hu
      have := hcc j (by omega)
      rw [hu, hc] at this
      rw [← this]
      rw [Addr.add_add]
    obtain ⟨xs, hxl, hxs⟩ := choose_list _ len hpick
    subst hxl
    refine ⟨xs, ⟨some a, cap, rfl, hl, rfl, by unfold maxLen at hm; omega, fun _ => ⟨a, rfl, fun j p hj => (hxs j p hj).1⟩⟩, fun x hx => ?_, ?_⟩
    · obtain ⟨i, hi⟩ := List.getElem?_of_mem hx
      exact (hxs i x hi).2
    · rw [hB] at hz0
      refine Nat.le_trans (Nat.mul_le_mul_right _ ?_) hz0
      simp only [List.length_map]
      omega

/-- What a kind says of one cell that a slice's value stands in. -/
theorem slice_cell {α : Type} {e : Nat} {k : Kd α} {W : World} {xs : List α} {v : Value} (h : (Kd.slice e k).K W xs [v]) : ∃ A c, v = .slice A xs.length c ∧ xs.length ≤ c ∧ Kd.C k W A xs.length xs := by
  obtain ⟨A, c, hv, hl, hC⟩ := h
  simp only [List.cons.injEq, and_true] at hv
  exact ⟨A, c, hv, hl, hC⟩

theorem weights_of {H : Type} {P : Program} {ts : List TypeId} {ds : List (DataW H)} {j : Nat} {t : TypeId} {d : DataW H} (hsz : (DataW.weightsEach P ts ds).all (· ≤ reachBytes) = true) (ht : ts[j]? = some t) (hd : ds[j]? = some d) :
    ∀ n ∈ d.weights P t, n ≤ reachBytes := fun n hn => by
  have := List.all_eq_true.1 hsz _ (DataW.weights_mem_each ht hd n hn)
  simpa using this

end Go.Proofs.Ytlmpbngndcagbaa.Open
