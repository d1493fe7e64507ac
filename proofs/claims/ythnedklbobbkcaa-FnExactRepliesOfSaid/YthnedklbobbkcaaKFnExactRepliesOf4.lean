/- What a user was answered: the reference's row; no conditions beside the sizes that a row reads. Part 4 of the claim FnExactRepliesOf, merged by pack.py (this session's program) out of: the print's words, cut to what is needed; texts that gen.py printed (it runs the kit's print in place); texts of this session. -/
import Derived.ChangeArms
import Derived.SizedLaws
import Derived.DataReads
import Derived.WalkKit
import Derived.RowKit
import Derived.KernelRfl
import Derived.Test.YthnedklbobbkcaaRows
import Derived.ProofKit
import Derived.OpenShut
import Derived.ShutString
import Derived.ChangeOld
import Derived.Below
import Derived.Test.YthnedklbobbkcaaKFnExactRepliesOf0
import Derived.Test.YthnedklbobbkcaaKFnExactRepliesOf1
import Derived.Test.YthnedklbobbkcaaKFnExactRepliesOf2
import Derived.Test.YthnedklbobbkcaaKFnExactRepliesOf3
namespace Go.Proofs.Ythnedklbobbkcaa.Fam
end Go.Proofs.Ythnedklbobbkcaa.Fam
namespace Go.Proofs.Ythnedklbobbkcaa.G
end Go.Proofs.Ythnedklbobbkcaa.G
namespace Go.Proofs.Ythnedklbobbkcaa.G.fnExactRepliesOf
end Go.Proofs.Ythnedklbobbkcaa.G.fnExactRepliesOf
namespace Go.Proofs.Ythnedklbobbkcaa.Ok
end Go.Proofs.Ythnedklbobbkcaa.Ok
namespace Go.Proofs.Ythnedklbobbkcaa.Open
end Go.Proofs.Ythnedklbobbkcaa.Open
namespace Go.Proofs.Ythnedklbobbkcaa.PL
end Go.Proofs.Ythnedklbobbkcaa.PL
namespace Go.Proofs.Ythnedklbobbkcaa.Q
end Go.Proofs.Ythnedklbobbkcaa.Q
namespace Go.Proofs.Ythnedklbobbkcaa.Open
open Go.RowKit Go.Proofs.YthnedklbobbkcaaW.PrintWords
/-- Whatever is read at type t is of the kind k, and meets ok. -/
def Opn {α : Type} (P : Program) (t : TypeId) (k : Kd α) (ok : α → Prop) : Prop :=
 ∀ (H : Type) (enc : TypeId × Value → H) (W : World) (fuel : Nat) (cs : List Value) (d : DataW H) (ps : List MemPlace),
  DataW.trod enc P W 0 (fun _ => true) true fuel t cs = some (d, ps) → (∀ n ∈ d.weights P t, n ≤ reachBytes) → ∃ x, k.K W x cs ∧ ok x
theorem Opn.int {P : Program} {t : TypeId} {q : IntKind} (ht : P.underlying t = some (.int q)) : Opn P t (Kd.int q) (fun n => (Lit.int q n).wf = true) := by
 intro H enc W fuel cs d ps h _
 obtain ⟨n, rfl, _, hw⟩ := DataW.trod_int ht h
 exact ⟨n, rfl, hw⟩
theorem Opn.bool {P : Program} {t : TypeId} (ht : P.underlying t = some .bool) : Opn P t Kd.bool (fun _ => True) := by
 intro H enc W fuel cs d ps h _
 obtain ⟨b, rfl, _⟩ := DataW.trod_bool ht h
 exact ⟨b, rfl, trivial⟩
theorem Opn.string {P : Program} {t : TypeId} (ht : P.underlying t = some .string) : Opn P t Kd.string (fun s => s.size ≤ 140737488351232) := by
 intro H enc W fuel cs d ps h hz
 obtain ⟨s, rfl, hx, _⟩ := DataW.trod_string ht h
 refine ⟨s, rfl, ?_⟩
 obtain ⟨rfl, _⟩ := Prod.mk.inj hx
 have := hz s.data.toList.length (by simp [DataW.weights])
 rw [Array.length_toList] at this
 exact this
theorem Opn.mono {α : Type} {P : Program} {t : TypeId} {k : Kd α} {ok ok' : α → Prop} (h : Opn P t k ok) (hok : ∀ x, ok x → ok' x) : Opn P t k ok' := by
 intro H enc W fuel cs d ps hd hz
 obtain ⟨x, hx, ho⟩ := h H enc W fuel cs d ps hd hz
 exact ⟨x, hx, hok x ho⟩
/-- The fields from one on, one behind the other. -/
def OpnFs {α : Type} (P : Program) (fs : List Field) (off : Nat) (k : Kd α) (ok : α → Prop) : Prop :=
 ∀ (H : Type) (enc : TypeId × Value → H) (W : World) (fuel : Nat) (cs : List Value) (xs : List (DataW H × List MemPlace)),
  xs.length = fs.length → (∀ (i : Nat) (f : Field), fs[i]? = some f → DataW.trod enc P W 0 (fun _ => true) true fuel f.type ((cs.drop f.offset).take (P.cellsOf f.type)) = xs[i]?) →
  (∀ n ∈ DataW.weightsEach P (fs.map (·.type)) (xs.map (·.1)), n ≤ reachBytes) → ∃ x, k.K W x ((cs.drop off).take k.sz) ∧ ok x
theorem OpnFs.one {α : Type} {P : Program} {f : Field} {off : Nat} {k : Kd α} {ok : α → Prop} (ho : f.offset = off) (hc : P.cellsOf f.type = k.sz) (h : Opn P f.type k ok) : OpnFs P [f] off k ok := by
 intro H enc W fuel cs xs hl hx hz
 have h0 := hx 0 f rfl
 rw [ho, hc] at h0
 match xs, hl with
 | [x], _ =>
  refine h H enc W fuel _ x.1 x.2 h0 (fun n hn => hz n ?_)
  simp [DataW.weightsEach, hn]
theorem OpnFs.cons {α β : Type} {P : Program} {f : Field} {fs : List Field} {off : Nat} {k : Kd α} {k2 : Kd β} {ok : α → Prop} {ok2 : β → Prop} (ho : f.offset = off) (hc : P.cellsOf f.type = k.sz) (h : Opn P f.type k ok)
  (h2 : OpnFs P fs (off + k.sz) k2 ok2) : OpnFs P (f :: fs) off (Kd.pair k k2) (fun x => ok x.1 ∧ ok2 x.2) := by
 intro H enc W fuel cs xs hl hx hz
 have h0 := hx 0 f rfl
 rw [ho, hc] at h0
 match xs, hl with
 | x :: xs, hl =>
  obtain ⟨a, ha, hoa⟩ := h H enc W fuel _ x.1 x.2 h0 (fun n hn => hz n (by simp [DataW.weightsEach, hn]))
  obtain ⟨b, hb, hob⟩ := h2 H enc W fuel cs xs (by simpa using hl) (fun i g hg => by simpa using hx (i + 1) g (by simpa using hg)) (fun n hn => hz n (by simp only [List.map_cons, DataW.weightsEach, List.mem_append]; exact Or.inr hn))
  refine ⟨(a, b), ⟨_, _, ?_, ha, hb⟩, hoa, hob⟩
  show (cs.drop off).take (k.sz + k2.sz) = _
  rw [List.take_add, List.drop_drop]
theorem Opn.struct {α : Type} {P : Program} {t : TypeId} {fs : Array Field} {k : Kd α} {ok : α → Prop} (ht : P.underlying t = some (.struct fs)) (hc : P.cellsOf t = k.sz) (h : OpnFs P fs.toList 0 k ok) : Opn P t k ok := by
 intro H enc W fuel cs d ps hd hz
 obtain ⟨xs, n, rfl, hx, hl, hxl, hf⟩ := DataW.trod_struct ht hd
 obtain ⟨rfl, _⟩ := Prod.mk.inj hx
 obtain ⟨x, hK, ho⟩ := h H enc W n cs xs (by simpa using hxl) (fun i f hi => hf i f (by simpa using hi)) (fun m hm => hz m (by simp only [DataW.weights, ht]; exact hm))
 refine ⟨x, ?_, ho⟩
 rw [List.drop_zero, List.take_of_length_le (by omega)] at hK
 exact hK
theorem Opn.iso {α β : Type} {P : Program} {t : TypeId} {k : Kd α} {ok : α → Prop} {f : β → α} (g : α → β) (hg : ∀ x, f (g x) = x) (h : Opn P t k ok) : Opn P t (Kd.iso k f) (fun y => ok (f y)) := by
 intro H enc W fuel cs d ps hd hz
 obtain ⟨x, hx, ho⟩ := h H enc W fuel cs d ps hd hz
 exact ⟨g x, by show k.K W (f (g x)) cs; rw [hg]; exact hx, by show ok (f (g x)); rw [hg]; exact ho⟩
theorem weightsAll_mem {H : Type} {P : Program} {e : TypeId} : ∀ {l : List (DataW H)} {d : DataW H}, d ∈ l → ∀ n ∈ d.weights P e, n ∈ DataW.weightsAll P e l
 | a :: l, d, hd, n, hn => by
  simp only [DataW.weightsAll, List.mem_append]
  rcases List.mem_cons.1 hd with rfl | hd
  ·exact .inl hn
  ·exact .inr (weightsAll_mem hd n hn)
theorem choose_list {α : Type} (p : Nat → α → Prop) : ∀ (n : Nat), (∀ i, i < n → ∃ x, p i x) → ∃ xs : List α, xs.length = n ∧ ∀ i x, xs[i]? = some x → p i x
 | 0, _ => ⟨[], rfl, fun i x h => by simp at h⟩
 | n + 1, h => by
  obtain ⟨xs, hl, hx⟩ := choose_list p n (fun i hi => h i (by omega))
  obtain ⟨y, hy⟩ := h n (by omega)
  refine ⟨xs ++ [y], by simp [hl], fun i x hi => ?_⟩
  rcases Nat.lt_or_ge i n with hin | hin
  ·rw [List.getElem?_append_left (by omega)] at hi
   exact hx i x hi
  ·rw [List.getElem?_append_right (by omega)] at hi
   have : i - xs.length = 0 := by
    rcases Nat.eq_zero_or_pos (i - xs.length) with h0 | h0
    ·exact h0
    ·rw [List.getElem?_eq_none (by simp; omega)] at hi
     cases hi
   rw [this] at hi
   simp only [List.getElem?_cons_zero, Option.some.injEq] at hi
   subst hi
   have : i = n := by omega
   subst this
   exact hy
theorem Opn.slice {α : Type} {P : Program} {t e : TypeId} {k : Kd α} {ok : α → Prop} (B : Nat) (ht : P.underlying t = some (.slice e)) (hc : P.cellsOf e = k.sz) (hB : P.bytesOf e = B) (h : Opn P e k ok) :
  Opn P t (Kd.slice e k) (fun xs => (∀ x ∈ xs, ok x) ∧ xs.length * B ≤ 140737488351232) := by
 intro H enc W fuel cs d ps hd hz
 rcases DataW.trod_slice ht hd with ⟨rfl, _⟩ | ⟨a, len, cap, elems, rest, n, rfl, rfl, hx, _, hl, hm, hel, hcell, _, _⟩
 ·exact ⟨[], ⟨none, 0, rfl, Nat.le_refl _, Kd.C_nil _ _⟩, by simp, by simp⟩
 ·obtain ⟨rfl, _⟩ := Prod.mk.inj hx
  have hz0 := hz (((elems.map (·.1)).length + (rest.map (·.1)).length) * P.bytesOf e) (by simp only [DataW.weights, ht]; exact List.mem_cons_self)
  have hpick : ∀ i, i < len → ∃ x : α, (∃ c, c.length = k.sz ∧ k.K W x c ∧ ∀ j u, c[j]? = some u → W.cell? (a.add (i * k.sz + j)) = some u) ∧ ok x := by
   intro i hi
   have h1 := hcell i hi
   rw [List.getElem?_eq_getElem (by omega)] at h1
   obtain ⟨c, hc1, hc2⟩ := Option.bind_eq_some_iff.1 h1
   obtain ⟨_, hcl, hcc⟩ := World.cells?_some hc1
   obtain ⟨x, hx, ho⟩ := h H enc W n c _ _ hc2 (fun m hm => hz m (by
    simp only [DataW.weights, ht, List.mem_cons, List.mem_append]
    exact .inr (.inl (weightsAll_mem (List.mem_map.2 ⟨_, List.getElem_mem (by omega), rfl⟩) m hm))))
   refine ⟨x, ⟨c, by omega, hx, fun j u hu => ?_⟩, ho⟩
   have hj : j < c.length := by
    rcases Nat.lt_or_ge j c.length with hj | hj
    ·exact hj
    ·rw [List.getElem?_eq_none hj] at hu; cases hu
   have := hcc j (by omega)
   rw [hu, hc] at this
   rw [← this]
   rw [Addr.add_add]
  obtain ⟨xs, hxl, hxs⟩ := choose_list _ len hpick
  subst hxl
  refine ⟨xs, ⟨some a, cap, rfl, hl, rfl, by unfold maxLen at hm; omega, fun _ => ⟨a, rfl, fun j p hj => (hxs j p hj).1⟩⟩, fun x hx => ?_, ?_⟩
  ·obtain ⟨i, hi⟩ := List.getElem?_of_mem hx
   exact (hxs i x hi).2
  ·rw [hB] at hz0
   refine Nat.le_trans (Nat.mul_le_mul_right _ ?_) hz0
   simp only [List.length_map]
   omega
theorem weights_of {H : Type} {P : Program} {ts : List TypeId} {ds : List (DataW H)} {j : Nat} {t : TypeId} {d : DataW H} (hsz : (DataW.weightsEach P ts ds).all (· ≤ reachBytes) = true) (ht : ts[j]? = some t) (hd : ds[j]? = some d) :
  ∀ n ∈ d.weights P t, n ≤ reachBytes := fun n hn => by
 have := List.all_eq_true.1 hsz _ (DataW.weights_mem_each ht hd n hn)
 simpa using this
end Go.Proofs.Ythnedklbobbkcaa.Open

namespace Go.Proofs.Ythnedklbobbkcaa.Ok
open Go.RowKit Go.Proofs.Ythnedklbobbkcaa.Open Go.Proofs.Ythnedklbobbkcaa.G Go.Proofs.YthnedklbobbkcaaW.PrintWords Go.Proofs.YthnedklbobbkcaaW.PrintLast
set_option linter.unusedVariables false
theorem wf_int {k : IntKind} {n : Int} (h : (Lit.int k n).wf = true) : k.min ≤ n ∧ n ≤ k.max := by
 simpa [Lit.wf] using h
def okT9 (s : ByteArray) : Prop := s.size ≤ 140737488351232
set_option maxRecDepth 100000 in
theorem opn9 : Opn Try.prog 9 Kd.string okT9 := Opn.string Try.underlying9
def okT3 (n : Int) : Prop := -9223372036854775808 ≤ n ∧ n ≤ 9223372036854775807
set_option maxRecDepth 100000 in
theorem opn3 : Opn Try.prog 3 (Kd.int .i64) okT3 := (Opn.int Try.underlying3).mono (fun n h => by have e := wf_int (k := .i64) h; rw [show IntKind.min .i64 = -9223372036854775808 from by decide, show IntKind.max .i64 = 9223372036854775807 from by decide] at e; exact e)
def okT220 (x : S220) : Prop := okT9 x.f0 ∧ okT9 x.f1 ∧ okT3 x.f2
set_option maxRecDepth 100000 in
theorem opn220 : Opn Try.prog 220 k220 okT220 := (Opn.iso (f := fun x : S220 => (x.f0, x.f1, x.f2)) (fun p => (⟨p.1, p.2.1, p.2.2⟩ : S220)) (fun _ => rfl) (Opn.struct (k := (Kd.pair Kd.string (Kd.pair Kd.string (Kd.int .i64)))) Try.underlying220 (by kernel_rfl) (OpnFs.cons rfl (by kernel_rfl) opn9 (OpnFs.cons rfl (by kernel_rfl) opn9 (OpnFs.one rfl (by kernel_rfl) opn3))))).mono (fun _ h => h)
def okT58 (xs : List S220) : Prop := (∀ x ∈ xs, okT220 x) ∧ xs.length * 40 ≤ 140737488351232
set_option maxRecDepth 100000 in
theorem opn58 : Opn Try.prog 58 (Kd.slice 220 k220) okT58 := Opn.slice 40 Try.underlying58 (by kernel_rfl) (by kernel_rfl) opn220
def okT30 (xs : List Int) : Prop := (∀ x ∈ xs, okT3 x) ∧ xs.length * 8 ≤ 140737488351232
set_option maxRecDepth 100000 in
theorem opn30 : Opn Try.prog 30 (Kd.slice 3 (Kd.int .i64)) okT30 := Opn.slice 8 Try.underlying30 (by kernel_rfl) (by kernel_rfl) opn3
def okT60 (x : Int × Int × List S220 × List S220 × List Int) : Prop := okT3 x.1 ∧ okT3 x.2.1 ∧ okT58 x.2.2.1 ∧ okT58 x.2.2.2.1 ∧ okT30 x.2.2.2.2
set_option maxRecDepth 100000 in
theorem opn60 : Opn Try.prog 60 (Kd.pair (Kd.int .i64) (Kd.pair (Kd.int .i64) (Kd.pair (Kd.slice 220 k220) (Kd.pair (Kd.slice 220 k220) (Kd.slice 3 (Kd.int .i64)))))) okT60 := (Opn.struct (k := (Kd.pair (Kd.int .i64) (Kd.pair (Kd.int .i64) (Kd.pair (Kd.slice 220 k220) (Kd.pair (Kd.slice 220 k220) (Kd.slice 3 (Kd.int .i64))))))) Try.underlying60 (by kernel_rfl) (OpnFs.cons rfl (by kernel_rfl) opn3 (OpnFs.cons rfl (by kernel_rfl) opn3 (OpnFs.cons rfl (by kernel_rfl) opn58 (OpnFs.cons rfl (by kernel_rfl) opn58 (OpnFs.one rfl (by kernel_rfl) opn30)))))).mono (fun _ h => h)
def okT244 (x : S244) : Prop := okT3 x.f0 ∧ okT3 x.f1
set_option maxRecDepth 100000 in
theorem opn244 : Opn Try.prog 244 k244 okT244 := (Opn.iso (f := fun x : S244 => (x.f0, x.f1)) (fun p => (⟨p.1, p.2⟩ : S244)) (fun _ => rfl) (Opn.struct (k := (Kd.pair (Kd.int .i64) (Kd.int .i64))) Try.underlying244 (by kernel_rfl) (OpnFs.cons rfl (by kernel_rfl) opn3 (OpnFs.one rfl (by kernel_rfl) opn3)))).mono (fun _ h => h)
def okT61 (xs : List S244) : Prop := (∀ x ∈ xs, okT244 x) ∧ xs.length * 16 ≤ 140737488351232
set_option maxRecDepth 100000 in
theorem opn61 : Opn Try.prog 61 (Kd.slice 244 k244) okT61 := Opn.slice 16 Try.underlying61 (by kernel_rfl) (by kernel_rfl) opn244
def okT63 (x : Int × List Int × List S244) : Prop := okT3 x.1 ∧ okT30 x.2.1 ∧ okT61 x.2.2
set_option maxRecDepth 100000 in
theorem opn63 : Opn Try.prog 63 (Kd.pair (Kd.int .i64) (Kd.pair (Kd.slice 3 (Kd.int .i64)) (Kd.slice 244 k244))) okT63 := (Opn.struct (k := (Kd.pair (Kd.int .i64) (Kd.pair (Kd.slice 3 (Kd.int .i64)) (Kd.slice 244 k244)))) Try.underlying63 (by kernel_rfl) (OpnFs.cons rfl (by kernel_rfl) opn3 (OpnFs.cons rfl (by kernel_rfl) opn30 (OpnFs.one rfl (by kernel_rfl) opn61)))).mono (fun _ h => h)
def okT65 (x : List Int × (Int × List Int × List S244) × List Int) : Prop := okT30 x.1 ∧ okT63 x.2.1 ∧ okT30 x.2.2
set_option maxRecDepth 100000 in
theorem opn65 : Opn Try.prog 65 (Kd.pair (Kd.slice 3 (Kd.int .i64)) (Kd.pair (Kd.pair (Kd.int .i64) (Kd.pair (Kd.slice 3 (Kd.int .i64)) (Kd.slice 244 k244))) (Kd.slice 3 (Kd.int .i64)))) okT65 := (Opn.struct (k := (Kd.pair (Kd.slice 3 (Kd.int .i64)) (Kd.pair (Kd.pair (Kd.int .i64) (Kd.pair (Kd.slice 3 (Kd.int .i64)) (Kd.slice 244 k244))) (Kd.slice 3 (Kd.int .i64))))) Try.underlying65 (by kernel_rfl) (OpnFs.cons rfl (by kernel_rfl) opn30 (OpnFs.cons rfl (by kernel_rfl) opn63 (OpnFs.one rfl (by kernel_rfl) opn30)))).mono (fun _ h => h)
def okT184 (x : S184) : Prop := okT9 x.f0 ∧ okT3 x.f1
set_option maxRecDepth 100000 in
theorem opn184 : Opn Try.prog 184 k184 okT184 := (Opn.iso (f := fun x : S184 => (x.f0, x.f1)) (fun p => (⟨p.1, p.2⟩ : S184)) (fun _ => rfl) (Opn.struct (k := (Kd.pair Kd.string (Kd.int .i64))) Try.underlying184 (by kernel_rfl) (OpnFs.cons rfl (by kernel_rfl) opn9 (OpnFs.one rfl (by kernel_rfl) opn3)))).mono (fun _ h => h)
def okT66 (xs : List S184) : Prop := (∀ x ∈ xs, okT184 x) ∧ xs.length * 24 ≤ 140737488351232
set_option maxRecDepth 100000 in
theorem opn66 : Opn Try.prog 66 (Kd.slice 184 k184) okT66 := Opn.slice 24 Try.underlying66 (by kernel_rfl) (by kernel_rfl) opn184
def okT228 (x : S228) : Prop := okT3 x.f0 ∧ okT9 x.f1 ∧ okT9 x.f2
set_option maxRecDepth 100000 in
theorem opn228 : Opn Try.prog 228 k228 okT228 := (Opn.iso (f := fun x : S228 => (x.f0, x.f1, x.f2)) (fun p => (⟨p.1, p.2.1, p.2.2⟩ : S228)) (fun _ => rfl) (Opn.struct (k := (Kd.pair (Kd.int .i64) (Kd.pair Kd.string Kd.string))) Try.underlying228 (by kernel_rfl) (OpnFs.cons rfl (by kernel_rfl) opn3 (OpnFs.cons rfl (by kernel_rfl) opn9 (OpnFs.one rfl (by kernel_rfl) opn9))))).mono (fun _ h => h)
def okT152 (xs : List S228) : Prop := (∀ x ∈ xs, okT228 x) ∧ xs.length * 40 ≤ 140737488351232
set_option maxRecDepth 100000 in
theorem opn152 : Opn Try.prog 152 (Kd.slice 228 k228) okT152 := Opn.slice 40 Try.underlying152 (by kernel_rfl) (by kernel_rfl) opn228
def okT4 (_ : Bool) : Prop := True
set_option maxRecDepth 100000 in
theorem opn4 : Opn Try.prog 4 Kd.bool okT4 := Opn.bool Try.underlying4
def okT230 (x : S230) : Prop := okT4 x.f0 ∧ okT9 x.f1 ∧ okT9 x.f2
set_option maxRecDepth 100000 in
theorem opn230 : Opn Try.prog 230 k230 okT230 := (Opn.iso (f := fun x : S230 => (x.f0, x.f1, x.f2)) (fun p => (⟨p.1, p.2.1, p.2.2⟩ : S230)) (fun _ => rfl) (Opn.struct (k := (Kd.pair Kd.bool (Kd.pair Kd.string Kd.string))) Try.underlying230 (by kernel_rfl) (OpnFs.cons rfl (by kernel_rfl) opn4 (OpnFs.cons rfl (by kernel_rfl) opn9 (OpnFs.one rfl (by kernel_rfl) opn9))))).mono (fun _ h => h)
def okT153 (xs : List S230) : Prop := (∀ x ∈ xs, okT230 x) ∧ xs.length * 40 ≤ 140737488351232
set_option maxRecDepth 100000 in
theorem opn153 : Opn Try.prog 153 (Kd.slice 230 k230) okT153 := Opn.slice 40 Try.underlying153 (by kernel_rfl) (by kernel_rfl) opn230
def okT155 (x : S155) : Prop := okT152 x.f0 ∧ okT3 x.f1 ∧ okT3 x.f2 ∧ okT3 x.f3 ∧ okT153 x.f4
set_option maxRecDepth 100000 in
theorem opn155 : Opn Try.prog 155 k155 okT155 := (Opn.iso (f := fun x : S155 => (x.f0, x.f1, x.f2, x.f3, x.f4)) (fun p => (⟨p.1, p.2.1, p.2.2.1, p.2.2.2.1, p.2.2.2.2⟩ : S155)) (fun _ => rfl) (Opn.struct (k := (Kd.pair (Kd.slice 228 k228) (Kd.pair (Kd.int .i64) (Kd.pair (Kd.int .i64) (Kd.pair (Kd.int .i64) (Kd.slice 230 k230)))))) Try.underlying155 (by kernel_rfl) (OpnFs.cons rfl (by kernel_rfl) opn152 (OpnFs.cons rfl (by kernel_rfl) opn3 (OpnFs.cons rfl (by kernel_rfl) opn3 (OpnFs.cons rfl (by kernel_rfl) opn3 (OpnFs.one rfl (by kernel_rfl) opn153))))))).mono (fun _ h => h)
def okT67 (xs : List S155) : Prop := (∀ x ∈ xs, okT155 x) ∧ xs.length * 72 ≤ 140737488351232
set_option maxRecDepth 100000 in
theorem opn67 : Opn Try.prog 67 (Kd.slice 155 k155) okT67 := Opn.slice 72 Try.underlying67 (by kernel_rfl) (by kernel_rfl) opn155
def okT193 (x : S193) : Prop := okT3 x.f0 ∧ okT3 x.f1
set_option maxRecDepth 100000 in
theorem opn193 : Opn Try.prog 193 k193 okT193 := (Opn.iso (f := fun x : S193 => (x.f0, x.f1)) (fun p => (⟨p.1, p.2⟩ : S193)) (fun _ => rfl) (Opn.struct (k := (Kd.pair (Kd.int .i64) (Kd.int .i64))) Try.underlying193 (by kernel_rfl) (OpnFs.cons rfl (by kernel_rfl) opn3 (OpnFs.one rfl (by kernel_rfl) opn3)))).mono (fun _ h => h)
def okT68 (xs : List S193) : Prop := (∀ x ∈ xs, okT193 x) ∧ xs.length * 16 ≤ 140737488351232
set_option maxRecDepth 100000 in
theorem opn68 : Opn Try.prog 68 (Kd.slice 193 k193) okT68 := Opn.slice 16 Try.underlying68 (by kernel_rfl) (by kernel_rfl) opn193
def okT70 (x : (Int × Int × List S220 × List S220 × List Int) × (List Int × (Int × List Int × List S244) × List Int) × List S184 × List S155 × List S193) : Prop := okT60 x.1 ∧ okT65 x.2.1 ∧ okT66 x.2.2.1 ∧ okT67 x.2.2.2.1 ∧ okT68 x.2.2.2.2
set_option maxRecDepth 100000 in
theorem opn70 : Opn Try.prog 70 (Kd.pair (Kd.pair (Kd.int .i64) (Kd.pair (Kd.int .i64) (Kd.pair (Kd.slice 220 k220) (Kd.pair (Kd.slice 220 k220) (Kd.slice 3 (Kd.int .i64)))))) (Kd.pair (Kd.pair (Kd.slice 3 (Kd.int .i64)) (Kd.pair (Kd.pair (Kd.int .i64) (Kd.pair (Kd.slice 3 (Kd.int .i64)) (Kd.slice 244 k244))) (Kd.slice 3 (Kd.int .i64)))) (Kd.pair (Kd.slice 184 k184) (Kd.pair (Kd.slice 155 k155) (Kd.slice 193 k193))))) okT70 := (Opn.struct (k := (Kd.pair (Kd.pair (Kd.int .i64) (Kd.pair (Kd.int .i64) (Kd.pair (Kd.slice 220 k220) (Kd.pair (Kd.slice 220 k220) (Kd.slice 3 (Kd.int .i64)))))) (Kd.pair (Kd.pair (Kd.slice 3 (Kd.int .i64)) (Kd.pair (Kd.pair (Kd.int .i64) (Kd.pair (Kd.slice 3 (Kd.int .i64)) (Kd.slice 244 k244))) (Kd.slice 3 (Kd.int .i64)))) (Kd.pair (Kd.slice 184 k184) (Kd.pair (Kd.slice 155 k155) (Kd.slice 193 k193)))))) Try.underlying70 (by kernel_rfl) (OpnFs.cons rfl (by kernel_rfl) opn60 (OpnFs.cons rfl (by kernel_rfl) opn65 (OpnFs.cons rfl (by kernel_rfl) opn66 (OpnFs.cons rfl (by kernel_rfl) opn67 (OpnFs.one rfl (by kernel_rfl) opn68)))))).mono (fun _ h => h)
end Go.Proofs.Ythnedklbobbkcaa.Ok

namespace Go.Proofs.Ythnedklbobbkcaa.G.fnExactRepliesOf
open Go.RowKit Go.Proofs.Ythnedklbobbkcaa.Open Go.Proofs.Ythnedklbobbkcaa.Ok Go.Proofs.Ythnedklbobbkcaa.G Go.Proofs.YthnedklbobbkcaaW.PrintWords Go.Proofs.YthnedklbobbkcaaW.PrintLast
set_option linter.unusedVariables false
def FnExactRepliesOf.okIn (x0 : (Int × Int × List S220 × List S220 × List Int) × (List Int × (Int × List Int × List S244) × List Int) × List S184 × List S155 × List S193) (x1 : Int) : Prop := okT70 x0 ∧ okT3 x1
def FnExactRepliesOf.Pure : Prop := ∀ (x0 : (Int × Int × List S220 × List S220 × List Int) × (List Int × (Int × List Int × List S244) × List Int) × List S184 × List S155 × List S193) (x1 : Int), FnExactRepliesOf.okIn x0 x1 → ∃ k, laws_FnExactRepliesOf.f k x0.1.1 x0.1.2.1 x0.1.2.2.1 x0.1.2.2.2.1 x0.1.2.2.2.2 x0.2.1.1 x0.2.1.2.1.1 x0.2.1.2.1.2.1 x0.2.1.2.1.2.2 x0.2.1.2.2 x0.2.2.1 x0.2.2.2.1 x0.2.2.2.2 x1 = some true
end Go.Proofs.Ythnedklbobbkcaa.G.fnExactRepliesOf

namespace Go.Proofs.Ythnedklbobbkcaa.PL
open Go.RowKit Go.Proofs.YthnedklbobbkcaaW.PrintWords
theorem Ev.const {α : Type} {x : Option α} {r : α} (h : x = some r) : Ev (fun _ => x) r := ⟨0, fun _ _ => h⟩
theorem Ev.pos {α : Type} {c : Prop} [Decidable c] {f g : Nat → Option α} {r : α} (hc : c) (h : Ev f r) : Ev (fun k => if c then f k else g k) r := by
 obtain ⟨K, h⟩ := h
 exact ⟨K, fun k hk => (if_pos hc).trans (h k hk)⟩
theorem Ev.neg {α : Type} {c : Prop} [Decidable c] {f g : Nat → Option α} {r : α} (hc : ¬ c) (h : Ev g r) : Ev (fun k => if c then f k else g k) r := by
 obtain ⟨K, h⟩ := h
 exact ⟨K, fun k hk => (if_neg hc).trans (h k hk)⟩
theorem Ev.to {α : Type} {f : Nat → Option α} {r s : α} (h : Ev f r) (e : r = s) : Ev f s := e ▸ h
theorem w64 {x : Int} (h0 : -9223372036854775808 ≤ x) (h1 : x ≤ 9223372036854775807) : wrap64 x = x := by
 unfold wrap64
 omega
theorem wsucc {i : Nat} (h : i < 9223372036854775807) : wrap64 ((i : Int) + 1) = ((i + 1 : Nat) : Int) := by
 rw [w64 (by omega) (by omega)]
 omega
theorem getD_at {α : Type} {xs : List α} {i : Nat} (h : i < xs.length) (z : α) : xs.getD ((i : Nat) : Int).toNat z = xs[i] := by
 simp [List.getD_eq_getElem?_getD, h]
theorem drop_at {α : Type} {xs : List α} {i : Nat} (h : i < xs.length) : xs.drop i = xs[i] :: xs.drop (i + 1) := List.drop_eq_getElem_cons h
/-- What is left of a when m are taken off, or -1. -/
def left (a : Int) (m : Nat) : Int := if (m : Int) ≤ a then a - m else -1
theorem left_pos {a : Int} {m : Nat} (h : (m : Int) ≤ a) : left a m = a - m := if_pos h
theorem left_neg {a : Int} {m : Nat} (h : ¬ (m : Int) ≤ a) : left a m = -1 := if_neg h
theorem left_zero {a : Int} (h : 0 ≤ a) : left a 0 = a := by unfold left; rw [if_pos (by omega)]; omega
theorem left_add {a : Int} {m n : Nat} : left (a - m) n = left a (m + n) := by
 unfold left
 by_cases c : (n : Int) ≤ a - m
 ·rw [if_pos c, if_pos (by omega)]; omega
 ·rw [if_neg c, if_neg (by omega)]
theorem left_neg_add {a : Int} {m n : Nat} (h : ¬ (m : Int) ≤ a) : left a (m + n) = -1 := left_neg (by omega)
theorem set_mid {α : Type} (pre : List α) (x y : α) (rest : List α) : (pre ++ x :: rest).set ((pre.length : Nat) : Int).toNat y = pre ++ y :: rest := by
 simp
theorem getD_mid {α : Type} (pre : List α) (x z : α) (rest : List α) : (pre ++ x :: rest).getD ((pre.length : Nat) : Int).toNat z = x := by
 simp [List.getD_eq_getElem?_getD]
theorem snoc_mid {α : Type} (pre : List α) (x : α) (rest : List α) : pre ++ x :: rest = (pre ++ [x]) ++ rest := by simp
theorem take_drop_set {α β : Type} (f : α → β) (xs : List α) (ys : List β) {i : Nat} (hi : i < xs.length) (hl : ys.length = xs.length) (h : ys.take i = (xs.take i).map f) : (ys.set ((i : Nat) : Int).toNat (f xs[i])).take (i + 1) = (xs.take (i + 1)).map f := by
 rw [Int.toNat_natCast, List.take_succ_eq_append_getElem (by simp; omega), List.take_succ_eq_append_getElem hi, List.map_append, ← h]
 simp [List.take_set_of_le]
end Go.Proofs.Ythnedklbobbkcaa.PL
namespace Go.Proofs.Ythnedklbobbkcaa.Ok
end Go.Proofs.Ythnedklbobbkcaa.Ok
namespace Go.Proofs.Ythnedklbobbkcaa.Fam
end Go.Proofs.Ythnedklbobbkcaa.Fam
namespace Go.Proofs.Ythnedklbobbkcaa.Q
end Go.Proofs.Ythnedklbobbkcaa.Q
namespace Go.Proofs.Ythnedklbobbkcaa.Man
end Go.Proofs.Ythnedklbobbkcaa.Man

namespace Go.Proofs.Ythnedklbobbkcaa.Fam
open Go.RowKit Go.Proofs.Ythnedklbobbkcaa.G Go.Proofs.Ythnedklbobbkcaa.PL Go.Proofs.Ythnedklbobbkcaa.Ok Go.Proofs.YthnedklbobbkcaaW.PrintWords Go.Proofs.YthnedklbobbkcaaW.PrintLast Go.Proofs.YthnedklbobbkcaaW.PrintMore
set_option linter.unusedVariables false
set_option linter.unusedSimpArgs false
def cvItem (x : S220) : S122 := ⟨x.f0, x.f1, x.f2⟩
instance decItem : DecidableEq S122 := fun a b => decidable_of_iff (a.f0 = b.f0 ∧ a.f1 = b.f1 ∧ a.f2 = b.f2) (by cases a; cases b; simp)
def szmItem (x : S220) : Nat := x.f0.size + x.f1.size
theorem szItem_ev (x0 : ByteArray) (x1 : ByteArray) (x2 : Int) (a : Int) (h0 : 0 ≤ a) (h1 : a ≤ 1048576) (o0 : x0.size ≤ 140737488351232) (o1 : x1.size ≤ 140737488351232) : Ev (fun k => laws_szItem.f x0 x1 x2 a) (left a (x0.size + x1.size)) := by
 unfold laws_szItem.f
 by_cases c0 : ((x0.size : Nat) : Int) ≤ a
 rotate_left
 ·rw [w64 (x := a - (x0.size : Int)) (by omega) (by omega)]
  refine Ev.pos (by omega) ?_
  exact Ev.const (congrArg some (left_neg (by omega)).symm)
 rw [w64 (x := a - (x0.size : Int)) (by omega) (by omega)]
 refine Ev.neg (by omega) ?_
 by_cases c1 : ((x1.size : Nat) : Int) ≤ a - (x0.size : Nat)
 rotate_left
 ·rw [w64 (x := a - (x0.size : Nat) - (x1.size : Int)) (by omega) (by omega)]
  refine Ev.pos (by omega) ?_
  exact Ev.const (congrArg some (left_neg (by omega)).symm)
 rw [w64 (x := a - (x0.size : Nat) - (x1.size : Int)) (by omega) (by omega)]
 refine Ev.neg (by omega) ?_
 exact Ev.const (by first | rfl | exact congrArg some (by rw [left_pos (by omega)] <;> omega))
theorem toItem_ev (x0 : ByteArray) (x1 : ByteArray) (x2 : Int)  : Ev (fun k => laws_toItem.f x0 x1 x2) (x0, x1, x2) := by
 unfold laws_toItem.f
 exact Ev.const rfl
theorem eqItem_ev (x0 : ByteArray) (x1 : ByteArray) (x2 : Int)  : Ev (fun k => laws_eqItem.f x0 x1 x2 x0 x1 x2) true := by
 unfold laws_eqItem.f
 refine Ev.pos rfl ?_
 refine Ev.pos rfl ?_
 refine Ev.pos rfl ?_
 exact Ev.const rfl
end Go.Proofs.Ythnedklbobbkcaa.Fam

namespace Go.Proofs.Ythnedklbobbkcaa.Fam
open Go.RowKit Go.Proofs.Ythnedklbobbkcaa.G Go.Proofs.Ythnedklbobbkcaa.PL Go.Proofs.YthnedklbobbkcaaW.PrintWords Go.Proofs.YthnedklbobbkcaaW.PrintLast
set_option linter.unusedVariables false
set_option linter.unusedSimpArgs false
theorem strOfNums_size (xs : List Int) : (strOfNums xs).size = xs.length := by
 simp [strOfNums, ByteArray.size]
theorem markText_l0 : ∀ (n : Nat) (x : Int) (y : ByteArray), x < 10 ^ n → y.size + n ≤ 1000 → ∃ t, Ev (fun k => laws_markText.l0 k x y) t
 | 0, x, y, hx, hy => by
  refine ⟨(⟨#[109]⟩ : ByteArray) ++ y, Ev.step (fun _ => rfl) ?_⟩
  simp only [laws_markText.l0]
  refine Ev.neg (by simp at hx; omega) ?_
  refine Ev.pos (by omega) ?_
  exact Ev.const rfl
 | n + 1, x, y, hx, hy => by
  by_cases h0 : x > 0
  ·have hd : Int.tdiv x 10 = x / 10 := Int.tdiv_eq_ediv_of_nonneg (by omega)
   have hxd : wrap64 (Int.tdiv x 10) < 10 ^ n := by
    rw [hd]
    have h1 : x / 10 < 10 ^ n := by rw [Int.pow_succ] at hx; omega
    by_cases hb : x / 10 ≤ 9223372036854775807
    ·rw [w64 (by omega) hb]; exact h1
    ·have h2 : wrap64 (x / 10) < 9223372036854775808 := by unfold wrap64; omega
     omega
   have hz : (strOfNums [wrap64 (48 + Int.tmod x 10) % 256]).size = 1 := by rw [strOfNums_size]; rfl
   obtain ⟨t, ht⟩ := markText_l0 n (wrap64 (Int.tdiv x 10)) (strOfNums [wrap64 (48 + Int.tmod x 10) % 256] ++ y) hxd (by rw [ByteArray.size_append, hz]; omega)
   refine ⟨t, Ev.step (fun _ => rfl) ?_⟩
   simp only [laws_markText.l0]
   refine Ev.pos h0 ?_
   refine Ev.bind (Ev.const rfl) ?_
   refine Ev.pos (by omega) ?_
   exact ht
  ·refine ⟨(⟨#[109]⟩ : ByteArray) ++ y, Ev.step (fun _ => rfl) ?_⟩
   simp only [laws_markText.l0]
   refine Ev.neg h0 ?_
   refine Ev.pos (by omega) ?_
   exact Ev.const rfl
theorem markText_any (m : Int) (h : m ≤ 4611686018427387904) : ∃ t, Ev (fun k => laws_markText.f k m) t := by
 unfold laws_markText.f
 by_cases c : m ≤ 0
 ·exact ⟨_, Ev.pos c (Ev.const rfl)⟩
 ·obtain ⟨t, ht⟩ := markText_l0 20 m ⟨#[]⟩ (by rw [show (10 : Int) ^ 20 = 100000000000000000000 from by decide]; omega) (by rw [show (⟨#[]⟩ : ByteArray).size = 0 from rfl]; omega)
  exact ⟨t, Ev.neg c ht⟩
open Classical in
noncomputable def tx (m : Int) : ByteArray := if h : m ≤ 4611686018427387904 then Classical.choose (markText_any m h) else ⟨#[]⟩
theorem tx_ev (m : Int) (h0 : 1 ≤ m) (h : m ≤ 4611686018427387904) : Ev (fun k => laws_markText.f k m) (tx m) := by
 unfold tx
 rw [dif_pos h]
 exact Classical.choose_spec (markText_any m h)
theorem wrap_add1 {m : Int} (h0 : 0 ≤ m) (h : m ≤ 4611686018427387904) : wrap64 (m + 1) = m + 1 := w64 (by omega) (by omega)
theorem wrap_add2 {m : Int} (h0 : 0 ≤ m) (h : m ≤ 4611686018427387904) : wrap64 (m + 1 + 1) = m + 2 := by rw [w64 (by omega) (by omega)]; omega
theorem wrap_add3 {m : Int} (h0 : 0 ≤ m) (h : m ≤ 4611686018427387904) : wrap64 (m + 2 + 1) = m + 3 := by rw [w64 (by omega) (by omega)]; omega
end Go.Proofs.Ythnedklbobbkcaa.Fam

namespace Go.Proofs.Ythnedklbobbkcaa.Fam
open Go.RowKit Go.Proofs.Ythnedklbobbkcaa.G Go.Proofs.Ythnedklbobbkcaa.PL Go.Proofs.Ythnedklbobbkcaa.Ok Go.Proofs.YthnedklbobbkcaaW.PrintWords Go.Proofs.YthnedklbobbkcaaW.PrintLast Go.Proofs.YthnedklbobbkcaaW.PrintMore
set_option linter.unusedVariables false
set_option linter.unusedSimpArgs false
def szmItemS (l : List S220) : Nat := l.length + (l.map fun x => (szmItem x)).sum
theorem szItemS_l0 (l : List S220) (ho : okT58 l) : ∀ (d i : Nat) (a : Int), i + d = l.length → 0 ≤ a → a ≤ 1048576 → Ev (fun k => laws_szItemS.l0 k l a i) (left a ((l.drop i).map fun x => (szmItem x)).sum) := by
 have hl := ho.2
 intro d
 induction d with
 | zero =>
  intro i a hi h0 h1
  refine Ev.step (fun _ => rfl) ?_
  simp only [laws_szItemS.l0]
  refine Ev.neg (by omega) ?_
  rw [List.drop_of_length_le (by omega)]
  exact Ev.const (congrArg some (left_zero h0).symm)
 | succ d ih =>
  intro i a hi h0 h1
  have hlt : i < l.length := by omega
  have er : rd_T220 l (i : Int) = l[i] := getD_at hlt _
  have hok := ho.1 _ (List.getElem_mem hlt)
  refine Ev.step (fun _ => rfl) ?_
  simp only [laws_szItemS.l0]
  refine Ev.pos (by omega) ?_
  refine Ev.pos (by omega) ?_
  rw [er, drop_at hlt, List.map_cons, List.sum_cons, wsucc (by omega)]
  have hz : (szmItem l[i]) = (l[i]).f0.size + (l[i]).f1.size := rfl
  refine Ev.bind (szItem_ev (l[i]).f0 (l[i]).f1 (l[i]).f2 a h0 h1 hok.1 hok.2.1) ?_
  rw [← hz]
  by_cases c : (((szmItem l[i]) : Nat) : Int) ≤ a
  ·rw [left_pos c]
   refine Ev.neg (by omega) ?_
   refine Ev.to (ih (i + 1) (a - (szmItem l[i])) (by omega) (by omega) (by omega)) ?_
   exact left_add
  ·rw [left_neg c]
   refine Ev.pos (by omega) ?_
   exact Ev.const (congrArg some (left_neg_add c).symm)
theorem szItemS_ev (l : List S220) (a : Int) (h0 : 0 ≤ a) (h1 : a ≤ 1048576) (o : okT58 l) : Ev (fun k => laws_szItemS.f k l a) (left a (szmItemS l)) := by
 have ho := o.2
 unfold laws_szItemS.f szmItemS
 rw [w64 (by omega) (by omega)]
 by_cases c : (l.length : Int) ≤ a
 ·refine Ev.neg (by omega) ?_
  refine Ev.to (szItemS_l0 l o l.length 0 (a - l.length) (by omega) (by omega) (by omega)) ?_
  rw [List.drop_zero]
  exact left_add
 ·refine Ev.pos (by omega) ?_
  exact Ev.const (congrArg some (left_neg_add c).symm)
theorem toItemS_l0 (l : List S220) (ho : okT58 l) : ∀ (d i : Nat) (ys : List S122), i + d = l.length → ys.length = l.length → ys.take i = (l.take i).map cvItem → Ev (fun k => laws_toItemS.l0 k l ys i) (l.map cvItem) := by
 have hl := ho.2
 intro d
 induction d with
 | zero =>
  intro i ys hi hy ht
  refine Ev.step (fun _ => rfl) ?_
  simp only [laws_toItemS.l0]
  refine Ev.neg (by omega) ?_
  rw [List.take_of_length_le (by omega), List.take_of_length_le (by omega)] at ht
  exact Ev.const (congrArg some ht)
 | succ d ih =>
  intro i ys hi hy ht
  have hlt : i < l.length := by omega
  have er : rd_T220 l (i : Int) = l[i] := getD_at hlt _
  have hok := ho.1 _ (List.getElem_mem hlt)
  refine Ev.step (fun _ => rfl) ?_
  simp only [laws_toItemS.l0]
  refine Ev.pos (by omega) ?_
  refine Ev.pos (by omega) ?_
  rw [er, wsucc (by omega)]
  refine Ev.bind (toItem_ev (l[i]).f0 (l[i]).f1 (l[i]).f2 ) ?_
  refine Ev.pos (by omega) ?_
  exact ih (i + 1) _ (by omega) (by simp [hy]) (take_drop_set cvItem l ys hlt hy ht)
theorem toItemS_ev (l : List S220) (o : okT58 l) : Ev (fun k => laws_toItemS.f k l) (l.map cvItem) := by
 have ho := o.2
 unfold laws_toItemS.f
 rw [Int.toNat_natCast]
 refine Ev.pos (by omega) ?_
 refine Ev.pos (by omega) ?_
 refine Ev.to (toItemS_l0 l o l.length 0 _ (by omega) (by simp) (by simp)) ?_
 rfl
theorem eqItemS_l0 (l : List S122) (ho : l.length ≤ 140737488351232) : ∀ (d i : Nat), i + d = l.length → Ev (fun k => laws_eqItemS.l0 k l l i) true := by
 have hl : l.length ≤ 140737488351232 := ho
 intro d
 induction d with
 | zero =>
  intro i hi
  refine Ev.step (fun _ => rfl) ?_
  simp only [laws_eqItemS.l0]
  refine Ev.neg (by omega) ?_
  exact Ev.const rfl
 | succ d ih =>
  intro i hi
  refine Ev.step (fun _ => rfl) ?_
  simp only [laws_eqItemS.l0]
  refine Ev.pos (by omega) ?_
  refine Ev.pos (by omega) ?_
  refine Ev.pos (by omega) ?_
  rw [wsucc (by omega)]
  refine Ev.bind (eqItem_ev _ _ _ ) ?_
  refine Ev.pos rfl ?_
  exact ih (i + 1) (by omega)
theorem eqItemS_ev (l : List S122) (ho : l.length ≤ 140737488351232) : Ev (fun k => laws_eqItemS.f k l l) true := by
 unfold laws_eqItemS.f
 refine Ev.pos rfl ?_
 exact eqItemS_l0 l ho l.length 0 (by omega)
noncomputable def mkItemS : Int → List S122 → List S122
 | _, [] => []
 | m, _ :: r => (⟨(tx m), (tx (m + 1)), (m + 2)⟩ : S122) :: mkItemS (m + 3) r
theorem rdm_ItemS (pre : List S122) (x : S122) (rest : List S122) : rd_T122 (pre ++ x :: rest) (pre.length : Int) = x := getD_mid pre x _ rest
theorem markItemS_l0 : ∀ (rest pre : List S122) (m : Int), 1 ≤ m → (m + 3 * (rest.length : Int) ≤ 4611686018427387904 ∧ (pre.length : Int) + rest.length ≤ 4611686018427387904) → Ev (fun k => laws_markItemS.l0 k (pre ++ rest) m (pre.length : Int)) (m + 3 * (rest.length : Int), pre ++ mkItemS m rest)
 | [], pre, m, h0, h1 => by
  refine Ev.step (fun _ => rfl) ?_
  simp only [laws_markItemS.l0]
  refine Ev.neg (by simp) ?_
  exact Ev.const (by simp [mkItemS])
 | x :: rest, pre, m, h0, h1 => by
  simp only [List.length_cons, Int.natCast_add, Int.cast_ofNat_Int] at h1
  have hlen : (pre.length : Int) < 4611686018427387904 := by omega
  have hstep := markItemS_l0 rest (pre ++ [(⟨(tx m), (tx (m + 1)), (m + 2)⟩ : S122)]) (m + 3) (by omega) (by simp only [List.length_append, List.length_singleton, Int.natCast_add]; omega)
  refine Ev.step (fun _ => rfl) ?_
  simp only [laws_markItemS.l0]
  have hlt : (pre.length : Int) < ((pre ++ x :: rest).length : Int) := by simp; omega
  simp only [wrap_add1 (m := m) (by omega) (by omega), wrap_add2 (m := m) (by omega) (by omega), wrap_add3 (m := m) (by omega) (by omega), rdm_ItemS, set_mid]
  have w1 : wrap64 ((pre.length : Int) + 1) = (((pre ++ [(⟨(tx m), (tx (m + 1)), (m + 2)⟩ : S122)]).length : Nat) : Int) := by rw [w64 (by omega) (by omega)]; simp
  rw [w1]
  refine Ev.pos hlt ?_
  try first | with_reducible refine Ev.pos (Int.natCast_nonneg _) ?_ | with_reducible refine Ev.pos rfl ?_ | with_reducible refine Ev.pos trivial ?_ | with_reducible refine Ev.bind (tx_ev _ (by omega) (by omega)) ?_ | with_reducible refine Ev.bind (Ev.const rfl) ?_ | with_reducible refine Ev.neg (by simp) ?_
  try first | with_reducible refine Ev.pos (Int.natCast_nonneg _) ?_ | with_reducible refine Ev.pos rfl ?_ | with_reducible refine Ev.pos trivial ?_ | with_reducible refine Ev.bind (tx_ev _ (by omega) (by omega)) ?_ | with_reducible refine Ev.bind (Ev.const rfl) ?_ | with_reducible refine Ev.neg (by simp) ?_
  try first | with_reducible refine Ev.pos (Int.natCast_nonneg _) ?_ | with_reducible refine Ev.pos rfl ?_ | with_reducible refine Ev.pos trivial ?_ | with_reducible refine Ev.bind (tx_ev _ (by omega) (by omega)) ?_ | with_reducible refine Ev.bind (Ev.const rfl) ?_ | with_reducible refine Ev.neg (by simp) ?_
  try first | with_reducible refine Ev.pos (Int.natCast_nonneg _) ?_ | with_reducible refine Ev.pos rfl ?_ | with_reducible refine Ev.pos trivial ?_ | with_reducible refine Ev.bind (tx_ev _ (by omega) (by omega)) ?_ | with_reducible refine Ev.bind (Ev.const rfl) ?_ | with_reducible refine Ev.neg (by simp) ?_
  try first | with_reducible refine Ev.pos (Int.natCast_nonneg _) ?_ | with_reducible refine Ev.pos rfl ?_ | with_reducible refine Ev.pos trivial ?_ | with_reducible refine Ev.bind (tx_ev _ (by omega) (by omega)) ?_ | with_reducible refine Ev.bind (Ev.const rfl) ?_ | with_reducible refine Ev.neg (by simp) ?_
  try first | with_reducible refine Ev.pos (Int.natCast_nonneg _) ?_ | with_reducible refine Ev.pos rfl ?_ | with_reducible refine Ev.pos trivial ?_ | with_reducible refine Ev.bind (tx_ev _ (by omega) (by omega)) ?_ | with_reducible refine Ev.bind (Ev.const rfl) ?_ | with_reducible refine Ev.neg (by simp) ?_
  try first | with_reducible refine Ev.pos (Int.natCast_nonneg _) ?_ | with_reducible refine Ev.pos rfl ?_ | with_reducible refine Ev.pos trivial ?_ | with_reducible refine Ev.bind (tx_ev _ (by omega) (by omega)) ?_ | with_reducible refine Ev.bind (Ev.const rfl) ?_ | with_reducible refine Ev.neg (by simp) ?_
  try first | with_reducible refine Ev.pos (Int.natCast_nonneg _) ?_ | with_reducible refine Ev.pos rfl ?_ | with_reducible refine Ev.pos trivial ?_ | with_reducible refine Ev.bind (tx_ev _ (by omega) (by omega)) ?_ | with_reducible refine Ev.bind (Ev.const rfl) ?_ | with_reducible refine Ev.neg (by simp) ?_
  try first | with_reducible refine Ev.pos (Int.natCast_nonneg _) ?_ | with_reducible refine Ev.pos rfl ?_ | with_reducible refine Ev.pos trivial ?_ | with_reducible refine Ev.bind (tx_ev _ (by omega) (by omega)) ?_ | with_reducible refine Ev.bind (Ev.const rfl) ?_ | with_reducible refine Ev.neg (by simp) ?_
  try first | with_reducible refine Ev.pos (Int.natCast_nonneg _) ?_ | with_reducible refine Ev.pos rfl ?_ | with_reducible refine Ev.pos trivial ?_ | with_reducible refine Ev.bind (tx_ev _ (by omega) (by omega)) ?_ | with_reducible refine Ev.bind (Ev.const rfl) ?_ | with_reducible refine Ev.neg (by simp) ?_
  try first | with_reducible refine Ev.pos (Int.natCast_nonneg _) ?_ | with_reducible refine Ev.pos rfl ?_ | with_reducible refine Ev.pos trivial ?_ | with_reducible refine Ev.bind (tx_ev _ (by omega) (by omega)) ?_ | with_reducible refine Ev.bind (Ev.const rfl) ?_ | with_reducible refine Ev.neg (by simp) ?_
  try first | with_reducible refine Ev.pos (Int.natCast_nonneg _) ?_ | with_reducible refine Ev.pos rfl ?_ | with_reducible refine Ev.pos trivial ?_ | with_reducible refine Ev.bind (tx_ev _ (by omega) (by omega)) ?_ | with_reducible refine Ev.bind (Ev.const rfl) ?_ | with_reducible refine Ev.neg (by simp) ?_
  try simp only [rdm_ItemS, set_mid]
  refine Ev.to (by simpa only [List.append_assoc, List.singleton_append] using hstep) ?_
  simp [mkItemS, Int.natCast_add]; try omega
theorem markItemS_ev (l : List S122) (m : Int) (h0 : 1 ≤ m) (h1 : m + 3 * (l.length : Int) ≤ 4611686018427387904) : Ev (fun k => laws_markItemS.f k l m) (m + 3 * (l.length : Int), mkItemS m l) := by
 unfold laws_markItemS.f
 have h := markItemS_l0 l [] m h0 ⟨h1, by simp; omega⟩
 simpa using h
def szmIntS (l : List Int) : Nat := l.length
theorem szIntS_ev (l : List Int) (a : Int) (h0 : 0 ≤ a) (h1 : a ≤ 1048576) (o : okT30 l) : Ev (fun k => laws_szIntS.f l a) (left a (szmIntS l)) := by
 have ho := o.2
 unfold laws_szIntS.f szmIntS
 rw [w64 (by omega) (by omega)]
 by_cases c : (l.length : Int) ≤ a
 ·refine Ev.neg (by omega) ?_
  exact Ev.const (congrArg some (left_pos c).symm)
 ·refine Ev.pos (by omega) ?_
  exact Ev.const (congrArg some (left_neg c).symm)
theorem toIntS_l0 (l : List Int) (ho : okT30 l) : ∀ (d i : Nat) (ys : List Int), i + d = l.length → ys.length = l.length → ys.take i = (l.take i).map id → Ev (fun k => laws_toIntS.l0 k l ys i) (l.map id) := by
 have hl := ho.2
 intro d
 induction d with
 | zero =>
  intro i ys hi hy ht
  refine Ev.step (fun _ => rfl) ?_
  simp only [laws_toIntS.l0]
  refine Ev.neg (by omega) ?_
  rw [List.take_of_length_le (by omega), List.take_of_length_le (by omega)] at ht
  exact Ev.const (congrArg some ht)
 | succ d ih =>
  intro i ys hi hy ht
  have hlt : i < l.length := by omega
  have er : rd l (i : Int) = l[i] := getD_at hlt _
  have hok := ho.1 _ (List.getElem_mem hlt)
  refine Ev.step (fun _ => rfl) ?_
  simp only [laws_toIntS.l0]
  refine Ev.pos (by omega) ?_
  refine Ev.pos (by omega) ?_
  rw [er, wsucc (by omega)]
  refine Ev.pos (by omega) ?_
  exact ih (i + 1) _ (by omega) (by simp [hy]) (take_drop_set id l ys hlt hy ht)
theorem toIntS_ev (l : List Int) (o : okT30 l) : Ev (fun k => laws_toIntS.f k l) l := by
 have ho := o.2
 unfold laws_toIntS.f
 rw [Int.toNat_natCast]
 refine Ev.pos (by omega) ?_
 refine Ev.pos (by omega) ?_
 refine Ev.to (toIntS_l0 l o l.length 0 _ (by omega) (by simp) (by simp)) ?_
 simp
theorem eqIntS_l0 (l : List Int) (ho : l.length ≤ 140737488351232) : ∀ (d i : Nat), i + d = l.length → Ev (fun k => laws_eqIntS.l0 k l l i) true := by
 have hl : l.length ≤ 140737488351232 := ho
 intro d
 induction d with
 | zero =>
  intro i hi
  refine Ev.step (fun _ => rfl) ?_
  simp only [laws_eqIntS.l0]
  refine Ev.neg (by omega) ?_
  exact Ev.const rfl
 | succ d ih =>
  intro i hi
  refine Ev.step (fun _ => rfl) ?_
  simp only [laws_eqIntS.l0]
  refine Ev.pos (by omega) ?_
  refine Ev.pos (by omega) ?_
  refine Ev.pos (by omega) ?_
  rw [wsucc (by omega)]
  first | refine Ev.pos rfl ?_ | refine Ev.pos trivial ?_ | refine Ev.neg (by simp) ?_
  exact ih (i + 1) (by omega)
theorem eqIntS_ev (l : List Int) (ho : l.length ≤ 140737488351232) : Ev (fun k => laws_eqIntS.f k l l) true := by
 unfold laws_eqIntS.f
 refine Ev.pos rfl ?_
 exact eqIntS_l0 l ho l.length 0 (by omega)
noncomputable def mkIntS : Int → List Int → List Int
 | _, [] => []
 | m, _ :: r => m :: mkIntS (m + 1) r
theorem rdm_IntS (pre : List Int) (x : Int) (rest : List Int) : rd (pre ++ x :: rest) (pre.length : Int) = x := getD_mid pre x _ rest
theorem markIntS_l0 : ∀ (rest pre : List Int) (m : Int), 1 ≤ m → (m + 1 * (rest.length : Int) ≤ 4611686018427387904 ∧ (pre.length : Int) + rest.length ≤ 4611686018427387904) → Ev (fun k => laws_markIntS.l0 k (pre ++ rest) m (pre.length : Int)) (m + 1 * (rest.length : Int), pre ++ mkIntS m rest)
 | [], pre, m, h0, h1 => by
  refine Ev.step (fun _ => rfl) ?_
  simp only [laws_markIntS.l0]
  refine Ev.neg (by simp) ?_
  exact Ev.const (by simp [mkIntS])
 | x :: rest, pre, m, h0, h1 => by
  simp only [List.length_cons, Int.natCast_add, Int.cast_ofNat_Int] at h1
  have hlen : (pre.length : Int) < 4611686018427387904 := by omega
  have hstep := markIntS_l0 rest (pre ++ [m]) (m + 1) (by omega) (by simp only [List.length_append, List.length_singleton, Int.natCast_add]; omega)
  refine Ev.step (fun _ => rfl) ?_
  simp only [laws_markIntS.l0]
  have hlt : (pre.length : Int) < ((pre ++ x :: rest).length : Int) := by simp; omega
  simp only [wrap_add1 (m := m) (by omega) (by omega), rdm_IntS, set_mid]
  have w1 : wrap64 ((pre.length : Int) + 1) = (((pre ++ [m]).length : Nat) : Int) := by rw [w64 (by omega) (by omega)]; simp
  rw [w1]
  refine Ev.pos hlt ?_
  try first | with_reducible refine Ev.pos (Int.natCast_nonneg _) ?_ | with_reducible refine Ev.pos rfl ?_ | with_reducible refine Ev.pos trivial ?_ | with_reducible refine Ev.bind (tx_ev _ (by omega) (by omega)) ?_ | with_reducible refine Ev.bind (Ev.const rfl) ?_ | with_reducible refine Ev.neg (by simp) ?_
  try first | with_reducible refine Ev.pos (Int.natCast_nonneg _) ?_ | with_reducible refine Ev.pos rfl ?_ | with_reducible refine Ev.pos trivial ?_ | with_reducible refine Ev.bind (tx_ev _ (by omega) (by omega)) ?_ | with_reducible refine Ev.bind (Ev.const rfl) ?_ | with_reducible refine Ev.neg (by simp) ?_
  try first | with_reducible refine Ev.pos (Int.natCast_nonneg _) ?_ | with_reducible refine Ev.pos rfl ?_ | with_reducible refine Ev.pos trivial ?_ | with_reducible refine Ev.bind (tx_ev _ (by omega) (by omega)) ?_ | with_reducible refine Ev.bind (Ev.const rfl) ?_ | with_reducible refine Ev.neg (by simp) ?_
  try first | with_reducible refine Ev.pos (Int.natCast_nonneg _) ?_ | with_reducible refine Ev.pos rfl ?_ | with_reducible refine Ev.pos trivial ?_ | with_reducible refine Ev.bind (tx_ev _ (by omega) (by omega)) ?_ | with_reducible refine Ev.bind (Ev.const rfl) ?_ | with_reducible refine Ev.neg (by simp) ?_
  try first | with_reducible refine Ev.pos (Int.natCast_nonneg _) ?_ | with_reducible refine Ev.pos rfl ?_ | with_reducible refine Ev.pos trivial ?_ | with_reducible refine Ev.bind (tx_ev _ (by omega) (by omega)) ?_ | with_reducible refine Ev.bind (Ev.const rfl) ?_ | with_reducible refine Ev.neg (by simp) ?_
  try first | with_reducible refine Ev.pos (Int.natCast_nonneg _) ?_ | with_reducible refine Ev.pos rfl ?_ | with_reducible refine Ev.pos trivial ?_ | with_reducible refine Ev.bind (tx_ev _ (by omega) (by omega)) ?_ | with_reducible refine Ev.bind (Ev.const rfl) ?_ | with_reducible refine Ev.neg (by simp) ?_
  try simp only [rdm_IntS, set_mid]
  refine Ev.to (by simpa only [List.append_assoc, List.singleton_append] using hstep) ?_
  simp [mkIntS, Int.natCast_add]; try omega
theorem markIntS_ev (l : List Int) (m : Int) (h0 : 1 ≤ m) (h1 : m + 1 * (l.length : Int) ≤ 4611686018427387904) : Ev (fun k => laws_markIntS.f k l m) (m + 1 * (l.length : Int), mkIntS m l) := by
 unfold laws_markIntS.f
 have h := markIntS_l0 l [] m h0 ⟨h1, by simp; omega⟩
 simpa using h
theorem szThree_ev (x0 : Int) (x1 : Int) (x2 : List S220) (x3 : List S220) (x4 : List Int) (a : Int) (h0 : 0 ≤ a) (h1 : a ≤ 1048576) (o0 : okT58 x2) (o1 : okT58 x3) (o2 : okT30 x4) : Ev (fun k => laws_szThree.f k x0 x1 x2 x3 x4 a) (left a (szmItemS x2 + szmItemS x3 + szmIntS x4)) := by
 unfold laws_szThree.f
 refine Ev.bind (szItemS_ev x2 a (by omega) (by omega) o0) ?_
 by_cases c0 : ((szmItemS x2 : Nat) : Int) ≤ a
 rotate_left
 ·rw [left_neg c0]
  refine Ev.pos (by omega) ?_
  exact Ev.const (by first | rfl | exact congrArg some (left_neg (by omega)).symm)
 rw [left_pos c0]
 refine Ev.neg (by omega) ?_
 refine Ev.bind (szItemS_ev x3 (a - (szmItemS x2 : Nat)) (by omega) (by omega) o1) ?_
 by_cases c1 : ((szmItemS x3 : Nat) : Int) ≤ a - (szmItemS x2 : Nat)
 rotate_left
 ·rw [left_neg c1]
  refine Ev.pos (by omega) ?_
  exact Ev.const (by first | rfl | exact congrArg some (left_neg (by omega)).symm)
 rw [left_pos c1]
 refine Ev.neg (by omega) ?_
 refine Ev.bind (szIntS_ev x4 ((a - (szmItemS x2 : Nat)) - (szmItemS x3 : Nat)) (by omega) (by omega) o2) ?_
 by_cases c2 : ((szmIntS x4 : Nat) : Int) ≤ (a - (szmItemS x2 : Nat)) - (szmItemS x3 : Nat)
 rotate_left
 ·rw [left_neg c2]
  refine Ev.pos (by omega) ?_
  exact Ev.const (by first | rfl | exact congrArg some (left_neg (by omega)).symm)
 rw [left_pos c2]
 refine Ev.neg (by omega) ?_
 exact Ev.const (by first | rfl | exact congrArg some (by rw [left_pos (by omega)] <;> omega))
theorem toThree_ev (x0 : Int) (x1 : Int) (x2 : List S220) (x3 : List S220) (x4 : List Int) (o_x2 : okT58 x2) (o_x3 : okT58 x3) (o_x4 : okT30 x4) : Ev (fun k => laws_toThree.f k x0 x1 x2 x3 x4) (x0, x1, (x2.map cvItem), (x3.map cvItem), x4) := by
 unfold laws_toThree.f
 refine Ev.bind (toItemS_ev x2 o_x2) ?_
 refine Ev.bind (toItemS_ev x3 o_x3) ?_
 refine Ev.bind (toIntS_ev x4 o_x4) ?_
 exact Ev.const rfl
theorem eqThree_ev (x0 : Int) (x1 : Int) (x2 : List S122) (x3 : List S122) (x4 : List Int) (o_x2 : x2.length ≤ 140737488351232) (o_x3 : x3.length ≤ 140737488351232) (o_x4 : x4.length ≤ 140737488351232) : Ev (fun k => laws_eqThree.f k x0 x1 x2 x3 x4 x0 x1 x2 x3 x4) true := by
 unfold laws_eqThree.f
 refine Ev.pos rfl ?_
 refine Ev.pos rfl ?_
 refine Ev.bind (eqItemS_ev x2 o_x2) ?_
 refine Ev.pos rfl ?_
 refine Ev.bind (eqItemS_ev x3 o_x3) ?_
 refine Ev.pos rfl ?_
 refine Ev.bind (eqIntS_ev x4 o_x4) ?_
 refine Ev.pos rfl ?_
 exact Ev.const rfl
def cvGone (x : S244) : S242 := ⟨x.f0, x.f1⟩
instance decGone : DecidableEq S242 := fun a b => decidable_of_iff (a.f0 = b.f0 ∧ a.f1 = b.f1) (by cases a; cases b; simp)
theorem toGone_ev (x0 : Int) (x1 : Int)  : Ev (fun k => laws_toGone.f x0 x1) (x0, x1) := by
 unfold laws_toGone.f
 exact Ev.const rfl
theorem eqGone_ev (x0 : Int) (x1 : Int)  : Ev (fun k => laws_eqGone.f x0 x1 x0 x1) true := by
 unfold laws_eqGone.f
 refine Ev.pos rfl ?_
 refine Ev.pos rfl ?_
 exact Ev.const rfl
def szmGoneS (l : List S244) : Nat := l.length
theorem szGoneS_ev (l : List S244) (a : Int) (h0 : 0 ≤ a) (h1 : a ≤ 1048576) (o : okT61 l) : Ev (fun k => laws_szGoneS.f l a) (left a (szmGoneS l)) := by
 have ho := o.2
 unfold laws_szGoneS.f szmGoneS
 rw [w64 (by omega) (by omega)]
 by_cases c : (l.length : Int) ≤ a
 ·refine Ev.neg (by omega) ?_
  exact Ev.const (congrArg some (left_pos c).symm)
 ·refine Ev.pos (by omega) ?_
  exact Ev.const (congrArg some (left_neg c).symm)
theorem toGoneS_l0 (l : List S244) (ho : okT61 l) : ∀ (d i : Nat) (ys : List S242), i + d = l.length → ys.length = l.length → ys.take i = (l.take i).map cvGone → Ev (fun k => laws_toGoneS.l0 k l ys i) (l.map cvGone) := by
 have hl := ho.2
 intro d
 induction d with
 | zero =>
  intro i ys hi hy ht
  refine Ev.step (fun _ => rfl) ?_
  simp only [laws_toGoneS.l0]
  refine Ev.neg (by omega) ?_
  rw [List.take_of_length_le (by omega), List.take_of_length_le (by omega)] at ht
  exact Ev.const (congrArg some ht)
 | succ d ih =>
  intro i ys hi hy ht
  have hlt : i < l.length := by omega
  have er : rd_T244 l (i : Int) = l[i] := getD_at hlt _
  have hok := ho.1 _ (List.getElem_mem hlt)
  refine Ev.step (fun _ => rfl) ?_
  simp only [laws_toGoneS.l0]
  refine Ev.pos (by omega) ?_
  refine Ev.pos (by omega) ?_
  rw [er, wsucc (by omega)]
  refine Ev.bind (toGone_ev (l[i]).f0 (l[i]).f1 ) ?_
  refine Ev.pos (by omega) ?_
  exact ih (i + 1) _ (by omega) (by simp [hy]) (take_drop_set cvGone l ys hlt hy ht)
theorem toGoneS_ev (l : List S244) (o : okT61 l) : Ev (fun k => laws_toGoneS.f k l) (l.map cvGone) := by
 have ho := o.2
 unfold laws_toGoneS.f
 rw [Int.toNat_natCast]
 refine Ev.pos (by omega) ?_
 refine Ev.pos (by omega) ?_
 refine Ev.to (toGoneS_l0 l o l.length 0 _ (by omega) (by simp) (by simp)) ?_
 rfl
theorem eqGoneS_l0 (l : List S242) (ho : l.length ≤ 140737488351232) : ∀ (d i : Nat), i + d = l.length → Ev (fun k => laws_eqGoneS.l0 k l l i) true := by
 have hl : l.length ≤ 140737488351232 := ho
 intro d
 induction d with
 | zero =>
  intro i hi
  refine Ev.step (fun _ => rfl) ?_
  simp only [laws_eqGoneS.l0]
  refine Ev.neg (by omega) ?_
  exact Ev.const rfl
 | succ d ih =>
  intro i hi
  refine Ev.step (fun _ => rfl) ?_
  simp only [laws_eqGoneS.l0]
  refine Ev.pos (by omega) ?_
  refine Ev.pos (by omega) ?_
  refine Ev.pos (by omega) ?_
  rw [wsucc (by omega)]
  refine Ev.bind (eqGone_ev _ _ ) ?_
  refine Ev.pos rfl ?_
  exact ih (i + 1) (by omega)
theorem eqGoneS_ev (l : List S242) (ho : l.length ≤ 140737488351232) : Ev (fun k => laws_eqGoneS.f k l l) true := by
 unfold laws_eqGoneS.f
 refine Ev.pos rfl ?_
 exact eqGoneS_l0 l ho l.length 0 (by omega)
noncomputable def mkGoneS : Int → List S242 → List S242
 | _, [] => []
 | m, _ :: r => (⟨m, (m + 1)⟩ : S242) :: mkGoneS (m + 2) r
theorem rdm_GoneS (pre : List S242) (x : S242) (rest : List S242) : rd_T242 (pre ++ x :: rest) (pre.length : Int) = x := getD_mid pre x _ rest
theorem markGoneS_l0 : ∀ (rest pre : List S242) (m : Int), 1 ≤ m → (m + 2 * (rest.length : Int) ≤ 4611686018427387904 ∧ (pre.length : Int) + rest.length ≤ 4611686018427387904) → Ev (fun k => laws_markGoneS.l0 k (pre ++ rest) m (pre.length : Int)) (m + 2 * (rest.length : Int), pre ++ mkGoneS m rest)
 | [], pre, m, h0, h1 => by
  refine Ev.step (fun _ => rfl) ?_
  simp only [laws_markGoneS.l0]
  refine Ev.neg (by simp) ?_
  exact Ev.const (by simp [mkGoneS])
 | x :: rest, pre, m, h0, h1 => by
  simp only [List.length_cons, Int.natCast_add, Int.cast_ofNat_Int] at h1
  have hlen : (pre.length : Int) < 4611686018427387904 := by omega
  have hstep := markGoneS_l0 rest (pre ++ [(⟨m, (m + 1)⟩ : S242)]) (m + 2) (by omega) (by simp only [List.length_append, List.length_singleton, Int.natCast_add]; omega)
  refine Ev.step (fun _ => rfl) ?_
  simp only [laws_markGoneS.l0]
  have hlt : (pre.length : Int) < ((pre ++ x :: rest).length : Int) := by simp; omega
  simp only [wrap_add1 (m := m) (by omega) (by omega), wrap_add2 (m := m) (by omega) (by omega), rdm_GoneS, set_mid]
  have w1 : wrap64 ((pre.length : Int) + 1) = (((pre ++ [(⟨m, (m + 1)⟩ : S242)]).length : Nat) : Int) := by rw [w64 (by omega) (by omega)]; simp
  rw [w1]
  refine Ev.pos hlt ?_
  try first | with_reducible refine Ev.pos (Int.natCast_nonneg _) ?_ | with_reducible refine Ev.pos rfl ?_ | with_reducible refine Ev.pos trivial ?_ | with_reducible refine Ev.bind (tx_ev _ (by omega) (by omega)) ?_ | with_reducible refine Ev.bind (Ev.const rfl) ?_ | with_reducible refine Ev.neg (by simp) ?_
  try first | with_reducible refine Ev.pos (Int.natCast_nonneg _) ?_ | with_reducible refine Ev.pos rfl ?_ | with_reducible refine Ev.pos trivial ?_ | with_reducible refine Ev.bind (tx_ev _ (by omega) (by omega)) ?_ | with_reducible refine Ev.bind (Ev.const rfl) ?_ | with_reducible refine Ev.neg (by simp) ?_
  try first | with_reducible refine Ev.pos (Int.natCast_nonneg _) ?_ | with_reducible refine Ev.pos rfl ?_ | with_reducible refine Ev.pos trivial ?_ | with_reducible refine Ev.bind (tx_ev _ (by omega) (by omega)) ?_ | with_reducible refine Ev.bind (Ev.const rfl) ?_ | with_reducible refine Ev.neg (by simp) ?_
  try first | with_reducible refine Ev.pos (Int.natCast_nonneg _) ?_ | with_reducible refine Ev.pos rfl ?_ | with_reducible refine Ev.pos trivial ?_ | with_reducible refine Ev.bind (tx_ev _ (by omega) (by omega)) ?_ | with_reducible refine Ev.bind (Ev.const rfl) ?_ | with_reducible refine Ev.neg (by simp) ?_
  try first | with_reducible refine Ev.pos (Int.natCast_nonneg _) ?_ | with_reducible refine Ev.pos rfl ?_ | with_reducible refine Ev.pos trivial ?_ | with_reducible refine Ev.bind (tx_ev _ (by omega) (by omega)) ?_ | with_reducible refine Ev.bind (Ev.const rfl) ?_ | with_reducible refine Ev.neg (by simp) ?_
  try first | with_reducible refine Ev.pos (Int.natCast_nonneg _) ?_ | with_reducible refine Ev.pos rfl ?_ | with_reducible refine Ev.pos trivial ?_ | with_reducible refine Ev.bind (tx_ev _ (by omega) (by omega)) ?_ | with_reducible refine Ev.bind (Ev.const rfl) ?_ | with_reducible refine Ev.neg (by simp) ?_
  try first | with_reducible refine Ev.pos (Int.natCast_nonneg _) ?_ | with_reducible refine Ev.pos rfl ?_ | with_reducible refine Ev.pos trivial ?_ | with_reducible refine Ev.bind (tx_ev _ (by omega) (by omega)) ?_ | with_reducible refine Ev.bind (Ev.const rfl) ?_ | with_reducible refine Ev.neg (by simp) ?_
  try first | with_reducible refine Ev.pos (Int.natCast_nonneg _) ?_ | with_reducible refine Ev.pos rfl ?_ | with_reducible refine Ev.pos trivial ?_ | with_reducible refine Ev.bind (tx_ev _ (by omega) (by omega)) ?_ | with_reducible refine Ev.bind (Ev.const rfl) ?_ | with_reducible refine Ev.neg (by simp) ?_
  try first | with_reducible refine Ev.pos (Int.natCast_nonneg _) ?_ | with_reducible refine Ev.pos rfl ?_ | with_reducible refine Ev.pos trivial ?_ | with_reducible refine Ev.bind (tx_ev _ (by omega) (by omega)) ?_ | with_reducible refine Ev.bind (Ev.const rfl) ?_ | with_reducible refine Ev.neg (by simp) ?_
  try simp only [rdm_GoneS, set_mid]
  refine Ev.to (by simpa only [List.append_assoc, List.singleton_append] using hstep) ?_
  simp [mkGoneS, Int.natCast_add]; try omega
theorem markGoneS_ev (l : List S242) (m : Int) (h0 : 1 ≤ m) (h1 : m + 2 * (l.length : Int) ≤ 4611686018427387904) : Ev (fun k => laws_markGoneS.f k l m) (m + 2 * (l.length : Int), mkGoneS m l) := by
 unfold laws_markGoneS.f
 have h := markGoneS_l0 l [] m h0 ⟨h1, by simp; omega⟩
 simpa using h
theorem szAges_ev (x0 : Int) (x1 : List Int) (x2 : List S244) (a : Int) (h0 : 0 ≤ a) (h1 : a ≤ 1048576) (o0 : okT30 x1) (o1 : okT61 x2) : Ev (fun k => laws_szAges.f x0 x1 x2 a) (left a (szmIntS x1 + szmGoneS x2)) := by
 unfold laws_szAges.f
 refine Ev.bind (szIntS_ev x1 a (by omega) (by omega) o0) ?_
 by_cases c0 : ((szmIntS x1 : Nat) : Int) ≤ a
 rotate_left
 ·rw [left_neg c0]
  refine Ev.pos (by omega) ?_
  exact Ev.const (by first | rfl | exact congrArg some (left_neg (by omega)).symm)
 rw [left_pos c0]
 refine Ev.neg (by omega) ?_
 refine Ev.bind (szGoneS_ev x2 (a - (szmIntS x1 : Nat)) (by omega) (by omega) o1) ?_
 by_cases c1 : ((szmGoneS x2 : Nat) : Int) ≤ a - (szmIntS x1 : Nat)
 rotate_left
 ·rw [left_neg c1]
  refine Ev.pos (by omega) ?_
  exact Ev.const (by first | rfl | exact congrArg some (left_neg (by omega)).symm)
 rw [left_pos c1]
 refine Ev.neg (by omega) ?_
 exact Ev.const (by first | rfl | exact congrArg some (by rw [left_pos (by omega)] <;> omega))
theorem toAges_ev (x0 : Int) (x1 : List Int) (x2 : List S244) (o_x1 : okT30 x1) (o_x2 : okT61 x2) : Ev (fun k => laws_toAges.f k x0 x1 x2) (x0, x1, (x2.map cvGone)) := by
 unfold laws_toAges.f
 refine Ev.bind (toIntS_ev x1 o_x1) ?_
 refine Ev.bind (toGoneS_ev x2 o_x2) ?_
 exact Ev.const rfl
theorem eqAges_ev (x0 : Int) (x1 : List Int) (x2 : List S242) (o_x1 : x1.length ≤ 140737488351232) (o_x2 : x2.length ≤ 140737488351232) : Ev (fun k => laws_eqAges.f k x0 x1 x2 x0 x1 x2) true := by
 unfold laws_eqAges.f
 refine Ev.pos rfl ?_
 refine Ev.bind (eqIntS_ev x1 o_x1) ?_
 refine Ev.pos rfl ?_
 refine Ev.bind (eqGoneS_ev x2 o_x2) ?_
 refine Ev.pos rfl ?_
 exact Ev.const rfl
theorem szPool_ev (x0 : List Int) (x1 : Int) (x2 : List Int) (x3 : List S244) (x4 : List Int) (a : Int) (h0 : 0 ≤ a) (h1 : a ≤ 1048576) (o0 : okT30 x0) (o1_0 : okT30 x2) (o1_1 : okT61 x3) (o2 : okT30 x4) : Ev (fun k => laws_szPool.f x0 x1 x2 x3 x4 a) (left a (szmIntS x0 + (szmIntS x2 + szmGoneS x3) + szmIntS x4)) := by
 unfold laws_szPool.f
 refine Ev.bind (szIntS_ev x0 a (by omega) (by omega) o0) ?_
 by_cases c0 : ((szmIntS x0 : Nat) : Int) ≤ a
 rotate_left
 ·rw [left_neg c0]
  refine Ev.pos (by omega) ?_
  exact Ev.const (by first | rfl | exact congrArg some (left_neg (by omega)).symm)
 rw [left_pos c0]
 refine Ev.neg (by omega) ?_
 refine Ev.bind (szAges_ev x1 x2 x3 (a - (szmIntS x0 : Nat)) (by omega) (by omega) o1_0 o1_1) ?_
 by_cases c1 : ((szmIntS x2 + szmGoneS x3 : Nat) : Int) ≤ a - (szmIntS x0 : Nat)
 rotate_left
 ·rw [left_neg c1]
  refine Ev.pos (by omega) ?_
  exact Ev.const (by first | rfl | exact congrArg some (left_neg (by omega)).symm)
 rw [left_pos c1]
 refine Ev.neg (by omega) ?_
 refine Ev.bind (szIntS_ev x4 ((a - (szmIntS x0 : Nat)) - (szmIntS x2 + szmGoneS x3 : Nat)) (by omega) (by omega) o2) ?_
 by_cases c2 : ((szmIntS x4 : Nat) : Int) ≤ (a - (szmIntS x0 : Nat)) - (szmIntS x2 + szmGoneS x3 : Nat)
 rotate_left
 ·rw [left_neg c2]
  refine Ev.pos (by omega) ?_
  exact Ev.const (by first | rfl | exact congrArg some (left_neg (by omega)).symm)
 rw [left_pos c2]
 refine Ev.neg (by omega) ?_
 exact Ev.const (by first | rfl | exact congrArg some (by rw [left_pos (by omega)] <;> omega))
theorem toPool_ev (x0 : List Int) (x1 : Int) (x2 : List Int) (x3 : List S244) (x4 : List Int) (o_x0 : okT30 x0) (o_x2 : okT30 x2) (o_x3 : okT61 x3) (o_x4 : okT30 x4) : Ev (fun k => laws_toPool.f k x0 x1 x2 x3 x4) (x0, x1, x2, (x3.map cvGone), x4) := by
 unfold laws_toPool.f
 refine Ev.bind (toIntS_ev x0 o_x0) ?_
 refine Ev.bind (toAges_ev x1 x2 x3 o_x2 o_x3) ?_
 refine Ev.bind (toIntS_ev x4 o_x4) ?_
 exact Ev.const rfl
theorem eqPool_ev (x0 : List Int) (x1 : Int) (x2 : List Int) (x3 : List S242) (x4 : List Int) (o_x0 : x0.length ≤ 140737488351232) (o_x2 : x2.length ≤ 140737488351232) (o_x3 : x3.length ≤ 140737488351232) (o_x4 : x4.length ≤ 140737488351232) : Ev (fun k => laws_eqPool.f k x0 x1 x2 x3 x4 x0 x1 x2 x3 x4) true := by
 unfold laws_eqPool.f
 refine Ev.bind (eqIntS_ev x0 o_x0) ?_
 refine Ev.pos rfl ?_
 refine Ev.bind (eqAges_ev x1 x2 x3 o_x2 o_x3) ?_
 refine Ev.pos rfl ?_
 refine Ev.bind (eqIntS_ev x4 o_x4) ?_
 refine Ev.pos rfl ?_
 exact Ev.const rfl
def cvSpot (x : S184) : S188 := ⟨x.f0, x.f1⟩
instance decSpot : DecidableEq S188 := fun a b => decidable_of_iff (a.f0 = b.f0 ∧ a.f1 = b.f1) (by cases a; cases b; simp)
def szmSpot (x : S184) : Nat := x.f0.size
theorem szSpot_ev (x0 : ByteArray) (x1 : Int) (a : Int) (h0 : 0 ≤ a) (h1 : a ≤ 1048576) (o0 : x0.size ≤ 140737488351232) : Ev (fun k => laws_szSpot.f x0 x1 a) (left a (x0.size)) := by
 unfold laws_szSpot.f
 by_cases c0 : ((x0.size : Nat) : Int) ≤ a
 rotate_left
 ·rw [w64 (x := a - (x0.size : Int)) (by omega) (by omega)]
  refine Ev.pos (by omega) ?_
  exact Ev.const (congrArg some (left_neg (by omega)).symm)
 rw [w64 (x := a - (x0.size : Int)) (by omega) (by omega)]
 refine Ev.neg (by omega) ?_
 exact Ev.const (by first | rfl | exact congrArg some (by rw [left_pos (by omega)] <;> omega))
theorem toSpot_ev (x0 : ByteArray) (x1 : Int)  : Ev (fun k => laws_toSpot.f x0 x1) (x0, x1) := by
 unfold laws_toSpot.f
 exact Ev.const rfl
theorem eqSpot_ev (x0 : ByteArray) (x1 : Int)  : Ev (fun k => laws_eqSpot.f x0 x1 x0 x1) true := by
 unfold laws_eqSpot.f
 refine Ev.pos rfl ?_
 refine Ev.pos rfl ?_
 exact Ev.const rfl
def szmSpotS (l : List S184) : Nat := l.length + (l.map fun x => (szmSpot x)).sum
theorem szSpotS_l0 (l : List S184) (ho : okT66 l) : ∀ (d i : Nat) (a : Int), i + d = l.length → 0 ≤ a → a ≤ 1048576 → Ev (fun k => laws_szSpotS.l0 k l a i) (left a ((l.drop i).map fun x => (szmSpot x)).sum) := by
 have hl := ho.2
 intro d
 induction d with
 | zero =>
  intro i a hi h0 h1
  refine Ev.step (fun _ => rfl) ?_
  simp only [laws_szSpotS.l0]
  refine Ev.neg (by omega) ?_
  rw [List.drop_of_length_le (by omega)]
  exact Ev.const (congrArg some (left_zero h0).symm)
 | succ d ih =>
  intro i a hi h0 h1
  have hlt : i < l.length := by omega
  have er : rd_T184 l (i : Int) = l[i] := getD_at hlt _
  have hok := ho.1 _ (List.getElem_mem hlt)
  refine Ev.step (fun _ => rfl) ?_
  simp only [laws_szSpotS.l0]
  refine Ev.pos (by omega) ?_
  refine Ev.pos (by omega) ?_
  rw [er, drop_at hlt, List.map_cons, List.sum_cons, wsucc (by omega)]
  have hz : (szmSpot l[i]) = (l[i]).f0.size := rfl
  refine Ev.bind (szSpot_ev (l[i]).f0 (l[i]).f1 a h0 h1 hok.1) ?_
  rw [← hz]
  by_cases c : (((szmSpot l[i]) : Nat) : Int) ≤ a
  ·rw [left_pos c]
   refine Ev.neg (by omega) ?_
   refine Ev.to (ih (i + 1) (a - (szmSpot l[i])) (by omega) (by omega) (by omega)) ?_
   exact left_add
  ·rw [left_neg c]
   refine Ev.pos (by omega) ?_
   exact Ev.const (congrArg some (left_neg_add c).symm)
theorem szSpotS_ev (l : List S184) (a : Int) (h0 : 0 ≤ a) (h1 : a ≤ 1048576) (o : okT66 l) : Ev (fun k => laws_szSpotS.f k l a) (left a (szmSpotS l)) := by
 have ho := o.2
 unfold laws_szSpotS.f szmSpotS
 rw [w64 (by omega) (by omega)]
 by_cases c : (l.length : Int) ≤ a
 ·refine Ev.neg (by omega) ?_
  refine Ev.to (szSpotS_l0 l o l.length 0 (a - l.length) (by omega) (by omega) (by omega)) ?_
  rw [List.drop_zero]
  exact left_add
 ·refine Ev.pos (by omega) ?_
  exact Ev.const (congrArg some (left_neg_add c).symm)
theorem toSpotS_l0 (l : List S184) (ho : okT66 l) : ∀ (d i : Nat) (ys : List S188), i + d = l.length → ys.length = l.length → ys.take i = (l.take i).map cvSpot → Ev (fun k => laws_toSpotS.l0 k l ys i) (l.map cvSpot) := by
 have hl := ho.2
 intro d
 induction d with
 | zero =>
  intro i ys hi hy ht
  refine Ev.step (fun _ => rfl) ?_
  simp only [laws_toSpotS.l0]
  refine Ev.neg (by omega) ?_
  rw [List.take_of_length_le (by omega), List.take_of_length_le (by omega)] at ht
  exact Ev.const (congrArg some ht)
 | succ d ih =>
  intro i ys hi hy ht
  have hlt : i < l.length := by omega
  have er : rd_T184 l (i : Int) = l[i] := getD_at hlt _
  have hok := ho.1 _ (List.getElem_mem hlt)
  refine Ev.step (fun _ => rfl) ?_
  simp only [laws_toSpotS.l0]
  refine Ev.pos (by omega) ?_
  refine Ev.pos (by omega) ?_
  rw [er, wsucc (by omega)]
  refine Ev.bind (toSpot_ev (l[i]).f0 (l[i]).f1 ) ?_
  refine Ev.pos (by omega) ?_
  exact ih (i + 1) _ (by omega) (by simp [hy]) (take_drop_set cvSpot l ys hlt hy ht)
theorem toSpotS_ev (l : List S184) (o : okT66 l) : Ev (fun k => laws_toSpotS.f k l) (l.map cvSpot) := by
 have ho := o.2
 unfold laws_toSpotS.f
 rw [Int.toNat_natCast]
 refine Ev.pos (by omega) ?_
 refine Ev.pos (by omega) ?_
 refine Ev.to (toSpotS_l0 l o l.length 0 _ (by omega) (by simp) (by simp)) ?_
 rfl
theorem eqSpotS_l0 (l : List S188) (ho : l.length ≤ 140737488351232) : ∀ (d i : Nat), i + d = l.length → Ev (fun k => laws_eqSpotS.l0 k l l i) true := by
 have hl : l.length ≤ 140737488351232 := ho
 intro d
 induction d with
 | zero =>
  intro i hi
  refine Ev.step (fun _ => rfl) ?_
  simp only [laws_eqSpotS.l0]
  refine Ev.neg (by omega) ?_
  exact Ev.const rfl
 | succ d ih =>
  intro i hi
  refine Ev.step (fun _ => rfl) ?_
  simp only [laws_eqSpotS.l0]
  refine Ev.pos (by omega) ?_
  refine Ev.pos (by omega) ?_
  refine Ev.pos (by omega) ?_
  rw [wsucc (by omega)]
  refine Ev.bind (eqSpot_ev _ _ ) ?_
  refine Ev.pos rfl ?_
  exact ih (i + 1) (by omega)
theorem eqSpotS_ev (l : List S188) (ho : l.length ≤ 140737488351232) : Ev (fun k => laws_eqSpotS.f k l l) true := by
 unfold laws_eqSpotS.f
 refine Ev.pos rfl ?_
 exact eqSpotS_l0 l ho l.length 0 (by omega)
noncomputable def mkSpotS : Int → List S188 → List S188
 | _, [] => []
 | m, _ :: r => (⟨(tx m), (m + 1)⟩ : S188) :: mkSpotS (m + 2) r
theorem rdm_SpotS (pre : List S188) (x : S188) (rest : List S188) : rd_T188 (pre ++ x :: rest) (pre.length : Int) = x := getD_mid pre x _ rest
theorem markSpotS_l0 : ∀ (rest pre : List S188) (m : Int), 1 ≤ m → (m + 2 * (rest.length : Int) ≤ 4611686018427387904 ∧ (pre.length : Int) + rest.length ≤ 4611686018427387904) → Ev (fun k => laws_markSpotS.l0 k (pre ++ rest) m (pre.length : Int)) (m + 2 * (rest.length : Int), pre ++ mkSpotS m rest)
 | [], pre, m, h0, h1 => by
  refine Ev.step (fun _ => rfl) ?_
  simp only [laws_markSpotS.l0]
  refine Ev.neg (by simp) ?_
  exact Ev.const (by simp [mkSpotS])
 | x :: rest, pre, m, h0, h1 => by
  simp only [List.length_cons, Int.natCast_add, Int.cast_ofNat_Int] at h1
  have hlen : (pre.length : Int) < 4611686018427387904 := by omega
  have hstep := markSpotS_l0 rest (pre ++ [(⟨(tx m), (m + 1)⟩ : S188)]) (m + 2) (by omega) (by simp only [List.length_append, List.length_singleton, Int.natCast_add]; omega)
  refine Ev.step (fun _ => rfl) ?_
  simp only [laws_markSpotS.l0]
  have hlt : (pre.length : Int) < ((pre ++ x :: rest).length : Int) := by simp; omega
  simp only [wrap_add1 (m := m) (by omega) (by omega), wrap_add2 (m := m) (by omega) (by omega), rdm_SpotS, set_mid]
  have w1 : wrap64 ((pre.length : Int) + 1) = (((pre ++ [(⟨(tx m), (m + 1)⟩ : S188)]).length : Nat) : Int) := by rw [w64 (by omega) (by omega)]; simp
  rw [w1]
  refine Ev.pos hlt ?_
  try first | with_reducible refine Ev.pos (Int.natCast_nonneg _) ?_ | with_reducible refine Ev.pos rfl ?_ | with_reducible refine Ev.pos trivial ?_ | with_reducible refine Ev.bind (tx_ev _ (by omega) (by omega)) ?_ | with_reducible refine Ev.bind (Ev.const rfl) ?_ | with_reducible refine Ev.neg (by simp) ?_
  try first | with_reducible refine Ev.pos (Int.natCast_nonneg _) ?_ | with_reducible refine Ev.pos rfl ?_ | with_reducible refine Ev.pos trivial ?_ | with_reducible refine Ev.bind (tx_ev _ (by omega) (by omega)) ?_ | with_reducible refine Ev.bind (Ev.const rfl) ?_ | with_reducible refine Ev.neg (by simp) ?_
  try first | with_reducible refine Ev.pos (Int.natCast_nonneg _) ?_ | with_reducible refine Ev.pos rfl ?_ | with_reducible refine Ev.pos trivial ?_ | with_reducible refine Ev.bind (tx_ev _ (by omega) (by omega)) ?_ | with_reducible refine Ev.bind (Ev.const rfl) ?_ | with_reducible refine Ev.neg (by simp) ?_
  try first | with_reducible refine Ev.pos (Int.natCast_nonneg _) ?_ | with_reducible refine Ev.pos rfl ?_ | with_reducible refine Ev.pos trivial ?_ | with_reducible refine Ev.bind (tx_ev _ (by omega) (by omega)) ?_ | with_reducible refine Ev.bind (Ev.const rfl) ?_ | with_reducible refine Ev.neg (by simp) ?_
  try first | with_reducible refine Ev.pos (Int.natCast_nonneg _) ?_ | with_reducible refine Ev.pos rfl ?_ | with_reducible refine Ev.pos trivial ?_ | with_reducible refine Ev.bind (tx_ev _ (by omega) (by omega)) ?_ | with_reducible refine Ev.bind (Ev.const rfl) ?_ | with_reducible refine Ev.neg (by simp) ?_
  try first | with_reducible refine Ev.pos (Int.natCast_nonneg _) ?_ | with_reducible refine Ev.pos rfl ?_ | with_reducible refine Ev.pos trivial ?_ | with_reducible refine Ev.bind (tx_ev _ (by omega) (by omega)) ?_ | with_reducible refine Ev.bind (Ev.const rfl) ?_ | with_reducible refine Ev.neg (by simp) ?_
  try first | with_reducible refine Ev.pos (Int.natCast_nonneg _) ?_ | with_reducible refine Ev.pos rfl ?_ | with_reducible refine Ev.pos trivial ?_ | with_reducible refine Ev.bind (tx_ev _ (by omega) (by omega)) ?_ | with_reducible refine Ev.bind (Ev.const rfl) ?_ | with_reducible refine Ev.neg (by simp) ?_
  try first | with_reducible refine Ev.pos (Int.natCast_nonneg _) ?_ | with_reducible refine Ev.pos rfl ?_ | with_reducible refine Ev.pos trivial ?_ | with_reducible refine Ev.bind (tx_ev _ (by omega) (by omega)) ?_ | with_reducible refine Ev.bind (Ev.const rfl) ?_ | with_reducible refine Ev.neg (by simp) ?_
  try first | with_reducible refine Ev.pos (Int.natCast_nonneg _) ?_ | with_reducible refine Ev.pos rfl ?_ | with_reducible refine Ev.pos trivial ?_ | with_reducible refine Ev.bind (tx_ev _ (by omega) (by omega)) ?_ | with_reducible refine Ev.bind (Ev.const rfl) ?_ | with_reducible refine Ev.neg (by simp) ?_
  try simp only [rdm_SpotS, set_mid]
  refine Ev.to (by simpa only [List.append_assoc, List.singleton_append] using hstep) ?_
  simp [mkSpotS, Int.natCast_add]; try omega
theorem markSpotS_ev (l : List S188) (m : Int) (h0 : 1 ≤ m) (h1 : m + 2 * (l.length : Int) ≤ 4611686018427387904) : Ev (fun k => laws_markSpotS.f k l m) (m + 2 * (l.length : Int), mkSpotS m l) := by
 unfold laws_markSpotS.f
 have h := markSpotS_l0 l [] m h0 ⟨h1, by simp; omega⟩
 simpa using h
def cvOp (x : S228) : S43 := ⟨x.f0, x.f1, x.f2⟩
instance decOp : DecidableEq S43 := fun a b => decidable_of_iff (a.f0 = b.f0 ∧ a.f1 = b.f1 ∧ a.f2 = b.f2) (by cases a; cases b; simp)
def szmOp (x : S228) : Nat := x.f1.size + x.f2.size
theorem szOp_ev (x0 : Int) (x1 : ByteArray) (x2 : ByteArray) (a : Int) (h0 : 0 ≤ a) (h1 : a ≤ 1048576) (o0 : x1.size ≤ 140737488351232) (o1 : x2.size ≤ 140737488351232) : Ev (fun k => laws_szOp.f x0 x1 x2 a) (left a (x1.size + x2.size)) := by
 unfold laws_szOp.f
 by_cases c0 : ((x1.size : Nat) : Int) ≤ a
 rotate_left
 ·rw [w64 (x := a - (x1.size : Int)) (by omega) (by omega)]
  refine Ev.pos (by omega) ?_
  exact Ev.const (congrArg some (left_neg (by omega)).symm)
 rw [w64 (x := a - (x1.size : Int)) (by omega) (by omega)]
 refine Ev.neg (by omega) ?_
 by_cases c1 : ((x2.size : Nat) : Int) ≤ a - (x1.size : Nat)
 rotate_left
 ·rw [w64 (x := a - (x1.size : Nat) - (x2.size : Int)) (by omega) (by omega)]
  refine Ev.pos (by omega) ?_
  exact Ev.const (congrArg some (left_neg (by omega)).symm)
 rw [w64 (x := a - (x1.size : Nat) - (x2.size : Int)) (by omega) (by omega)]
 refine Ev.neg (by omega) ?_
 exact Ev.const (by first | rfl | exact congrArg some (by rw [left_pos (by omega)] <;> omega))
theorem toOp_ev (x0 : Int) (x1 : ByteArray) (x2 : ByteArray)  : Ev (fun k => laws_toOp.f x0 x1 x2) (x0, x1, x2) := by
 unfold laws_toOp.f
 exact Ev.const rfl
theorem eqOp_ev (x0 : Int) (x1 : ByteArray) (x2 : ByteArray)  : Ev (fun k => laws_eqOp.f x0 x1 x2 x0 x1 x2) true := by
 unfold laws_eqOp.f
 refine Ev.pos rfl ?_
 refine Ev.pos rfl ?_
 refine Ev.pos rfl ?_
 exact Ev.const rfl
def szmOpS (l : List S228) : Nat := l.length + (l.map fun x => (szmOp x)).sum
theorem szOpS_l0 (l : List S228) (ho : okT152 l) : ∀ (d i : Nat) (a : Int), i + d = l.length → 0 ≤ a → a ≤ 1048576 → Ev (fun k => laws_szOpS.l0 k l a i) (left a ((l.drop i).map fun x => (szmOp x)).sum) := by
 have hl := ho.2
 intro d
 induction d with
 | zero =>
  intro i a hi h0 h1
  refine Ev.step (fun _ => rfl) ?_
  simp only [laws_szOpS.l0]
  refine Ev.neg (by omega) ?_
  rw [List.drop_of_length_le (by omega)]
  exact Ev.const (congrArg some (left_zero h0).symm)
 | succ d ih =>
  intro i a hi h0 h1
  have hlt : i < l.length := by omega
  have er : rd_T228 l (i : Int) = l[i] := getD_at hlt _
  have hok := ho.1 _ (List.getElem_mem hlt)
  refine Ev.step (fun _ => rfl) ?_
  simp only [laws_szOpS.l0]
  refine Ev.pos (by omega) ?_
  refine Ev.pos (by omega) ?_
  rw [er, drop_at hlt, List.map_cons, List.sum_cons, wsucc (by omega)]
  have hz : (szmOp l[i]) = (l[i]).f1.size + (l[i]).f2.size := rfl
  refine Ev.bind (szOp_ev (l[i]).f0 (l[i]).f1 (l[i]).f2 a h0 h1 hok.2.1 hok.2.2) ?_
  rw [← hz]
  by_cases c : (((szmOp l[i]) : Nat) : Int) ≤ a
  ·rw [left_pos c]
   refine Ev.neg (by omega) ?_
   refine Ev.to (ih (i + 1) (a - (szmOp l[i])) (by omega) (by omega) (by omega)) ?_
   exact left_add
  ·rw [left_neg c]
   refine Ev.pos (by omega) ?_
   exact Ev.const (congrArg some (left_neg_add c).symm)
theorem szOpS_ev (l : List S228) (a : Int) (h0 : 0 ≤ a) (h1 : a ≤ 1048576) (o : okT152 l) : Ev (fun k => laws_szOpS.f k l a) (left a (szmOpS l)) := by
 have ho := o.2
 unfold laws_szOpS.f szmOpS
 rw [w64 (by omega) (by omega)]
 by_cases c : (l.length : Int) ≤ a
 ·refine Ev.neg (by omega) ?_
  refine Ev.to (szOpS_l0 l o l.length 0 (a - l.length) (by omega) (by omega) (by omega)) ?_
  rw [List.drop_zero]
  exact left_add
 ·refine Ev.pos (by omega) ?_
  exact Ev.const (congrArg some (left_neg_add c).symm)
theorem toOpS_l0 (l : List S228) (ho : okT152 l) : ∀ (d i : Nat) (ys : List S43), i + d = l.length → ys.length = l.length → ys.take i = (l.take i).map cvOp → Ev (fun k => laws_toOpS.l0 k l ys i) (l.map cvOp) := by
 have hl := ho.2
 intro d
 induction d with
 | zero =>
  intro i ys hi hy ht
  refine Ev.step (fun _ => rfl) ?_
  simp only [laws_toOpS.l0]
  refine Ev.neg (by omega) ?_
  rw [List.take_of_length_le (by omega), List.take_of_length_le (by omega)] at ht
  exact Ev.const (congrArg some ht)
 | succ d ih =>
  intro i ys hi hy ht
  have hlt : i < l.length := by omega
  have er : rd_T228 l (i : Int) = l[i] := getD_at hlt _
  have hok := ho.1 _ (List.getElem_mem hlt)
  refine Ev.step (fun _ => rfl) ?_
  simp only [laws_toOpS.l0]
  refine Ev.pos (by omega) ?_
  refine Ev.pos (by omega) ?_
  rw [er, wsucc (by omega)]
  refine Ev.bind (toOp_ev (l[i]).f0 (l[i]).f1 (l[i]).f2 ) ?_
  refine Ev.pos (by omega) ?_
  exact ih (i + 1) _ (by omega) (by simp [hy]) (take_drop_set cvOp l ys hlt hy ht)
theorem toOpS_ev (l : List S228) (o : okT152 l) : Ev (fun k => laws_toOpS.f k l) (l.map cvOp) := by
 have ho := o.2
 unfold laws_toOpS.f
 rw [Int.toNat_natCast]
 refine Ev.pos (by omega) ?_
 refine Ev.pos (by omega) ?_
 refine Ev.to (toOpS_l0 l o l.length 0 _ (by omega) (by simp) (by simp)) ?_
 rfl
theorem eqOpS_l0 (l : List S43) (ho : l.length ≤ 140737488351232) : ∀ (d i : Nat), i + d = l.length → Ev (fun k => laws_eqOpS.l0 k l l i) true := by
 have hl : l.length ≤ 140737488351232 := ho
 intro d
 induction d with
 | zero =>
  intro i hi
  refine Ev.step (fun _ => rfl) ?_
  simp only [laws_eqOpS.l0]
  refine Ev.neg (by omega) ?_
  exact Ev.const rfl
 | succ d ih =>
  intro i hi
  refine Ev.step (fun _ => rfl) ?_
  simp only [laws_eqOpS.l0]
  refine Ev.pos (by omega) ?_
  refine Ev.pos (by omega) ?_
  refine Ev.pos (by omega) ?_
  rw [wsucc (by omega)]
  refine Ev.bind (eqOp_ev _ _ _ ) ?_
  refine Ev.pos rfl ?_
  exact ih (i + 1) (by omega)
theorem eqOpS_ev (l : List S43) (ho : l.length ≤ 140737488351232) : Ev (fun k => laws_eqOpS.f k l l) true := by
 unfold laws_eqOpS.f
 refine Ev.pos rfl ?_
 exact eqOpS_l0 l ho l.length 0 (by omega)
noncomputable def mkOpS : Int → List S43 → List S43
 | _, [] => []
 | m, _ :: r => (⟨m, (tx (m + 1)), (tx (m + 2))⟩ : S43) :: mkOpS (m + 3) r
theorem rdm_OpS (pre : List S43) (x : S43) (rest : List S43) : rd_T43 (pre ++ x :: rest) (pre.length : Int) = x := getD_mid pre x _ rest
theorem markOpS_l0 : ∀ (rest pre : List S43) (m : Int), 1 ≤ m → (m + 3 * (rest.length : Int) ≤ 4611686018427387904 ∧ (pre.length : Int) + rest.length ≤ 4611686018427387904) → Ev (fun k => laws_markOpS.l0 k (pre ++ rest) m (pre.length : Int)) (m + 3 * (rest.length : Int), pre ++ mkOpS m rest)
 | [], pre, m, h0, h1 => by
  refine Ev.step (fun _ => rfl) ?_
  simp only [laws_markOpS.l0]
  refine Ev.neg (by simp) ?_
  exact Ev.const (by simp [mkOpS])
 | x :: rest, pre, m, h0, h1 => by
  simp only [List.length_cons, Int.natCast_add, Int.cast_ofNat_Int] at h1
  have hlen : (pre.length : Int) < 4611686018427387904 := by omega
  have hstep := markOpS_l0 rest (pre ++ [(⟨m, (tx (m + 1)), (tx (m + 2))⟩ : S43)]) (m + 3) (by omega) (by simp only [List.length_append, List.length_singleton, Int.natCast_add]; omega)
  refine Ev.step (fun _ => rfl) ?_
  simp only [laws_markOpS.l0]
  have hlt : (pre.length : Int) < ((pre ++ x :: rest).length : Int) := by simp; omega
  simp only [wrap_add1 (m := m) (by omega) (by omega), wrap_add2 (m := m) (by omega) (by omega), wrap_add3 (m := m) (by omega) (by omega), rdm_OpS, set_mid]
  have w1 : wrap64 ((pre.length : Int) + 1) = (((pre ++ [(⟨m, (tx (m + 1)), (tx (m + 2))⟩ : S43)]).length : Nat) : Int) := by rw [w64 (by omega) (by omega)]; simp
  rw [w1]
  refine Ev.pos hlt ?_
  try first | with_reducible refine Ev.pos (Int.natCast_nonneg _) ?_ | with_reducible refine Ev.pos rfl ?_ | with_reducible refine Ev.pos trivial ?_ | with_reducible refine Ev.bind (tx_ev _ (by omega) (by omega)) ?_ | with_reducible refine Ev.bind (Ev.const rfl) ?_ | with_reducible refine Ev.neg (by simp) ?_
  try first | with_reducible refine Ev.pos (Int.natCast_nonneg _) ?_ | with_reducible refine Ev.pos rfl ?_ | with_reducible refine Ev.pos trivial ?_ | with_reducible refine Ev.bind (tx_ev _ (by omega) (by omega)) ?_ | with_reducible refine Ev.bind (Ev.const rfl) ?_ | with_reducible refine Ev.neg (by simp) ?_
  try first | with_reducible refine Ev.pos (Int.natCast_nonneg _) ?_ | with_reducible refine Ev.pos rfl ?_ | with_reducible refine Ev.pos trivial ?_ | with_reducible refine Ev.bind (tx_ev _ (by omega) (by omega)) ?_ | with_reducible refine Ev.bind (Ev.const rfl) ?_ | with_reducible refine Ev.neg (by simp) ?_
  try first | with_reducible refine Ev.pos (Int.natCast_nonneg _) ?_ | with_reducible refine Ev.pos rfl ?_ | with_reducible refine Ev.pos trivial ?_ | with_reducible refine Ev.bind (tx_ev _ (by omega) (by omega)) ?_ | with_reducible refine Ev.bind (Ev.const rfl) ?_ | with_reducible refine Ev.neg (by simp) ?_
  try first | with_reducible refine Ev.pos (Int.natCast_nonneg _) ?_ | with_reducible refine Ev.pos rfl ?_ | with_reducible refine Ev.pos trivial ?_ | with_reducible refine Ev.bind (tx_ev _ (by omega) (by omega)) ?_ | with_reducible refine Ev.bind (Ev.const rfl) ?_ | with_reducible refine Ev.neg (by simp) ?_
  try first | with_reducible refine Ev.pos (Int.natCast_nonneg _) ?_ | with_reducible refine Ev.pos rfl ?_ | with_reducible refine Ev.pos trivial ?_ | with_reducible refine Ev.bind (tx_ev _ (by omega) (by omega)) ?_ | with_reducible refine Ev.bind (Ev.const rfl) ?_ | with_reducible refine Ev.neg (by simp) ?_
  try first | with_reducible refine Ev.pos (Int.natCast_nonneg _) ?_ | with_reducible refine Ev.pos rfl ?_ | with_reducible refine Ev.pos trivial ?_ | with_reducible refine Ev.bind (tx_ev _ (by omega) (by omega)) ?_ | with_reducible refine Ev.bind (Ev.const rfl) ?_ | with_reducible refine Ev.neg (by simp) ?_
  try first | with_reducible refine Ev.pos (Int.natCast_nonneg _) ?_ | with_reducible refine Ev.pos rfl ?_ | with_reducible refine Ev.pos trivial ?_ | with_reducible refine Ev.bind (tx_ev _ (by omega) (by omega)) ?_ | with_reducible refine Ev.bind (Ev.const rfl) ?_ | with_reducible refine Ev.neg (by simp) ?_
  try first | with_reducible refine Ev.pos (Int.natCast_nonneg _) ?_ | with_reducible refine Ev.pos rfl ?_ | with_reducible refine Ev.pos trivial ?_ | with_reducible refine Ev.bind (tx_ev _ (by omega) (by omega)) ?_ | with_reducible refine Ev.bind (Ev.const rfl) ?_ | with_reducible refine Ev.neg (by simp) ?_
  try first | with_reducible refine Ev.pos (Int.natCast_nonneg _) ?_ | with_reducible refine Ev.pos rfl ?_ | with_reducible refine Ev.pos trivial ?_ | with_reducible refine Ev.bind (tx_ev _ (by omega) (by omega)) ?_ | with_reducible refine Ev.bind (Ev.const rfl) ?_ | with_reducible refine Ev.neg (by simp) ?_
  try first | with_reducible refine Ev.pos (Int.natCast_nonneg _) ?_ | with_reducible refine Ev.pos rfl ?_ | with_reducible refine Ev.pos trivial ?_ | with_reducible refine Ev.bind (tx_ev _ (by omega) (by omega)) ?_ | with_reducible refine Ev.bind (Ev.const rfl) ?_ | with_reducible refine Ev.neg (by simp) ?_
  try first | with_reducible refine Ev.pos (Int.natCast_nonneg _) ?_ | with_reducible refine Ev.pos rfl ?_ | with_reducible refine Ev.pos trivial ?_ | with_reducible refine Ev.bind (tx_ev _ (by omega) (by omega)) ?_ | with_reducible refine Ev.bind (Ev.const rfl) ?_ | with_reducible refine Ev.neg (by simp) ?_
  try simp only [rdm_OpS, set_mid]
  refine Ev.to (by simpa only [List.append_assoc, List.singleton_append] using hstep) ?_
  simp [mkOpS, Int.natCast_add]; try omega
theorem markOpS_ev (l : List S43) (m : Int) (h0 : 1 ≤ m) (h1 : m + 3 * (l.length : Int) ≤ 4611686018427387904) : Ev (fun k => laws_markOpS.f k l m) (m + 3 * (l.length : Int), mkOpS m l) := by
 unfold laws_markOpS.f
 have h := markOpS_l0 l [] m h0 ⟨h1, by simp; omega⟩
 simpa using h
def cvReply (x : S230) : S150 := ⟨x.f0, x.f1, x.f2⟩
instance decReply : DecidableEq S150 := fun a b => decidable_of_iff (a.f0 = b.f0 ∧ a.f1 = b.f1 ∧ a.f2 = b.f2) (by cases a; cases b; simp)
def szmReply (x : S230) : Nat := x.f1.size + x.f2.size
theorem szReply_ev (x0 : Bool) (x1 : ByteArray) (x2 : ByteArray) (a : Int) (h0 : 0 ≤ a) (h1 : a ≤ 1048576) (o0 : x1.size ≤ 140737488351232) (o1 : x2.size ≤ 140737488351232) : Ev (fun k => laws_szReply.f x0 x1 x2 a) (left a (x1.size + x2.size)) := by
 unfold laws_szReply.f
 by_cases c0 : ((x1.size : Nat) : Int) ≤ a
 rotate_left
 ·rw [w64 (x := a - (x1.size : Int)) (by omega) (by omega)]
  refine Ev.pos (by omega) ?_
  exact Ev.const (congrArg some (left_neg (by omega)).symm)
 rw [w64 (x := a - (x1.size : Int)) (by omega) (by omega)]
 refine Ev.neg (by omega) ?_
 by_cases c1 : ((x2.size : Nat) : Int) ≤ a - (x1.size : Nat)
 rotate_left
 ·rw [w64 (x := a - (x1.size : Nat) - (x2.size : Int)) (by omega) (by omega)]
  refine Ev.pos (by omega) ?_
  exact Ev.const (congrArg some (left_neg (by omega)).symm)
 rw [w64 (x := a - (x1.size : Nat) - (x2.size : Int)) (by omega) (by omega)]
 refine Ev.neg (by omega) ?_
 exact Ev.const (by first | rfl | exact congrArg some (by rw [left_pos (by omega)] <;> omega))
theorem toReply_ev (x0 : Bool) (x1 : ByteArray) (x2 : ByteArray)  : Ev (fun k => laws_toReply.f x0 x1 x2) (x0, x1, x2) := by
 unfold laws_toReply.f
 exact Ev.const rfl
theorem eqReply_ev (x0 : Bool) (x1 : ByteArray) (x2 : ByteArray)  : Ev (fun k => laws_eqReply.f x0 x1 x2 x0 x1 x2) true := by
 unfold laws_eqReply.f
 refine Ev.neg (by simp) ?_
 refine Ev.pos rfl ?_
 refine Ev.pos rfl ?_
 exact Ev.const rfl
def szmReplyS (l : List S230) : Nat := l.length + (l.map fun x => (szmReply x)).sum
theorem szReplyS_l0 (l : List S230) (ho : okT153 l) : ∀ (d i : Nat) (a : Int), i + d = l.length → 0 ≤ a → a ≤ 1048576 → Ev (fun k => laws_szReplyS.l0 k l a i) (left a ((l.drop i).map fun x => (szmReply x)).sum) := by
 have hl := ho.2
 intro d
 induction d with
 | zero =>
  intro i a hi h0 h1
  refine Ev.step (fun _ => rfl) ?_
  simp only [laws_szReplyS.l0]
  refine Ev.neg (by omega) ?_
  rw [List.drop_of_length_le (by omega)]
  exact Ev.const (congrArg some (left_zero h0).symm)
 | succ d ih =>
  intro i a hi h0 h1
  have hlt : i < l.length := by omega
  have er : rd_T230 l (i : Int) = l[i] := getD_at hlt _
  have hok := ho.1 _ (List.getElem_mem hlt)
  refine Ev.step (fun _ => rfl) ?_
  simp only [laws_szReplyS.l0]
  refine Ev.pos (by omega) ?_
  refine Ev.pos (by omega) ?_
  rw [er, drop_at hlt, List.map_cons, List.sum_cons, wsucc (by omega)]
  have hz : (szmReply l[i]) = (l[i]).f1.size + (l[i]).f2.size := rfl
  refine Ev.bind (szReply_ev (l[i]).f0 (l[i]).f1 (l[i]).f2 a h0 h1 hok.2.1 hok.2.2) ?_
  rw [← hz]
  by_cases c : (((szmReply l[i]) : Nat) : Int) ≤ a
  ·rw [left_pos c]
   refine Ev.neg (by omega) ?_
   refine Ev.to (ih (i + 1) (a - (szmReply l[i])) (by omega) (by omega) (by omega)) ?_
   exact left_add
  ·rw [left_neg c]
   refine Ev.pos (by omega) ?_
   exact Ev.const (congrArg some (left_neg_add c).symm)
theorem szReplyS_ev (l : List S230) (a : Int) (h0 : 0 ≤ a) (h1 : a ≤ 1048576) (o : okT153 l) : Ev (fun k => laws_szReplyS.f k l a) (left a (szmReplyS l)) := by
 have ho := o.2
 unfold laws_szReplyS.f szmReplyS
 rw [w64 (by omega) (by omega)]
 by_cases c : (l.length : Int) ≤ a
 ·refine Ev.neg (by omega) ?_
  refine Ev.to (szReplyS_l0 l o l.length 0 (a - l.length) (by omega) (by omega) (by omega)) ?_
  rw [List.drop_zero]
  exact left_add
 ·refine Ev.pos (by omega) ?_
  exact Ev.const (congrArg some (left_neg_add c).symm)
theorem toReplyS_l0 (l : List S230) (ho : okT153 l) : ∀ (d i : Nat) (ys : List S150), i + d = l.length → ys.length = l.length → ys.take i = (l.take i).map cvReply → Ev (fun k => laws_toReplyS.l0 k l ys i) (l.map cvReply) := by
 have hl := ho.2
 intro d
 induction d with
 | zero =>
  intro i ys hi hy ht
  refine Ev.step (fun _ => rfl) ?_
  simp only [laws_toReplyS.l0]
  refine Ev.neg (by omega) ?_
  rw [List.take_of_length_le (by omega), List.take_of_length_le (by omega)] at ht
  exact Ev.const (congrArg some ht)
 | succ d ih =>
  intro i ys hi hy ht
  have hlt : i < l.length := by omega
  have er : rd_T230 l (i : Int) = l[i] := getD_at hlt _
  have hok := ho.1 _ (List.getElem_mem hlt)
  refine Ev.step (fun _ => rfl) ?_
  simp only [laws_toReplyS.l0]
  refine Ev.pos (by omega) ?_
  refine Ev.pos (by omega) ?_
  rw [er, wsucc (by omega)]
  refine Ev.bind (toReply_ev (l[i]).f0 (l[i]).f1 (l[i]).f2 ) ?_
  refine Ev.pos (by omega) ?_
  exact ih (i + 1) _ (by omega) (by simp [hy]) (take_drop_set cvReply l ys hlt hy ht)
theorem toReplyS_ev (l : List S230) (o : okT153 l) : Ev (fun k => laws_toReplyS.f k l) (l.map cvReply) := by
 have ho := o.2
 unfold laws_toReplyS.f
 rw [Int.toNat_natCast]
 refine Ev.pos (by omega) ?_
 refine Ev.pos (by omega) ?_
 refine Ev.to (toReplyS_l0 l o l.length 0 _ (by omega) (by simp) (by simp)) ?_
 rfl
theorem eqReplyS_l0 (l : List S150) (ho : l.length ≤ 140737488351232) : ∀ (d i : Nat), i + d = l.length → Ev (fun k => laws_eqReplyS.l0 k l l i) true := by
 have hl : l.length ≤ 140737488351232 := ho
 intro d
 induction d with
 | zero =>
  intro i hi
  refine Ev.step (fun _ => rfl) ?_
  simp only [laws_eqReplyS.l0]
  refine Ev.neg (by omega) ?_
  exact Ev.const rfl
 | succ d ih =>
  intro i hi
  refine Ev.step (fun _ => rfl) ?_
  simp only [laws_eqReplyS.l0]
  refine Ev.pos (by omega) ?_
  refine Ev.pos (by omega) ?_
  refine Ev.pos (by omega) ?_
  rw [wsucc (by omega)]
  refine Ev.bind (eqReply_ev _ _ _ ) ?_
  refine Ev.pos rfl ?_
  exact ih (i + 1) (by omega)
theorem eqReplyS_ev (l : List S150) (ho : l.length ≤ 140737488351232) : Ev (fun k => laws_eqReplyS.f k l l) true := by
 unfold laws_eqReplyS.f
 refine Ev.pos rfl ?_
 exact eqReplyS_l0 l ho l.length 0 (by omega)
noncomputable def mkReplyS : Int → List S150 → List S150
 | _, [] => []
 | m, _ :: r => (⟨(Int.tmod m 3 == 0), (tx (m + 1)), (tx (m + 2))⟩ : S150) :: mkReplyS (m + 3) r
theorem rdm_ReplyS (pre : List S150) (x : S150) (rest : List S150) : rd_T150 (pre ++ x :: rest) (pre.length : Int) = x := getD_mid pre x _ rest
theorem markReplyS_l0 : ∀ (rest pre : List S150) (m : Int), 1 ≤ m → (m + 3 * (rest.length : Int) ≤ 4611686018427387904 ∧ (pre.length : Int) + rest.length ≤ 4611686018427387904) → Ev (fun k => laws_markReplyS.l0 k (pre ++ rest) m (pre.length : Int)) (m + 3 * (rest.length : Int), pre ++ mkReplyS m rest)
 | [], pre, m, h0, h1 => by
  refine Ev.step (fun _ => rfl) ?_
  simp only [laws_markReplyS.l0]
  refine Ev.neg (by simp) ?_
  exact Ev.const (by simp [mkReplyS])
 | x :: rest, pre, m, h0, h1 => by
  simp only [List.length_cons, Int.natCast_add, Int.cast_ofNat_Int] at h1
  have hlen : (pre.length : Int) < 4611686018427387904 := by omega
  have hstep := markReplyS_l0 rest (pre ++ [(⟨(Int.tmod m 3 == 0), (tx (m + 1)), (tx (m + 2))⟩ : S150)]) (m + 3) (by omega) (by simp only [List.length_append, List.length_singleton, Int.natCast_add]; omega)
  refine Ev.step (fun _ => rfl) ?_
  simp only [laws_markReplyS.l0]
  have hlt : (pre.length : Int) < ((pre ++ x :: rest).length : Int) := by simp; omega
  simp only [wrap_add1 (m := m) (by omega) (by omega), wrap_add2 (m := m) (by omega) (by omega), wrap_add3 (m := m) (by omega) (by omega), rdm_ReplyS, set_mid]
  have w1 : wrap64 ((pre.length : Int) + 1) = (((pre ++ [(⟨(Int.tmod m 3 == 0), (tx (m + 1)), (tx (m + 2))⟩ : S150)]).length : Nat) : Int) := by rw [w64 (by omega) (by omega)]; simp
  rw [w1]
  refine Ev.pos hlt ?_
  try first | with_reducible refine Ev.pos (Int.natCast_nonneg _) ?_ | with_reducible refine Ev.pos rfl ?_ | with_reducible refine Ev.pos trivial ?_ | with_reducible refine Ev.bind (tx_ev _ (by omega) (by omega)) ?_ | with_reducible refine Ev.bind (Ev.const rfl) ?_ | with_reducible refine Ev.neg (by simp) ?_
  try first | with_reducible refine Ev.pos (Int.natCast_nonneg _) ?_ | with_reducible refine Ev.pos rfl ?_ | with_reducible refine Ev.pos trivial ?_ | with_reducible refine Ev.bind (tx_ev _ (by omega) (by omega)) ?_ | with_reducible refine Ev.bind (Ev.const rfl) ?_ | with_reducible refine Ev.neg (by simp) ?_
  try first | with_reducible refine Ev.pos (Int.natCast_nonneg _) ?_ | with_reducible refine Ev.pos rfl ?_ | with_reducible refine Ev.pos trivial ?_ | with_reducible refine Ev.bind (tx_ev _ (by omega) (by omega)) ?_ | with_reducible refine Ev.bind (Ev.const rfl) ?_ | with_reducible refine Ev.neg (by simp) ?_
  try first | with_reducible refine Ev.pos (Int.natCast_nonneg _) ?_ | with_reducible refine Ev.pos rfl ?_ | with_reducible refine Ev.pos trivial ?_ | with_reducible refine Ev.bind (tx_ev _ (by omega) (by omega)) ?_ | with_reducible refine Ev.bind (Ev.const rfl) ?_ | with_reducible refine Ev.neg (by simp) ?_
  try first | with_reducible refine Ev.pos (Int.natCast_nonneg _) ?_ | with_reducible refine Ev.pos rfl ?_ | with_reducible refine Ev.pos trivial ?_ | with_reducible refine Ev.bind (tx_ev _ (by omega) (by omega)) ?_ | with_reducible refine Ev.bind (Ev.const rfl) ?_ | with_reducible refine Ev.neg (by simp) ?_
  try first | with_reducible refine Ev.pos (Int.natCast_nonneg _) ?_ | with_reducible refine Ev.pos rfl ?_ | with_reducible refine Ev.pos trivial ?_ | with_reducible refine Ev.bind (tx_ev _ (by omega) (by omega)) ?_ | with_reducible refine Ev.bind (Ev.const rfl) ?_ | with_reducible refine Ev.neg (by simp) ?_
  try first | with_reducible refine Ev.pos (Int.natCast_nonneg _) ?_ | with_reducible refine Ev.pos rfl ?_ | with_reducible refine Ev.pos trivial ?_ | with_reducible refine Ev.bind (tx_ev _ (by omega) (by omega)) ?_ | with_reducible refine Ev.bind (Ev.const rfl) ?_ | with_reducible refine Ev.neg (by simp) ?_
  try first | with_reducible refine Ev.pos (Int.natCast_nonneg _) ?_ | with_reducible refine Ev.pos rfl ?_ | with_reducible refine Ev.pos trivial ?_ | with_reducible refine Ev.bind (tx_ev _ (by omega) (by omega)) ?_ | with_reducible refine Ev.bind (Ev.const rfl) ?_ | with_reducible refine Ev.neg (by simp) ?_
  try first | with_reducible refine Ev.pos (Int.natCast_nonneg _) ?_ | with_reducible refine Ev.pos rfl ?_ | with_reducible refine Ev.pos trivial ?_ | with_reducible refine Ev.bind (tx_ev _ (by omega) (by omega)) ?_ | with_reducible refine Ev.bind (Ev.const rfl) ?_ | with_reducible refine Ev.neg (by simp) ?_
  try first | with_reducible refine Ev.pos (Int.natCast_nonneg _) ?_ | with_reducible refine Ev.pos rfl ?_ | with_reducible refine Ev.pos trivial ?_ | with_reducible refine Ev.bind (tx_ev _ (by omega) (by omega)) ?_ | with_reducible refine Ev.bind (Ev.const rfl) ?_ | with_reducible refine Ev.neg (by simp) ?_
  try first | with_reducible refine Ev.pos (Int.natCast_nonneg _) ?_ | with_reducible refine Ev.pos rfl ?_ | with_reducible refine Ev.pos trivial ?_ | with_reducible refine Ev.bind (tx_ev _ (by omega) (by omega)) ?_ | with_reducible refine Ev.bind (Ev.const rfl) ?_ | with_reducible refine Ev.neg (by simp) ?_
  try first | with_reducible refine Ev.pos (Int.natCast_nonneg _) ?_ | with_reducible refine Ev.pos rfl ?_ | with_reducible refine Ev.pos trivial ?_ | with_reducible refine Ev.bind (tx_ev _ (by omega) (by omega)) ?_ | with_reducible refine Ev.bind (Ev.const rfl) ?_ | with_reducible refine Ev.neg (by simp) ?_
  try simp only [rdm_ReplyS, set_mid]
  refine Ev.to (by simpa only [List.append_assoc, List.singleton_append] using hstep) ?_
  simp [mkReplyS, Int.natCast_add]; try omega
theorem heldReplyS_l0 : ∀ (rest pre : List S150) (m : Int), 1 ≤ m → (m + 3 * (rest.length : Int) ≤ 4611686018427387904 ∧ (pre.length : Int) + rest.length ≤ 4611686018427387904) → Ev (fun k => laws_heldReplyS.l0 k (pre ++ mkReplyS m rest) m (pre.length : Int)) (m + 3 * (rest.length : Int))
 | [], pre, m, h0, h1 => by
  refine Ev.step (fun _ => rfl) ?_
  simp only [laws_heldReplyS.l0]
  refine Ev.neg (by simp [mkReplyS]) ?_
  exact Ev.const (by simp)
 | x :: rest, pre, m, h0, h1 => by
  simp only [List.length_cons, Int.natCast_add, Int.cast_ofNat_Int] at h1
  have hlen : (pre.length : Int) < 4611686018427387904 := by omega
  have hstep := heldReplyS_l0 rest (pre ++ [(⟨(Int.tmod m 3 == 0), (tx (m + 1)), (tx (m + 2))⟩ : S150)]) (m + 3) (by omega) (by simp only [List.length_append, List.length_singleton, Int.natCast_add]; omega)
  refine Ev.step (fun _ => rfl) ?_
  simp only [laws_heldReplyS.l0, mkReplyS]
  have hlt : (pre.length : Int) < ((pre ++ (⟨(Int.tmod m 3 == 0), (tx (m + 1)), (tx (m + 2))⟩ : S150) :: mkReplyS (m + 3) rest).length : Int) := by simp; omega
  simp only [wrap_add1 (m := m) (by omega) (by omega), wrap_add2 (m := m) (by omega) (by omega), wrap_add3 (m := m) (by omega) (by omega), rdm_ReplyS, set_mid]
  have w1 : wrap64 ((pre.length : Int) + 1) = (((pre ++ [(⟨(Int.tmod m 3 == 0), (tx (m + 1)), (tx (m + 2))⟩ : S150)]).length : Nat) : Int) := by rw [w64 (by omega) (by omega)]; simp
  rw [w1]
  refine Ev.pos hlt ?_
  try first | with_reducible refine Ev.pos (Int.natCast_nonneg _) ?_ | with_reducible refine Ev.pos rfl ?_ | with_reducible refine Ev.pos trivial ?_ | with_reducible refine Ev.bind (tx_ev _ (by omega) (by omega)) ?_ | with_reducible refine Ev.bind (Ev.const rfl) ?_ | with_reducible refine Ev.neg (by simp) ?_
  try first | with_reducible refine Ev.pos (Int.natCast_nonneg _) ?_ | with_reducible refine Ev.pos rfl ?_ | with_reducible refine Ev.pos trivial ?_ | with_reducible refine Ev.bind (tx_ev _ (by omega) (by omega)) ?_ | with_reducible refine Ev.bind (Ev.const rfl) ?_ | with_reducible refine Ev.neg (by simp) ?_
  try first | with_reducible refine Ev.pos (Int.natCast_nonneg _) ?_ | with_reducible refine Ev.pos rfl ?_ | with_reducible refine Ev.pos trivial ?_ | with_reducible refine Ev.bind (tx_ev _ (by omega) (by omega)) ?_ | with_reducible refine Ev.bind (Ev.const rfl) ?_ | with_reducible refine Ev.neg (by simp) ?_
  try first | with_reducible refine Ev.pos (Int.natCast_nonneg _) ?_ | with_reducible refine Ev.pos rfl ?_ | with_reducible refine Ev.pos trivial ?_ | with_reducible refine Ev.bind (tx_ev _ (by omega) (by omega)) ?_ | with_reducible refine Ev.bind (Ev.const rfl) ?_ | with_reducible refine Ev.neg (by simp) ?_
  try first | with_reducible refine Ev.pos (Int.natCast_nonneg _) ?_ | with_reducible refine Ev.pos rfl ?_ | with_reducible refine Ev.pos trivial ?_ | with_reducible refine Ev.bind (tx_ev _ (by omega) (by omega)) ?_ | with_reducible refine Ev.bind (Ev.const rfl) ?_ | with_reducible refine Ev.neg (by simp) ?_
  try first | with_reducible refine Ev.pos (Int.natCast_nonneg _) ?_ | with_reducible refine Ev.pos rfl ?_ | with_reducible refine Ev.pos trivial ?_ | with_reducible refine Ev.bind (tx_ev _ (by omega) (by omega)) ?_ | with_reducible refine Ev.bind (Ev.const rfl) ?_ | with_reducible refine Ev.neg (by simp) ?_
  try first | with_reducible refine Ev.pos (Int.natCast_nonneg _) ?_ | with_reducible refine Ev.pos rfl ?_ | with_reducible refine Ev.pos trivial ?_ | with_reducible refine Ev.bind (tx_ev _ (by omega) (by omega)) ?_ | with_reducible refine Ev.bind (Ev.const rfl) ?_ | with_reducible refine Ev.neg (by simp) ?_
  try first | with_reducible refine Ev.pos (Int.natCast_nonneg _) ?_ | with_reducible refine Ev.pos rfl ?_ | with_reducible refine Ev.pos trivial ?_ | with_reducible refine Ev.bind (tx_ev _ (by omega) (by omega)) ?_ | with_reducible refine Ev.bind (Ev.const rfl) ?_ | with_reducible refine Ev.neg (by simp) ?_
  try first | with_reducible refine Ev.pos (Int.natCast_nonneg _) ?_ | with_reducible refine Ev.pos rfl ?_ | with_reducible refine Ev.pos trivial ?_ | with_reducible refine Ev.bind (tx_ev _ (by omega) (by omega)) ?_ | with_reducible refine Ev.bind (Ev.const rfl) ?_ | with_reducible refine Ev.neg (by simp) ?_
  try first | with_reducible refine Ev.pos (Int.natCast_nonneg _) ?_ | with_reducible refine Ev.pos rfl ?_ | with_reducible refine Ev.pos trivial ?_ | with_reducible refine Ev.bind (tx_ev _ (by omega) (by omega)) ?_ | with_reducible refine Ev.bind (Ev.const rfl) ?_ | with_reducible refine Ev.neg (by simp) ?_
  try first | with_reducible refine Ev.pos (Int.natCast_nonneg _) ?_ | with_reducible refine Ev.pos rfl ?_ | with_reducible refine Ev.pos trivial ?_ | with_reducible refine Ev.bind (tx_ev _ (by omega) (by omega)) ?_ | with_reducible refine Ev.bind (Ev.const rfl) ?_ | with_reducible refine Ev.neg (by simp) ?_
  try first | with_reducible refine Ev.pos (Int.natCast_nonneg _) ?_ | with_reducible refine Ev.pos rfl ?_ | with_reducible refine Ev.pos trivial ?_ | with_reducible refine Ev.bind (tx_ev _ (by omega) (by omega)) ?_ | with_reducible refine Ev.bind (Ev.const rfl) ?_ | with_reducible refine Ev.neg (by simp) ?_
  try simp only [rdm_ReplyS, set_mid]
  refine Ev.to (by simpa only [List.append_assoc, List.singleton_append] using hstep) ?_
  simp [Int.natCast_add]; try omega
theorem markReplyS_ev (l : List S150) (m : Int) (h0 : 1 ≤ m) (h1 : m + 3 * (l.length : Int) ≤ 4611686018427387904) : Ev (fun k => laws_markReplyS.f k l m) (m + 3 * (l.length : Int), mkReplyS m l) := by
 unfold laws_markReplyS.f
 have h := markReplyS_l0 l [] m h0 ⟨h1, by simp; omega⟩
 simpa using h
theorem heldReplyS_ev (l : List S150) (m : Int) (h0 : 1 ≤ m) (h1 : m + 3 * (l.length : Int) ≤ 4611686018427387904) : Ev (fun k => laws_heldReplyS.f k (mkReplyS m l) m) (m + 3 * (l.length : Int)) := by
 unfold laws_heldReplyS.f
 have h := heldReplyS_l0 l [] m h0 ⟨h1, by simp; omega⟩
 simpa using h
def cvUser (x : S155) : S135 := ⟨(x.f0.map cvOp), x.f1, x.f2, x.f3, (x.f4.map cvReply)⟩
instance decUser : DecidableEq S135 := fun a b => decidable_of_iff (a.f0 = b.f0 ∧ a.f1 = b.f1 ∧ a.f2 = b.f2 ∧ a.f3 = b.f3 ∧ a.f4 = b.f4) (by cases a; cases b; simp)
def szmUser (x : S155) : Nat := szmOpS x.f0 + szmReplyS x.f4
theorem szUser_ev (x0 : List S228) (x1 : Int) (x2 : Int) (x3 : Int) (x4 : List S230) (a : Int) (h0 : 0 ≤ a) (h1 : a ≤ 1048576) (o0 : okT152 x0) (o1 : okT153 x4) : Ev (fun k => laws_szUser.f k x0 x1 x2 x3 x4 a) (left a (szmOpS x0 + szmReplyS x4)) := by
 unfold laws_szUser.f
 refine Ev.bind (szOpS_ev x0 a (by omega) (by omega) o0) ?_
 by_cases c0 : ((szmOpS x0 : Nat) : Int) ≤ a
 rotate_left
 ·rw [left_neg c0]
  refine Ev.pos (by omega) ?_
  exact Ev.const (by first | rfl | exact congrArg some (left_neg (by omega)).symm)
 rw [left_pos c0]
 refine Ev.neg (by omega) ?_
 refine Ev.bind (szReplyS_ev x4 (a - (szmOpS x0 : Nat)) (by omega) (by omega) o1) ?_
 by_cases c1 : ((szmReplyS x4 : Nat) : Int) ≤ a - (szmOpS x0 : Nat)
 rotate_left
 ·rw [left_neg c1]
  refine Ev.pos (by omega) ?_
  exact Ev.const (by first | rfl | exact congrArg some (left_neg (by omega)).symm)
 rw [left_pos c1]
 refine Ev.neg (by omega) ?_
 exact Ev.const (by first | rfl | exact congrArg some (by rw [left_pos (by omega)] <;> omega))
theorem toUser_ev (x0 : List S228) (x1 : Int) (x2 : Int) (x3 : Int) (x4 : List S230) (o_x0 : okT152 x0) (o_x4 : okT153 x4) : Ev (fun k => laws_toUser.f k x0 x1 x2 x3 x4) ((x0.map cvOp), x1, x2, x3, (x4.map cvReply)) := by
 unfold laws_toUser.f
 refine Ev.bind (toOpS_ev x0 o_x0) ?_
 refine Ev.bind (toReplyS_ev x4 o_x4) ?_
 exact Ev.const rfl
theorem eqUser_ev (x0 : List S43) (x1 : Int) (x2 : Int) (x3 : Int) (x4 : List S150) (o_x0 : x0.length ≤ 140737488351232) (o_x4 : x4.length ≤ 140737488351232) : Ev (fun k => laws_eqUser.f k x0 x1 x2 x3 x4 x0 x1 x2 x3 x4) true := by
 unfold laws_eqUser.f
 refine Ev.bind (eqOpS_ev x0 o_x0) ?_
 refine Ev.pos rfl ?_
 refine Ev.pos rfl ?_
 refine Ev.pos rfl ?_
 refine Ev.pos rfl ?_
 refine Ev.bind (eqReplyS_ev x4 o_x4) ?_
 refine Ev.pos rfl ?_
 exact Ev.const rfl
def szmUserS (l : List S155) : Nat := l.length + (l.map fun x => (szmUser x)).sum
theorem szUserS_l0 (l : List S155) (ho : okT67 l) : ∀ (d i : Nat) (a : Int), i + d = l.length → 0 ≤ a → a ≤ 1048576 → Ev (fun k => laws_szUserS.l0 k l a i) (left a ((l.drop i).map fun x => (szmUser x)).sum) := by
 have hl := ho.2
 intro d
 induction d with
 | zero =>
  intro i a hi h0 h1
  refine Ev.step (fun _ => rfl) ?_
  simp only [laws_szUserS.l0]
  refine Ev.neg (by omega) ?_
  rw [List.drop_of_length_le (by omega)]
  exact Ev.const (congrArg some (left_zero h0).symm)
 | succ d ih =>
  intro i a hi h0 h1
  have hlt : i < l.length := by omega
  have er : rd_T155 l (i : Int) = l[i] := getD_at hlt _
  have hok := ho.1 _ (List.getElem_mem hlt)
  refine Ev.step (fun _ => rfl) ?_
  simp only [laws_szUserS.l0]
  refine Ev.pos (by omega) ?_
  refine Ev.pos (by omega) ?_
  rw [er, drop_at hlt, List.map_cons, List.sum_cons, wsucc (by omega)]
  have hz : (szmUser l[i]) = szmOpS (l[i]).f0 + szmReplyS (l[i]).f4 := rfl
  refine Ev.bind (szUser_ev (l[i]).f0 (l[i]).f1 (l[i]).f2 (l[i]).f3 (l[i]).f4 a h0 h1 hok.1 hok.2.2.2.2) ?_
  rw [← hz]
  by_cases c : (((szmUser l[i]) : Nat) : Int) ≤ a
  ·rw [left_pos c]
   refine Ev.neg (by omega) ?_
   refine Ev.to (ih (i + 1) (a - (szmUser l[i])) (by omega) (by omega) (by omega)) ?_
   exact left_add
  ·rw [left_neg c]
   refine Ev.pos (by omega) ?_
   exact Ev.const (congrArg some (left_neg_add c).symm)
theorem szUserS_ev (l : List S155) (a : Int) (h0 : 0 ≤ a) (h1 : a ≤ 1048576) (o : okT67 l) : Ev (fun k => laws_szUserS.f k l a) (left a (szmUserS l)) := by
 have ho := o.2
 unfold laws_szUserS.f szmUserS
 rw [w64 (by omega) (by omega)]
 by_cases c : (l.length : Int) ≤ a
 ·refine Ev.neg (by omega) ?_
  refine Ev.to (szUserS_l0 l o l.length 0 (a - l.length) (by omega) (by omega) (by omega)) ?_
  rw [List.drop_zero]
  exact left_add
 ·refine Ev.pos (by omega) ?_
  exact Ev.const (congrArg some (left_neg_add c).symm)
theorem toUserS_l0 (l : List S155) (ho : okT67 l) : ∀ (d i : Nat) (ys : List S135), i + d = l.length → ys.length = l.length → ys.take i = (l.take i).map cvUser → Ev (fun k => laws_toUserS.l0 k l ys i) (l.map cvUser) := by
 have hl := ho.2
 intro d
 induction d with
 | zero =>
  intro i ys hi hy ht
  refine Ev.step (fun _ => rfl) ?_
  simp only [laws_toUserS.l0]
  refine Ev.neg (by omega) ?_
  rw [List.take_of_length_le (by omega), List.take_of_length_le (by omega)] at ht
  exact Ev.const (congrArg some ht)
 | succ d ih =>
  intro i ys hi hy ht
  have hlt : i < l.length := by omega
  have er : rd_T155 l (i : Int) = l[i] := getD_at hlt _
  have hok := ho.1 _ (List.getElem_mem hlt)
  refine Ev.step (fun _ => rfl) ?_
  simp only [laws_toUserS.l0]
  refine Ev.pos (by omega) ?_
  refine Ev.pos (by omega) ?_
  rw [er, wsucc (by omega)]
  refine Ev.bind (toUser_ev (l[i]).f0 (l[i]).f1 (l[i]).f2 (l[i]).f3 (l[i]).f4 (hok.1) (hok.2.2.2.2)) ?_
  refine Ev.pos (by omega) ?_
  exact ih (i + 1) _ (by omega) (by simp [hy]) (take_drop_set cvUser l ys hlt hy ht)
theorem toUserS_ev (l : List S155) (o : okT67 l) : Ev (fun k => laws_toUserS.f k l) (l.map cvUser) := by
 have ho := o.2
 unfold laws_toUserS.f
 rw [Int.toNat_natCast]
 refine Ev.pos (by omega) ?_
 refine Ev.pos (by omega) ?_
 refine Ev.to (toUserS_l0 l o l.length 0 _ (by omega) (by simp) (by simp)) ?_
 rfl
def lenokUserS (l : List S135) : Prop := l.length ≤ 140737488351232 ∧ ∀ x ∈ l, x.f0.length ≤ 140737488351232 ∧ x.f4.length ≤ 140737488351232
theorem eqUserS_l0 (l : List S135) (ho : lenokUserS l) : ∀ (d i : Nat), i + d = l.length → Ev (fun k => laws_eqUserS.l0 k l l i) true := by
 have hl : l.length ≤ 140737488351232 := ho.1
 intro d
 induction d with
 | zero =>
  intro i hi
  refine Ev.step (fun _ => rfl) ?_
  simp only [laws_eqUserS.l0]
  refine Ev.neg (by omega) ?_
  exact Ev.const rfl
 | succ d ih =>
  intro i hi
  refine Ev.step (fun _ => rfl) ?_
  simp only [laws_eqUserS.l0]
  refine Ev.pos (by omega) ?_
  refine Ev.pos (by omega) ?_
  refine Ev.pos (by omega) ?_
  rw [wsucc (by omega)]
  have hlt : i < l.length := by omega
  have er : rd_T135 l (i : Int) = l[i] := getD_at hlt _
  have hok := ho.2 _ (List.getElem_mem hlt)
  rw [er]
  refine Ev.bind (eqUser_ev _ _ _ _ _ (hok.1) (hok.2)) ?_
  refine Ev.pos rfl ?_
  exact ih (i + 1) (by omega)
theorem eqUserS_ev (l : List S135) (ho : lenokUserS l) : Ev (fun k => laws_eqUserS.f k l l) true := by
 unfold laws_eqUserS.f
 refine Ev.pos rfl ?_
 exact eqUserS_l0 l ho l.length 0 (by omega)
def cvDeed (x : S193) : S191 := ⟨x.f0, x.f1⟩
instance decDeed : DecidableEq S191 := fun a b => decidable_of_iff (a.f0 = b.f0 ∧ a.f1 = b.f1) (by cases a; cases b; simp)
theorem toDeed_ev (x0 : Int) (x1 : Int)  : Ev (fun k => laws_toDeed.f x0 x1) (x0, x1) := by
 unfold laws_toDeed.f
 exact Ev.const rfl
theorem eqDeed_ev (x0 : Int) (x1 : Int)  : Ev (fun k => laws_eqDeed.f x0 x1 x0 x1) true := by
 unfold laws_eqDeed.f
 refine Ev.pos rfl ?_
 refine Ev.pos rfl ?_
 exact Ev.const rfl
def szmDeedS (l : List S193) : Nat := l.length
theorem szDeedS_ev (l : List S193) (a : Int) (h0 : 0 ≤ a) (h1 : a ≤ 1048576) (o : okT68 l) : Ev (fun k => laws_szDeedS.f l a) (left a (szmDeedS l)) := by
 have ho := o.2
 unfold laws_szDeedS.f szmDeedS
 rw [w64 (by omega) (by omega)]
 by_cases c : (l.length : Int) ≤ a
 ·refine Ev.neg (by omega) ?_
  exact Ev.const (congrArg some (left_pos c).symm)
 ·refine Ev.pos (by omega) ?_
  exact Ev.const (congrArg some (left_neg c).symm)
theorem toDeedS_l0 (l : List S193) (ho : okT68 l) : ∀ (d i : Nat) (ys : List S191), i + d = l.length → ys.length = l.length → ys.take i = (l.take i).map cvDeed → Ev (fun k => laws_toDeedS.l0 k l ys i) (l.map cvDeed) := by
 have hl := ho.2
 intro d
 induction d with
 | zero =>
  intro i ys hi hy ht
  refine Ev.step (fun _ => rfl) ?_
  simp only [laws_toDeedS.l0]
  refine Ev.neg (by omega) ?_
  rw [List.take_of_length_le (by omega), List.take_of_length_le (by omega)] at ht
  exact Ev.const (congrArg some ht)
 | succ d ih =>
  intro i ys hi hy ht
  have hlt : i < l.length := by omega
  have er : rd_T193 l (i : Int) = l[i] := getD_at hlt _
  have hok := ho.1 _ (List.getElem_mem hlt)
  refine Ev.step (fun _ => rfl) ?_
  simp only [laws_toDeedS.l0]
  refine Ev.pos (by omega) ?_
  refine Ev.pos (by omega) ?_
  rw [er, wsucc (by omega)]
  refine Ev.bind (toDeed_ev (l[i]).f0 (l[i]).f1 ) ?_
  refine Ev.pos (by omega) ?_
  exact ih (i + 1) _ (by omega) (by simp [hy]) (take_drop_set cvDeed l ys hlt hy ht)
theorem toDeedS_ev (l : List S193) (o : okT68 l) : Ev (fun k => laws_toDeedS.f k l) (l.map cvDeed) := by
 have ho := o.2
 unfold laws_toDeedS.f
 rw [Int.toNat_natCast]
 refine Ev.pos (by omega) ?_
 refine Ev.pos (by omega) ?_
 refine Ev.to (toDeedS_l0 l o l.length 0 _ (by omega) (by simp) (by simp)) ?_
 rfl
theorem eqDeedS_l0 (l : List S191) (ho : l.length ≤ 140737488351232) : ∀ (d i : Nat), i + d = l.length → Ev (fun k => laws_eqDeedS.l0 k l l i) true := by
 have hl : l.length ≤ 140737488351232 := ho
 intro d
 induction d with
 | zero =>
  intro i hi
  refine Ev.step (fun _ => rfl) ?_
  simp only [laws_eqDeedS.l0]
  refine Ev.neg (by omega) ?_
  exact Ev.const rfl
 | succ d ih =>
  intro i hi
  refine Ev.step (fun _ => rfl) ?_
  simp only [laws_eqDeedS.l0]
  refine Ev.pos (by omega) ?_
  refine Ev.pos (by omega) ?_
  refine Ev.pos (by omega) ?_
  rw [wsucc (by omega)]
  refine Ev.bind (eqDeed_ev _ _ ) ?_
  refine Ev.pos rfl ?_
  exact ih (i + 1) (by omega)
theorem eqDeedS_ev (l : List S191) (ho : l.length ≤ 140737488351232) : Ev (fun k => laws_eqDeedS.f k l l) true := by
 unfold laws_eqDeedS.f
 refine Ev.pos rfl ?_
 exact eqDeedS_l0 l ho l.length 0 (by omega)
noncomputable def mkDeedS : Int → List S191 → List S191
 | _, [] => []
 | m, _ :: r => (⟨m, (m + 1)⟩ : S191) :: mkDeedS (m + 2) r
theorem rdm_DeedS (pre : List S191) (x : S191) (rest : List S191) : rd_T191 (pre ++ x :: rest) (pre.length : Int) = x := getD_mid pre x _ rest
theorem markDeedS_l0 : ∀ (rest pre : List S191) (m : Int), 1 ≤ m → (m + 2 * (rest.length : Int) ≤ 4611686018427387904 ∧ (pre.length : Int) + rest.length ≤ 4611686018427387904) → Ev (fun k => laws_markDeedS.l0 k (pre ++ rest) m (pre.length : Int)) (m + 2 * (rest.length : Int), pre ++ mkDeedS m rest)
 | [], pre, m, h0, h1 => by
  refine Ev.step (fun _ => rfl) ?_
  simp only [laws_markDeedS.l0]
  refine Ev.neg (by simp) ?_
  exact Ev.const (by simp [mkDeedS])
 | x :: rest, pre, m, h0, h1 => by
  simp only [List.length_cons, Int.natCast_add, Int.cast_ofNat_Int] at h1
  have hlen : (pre.length : Int) < 4611686018427387904 := by omega
  have hstep := markDeedS_l0 rest (pre ++ [(⟨m, (m + 1)⟩ : S191)]) (m + 2) (by omega) (by simp only [List.length_append, List.length_singleton, Int.natCast_add]; omega)
  refine Ev.step (fun _ => rfl) ?_
  simp only [laws_markDeedS.l0]
  have hlt : (pre.length : Int) < ((pre ++ x :: rest).length : Int) := by simp; omega
  simp only [wrap_add1 (m := m) (by omega) (by omega), wrap_add2 (m := m) (by omega) (by omega), rdm_DeedS, set_mid]
  have w1 : wrap64 ((pre.length : Int) + 1) = (((pre ++ [(⟨m, (m + 1)⟩ : S191)]).length : Nat) : Int) := by rw [w64 (by omega) (by omega)]; simp
  rw [w1]
  refine Ev.pos hlt ?_
  try first | with_reducible refine Ev.pos (Int.natCast_nonneg _) ?_ | with_reducible refine Ev.pos rfl ?_ | with_reducible refine Ev.pos trivial ?_ | with_reducible refine Ev.bind (tx_ev _ (by omega) (by omega)) ?_ | with_reducible refine Ev.bind (Ev.const rfl) ?_ | with_reducible refine Ev.neg (by simp) ?_
  try first | with_reducible refine Ev.pos (Int.natCast_nonneg _) ?_ | with_reducible refine Ev.pos rfl ?_ | with_reducible refine Ev.pos trivial ?_ | with_reducible refine Ev.bind (tx_ev _ (by omega) (by omega)) ?_ | with_reducible refine Ev.bind (Ev.const rfl) ?_ | with_reducible refine Ev.neg (by simp) ?_
  try first | with_reducible refine Ev.pos (Int.natCast_nonneg _) ?_ | with_reducible refine Ev.pos rfl ?_ | with_reducible refine Ev.pos trivial ?_ | with_reducible refine Ev.bind (tx_ev _ (by omega) (by omega)) ?_ | with_reducible refine Ev.bind (Ev.const rfl) ?_ | with_reducible refine Ev.neg (by simp) ?_
  try first | with_reducible refine Ev.pos (Int.natCast_nonneg _) ?_ | with_reducible refine Ev.pos rfl ?_ | with_reducible refine Ev.pos trivial ?_ | with_reducible refine Ev.bind (tx_ev _ (by omega) (by omega)) ?_ | with_reducible refine Ev.bind (Ev.const rfl) ?_ | with_reducible refine Ev.neg (by simp) ?_
  try first | with_reducible refine Ev.pos (Int.natCast_nonneg _) ?_ | with_reducible refine Ev.pos rfl ?_ | with_reducible refine Ev.pos trivial ?_ | with_reducible refine Ev.bind (tx_ev _ (by omega) (by omega)) ?_ | with_reducible refine Ev.bind (Ev.const rfl) ?_ | with_reducible refine Ev.neg (by simp) ?_
  try first | with_reducible refine Ev.pos (Int.natCast_nonneg _) ?_ | with_reducible refine Ev.pos rfl ?_ | with_reducible refine Ev.pos trivial ?_ | with_reducible refine Ev.bind (tx_ev _ (by omega) (by omega)) ?_ | with_reducible refine Ev.bind (Ev.const rfl) ?_ | with_reducible refine Ev.neg (by simp) ?_
  try first | with_reducible refine Ev.pos (Int.natCast_nonneg _) ?_ | with_reducible refine Ev.pos rfl ?_ | with_reducible refine Ev.pos trivial ?_ | with_reducible refine Ev.bind (tx_ev _ (by omega) (by omega)) ?_ | with_reducible refine Ev.bind (Ev.const rfl) ?_ | with_reducible refine Ev.neg (by simp) ?_
  try first | with_reducible refine Ev.pos (Int.natCast_nonneg _) ?_ | with_reducible refine Ev.pos rfl ?_ | with_reducible refine Ev.pos trivial ?_ | with_reducible refine Ev.bind (tx_ev _ (by omega) (by omega)) ?_ | with_reducible refine Ev.bind (Ev.const rfl) ?_ | with_reducible refine Ev.neg (by simp) ?_
  try first | with_reducible refine Ev.pos (Int.natCast_nonneg _) ?_ | with_reducible refine Ev.pos rfl ?_ | with_reducible refine Ev.pos trivial ?_ | with_reducible refine Ev.bind (tx_ev _ (by omega) (by omega)) ?_ | with_reducible refine Ev.bind (Ev.const rfl) ?_ | with_reducible refine Ev.neg (by simp) ?_
  try simp only [rdm_DeedS, set_mid]
  refine Ev.to (by simpa only [List.append_assoc, List.singleton_append] using hstep) ?_
  simp [mkDeedS, Int.natCast_add]; try omega
theorem markDeedS_ev (l : List S191) (m : Int) (h0 : 1 ≤ m) (h1 : m + 2 * (l.length : Int) ≤ 4611686018427387904) : Ev (fun k => laws_markDeedS.f k l m) (m + 2 * (l.length : Int), mkDeedS m l) := by
 unfold laws_markDeedS.f
 have h := markDeedS_l0 l [] m h0 ⟨h1, by simp; omega⟩
 simpa using h
theorem szDesk_ev (x0 : Int) (x1 : Int) (x2 : List S220) (x3 : List S220) (x4 : List Int) (x5 : List Int) (x6 : Int) (x7 : List Int) (x8 : List S244) (x9 : List Int) (x10 : List S184) (x11 : List S155) (x12 : List S193) (a : Int) (h0 : 0 ≤ a) (h1 : a ≤ 1048576) (o0_0 : okT58 x2) (o0_1 : okT58 x3) (o0_2 : okT30 x4) (o1_0 : okT30 x5) (o1_1 : okT30 x7) (o1_2 : okT61 x8) (o1_3 : okT30 x9) (o2 : okT66 x10) (o3 : okT67 x11) (o4 : okT68 x12) : Ev (fun k => laws_szDesk.f k x0 x1 x2 x3 x4 x5 x6 x7 x8 x9 x10 x11 x12 a) (left a ((szmItemS x2 + szmItemS x3 + szmIntS x4) + (szmIntS x5 + (szmIntS x7 + szmGoneS x8) + szmIntS x9) + szmSpotS x10 + szmUserS x11 + szmDeedS x12)) := by
 unfold laws_szDesk.f
 refine Ev.bind (szThree_ev x0 x1 x2 x3 x4 a (by omega) (by omega) o0_0 o0_1 o0_2) ?_
 by_cases c0 : ((szmItemS x2 + szmItemS x3 + szmIntS x4 : Nat) : Int) ≤ a
 rotate_left
 ·rw [left_neg c0]
  refine Ev.pos (by omega) ?_
  exact Ev.const (by first | rfl | exact congrArg some (left_neg (by omega)).symm)
 rw [left_pos c0]
 refine Ev.neg (by omega) ?_
 refine Ev.bind (szPool_ev x5 x6 x7 x8 x9 (a - (szmItemS x2 + szmItemS x3 + szmIntS x4 : Nat)) (by omega) (by omega) o1_0 o1_1 o1_2 o1_3) ?_
 by_cases c1 : ((szmIntS x5 + (szmIntS x7 + szmGoneS x8) + szmIntS x9 : Nat) : Int) ≤ a - (szmItemS x2 + szmItemS x3 + szmIntS x4 : Nat)
 rotate_left
 ·rw [left_neg c1]
  refine Ev.pos (by omega) ?_
  exact Ev.const (by first | rfl | exact congrArg some (left_neg (by omega)).symm)
 rw [left_pos c1]
 refine Ev.neg (by omega) ?_
 refine Ev.bind (szSpotS_ev x10 ((a - (szmItemS x2 + szmItemS x3 + szmIntS x4 : Nat)) - (szmIntS x5 + (szmIntS x7 + szmGoneS x8) + szmIntS x9 : Nat)) (by omega) (by omega) o2) ?_
 by_cases c2 : ((szmSpotS x10 : Nat) : Int) ≤ (a - (szmItemS x2 + szmItemS x3 + szmIntS x4 : Nat)) - (szmIntS x5 + (szmIntS x7 + szmGoneS x8) + szmIntS x9 : Nat)
 rotate_left
 ·rw [left_neg c2]
  refine Ev.pos (by omega) ?_
  exact Ev.const (by first | rfl | exact congrArg some (left_neg (by omega)).symm)
 rw [left_pos c2]
 refine Ev.neg (by omega) ?_
 refine Ev.bind (szUserS_ev x11 (((a - (szmItemS x2 + szmItemS x3 + szmIntS x4 : Nat)) - (szmIntS x5 + (szmIntS x7 + szmGoneS x8) + szmIntS x9 : Nat)) - (szmSpotS x10 : Nat)) (by omega) (by omega) o3) ?_
 by_cases c3 : ((szmUserS x11 : Nat) : Int) ≤ ((a - (szmItemS x2 + szmItemS x3 + szmIntS x4 : Nat)) - (szmIntS x5 + (szmIntS x7 + szmGoneS x8) + szmIntS x9 : Nat)) - (szmSpotS x10 : Nat)
 rotate_left
 ·rw [left_neg c3]
  refine Ev.pos (by omega) ?_
  exact Ev.const (by first | rfl | exact congrArg some (left_neg (by omega)).symm)
 rw [left_pos c3]
 refine Ev.neg (by omega) ?_
 refine Ev.bind (szDeedS_ev x12 ((((a - (szmItemS x2 + szmItemS x3 + szmIntS x4 : Nat)) - (szmIntS x5 + (szmIntS x7 + szmGoneS x8) + szmIntS x9 : Nat)) - (szmSpotS x10 : Nat)) - (szmUserS x11 : Nat)) (by omega) (by omega) o4) ?_
 by_cases c4 : ((szmDeedS x12 : Nat) : Int) ≤ (((a - (szmItemS x2 + szmItemS x3 + szmIntS x4 : Nat)) - (szmIntS x5 + (szmIntS x7 + szmGoneS x8) + szmIntS x9 : Nat)) - (szmSpotS x10 : Nat)) - (szmUserS x11 : Nat)
 rotate_left
 ·rw [left_neg c4]
  refine Ev.pos (by omega) ?_
  exact Ev.const (by first | rfl | exact congrArg some (left_neg (by omega)).symm)
 rw [left_pos c4]
 refine Ev.neg (by omega) ?_
 exact Ev.const (by first | rfl | exact congrArg some (by rw [left_pos (by omega)] <;> omega))
theorem toDesk_ev (x0 : Int) (x1 : Int) (x2 : List S220) (x3 : List S220) (x4 : List Int) (x5 : List Int) (x6 : Int) (x7 : List Int) (x8 : List S244) (x9 : List Int) (x10 : List S184) (x11 : List S155) (x12 : List S193) (o_x2 : okT58 x2) (o_x3 : okT58 x3) (o_x4 : okT30 x4) (o_x5 : okT30 x5) (o_x7 : okT30 x7) (o_x8 : okT61 x8) (o_x9 : okT30 x9) (o_x10 : okT66 x10) (o_x11 : okT67 x11) (o_x12 : okT68 x12) : Ev (fun k => laws_toDesk.f k x0 x1 x2 x3 x4 x5 x6 x7 x8 x9 x10 x11 x12) (x0, x1, (x2.map cvItem), (x3.map cvItem), x4, x5, x6, x7, (x8.map cvGone), x9, (x10.map cvSpot), (x11.map cvUser), (x12.map cvDeed)) := by
 unfold laws_toDesk.f
 refine Ev.bind (toThree_ev x0 x1 x2 x3 x4 o_x2 o_x3 o_x4) ?_
 refine Ev.bind (toPool_ev x5 x6 x7 x8 x9 o_x5 o_x7 o_x8 o_x9) ?_
 refine Ev.bind (toSpotS_ev x10 o_x10) ?_
 refine Ev.bind (toUserS_ev x11 o_x11) ?_
 refine Ev.bind (toDeedS_ev x12 o_x12) ?_
 exact Ev.const rfl
theorem eqDesk_ev (x0 : Int) (x1 : Int) (x2 : List S122) (x3 : List S122) (x4 : List Int) (x5 : List Int) (x6 : Int) (x7 : List Int) (x8 : List S242) (x9 : List Int) (x10 : List S188) (x11 : List S135) (x12 : List S191) (o_x2 : x2.length ≤ 140737488351232) (o_x3 : x3.length ≤ 140737488351232) (o_x4 : x4.length ≤ 140737488351232) (o_x5 : x5.length ≤ 140737488351232) (o_x7 : x7.length ≤ 140737488351232) (o_x8 : x8.length ≤ 140737488351232) (o_x9 : x9.length ≤ 140737488351232) (o_x10 : x10.length ≤ 140737488351232) (o_x11 : lenokUserS x11) (o_x12 : x12.length ≤ 140737488351232) : Ev (fun k => laws_eqDesk.f k x0 x1 x2 x3 x4 x5 x6 x7 x8 x9 x10 x11 x12 x0 x1 x2 x3 x4 x5 x6 x7 x8 x9 x10 x11 x12) true := by
 unfold laws_eqDesk.f
 refine Ev.bind (eqThree_ev x0 x1 x2 x3 x4 o_x2 o_x3 o_x4) ?_
 refine Ev.pos rfl ?_
 refine Ev.bind (eqPool_ev x5 x6 x7 x8 x9 o_x5 o_x7 o_x8 o_x9) ?_
 refine Ev.pos rfl ?_
 refine Ev.bind (eqSpotS_ev x10 o_x10) ?_
 refine Ev.pos rfl ?_
 refine Ev.bind (eqUserS_ev x11 o_x11) ?_
 refine Ev.pos rfl ?_
 refine Ev.bind (eqDeedS_ev x12 o_x12) ?_
 refine Ev.pos rfl ?_
 exact Ev.const rfl
end Go.Proofs.Ythnedklbobbkcaa.Fam

namespace Go.Proofs.Ythnedklbobbkcaa.Q
open Go.RowKit Go.Proofs.Ythnedklbobbkcaa.G Go.Proofs.Ythnedklbobbkcaa.PL Go.Proofs.Ythnedklbobbkcaa.Ok Go.Proofs.Ythnedklbobbkcaa.Fam Go.Proofs.YthnedklbobbkcaaW.PrintWords
def wtU : List S135 → Nat
 | [] => 0
 | x :: r => x.f0.length + 1 + x.f4.length + wtU r
theorem wtU_cv : ∀ l : List S155, wtU (l.map cvUser) ≤ szmUserS l
 | [] => Nat.zero_le _
 | x :: r => by
  have ih := wtU_cv r
  have e : szmUserS (x :: r) = szmUser x + 1 + szmUserS r := by
   simp only [szmUserS, List.map_cons, List.length_cons, List.sum_cons]; omega
  have e1 : szmUser x = szmOpS x.f0 + szmReplyS x.f4 := rfl
  have g0 : x.f0.length ≤ szmOpS x.f0 := Nat.le_add_right _ _
  have g1 : x.f4.length ≤ szmReplyS x.f4 := Nat.le_add_right _ _
  have e2 : wtU ((x :: r).map cvUser) = x.f0.length + 1 + x.f4.length + wtU (r.map cvUser) := by
   simp only [List.map_cons, wtU, cvUser, List.length_map]
  omega
theorem szmUserS_len (l : List S155) : l.length ≤ szmUserS l := Nat.le_add_right _ _
theorem wtU_mem : ∀ (l : List S135) (x : S135), x ∈ l → x.f0.length + x.f4.length ≤ wtU l
 | [], _, h => by simp at h
 | y :: r, x, h => by
  rw [wtU]
  rcases List.mem_cons.1 h with rfl | h
  ·omega
  ·have := wtU_mem r x h
   omega
theorem markUserS_l0 : ∀ (rest pre : List S135) (m : Int), 1 ≤ m → m + 3 * (wtU rest : Int) ≤ 4611686018427387900 → (pre.length : Int) + rest.length ≤ 4611686018427387904 → ∃ ys, Ev (fun k => laws_markUserS.l0 k (pre ++ rest) m (pre.length : Int)) (m + 3 * (wtU rest : Int), ys) := by
 intro rest
 induction rest with
 | nil =>
  intro pre m h0 h1 h2
  refine ⟨pre ++ [], Ev.step (fun _ => rfl) ?_⟩
  simp only [laws_markUserS.l0]
  refine Ev.neg (by simp) ?_
  exact Ev.const (by simp [wtU])
 | cons x rest ih =>
  intro pre m h0 h1 h2
  rw [wtU] at h1 ⊢
  rw [List.length_cons] at h2
  have hO := markOpS_ev x.f0 m h0 (by omega)
  have hR := markReplyS_ev x.f4 (m + 3 * (x.f0.length : Int) + 3) (by omega) (by omega)
  revert hO hR
  generalize mkOpS m x.f0 = A
  generalize mkReplyS (m + 3 * (x.f0.length : Int) + 3) x.f4 = B
  generalize hm1 : m + 3 * (x.f0.length : Int) = m1
  intro hO hR
  obtain ⟨ys, hstep⟩ := ih (pre ++ [(⟨A, m1, m1 + 1, m1 + 2, B⟩ : S135)]) (m1 + 3 + 3 * (x.f4.length : Int)) (by omega) (by omega) (by simp only [List.length_append, List.length_singleton]; omega)
  refine ⟨ys, Ev.step (fun _ => rfl) ?_⟩
  simp only [laws_markUserS.l0]
  have hlt : (pre.length : Int) < ((pre ++ x :: rest).length : Int) := by simp; omega
  have rdm : ∀ y : S135, rd_T135 (pre ++ y :: rest) (pre.length : Int) = y := fun y => getD_mid pre y _ rest
  refine Ev.pos hlt (Ev.pos (by omega) ?_)
  simp only [rdm]
  refine Ev.bind hO ?_
  simp only [Option.bind_some, rdm, set_mid]
  rw [wrap_add1 (m := m1) (by omega) (by omega), wrap_add2 (m := m1) (by omega) (by omega), wrap_add3 (m := m1) (by omega) (by omega)]
  refine Ev.bind hR ?_
  have ew : wrap64 ((pre.length : Int) + 1) = ((pre ++ [(⟨A, m1, m1 + 1, m1 + 2, B⟩ : S135)]).length : Int) := by
   rw [w64 (by omega) (by omega), List.length_append, List.length_singleton]; omega
  dsimp only
  rw [ew, snoc_mid]
  refine Ev.to hstep ?_
  exact Prod.ext (by show _ + _ = _; omega) rfl
theorem markUserS_ev (l : List S135) (m : Int) (h0 : 1 ≤ m) (h1 : m + 3 * (wtU l : Int) ≤ 4611686018427387900) (h2 : (l.length : Int) ≤ 4611686018427387904) : ∃ ys, Ev (fun k => laws_markUserS.f k l m) (m + 3 * (wtU l : Int), ys) := by
 obtain ⟨ys, h⟩ := markUserS_l0 l [] m h0 h1 (by simpa using h2)
 exact ⟨ys, h⟩
/-- A desk can be marked: there is a result, and its mark is not below nought. -/
theorem markDesk_ev (x0 x1 : Int) (x2 x3 : List S122) (x4 x5 : List Int) (x6 : Int) (x7 : List Int) (x8 : List S242) (x9 : List Int) (x10 : List S188) (x11 : List S135) (x12 : List S191)
  (h2 : x2.length ≤ 1048576) (h3 : x3.length ≤ 1048576) (h4 : x4.length ≤ 1048576) (h5 : x5.length ≤ 1048576) (h7 : x7.length ≤ 1048576) (h8 : x8.length ≤ 1048576) (h9 : x9.length ≤ 1048576) (h10 : x10.length ≤ 1048576) (h11 : x11.length ≤ 1048576) (hw : wtU x11 ≤ 1048576) (h12 : x12.length ≤ 1048576) :
  ∃ r, Ev (fun k => laws_markDesk.f k x0 x1 x2 x3 x4 x5 x6 x7 x8 x9 x10 x11 x12 1) r ∧ ¬ r.1 < 0 := by
 obtain ⟨ys, hU⟩ := markUserS_ev x11 (1 + 3 * (x2.length : Int) + 3 * (x3.length : Int) + 1 * (x4.length : Int) + 1 * (x5.length : Int) + 1 * (x7.length : Int) + 2 * (x8.length : Int) + 1 * (x9.length : Int) + 2 * (x10.length : Int)) (by omega) (by omega) (by omega)
 have hT : ∃ y, Ev (fun k => laws_markThree.f k x0 x1 x2 x3 x4 1) ((1 + 3 * (x2.length : Int) + 3 * (x3.length : Int) + 1 * (x4.length : Int)), y) := by
  apply Exists.intro
  unfold laws_markThree.f
  refine Ev.bind (markItemS_ev x2 1 (by omega) (by omega)) ?_
  refine Ev.bind (markItemS_ev x3 _ (by omega) (by omega)) ?_
  refine Ev.bind (markIntS_ev x4 _ (by omega) (by omega)) ?_
  exact Ev.const rfl
 have hA : ∃ y, Ev (fun k => laws_markAges.f k x6 x7 x8 (1 + 3 * (x2.length : Int) + 3 * (x3.length : Int) + 1 * (x4.length : Int) + 1 * (x5.length : Int))) ((1 + 3 * (x2.length : Int) + 3 * (x3.length : Int) + 1 * (x4.length : Int) + 1 * (x5.length : Int) + 1 * (x7.length : Int) + 2 * (x8.length : Int)), y) := by
  apply Exists.intro
  unfold laws_markAges.f
  refine Ev.bind (markIntS_ev x7 _ (by omega) (by omega)) ?_
  refine Ev.bind (markGoneS_ev x8 _ (by omega) (by omega)) ?_
  exact Ev.const rfl
 obtain ⟨yA, hA⟩ := hA
 have hP : ∃ y, Ev (fun k => laws_markPool.f k x5 x6 x7 x8 x9 (1 + 3 * (x2.length : Int) + 3 * (x3.length : Int) + 1 * (x4.length : Int))) ((1 + 3 * (x2.length : Int) + 3 * (x3.length : Int) + 1 * (x4.length : Int) + 1 * (x5.length : Int) + 1 * (x7.length : Int) + 2 * (x8.length : Int) + 1 * (x9.length : Int)), y) := by
  apply Exists.intro
  unfold laws_markPool.f
  refine Ev.bind (markIntS_ev x5 _ (by omega) (by omega)) ?_
  refine Ev.bind hA ?_
  refine Ev.bind (markIntS_ev x9 _ (by omega) (by omega)) ?_
  exact Ev.const rfl
 obtain ⟨yT, hT⟩ := hT
 obtain ⟨yP, hP⟩ := hP
 have hD : ∃ y, Ev (fun k => laws_markDesk.f k x0 x1 x2 x3 x4 x5 x6 x7 x8 x9 x10 x11 x12 1) ((1 + 3 * (x2.length : Int) + 3 * (x3.length : Int) + 1 * (x4.length : Int) + 1 * (x5.length : Int) + 1 * (x7.length : Int) + 2 * (x8.length : Int) + 1 * (x9.length : Int) + 2 * (x10.length : Int) + 3 * (wtU x11 : Int) + 2 * (x12.length : Int)), y) := by
  apply Exists.intro
  unfold laws_markDesk.f
  refine Ev.bind hT ?_
  refine Ev.bind hP ?_
  refine Ev.bind (markSpotS_ev x10 _ (by omega) (by omega)) ?_
  refine Ev.bind hU ?_
  refine Ev.bind (markDeedS_ev x12 _ (by omega) (by omega)) ?_
  exact Ev.const rfl
 obtain ⟨yD, hD⟩ := hD
 refine ⟨_, hD, ?_⟩
 show ¬ (1 + 3 * (x2.length : Int) + 3 * (x3.length : Int) + 1 * (x4.length : Int) + 1 * (x5.length : Int) + 1 * (x7.length : Int) + 2 * (x8.length : Int) + 1 * (x9.length : Int) + 2 * (x10.length : Int) + 3 * (wtU x11 : Int) + 2 * (x12.length : Int)) < 0
 omega
theorem repliesOf_ev (x0 x1 : Int) (x2 x3 : List S122) (x4 x5 : List Int) (x6 : Int) (x7 : List Int) (x8 : List S242) (x9 : List Int) (x10 : List S188) (u : List S135) (x12 : List S191) (a : Int) (hu : u.length ≤ 1048576) (hw : wtU u ≤ 1048576) :
  ∃ r : List S150, r.length ≤ 1048576 ∧ spec_RepliesOf.f x0 x1 x2 x3 x4 x5 x6 x7 x8 x9 x10 u x12 a = some r ∧ impl_RepliesOf.f x0 x1 x2 x3 x4 x5 x6 x7 x8 x9 x10 u x12 a = some r := by
 have ew : wrap64 ((u.length : Int) - 1) = (u.length : Int) - 1 := w64 (by omega) (by omega)
 by_cases c : 0 ≤ a ∧ a < (u.length : Int)
 ·obtain ⟨c0, c1⟩ := c
  obtain ⟨n, rfl⟩ := Int.eq_ofNat_of_zero_le c0
  have hn : n < u.length := by omega
  have e : rd_T135 u (n : Int) = u[n] := getD_at hn _
  have hm := wtU_mem u u[n] (List.getElem_mem hn)
  refine ⟨(u[n]).f4, by omega, ?_, ?_⟩
  ·unfold spec_RepliesOf.f
   rw [if_neg (by omega), if_neg (by omega), Option.bind_some, if_pos c0, if_pos c1, e, if_pos (by simp; omega)]
   rfl
  ·unfold impl_RepliesOf.f impl_within.f
   rw [ew, if_pos (by omega), Option.bind_some, if_pos (decide_eq_true (by omega)), if_pos c0, if_pos c1, e, if_pos (by simp; omega)]
   rfl
 ·refine ⟨[], by simp, ?_, ?_⟩
  ·unfold spec_RepliesOf.f
   by_cases c0 : a < 0
   ·rw [if_pos c0]
   ·rw [if_neg c0, if_pos (by omega)]
  ·unfold impl_RepliesOf.f impl_within.f
   rw [ew]
   by_cases c0 : a ≥ 0
   ·rw [if_pos c0, Option.bind_some, if_neg (by simp; omega)]
   ·rw [if_neg c0, Option.bind_some, if_neg (by simp)]
end Go.Proofs.Ythnedklbobbkcaa.Q
namespace Go.Proofs.Ythnedklbobbkcaa.Pure
open Go.RowKit Go.Proofs.Ythnedklbobbkcaa.G Go.Proofs.Ythnedklbobbkcaa.PL Go.Proofs.Ythnedklbobbkcaa.Ok Go.Proofs.Ythnedklbobbkcaa.Fam Go.Proofs.Ythnedklbobbkcaa.Q Go.Proofs.YthnedklbobbkcaaW.PrintWords Go.Proofs.YthnedklbobbkcaaW.PrintLast Go.Proofs.Ythnedklbobbkcaa.G.fnExactRepliesOf
theorem FnExactRepliesOf : FnExactRepliesOf.Pure := by
 intro ⟨⟨y0, y1, y2, y3, y4⟩, ⟨y5, ⟨y6, y7, y8⟩, y9⟩, y10, y11, y12⟩ a ⟨⟨⟨_, _, o2, o3, o4⟩, ⟨o5, ⟨_, o7, o8⟩, o9⟩, o10, o11, o12⟩, _⟩
 apply Ev.rounds
 show Ev (fun k => laws_FnExactRepliesOf.f k y0 y1 y2 y3 y4 y5 y6 y7 y8 y9 y10 y11 y12 a) true
 unfold laws_FnExactRepliesOf.f
 refine Ev.bind (szDesk_ev y0 y1 y2 y3 y4 y5 y6 y7 y8 y9 y10 y11 y12 1048576 (by omega) (by omega) o2 o3 o4 o5 o7 o8 o9 o10 o11 o12) ?_
 by_cases c1 : (((szmItemS y2 + szmItemS y3 + szmIntS y4) + (szmIntS y5 + (szmIntS y7 + szmGoneS y8) + szmIntS y9) + szmSpotS y10 + szmUserS y11 + szmDeedS y12 : Nat) : Int) ≤ 1048576
 rotate_left
 ·rw [left_neg c1]; exact Ev.pos (by omega) (Ev.const rfl)
 rw [left_pos c1]
 refine Ev.neg (by omega) ?_
 have z2 : y2.length ≤ szmItemS y2 := Nat.le_add_right _ _
 have z3 : y3.length ≤ szmItemS y3 := Nat.le_add_right _ _
 have z4 : y4.length ≤ szmIntS y4 := Nat.le_refl _
 have z5 : y5.length ≤ szmIntS y5 := Nat.le_refl _
 have z7 : y7.length ≤ szmIntS y7 := Nat.le_refl _
 have z8 : y8.length ≤ szmGoneS y8 := by first | exact Nat.le_refl _ | exact Nat.le_add_right _ _
 have z9 : y9.length ≤ szmIntS y9 := Nat.le_refl _
 have z10 : y10.length ≤ szmSpotS y10 := Nat.le_add_right _ _
 have z11 := szmUserS_len y11
 have zw := wtU_cv y11
 have z12 : y12.length ≤ szmDeedS y12 := by first | exact Nat.le_refl _ | exact Nat.le_add_right _ _
 have hT := toDesk_ev y0 y1 y2 y3 y4 y5 y6 y7 y8 y9 y10 y11 y12 o2 o3 o4 o5 o7 o8 o9 o10 o11 o12
 have l2 : (y2.map cvItem).length ≤ 1048576 := by rw [List.length_map]; omega
 have l3 : (y3.map cvItem).length ≤ 1048576 := by rw [List.length_map]; omega
 have l8 : (y8.map cvGone).length ≤ 1048576 := by rw [List.length_map]; omega
 have l10 : (y10.map cvSpot).length ≤ 1048576 := by rw [List.length_map]; omega
 have l11 : (y11.map cvUser).length ≤ 1048576 := by rw [List.length_map]; omega
 have l12 : (y12.map cvDeed).length ≤ 1048576 := by rw [List.length_map]; omega
 have lw : wtU (y11.map cvUser) ≤ 1048576 := by omega
 revert hT l2 l3 l8 l10 l11 l12 lw
 generalize y2.map cvItem = u2
 generalize y3.map cvItem = u3
 generalize y8.map cvGone = u8
 generalize y10.map cvSpot = u10
 generalize y11.map cvUser = u11
 generalize y12.map cvDeed = u12
 intro hT l2 l3 l8 l10 l11 l12 lw
 obtain ⟨r, hr, hS, hI⟩ := repliesOf_ev y0 y1 u2 u3 y4 y5 y6 y7 u8 y9 u10 u11 u12 a l11 lw
 have hI' : Ev (fun _ => impl_RepliesOf.f y0 y1 u2 u3 y4 y5 y6 y7 u8 y9 u10 u11 u12 a) r := Ev.const hI
 have hE := eqReplyS_ev r (by omega)
 have hlu : lenokUserS u11 := ⟨by omega, fun x hx => by have := wtU_mem u11 x hx; exact ⟨by omega, by omega⟩⟩
 obtain ⟨mr, hM, hm⟩ := markDesk_ev y0 y1 u2 u3 y4 y5 y6 y7 u8 y9 u10 u11 u12 l2 l3 (by omega) (by omega) (by omega) l8 (by omega) l10 l11 lw l12
 refine Ev.bind hT ?_
 refine Ev.bind (Ev.const hS) ?_
 refine Ev.bind hT ?_
 refine Ev.bind hI' ?_
 refine Ev.bind hE (Ev.pos rfl ?_)
 refine Ev.bind hT ?_
 refine Ev.bind (eqDesk_ev y0 y1 u2 u3 y4 y5 y6 y7 u8 y9 u10 u11 u12 (by omega) (by omega) (by omega) (by omega) (by omega) (by omega) (by omega) (by omega) hlu (by omega)) (Ev.pos rfl ?_)
 refine Ev.bind hM (Ev.neg hm ?_)
 refine Ev.bind hE ?_
 refine Ev.step (fun _ => rfl) ?_
 simp only [laws_FnExactRepliesOf.j0]
 refine Ev.neg (by simp) ?_
 have hH := heldReplyS_ev r 1 (by omega) (by omega)
 refine Ev.bind (markReplyS_ev r 1 (by omega) (by omega)) ?_
 refine Ev.bind hH (Ev.neg (by omega) (Ev.pos rfl ?_))
 refine Ev.bind hT ?_
 refine Ev.bind hI' ?_
 refine Ev.bind hE (Ev.pos rfl ?_)
 exact Ev.bind hH (Ev.neg (by omega) (Ev.pos rfl (Ev.const rfl)))
end Go.Proofs.Ythnedklbobbkcaa.Pure

namespace Go.Proofs.Ythnedklbobbkcaa.fnExactRepliesOf
open Go.ChangeShapes Go.WideShapes Go.ChangeAt Go.RowKit Go.Proofs.Ythnedklbobbkcaa.Open Go.Proofs.Ythnedklbobbkcaa.Ok Go.Proofs.Ythnedklbobbkcaa.G.fnExactRepliesOf Go.Proofs.Ythnedklbobbkcaa.G Go.Proofs.YthnedklbobbkcaaW.PrintWords
set_option linter.unusedVariables false
theorem own : ownKnob Try.prog.godebug = none := by kernel_rfl
theorem laidOut : laidOutB Try.prog = true := by kernel_rfl
set_option maxRecDepth 100000 in
set_option maxHeartbeats 2000000 in
theorem lifted (pure : FnExactRepliesOf.Pure) (os : Os) (started : os.Started) (H : Type) (enc : TypeId × Value → H) :
  ReturnsInHanded {} Try.checked os 6 .any (Rows.fnExactRepliesOfSpec.pre6 enc Try.prog Try.f6 Rows.fnExactRepliesOfRow.domain false) (Rows.fnExactRepliesOfSpec.post enc Try.prog Try.f6 false true false false) := by
 refine returnsInHanded_of_change_sized (C := Try.checked) own started (by kernel_rfl) Try.func6
  (ChangeSpec.witness6 (enc := enc) (C := Try.checked) false ⟨#[], #[.agg #[.int .i64 0, .int .i64 0, .slice none 0 0, .slice none 0 0, .slice none 0 0, .slice none 0 0, .int .i64 0, .slice none 0 0, .slice none 0 0, .slice none 0 0, .slice none 0 0, .slice none 0 0, .slice none 0 0], .int .i64 0], []⟩ 8 (by kernel_rfl) (by kernel_rfl) (by kernel_rfl) (by kernel_rfl)) ?_
 intro W base args ds gs before hval0 hW hcnd hsz0 _
 have hsz : (DataW.weightsEach Try.prog (Try.f6.params.toList ++ Rows.fnExactRepliesOfSpec.plain.varTypes Try.prog) (ds ++ gs)).all (· ≤ reachBytes) = true := hsz0
 have hval : ∀ (j : Nat) t v, Try.f6.params[j]? = some t → args[j]? = some v → Value.okWide Try.prog W .any base t v := hval0
 have hW' := hW
 obtain ⟨p, q, hA0, hV, rfl, hfz, hnd⟩ := hW
 have hA : DataW.TrodAll enc Try.prog W 0 (fun _ => true) true Try.f6.params.toList args.toList ds p := hA0
 rw [Try.params6] at hA hval hsz
 obtain ⟨v0, vs0, d0, ds0, p0, q0, hargs, rfl, rfl, h0, r0⟩ := trodAll_cons hA
 obtain ⟨v1, vs1, d1, ds1, p1, q1, rfl, rfl, rfl, h1, r1⟩ := trodAll_cons r0
 obtain ⟨rfl, rfl, rfl⟩ := trodAll_nil r1
 obtain rfl : args = #[v0, v1] := by cases args; simp_all
 obtain ⟨rfl, rfl⟩ := trodVars_none hV
 have k0 := h0
 have lt0 : ∀ x ∈ p0, x.block < W.heap.size := by obtain ⟨m, hm⟩ := k0; exact DataW.trod_lt m _ _ _ hm
 obtain ⟨fuel0, hf0⟩ := h0
 obtain ⟨x0, hK0, ok0⟩ := opn70 H enc W fuel0 _ _ _ hf0 (weights_of hsz (j := 0) (t := 70) rfl rfl)
 obtain ⟨cs0, rfl, _⟩ := okWide_struct Try.underlying70 (hval 0 70 v0 rfl rfl)
 have hK0' : (Kd.pair (Kd.pair (Kd.int .i64) (Kd.pair (Kd.int .i64) (Kd.pair (Kd.slice 220 k220) (Kd.pair (Kd.slice 220 k220) (Kd.slice 3 (Kd.int .i64)))))) (Kd.pair (Kd.pair (Kd.slice 3 (Kd.int .i64)) (Kd.pair (Kd.pair (Kd.int .i64) (Kd.pair (Kd.slice 3 (Kd.int .i64)) (Kd.slice 244 k244))) (Kd.slice 3 (Kd.int .i64)))) (Kd.pair (Kd.slice 184 k184) (Kd.pair (Kd.slice 155 k155) (Kd.slice 193 k193))))).K W x0 cs0.toList := hK0
 obtain ⟨_, _, hcs0, ⟨_, _, rfl, rfl, ⟨_, _, rfl, rfl, ⟨_, _, rfl, ⟨A0_0, c0_0, rfl, hl0_0, hC0_0⟩, ⟨_, _, rfl, ⟨A0_1, c0_1, rfl, hl0_1, hC0_1⟩, ⟨A0_2, c0_2, rfl, hl0_2, hC0_2⟩⟩⟩⟩⟩, ⟨_, _, rfl, ⟨_, _, rfl, ⟨A0_3, c0_3, rfl, hl0_3, hC0_3⟩, ⟨_, _, rfl, ⟨_, _, rfl, rfl, ⟨_, _, rfl, ⟨A0_4, c0_4, rfl, hl0_4, hC0_4⟩, ⟨A0_5, c0_5, rfl, hl0_5, hC0_5⟩⟩⟩, ⟨A0_6, c0_6, rfl, hl0_6, hC0_6⟩⟩⟩, ⟨_, _, rfl, ⟨A0_7, c0_7, rfl, hl0_7, hC0_7⟩, ⟨_, _, rfl, ⟨A0_8, c0_8, rfl, hl0_8, hC0_8⟩, ⟨A0_9, c0_9, rfl, hl0_9, hC0_9⟩⟩⟩⟩⟩ := hK0'
 obtain rfl : cs0 = #[.int .i64 x0.1.1, .int .i64 x0.1.2.1, .slice A0_0 x0.1.2.2.1.length c0_0, .slice A0_1 x0.1.2.2.2.1.length c0_1, .slice A0_2 x0.1.2.2.2.2.length c0_2, .slice A0_3 x0.2.1.1.length c0_3, .int .i64 x0.2.1.2.1.1, .slice A0_4 x0.2.1.2.1.2.1.length c0_4, .slice A0_5 x0.2.1.2.1.2.2.length c0_5, .slice A0_6 x0.2.1.2.2.length c0_6, .slice A0_7 x0.2.2.1.length c0_7, .slice A0_8 x0.2.2.2.1.length c0_8, .slice A0_9 x0.2.2.2.2.length c0_9] := by apply Array.toList_inj.1; rw [hcs0]; rfl
 have k1 := h1
 have lt1 : ∀ x ∈ p1, x.block < W.heap.size := by obtain ⟨m, hm⟩ := k1; exact DataW.trod_lt m _ _ _ hm
 obtain ⟨fuel1, hf1⟩ := h1
 obtain ⟨x1, hK1, ok1⟩ := opn3 H enc W fuel1 _ _ _ hf1 (weights_of hsz (j := 1) (t := 3) rfl rfl)
 obtain ⟨b1, rfl, _, _, _⟩ := open_int Try.underlying3 (hval 1 3 v1 rfl rfl) k1
 obtain rfl : b1 = x1 := by have e_ : [_] = [_] := hK1; simpa using e_
 clear hA0 hval0 hsz0 hsz
 obtain ⟨k, hk⟩ := pure x0 b1 ⟨ok0, ok1⟩
 refine (Go.Proofs.Ythnedklbobbkcaa.G.laws_FnExactRepliesOf.calls k x0.1.1 x0.1.2.1 A0_0 c0_0 x0.1.2.2.1 A0_1 c0_1 x0.1.2.2.2.1 A0_2 c0_2 x0.1.2.2.2.2 A0_3 c0_3 x0.2.1.1 x0.2.1.2.1.1 A0_4 c0_4 x0.2.1.2.1.2.1 A0_5 c0_5 x0.2.1.2.1.2.2 A0_6 c0_6 x0.2.1.2.2 A0_7 c0_7 x0.2.2.1 A0_8 c0_8 x0.2.2.2.1 A0_9 c0_9 x0.2.2.2.2 b1 true W hC0_0 hl0_0 hC0_1 hl0_1 hC0_2 hl0_2 hC0_3 hl0_3 hC0_4 hl0_4 hC0_5 hl0_5 hC0_6 hl0_6 hC0_7 hl0_7 hC0_8 hl0_8 hC0_9 hl0_9 hk).mono fun e W' ⟨he, bel⟩ => ?_
 subst he
 exact ⟨_, rfl, _, _, _, [], _, [], hW', trodAll_mk1 (shut_bool Try.underlying4 _), (trodAll_cons_mk (Below.trod laidOut (by kernel_rfl) (of_decide_eq_true (by kernel_rfl)) k0 bel lt0) (trodAll_cons_mk (Below.trod laidOut (by kernel_rfl) (of_decide_eq_true (by kernel_rfl)) k1 bel lt1) trodAll_mk0)), rfl, bel.frame _, fun h => by cases h⟩
theorem over (pure : FnExactRepliesOf.Pure) : Rows.fnExactRepliesOfRow.holds Try.pinned (OpenSpec.ofChange Rows.fnExactRepliesOfSpec) :=
 OpenClaim.holds_of_wide 6 Try.f6 rfl rfl rfl rfl rfl rfl rfl ⟨rfl, rfl, rfl, rfl, rfl⟩ rfl rfl rfl rfl rfl (by kernel_rfl) Try.func6 (by kernel_rfl)
  (of_decide_eq_true (by kernel_rfl)) (by unfold Func.isWrapper; first | (rw [if_pos (by decide +kernel)]; kernel_rfl) | (rw [if_neg (by decide +kernel)]; exact ⟨rfl, rfl⟩))
  (fun os started H enc _ => lifted pure os started H enc)
end Go.Proofs.Ythnedklbobbkcaa.fnExactRepliesOf
namespace Go.Proofs.Ythnedklbobbkcaa
/-- The row, for the claim. -/
theorem fnExactRepliesOf_holds : Rows.FnExactRepliesOfSaid := fnExactRepliesOf.over Pure.FnExactRepliesOf
end Go.Proofs.Ythnedklbobbkcaa
