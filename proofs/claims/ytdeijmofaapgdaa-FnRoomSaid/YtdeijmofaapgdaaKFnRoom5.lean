/- A cache never has more than its Cap, no key twice; of one op at most one key goes, and just where it was full; no conditions. Part 5 of the claim FnRoom, merged by pack.py (this session's program) out of: the print's words, cut to what is needed; texts that gen.py printed (it runs the kit's print in place); texts of this session. -/
import Derived.ChangeArms
import Derived.SizedLaws
import Derived.DataReads
import Derived.WalkKit
import Derived.RowKit
import Derived.KernelRfl
import Derived.Laws.BitsAllLaws
import Derived.Lib.QuoteBits
import Derived.Laws.BitsLemmas
import Derived.Test.YtdeijmofaapgdaaRows
import Derived.ProofKit
import Derived.OpenShut
import Derived.ShutString
import Derived.ChangeOld
import Derived.Below
import Derived.Test.YtdeijmofaapgdaaKFnRoom0
import Derived.Test.YtdeijmofaapgdaaKFnRoom1
import Derived.Test.YtdeijmofaapgdaaKFnRoom2
import Derived.Test.YtdeijmofaapgdaaKFnRoom3
import Derived.Test.YtdeijmofaapgdaaKFnRoom4
namespace Go.Proofs.Ytdeijmofaapgdaa.Fam
end Go.Proofs.Ytdeijmofaapgdaa.Fam
namespace Go.Proofs.Ytdeijmofaapgdaa.G
end Go.Proofs.Ytdeijmofaapgdaa.G
namespace Go.Proofs.Ytdeijmofaapgdaa.G.fnRoom
end Go.Proofs.Ytdeijmofaapgdaa.G.fnRoom
namespace Go.Proofs.Ytdeijmofaapgdaa.Ok
end Go.Proofs.Ytdeijmofaapgdaa.Ok
namespace Go.Proofs.Ytdeijmofaapgdaa.Open
end Go.Proofs.Ytdeijmofaapgdaa.Open
namespace Go.Proofs.Ytdeijmofaapgdaa.PL
end Go.Proofs.Ytdeijmofaapgdaa.PL
namespace Go.Proofs.Ytdeijmofaapgdaa.Q
end Go.Proofs.Ytdeijmofaapgdaa.Q
namespace Go.Proofs.Ytdeijmofaapgdaa.Open
open Go.RowKit Go.Proofs.YtdeijmofaapgdaaW.PrintWords
/-- Whatever is read at type t is of the kind k, and meets ok. -/
def Opn {α : Type} (P : Program) (t : TypeId) (k : Kd α) (ok : α → Prop) : Prop :=
 ∀ (H : Type) (enc : TypeId × Value → H) (W : World) (fuel : Nat) (cs : List Value) (d : DataW H) (ps : List MemPlace),
  DataW.trod enc P W 0 (fun _ => true) true fuel t cs = some (d, ps) → (∀ n ∈ d.weights P t, n ≤ reachBytes) → ∃ x, k.K W x cs ∧ ok x
theorem Opn.int {P : Program} {t : TypeId} {q : IntKind} (ht : P.underlying t = some (.int q)) : Opn P t (Kd.int q) (fun n => (Lit.int q n).wf = true) := by
 intro H enc W fuel cs d ps h _
 obtain ⟨n, rfl, _, hw⟩ := DataW.trod_int ht h
 exact ⟨n, rfl, hw⟩
theorem Opn.bool {P : Program} {t : TypeId} (ht : P.underlying t = some .bool) : Opn P t Kd.bool (fun _ => True) := by
 intro H enc W fuel cs d ps h _
 obtain ⟨b, rfl, _⟩ := DataW.trod_bool ht h
 exact ⟨b, rfl, trivial⟩
theorem Opn.string {P : Program} {t : TypeId} (ht : P.underlying t = some .string) : Opn P t Kd.string (fun s => s.size ≤ 140737488351232) := by
 intro H enc W fuel cs d ps h hz
 obtain ⟨s, rfl, hx, _⟩ := DataW.trod_string ht h
 refine ⟨s, rfl, ?_⟩
 obtain ⟨rfl, _⟩ := Prod.mk.inj hx
 have := hz s.data.toList.length (by simp [DataW.weights])
 rw [Array.length_toList] at this
 exact this
theorem Opn.mono {α : Type} {P : Program} {t : TypeId} {k : Kd α} {ok ok' : α → Prop} (h : Opn P t k ok) (hok : ∀ x, ok x → ok' x) : Opn P t k ok' := by
 intro H enc W fuel cs d ps hd hz
 obtain ⟨x, hx, ho⟩ := h H enc W fuel cs d ps hd hz
 exact ⟨x, hx, hok x ho⟩
/-- The fields from one on, one behind the other. -/
def OpnFs {α : Type} (P : Program) (fs : List Field) (off : Nat) (k : Kd α) (ok : α → Prop) : Prop :=
 ∀ (H : Type) (enc : TypeId × Value → H) (W : World) (fuel : Nat) (cs : List Value) (xs : List (DataW H × List MemPlace)),
  xs.length = fs.length → (∀ (i : Nat) (f : Field), fs[i]? = some f → DataW.trod enc P W 0 (fun _ => true) true fuel f.type ((cs.drop f.offset).take (P.cellsOf f.type)) = xs[i]?) →
  (∀ n ∈ DataW.weightsEach P (fs.map (·.type)) (xs.map (·.1)), n ≤ reachBytes) → ∃ x, k.K W x ((cs.drop off).take k.sz) ∧ ok x
theorem OpnFs.one {α : Type} {P : Program} {f : Field} {off : Nat} {k : Kd α} {ok : α → Prop} (ho : f.offset = off) (hc : P.cellsOf f.type = k.sz) (h : Opn P f.type k ok) : OpnFs P [f] off k ok := by
 intro H enc W fuel cs xs hl hx hz
 have h0 := hx 0 f rfl
 rw [ho, hc] at h0
 match xs, hl with
 | [x], _ =>
  refine h H enc W fuel _ x.1 x.2 h0 (fun n hn => hz n ?_)
  simp [DataW.weightsEach, hn]
theorem OpnFs.cons {α β : Type} {P : Program} {f : Field} {fs : List Field} {off : Nat} {k : Kd α} {k2 : Kd β} {ok : α → Prop} {ok2 : β → Prop} (ho : f.offset = off) (hc : P.cellsOf f.type = k.sz) (h : Opn P f.type k ok)
  (h2 : OpnFs P fs (off + k.sz) k2 ok2) : OpnFs P (f :: fs) off (Kd.pair k k2) (fun x => ok x.1 ∧ ok2 x.2) := by
 intro H enc W fuel cs xs hl hx hz
 have h0 := hx 0 f rfl
 rw [ho, hc] at h0
 match xs, hl with
 | x :: xs, hl =>
  obtain ⟨a, ha, hoa⟩ := h H enc W fuel _ x.1 x.2 h0 (fun n hn => hz n (by simp [DataW.weightsEach, hn]))
  obtain ⟨b, hb, hob⟩ := h2 H enc W fuel cs xs (by simpa using hl) (fun i g hg => by simpa using hx (i + 1) g (by simpa using hg)) (fun n hn => hz n (by simp only [List.map_cons, DataW.weightsEach, List.mem_append]; exact Or.inr hn))
  refine ⟨(a, b), ⟨_, _, ?_, ha, hb⟩, hoa, hob⟩
  show (cs.drop off).take (k.sz + k2.sz) = _
  rw [List.take_add, List.drop_drop]
theorem Opn.struct {α : Type} {P : Program} {t : TypeId} {fs : Array Field} {k : Kd α} {ok : α → Prop} (ht : P.underlying t = some (.struct fs)) (hc : P.cellsOf t = k.sz) (h : OpnFs P fs.toList 0 k ok) : Opn P t k ok := by
 intro H enc W fuel cs d ps hd hz
 obtain ⟨xs, n, rfl, hx, hl, hxl, hf⟩ := DataW.trod_struct ht hd
 obtain ⟨rfl, _⟩ := Prod.mk.inj hx
 obtain ⟨x, hK, ho⟩ := h H enc W n cs xs (by simpa using hxl) (fun i f hi => hf i f (by simpa using hi)) (fun m hm => hz m (by simp only [DataW.weights, ht]; exact hm))
 refine ⟨x, ?_, ho⟩
 rw [List.drop_zero, List.take_of_length_le (by omega)] at hK
 exact hK
theorem Opn.iso {α β : Type} {P : Program} {t : TypeId} {k : Kd α} {ok : α → Prop} {f : β → α} (g : α → β) (hg : ∀ x, f (g x) = x) (h : Opn P t k ok) : Opn P t (Kd.iso k f) (fun y => ok (f y)) := by
 intro H enc W fuel cs d ps hd hz
 obtain ⟨x, hx, ho⟩ := h H enc W fuel cs d ps hd hz
 exact ⟨g x, by show k.K W (f (g x)) cs; rw [hg]; exact hx, by show ok (f (g x)); rw [hg]; exact ho⟩
theorem weightsAll_mem {H : Type} {P : Program} {e : TypeId} : ∀ {l : List (DataW H)} {d : DataW H}, d ∈ l → ∀ n ∈ d.weights P e, n ∈ DataW.weightsAll P e l
 | a :: l, d, hd, n, hn => by
  simp only [DataW.weightsAll, List.mem_append]
  rcases List.mem_cons.1 hd with rfl | hd
  ·exact .inl hn
  ·exact .inr (weightsAll_mem hd n hn)
theorem choose_list {α : Type} (p : Nat → α → Prop) : ∀ (n : Nat), (∀ i, i < n → ∃ x, p i x) → ∃ xs : List α, xs.length = n ∧ ∀ i x, xs[i]? = some x → p i x
 | 0, _ => ⟨[], rfl, fun i x h => by simp at h⟩
 | n + 1, h => by
  obtain ⟨xs, hl, hx⟩ := choose_list p n (fun i hi => h i (by omega))
  obtain ⟨y, hy⟩ := h n (by omega)
  refine ⟨xs ++ [y], by simp [hl], fun i x hi => ?_⟩
  rcases Nat.lt_or_ge i n with hin | hin
  ·rw [List.getElem?_append_left (by omega)] at hi
   exact hx i x hi
  ·rw [List.getElem?_append_right (by omega)] at hi
   have : i - xs.length = 0 := by
    rcases Nat.eq_zero_or_pos (i - xs.length) with h0 | h0
    ·exact h0
    ·rw [List.getElem?_eq_none (by simp; omega)] at hi
     cases hi
   rw [this] at hi
   simp only [List.getElem?_cons_zero, Option.some.injEq] at hi
   subst hi
   have : i = n := by omega
   subst this
   exact hy
theorem Opn.slice {α : Type} {P : Program} {t e : TypeId} {k : Kd α} {ok : α → Prop} (B : Nat) (ht : P.underlying t = some (.slice e)) (hc : P.cellsOf e = k.sz) (hB : P.bytesOf e = B) (h : Opn P e k ok) :
  Opn P t (Kd.slice e k) (fun xs => (∀ x ∈ xs, ok x) ∧ xs.length * B ≤ 140737488351232) := by
 intro H enc W fuel cs d ps hd hz
 rcases DataW.trod_slice ht hd with ⟨rfl, _⟩ | ⟨a, len, cap, elems, rest, n, rfl, rfl, hx, _, hl, hm, hel, hcell, _, _⟩
 ·exact ⟨[], ⟨none, 0, rfl, Nat.le_refl _, Kd.C_nil _ _⟩, by simp, by simp⟩
 ·obtain ⟨rfl, _⟩ := Prod.mk.inj hx
  have hz0 := hz (((elems.map (·.1)).length + (rest.map (·.1)).length) * P.bytesOf e) (by simp only [DataW.weights, ht]; exact List.mem_cons_self)
  have hpick : ∀ i, i < len → ∃ x : α, (∃ c, c.length = k.sz ∧ k.K W x c ∧ ∀ j u, c[j]? = some u → W.cell? (a.add (i * k.sz + j)) = some u) ∧ ok x := by
   intro i hi
   have h1 := hcell i hi
   rw [List.getElem?_eq_getElem (by omega)] at h1
   obtain ⟨c, hc1, hc2⟩ := Option.bind_eq_some_iff.1 h1
   obtain ⟨_, hcl, hcc⟩ := World.cells?_some hc1
   obtain ⟨x, hx, ho⟩ := h H enc W n c _ _ hc2 (fun m hm => hz m (by
    simp only [DataW.weights, ht, List.mem_cons, List.mem_append]
    exact .inr (.inl (weightsAll_mem (List.mem_map.2 ⟨_, List.getElem_mem (by omega), rfl⟩) m hm))))
   refine ⟨x, ⟨c, by omega, hx, fun j u hu => ?_⟩, ho⟩
   have hj : j < c.length := by
    rcases Nat.lt_or_ge j c.length with hj | hj
    ·exact hj
    ·rw [List.getElem?_eq_none hj] at hu; cases hu
   have := hcc j (by omega)
   rw [hu, hc] at this
   rw [← this]
   rw [Addr.add_add]
  obtain ⟨xs, hxl, hxs⟩ := choose_list _ len hpick
  subst hxl
  refine ⟨xs, ⟨some a, cap, rfl, hl, rfl, by unfold maxLen at hm; omega, fun _ => ⟨a, rfl, fun j p hj => (hxs j p hj).1⟩⟩, fun x hx => ?_, ?_⟩
  ·obtain ⟨i, hi⟩ := List.getElem?_of_mem hx
   exact (hxs i x hi).2
  ·rw [hB] at hz0
   refine Nat.le_trans (Nat.mul_le_mul_right _ ?_) hz0
   simp only [List.length_map]
   omega
/-- What a kind says of one cell that a slice's value stands in. -/
theorem slice_cell {α : Type} {e : Nat} {k : Kd α} {W : World} {xs : List α} {v : Value} (h : (Kd.slice e k).K W xs [v]) : ∃ A c, v = .slice A xs.length c ∧ xs.length ≤ c ∧ Kd.C k W A xs.length xs := by
 obtain ⟨A, c, hv, hl, hC⟩ := h
 simp only [List.cons.injEq, and_true] at hv
 exact ⟨A, c, hv, hl, hC⟩
theorem weights_of {H : Type} {P : Program} {ts : List TypeId} {ds : List (DataW H)} {j : Nat} {t : TypeId} {d : DataW H} (hsz : (DataW.weightsEach P ts ds).all (· ≤ reachBytes) = true) (ht : ts[j]? = some t) (hd : ds[j]? = some d) :
  ∀ n ∈ d.weights P t, n ≤ reachBytes := fun n hn => by
 have := List.all_eq_true.1 hsz _ (DataW.weights_mem_each ht hd n hn)
 simpa using this
end Go.Proofs.Ytdeijmofaapgdaa.Open

namespace Go.Proofs.Ytdeijmofaapgdaa.Ok
open Go.RowKit Go.Proofs.Ytdeijmofaapgdaa.Open Go.Proofs.Ytdeijmofaapgdaa.G Go.Proofs.YtdeijmofaapgdaaW.PrintWords Go.Proofs.YtdeijmofaapgdaaW.PrintLast
set_option linter.unusedVariables false
theorem wf_int {k : IntKind} {n : Int} (h : (Lit.int k n).wf = true) : k.min ≤ n ∧ n ≤ k.max := by
 simpa [Lit.wf] using h
def okT5 (n : Int) : Prop := 0 ≤ n ∧ n ≤ 255
set_option maxRecDepth 100000 in
theorem opn5 : Opn Try.prog 5 (Kd.int .u8) okT5 := (Opn.int Try.underlying5).mono (fun n h => by have e := wf_int (k := .u8) h; rw [show IntKind.min .u8 = 0 from by decide, show IntKind.max .u8 = 255 from by decide] at e; exact e)
def okT56 (xs : List Int) : Prop := (∀ x ∈ xs, okT5 x) ∧ xs.length * 1 ≤ 140737488351232
set_option maxRecDepth 100000 in
theorem opn56 : Opn Try.prog 56 (Kd.slice 5 (Kd.int .u8)) okT56 := Opn.slice 1 Try.underlying56 (by kernel_rfl) (by kernel_rfl) opn5
end Go.Proofs.Ytdeijmofaapgdaa.Ok

namespace Go.Proofs.Ytdeijmofaapgdaa.G.fnRoom
open Go.RowKit Go.Proofs.Ytdeijmofaapgdaa.Open Go.Proofs.Ytdeijmofaapgdaa.Ok Go.Proofs.Ytdeijmofaapgdaa.G Go.Proofs.YtdeijmofaapgdaaW.PrintWords Go.Proofs.YtdeijmofaapgdaaW.PrintLast
set_option linter.unusedVariables false
def FnRoom.okIn (x0 : List Int) : Prop := okT56 x0
def FnRoom.Pure : Prop := ∀ (x0 : List Int), FnRoom.okIn x0 → ∃ k, laws_FnRoom.f k x0 = some true
end Go.Proofs.Ytdeijmofaapgdaa.G.fnRoom

namespace Go.Proofs.Ytdeijmofaapgdaa.PL
open Go.RowKit Go.Proofs.YtdeijmofaapgdaaW.PrintWords
theorem Ev.const {α : Type} {x : Option α} {r : α} (h : x = some r) : Ev (fun _ => x) r := ⟨0, fun _ _ => h⟩
theorem Ev.pos {α : Type} {c : Prop} [Decidable c] {f g : Nat → Option α} {r : α} (hc : c) (h : Ev f r) : Ev (fun k => if c then f k else g k) r := by
 obtain ⟨K, h⟩ := h
 exact ⟨K, fun k hk => (if_pos hc).trans (h k hk)⟩
theorem Ev.neg {α : Type} {c : Prop} [Decidable c] {f g : Nat → Option α} {r : α} (hc : ¬ c) (h : Ev g r) : Ev (fun k => if c then f k else g k) r := by
 obtain ⟨K, h⟩ := h
 exact ⟨K, fun k hk => (if_neg hc).trans (h k hk)⟩
theorem Ev.to {α : Type} {f : Nat → Option α} {r s : α} (h : Ev f r) (e : r = s) : Ev f s := e ▸ h
theorem w64 {x : Int} (h0 : -9223372036854775808 ≤ x) (h1 : x ≤ 9223372036854775807) : wrap64 x = x := by
 unfold wrap64
 omega
theorem wsucc {i : Nat} (h : i < 9223372036854775807) : wrap64 ((i : Int) + 1) = ((i + 1 : Nat) : Int) := by
 rw [w64 (by omega) (by omega)]
 omega
theorem getD_at {α : Type} {xs : List α} {i : Nat} (h : i < xs.length) (z : α) : xs.getD ((i : Nat) : Int).toNat z = xs[i] := by
 simp [List.getD_eq_getElem?_getD, h]
theorem drop_at {α : Type} {xs : List α} {i : Nat} (h : i < xs.length) : xs.drop i = xs[i] :: xs.drop (i + 1) := List.drop_eq_getElem_cons h
theorem bytes_eq {a b : ByteArray} : a.toList = b.toList ↔ a = b := by
 rw [ByteArray.toList_eq, ByteArray.toList_eq]
 constructor
 ·intro h
  cases a; cases b
  simp at h
  simp [h]
 ·intro h; rw [h]
end Go.Proofs.Ytdeijmofaapgdaa.PL
namespace Go.Proofs.Ytdeijmofaapgdaa.Ok
end Go.Proofs.Ytdeijmofaapgdaa.Ok
namespace Go.Proofs.Ytdeijmofaapgdaa.Fam
end Go.Proofs.Ytdeijmofaapgdaa.Fam
namespace Go.Proofs.Ytdeijmofaapgdaa.Q
end Go.Proofs.Ytdeijmofaapgdaa.Q
namespace Go.Proofs.Ytdeijmofaapgdaa.Man
end Go.Proofs.Ytdeijmofaapgdaa.Man

namespace Go.Proofs.Ytdeijmofaapgdaa.Q
open Go.RowKit Go.Proofs.Ytdeijmofaapgdaa.PL Go.Proofs.YtdeijmofaapgdaaW.PrintWords
def bs (s : ByteArray) : List UInt8 := s.data.toList
theorem bs_length (s : ByteArray) : (bs s).length = s.size := by unfold bs; rw [Array.length_toList]; rfl
theorem bs_inj {a b : ByteArray} (h : bs a = bs b) : a = b := by
 cases a; cases b
 simp [bs] at h
 simp [h]
theorem bs_toList (a : ByteArray) : a.toList = bs a := ByteArray.toList_eq a
theorem toList_nil {a : ByteArray} : a.toList = [] ↔ a = ⟨#[]⟩ := by
 rw [bs_toList]
 exact ⟨fun h => bs_inj (by rw [h]; rfl), fun h => by rw [h]; rfl⟩
theorem bt_eq (s : ByteArray) (i : Nat) (h : i < s.size) : bt s (i : Int) = (((bs s)[i]'(by rw [bs_length]; exact h)).toNat : Int) := by
 unfold bt bs
 simp only [Int.toNat_natCast, h, dif_pos]
 rfl
theorem drop_bs (s : ByteArray) (i : Nat) (h : i < s.size) : (bs s).drop i = (bs s)[i]'(by rw [bs_length]; exact h) :: (bs s).drop (i + 1) := List.drop_eq_getElem_cons (by rw [bs_length]; exact h)
theorem u8_eq {a : UInt8} {n : Nat} (hn : n < 256) : ((a.toNat : Int) = (n : Int)) ↔ a = UInt8.ofNat n := by
 constructor
 ·intro h
  apply UInt8.toNat.inj
  rw [UInt8.toNat_ofNat']
  omega
 ·intro h
  rw [h, UInt8.toNat_ofNat']
  omega
end Go.Proofs.Ytdeijmofaapgdaa.Q

namespace Go.Proofs.Ytdeijmofaapgdaa.Q
open Go.RowKit Go.Proofs.Ytdeijmofaapgdaa.G Go.Proofs.Ytdeijmofaapgdaa.PL Go.Proofs.YtdeijmofaapgdaaW.PrintWords
def clean (s : ByteArray) : Bool := (bs s).all fun b => b != 32 && b != 10
theorem spec_l10Clean_l0 (s : ByteArray) (hs : s.size ≤ 140737488351232) : ∀ (d i : Nat), i + d = s.size → Ev (fun k => spec_l10Clean.l0 k s i) (((bs s).drop i).all fun b => b != 32 && b != 10) := by
 intro d
 induction d with
 | zero =>
  intro i hi
  refine Ev.step (fun _ => rfl) ?_
  simp only [spec_l10Clean.l0]
  refine Ev.neg (by omega) ?_
  rw [List.drop_of_length_le (by rw [bs_length]; omega)]
  exact Ev.const rfl
 | succ d ih =>
  intro i hi
  have hlt : i < s.size := by omega
  refine Ev.step (fun _ => rfl) ?_
  simp only [spec_l10Clean.l0]
  rw [bt_eq s i hlt, drop_bs s i hlt, List.all_cons, wsucc (by omega)]
  refine Ev.pos (by omega) ?_
  refine Ev.pos (by omega) ?_
  generalize (bs s)[i]'_ = b
  by_cases c : (b.toNat : Int) = 32
  ·refine Ev.pos c ?_
   have : b = 32 := (u8_eq (n := 32) (by omega)).1 c
   exact Ev.const (by simp [this])
  ·refine Ev.neg c ?_
   have h1 : ¬ b = 32 := fun h => c ((u8_eq (n := 32) (by omega)).2 h)
   by_cases c2 : (b.toNat : Int) = 10
   ·refine Ev.pos c2 ?_
    have : b = 10 := (u8_eq (n := 10) (by omega)).1 c2
    exact Ev.const (by simp [this])
   ·refine Ev.neg c2 ?_
    have h2 : ¬ b = 10 := fun h => c2 ((u8_eq (n := 10) (by omega)).2 h)
    refine Ev.to (ih (i + 1) (by omega)) ?_
    simp [h1, h2]
theorem spec_l10Clean_ev (s : ByteArray) (hs : s.size ≤ 140737488351232) : Ev (fun k => spec_l10Clean.f k s) (clean s) := by
 unfold spec_l10Clean.f
 exact spec_l10Clean_l0 s hs s.size 0 (by omega)
theorem impl_isPlain_l0 (s : ByteArray) (hs : s.size ≤ 140737488351232) : ∀ (d i : Nat), i + d = s.size → Ev (fun k => impl_isPlain.l0 k s i) (((bs s).drop i).all fun b => b != 32 && b != 10) := by
 intro d
 induction d with
 | zero =>
  intro i hi
  refine Ev.step (fun _ => rfl) ?_
  simp only [impl_isPlain.l0]
  refine Ev.neg (by omega) ?_
  rw [List.drop_of_length_le (by rw [bs_length]; omega)]
  exact Ev.const rfl
 | succ d ih =>
  intro i hi
  have hlt : i < s.size := by omega
  refine Ev.step (fun _ => rfl) ?_
  simp only [impl_isPlain.l0]
  rw [bt_eq s i hlt, drop_bs s i hlt, List.all_cons, wsucc (by omega)]
  refine Ev.pos (by omega) ?_
  refine Ev.pos (by omega) ?_
  generalize (bs s)[i]'_ = b
  by_cases c : (b.toNat : Int) = 32
  ·refine Ev.pos c ?_
   have : b = 32 := (u8_eq (n := 32) (by omega)).1 c
   exact Ev.const (by simp [this])
  ·refine Ev.neg c ?_
   have h1 : ¬ b = 32 := fun h => c ((u8_eq (n := 32) (by omega)).2 h)
   by_cases c2 : (b.toNat : Int) = 10
   ·refine Ev.pos c2 ?_
    have : b = 10 := (u8_eq (n := 10) (by omega)).1 c2
    exact Ev.const (by simp [this])
   ·refine Ev.neg c2 ?_
    have h2 : ¬ b = 10 := fun h => c2 ((u8_eq (n := 10) (by omega)).2 h)
    refine Ev.to (ih (i + 1) (by omega)) ?_
    simp [h1, h2]
theorem impl_isPlain_ev (s : ByteArray) (hs : s.size ≤ 140737488351232) : Ev (fun k => impl_isPlain.f k s) (clean s) := by
 unfold impl_isPlain.f
 exact impl_isPlain_l0 s hs s.size 0 (by omega)
def itemOk (key val : ByteArray) (freq : Int) : Bool := decide (1 ≤ key.size) && decide (key.size ≤ 20) && clean key && decide (val.size ≤ 40) && clean val && decide (0 ≤ freq) && decide (freq ≤ 3)
theorem impl_within_eq (x lo hi : Int) : impl_within.f x lo hi = some (decide (lo ≤ x) && decide (x ≤ hi)) := by
 unfold impl_within.f
 by_cases h : x ≥ lo
 ·rw [if_pos h]; simp [h]
 ·rw [if_neg h]
  have : ¬ lo ≤ x := h
  simp [this]
theorem spec_l01In_eq (x lo hi : Int) : spec_l01In.f x lo hi = some (decide (lo ≤ x) && decide (x ≤ hi)) := by
 unfold spec_l01In.f
 by_cases h : x ≥ lo
 ·rw [if_pos h]; simp [h]
 ·rw [if_neg h]
  have : ¬ lo ≤ x := h
  simp [this]
theorem spec_ItemOk_ev (key val : ByteArray) (freq : Int) (h0 : key.size ≤ 140737488351232) (h1 : val.size ≤ 140737488351232) : Ev (fun k => spec_ItemOk.f k key val freq) (itemOk key val freq) := by
 unfold spec_ItemOk.f itemOk
 by_cases a : 1 ≤ key.size
 rotate_left
 ·exact Ev.neg (by omega) (Ev.const (by simp [a]))
 refine Ev.pos (by omega) ?_
 by_cases b : key.size ≤ 20
 rotate_left
 ·exact Ev.neg (by omega) (Ev.const (by simp [b]))
 refine Ev.pos (by omega) ?_
 refine Ev.bind (spec_l10Clean_ev key h0) ?_
 cases c : clean key
 ·exact Ev.neg (by simp) (Ev.const (by simp))
 refine Ev.pos rfl ?_
 by_cases d : val.size ≤ 40
 rotate_left
 ·exact Ev.neg (by omega) (Ev.const (by simp [d]))
 refine Ev.pos (by omega) ?_
 refine Ev.bind (spec_l10Clean_ev val h1) ?_
 cases e : clean val
 ·exact Ev.neg (by simp) (Ev.const (by simp))
 refine Ev.pos rfl ?_
 refine Ev.bind (Ev.const (spec_l01In_eq _ _ _)) ?_
 exact Ev.const (by simp [a, b, d])
theorem impl_ItemOk_ev (key val : ByteArray) (freq : Int) (h0 : key.size ≤ 140737488351232) (h1 : val.size ≤ 140737488351232) : Ev (fun k => impl_ItemOk.f k key val freq) (itemOk key val freq) := by
 unfold impl_ItemOk.f itemOk
 refine Ev.bind (Ev.const (impl_within_eq _ _ _)) ?_
 by_cases a : 1 ≤ key.size
 rotate_left
 ·exact Ev.neg (by simp; omega) (Ev.const (by simp [a]))
 by_cases b : key.size ≤ 20
 rotate_left
 ·exact Ev.neg (by simp; omega) (Ev.const (by simp [b]))
 refine Ev.pos (by simp; omega) ?_
 by_cases d : val.size ≤ 40
 rotate_left
 ·exact Ev.neg (by omega) (Ev.const (by simp [d]))
 refine Ev.pos (by omega) ?_
 refine Ev.bind (impl_isPlain_ev key h0) ?_
 cases c : clean key
 ·exact Ev.neg (by simp) (Ev.const (by simp))
 refine Ev.pos rfl ?_
 refine Ev.bind (impl_isPlain_ev val h1) ?_
 cases e : clean val
 ·exact Ev.neg (by simp) (Ev.const (by simp))
 refine Ev.pos rfl ?_
 refine Ev.bind (Ev.const (impl_within_eq _ _ _)) ?_
 exact Ev.const (by simp [a, b, d])
def isNum (a : Int) : Bool := decide (0 ≤ a) && decide (a ≤ 4294967295)
theorem spec_l01Num_eq (a : Int) : spec_l01Num.f a = some (isNum a) := by
 unfold spec_l01Num.f isNum
 by_cases h : a ≥ 0
 ·rw [if_pos h]; simp [h]
 ·rw [if_neg h]
  have : ¬ 0 ≤ a := h
  simp [this]
theorem impl_isNum_eq (a : Int) : impl_isNum.f a = some (isNum a) := by
 unfold impl_isNum.f isNum
 rw [impl_within_eq]
 rfl
end Go.Proofs.Ytdeijmofaapgdaa.Q

namespace Go.Proofs.Ytdeijmofaapgdaa.Q
open Go.RowKit Go.Proofs.Ytdeijmofaapgdaa.G Go.Proofs.Ytdeijmofaapgdaa.PL Go.Proofs.YtdeijmofaapgdaaW.PrintWords Go.Proofs.YtdeijmofaapgdaaW.PrintLast
abbrev It := S95
def small (l : List It) : Prop := l.length ≤ 4194304 ∧ ∀ x ∈ l, x.f0.size ≤ 140737488351232 ∧ x.f1.size ≤ 140737488351232
theorem spec_l10At_l0 (key : ByteArray) (l : List It) (hl : l.length ≤ 4194304) : ∀ (d i : Nat), i + d = l.length → Ev (fun k => spec_l10At.l0 k key l (l.length : Int) (i : Int)) (impl_itemAt.idx key (l.drop i) i) := by
 intro d
 induction d with
 | zero =>
  intro i hi
  rw [List.drop_of_length_le (by omega)]
  refine Ev.step (fun _ => rfl) ?_
  simp only [spec_l10At.l0]
  exact Ev.neg (by omega) (Ev.const (by rw [impl_itemAt.idx]))
 | succ d ih =>
  intro i hi
  have hx : i < l.length := by omega
  have er : rd_T95 l (i : Int) = l[i] := getD_at hx _
  refine Ev.step (fun _ => rfl) ?_
  simp only [spec_l10At.l0]
  rw [er, drop_at hx, impl_itemAt.idx]
  refine Ev.pos (by omega) (Ev.pos (by omega) (Ev.pos (by omega) ?_))
  by_cases c : l[i].f0.toList = key.toList
  ·exact Ev.pos c (Ev.const (by rw [if_pos c]))
  ·refine Ev.neg c ?_
   rw [if_neg c, wsucc (by omega)]
   exact ih (i + 1) (by omega)
theorem spec_l10At_ev (l : List It) (key : ByteArray) (hl : l.length ≤ 4194304) : Ev (fun k => spec_l10At.f k l key) (impl_itemAt.idx key l 0) := by
 unfold spec_l10At.f
 exact spec_l10At_l0 key l hl l.length 0 (by omega)
theorem spec_l03Has_l0 (a : Int) (l : List Int) (hl : l.length ≤ 140737488351232) : ∀ (d i : Nat), i + d = l.length → Ev (fun k => spec_l03Has.l0 k a l (l.length : Int) (i : Int)) (decide (a ∈ l.drop i)) := by
 intro d
 induction d with
 | zero =>
  intro i hi
  rw [List.drop_of_length_le (by omega)]
  refine Ev.step (fun _ => rfl) ?_
  simp only [spec_l03Has.l0]
  exact Ev.neg (by omega) (Ev.const (by simp))
 | succ d ih =>
  intro i hi
  have hx : i < l.length := by omega
  have er : rd l (i : Int) = l[i] := getD_at hx _
  refine Ev.step (fun _ => rfl) ?_
  simp only [spec_l03Has.l0]
  rw [er, drop_at hx]
  refine Ev.pos (by omega) (Ev.pos (by omega) (Ev.pos (by omega) ?_))
  by_cases c : l[i] = a
  ·exact Ev.pos c (Ev.const (by simp [c]))
  ·refine Ev.neg c ?_
   rw [wsucc (by omega)]
   refine Ev.to (ih (i + 1) (by omega)) ?_
   have c' : ¬ a = l[i] := fun h => c h.symm
   simp only [List.mem_cons, c', false_or]
theorem spec_l03Has_ev (l : List Int) (a : Int) (hl : l.length ≤ 140737488351232) : Ev (fun k => spec_l03Has.f k l a) (decide (a ∈ l)) := by
 unfold spec_l03Has.f
 exact spec_l03Has_l0 a l hl l.length 0 (by omega)
def posI (a : Int) : List Int → Nat → Int
 | [], _ => -1
 | x :: r, i => if a = x then (i : Int) else posI a r (i + 1)
theorem posI_ge (a : Int) : ∀ (l : List Int) (i : Nat), decide (posI a l i ≥ 0) = decide (a ∈ l)
 | [], i => by simp [posI]
 | x :: r, i => by
  rw [posI]
  by_cases c : a = x
  ·rw [if_pos c]; simp [c]
  ·rw [if_neg c, posI_ge a r (i + 1)]; simp [c]
theorem slices_Index_l0 (a : Int) (l : List Int) (hl : l.length ≤ 140737488351232) : ∀ (d i : Nat), i + d = l.length → Ev (fun k => slices_Index_int_int.l0 k l a (l.length : Int) (i : Int)) (posI a (l.drop i) i) := by
 intro d
 induction d with
 | zero =>
  intro i hi
  rw [List.drop_of_length_le (by omega)]
  refine Ev.step (fun _ => rfl) ?_
  simp only [slices_Index_int_int.l0]
  exact Ev.neg (by omega) (Ev.const rfl)
 | succ d ih =>
  intro i hi
  have hx : i < l.length := by omega
  have er : rd l (i : Int) = l[i] := getD_at hx _
  refine Ev.step (fun _ => rfl) ?_
  simp only [slices_Index_int_int.l0]
  rw [er, drop_at hx, posI]
  refine Ev.pos (by omega) (Ev.pos (by omega) (Ev.pos (by omega) ?_))
  by_cases c : a = l[i]
  ·exact Ev.pos c (Ev.const (by rw [if_pos c]))
  ·refine Ev.neg c ?_
   rw [if_neg c, wsucc (by omega)]
   exact ih (i + 1) (by omega)
theorem slices_Contains_ev (l : List Int) (a : Int) (hl : l.length ≤ 140737488351232) : Ev (fun k => slices_Contains_int_int.f k l a) (decide (a ∈ l)) := by
 unfold slices_Contains_int_int.f slices_Index_int_int.f
 refine Ev.bind (slices_Index_l0 a l hl l.length 0 (by omega)) (Ev.const ?_)
 rw [List.drop_zero, posI_ge]
def goodFrom (all : List It) : Nat → List It → Bool
 | _, [] => true
 | i, x :: r => itemOk x.f0 x.f1 x.f2 && (decide (impl_itemAt.idx x.f0 all 0 = (i : Int)) && goodFrom all (i + 1) r)
def numsFrom (g : List Int) : Nat → List Int → Bool
 | _, [] => true
 | i, x :: r => isNum x && (!decide (x ∈ g.take i) && numsFrom g (i + 1) r)
def threeOk (cap most : Int) (s m : List It) (g : List Int) : Bool := decide (1 ≤ cap ∧ cap ≤ 60) && (decide (1 ≤ most ∧ most ≤ cap) && (decide (((s.length + m.length : Nat) : Int) ≤ cap) && (decide ((g.length : Int) ≤ max 1 (cap - most)) && (goodFrom (s ++ m) 0 (s ++ m) && numsFrom g 0 g))))
theorem impl_areItems_l0 (l : List It) (hl : small l) : ∀ (d i : Nat), i + d = l.length → Ev (fun k => impl_areItems.l0 k l l (l.length : Int) (i : Int)) (goodFrom l i (l.drop i)) := by
 have hl1 := hl.1
 intro d
 induction d with
 | zero =>
  intro i hi
  rw [List.drop_of_length_le (by omega)]
  refine Ev.step (fun _ => rfl) ?_
  simp only [impl_areItems.l0]
  exact Ev.neg (by omega) (Ev.const rfl)
 | succ d ih =>
  intro i hi
  have hx : i < l.length := by omega
  have hm := hl.2 l[i] (List.getElem_mem hx)
  have er : rd_T95 l (i : Int) = l[i] := getD_at hx _
  refine Ev.step (fun _ => rfl) ?_
  simp only [impl_areItems.l0]
  rw [er, drop_at hx, goodFrom]
  refine Ev.pos (by omega) (Ev.pos (by omega) (Ev.pos (by omega) ?_))
  refine Ev.bind (impl_ItemOk_ev _ _ _ hm.1 hm.2) ?_
  cases c : itemOk l[i].f0 l[i].f1 l[i].f2
  ·exact Ev.neg (by simp) (Ev.const rfl)
  refine Ev.pos rfl ?_
  refine Ev.bind (Ev.const (show impl_itemAt.f l l[i].f0 = some _ from rfl)) ?_
  by_cases e : impl_itemAt.idx l[i].f0 l 0 = (i : Int)
  ·refine Ev.pos e ?_
   rw [wsucc (by omega)]
   refine Ev.to (ih (i + 1) (by omega)) ?_
   simp [e]
  ·exact Ev.neg e (Ev.const (by simp [e]))
theorem impl_areItems_ev (l : List It) (hl : small l) : Ev (fun k => impl_areItems.f k l) (goodFrom l 0 l) := by
 unfold impl_areItems.f
 exact impl_areItems_l0 l hl l.length 0 (by omega)
theorem append_small {s m : List It} (hs : s.length ≤ 2097152 ∧ ∀ x ∈ s, x.f0.size ≤ 140737488351232 ∧ x.f1.size ≤ 140737488351232) (hm : m.length ≤ 2097152 ∧ ∀ x ∈ m, x.f0.size ≤ 140737488351232 ∧ x.f1.size ≤ 140737488351232) : small (s ++ m) := by
 refine ⟨by rw [List.length_append]; omega, fun x hx => ?_⟩
 rcases List.mem_append.1 hx with h | h
 ·exact hs.2 x h
 ·exact hm.2 x h
theorem impl_ThreeOk_l0 (cap most : Int) (s m : List It) (g : List Int) (hs : s.length ≤ 2097152 ∧ ∀ x ∈ s, x.f0.size ≤ 140737488351232 ∧ x.f1.size ≤ 140737488351232) (hm : m.length ≤ 2097152 ∧ ∀ x ∈ m, x.f0.size ≤ 140737488351232 ∧ x.f1.size ≤ 140737488351232) (hg : g.length ≤ 2097152) : ∀ (d i : Nat), i + d = g.length →
  Ev (fun k => impl_ThreeOk.l0 k g (g.length : Int) (i : Int) cap most s m g) (numsFrom g i (g.drop i) && (decide (((s.length + m.length : Nat) : Int) ≤ cap) && goodFrom (s ++ m) 0 (s ++ m))) := by
 intro d
 induction d with
 | zero =>
  intro i hi
  rw [List.drop_of_length_le (by omega), numsFrom, Bool.true_and]
  refine Ev.step (fun _ => rfl) ?_
  simp only [impl_ThreeOk.l0]
  refine Ev.neg (by omega) ?_
  refine Ev.bind (Ev.const (show impl_copyItems.f s = some s from by unfold impl_copyItems.f; rw [if_pos (by simp; omega)]; simp)) ?_
  refine Ev.pos (by omega) ?_
  refine Ev.bind (Ev.const rfl) ?_
  by_cases c : ((s.length + m.length : Nat) : Int) ≤ cap
  ·refine Ev.pos (by rw [List.length_append]; exact c) ?_
   refine Ev.bind (impl_areItems_ev _ (append_small hs hm)) (Ev.const ?_)
   rw [decide_eq_true c, Bool.true_and]
  ·refine Ev.neg (by rw [List.length_append]; exact c) (Ev.const ?_)
   rw [decide_eq_false c, Bool.false_and]
 | succ d ih =>
  intro i hi
  have hx : i < g.length := by omega
  have er : rd g (i : Int) = g[i] := getD_at hx _
  refine Ev.step (fun _ => rfl) ?_
  simp only [impl_ThreeOk.l0]
  rw [er, drop_at hx, numsFrom]
  refine Ev.pos (by omega) (Ev.pos (by omega) (Ev.pos (by omega) ?_))
  refine Ev.bind (Ev.const (impl_isNum_eq _)) ?_
  cases c : isNum g[i]
  ·exact Ev.neg (by simp) (Ev.const rfl)
  refine Ev.pos rfl (Ev.pos (by omega) ?_)
  rw [Int.toNat_natCast]
  refine Ev.bind (slices_Contains_ev _ _ (by rw [List.length_take]; omega)) ?_
  by_cases e : g[i] ∈ g.take i
  ·exact Ev.pos (by simp [e]) (Ev.const (by simp [e]))
  ·refine Ev.neg (by simp [e]) ?_
   rw [wsucc (by omega)]
   refine Ev.to (ih (i + 1) (by omega)) ?_
   simp [e]
theorem impl_ThreeOk_ev (cap most : Int) (s m : List It) (g : List Int) (hs : s.length ≤ 2097152 ∧ ∀ x ∈ s, x.f0.size ≤ 140737488351232 ∧ x.f1.size ≤ 140737488351232) (hm : m.length ≤ 2097152 ∧ ∀ x ∈ m, x.f0.size ≤ 140737488351232 ∧ x.f1.size ≤ 140737488351232) (hg : g.length ≤ 2097152) : Ev (fun k => impl_ThreeOk.f k cap most s m g) (threeOk cap most s m g) := by
 unfold impl_ThreeOk.f threeOk
 have hj : Ev (fun k => impl_ThreeOk.j0 k true cap most s m g) false := by
  refine Ev.step (fun _ => rfl) ?_
  simp only [impl_ThreeOk.j0]
  exact Ev.const rfl
 refine Ev.bind (Ev.const (impl_within_eq _ _ _)) ?_
 by_cases a : 1 ≤ cap ∧ cap ≤ 60
 rotate_left
 ·exact Ev.neg (by simp; omega) (Ev.to hj (by simp [a]))
 refine Ev.pos (by simp; omega) ?_
 refine Ev.bind (Ev.const (impl_within_eq _ _ _)) ?_
 by_cases b : 1 ≤ most ∧ most ≤ cap
 rotate_left
 ·exact Ev.neg (by simp; omega) (Ev.to hj (by simp [b]))
 refine Ev.pos (by simp; omega) ?_
 refine Ev.bind (Ev.const (show impl_Three_ghosts.f cap most = some (max 1 (cap - most)) from by unfold impl_Three_ghosts.f; rw [w64 (by omega) (by omega)])) ?_
 rw [decide_eq_true a, decide_eq_true b, Bool.true_and, Bool.true_and]
 by_cases c : (g.length : Int) ≤ max 1 (cap - most)
 rotate_left
 ·rw [decide_eq_true (show (g.length : Int) > max 1 (cap - most) by omega), decide_eq_false c]
  refine Ev.to hj (by simp)
 rw [decide_eq_false (show ¬ (g.length : Int) > max 1 (cap - most) by omega), decide_eq_true c]
 refine Ev.step (fun _ => rfl) ?_
 simp only [impl_ThreeOk.j0]
 refine Ev.neg (by simp) ?_
 refine Ev.to (impl_ThreeOk_l0 cap most s m g hs hm hg g.length 0 (by omega)) ?_
 rw [List.drop_zero]
 cases numsFrom g 0 g <;> simp
theorem spec_ThreeOk_l1 (cap most : Int) (s m : List It) (g : List Int) (hg : g.length ≤ 2097152) : ∀ (d i : Nat), i + d = g.length → Ev (fun k => spec_ThreeOk.l1 k g (g.length : Int) (i : Int) cap most s m g) (numsFrom g i (g.drop i)) := by
 intro d
 induction d with
 | zero =>
  intro i hi
  rw [List.drop_of_length_le (by omega), numsFrom]
  refine Ev.step (fun _ => rfl) ?_
  simp only [spec_ThreeOk.l1]
  exact Ev.neg (by omega) (Ev.const rfl)
 | succ d ih =>
  intro i hi
  have hx : i < g.length := by omega
  have er : rd g (i : Int) = g[i] := getD_at hx _
  refine Ev.step (fun _ => rfl) ?_
  simp only [spec_ThreeOk.l1]
  rw [er, drop_at hx, numsFrom]
  refine Ev.pos (by omega) (Ev.pos (by omega) (Ev.pos (by omega) ?_))
  refine Ev.bind (Ev.const (spec_l01Num_eq _)) ?_
  cases c : isNum g[i]
  ·exact Ev.neg (by simp) (Ev.const rfl)
  refine Ev.pos rfl (Ev.pos (by omega) ?_)
  rw [Int.toNat_natCast]
  refine Ev.bind (spec_l03Has_ev _ _ (by rw [List.length_take]; omega)) ?_
  by_cases e : g[i] ∈ g.take i
  ·exact Ev.pos (by simp [e]) (Ev.const (by simp [e]))
  ·refine Ev.neg (by simp [e]) ?_
   rw [wsucc (by omega)]
   refine Ev.to (ih (i + 1) (by omega)) ?_
   simp [e]
theorem spec_ThreeOk_l0 (cap most : Int) (s m : List It) (g : List Int) (l : List It) (hl : small l) (hg : g.length ≤ 2097152) : ∀ (d i : Nat), i + d = l.length → Ev (fun k => spec_ThreeOk.l0 k l l (l.length : Int) (i : Int) cap most s m g) (goodFrom l i (l.drop i) && numsFrom g 0 g) := by
 have hl1 := hl.1
 intro d
 induction d with
 | zero =>
  intro i hi
  rw [List.drop_of_length_le (by omega), goodFrom, Bool.true_and]
  refine Ev.step (fun _ => rfl) ?_
  simp only [spec_ThreeOk.l0]
  exact Ev.neg (by omega) (spec_ThreeOk_l1 cap most s m g hg g.length 0 (by omega))
 | succ d ih =>
  intro i hi
  have hx : i < l.length := by omega
  have hm := hl.2 l[i] (List.getElem_mem hx)
  have er : rd_T95 l (i : Int) = l[i] := getD_at hx _
  refine Ev.step (fun _ => rfl) ?_
  simp only [spec_ThreeOk.l0]
  rw [er, drop_at hx, goodFrom]
  refine Ev.pos (by omega) (Ev.pos (by omega) (Ev.pos (by omega) ?_))
  refine Ev.bind (spec_ItemOk_ev _ _ _ hm.1 hm.2) ?_
  cases c : itemOk l[i].f0 l[i].f1 l[i].f2
  ·exact Ev.neg (by simp) (Ev.const rfl)
  refine Ev.pos rfl ?_
  refine Ev.bind (spec_l10At_ev l _ hl1) ?_
  by_cases e : impl_itemAt.idx l[i].f0 l 0 = (i : Int)
  ·refine Ev.pos e ?_
   rw [wsucc (by omega)]
   refine Ev.to (ih (i + 1) (by omega)) ?_
   simp [e]
  ·exact Ev.neg e (Ev.const (by simp [e]))
theorem spec_ThreeOk_ev (cap most : Int) (s m : List It) (g : List Int) (hs : s.length ≤ 2097152 ∧ ∀ x ∈ s, x.f0.size ≤ 140737488351232 ∧ x.f1.size ≤ 140737488351232) (hm : m.length ≤ 2097152 ∧ ∀ x ∈ m, x.f0.size ≤ 140737488351232 ∧ x.f1.size ≤ 140737488351232) (hg : g.length ≤ 2097152) : Ev (fun k => spec_ThreeOk.f k cap most s m g) (threeOk cap most s m g) := by
 unfold spec_ThreeOk.f threeOk
 have hsl := hs.1
 have hml := hm.1
 have hj : Ev (fun k => spec_ThreeOk.j0 k true cap most s m g) false := by
  refine Ev.step (fun _ => rfl) ?_
  simp only [spec_ThreeOk.j0]
  exact Ev.const rfl
 refine Ev.bind (Ev.const (spec_l01In_eq _ _ _)) ?_
 by_cases a : 1 ≤ cap ∧ cap ≤ 60
 rotate_left
 ·exact Ev.neg (by simp; omega) (Ev.to hj (by simp [a]))
 refine Ev.pos (by simp; omega) ?_
 refine Ev.bind (Ev.const (spec_l01In_eq _ _ _)) ?_
 by_cases b : 1 ≤ most ∧ most ≤ cap
 rotate_left
 ·exact Ev.neg (by simp; omega) (Ev.to hj (by simp [b]))
 refine Ev.pos (by simp; omega) ?_
 rw [decide_eq_true a, decide_eq_true b, Bool.true_and, Bool.true_and, w64 (by omega) (by omega)]
 by_cases q : ((s.length + m.length : Nat) : Int) ≤ cap
 rotate_left
 ·exact Ev.pos (by omega) (Ev.to hj (by rw [decide_eq_false q, Bool.false_and]))
 refine Ev.neg (by omega) ?_
 rw [decide_eq_true q, Bool.true_and]
 have hgh : spec_l10Ghosts.f cap most s m g = some (max 1 (cap - most)) := by
  unfold spec_l10Ghosts.f
  rw [w64 (by omega) (by omega)]
  by_cases z : cap - most < 1
  ·rw [if_pos z]; congr 1; omega
  ·rw [if_neg z]; congr 1; omega
 refine Ev.bind (Ev.const hgh) ?_
 by_cases c : (g.length : Int) ≤ max 1 (cap - most)
 rotate_left
 ·rw [decide_eq_true (show (g.length : Int) > max 1 (cap - most) by omega), decide_eq_false c]
  refine Ev.to hj (by simp)
 rw [decide_eq_false (show ¬ (g.length : Int) > max 1 (cap - most) by omega), decide_eq_true c, Bool.true_and]
 refine Ev.step (fun _ => rfl) ?_
 simp only [spec_ThreeOk.j0]
 refine Ev.neg (by simp) ?_
 refine Ev.bind (Ev.const rfl) ?_
 refine Ev.pos (by simp; omega) ?_
 refine Ev.bind (Ev.const rfl) ?_
 refine Ev.pos (by simp; omega) ?_
 refine Ev.bind (Ev.const rfl) ?_
 rw [List.nil_append]
 exact spec_ThreeOk_l0 cap most s m g (s ++ m) (append_small hs hm) hg (s ++ m).length 0 (by omega)
end Go.Proofs.Ytdeijmofaapgdaa.Q

namespace Go.Proofs.Ytdeijmofaapgdaa.Q
open Go.RowKit Go.Proofs.Ytdeijmofaapgdaa.G Go.Proofs.Ytdeijmofaapgdaa.PL Go.Proofs.YtdeijmofaapgdaaW.PrintWords
/-- The hash of a text. -/
def hashOn : List UInt8 → Int → Int
 | [], h => h
 | c :: r, h => hashOn r (Int.tmod (wrap64 ((Go.bits .xor .i64 h (wrap64 (c.toNat : Int))) * 16777619)) 4294967296)
def hash (s : ByteArray) : Int := hashOn (bs s) 2166136261
theorem spec_Hash_ev (s : ByteArray) (hz : s.size ≤ 140737488351232) : Ev (fun k => spec_Hash.f k s) (hash s) := by
 have go : ∀ (d i : Nat) (h : Int), i + d = s.size → Ev (fun k => spec_Hash.l0 k s h (i : Int)) (hashOn ((bs s).drop i) h) := by
  intro d
  induction d with
  | zero =>
   intro i h hi
   rw [List.drop_of_length_le (by rw [bs_length]; omega)]
   refine Ev.step (fun _ => rfl) ?_
   simp only [spec_Hash.l0]
   exact Ev.neg (by omega) (Ev.const rfl)
  | succ d ih =>
   intro i h hi
   have hx : i < s.size := by omega
   refine Ev.step (fun _ => rfl) ?_
   simp only [spec_Hash.l0]
   rw [drop_bs s i hx, hashOn, bt_eq s i hx]
   refine Ev.pos (by omega) (Ev.pos (by omega) ?_)
   rw [wsucc (by omega)]
   exact ih (i + 1) _ (by omega)
 unfold spec_Hash.f hash
 exact go s.size 0 _ (by omega)
theorem impl_Hash_ev (s : ByteArray) (hz : s.size ≤ 140737488351232) : Ev (fun k => impl_Hash.f k s) (hash s) := by
 have go : ∀ (d i : Nat) (h : Int), i + d = s.size → Ev (fun k => impl_Hash.l0 k s h (i : Int)) (hashOn ((bs s).drop i) h) := by
  intro d
  induction d with
  | zero =>
   intro i h hi
   rw [List.drop_of_length_le (by rw [bs_length]; omega)]
   refine Ev.step (fun _ => rfl) ?_
   simp only [impl_Hash.l0]
   exact Ev.neg (by omega) (Ev.const rfl)
  | succ d ih =>
   intro i h hi
   have hx : i < s.size := by omega
   refine Ev.step (fun _ => rfl) ?_
   simp only [impl_Hash.l0]
   rw [drop_bs s i hx, hashOn, bt_eq s i hx]
   refine Ev.pos (by omega) (Ev.pos (by omega) ?_)
   rw [wsucc (by omega)]
   exact ih (i + 1) _ (by omega)
 unfold impl_Hash.f hash
 exact go s.size 0 _ (by omega)
end Go.Proofs.Ytdeijmofaapgdaa.Q

namespace Go.Proofs.Ytdeijmofaapgdaa.Q
open Go.RowKit Go.Proofs.Ytdeijmofaapgdaa.G Go.Proofs.Ytdeijmofaapgdaa.PL Go.Proofs.Ytdeijmofaapgdaa.Ok Go.Proofs.Ytdeijmofaapgdaa.Fam Go.Proofs.YtdeijmofaapgdaaW.PrintWords
theorem i64_xor_nats (a b : Nat) (ha : a < 4294967296) (hb : b < 4294967296) : Go.bits .xor .i64 (a : Int) (b : Int) = ((a ^^^ b : Nat) : Int) := by
 have hx : a ^^^ b < 2 ^ 32 := Nat.xor_lt_two_pow (by omega) (by omega)
 show IntKind.i64.wrap ((BitVec.ofInt 64 (a : Int) ^^^ BitVec.ofInt 64 (b : Int)).toNat : Int) = _
 rw [BitVec.toNat_xor, Go.ofInt_u64 a (by omega), Go.ofInt_u64 b (by omega)]
 exact Go.Lib.wrap_i64_small _ (by omega)
theorem isNum_nats {a : Int} (h : isNum a = true) : ∃ n : Nat, a = (n : Int) ∧ n < 4294967296 := by
 simp only [isNum, Bool.and_eq_true, decide_eq_true_eq] at h
 exact ⟨a.toNat, by omega, by omega⟩
theorem hashOn_isNum : ∀ (l : List UInt8) (h : Int), isNum h = true → isNum (hashOn l h) = true
 | [], _, h => h
 | c :: l, h, hh => by
  rw [hashOn]
  apply hashOn_isNum l
  obtain ⟨n, rfl, hn⟩ := isNum_nats hh
  have hc := c.toNat_lt
  rw [w64 (x := (c.toNat : Int)) (by omega) (by omega), i64_xor_nats _ _ (by omega) (by omega)]
  have hx : n ^^^ c.toNat < 2 ^ 32 := Nat.xor_lt_two_pow hn (by omega)
  rw [w64 (by omega) (by omega), Int.tmod_eq_emod_of_nonneg (by omega)]
  simp only [isNum, Bool.and_eq_true, decide_eq_true_eq]
  omega
theorem hash_isNum (s : ByteArray) : isNum (hash s) = true := hashOn_isNum _ _ (by decide)
end Go.Proofs.Ytdeijmofaapgdaa.Q

namespace Go.Proofs.Ytdeijmofaapgdaa.Q
open Go.RowKit Go.Proofs.Ytdeijmofaapgdaa.G Go.Proofs.Ytdeijmofaapgdaa.PL Go.Proofs.YtdeijmofaapgdaaW.PrintWords Go.Proofs.YtdeijmofaapgdaaW.PrintLast
def keys (l : List It) : List ByteArray := l.map (·.f0)
theorem keys_append (a b : List It) : keys (a ++ b) = keys a ++ keys b := List.map_append
theorem keys_cons (x : It) (b : List It) : keys (x :: b) = x.f0 :: keys b := rfl
theorem keys_length (a : List It) : (keys a).length = a.length := List.length_map ..
theorem mem_keys {k : ByteArray} {l : List It} : k ∈ keys l ↔ ∃ x ∈ l, x.f0 = k := by simp [keys]
theorem idx_cases (key : ByteArray) : ∀ (l : List It) (i : Nat), (key ∉ keys l ∧ impl_itemAt.idx key l i = -1) ∨ ∃ j, ∃ h : j < l.length, impl_itemAt.idx key l i = ((i + j : Nat) : Int) ∧ l[j].f0 = key ∧ key ∉ keys (l.take j)
 | [], i => .inl ⟨by simp [keys], rfl⟩
 | x :: r, i => by
  rw [impl_itemAt.idx]
  by_cases c : x.f0.toList = key.toList
  ·rw [if_pos c]
   exact .inr ⟨0, by simp, by simp, bytes_eq.1 c, by simp [keys]⟩
  ·rw [if_neg c]
   have c' : x.f0 ≠ key := fun h => c (bytes_eq.2 h)
   rcases idx_cases key r (i + 1) with ⟨h1, h2⟩ | ⟨j, hj, h1, h2, h3⟩
   ·exact .inl ⟨by rw [keys_cons, List.mem_cons, not_or]; exact ⟨fun h => c' h.symm, h1⟩, h2⟩
   ·refine .inr ⟨j + 1, by simp; omega, by rw [h1]; omega, by simpa using h2, ?_⟩
    rw [List.take_succ_cons, keys_cons, List.mem_cons, not_or]
    exact ⟨fun h => c' h.symm, h3⟩
theorem idx_neg {key : ByteArray} {l : List It} : impl_itemAt.idx key l 0 < 0 ↔ key ∉ keys l := by
 rcases idx_cases key l 0 with ⟨h1, h2⟩ | ⟨j, hj, h1, h2, h3⟩
 ·exact ⟨fun _ => h1, fun _ => by omega⟩
 ·refine ⟨fun h => by omega, fun h => absurd (mem_keys.2 ⟨_, List.getElem_mem hj, h2⟩) h⟩
theorem idx_nonneg {key : ByteArray} {l : List It} : 0 ≤ impl_itemAt.idx key l 0 ↔ key ∈ keys l := by
 have := idx_neg (key := key) (l := l)
 by_cases h : key ∈ keys l
 ·exact ⟨fun _ => h, fun _ => by
   by_cases c : impl_itemAt.idx key l 0 < 0
   ·exact absurd h (this.1 c)
   ·omega⟩
 ·exact ⟨fun c => by have := this.2 h; omega, fun c => absurd c h⟩
theorem idx_lt {key : ByteArray} {l : List It} : impl_itemAt.idx key l 0 < (l.length : Int) := by
 rcases idx_cases key l 0 with ⟨h1, h2⟩ | ⟨j, hj, h1, h2, h3⟩ <;> omega
theorem idx_at {key : ByteArray} {l : List It} (h : 0 ≤ impl_itemAt.idx key l 0) : ∃ j, ∃ hj : j < l.length, impl_itemAt.idx key l 0 = (j : Int) ∧ l[j].f0 = key := by
 rcases idx_cases key l 0 with ⟨h1, h2⟩ | ⟨j, hj, h1, h2, h3⟩
 ·omega
 ·exact ⟨j, hj, by omega, h2⟩
theorem idx_mid {x : It} {pre r : List It} : impl_itemAt.idx x.f0 (pre ++ x :: r) 0 = (pre.length : Int) ↔ x.f0 ∉ keys pre := by
 rcases idx_cases x.f0 (pre ++ x :: r) 0 with ⟨h1, h2⟩ | ⟨j, hj, h1, h2, h3⟩
 ·exact absurd (mem_keys.2 ⟨x, by simp, rfl⟩) h1
 ·constructor
  ·intro h
   have : j = pre.length := by omega
   subst this
   simpa using h3
  ·intro h
   by_cases c : j < pre.length
   ·refine absurd (mem_keys.2 ⟨pre[j], List.getElem_mem c, ?_⟩) h
    rw [← h2, List.getElem_append_left c]
   ·by_cases d : pre.length < j
    ·refine absurd (mem_keys.2 ⟨x, ?_, rfl⟩) h3
     rw [List.take_append]
     refine List.mem_append.2 (.inr ?_)
     obtain ⟨e, he⟩ : ∃ e, j - pre.length = e + 1 := ⟨j - pre.length - 1, by omega⟩
     rw [he, List.take_succ_cons]
     exact List.mem_cons_self
    ·omega
theorem goodFrom_iff : ∀ (r pre : List It), (goodFrom (pre ++ r) pre.length r = true ∧ (keys pre).Nodup) ↔ ((∀ x ∈ r, itemOk x.f0 x.f1 x.f2 = true) ∧ (keys (pre ++ r)).Nodup)
 | [], pre => by simp [goodFrom]
 | x :: r, pre => by
  have ih := goodFrom_iff r (pre ++ [x])
  simp only [List.append_assoc, List.singleton_append, List.length_append, List.length_cons, List.length_nil, Nat.zero_add] at ih
  rw [goodFrom, Bool.and_eq_true, Bool.and_eq_true, decide_eq_true_eq, idx_mid]
  have hn : (keys (pre ++ [x])).Nodup ↔ (keys pre).Nodup ∧ x.f0 ∉ keys pre := by
   have e1 : keys [x] = [x.f0] := rfl
   rw [keys_append, e1, List.nodup_append]
   simp only [List.nodup_cons, List.not_mem_nil, not_false_eq_true, List.nodup_nil, and_self, true_and, List.mem_singleton]
   constructor
   ·rintro ⟨h1, h2⟩
    exact ⟨h1, fun h => h2 _ h _ rfl rfl⟩
   ·rintro ⟨h1, h2⟩
    exact ⟨h1, fun a ha b hb h => h2 (by rw [← hb, ← h]; exact ha)⟩
  rw [hn] at ih
  constructor
  ·rintro ⟨⟨h1, h2, h3⟩, h4⟩
   obtain ⟨g1, g2⟩ := ih.1 ⟨h3, h4, h2⟩
   exact ⟨fun y hy => by
    rcases List.mem_cons.1 hy with rfl | hy
    ·exact h1
    ·exact g1 y hy, g2⟩
  ·rintro ⟨h1, h2⟩
   obtain ⟨g1, g2, g3⟩ := ih.2 ⟨fun y hy => h1 y (List.mem_cons_of_mem _ hy), h2⟩
   exact ⟨⟨h1 x List.mem_cons_self, g3, g1⟩, g2⟩
theorem numsFrom_iff (g : List Int) : ∀ (r pre : List Int), g = pre ++ r → ((numsFrom g pre.length r = true ∧ pre.Nodup) ↔ ((∀ x ∈ r, isNum x = true) ∧ g.Nodup))
 | [], pre, e => by simp only [List.append_nil] at e; subst e; simp [numsFrom]
 | x :: r, pre, e => by
  have ih := numsFrom_iff g r (pre ++ [x]) (by simp [e])
  have ht : g.take pre.length = pre := by rw [e]; simp
  rw [numsFrom, Bool.and_eq_true, Bool.and_eq_true, ht]
  have hn : (pre ++ [x]).Nodup ↔ pre.Nodup ∧ x ∉ pre := by
   rw [List.nodup_append]
   simp only [List.nodup_cons, List.not_mem_nil, not_false_eq_true, List.nodup_nil, and_self, true_and, List.mem_singleton]
   constructor
   ·rintro ⟨h1, h2⟩
    exact ⟨h1, fun h => h2 _ h _ rfl rfl⟩
   ·rintro ⟨h1, h2⟩
    exact ⟨h1, fun a ha b hb h => h2 (by rw [← hb, ← h]; exact ha)⟩
  rw [hn, List.length_append] at ih
  constructor
  ·rintro ⟨⟨h1, h2, h3⟩, h4⟩
   obtain ⟨g1, g2⟩ := ih.1 ⟨h3, h4, by simpa using h2⟩
   exact ⟨fun y hy => by
    rcases List.mem_cons.1 hy with rfl | hy
    ·exact h1
    ·exact g1 y hy, g2⟩
  ·rintro ⟨h1, h2⟩
   obtain ⟨g1, g2, g3⟩ := ih.2 ⟨fun y hy => h1 y (List.mem_cons_of_mem _ hy), h2⟩
   exact ⟨⟨h1 x List.mem_cons_self, by simpa using g3, g1⟩, g2⟩
/-- A right cache. -/
structure Good (cap most : Int) (s m : List It) (g : List Int) : Prop where
 cap1 : 1 ≤ cap
 cap2 : cap ≤ 60
 most1 : 1 ≤ most
 most2 : most ≤ cap
 room : ((s.length + m.length : Nat) : Int) ≤ cap
 gl : (g.length : Int) ≤ max 1 (cap - most)
 ok : ∀ x ∈ s ++ m, itemOk x.f0 x.f1 x.f2 = true
 nd : (keys (s ++ m)).Nodup
 nums : ∀ n ∈ g, isNum n = true
 gnd : g.Nodup
theorem threeOk_iff {cap most : Int} {s m : List It} {g : List Int} : threeOk cap most s m g = true ↔ Good cap most s m g := by
 have h1 := goodFrom_iff (s ++ m) []
 have h2 := numsFrom_iff g g [] rfl
 simp only [keys, List.map_nil, List.nil_append, List.length_nil, List.nodup_nil, and_true] at h1 h2
 simp only [threeOk, Bool.and_eq_true, decide_eq_true_eq]
 constructor
 ·rintro ⟨⟨a, b⟩, ⟨c, d⟩, e, f, i, j⟩
  exact ⟨a, b, c, d, e, f, (h1.1 i).1, (h1.1 i).2, (h2.1 j).1, (h2.1 j).2⟩
 ·rintro ⟨a, b, c, d, e, f, i, j, k, l⟩
  exact ⟨⟨a, b⟩, ⟨c, d⟩, e, f, h1.2 ⟨i, j⟩, h2.2 ⟨k, l⟩⟩
theorem itemOk_iff {key val : ByteArray} {n : Int} : itemOk key val n = true ↔ ((1 ≤ key.size ∧ key.size ≤ 20) ∧ clean key = true) ∧ (val.size ≤ 40 ∧ clean val = true) ∧ 0 ≤ n ∧ n ≤ 3 := by
 simp only [itemOk, Bool.and_eq_true, decide_eq_true_eq]
 constructor <;> (rintro h; simp only [h, and_self])
def evS : List It → List It → List It × List It × Option It
 | [], m => ([], m, none)
 | x :: s, m => if x.f2 > 1 then evS s (m ++ [⟨x.f0, x.f1, 0⟩]) else (s, m, some x)
def evM : Nat → List It → List It × Option It
 | 0, m => (m, none)
 | _ + 1, [] => ([], none)
 | n + 1, x :: m => if x.f2 = 0 then (m, some x) else evM n (m ++ [⟨x.f0, x.f1, x.f2 - 1⟩])
/-- Of each item its key and value stay; its number stays between 0 and what it was. -/
structure From (a : List It) (b : List It) : Prop where
 each : ∀ x ∈ b, ∃ y ∈ a, x.f0 = y.f0 ∧ x.f1 = y.f1 ∧ 0 ≤ x.f2 ∧ x.f2 ≤ y.f2
theorem From.sub {a b : List It} (h : ∀ x ∈ a, 0 ≤ x.f2) (hs : ∀ x ∈ b, x ∈ a) : From a b := ⟨fun x hx => ⟨x, hs x hx, rfl, rfl, h x (hs x hx), Int.le_refl _⟩⟩
theorem From.trans {a b c : List It} (h : From a b) (k : From b c) : From a c := ⟨fun x hx => by
 obtain ⟨y, hy, h1, h2, h3, h4⟩ := k.each x hx
 obtain ⟨z, hz, g1, g2, g3, g4⟩ := h.each y hy
 exact ⟨z, hz, h1.trans g1, h2.trans g2, h3, by omega⟩⟩
theorem From.nn {a b : List It} (h : From a b) : ∀ x ∈ b, 0 ≤ x.f2 := fun x hx => by
 obtain ⟨_, _, _, _, h3, _⟩ := h.each x hx
 exact h3
theorem From.ok {a b : List It} (h : From a b) (o : ∀ x ∈ a, itemOk x.f0 x.f1 x.f2 = true) : ∀ x ∈ b, itemOk x.f0 x.f1 x.f2 = true := fun x hx => by
 obtain ⟨y, hy, h1, h2, h3, h4⟩ := h.each x hx
 have := itemOk_iff.1 (o y hy)
 rw [itemOk_iff, h1, h2]
 exact ⟨this.1, this.2.1, h3, by omega⟩
theorem From.move {x : It} {s m : List It} {n : Int} (h : ∀ y ∈ x :: s ++ m, 0 ≤ y.f2) (h0 : 0 ≤ n) (h1 : n ≤ x.f2) : From (x :: s ++ m) (s ++ (m ++ [⟨x.f0, x.f1, n⟩])) := ⟨fun y hy => by
 simp only [List.mem_append, List.mem_cons, List.not_mem_nil, or_false] at hy
 rcases hy with hy | hy | rfl
 ·exact ⟨y, by simp [hy], rfl, rfl, h y (by simp [hy]), Int.le_refl _⟩
 ·exact ⟨y, by simp [hy], rfl, rfl, h y (by simp [hy]), Int.le_refl _⟩
 ·exact ⟨x, by simp, rfl, rfl, h0, h1⟩⟩
theorem keys_move (x : It) (s m : List It) (n : Int) : (keys (x :: s ++ m)).Perm (keys (s ++ (m ++ [⟨x.f0, x.f1, n⟩]))) := by
 simp only [keys, List.cons_append, List.map_cons, List.map_append, List.map_nil]
 rw [← List.append_assoc]
 exact List.perm_append_comm (l₁ := [x.f0])
theorem evS_spec : ∀ (s m : List It), (∀ x ∈ s ++ m, 0 ≤ x.f2) → (keys (s ++ m)).Perm (keys ((evS s m).2.2.toList) ++ keys ((evS s m).1 ++ (evS s m).2.1)) ∧ From (s ++ m) ((evS s m).1 ++ (evS s m).2.1) ∧ ((evS s m).2.2 = none → (evS s m).1 = [])
 | [], m, h => by
  rw [evS]
  exact ⟨by simp [keys], From.sub h (fun _ h => h), by simp⟩
 | x :: s, m, h => by
  rw [evS]
  by_cases c : x.f2 > 1
  ·rw [if_pos c]
   have hF := From.move h (n := 0) (Int.le_refl _) (by omega)
   obtain ⟨h1, h2, h3⟩ := evS_spec s (m ++ [⟨x.f0, x.f1, 0⟩]) hF.nn
   exact ⟨(keys_move x s m 0).trans h1, hF.trans h2, h3⟩
  ·rw [if_neg c]
   exact ⟨by simp [keys], From.sub h (fun y hy => by simp at hy ⊢; exact .inr hy), by simp⟩
def wt (m : List It) : Nat := (m.map (fun x => x.f2.toNat)).sum
theorem evM_spec : ∀ (n : Nat) (m : List It), (∀ x ∈ m, 0 ≤ x.f2) → (keys m).Perm (keys ((evM n m).2.toList) ++ keys (evM n m).1) ∧ From m (evM n m).1
 | 0, m, h => ⟨by simp [evM, keys], From.sub h (fun _ h => h)⟩
 | n + 1, [], h => ⟨by simp [evM, keys], From.sub h (fun _ h => h)⟩
 | n + 1, x :: m, h => by
  rw [evM]
  by_cases c : x.f2 = 0
  ·rw [if_pos c]
   exact ⟨by simp [keys], From.sub h (fun y hy => by simp at hy ⊢; exact .inr hy)⟩
  ·rw [if_neg c]
   have h0 := h x List.mem_cons_self
   have hF := From.move (s := []) (x := x) (m := m) (n := x.f2 - 1) h (by omega) (by omega)
   obtain ⟨h1, h2⟩ := evM_spec n (m ++ [⟨x.f0, x.f1, x.f2 - 1⟩]) hF.nn
   exact ⟨(keys_move x [] m (x.f2 - 1)).trans h1, hF.trans h2⟩
theorem wt_append (a b : List It) : wt (a ++ b) = wt a + wt b := by simp [wt, List.sum_append]
theorem evM_some : ∀ (n : Nat) (m : List It), m ≠ [] → wt m < n → (∀ x ∈ m, 0 ≤ x.f2) → (evM n m).2.isSome = true
 | 0, m, _, h, _ => by omega
 | n + 1, [], h, _, _ => absurd rfl h
 | n + 1, x :: m, _, hw, h => by
  rw [evM]
  by_cases c : x.f2 = 0
  ·rw [if_pos c]; rfl
  ·rw [if_neg c]
   have h0 := h x List.mem_cons_self
   have hF := From.move (s := []) (x := x) (m := m) (n := x.f2 - 1) h (by omega) (by omega)
   refine evM_some n _ (by simp) ?_ hF.nn
   rw [wt_append]
   simp only [wt, List.map_cons, List.sum_cons, List.map_nil, List.sum_nil] at hw ⊢
   omega
def haunt (cap most : Int) (g : List Int) (h : Int) : List Int :=
 if ((g.filter (fun y => !(y == h)) ++ [h]).length : Int) > max 1 (cap - most) then (g.filter (fun y => !(y == h)) ++ [h]).drop 1 else g.filter (fun y => !(y == h)) ++ [h]
theorem haunt_good {cap most h : Int} {g : List Int} (hl : (g.length : Int) ≤ max 1 (cap - most)) (hn : ∀ n ∈ g, isNum n = true) (hd : g.Nodup) (hh : isNum h = true) : ((haunt cap most g h).length : Int) ≤ max 1 (cap - most) ∧ (∀ n ∈ haunt cap most g h, isNum n = true) ∧ (haunt cap most g h).Nodup := by
 have n0 : ∀ n ∈ g.filter (fun y => !(y == h)) ++ [h], isNum n = true := by
  intro n hm
  rcases List.mem_append.1 hm with hm | hm
  ·exact hn n (List.mem_filter.1 hm).1
  ·rw [List.mem_singleton.1 hm]; exact hh
 have d0 : (g.filter (fun y => !(y == h)) ++ [h]).Nodup := by
  rw [List.nodup_append]
  refine ⟨hd.filter _, by simp, ?_⟩
  intro a ha b hb e
  rw [List.mem_singleton.1 hb] at e
  subst e
  simp at ha
 have l0 : (g.filter (fun y => !(y == h)) ++ [h]).length ≤ g.length + 1 := by
  rw [List.length_append]
  have := List.length_filter_le (fun y => !(y == h)) g
  simp only [List.length_cons, List.length_nil]
  omega
 unfold haunt
 by_cases c : ((g.filter (fun y => !(y == h)) ++ [h]).length : Int) > max 1 (cap - most)
 ·rw [if_pos c]
  refine ⟨by rw [List.length_drop]; omega, fun n hm => n0 n (List.mem_of_mem_drop hm), ?_⟩
  exact d0.sublist (List.drop_sublist _ _)
 ·rw [if_neg c]
  exact ⟨by omega, n0, d0⟩
/-- What evictSmall leaves, and the key that went. -/
def evSr (cap most : Int) (s m : List It) (g : List Int) : Int × Int × List It × List It × List Int × ByteArray × Bool :=
 match evS s m with
 | (s', m', some x) => (cap, most, s', m', haunt cap most g (hash x.f0), x.f0, true)
 | (s', m', none) => (cap, most, s', m', g, ⟨#[]⟩, false)
def evMr (n : Nat) (cap most : Int) (s m : List It) (g : List Int) : Int × Int × List It × List It × List Int × ByteArray × Bool :=
 match evM n m with
 | (m', some x) => (cap, most, s, m', g, x.f0, true)
 | (m', none) => (cap, most, s, m', g, ⟨#[]⟩, false)
/-- What evict leaves, and the key that went. -/
def evicted (cap most : Int) (s m : List It) (g : List Int) : Int × Int × List It × List It × List Int × ByteArray × Bool :=
 if (s.length : Int) ≥ most ∨ m = [] then
  if (evSr cap most s m g).2.2.2.2.2.2 = true then evSr cap most s m g
  else evMr (wt (evSr cap most s m g).2.2.2.1 + 1) cap most (evSr cap most s m g).2.2.1 (evSr cap most s m g).2.2.2.1 (evSr cap most s m g).2.2.2.2.1
 else evMr (wt m + 1) cap most s m g
theorem Good.nn {cap most : Int} {s m : List It} {g : List Int} (h : Good cap most s m g) : ∀ x ∈ s ++ m, 0 ≤ x.f2 := fun x hx => (itemOk_iff.1 (h.ok x hx)).2.2.1
theorem perm_good {cap most : Int} {s m s' m' : List It} {g : List Int} {k : List ByteArray} (h : Good cap most s m g) (hp : (keys (s ++ m)).Perm (k ++ keys (s' ++ m'))) (hF : From (s ++ m) (s' ++ m')) : Good cap most s' m' g := by
 have hl := hp.length_eq
 rw [keys_length, List.length_append, List.length_append, keys_length, List.length_append] at hl
 have := h.room
 exact { h with room := by omega, ok := hF.ok h.ok, nd := (List.nodup_append.1 (hp.nodup_iff.1 h.nd)).2.1 }
theorem evSr_spec {cap most : Int} {s m : List It} {g : List Int} (h : Good cap most s m g) : ∃ s' m' g' k b, evSr cap most s m g = (cap, most, s', m', g', k, b) ∧ Good cap most s' m' g' ∧ (keys (s ++ m)).Perm ((if b = true then [k] else []) ++ keys (s' ++ m')) ∧ From (s ++ m) (s' ++ m') ∧ (b = false → s' = []) ∧ (b = true → k ∈ keys (s ++ m)) := by
 obtain ⟨h1, h2, h3⟩ := evS_spec s m h.nn
 unfold evSr
 revert h1 h2 h3
 generalize evS s m = E
 obtain ⟨s', m', o⟩ := E
 intro h1 h2 h3
 cases o with
 | none => exact ⟨s', m', g, _, false, rfl, perm_good h h1 h2, h1, h2, fun _ => h3 rfl, by simp⟩
 | some x =>
  obtain ⟨a, b, c⟩ := haunt_good h.gl h.nums h.gnd (hash_isNum x.f0)
  have hm : x.f0 ∈ keys (s ++ m) := h1.mem_iff.2 (by simp [keys])
  exact ⟨s', m', _, x.f0, true, rfl, { perm_good h h1 h2 with gl := a, nums := b, gnd := c }, h1, h2, by simp, fun _ => hm⟩
theorem evMr_spec {n : Nat} {cap most : Int} {s m : List It} {g : List Int} (h : Good cap most s m g) : ∃ m' k b, evMr n cap most s m g = (cap, most, s, m', g, k, b) ∧ Good cap most s m' g ∧ (keys (s ++ m)).Perm ((if b = true then [k] else []) ++ keys (s ++ m')) ∧ From (s ++ m) (s ++ m') ∧ (m ≠ [] → wt m < n → b = true) ∧ (b = true → k ∈ keys (s ++ m)) := by
 have hm : ∀ x ∈ m, 0 ≤ x.f2 := fun x hx => h.nn x (List.mem_append.2 (.inr hx))
 obtain ⟨h1, h2⟩ := evM_spec n m hm
 have h3 := fun a b => evM_some n m a b hm
 unfold evMr
 revert h1 h2 h3
 generalize evM n m = E
 obtain ⟨m', o⟩ := E
 intro h1 h2 h3
 have hF : From (s ++ m) (s ++ m') := ⟨fun x hx => by
  rcases List.mem_append.1 hx with hx | hx
  ·exact ⟨x, List.mem_append.2 (.inl hx), rfl, rfl, h.nn x (List.mem_append.2 (.inl hx)), Int.le_refl _⟩
  ·obtain ⟨y, hy, r⟩ := h2.each x hx
   exact ⟨y, List.mem_append.2 (.inr hy), r⟩⟩
 have hP : ∀ l : List ByteArray, (keys m).Perm (l ++ keys m') → (keys (s ++ m)).Perm (l ++ keys (s ++ m')) := by
  intro l hp
  rw [keys_append, keys_append]
  refine (List.Perm.append_left _ hp).trans ?_
  rw [← List.append_assoc, ← List.append_assoc]
  exact List.Perm.append_right _ List.perm_append_comm
 cases o with
 | none => exact ⟨m', _, false, rfl, perm_good h (hP _ h1) hF, hP _ h1, hF, fun a b => by have := h3 a b; simp at this, by simp⟩
 | some x => exact ⟨m', x.f0, true, rfl, perm_good h (hP _ h1) hF, hP _ h1, hF, fun _ _ => rfl, fun _ => (hP _ h1).mem_iff.2 (by simp [keys])⟩
/-- Of a right cache that isn't empty one key goes. -/
theorem evicted_spec {cap most : Int} {s m : List It} {g : List Int} (h : Good cap most s m g) (hp : 0 < s.length + m.length) : ∃ s' m' g' k, evicted cap most s m g = (cap, most, s', m', g', k, true) ∧ Good cap most s' m' g' ∧ (keys (s ++ m)).Perm (k :: keys (s' ++ m')) ∧ From (s ++ m) (s' ++ m') ∧ k ∈ keys (s ++ m) := by
 unfold evicted
 by_cases c : (s.length : Int) ≥ most ∨ m = []
 ·rw [if_pos c]
  obtain ⟨s', m', g', k, b, e, hG, hP, hF, hn, hk⟩ := evSr_spec h
  rw [e]
  cases b with
  | true => exact ⟨s', m', g', k, by simp, hG, hP, hF, hk rfl⟩
  | false =>
   rw [if_neg (by simp)]
   obtain rfl := hn rfl
   obtain ⟨m2, k2, b2, e2, hG2, hP2, hF2, hn2, hk2⟩ := evMr_spec (n := wt m' + 1) hG
   have hm' : m' ≠ [] := by
    intro hc
    subst hc
    have : s.length + m.length = 0 := by rw [← List.length_append, ← keys_length]; exact hP.length_eq
    omega
   have hb := hn2 hm' (by omega)
   subst hb
   simp only [e2]
   exact ⟨[], m2, g', k2, rfl, hG2, hP.trans hP2, hF.trans hF2, (hP.mem_iff).2 (by simpa using hk2 rfl)⟩
 ·rw [if_neg c]
  rw [not_or] at c
  obtain ⟨m2, k2, b2, e2, hG2, hP2, hF2, hn2, hk2⟩ := evMr_spec (n := wt m + 1) h
  have hb := hn2 c.2 (by omega)
  subst hb
  exact ⟨s, m2, g, k2, e2, hG2, hP2, hF2, hk2 rfl⟩
end Go.Proofs.Ytdeijmofaapgdaa.Q

namespace Go.Proofs.Ytdeijmofaapgdaa.Q
open Go.RowKit Go.Proofs.Ytdeijmofaapgdaa.G Go.Proofs.Ytdeijmofaapgdaa.PL Go.Proofs.YtdeijmofaapgdaaW.PrintWords
def opOk (kind : Int) (key val : ByteArray) : Bool := decide (1 ≤ kind) && decide (kind ≤ 3) && itemOk key val 0 && (decide (kind = 2) || decide (val = ⟨#[]⟩))
theorem nil_beq (a : ByteArray) : (a.toList == ([] : List UInt8)) = decide (a = ⟨#[]⟩) := by
 rw [Bool.eq_iff_iff]
 simp [toList_nil]
theorem impl_OpOk_ev (kind : Int) (key val : ByteArray) (h0 : key.size ≤ 140737488351232) (h1 : val.size ≤ 140737488351232) : Ev (fun k => impl_OpOk.f k kind key val) (opOk kind key val) := by
 unfold impl_OpOk.f opOk
 refine Ev.bind (Ev.const (impl_within_eq _ _ _)) ?_
 by_cases a : 1 ≤ kind
 rotate_left
 ·exact Ev.neg (by simp; omega) (Ev.const (by simp [a]))
 by_cases b : kind ≤ 3
 rotate_left
 ·exact Ev.neg (by simp; omega) (Ev.const (by simp [b]))
 refine Ev.pos (by simp; omega) ?_
 refine Ev.bind (impl_ItemOk_ev key val 0 h0 h1) ?_
 cases c : itemOk key val 0
 ·exact Ev.neg (by simp) (Ev.const (by simp))
 refine Ev.pos rfl ?_
 by_cases d : kind = 2
 ·exact Ev.pos d (Ev.const (by simp [d]))
 ·exact Ev.neg d (Ev.const (by rw [nil_beq]; simp [a, b, d]))
end Go.Proofs.Ytdeijmofaapgdaa.Q

namespace Go.Proofs.Ytdeijmofaapgdaa.Q
open Go.RowKit Go.Proofs.Ytdeijmofaapgdaa.G Go.Proofs.Ytdeijmofaapgdaa.PL Go.Proofs.YtdeijmofaapgdaaW.PrintWords Go.Proofs.YtdeijmofaapgdaaW.PrintLast
theorem Good.bits {cap most : Int} {s m : List It} {g : List Int} (h : Good cap most s m g) : s.length ≤ 60 ∧ m.length ≤ 60 ∧ g.length ≤ 60 ∧ ∀ x ∈ s ++ m, x.f0.size ≤ 20 ∧ x.f1.size ≤ 40 ∧ 0 ≤ x.f2 ∧ x.f2 ≤ 3 := by
 have h1 := h.room
 have h2 := h.cap2
 have h3 := h.gl
 have h4 := h.most1
 refine ⟨by omega, by omega, by omega, fun x hx => ?_⟩
 have := itemOk_iff.1 (h.ok x hx)
 exact ⟨this.1.1.2, this.2.1.1, this.2.2⟩
theorem Good.fs {cap most : Int} {s m : List It} {g : List Int} (h : Good cap most s m g) : s.length ≤ 2097152 ∧ ∀ x ∈ s, x.f0.size ≤ 140737488351232 ∧ x.f1.size ≤ 140737488351232 := by
 obtain ⟨h1, h2, h3, h4⟩ := h.bits
 refine ⟨by omega, fun x hx => ?_⟩
 have := h4 x (List.mem_append.2 (.inl hx))
 omega
theorem Good.fm {cap most : Int} {s m : List It} {g : List Int} (h : Good cap most s m g) : m.length ≤ 2097152 ∧ ∀ x ∈ m, x.f0.size ≤ 140737488351232 ∧ x.f1.size ≤ 140737488351232 := by
 obtain ⟨h1, h2, h3, h4⟩ := h.bits
 refine ⟨by omega, fun x hx => ?_⟩
 have := h4 x (List.mem_append.2 (.inr hx))
 omega
theorem Good.fg {cap most : Int} {s m : List It} {g : List Int} (h : Good cap most s m g) : g.length ≤ 2097152 := by
 have := h.bits
 omega
theorem spec_threeT {cap most : Int} {s m : List It} {g : List Int} (h : Good cap most s m g) : Ev (fun k => spec_ThreeOk.f k cap most s m g) true := Ev.to (spec_ThreeOk_ev cap most s m g h.fs h.fm h.fg) (threeOk_iff.2 h)
theorem impl_threeT {cap most : Int} {s m : List It} {g : List Int} (h : Good cap most s m g) : Ev (fun k => impl_ThreeOk.f k cap most s m g) true := Ev.to (impl_ThreeOk_ev cap most s m g h.fs h.fm h.fg) (threeOk_iff.2 h)
theorem impl_copyThree_eq {cap most : Int} {s m : List It} {g : List Int} (h1 : s.length ≤ 2097152) (h2 : m.length ≤ 2097152) (h3 : g.length ≤ 2097152) : impl_copyThree.f cap most s m g = some (cap, most, s, m, g) := by
 unfold impl_copyThree.f impl_copyItems.f impl_copyInts.f
 simp only [List.length_nil, Nat.zero_add, List.nil_append]
 rw [if_pos (by omega), if_pos (by omega), if_pos (by omega)]
 rfl
theorem spec_l10Copy_eq {cap most : Int} {s m : List It} {g : List Int} (h1 : s.length ≤ 2097152) (h2 : m.length ≤ 2097152) (h3 : g.length ≤ 2097152) : spec_l10Copy.f cap most s m g = some (cap, most, s, m, g) := by
 unfold spec_l10Copy.f
 simp only [List.length_nil, Nat.zero_add, List.nil_append, Option.bind_some]
 rw [if_pos (by omega), if_pos (by omega), if_pos (by omega)]
theorem ghosts_w {cap most : Int} (h0 : 1 ≤ most) (h1 : most ≤ cap) (h2 : cap ≤ 60) : wrap64 (cap - most) = cap - most := w64 (by omega) (by omega)
theorem impl_ghosts_eq {cap most : Int} (h0 : 1 ≤ most) (h1 : most ≤ cap) (h2 : cap ≤ 60) : impl_Three_ghosts.f cap most = some (max 1 (cap - most)) := by
 unfold impl_Three_ghosts.f
 rw [ghosts_w h0 h1 h2]
theorem spec_ghosts_eq {cap most : Int} (s m : List It) (g : List Int) (h0 : 1 ≤ most) (h1 : most ≤ cap) (h2 : cap ≤ 60) : spec_l10Ghosts.f cap most s m g = some (max 1 (cap - most)) := by
 unfold spec_l10Ghosts.f
 rw [ghosts_w h0 h1 h2]
 by_cases c : cap - most < 1
 ·rw [if_pos c]; congr 1; omega
 ·rw [if_neg c]; congr 1; omega
-- taking a number out
theorem spec_l08But_l0 (a : Int) (l : List Int) (hl : l.length ≤ 140737488351) : ∀ (d i : Nat) (acc : List Int), i + d = l.length → acc.length ≤ i → Ev (fun k => spec_l08But.l0 k a acc l (l.length : Int) (i : Int)) (acc ++ (l.drop i).filter (fun y => !(y == a))) := by
 intro d
 induction d with
 | zero =>
  intro i acc hi ha
  rw [List.drop_of_length_le (by omega)]
  refine Ev.step (fun _ => rfl) ?_
  simp only [spec_l08But.l0]
  exact Ev.neg (by omega) (Ev.const (by simp))
 | succ d ih =>
  intro i acc hi ha
  have hx : i < l.length := by omega
  have er : rd l (i : Int) = l[i] := getD_at hx _
  refine Ev.step (fun _ => rfl) ?_
  simp only [spec_l08But.l0]
  rw [er, drop_at hx, wsucc (by omega)]
  refine Ev.pos (by omega) (Ev.pos (by omega) (Ev.pos (by omega) ?_))
  by_cases c : l[i] = a
  ·refine Ev.pos c (Ev.to (ih (i + 1) acc (by omega) (by omega)) ?_)
   rw [List.filter_cons_of_neg (by simp [c])]
  ·refine Ev.neg c (Ev.pos (by omega) (Ev.to (ih (i + 1) (acc ++ [l[i]]) (by omega) (by simp; omega)) ?_))
   rw [List.filter_cons_of_pos (by simp [c]), List.append_assoc]
   rfl
theorem spec_l08But_ev (a : Int) (l : List Int) (hl : l.length ≤ 140737488351) : Ev (fun k => spec_l08But.f k l a) (l.filter (fun y => !(y == a))) := by
 unfold spec_l08But.f
 exact Ev.to (spec_l08But_l0 a l hl l.length 0 [] (by omega) (by simp)) (by simp)
theorem spec_l10Without_l0 (a : ByteArray) (l : List It) (hl : l.length ≤ 140737488351) : ∀ (d i : Nat) (acc : List It), i + d = l.length → acc.length ≤ i → Ev (fun k => spec_l10Without.l0 k a acc l (l.length : Int) (i : Int)) (acc ++ (l.drop i).filter (fun y => !(y.f0.toList == a.toList))) := by
 intro d
 induction d with
 | zero =>
  intro i acc hi ha
  rw [List.drop_of_length_le (by omega)]
  refine Ev.step (fun _ => rfl) ?_
  simp only [spec_l10Without.l0]
  exact Ev.neg (by omega) (Ev.const (by simp))
 | succ d ih =>
  intro i acc hi ha
  have hx : i < l.length := by omega
  have er : rd_T95 l (i : Int) = l[i] := getD_at hx _
  refine Ev.step (fun _ => rfl) ?_
  simp only [spec_l10Without.l0]
  rw [er, drop_at hx, wsucc (by omega)]
  refine Ev.pos (by omega) (Ev.pos (by omega) (Ev.pos (by omega) ?_))
  by_cases c : l[i].f0.toList = a.toList
  ·refine Ev.pos c (Ev.to (ih (i + 1) acc (by omega) (by omega)) ?_)
   rw [List.filter_cons_of_neg (by simp [c])]
  ·refine Ev.neg c (Ev.pos (by omega) (Ev.to (ih (i + 1) (acc ++ [l[i]]) (by omega) (by simp; omega)) ?_))
   rw [List.filter_cons_of_pos (by simp [c]), List.append_assoc]
   rfl
theorem spec_l10Without_ev (a : ByteArray) (l : List It) (hl : l.length ≤ 140737488351) : Ev (fun k => spec_l10Without.f k l a) (l.filter (fun y => !(y.f0.toList == a.toList))) := by
 unfold spec_l10Without.f
 exact Ev.to (spec_l10Without_l0 a l hl l.length 0 [] (by omega) (by simp)) (by simp)
-- what goes
theorem filter_len {α : Type} (p : α → Bool) (l : List α) : (l.filter p).length ≤ l.length := List.length_filter_le p l
theorem spec_l10Haunt_ev {cap most : Int} (s m : List It) (g : List Int) (h : Int) (h0 : 1 ≤ most) (h1 : most ≤ cap) (h2 : cap ≤ 60) (hg : g.length ≤ 1000) : Ev (fun k => spec_l10Haunt.f k cap most s m g h) (cap, most, s, m, haunt cap most g h) := by
 have hf := filter_len (fun y => !(y == h)) g
 unfold spec_l10Haunt.f
 refine Ev.bind (spec_l08But_ev h g (by omega)) (Ev.pos (by omega) ?_)
 simp only [Option.bind_some]
 refine Ev.bind (Ev.const (spec_ghosts_eq s m _ h0 h1 h2)) ?_
 by_cases c : ((g.filter (fun y => !(y == h)) ++ [h]).length : Int) > max 1 (cap - most)
 ·exact Ev.to (Ev.pos c (Ev.pos (by omega) (Ev.const rfl))) (by rw [haunt, if_pos c]; rfl)
 ·exact Ev.to (Ev.neg c (Ev.const rfl)) (by rw [haunt, if_neg c])
theorem impl_evictSmall_ev {cap most : Int} (g : List Int) (h0 : 1 ≤ most) (h1 : most ≤ cap) (h2 : cap ≤ 60) (hg : g.length ≤ 1000) : ∀ (s m : List It), s.length + m.length ≤ 1000 → (∀ x ∈ s, x.f0.size ≤ 20) → Ev (fun k => impl_Three_evictSmall.l0 k cap most s m g) (evSr cap most s m g)
 | [], m, _, _ => by
  refine Ev.step (fun _ => rfl) ?_
  simp only [impl_Three_evictSmall.l0]
  exact Ev.neg (by simp) (Ev.const rfl)
 | x :: s, m, hl, hz => by
  have ih := fun m' hl' => impl_evictSmall_ev g h0 h1 h2 hg s m' hl' (fun y hy => hz y (List.mem_cons_of_mem _ hy))
  rw [List.length_cons] at hl
  have hz0 := hz x List.mem_cons_self
  have hf := filter_len (fun y => !(y == hash x.f0)) g
  refine Ev.step (fun _ => rfl) ?_
  simp only [impl_Three_evictSmall.l0, Option.bind_some]
  have er : rd_T95 (x :: s) 0 = x := rfl
  have ed : (x :: s).drop (1 : Int).toNat = s := rfl
  rw [er, ed]
  refine Ev.pos (by rw [List.length_cons]; omega) (Ev.pos (by rw [List.length_cons]; omega) (Ev.pos (by rw [List.length_cons]; omega) ?_))
  by_cases c : x.f2 > 1
  ·refine Ev.pos c (Ev.pos (by omega) (Ev.to (ih _ (by simp; omega)) ?_))
   simp only [evSr, evS, if_pos c]
  ·refine Ev.neg c ?_
   refine Ev.bind (impl_Hash_ev x.f0 (by omega)) ?_
   refine Ev.bind (Ev.const (show slices_DeleteFunc_int_int.f g (hash x.f0) = some _ from rfl)) (Ev.pos (by omega) ?_)
   refine Ev.bind (Ev.const (impl_ghosts_eq h0 h1 h2)) ?_
   by_cases d : ((g.filter (fun y => !(y == hash x.f0)) ++ [hash x.f0]).length : Int) > max 1 (cap - most)
   ·exact Ev.to (Ev.pos d (Ev.pos (by omega) (Ev.const rfl))) (by simp only [evSr, evS, if_neg c, haunt]; rw [if_pos d]; rfl)
   ·exact Ev.to (Ev.neg d (Ev.const rfl)) (by simp only [evSr, evS, if_neg c, haunt]; rw [if_neg d])
theorem spec_EvictSmall_l0 {cap most : Int} (g : List Int) (h0 : 1 ≤ most) (h1 : most ≤ cap) (h2 : cap ≤ 60) (hg : g.length ≤ 1000) : ∀ (s m : List It), s.length + m.length ≤ 1000 → (∀ x ∈ s, x.f0.size ≤ 20) → Ev (fun k => spec_EvictSmall.l0 k cap most s m g) (evSr cap most s m g)
 | [], m, _, _ => by
  refine Ev.step (fun _ => rfl) ?_
  simp only [spec_EvictSmall.l0]
  exact Ev.neg (by simp) (Ev.const rfl)
 | x :: s, m, hl, hz => by
  have ih := fun m' hl' => spec_EvictSmall_l0 g h0 h1 h2 hg s m' hl' (fun y hy => hz y (List.mem_cons_of_mem _ hy))
  rw [List.length_cons] at hl
  have hz0 := hz x List.mem_cons_self
  refine Ev.step (fun _ => rfl) ?_
  simp only [spec_EvictSmall.l0, Option.bind_some]
  have er : rd_T95 (x :: s) 0 = x := rfl
  have ed : [] ++ (x :: s).drop 1 = s := rfl
  rw [er, ed]
  refine Ev.pos (by rw [List.length_cons]; omega) (Ev.pos (by rw [List.length_cons]; omega) (Ev.pos (by rw [List.length_cons]; omega) (Ev.pos (by simp; omega) ?_)))
  by_cases c : x.f2 ≤ 1
  ·refine Ev.pos c ?_
   have c' : ¬ x.f2 > 1 := by omega
   refine Ev.bind (spec_Hash_ev x.f0 (by omega)) ?_
   refine Ev.bind (spec_l10Haunt_ev s m g _ h0 h1 h2 hg) (Ev.const ?_)
   simp only [evSr, evS, if_neg c']
  ·have c' : x.f2 > 1 := by omega
   refine Ev.neg c (Ev.pos (by omega) (Ev.to (ih _ (by simp; omega)) ?_))
   simp only [evSr, evS, if_pos c']
theorem spec_EvictSmall_ev {cap most : Int} {s m : List It} {g : List Int} (h : Good cap most s m g) : Ev (fun k => spec_EvictSmall.f k cap most s m g) (evSr cap most s m g) := by
 obtain ⟨b1, b2, b3, b4⟩ := h.bits
 unfold spec_EvictSmall.f
 refine Ev.bind (spec_threeT h) (Ev.pos rfl ?_)
 refine Ev.bind (Ev.const (spec_l10Copy_eq (by omega) (by omega) (by omega))) ?_
 exact spec_EvictSmall_l0 g h.most1 h.most2 h.cap2 (by omega) s m (by omega) (fun x hx => (b4 x (List.mem_append.2 (.inl hx))).1)
theorem wt_move (x : It) (m : List It) (h0 : 0 ≤ x.f2) (h : ¬ x.f2 = 0) {n : Nat} (hw : wt (x :: m) < n + 1) : wt (m ++ [(⟨x.f0, x.f1, x.f2 - 1⟩ : It)]) < n := by
 rw [wt_append]
 simp only [wt, List.map_cons, List.sum_cons, List.map_nil, List.sum_nil] at hw ⊢
 omega
theorem impl_evictMain_ev {cap most : Int} (s : List It) (g : List Int) : ∀ (n : Nat) (m : List It), m.length ≤ 1000 → wt m < n → (∀ x ∈ m, 0 ≤ x.f2 ∧ x.f2 ≤ 3) → Ev (fun k => impl_Three_evictMain.l0 k cap most s m g) (evMr n cap most s m g)
 | 0, m, _, h, _ => by omega
 | n + 1, [], _, _, _ => by
  refine Ev.step (fun _ => rfl) ?_
  simp only [impl_Three_evictMain.l0]
  exact Ev.neg (by simp) (Ev.const rfl)
 | n + 1, x :: m, hl, hw, hb => by
  have hx := hb x List.mem_cons_self
  rw [List.length_cons] at hl
  refine Ev.step (fun _ => rfl) ?_
  simp only [impl_Three_evictMain.l0, Option.bind_some]
  have er : rd_T95 (x :: m) 0 = x := rfl
  have ed : (x :: m).drop (1 : Int).toNat = m := rfl
  rw [er, ed]
  refine Ev.pos (by rw [List.length_cons]; omega) (Ev.pos (by rw [List.length_cons]; omega) (Ev.pos (by rw [List.length_cons]; omega) ?_))
  by_cases c : x.f2 = 0
  ·refine Ev.pos c (Ev.const ?_)
   simp only [evMr, evM, if_pos c]
  ·refine Ev.neg c (Ev.pos (by omega) ?_)
   rw [w64 (by omega) (by omega)]
   refine Ev.to (impl_evictMain_ev s g n _ (by simp; omega) (wt_move x m hx.1 c hw) ?_) ?_
   ·intro y hy
    rcases List.mem_append.1 hy with hy | hy
    ·exact hb y (List.mem_cons_of_mem _ hy)
    ·rw [List.mem_singleton.1 hy]
     exact ⟨show 0 ≤ x.f2 - 1 by omega, show x.f2 - 1 ≤ 3 by omega⟩
   ·simp only [evMr, evM, if_neg c]
theorem spec_EvictMain_l0 {cap most : Int} (s : List It) (g : List Int) : ∀ (n : Nat) (m : List It), m.length ≤ 1000 → wt m < n → (∀ x ∈ m, 0 ≤ x.f2 ∧ x.f2 ≤ 3) → Ev (fun k => spec_EvictMain.l0 k cap most s m g) (evMr n cap most s m g)
 | 0, m, _, h, _ => by omega
 | n + 1, [], _, _, _ => by
  refine Ev.step (fun _ => rfl) ?_
  simp only [spec_EvictMain.l0]
  exact Ev.neg (by simp) (Ev.const rfl)
 | n + 1, x :: m, hl, hw, hb => by
  have hx := hb x List.mem_cons_self
  rw [List.length_cons] at hl
  refine Ev.step (fun _ => rfl) ?_
  simp only [spec_EvictMain.l0, Option.bind_some]
  have er : rd_T95 (x :: m) 0 = x := rfl
  have ed : [] ++ (x :: m).drop 1 = m := rfl
  rw [er, ed]
  refine Ev.pos (by rw [List.length_cons]; omega) (Ev.pos (by rw [List.length_cons]; omega) (Ev.pos (by rw [List.length_cons]; omega) (Ev.pos (by simp; omega) ?_)))
  by_cases c : x.f2 = 0
  ·refine Ev.pos c (Ev.const ?_)
   simp only [evMr, evM, if_pos c]
  ·refine Ev.neg c (Ev.pos (by omega) ?_)
   rw [w64 (by omega) (by omega)]
   refine Ev.to (spec_EvictMain_l0 s g n _ (by simp; omega) (wt_move x m hx.1 c hw) ?_) ?_
   ·intro y hy
    rcases List.mem_append.1 hy with hy | hy
    ·exact hb y (List.mem_cons_of_mem _ hy)
    ·rw [List.mem_singleton.1 hy]
     exact ⟨show 0 ≤ x.f2 - 1 by omega, show x.f2 - 1 ≤ 3 by omega⟩
   ·simp only [evMr, evM, if_neg c]
theorem spec_EvictMain_ev {cap most : Int} {s m : List It} {g : List Int} (h : Good cap most s m g) : Ev (fun k => spec_EvictMain.f k cap most s m g) (evMr (wt m + 1) cap most s m g) := by
 obtain ⟨b1, b2, b3, b4⟩ := h.bits
 unfold spec_EvictMain.f
 refine Ev.bind (spec_threeT h) (Ev.pos rfl ?_)
 refine Ev.bind (Ev.const (spec_l10Copy_eq (by omega) (by omega) (by omega))) ?_
 exact spec_EvictMain_l0 s g _ m (by omega) (by omega) (fun x hx => (b4 x (List.mem_append.2 (.inr hx))).2.2)
theorem impl_evictMain_ev' {cap most : Int} {s m : List It} {g : List Int} (h : Good cap most s m g) : Ev (fun k => impl_Three_evictMain.f k cap most s m g) (evMr (wt m + 1) cap most s m g) := by
 obtain ⟨b1, b2, b3, b4⟩ := h.bits
 exact impl_evictMain_ev s g _ m (by omega) (by omega) (fun x hx => (b4 x (List.mem_append.2 (.inr hx))).2.2)
theorem impl_evictSmall_ev' {cap most : Int} {s m : List It} {g : List Int} (h : Good cap most s m g) : Ev (fun k => impl_Three_evictSmall.f k cap most s m g) (evSr cap most s m g) := by
 obtain ⟨b1, b2, b3, b4⟩ := h.bits
 exact impl_evictSmall_ev g h.most1 h.most2 h.cap2 (by omega) s m (by omega) (fun x hx => (b4 x (List.mem_append.2 (.inl hx))).1)
theorem impl_Three_evict_j0 {cap most : Int} {s m : List It} {g : List Int} (h : Good cap most s m g) (b : Bool) (hb : b = true ↔ ((s.length : Int) ≥ most ∨ m = [])) : Ev (fun k => impl_Three_evict.j0 k b cap most s m g) (evicted cap most s m g) := by
 refine Ev.step (fun _ => rfl) ?_
 simp only [impl_Three_evict.j0]
 unfold evicted
 by_cases c : (s.length : Int) ≥ most ∨ m = []
 ·rw [if_pos c]
  refine Ev.pos (hb.2 c) ?_
  refine Ev.bind (impl_evictSmall_ev' h) ?_
  obtain ⟨s', m', g', k, b', e, hG, _, _, hn, _⟩ := evSr_spec h
  rw [e]
  cases b' with
  | true => exact Ev.pos rfl (Ev.const rfl)
  | false =>
   rw [if_neg (by simp)]
   refine Ev.neg (by simp) ?_
   exact Ev.bind (impl_evictMain_ev' hG) (Ev.const rfl)
 ·rw [if_neg c]
  refine Ev.neg (fun e => c (hb.1 e)) ?_
  exact Ev.bind (impl_evictMain_ev' h) (Ev.const rfl)
theorem spec_Evict_j0 {cap most : Int} {s m : List It} {g : List Int} (h : Good cap most s m g) (b : Bool) (hb : b = true ↔ ((s.length : Int) ≥ most ∨ m = [])) : Ev (fun k => spec_Evict.j0 k b cap most s m g) (evicted cap most s m g) := by
 refine Ev.step (fun _ => rfl) ?_
 simp only [spec_Evict.j0]
 unfold evicted
 by_cases c : (s.length : Int) ≥ most ∨ m = []
 ·rw [if_pos c]
  refine Ev.pos (hb.2 c) ?_
  refine Ev.bind (spec_EvictSmall_ev h) ?_
  obtain ⟨s', m', g', k, b', e, hG, _, _, hn, _⟩ := evSr_spec h
  rw [e]
  cases b' with
  | true => exact Ev.pos rfl (Ev.const rfl)
  | false =>
   rw [if_neg (by simp)]
   refine Ev.neg (by simp) ?_
   exact Ev.bind (spec_EvictMain_ev hG) (Ev.const rfl)
 ·rw [if_neg c]
  refine Ev.neg (fun e => c (hb.1 e)) ?_
  exact Ev.bind (spec_EvictMain_ev h) (Ev.const rfl)
theorem nil_len {m : List It} : (((m.length : Int) == 0) = true) ↔ m = [] := by
 rw [beq_iff_eq]
 constructor
 ·intro h; exact List.length_eq_zero_iff.1 (by omega)
 ·rintro rfl; rfl
theorem impl_evict_ev {cap most : Int} {s m : List It} {g : List Int} (h : Good cap most s m g) : Ev (fun k => impl_Three_evict.f k cap most s m g) (evicted cap most s m g) := by
 unfold impl_Three_evict.f
 by_cases c : (s.length : Int) ≥ most
 ·exact Ev.pos c (impl_Three_evict_j0 h true (by simp [c]))
 ·refine Ev.neg c (impl_Three_evict_j0 h _ ?_)
  rw [nil_len]
  exact ⟨.inr, fun h => h.resolve_left c⟩
theorem spec_Evict_ev {cap most : Int} {s m : List It} {g : List Int} (h : Good cap most s m g) : Ev (fun k => spec_Evict.f k cap most s m g) (evicted cap most s m g) := by
 unfold spec_Evict.f
 refine Ev.bind (spec_threeT h) (Ev.pos rfl ?_)
 by_cases c : (s.length : Int) ≥ most
 ·exact Ev.pos c (spec_Evict_j0 h true (by simp [c]))
 ·refine Ev.neg c (spec_Evict_j0 h _ ?_)
  rw [nil_len]
  exact ⟨.inr, fun h => h.resolve_left c⟩
-- what is touched
def more (x : Int) : Int := if x < 3 then x + 1 else 3
theorem more_in {x : Int} (h : 0 ≤ x) : 0 ≤ more x ∧ more x ≤ 3 := by
 unfold more
 by_cases c : x < 3
 ·rw [if_pos c]; omega
 ·rw [if_neg c]; omega
theorem mn_more {x : Int} (h0 : 0 ≤ x) (h : x ≤ 3) : mn 3 (wrap64 (x + 1)) = more x := by
 rw [w64 (by omega) (by omega)]
 unfold mn more
 by_cases c : x + 1 < 3
 ·rw [if_pos c, if_pos (by omega)]
 ·rw [if_neg c]
  by_cases d : x < 3
  ·rw [if_pos d]; omega
  ·rw [if_neg d]
theorem spec_l10More_eq {x : Int} (h0 : 0 ≤ x) (h : x ≤ 3) : spec_l10More.f x = some (more x) := by
 unfold spec_l10More.f more
 by_cases c : x ≥ 3
 ·rw [if_pos c, if_neg (by omega)]
 ·rw [if_neg c, if_pos (by omega), w64 (by omega) (by omega)]
def touch (set : Bool) (val : ByteArray) (x : It) : It := ⟨x.f0, if set = true then val else x.f1, more x.f2⟩
def touchAt (set : Bool) (val : ByteArray) (l : List It) (i : Int) : List It := l.set i.toNat (touch set val (rd_T95 l i))
/-- The cache with the item of a key touched, its value, and whether it is there. -/
def touched (set : Bool) (val key : ByteArray) (cap most : Int) (s m : List It) (g : List Int) : Int × Int × List It × List It × List Int × ByteArray × Bool :=
 if 0 ≤ impl_itemAt.idx key s 0 then (cap, most, touchAt set val s (impl_itemAt.idx key s 0), m, g, (touch set val (rd_T95 s (impl_itemAt.idx key s 0))).f1, true)
 else if 0 ≤ impl_itemAt.idx key m 0 then (cap, most, s, touchAt set val m (impl_itemAt.idx key m 0), g, (touch set val (rd_T95 m (impl_itemAt.idx key m 0))).f1, true)
 else (cap, most, s, m, g, ⟨#[]⟩, false)
theorem rd_mem {l : List It} {i : Int} (h0 : 0 ≤ i) (h1 : i < (l.length : Int)) : rd_T95 l i ∈ l := by
 obtain ⟨j, rfl⟩ : ∃ j : Nat, i = (j : Int) := ⟨i.toNat, by omega⟩
 have hj : j < l.length := by omega
 have er : rd_T95 l (j : Int) = l[j] := getD_at hj _
 rw [er]
 exact List.getElem_mem hj
theorem touchAt_keys (set : Bool) (val : ByteArray) {l : List It} {i : Int} (h0 : 0 ≤ i) (h1 : i < (l.length : Int)) : keys (touchAt set val l i) = keys l := by
 obtain ⟨j, rfl⟩ : ∃ j : Nat, i = (j : Int) := ⟨i.toNat, by omega⟩
 have hj : j < l.length := by omega
 have er : rd_T95 l (j : Int) = l[j] := getD_at hj _
 unfold touchAt keys
 rw [er, Int.toNat_natCast, List.map_set]
 have : (touch set val l[j]).f0 = (l.map (·.f0))[j]'(by simpa using hj) := by simp [touch]
 rw [this, List.set_getElem_self]
theorem touchAt_mem {set : Bool} {val : ByteArray} {l : List It} {i : Int} {x : It} (h : x ∈ touchAt set val l i) : x ∈ l ∨ x = touch set val (rd_T95 l i) := List.mem_or_eq_of_mem_set h
theorem touchAt_len (set : Bool) (val : ByteArray) (l : List It) (i : Int) : (touchAt set val l i).length = l.length := List.length_set
theorem touch_ok {set : Bool} {val : ByteArray} (hv : set = true → val.size ≤ 40 ∧ clean val = true) {x : It} (h : itemOk x.f0 x.f1 x.f2 = true) : itemOk (touch set val x).f0 (touch set val x).f1 (touch set val x).f2 = true := by
 have h' := itemOk_iff.1 h
 rw [itemOk_iff]
 refine ⟨h'.1, ?_, more_in h'.2.2.1⟩
 show (if set = true then val else x.f1).size ≤ 40 ∧ clean (if set = true then val else x.f1) = true
 by_cases c : set = true
 ·rw [if_pos c]; exact hv c
 ·rw [if_neg c]; exact h'.2.1
theorem not_both {cap most : Int} {s m : List It} {g : List Int} (h : Good cap most s m g) {key : ByteArray} (h1 : key ∈ keys s) : key ∉ keys m := fun h2 => by
 have := h.nd
 rw [keys_append, List.nodup_append] at this
 exact this.2.2 _ h1 _ h2 rfl
/-- What a touch leaves: a right cache with the same keys; it tells whether the key is there. -/
theorem touched_spec {cap most : Int} {s m : List It} {g : List Int} (h : Good cap most s m g) (set : Bool) (val key : ByteArray) (hv : set = true → val.size ≤ 40 ∧ clean val = true) : ∃ s' m' v b, touched set val key cap most s m g = (cap, most, s', m', g, v, b) ∧ (b = true ↔ key ∈ keys (s ++ m)) ∧ Good cap most s' m' g ∧ keys s' = keys s ∧ keys m' = keys m := by
 unfold touched
 by_cases c : 0 ≤ impl_itemAt.idx key s 0
 ·rw [if_pos c]
  have hk := touchAt_keys set val c idx_lt
  refine ⟨_, _, _, _, rfl, ⟨fun _ => by rw [keys_append]; exact List.mem_append.2 (.inl (idx_nonneg.1 c)), fun _ => rfl⟩, ?_, hk, rfl⟩
  refine { h with room := by rw [touchAt_len]; exact h.room, ok := ?_, nd := by rw [keys_append, hk, ← keys_append]; exact h.nd }
  intro x hx
  rcases List.mem_append.1 hx with hx | hx
  ·rcases touchAt_mem hx with hx | rfl
   ·exact h.ok x (List.mem_append.2 (.inl hx))
   ·exact touch_ok hv (h.ok _ (List.mem_append.2 (.inl (rd_mem c idx_lt))))
  ·exact h.ok x (List.mem_append.2 (.inr hx))
 ·rw [if_neg c]
  by_cases d : 0 ≤ impl_itemAt.idx key m 0
  ·rw [if_pos d]
   have hk := touchAt_keys set val d idx_lt
   refine ⟨_, _, _, _, rfl, ⟨fun _ => by rw [keys_append]; exact List.mem_append.2 (.inr (idx_nonneg.1 d)), fun _ => rfl⟩, ?_, rfl, hk⟩
   refine { h with room := by rw [touchAt_len]; exact h.room, ok := ?_, nd := by rw [keys_append, hk, ← keys_append]; exact h.nd }
   intro x hx
   rcases List.mem_append.1 hx with hx | hx
   ·exact h.ok x (List.mem_append.2 (.inl hx))
   ·rcases touchAt_mem hx with hx | rfl
    ·exact h.ok x (List.mem_append.2 (.inr hx))
    ·exact touch_ok hv (h.ok _ (List.mem_append.2 (.inr (rd_mem d idx_lt))))
  ·rw [if_neg d]
   refine ⟨s, m, _, _, rfl, ⟨fun e => by simp at e, fun e => ?_⟩, h, rfl, rfl⟩
   rw [keys_append, List.mem_append] at e
   exact absurd e (not_or.2 ⟨idx_neg.1 (by omega), idx_neg.1 (by omega)⟩)
theorem spec_l10Touch_ev {cap most : Int} {s m : List It} {g : List Int} (h : Good cap most s m g) (set : Bool) (val key : ByteArray) : Ev (fun k => spec_l10Touch.f k cap most s m g key set val) (touched set val key cap most s m g) := by
 obtain ⟨b1, b2, b3, b4⟩ := h.bits
 have hs := idx_lt (key := key) (l := s)
 have hm := idx_lt (key := key) (l := m)
 unfold spec_l10Touch.f touched
 refine Ev.bind (spec_l10At_ev s key (by omega)) ?_
 refine Ev.bind (spec_l10At_ev m key (by omega)) ?_
 by_cases c : 0 ≤ impl_itemAt.idx key s 0
 ·have d : impl_itemAt.idx key m 0 < 0 := idx_neg.2 (not_both h (idx_nonneg.1 c))
  have hb := b4 _ (List.mem_append.2 (.inl (rd_mem c hs)))
  rw [if_pos c]
  refine Ev.pos c (Ev.pos c (Ev.pos hs ?_))
  refine Ev.step (fun _ => rfl) ?_
  simp only [spec_l10Touch.j0]
  refine Ev.neg (by omega) ?_
  refine Ev.step (fun _ => rfl) ?_
  simp only [spec_l10Touch.j1]
  refine Ev.neg (by omega) ?_
  refine Ev.step (fun _ => rfl) ?_
  simp only [spec_l10Touch.j2]
  refine Ev.neg (by simp) ?_
  refine Ev.bind (Ev.const (spec_l10More_eq hb.2.2.1 hb.2.2.2)) ?_
  cases set
  ·exact Ev.neg (by simp) (Ev.pos c (Ev.pos c (Ev.pos hs (Ev.const rfl))))
  ·exact Ev.pos rfl (Ev.pos c (Ev.pos c (Ev.pos hs (Ev.const rfl))))
 ·rw [if_neg c]
  refine Ev.neg c ?_
  refine Ev.step (fun _ => rfl) ?_
  simp only [spec_l10Touch.j0]
  by_cases d : 0 ≤ impl_itemAt.idx key m 0
  ·have hb := b4 _ (List.mem_append.2 (.inr (rd_mem d hm)))
   rw [if_pos d]
   refine Ev.pos d (Ev.pos d (Ev.pos hm ?_))
   refine Ev.step (fun _ => rfl) ?_
   simp only [spec_l10Touch.j1]
   refine Ev.pos (by omega) ?_
   refine Ev.step (fun _ => rfl) ?_
   simp only [spec_l10Touch.j2]
   refine Ev.neg (by simp; omega) ?_
   refine Ev.bind (Ev.const (spec_l10More_eq hb.2.2.1 hb.2.2.2)) ?_
   cases set
   ·exact Ev.neg (by simp) (Ev.neg c (Ev.pos d (Ev.pos hm (Ev.const rfl))))
   ·exact Ev.pos rfl (Ev.neg c (Ev.pos d (Ev.pos hm (Ev.const rfl))))
  ·rw [if_neg d]
   refine Ev.neg d ?_
   refine Ev.step (fun _ => rfl) ?_
   simp only [spec_l10Touch.j1]
   refine Ev.pos (by omega) ?_
   refine Ev.step (fun _ => rfl) ?_
   simp only [spec_l10Touch.j2]
   exact Ev.pos (by simp; omega) (Ev.const rfl)
theorem impl_item_eq (s m : List It) (key : ByteArray) : impl_Three_item.f s m key = some (if 0 ≤ impl_itemAt.idx key s 0 then impl_itemAt.idx key s 0 else if 0 ≤ impl_itemAt.idx key m 0 then (s.length : Int) + impl_itemAt.idx key m 0 else -1) := by
 unfold impl_Three_item.f impl_itemAt.f
 simp only [Option.bind_some]
 by_cases c : 0 ≤ impl_itemAt.idx key s 0
 ·rw [if_pos c, if_pos c]
 ·rw [if_neg c, if_neg c]
  by_cases d : 0 ≤ impl_itemAt.idx key m 0
  ·rw [if_pos d, if_pos d]
  ·rw [if_neg d, if_neg d]
/-- What Get answers. -/
def getT (cap most : Int) (s m : List It) (g : List Int) (key : ByteArray) : Int × Int × List It × List It × List Int × ByteArray × Bool :=
 if threeOk cap most s m g = true then touched false ⟨#[]⟩ key cap most s m g else (0, 0, [], [], [], ⟨#[]⟩, false)
abbrev Fi (l : List It) : Prop := l.length ≤ 2097152 ∧ ∀ x ∈ l, x.f0.size ≤ 140737488351232 ∧ x.f1.size ≤ 140737488351232
theorem spec_Get_ev {cap most : Int} {s m : List It} {g : List Int} (fs : Fi s) (fm : Fi m) (fg : g.length ≤ 2097152) (key : ByteArray) : Ev (fun k => spec_Get.f k cap most s m g key) (getT cap most s m g key) := by
 unfold spec_Get.f
 refine Ev.bind (spec_ThreeOk_ev cap most s m g fs fm fg) ?_
 by_cases c : threeOk cap most s m g = true
 ·refine Ev.pos c ?_
  rw [show getT cap most s m g key = _ from if_pos c]
  refine Ev.bind (Ev.const (spec_l10Copy_eq fs.1 fm.1 fg)) ?_
  exact Ev.bind (spec_l10Touch_ev (threeOk_iff.1 c) false _ key) (Ev.const rfl)
 ·rw [show getT cap most s m g key = _ from if_neg c]
  exact Ev.neg c (Ev.const rfl)
theorem set_rd {l : List It} {i : Int} {x : It} (h0 : 0 ≤ i) (h1 : i < (l.length : Int)) : rd_T95 (l.set i.toNat x) i = x := by
 obtain ⟨j, rfl⟩ : ∃ j : Nat, i = (j : Int) := ⟨i.toNat, by omega⟩
 have hj : j < (l.set (j : Int).toNat x).length := by rw [List.length_set]; omega
 have er : rd_T95 (l.set (j : Int).toNat x) (j : Int) = (l.set (j : Int).toNat x)[j] := getD_at hj _
 rw [er]
 simp
theorem impl_Get_ev {cap most : Int} {s m : List It} {g : List Int} (fs : Fi s) (fm : Fi m) (fg : g.length ≤ 2097152) (key : ByteArray) : Ev (fun k => impl_Get.f k cap most s m g key) (getT cap most s m g key) := by
 unfold impl_Get.f
 refine Ev.bind (impl_ThreeOk_ev cap most s m g fs fm fg) ?_
 by_cases hc : threeOk cap most s m g = true
 ·rw [show getT cap most s m g key = _ from if_pos hc]
  have h := threeOk_iff.1 hc
  obtain ⟨b1, b2, b3, b4⟩ := h.bits
  have hs := idx_lt (key := key) (l := s)
  have hm := idx_lt (key := key) (l := m)
  refine Ev.pos hc ?_
  refine Ev.bind (Ev.const (impl_copyThree_eq fs.1 fm.1 fg)) ?_
  refine Ev.bind (Ev.const (impl_item_eq s m key)) ?_
  simp only [Option.bind_some]
  unfold touched
  by_cases c : 0 ≤ impl_itemAt.idx key s 0
  ·have hb := b4 _ (List.mem_append.2 (.inl (rd_mem c hs)))
   rw [if_pos c, if_pos c, if_pos c]
   refine Ev.neg (by omega) (Ev.pos hs (Ev.const ?_))
   rw [set_rd c hs, mn_more hb.2.2.1 hb.2.2.2]
   rfl
  ·rw [if_neg c, if_neg c]
   by_cases d : 0 ≤ impl_itemAt.idx key m 0
   ·have hb := b4 _ (List.mem_append.2 (.inr (rd_mem d hm)))
    have e : wrap64 ((s.length : Int) + impl_itemAt.idx key m 0 - (s.length : Int)) = impl_itemAt.idx key m 0 := by rw [w64 (by omega) (by omega)]; omega
    rw [if_pos d, if_pos d, e]
    refine Ev.neg (by omega) (Ev.neg (by omega) (Ev.pos d (Ev.pos hm (Ev.const ?_))))
    rw [set_rd d hm, mn_more hb.2.2.1 hb.2.2.2]
    rfl
   ·rw [if_neg d, if_neg d]
    exact Ev.pos (by omega) (Ev.const rfl)
 ·rw [show getT cap most s m g key = _ from if_neg hc]
  exact Ev.neg hc (Ev.const rfl)
/-- A new item stands behind the others: in Main where its ghost is there. -/
def placed (cap most : Int) (s m : List It) (g : List Int) (key val : ByteArray) (gone : List ByteArray) : Int × Int × List It × List It × List Int × List ByteArray × Bool :=
 if hash key ∈ g then (cap, most, s, m ++ [⟨key, val, 0⟩], g.filter (fun y => !(y == hash key)), gone, true) else (cap, most, s ++ [⟨key, val, 0⟩], m, g, gone, true)
def putNew (cap most : Int) (s m : List It) (g : List Int) (key val : ByteArray) : Int × Int × List It × List It × List Int × List ByteArray × Bool :=
 if (s.length : Int) + (m.length : Int) ≥ cap then placed (evicted cap most s m g).1 (evicted cap most s m g).2.1 (evicted cap most s m g).2.2.1 (evicted cap most s m g).2.2.2.1 (evicted cap most s m g).2.2.2.2.1 key val [(evicted cap most s m g).2.2.2.2.2.1]
 else placed cap most s m g key val []
/-- What Put answers. -/
def putT (cap most : Int) (s m : List It) (g : List Int) (key val : ByteArray) : Int × Int × List It × List It × List Int × List ByteArray × Bool :=
 if threeOk cap most s m g = true ∧ itemOk key val 0 = true then
  if (touched true val key cap most s m g).2.2.2.2.2.2 = true then ((touched true val key cap most s m g).1, (touched true val key cap most s m g).2.1, (touched true val key cap most s m g).2.2.1, (touched true val key cap most s m g).2.2.2.1, (touched true val key cap most s m g).2.2.2.2.1, [], true)
  else putNew cap most s m g key val
 else (0, 0, [], [], [], [], false)
theorem spec_Put_end {cap most : Int} {s m : List It} {g : List Int} {key val : ByteArray} (gone : List ByteArray) (hs : s.length ≤ 1000) (hm : m.length ≤ 1000) (hg : g.length ≤ 1000) (hc : (s.length : Int) + (m.length : Int) < cap) (hk : key.size ≤ 140737488351232) : Ev (fun k => spec_Put.l0 k key val gone cap most s m g) (placed cap most s m g key val gone) := by
 refine Ev.step (fun _ => rfl) ?_
 simp only [spec_Put.l0]
 rw [w64 (by omega) (by omega)]
 refine Ev.neg (by omega) ?_
 refine Ev.bind (spec_Hash_ev key hk) ?_
 refine Ev.bind (spec_l03Has_ev g _ (by omega)) ?_
 by_cases c : hash key ∈ g
 ·rw [show placed cap most s m g key val gone = _ from if_pos c]
  refine Ev.pos (decide_eq_true c) ?_
  refine Ev.bind (spec_Hash_ev key hk) ?_
  exact Ev.bind (spec_l08But_ev _ g (by omega)) (Ev.pos (by omega) (Ev.const rfl))
 ·rw [show placed cap most s m g key val gone = _ from if_neg c]
  exact Ev.neg (by simp [c]) (Ev.pos (by omega) (Ev.const rfl))
theorem impl_Put_end {cap most : Int} {s m : List It} {g : List Int} {key val : ByteArray} (gone : List ByteArray) (hs : s.length ≤ 1000) (hm : m.length ≤ 1000) (hg : g.length ≤ 1000) (hc : (s.length : Int) + (m.length : Int) < cap) (hk : key.size ≤ 140737488351232) : Ev (fun k => impl_Put.l0 k key val gone cap most s m g) (placed cap most s m g key val gone) := by
 have hf := filter_len (fun y => !(y == hash key)) g
 refine Ev.step (fun _ => rfl) ?_
 simp only [impl_Put.l0]
 rw [w64 (by omega) (by omega)]
 refine Ev.neg (by omega) ?_
 refine Ev.bind (impl_Hash_ev key hk) ?_
 refine Ev.bind (slices_Contains_ev g _ (by omega)) ?_
 by_cases c : hash key ∈ g
 ·rw [show placed cap most s m g key val gone = _ from if_pos c]
  refine Ev.pos (decide_eq_true c) ?_
  refine Ev.bind (Ev.const (show slices_DeleteFunc_int_int.f g (hash key) = some _ from rfl)) (Ev.pos (by omega) ?_)
  exact Ev.bind (Ev.const (impl_copyThree_eq (by omega) (by simp; omega) (by omega))) (Ev.const rfl)
 ·rw [show placed cap most s m g key val gone = _ from if_neg c]
  refine Ev.neg (by simp [c]) (Ev.pos (by omega) ?_)
  exact Ev.bind (Ev.const (impl_copyThree_eq (by simp; omega) (by omega) (by omega))) (Ev.const rfl)
theorem evicted_room {s m s' m' : List It} {k : ByteArray} (hP : (keys (s ++ m)).Perm (k :: keys (s' ++ m'))) : s'.length + m'.length + 1 = s.length + m.length := by
 have := hP.length_eq
 simp only [List.length_cons, keys_length, List.length_append] at this
 omega
theorem spec_Put_new {cap most : Int} {s m : List It} {g : List Int} (h : Good cap most s m g) {key val : ByteArray} (hk : key.size ≤ 140737488351232) : Ev (fun k => spec_Put.l0 k key val [] cap most s m g) (putNew cap most s m g key val) := by
 obtain ⟨b1, b2, b3, b4⟩ := h.bits
 have hr := h.room
 by_cases c : (s.length : Int) + (m.length : Int) ≥ cap
 ·rw [show putNew cap most s m g key val = _ from if_pos c]
  refine Ev.step (fun _ => rfl) ?_
  simp only [spec_Put.l0]
  rw [w64 (by omega) (by omega)]
  refine Ev.pos (by omega) ?_
  refine Ev.bind (spec_Evict_ev h) ?_
  have h1 := h.cap1
  obtain ⟨s', m', g', k, e, hG, hP, _⟩ := evicted_spec h (by omega)
  rw [e]
  have hl := evicted_room hP
  obtain ⟨b1', b2', b3', b4'⟩ := hG.bits
  exact Ev.pos (by simp) (spec_Put_end (cap := cap) (most := most) (s := s') (m := m') (g := g') [k] (by omega) (by omega) (by omega) (by omega) hk)
 ·rw [show putNew cap most s m g key val = _ from if_neg c]
  exact spec_Put_end [] (by omega) (by omega) (by omega) (by omega) hk
theorem impl_Put_new {cap most : Int} {s m : List It} {g : List Int} (h : Good cap most s m g) {key val : ByteArray} (hk : key.size ≤ 140737488351232) : Ev (fun k => impl_Put.l0 k key val [] cap most s m g) (putNew cap most s m g key val) := by
 obtain ⟨b1, b2, b3, b4⟩ := h.bits
 have hr := h.room
 by_cases c : (s.length : Int) + (m.length : Int) ≥ cap
 ·rw [show putNew cap most s m g key val = _ from if_pos c]
  refine Ev.step (fun _ => rfl) ?_
  simp only [impl_Put.l0]
  rw [w64 (by omega) (by omega)]
  refine Ev.pos (by omega) ?_
  refine Ev.bind (impl_evict_ev h) ?_
  have h1 := h.cap1
  obtain ⟨s', m', g', k, e, hG, hP, _⟩ := evicted_spec h (by omega)
  rw [e]
  have hl := evicted_room hP
  obtain ⟨b1', b2', b3', b4'⟩ := hG.bits
  exact Ev.pos (by simp) (impl_Put_end (cap := cap) (most := most) (s := s') (m := m') (g := g') [k] (by omega) (by omega) (by omega) (by omega) hk)
 ·rw [show putNew cap most s m g key val = _ from if_neg c]
  exact impl_Put_end [] (by omega) (by omega) (by omega) (by omega) hk
theorem spec_Put_j0 {cap most : Int} {s m : List It} {g : List Int} {key val : ByteArray} (fs : Fi s) (fm : Fi m) (fg : g.length ≤ 2097152) (hk : key.size ≤ 140737488351232) (b : Bool) (hb : b = false ↔ (threeOk cap most s m g = true ∧ itemOk key val 0 = true)) : Ev (fun k => spec_Put.j0 k key val b cap most s m g) (putT cap most s m g key val) := by
 refine Ev.step (fun _ => rfl) ?_
 simp only [spec_Put.j0]
 cases b with
 | true =>
  rw [show putT cap most s m g key val = _ from if_neg (fun c => by simpa using hb.2 c)]
  exact Ev.pos rfl (Ev.const rfl)
 | false =>
  have hc := hb.1 rfl
  have h := threeOk_iff.1 hc.1
  rw [show putT cap most s m g key val = _ from if_pos hc]
  refine Ev.neg (by simp) ?_
  refine Ev.bind (Ev.const (spec_l10Copy_eq fs.1 fm.1 fg)) ?_
  refine Ev.bind (spec_l10Touch_ev h true val key) ?_
  by_cases c : 0 ≤ impl_itemAt.idx key s 0
  ·rw [show touched true val key cap most s m g = _ from if_pos c]
   exact Ev.pos rfl (Ev.const rfl)
  ·by_cases d : 0 ≤ impl_itemAt.idx key m 0
   ·rw [show touched true val key cap most s m g = _ from (if_neg c).trans (if_pos d)]
    exact Ev.pos rfl (Ev.const rfl)
   ·rw [show touched true val key cap most s m g = _ from (if_neg c).trans (if_neg d)]
    rw [if_neg (by simp)]
    exact Ev.neg (by simp) (spec_Put_new h hk)
theorem set_set (l : List It) (i : Nat) (x y : It) : (l.set i x).set i y = l.set i y := List.set_set ..
theorem impl_Put_j0 {cap most : Int} {s m : List It} {g : List Int} {key val : ByteArray} (fs : Fi s) (fm : Fi m) (fg : g.length ≤ 2097152) (hk : key.size ≤ 140737488351232) (b : Bool) (hb : b = false ↔ (threeOk cap most s m g = true ∧ itemOk key val 0 = true)) : Ev (fun k => impl_Put.j0 k key val b cap most s m g) (putT cap most s m g key val) := by
 refine Ev.step (fun _ => rfl) ?_
 simp only [impl_Put.j0]
 cases b with
 | true =>
  rw [show putT cap most s m g key val = _ from if_neg (fun c => by simpa using hb.2 c)]
  exact Ev.pos rfl (Ev.const rfl)
 | false =>
  have hc := hb.1 rfl
  have h := threeOk_iff.1 hc.1
  obtain ⟨b1, b2, b3, b4⟩ := h.bits
  have hs := idx_lt (key := key) (l := s)
  have hm := idx_lt (key := key) (l := m)
  rw [show putT cap most s m g key val = _ from if_pos hc]
  refine Ev.neg (by simp) ?_
  refine Ev.bind (Ev.const (impl_copyThree_eq fs.1 fm.1 fg)) ?_
  simp only [Option.bind_some]
  refine Ev.bind (Ev.const (impl_item_eq s m key)) ?_
  by_cases c : 0 ≤ impl_itemAt.idx key s 0
  ·have hb := b4 _ (List.mem_append.2 (.inl (rd_mem c hs)))
   rw [show touched true val key cap most s m g = _ from if_pos c, if_pos c]
   refine Ev.pos c (Ev.pos hs (Ev.pos c (Ev.const ?_)))
   simp only [set_rd c hs, mn_more hb.2.2.1 hb.2.2.2, set_set]
   rfl
  ·rw [if_neg c]
   by_cases d : 0 ≤ impl_itemAt.idx key m 0
   ·have hb := b4 _ (List.mem_append.2 (.inr (rd_mem d hm)))
    have e : wrap64 ((s.length : Int) + impl_itemAt.idx key m 0 - (s.length : Int)) = impl_itemAt.idx key m 0 := by rw [w64 (by omega) (by omega)]; omega
    rw [show touched true val key cap most s m g = _ from (if_neg c).trans (if_pos d), if_pos d, e]
    refine Ev.pos (by omega) (Ev.neg (by omega) (Ev.pos d (Ev.pos hm (Ev.const ?_))))
    simp only [set_rd d hm, mn_more hb.2.2.1 hb.2.2.2, set_set]
    rfl
   ·rw [show touched true val key cap most s m g = _ from (if_neg c).trans (if_neg d), if_neg d]
    rw [if_neg (show ¬ (cap, most, s, m, g, (⟨#[]⟩ : ByteArray), false).2.2.2.2.2.2 = true by simp)]
    exact Ev.neg (by omega) (impl_Put_new h hk)
theorem spec_Put_ev {cap most : Int} {s m : List It} {g : List Int} {key val : ByteArray} (fs : Fi s) (fm : Fi m) (fg : g.length ≤ 2097152) (hk : key.size ≤ 140737488351232) (hv : val.size ≤ 140737488351232) : Ev (fun k => spec_Put.f k cap most s m g key val) (putT cap most s m g key val) := by
 unfold spec_Put.f
 refine Ev.bind (spec_ThreeOk_ev cap most s m g fs fm fg) ?_
 by_cases c : threeOk cap most s m g = true
 ·refine Ev.pos c (Ev.bind (spec_ItemOk_ev key val 0 hk hv) ?_)
  exact spec_Put_j0 fs fm fg hk _ (by simp [c])
 ·exact Ev.neg c (spec_Put_j0 fs fm fg hk true (by simp [c]))
theorem impl_Put_ev {cap most : Int} {s m : List It} {g : List Int} {key val : ByteArray} (fs : Fi s) (fm : Fi m) (fg : g.length ≤ 2097152) (hk : key.size ≤ 140737488351232) (hv : val.size ≤ 140737488351232) : Ev (fun k => impl_Put.f k cap most s m g key val) (putT cap most s m g key val) := by
 unfold impl_Put.f
 refine Ev.bind (impl_ThreeOk_ev cap most s m g fs fm fg) ?_
 by_cases c : threeOk cap most s m g = true
 ·refine Ev.pos c (Ev.bind (impl_ItemOk_ev key val 0 hk hv) ?_)
  exact impl_Put_j0 fs fm fg hk _ (by simp [c])
 ·exact Ev.neg c (impl_Put_j0 fs fm fg hk true (by simp [c]))
theorem placed_good {cap most : Int} {s m : List It} {g : List Int} (h : Good cap most s m g) {key val : ByteArray} (hi : itemOk key val 0 = true) (hn : key ∉ keys (s ++ m)) (hr : (s.length : Int) + (m.length : Int) < cap) (gone : List ByteArray) : ∃ s' m' g', placed cap most s m g key val gone = (cap, most, s', m', g', gone, true) ∧ Good cap most s' m' g' ∧ (keys (s' ++ m')).Perm (key :: keys (s ++ m)) := by
 have hnd : (key :: keys (s ++ m)).Nodup := List.nodup_cons.2 ⟨hn, h.nd⟩
 unfold placed
 by_cases c : hash key ∈ g
 ·rw [if_pos c]
  have hp : (keys (s ++ (m ++ [⟨key, val, 0⟩]))).Perm (key :: keys (s ++ m)) := by
   rw [← List.append_assoc, keys_append]
   exact List.perm_append_comm (l₂ := [key])
  have hf := filter_len (fun y => !(y == hash key)) g
  refine ⟨_, _, _, rfl, { h with room := by simp; omega, gl := by have := h.gl; omega, ok := ?_, nd := hp.nodup_iff.2 hnd, nums := fun n hm => h.nums n (List.mem_filter.1 hm).1, gnd := h.gnd.filter _ }, hp⟩
  intro x hx
  rw [← List.append_assoc] at hx
  rcases List.mem_append.1 hx with hx | hx
  ·exact h.ok x hx
  ·rw [List.mem_singleton.1 hx]; exact hi
 ·rw [if_neg c]
  have hp : (keys ((s ++ [⟨key, val, 0⟩]) ++ m)).Perm (key :: keys (s ++ m)) := by
   rw [List.append_assoc, keys_append, keys_append, keys_append]
   exact List.perm_middle
  refine ⟨_, _, _, rfl, { h with room := by simp; omega, ok := ?_, nd := hp.nodup_iff.2 hnd }, hp⟩
  intro x hx
  rcases List.mem_append.1 hx with hx | hx
  ·rcases List.mem_append.1 hx with hx | hx
   ·exact h.ok x (List.mem_append.2 (.inl hx))
   ·rw [List.mem_singleton.1 hx]; exact hi
  ·exact h.ok x (List.mem_append.2 (.inr hx))
/-- What Put leaves of a right cache. -/
theorem putT_spec {cap most : Int} {s m : List It} {g : List Int} (h : Good cap most s m g) {key val : ByteArray} (hi : itemOk key val 0 = true) : ∃ s' m' g' gone, putT cap most s m g key val = (cap, most, s', m', g', gone, true) ∧ Good cap most s' m' g' ∧
  ((key ∈ keys (s ++ m) ∧ gone = [] ∧ keys (s' ++ m') = keys (s ++ m)) ∨ (key ∉ keys (s ++ m) ∧ (s.length : Int) + (m.length : Int) < cap ∧ gone = [] ∧ (keys (s' ++ m')).Perm (key :: keys (s ++ m))) ∨
   (key ∉ keys (s ++ m) ∧ (s.length : Int) + (m.length : Int) = cap ∧ ∃ k rest, gone = [k] ∧ k ∈ keys (s ++ m) ∧ (keys (s ++ m)).Perm (k :: rest) ∧ (keys (s' ++ m')).Perm (key :: rest))) := by
 have hv := (itemOk_iff.1 hi).2.1
 have hr := h.room
 have hc1 := h.cap1
 obtain ⟨s', m', v, b, e, hb, hG, k1, k2⟩ := touched_spec h true val key (fun _ => hv)
 rw [show putT cap most s m g key val = _ from if_pos ⟨threeOk_iff.2 h, hi⟩, e]
 by_cases hk : key ∈ keys (s ++ m)
 ·rw [if_pos (hb.2 hk)]
  exact ⟨s', m', g, [], rfl, hG, .inl ⟨hk, rfl, by rw [keys_append, keys_append, k1, k2]⟩⟩
 ·rw [if_neg (fun c => hk (hb.1 c))]
  unfold putNew
  by_cases c : (s.length : Int) + (m.length : Int) ≥ cap
  ·rw [if_pos c]
   obtain ⟨s2, m2, g2, k, e2, hG2, hP2, hF2, hk2⟩ := evicted_spec h (by omega)
   have hl := evicted_room hP2
   rw [e2]
   obtain ⟨s3, m3, g3, e3, hG3, hP3⟩ := placed_good hG2 hi (fun hm => hk (hP2.mem_iff.2 (List.mem_cons_of_mem _ hm))) (by omega) [k]
   exact ⟨s3, m3, g3, [k], e3, hG3, .inr (.inr ⟨hk, by omega, k, _, rfl, hk2, hP2, hP3⟩)⟩
  ·rw [if_neg c]
   obtain ⟨s3, m3, g3, e3, hG3, hP3⟩ := placed_good h hi hk (by omega) []
   exact ⟨s3, m3, g3, [], e3, hG3, .inr (.inl ⟨hk, by omega, rfl, hP3⟩)⟩
/-- A list without the item of a key. -/
def without (key : ByteArray) (l : List It) : List It := l.filter (fun y => !(y.f0.toList == key.toList))
/-- What Drop answers. -/
def dropT (cap most : Int) (s m : List It) (g : List Int) (key : ByteArray) : Int × Int × List It × List It × List Int × Bool :=
 if threeOk cap most s m g = true then (cap, most, without key s, without key m, g, decide (((without key s).length : Int) + ((without key m).length : Int) < (s.length : Int) + (m.length : Int))) else (0, 0, [], [], [], false)
theorem without_len (key : ByteArray) (l : List It) : (without key l).length ≤ l.length := filter_len _ l
theorem spec_Drop_ev {cap most : Int} {s m : List It} {g : List Int} (fs : Fi s) (fm : Fi m) (fg : g.length ≤ 2097152) (key : ByteArray) : Ev (fun k => spec_Drop.f k cap most s m g key) (dropT cap most s m g key) := by
 have h1 := without_len key s
 have h2 := without_len key m
 have e1 := fs.1
 have e2 := fm.1
 unfold spec_Drop.f
 refine Ev.bind (spec_ThreeOk_ev cap most s m g fs fm fg) ?_
 by_cases c : threeOk cap most s m g = true
 ·rw [show dropT cap most s m g key = _ from if_pos c]
  refine Ev.pos c ?_
  refine Ev.bind (Ev.const (spec_l10Copy_eq fs.1 fm.1 fg)) ?_
  refine Ev.bind (spec_l10Without_ev key s (by omega)) ?_
  refine Ev.bind (spec_l10Without_ev key m (by omega)) (Ev.const ?_)
  show some (cap, most, without key s, without key m, g, decide (wrap64 (((without key s).length : Int) + ((without key m).length : Int)) < wrap64 ((s.length : Int) + (m.length : Int)))) = _
  rw [w64 (by omega) (by omega), w64 (by omega) (by omega)]
 ·rw [show dropT cap most s m g key = _ from if_neg c]
  exact Ev.neg c (Ev.const rfl)
theorem impl_Drop_ev {cap most : Int} {s m : List It} {g : List Int} (fs : Fi s) (fm : Fi m) (fg : g.length ≤ 2097152) (key : ByteArray) : Ev (fun k => impl_Drop.f k cap most s m g key) (dropT cap most s m g key) := by
 have h1 := without_len key s
 have h2 := without_len key m
 have e1 := fs.1
 have e2 := fm.1
 unfold impl_Drop.f
 refine Ev.bind (impl_ThreeOk_ev cap most s m g fs fm fg) ?_
 by_cases c : threeOk cap most s m g = true
 ·rw [show dropT cap most s m g key = _ from if_pos c]
  refine Ev.pos c ?_
  refine Ev.bind (Ev.const (impl_copyThree_eq fs.1 fm.1 fg)) ?_
  refine Ev.bind (Ev.const (show slices_DeleteFunc_impl_Item_impl_Item.f s key = some _ from rfl)) ?_
  refine Ev.bind (Ev.const (show slices_DeleteFunc_impl_Item_impl_Item.f m key = some _ from rfl)) (Ev.const ?_)
  show some (cap, most, without key s, without key m, g, decide (wrap64 (((without key s).length : Int) + ((without key m).length : Int)) < wrap64 ((s.length : Int) + (m.length : Int)))) = _
  rw [w64 (by omega) (by omega), w64 (by omega) (by omega)]
 ·rw [show dropT cap most s m g key = _ from if_neg c]
  exact Ev.neg c (Ev.const rfl)
theorem without_append (key : ByteArray) (a b : List It) : without key (a ++ b) = without key a ++ without key b := List.filter_append ..
theorem without_not {key : ByteArray} : ∀ {l : List It}, key ∉ keys l → without key l = l
 | [], _ => rfl
 | x :: r, h => by
  rw [keys_cons, List.mem_cons, not_or] at h
  unfold without
  rw [List.filter_cons_of_pos (by simp [bytes_eq]; exact fun e => h.1 e.symm)]
  exact congrArg _ (without_not h.2)
theorem without_key (key : ByteArray) (l : List It) : key ∉ keys (without key l) := fun h => by
 obtain ⟨x, hx, e⟩ := mem_keys.1 h
 have := (List.mem_filter.1 hx).2
 simp [e] at this
theorem without_one {key : ByteArray} : ∀ {l : List It}, (keys l).Nodup → key ∈ keys l → (without key l).length + 1 = l.length
 | [], _, h => by simp [keys] at h
 | x :: r, hn, h => by
  rw [keys_cons, List.nodup_cons] at hn
  rw [keys_cons, List.mem_cons] at h
  by_cases c : x.f0 = key
  ·have : without key (x :: r) = without key r := by unfold without; rw [List.filter_cons_of_neg (by simp [c])]
   rw [this, without_not (by rw [← c]; exact hn.1), List.length_cons]
  ·have : without key (x :: r) = x :: without key r := by unfold without; rw [List.filter_cons_of_pos (by simp [bytes_eq, c])]
   rw [this, List.length_cons, List.length_cons, without_one hn.2 (h.resolve_left (fun e => c e.symm))]
/-- What Drop leaves of a right cache. -/
theorem dropT_spec {cap most : Int} {s m : List It} {g : List Int} (h : Good cap most s m g) (key : ByteArray) : ∃ s' m' b, dropT cap most s m g key = (cap, most, s', m', g, b) ∧ Good cap most s' m' g ∧ key ∉ keys (s' ++ m') ∧ (b = true ↔ key ∈ keys (s ++ m)) ∧ (key ∈ keys (s ++ m) → s'.length + m'.length + 1 = s.length + m.length) ∧ (key ∉ keys (s ++ m) → s'.length + m'.length = s.length + m.length) ∧ (∀ x, x ∈ s' ++ m' → x ∈ s ++ m) := by
 have h1 := without_len key s
 have h2 := without_len key m
 have hr := h.room
 have el : (without key s).length + (without key m).length = (without key (s ++ m)).length := by rw [without_append, List.length_append]
 have hsub : ∀ x, x ∈ without key s ++ without key m → x ∈ s ++ m := by
  intro x hx
  rw [← without_append] at hx
  exact (List.mem_filter.1 hx).1
 have hone : key ∈ keys (s ++ m) → (without key s).length + (without key m).length + 1 = s.length + m.length := fun hk => by rw [el, without_one h.nd hk, List.length_append]
 have hnot : key ∉ keys (s ++ m) → (without key s).length + (without key m).length = s.length + m.length := fun hk => by rw [el, without_not hk, List.length_append]
 refine ⟨without key s, without key m, _, if_pos (threeOk_iff.2 h), { h with room := by omega, ok := fun x hx => h.ok x (hsub x hx), nd := ?_ }, ?_, ?_, hone, hnot, hsub⟩
 ·rw [← without_append]
  exact h.nd.sublist (List.Sublist.map _ List.filter_sublist)
 ·rw [← without_append]; exact without_key key _
 ·rw [decide_eq_true_eq]
  constructor
  ·intro hl
   by_cases hk : key ∈ keys (s ++ m)
   ·exact hk
   ·have := hnot hk; omega
  ·intro hk
   have := hone hk; omega
/-- What one op answers. -/
def opT (cap most : Int) (s m : List It) (g : List Int) (kind : Int) (key val : ByteArray) : Int × Int × List It × List It × List Int × Bool × ByteArray × ByteArray × Bool :=
 if threeOk cap most s m g = true ∧ opOk kind key val = true then
  if kind = 1 then ((getT cap most s m g key).1, (getT cap most s m g key).2.1, (getT cap most s m g key).2.2.1, (getT cap most s m g key).2.2.2.1, (getT cap most s m g key).2.2.2.2.1, (getT cap most s m g key).2.2.2.2.2.2, (getT cap most s m g key).2.2.2.2.2.1, ⟨#[]⟩, true)
  else if kind = 2 then ((putT cap most s m g key val).1, (putT cap most s m g key val).2.1, (putT cap most s m g key val).2.2.1, (putT cap most s m g key val).2.2.2.1, (putT cap most s m g key val).2.2.2.2.1, true, ⟨#[]⟩, (putT cap most s m g key val).2.2.2.2.2.1.headD ⟨#[]⟩, true)
  else ((dropT cap most s m g key).1, (dropT cap most s m g key).2.1, (dropT cap most s m g key).2.2.1, (dropT cap most s m g key).2.2.2.1, (dropT cap most s m g key).2.2.2.2.1, (dropT cap most s m g key).2.2.2.2.2, ⟨#[]⟩, ⟨#[]⟩, true)
 else (0, 0, [], [], [], false, ⟨#[]⟩, ⟨#[]⟩, false)
theorem opOk_item {kind : Int} {key val : ByteArray} (h : opOk kind key val = true) : itemOk key val 0 = true ∧ 1 ≤ kind ∧ kind ≤ 3 := by
 simp only [opOk, Bool.and_eq_true, decide_eq_true_eq] at h
 exact ⟨h.1.2, h.1.1⟩
theorem impl_OpDo_j0 {cap most : Int} {s m : List It} {g : List Int} {kind : Int} {key val : ByteArray} (fs : Fi s) (fm : Fi m) (fg : g.length ≤ 2097152) (hk : key.size ≤ 140737488351232) (hv : val.size ≤ 140737488351232) (b : Bool) (hb : b = false ↔ (threeOk cap most s m g = true ∧ opOk kind key val = true)) : Ev (fun k => impl_OpDo.j0 k b cap most s m g kind key val) (opT cap most s m g kind key val) := by
 refine Ev.step (fun _ => rfl) ?_
 simp only [impl_OpDo.j0]
 cases b with
 | true =>
  rw [show opT cap most s m g kind key val = _ from if_neg (fun c => by simpa using hb.2 c)]
  exact Ev.pos rfl (Ev.const rfl)
 | false =>
  have hc := hb.1 rfl
  have h := threeOk_iff.1 hc.1
  rw [show opT cap most s m g kind key val = _ from if_pos hc]
  refine Ev.neg (by simp) ?_
  by_cases c : kind = 1
  ·rw [if_pos c]
   refine Ev.pos c ?_
   exact Ev.bind (impl_Get_ev fs fm fg key) (Ev.const rfl)
  ·rw [if_neg c]
   refine Ev.neg c ?_
   by_cases d : kind = 2
   ·rw [if_pos d]
    refine Ev.pos d ?_
    refine Ev.bind (impl_Put_ev fs fm fg hk hv) ?_
    obtain ⟨s', m', g', gone, e, hG, hcase⟩ := putT_spec h (opOk_item hc.2).1
    rw [e]
    cases gone with
    | nil => exact Ev.neg (by simp) (Ev.const rfl)
    | cons k r => exact Ev.pos (by simp) (Ev.pos (by simp) (Ev.const rfl))
   ·rw [if_neg d]
    refine Ev.neg d ?_
    exact Ev.bind (impl_Drop_ev fs fm fg key) (Ev.const rfl)
theorem impl_OpDo_ev {cap most : Int} {s m : List It} {g : List Int} {kind : Int} {key val : ByteArray} (fs : Fi s) (fm : Fi m) (fg : g.length ≤ 2097152) (hk : key.size ≤ 140737488351232) (hv : val.size ≤ 140737488351232) : Ev (fun k => impl_OpDo.f k cap most s m g kind key val) (opT cap most s m g kind key val) := by
 unfold impl_OpDo.f
 refine Ev.bind (impl_ThreeOk_ev cap most s m g fs fm fg) ?_
 by_cases c : threeOk cap most s m g = true
 ·refine Ev.pos c (Ev.bind (impl_OpOk_ev kind key val hk hv) ?_)
  exact impl_OpDo_j0 fs fm fg hk hv _ (by simp [c])
 ·exact Ev.neg c (impl_OpDo_j0 fs fm fg hk hv true (by simp [c]))
end Go.Proofs.Ytdeijmofaapgdaa.Q

namespace Go.Proofs.Ytdeijmofaapgdaa.Q
open Go.RowKit Go.Proofs.Ytdeijmofaapgdaa.G Go.Proofs.Ytdeijmofaapgdaa.PL Go.Proofs.YtdeijmofaapgdaaW.PrintWords
theorem i64_and255 (n : Int) : Go.bits .and .i64 n 255 = n % 256 := by
 have h255 : (BitVec.ofInt 64 255).toNat = 2 ^ 8 - 1 := by decide
 have key : (BitVec.ofInt 64 n &&& BitVec.ofInt 64 255).toNat = (n % ((2 ^ 64 : Nat) : Int)).toNat % 2 ^ 8 := by
  rw [BitVec.toNat_and, BitVec.toNat_ofInt, h255, Nat.and_two_pow_sub_one_eq_mod]
 show IntKind.i64.wrap ((BitVec.ofInt 64 n &&& BitVec.ofInt 64 255).toNat : Nat) = n % 256
 rw [key, Go.IntKind.wrap_i64]
 omega
theorem l01New_ev (l : List Int) (_ : l.length ≤ 1048576) : ∃ h : Int, Ev (fun k => spec_l01New.f k l) (l, 0, h) := by
 have go : ∀ (d i : Nat) (h : Int), i + d = l.length → ∃ h' : Int, Ev (fun k => spec_l01New.l0 k l h (i : Int)) (l, 0, h') := by
  intro d
  induction d with
  | zero =>
   intro i h hi
   refine ⟨h, Ev.step (fun _ => rfl) ?_⟩
   simp only [spec_l01New.l0]
   exact Ev.neg (by omega) (Ev.const rfl)
  | succ d ih =>
   intro i h hi
   by_cases c : i < 4000
   ·obtain ⟨h', e⟩ := ih (i + 1) (Go.bits .and .i64 (wrap64 ((wrap64 ((wrap64 (h * 179)) + (wrap64 (rd l (i : Int))))) + 7)) 1073741823) (by omega)
    refine ⟨h', Ev.step (fun _ => rfl) ?_⟩
    simp only [spec_l01New.l0]
    refine Ev.pos (by omega) (Ev.pos (by omega) (Ev.pos (by omega) ?_))
    rw [wsucc (by omega)]
    exact e
   ·refine ⟨h, Ev.step (fun _ => rfl) ?_⟩
    simp only [spec_l01New.l0]
    exact Ev.pos (by omega) (Ev.neg (by omega) (Ev.const rfl))
 unfold spec_l01New.f
 exact go l.length 0 _ (by omega)
theorem l01Byte_ex (b : List Int) (i h : Int) (hl : b.length ≤ 1048576) (hi : 0 ≤ i) : ∃ x i' h' : Int, spec_l01Byte.f b i h = some (x, i', h') ∧ 0 ≤ x ∧ x ≤ 255 ∧ 0 ≤ i' := by
 unfold spec_l01Byte.f
 by_cases c : i < (b.length : Int)
 ·rw [if_pos c, if_pos hi]
  refine ⟨_, _, _, rfl, ?_, ?_, ?_⟩
  ·rw [i64_and255]; omega
  ·rw [i64_and255]; omega
  ·rw [w64 (by omega) (by omega)]; omega
 ·rw [if_neg c]
  refine ⟨_, _, _, rfl, ?_, ?_, hi⟩
  ·rw [i64_and255]; omega
  ·rw [i64_and255]; omega
theorem l01Below_ex (b : List Int) (i h n : Int) (hl : b.length ≤ 1048576) (hi : 0 ≤ i) (hn : n ≤ 256) : ∃ x i' h' : Int, spec_l01Below.f b i h n = some (x, i', h') ∧ 0 ≤ x ∧ (0 < n → x < n) ∧ (n ≤ 0 → x = 0) ∧ 0 ≤ i' := by
 unfold spec_l01Below.f
 by_cases c : n ≤ 0
 ·rw [if_pos c]
  exact ⟨0, i, h, rfl, by omega, fun h => by omega, fun _ => rfl, hi⟩
 ·obtain ⟨x, i', h', e, x0, x1, hi'⟩ := l01Byte_ex b i h hl hi
  rw [if_neg c, if_pos hn, e, Option.bind_some, if_neg (by omega)]
  refine ⟨_, _, _, rfl, ?_, fun _ => ?_, fun h => absurd h c, hi'⟩
  ·rw [Int.tmod_eq_emod_of_nonneg x0]
   exact Int.emod_nonneg _ (by omega)
  ·rw [Int.tmod_eq_emod_of_nonneg x0]
   exact Int.emod_lt_of_pos _ (by omega)
theorem l01Of_ex (b : List Int) (i h : Int) (l : List ByteArray) (hb : b.length ≤ 1048576) (hi : 0 ≤ i) (h0 : 0 < l.length) (h1 : l.length ≤ 256) : ∃ (s : ByteArray) (i' h' : Int), spec_l01Of.f b i h l = some (s, i', h') ∧ s ∈ l ∧ 0 ≤ i' := by
 obtain ⟨x, i', h', e, x0, x1, _, hi'⟩ := l01Below_ex b i h (l.length : Int) hb hi (by omega)
 have hx := x1 (by omega)
 unfold spec_l01Of.f
 rw [e, Option.bind_some, if_pos x0, if_pos hx]
 obtain ⟨n, rfl⟩ := Int.eq_ofNat_of_zero_le x0
 have hn : n < l.length := by omega
 refine ⟨_, _, _, rfl, ?_, hi'⟩
 have er : rdOf ByteArray.empty l ((n : Nat) : Int) = l[n] := getD_at hn _
 show rdOf ByteArray.empty l ((n : Nat) : Int) ∈ l
 rw [er]
 exact List.getElem_mem hn
end Go.Proofs.Ytdeijmofaapgdaa.Q

namespace Go.Proofs.Ytdeijmofaapgdaa.Q
open Go.RowKit Go.Proofs.Ytdeijmofaapgdaa.G Go.Proofs.Ytdeijmofaapgdaa.PL Go.Proofs.YtdeijmofaapgdaaW.PrintWords Go.Proofs.YtdeijmofaapgdaaW.PrintLast
def drawKeys : List ByteArray := [(⟨#[97]⟩ : ByteArray), (⟨#[98]⟩ : ByteArray), (⟨#[99]⟩ : ByteArray), (⟨#[100]⟩ : ByteArray), (⟨#[101]⟩ : ByteArray), (⟨#[102]⟩ : ByteArray), (⟨#[103]⟩ : ByteArray), (⟨#[104]⟩ : ByteArray)]
def drawVals : List ByteArray := [(⟨#[49]⟩ : ByteArray), (⟨#[50]⟩ : ByteArray), (⟨#[51]⟩ : ByteArray), (⟨#[]⟩ : ByteArray), (⟨#[120]⟩ : ByteArray)]
theorem draw_ok : ∀ k ∈ drawKeys, ∀ v ∈ drawVals, itemOk k v 0 = true := by
 intro k hk v hv
 simp only [drawKeys, drawVals, List.mem_cons, List.not_mem_nil, or_false] at hk hv
 rcases hk with rfl | rfl | rfl | rfl | rfl | rfl | rfl | rfl <;> rcases hv with rfl | rfl | rfl | rfl | rfl <;> decide
theorem l10Key_ex (b : List Int) (i h : Int) (hb : b.length ≤ 1048576) (hi : 0 ≤ i) : ∃ (s : ByteArray) (i' h' : Int), spec_l10Key.f b i h = some (s, i', h') ∧ s ∈ drawKeys ∧ 0 ≤ i' := by
 obtain ⟨s, i', h', e, hs, hi'⟩ := l01Of_ex b i h drawKeys hb hi (by decide) (by decide)
 refine ⟨s, i', h', ?_, hs, hi'⟩
 unfold spec_l10Key.f
 show (spec_l01Of.f b i h drawKeys).bind _ = _
 rw [e]
 rfl
theorem l10Val_ex (b : List Int) (i h : Int) (hb : b.length ≤ 1048576) (hi : 0 ≤ i) : ∃ (s : ByteArray) (i' h' : Int), spec_l10Val.f b i h = some (s, i', h') ∧ s ∈ drawVals ∧ 0 ≤ i' := by
 obtain ⟨s, i', h', e, hs, hi'⟩ := l01Of_ex b i h drawVals hb hi (by decide) (by decide)
 refine ⟨s, i', h', ?_, hs, hi'⟩
 unfold spec_l10Val.f
 show (spec_l01Of.f b i h drawVals).bind _ = _
 rw [e]
 rfl
theorem draw_size {k v : ByteArray} (hk : k ∈ drawKeys) (hv : v ∈ drawVals) : k.size ≤ 140737488351232 ∧ v.size ≤ 140737488351232 := by
 have := itemOk_iff.1 (draw_ok k hk v hv)
 omega
theorem nil_val : (⟨#[]⟩ : ByteArray) ∈ drawVals := by simp [drawVals]
theorem l10Some_ex {cap most : Int} {s m : List It} {g : List Int} (hG : Good cap most s m g) (b : List Int) (i h : Int) (hb : b.length ≤ 1048576) (hi : 0 ≤ i) : ∃ s' m' g' i' h', Ev (fun k => spec_l10Some.f k b i h cap most s m g) (cap, most, s', m', g', i', h') ∧ Good cap most s' m' g' ∧ 0 ≤ i' := by
 obtain ⟨x, i1, h1, e1, x0, _, _, hi1⟩ := l01Below_ex b i h 9 hb hi (by omega)
 obtain ⟨key, i2, h2, e2, hk, hi2⟩ := l10Key_ex b i1 h1 hb hi1
 by_cases c : x < 4
 ·obtain ⟨val, i3, h3, e3, hv, hi3⟩ := l10Val_ex b i2 h2 hb hi2
  have hz := draw_size hk hv
  obtain ⟨s', m', g', gone, e, hG', _⟩ := putT_spec hG (draw_ok key hk val hv)
  refine ⟨s', m', g', i3, h3, ?_, hG', hi3⟩
  unfold spec_l10Some.f
  refine Ev.bind (Ev.const e1) (Ev.pos c ?_)
  refine Ev.bind (Ev.const e2) (Ev.bind (Ev.const e3) ?_)
  exact Ev.bind (Ev.to (spec_Put_ev hG.fs hG.fm hG.fg hz.1 hz.2) e) (Ev.const rfl)
 ·by_cases d : x < 8
  ·obtain ⟨s', m', v, f, e, _, hG', _⟩ := touched_spec hG false ⟨#[]⟩ key (by simp)
   refine ⟨s', m', g, i2, h2, ?_, hG', hi2⟩
   unfold spec_l10Some.f
   refine Ev.bind (Ev.const e1) (Ev.neg c (Ev.pos d ?_))
   refine Ev.bind (Ev.const e2) ?_
   exact Ev.bind (Ev.to (spec_Get_ev hG.fs hG.fm hG.fg key) ((if_pos (threeOk_iff.2 hG)).trans e)) (Ev.const rfl)
  ·obtain ⟨s', m', f, e, hG', _⟩ := dropT_spec hG key
   refine ⟨s', m', g, i2, h2, ?_, hG', hi2⟩
   unfold spec_l10Some.f
   refine Ev.bind (Ev.const e1) (Ev.neg c (Ev.neg d ?_))
   refine Ev.bind (Ev.const e2) ?_
   exact Ev.bind (Ev.to (spec_Drop_ev hG.fs hG.fm hG.fg key) e) (Ev.const rfl)
theorem l10Draw_l0 (b : List Int) (hb : b.length ≤ 1048576) : ∀ (n : Nat), n ≤ 1000 → ∀ (cap most : Int) (s m : List It) (g : List Int) (i h : Int), Good cap most s m g → 0 ≤ i → ∃ s' m' g' i' h', Ev (fun k => spec_l10Draw.l0 k (n : Int) b i h cap most s m g) (cap, most, s', m', g', i', h') ∧ Good cap most s' m' g' ∧ 0 ≤ i'
 | 0, _, cap, most, s, m, g, i, h, hG, hi => by
  refine ⟨s, m, g, i, h, Ev.step (fun _ => rfl) ?_, hG, hi⟩
  simp only [spec_l10Draw.l0]
  exact Ev.neg (by omega) (Ev.const rfl)
 | n + 1, hn, cap, most, s, m, g, i, h, hG, hi => by
  obtain ⟨s1, m1, g1, i1, h1, e1, hG1, hi1⟩ := l10Some_ex hG b i h hb hi
  obtain ⟨s2, m2, g2, i2, h2, e2, hG2, hi2⟩ := l10Draw_l0 b hb n (by omega) cap most s1 m1 g1 i1 h1 hG1 hi1
  refine ⟨s2, m2, g2, i2, h2, Ev.step (fun _ => rfl) ?_, hG2, hi2⟩
  simp only [spec_l10Draw.l0]
  refine Ev.pos (by omega) (Ev.bind e1 ?_)
  rw [show wrap64 (((n + 1 : Nat) : Int) - 1) = (n : Int) from by rw [w64 (by omega) (by omega)]; omega]
  exact e2
theorem three_new {cap most : Int} (h0 : 1 ≤ cap) (h1 : cap ≤ 60) (h2 : 1 ≤ most) (h3 : most ≤ cap) : Good cap most [] [] [] :=
 ⟨h0, h1, h2, h3, by simp; omega, by simp; omega, by simp, by simp [keys], by simp, by simp⟩
theorem spec_ThreeNew_ev {cap most : Int} (h : Good cap most [] [] []) : Ev (fun k => spec_ThreeNew.f k cap most) (cap, most, [], [], [], true) := by
 unfold spec_ThreeNew.f
 exact Ev.bind (spec_threeT h) (Ev.pos rfl (Ev.const rfl))
theorem l10Draw_ex (b : List Int) (i h : Int) (hb : b.length ≤ 1048576) (hi : 0 ≤ i) : ∃ cap most s m g i' h', Ev (fun k => spec_l10Draw.f k b i h) (cap, most, s, m, g, i', h') ∧ Good cap most s m g := by
 obtain ⟨x, i1, h1, e1, x0, x1, _, hi1⟩ := l01Below_ex b i h 6 hb hi (by omega)
 have x1 := x1 (by omega)
 obtain ⟨y, i2, h2, e2, y0, y1, _, hi2⟩ := l01Below_ex b i1 h1 (1 + x) hb hi1 (by omega)
 have y1 := y1 (by omega)
 obtain ⟨z, i3, h3, e3, z0, z1, _, hi3⟩ := l01Below_ex b i2 h2 24 hb hi2 (by omega)
 have z1 := z1 (by omega)
 obtain ⟨n, rfl⟩ := Int.eq_ofNat_of_zero_le z0
 have hN := three_new (cap := 1 + x) (most := 1 + y) (by omega) (by omega) (by omega) (by omega)
 obtain ⟨s, m, g, i', h', e, hG, _⟩ := l10Draw_l0 b hb n (by omega) (1 + x) (1 + y) [] [] [] i3 h3 hN hi3
 refine ⟨1 + x, 1 + y, s, m, g, i', h', ?_, hG⟩
 unfold spec_l10Draw.f
 refine Ev.bind (Ev.const e1) ?_
 rw [w64 (x := 1 + x) (by omega) (by omega)]
 refine Ev.bind (Ev.const e2) ?_
 rw [w64 (x := 1 + y) (by omega) (by omega)]
 refine Ev.bind (spec_ThreeNew_ev hN) ?_
 exact Ev.bind (Ev.const e3) e
theorem spec_MakeThree_ex (b : List Int) (hb : b.length ≤ 1048576) : ∃ cap most s m g, Ev (fun k => spec_MakeThree.f k b) (cap, most, s, m, g) ∧ Good cap most s m g := by
 obtain ⟨h, e⟩ := l01New_ev b hb
 obtain ⟨cap, most, s, m, g, i', h', e2, hG⟩ := l10Draw_ex b 0 (wrap64 (h + 41)) hb (by omega)
 refine ⟨cap, most, s, m, g, ?_, hG⟩
 unfold spec_MakeThree.f
 exact Ev.bind e (Ev.bind e2 (Ev.const rfl))
/-- A drawn op. -/
def DrawnOp (o : S38) : Prop := (o.f0 = 1 ∨ o.f0 = 2 ∨ o.f0 = 3) ∧ o.f1 ∈ drawKeys ∧ o.f2 ∈ drawVals ∧ (o.f0 = 2 ∨ o.f2 = ⟨#[]⟩)
theorem drawnOp_ok {o : S38} (h : DrawnOp o) : opOk o.f0 o.f1 o.f2 = true := by
 obtain ⟨h1, h2, h3, h4⟩ := h
 simp only [opOk, Bool.and_eq_true, Bool.or_eq_true, decide_eq_true_eq]
 exact ⟨⟨⟨by omega, by omega⟩, draw_ok _ h2 _ h3⟩, h4⟩
theorem l16Op_ex (b : List Int) (i h : Int) (hb : b.length ≤ 1048576) (hi : 0 ≤ i) : ∃ (o : S38) (i' h' : Int), spec_l16Op.f b i h = some (o.f0, o.f1, o.f2, i', h') ∧ DrawnOp o ∧ 0 ≤ i' := by
 obtain ⟨x, i1, h1, e1, x0, x1, _, hi1⟩ := l01Below_ex b i h 3 hb hi (by omega)
 have x1 := x1 (by omega)
 obtain ⟨key, i2, h2, e2, hk, hi2⟩ := l10Key_ex b i1 h1 hb hi1
 unfold spec_l16Op.f
 rw [e1, Option.bind_some]
 simp only
 rw [e2, Option.bind_some, w64 (by omega) (by omega)]
 by_cases c : 1 + x = 2
 ·obtain ⟨val, i3, h3, e3, hv, hi3⟩ := l10Val_ex b i2 h2 hb hi2
  simp only
  rw [if_pos c, e3, Option.bind_some]
  exact ⟨⟨1 + x, key, val⟩, i3, h3, rfl, ⟨.inr (.inl c), hk, hv, .inl c⟩, hi3⟩
 ·simp only
  rw [if_neg c]
  exact ⟨⟨1 + x, key, ⟨#[]⟩⟩, i2, h2, rfl, ⟨by show 1 + x = 1 ∨ 1 + x = 2 ∨ 1 + x = 3; omega, hk, nil_val, .inr rfl⟩, hi2⟩
theorem l16Ops_l0 (b : List Int) (hb : b.length ≤ 1048576) : ∀ (n : Nat), n ≤ 1000 → ∀ (l : List S38) (i h : Int), l.length + n ≤ 1000 → (∀ o ∈ l, DrawnOp o) → 0 ≤ i → ∃ l' i' h', Ev (fun k => spec_l16Ops.l0 k l (n : Int) b i h) (l', i', h') ∧ l'.length = l.length + n ∧ (∀ o ∈ l', DrawnOp o) ∧ 0 ≤ i'
 | 0, _, l, i, h, _, ho, hi => by
  refine ⟨l, i, h, Ev.step (fun _ => rfl) ?_, rfl, ho, hi⟩
  simp only [spec_l16Ops.l0]
  exact Ev.neg (by omega) (Ev.const rfl)
 | n + 1, hn, l, i, h, hl, ho, hi => by
  obtain ⟨o, i1, h1, e1, hd, hi1⟩ := l16Op_ex b i h hb hi
  obtain ⟨l2, i2, h2, e2, hl2, ho2, hi2⟩ := l16Ops_l0 b hb n (by omega) (l ++ [o]) i1 h1 (by simp; omega) (fun y hy => by
   rcases List.mem_append.1 hy with hy | hy
   ·exact ho y hy
   ·rw [List.mem_singleton.1 hy]; exact hd) hi1
  refine ⟨l2, i2, h2, Ev.step (fun _ => rfl) ?_, by rw [hl2]; simp; omega, ho2, hi2⟩
  simp only [spec_l16Ops.l0]
  refine Ev.pos (by omega) (Ev.bind (Ev.const e1) (Ev.pos (by omega) ?_))
  rw [show wrap64 (((n + 1 : Nat) : Int) - 1) = (n : Int) from by rw [w64 (by omega) (by omega)]; omega]
  exact e2
theorem spec_MakeOps_ex (b : List Int) (hb : b.length ≤ 1048576) (most : Int) (h0 : 0 ≤ most) (h1 : most ≤ 255) : ∃ l, Ev (fun k => spec_MakeOps.f k b most) l ∧ l.length ≤ 255 ∧ ∀ o ∈ l, DrawnOp o := by
 obtain ⟨h, e⟩ := l01New_ev b hb
 obtain ⟨z, i3, h3, e3, z0, z1, _, hi3⟩ := l01Below_ex b 0 (wrap64 (h + 91)) (most + 1) hb (by omega) (by omega)
 have z1 := z1 (by omega)
 obtain ⟨n, rfl⟩ := Int.eq_ofNat_of_zero_le z0
 obtain ⟨l, i', h', e4, hl, ho, _⟩ := l16Ops_l0 b hb n (by omega) [] i3 h3 (by simp; omega) (by simp) hi3
 refine ⟨l, ?_, by rw [hl]; simp; omega, ho⟩
 have e5 : Ev (fun k => spec_l16Ops.f k b 0 (wrap64 (h + 91)) most) (l, i', h') := by
  unfold spec_l16Ops.f
  rw [w64 (x := most + 1) (by omega) (by omega)]
  exact Ev.bind (Ev.const e3) e4
 unfold spec_MakeOps.f
 exact Ev.bind e (Ev.bind e5 (Ev.const rfl))
theorem keys_len2 (s m : List It) : (keys (s ++ m)).length = s.length + m.length := by rw [keys_length, List.length_append]
theorem get_flag {cap most : Int} {s m : List It} {g : List Int} (h : Good cap most s m g) (key : ByteArray) : ∃ a b c d e v f, getT cap most s m g key = (a, b, c, d, e, v, f) ∧ (f = true ↔ key ∈ keys (s ++ m)) := by
 obtain ⟨s', m', v, f, e, hb, _⟩ := touched_spec h false ⟨#[]⟩ key (by simp)
 exact ⟨_, _, _, _, _, _, _, (if_pos (threeOk_iff.2 h)).trans e, hb⟩
theorem flag_ne {f : Bool} {p : Prop} (h : f = true ↔ p) (hp : ¬ p) : f = false := by
 cases f
 ·rfl
 ·exact absurd (h.1 rfl) hp
theorem less_t : laws_less.f true = some 1 := rfl
theorem less_f : laws_less.f false = some 0 := rfl
theorem ne_nil_of_size {k : ByteArray} (h : 1 ≤ k.size) : (k.toList != ([] : List UInt8)) = true := by
 rw [bne_iff_ne]
 intro e
 have : k = ⟨#[]⟩ := toList_nil.1 e
 subst this
 exact absurd h (by decide)
theorem op_facts {cap most : Int} {s m : List It} {g : List Int} (h : Good cap most s m g) {kind : Int} {key val : ByteArray} (hok : opOk kind key val = true) : ∃ s' m' g' ok v gone, opT cap most s m g kind key val = (cap, most, s', m', g', ok, v, gone, true) ∧ Good cap most s' m' g' ∧
  (kind = 2 → key ∈ keys (s' ++ m') ∧ ((key ∈ keys (s ++ m) ∧ gone = ⟨#[]⟩ ∧ s'.length + m'.length = s.length + m.length) ∨ (key ∉ keys (s ++ m) ∧ (s.length : Int) + (m.length : Int) < cap ∧ gone = ⟨#[]⟩ ∧ s'.length + m'.length = s.length + m.length + 1) ∨ (key ∉ keys (s ++ m) ∧ (s.length : Int) + (m.length : Int) = cap ∧ 1 ≤ gone.size ∧ s'.length + m'.length = s.length + m.length))) ∧
  (kind = 1 → (ok = true ↔ key ∈ keys (s ++ m)) ∧ keys (s' ++ m') = keys (s ++ m) ∧ gone = ⟨#[]⟩) ∧
  (kind = 3 → (ok = true ↔ key ∈ keys (s ++ m)) ∧ key ∉ keys (s' ++ m') ∧ (key ∈ keys (s ++ m) → s'.length + m'.length + 1 = s.length + m.length) ∧ (key ∉ keys (s ++ m) → s'.length + m'.length = s.length + m.length)) := by
 have hop : opT cap most s m g kind key val = _ := if_pos ⟨threeOk_iff.2 h, hok⟩
 by_cases q1 : kind = 1
 ·obtain ⟨s', m', v, b, e, hb, hG, e1, e2⟩ := touched_spec h false ⟨#[]⟩ key (by simp)
  rw [if_pos q1, show getT cap most s m g key = _ from (if_pos (threeOk_iff.2 h)).trans e] at hop
  exact ⟨s', m', g, b, v, ⟨#[]⟩, hop, hG, fun _ => by omega, fun _ => ⟨hb, by rw [keys_append, keys_append, e1, e2], rfl⟩, fun _ => by omega⟩
 ·rw [if_neg q1] at hop
  by_cases q2 : kind = 2
  ·obtain ⟨s', m', g', gone, e, hG, hc⟩ := putT_spec h (opOk_item hok).1
   rw [if_pos q2, e] at hop
   refine ⟨s', m', g', true, ⟨#[]⟩, gone.headD ⟨#[]⟩, hop, hG, fun _ => ?_, fun _ => by omega, fun _ => by omega⟩
   have hl2 := keys_len2 s' m'
   have hl3 := keys_len2 s m
   rcases hc with ⟨hk, hgone, hkeys⟩ | ⟨hk, hroom, hgone, hP⟩ | ⟨hk, hroom, k, rest, hgone, hkm, hP1, hP2⟩
   ·rw [hkeys] at hl2 ⊢
    exact ⟨hk, .inl ⟨hk, by rw [hgone]; rfl, by omega⟩⟩
   ·have := hP.length_eq
    rw [List.length_cons] at this
    exact ⟨hP.mem_iff.2 List.mem_cons_self, .inr (.inl ⟨hk, hroom, by rw [hgone]; rfl, by omega⟩)⟩
   ·have e1 := hP1.length_eq
    have e2 := hP2.length_eq
    rw [List.length_cons] at e1 e2
    obtain ⟨x, hx, ex⟩ := mem_keys.1 hkm
    have hxo := (itemOk_iff.1 (h.ok x hx)).1.1.1
    exact ⟨hP2.mem_iff.2 List.mem_cons_self, .inr (.inr ⟨hk, hroom, by rw [hgone]; show 1 ≤ k.size; rw [← ex]; exact hxo, by omega⟩)⟩
  ·obtain ⟨s', m', b, e, hG, e1, e2, e3, e4, _⟩ := dropT_spec h key
   rw [if_neg q2, e] at hop
   exact ⟨s', m', g, b, ⟨#[]⟩, ⟨#[]⟩, hop, hG, fun _ => by omega, fun _ => by omega, fun _ => ⟨e2, e1, e3, e4⟩⟩
theorem room_l0 (l : List S38) (hl : l.length ≤ 1000) (ho : ∀ o ∈ l, DrawnOp o) : ∀ (d i : Nat), i + d = l.length → ∀ (cap most : Int) (s m : List It) (g : List Int), Good cap most s m g → Ev (fun k => laws_FnRoom.l0 k l (l.length : Int) (i : Int) cap most s m g) true := by
 intro d
 induction d with
 | zero =>
  intro i hi cap most s m g h
  refine Ev.step (fun _ => rfl) ?_
  simp only [laws_FnRoom.l0]
  refine Ev.neg (by omega) ?_
  exact Ev.bind (impl_threeT h) (Ev.const rfl)
 | succ d ih =>
  intro i hi cap most s m g h
  have hx : i < l.length := by omega
  have er : rd_T38 l (i : Int) = l[i] := getD_at hx _
  have hD := ho _ (List.getElem_mem hx)
  have hok := drawnOp_ok hD
  obtain ⟨k1, k2, k3, k4⟩ := hD
  have hz := draw_size k2 k3
  obtain ⟨b1, b2, b3, b4⟩ := h.bits
  have hr := h.room
  have hih := ih (i + 1) (by omega)
  refine Ev.step (fun _ => rfl) ?_
  simp only [laws_FnRoom.l0]
  rw [er]
  refine Ev.pos (by omega) (Ev.pos (by omega) (Ev.pos (by omega) ?_))
  refine Ev.bind (impl_OpDo_ev h.fs h.fm h.fg hz.1 hz.2) ?_
  obtain ⟨a1, a2, a3, a4, a5, v0, there, eG0, t0⟩ := get_flag h l[i].f1
  obtain ⟨s', m', g', ok, v, gone, e, hG, hput, hget, hdrop⟩ := op_facts h hok
  rw [e]
  obtain ⟨c1, c2, c3, c4⟩ := hG.bits
  have hr' := hG.room
  have hl2 := keys_len2 s' m'
  have hl3 := keys_len2 s m
  refine Ev.pos rfl (Ev.bind (impl_threeT hG) (Ev.pos rfl (Ev.pos rfl ?_)))
  refine Ev.step (fun _ => rfl) ?_
  simp only [laws_FnRoom.j1]
  rw [w64 (x := (s.length : Int) + (m.length : Int)) (by omega) (by omega), w64 (x := (s'.length : Int) + (m'.length : Int)) (by omega) (by omega)]
  refine Ev.neg (by simp; omega) ?_
  refine Ev.bind (Ev.to (impl_Get_ev h.fs h.fm h.fg l[i].f1) eG0) ?_
  obtain ⟨d1, d2, d3, d4, d5, v1, found, eG1, t1⟩ := get_flag hG l[i].f1
  refine Ev.bind (Ev.to (impl_Get_ev hG.fs hG.fm hG.fg l[i].f1) eG1) ?_
  rw [wsucc (by omega)]
  by_cases q2 : l[i].f0 = 2
  ·obtain ⟨hf, hc⟩ := hput q2
   refine Ev.pos q2 (Ev.pos (t1.2 hf) ?_)
   rcases hc with ⟨hk, hgone, hlen⟩ | ⟨hk, hroom, hgone, hlen⟩ | ⟨hk, hroom, hgone, hlen⟩
   ·refine Ev.pos (t0.2 hk) ?_
    subst hgone
    refine Ev.neg (by simp) (Ev.bind (Ev.const less_f) (Ev.pos ?_ (hih _ _ _ _ _ hG)))
    rw [w64 (by omega) (by omega)]; omega
   ·refine Ev.neg (by rw [flag_ne t0 hk]; simp) ?_
    subst hgone
    rw [decide_eq_true hroom, show (((s.length : Int) + (m.length : Int)) == cap) = false from by rw [beq_eq_false_iff_ne]; omega]
    refine Ev.neg (by simp) (Ev.bind (Ev.const less_t) (Ev.pos ?_ (hih _ _ _ _ _ hG)))
    rw [w64 (by omega) (by omega)]; omega
   ·refine Ev.neg (by rw [flag_ne t0 hk]; simp) ?_
    rw [decide_eq_false (by omega), show (((s.length : Int) + (m.length : Int)) == cap) = true from by rw [beq_iff_eq]; omega, ne_nil_of_size hgone]
    refine Ev.neg (by simp) (Ev.bind (Ev.const less_f) (Ev.pos ?_ (hih _ _ _ _ _ hG)))
    rw [w64 (by omega) (by omega)]; omega
  ·refine Ev.neg q2 ?_
   by_cases q1 : l[i].f0 = 1
   ·obtain ⟨h1, h2, h3⟩ := hget q1
    rw [h2] at t1 hl2
    have e1 : ok = there := by rw [Bool.eq_iff_iff, h1, t0]
    have e2 : found = there := by rw [Bool.eq_iff_iff, t1, t0]
    subst h3
    exact Ev.pos q1 (Ev.neg (by simp [e1]) (Ev.neg (by simp [e2]) (Ev.pos (by omega) (Ev.pos (by simp) (hih _ _ _ _ _ hG)))))
   ·obtain ⟨h1, h2, h3, h4⟩ := hdrop (by omega)
    have e1 : ok = there := by rw [Bool.eq_iff_iff, h1, t0]
    refine Ev.neg q1 (Ev.neg (by simp [e1]) (Ev.neg (by rw [flag_ne t1 h2]; simp) ?_))
    by_cases hk : l[i].f1 ∈ keys (s ++ m)
    ·rw [t0.2 hk]
     have := h3 hk
     refine Ev.bind (Ev.const less_t) (Ev.pos ?_ (hih _ _ _ _ _ hG))
     rw [w64 (by omega) (by omega)]; omega
    ·rw [flag_ne t0 hk]
     have := h4 hk
     refine Ev.bind (Ev.const less_f) (Ev.pos ?_ (hih _ _ _ _ _ hG))
     rw [w64 (by omega) (by omega)]; omega
end Go.Proofs.Ytdeijmofaapgdaa.Q
namespace Go.Proofs.Ytdeijmofaapgdaa.Pure
open Go.RowKit Go.Proofs.Ytdeijmofaapgdaa.G Go.Proofs.Ytdeijmofaapgdaa.PL Go.Proofs.Ytdeijmofaapgdaa.Ok Go.Proofs.Ytdeijmofaapgdaa.Fam Go.Proofs.Ytdeijmofaapgdaa.Q Go.Proofs.YtdeijmofaapgdaaW.PrintWords Go.Proofs.YtdeijmofaapgdaaW.PrintLast Go.Proofs.Ytdeijmofaapgdaa.G.fnRoom
theorem FnRoom : FnRoom.Pure := by
 intro x0 _
 apply Ev.rounds
 unfold laws_FnRoom.f
 by_cases c : (x0.length : Int) > 1048576
 ·exact Ev.pos c (Ev.const rfl)
 refine Ev.neg c ?_
 obtain ⟨cap, most, s, m, g, e, hG⟩ := spec_MakeThree_ex x0 (by omega)
 obtain ⟨l, e2, hl, ho⟩ := spec_MakeOps_ex x0 (by omega) 20 (by omega) (by omega)
 refine Ev.bind e (Ev.bind e2 ?_)
 exact room_l0 l (by omega) ho l.length 0 (by omega) cap most s m g hG
end Go.Proofs.Ytdeijmofaapgdaa.Pure

namespace Go.Proofs.Ytdeijmofaapgdaa.fnRoom
open Go.ChangeShapes Go.WideShapes Go.ChangeAt Go.RowKit Go.Proofs.Ytdeijmofaapgdaa.Open Go.Proofs.Ytdeijmofaapgdaa.Ok Go.Proofs.Ytdeijmofaapgdaa.G.fnRoom
set_option linter.unusedVariables false
theorem own : ownKnob Try.prog.godebug = none := by kernel_rfl
theorem laidOut : laidOutB Try.prog = true := by kernel_rfl
set_option maxRecDepth 100000 in
set_option maxHeartbeats 2000000 in
theorem lifted (pure : FnRoom.Pure) (os : Os) (started : os.Started) (H : Type) (enc : TypeId × Value → H) :
  ReturnsInHanded {} Try.checked os 5 .any (Rows.fnRoomSpec.pre6 enc Try.prog Try.f5 Rows.fnRoomRow.domain false) (Rows.fnRoomSpec.post enc Try.prog Try.f5 false true false false) := by
 refine returnsInHanded_of_change_sized (C := Try.checked) own started (by kernel_rfl) Try.func5
  (ChangeSpec.witness6 (enc := enc) (C := Try.checked) false ⟨#[], #[.slice none 0 0], []⟩ 8 (by kernel_rfl) (by kernel_rfl) (by kernel_rfl) (by kernel_rfl)) ?_
 intro W base args ds gs before hval0 hW hcnd hsz0 _
 have hsz : (DataW.weightsEach Try.prog (Try.f5.params.toList ++ Rows.fnRoomSpec.plain.varTypes Try.prog) (ds ++ gs)).all (· ≤ reachBytes) = true := hsz0
 have hval : ∀ (j : Nat) t v, Try.f5.params[j]? = some t → args[j]? = some v → Value.okWide Try.prog W .any base t v := hval0
 have hW' := hW
 obtain ⟨p, q, hA0, hV, rfl, hfz, hnd⟩ := hW
 have hA : DataW.TrodAll enc Try.prog W 0 (fun _ => true) true Try.f5.params.toList args.toList ds p := hA0
 rw [Try.params5] at hA hval hsz
 obtain ⟨v0, vs0, d0, ds0, p0, q0, hargs, rfl, rfl, h0, r0⟩ := trodAll_cons hA
 obtain ⟨rfl, rfl, rfl⟩ := trodAll_nil r0
 obtain rfl : args = #[v0] := by cases args; simp_all
 obtain ⟨rfl, rfl⟩ := trodVars_none hV
 have k0 := h0
 have lt0 : ∀ x ∈ p0, x.block < W.heap.size := by obtain ⟨m, hm⟩ := k0; exact DataW.trod_lt m _ _ _ hm
 obtain ⟨fuel0, hf0⟩ := h0
 obtain ⟨x0, hK0, ok0⟩ := opn56 H enc W fuel0 _ _ _ hf0 (weights_of hsz (j := 0) (t := 56) rfl rfl)
 obtain ⟨a0, len0, cap0, rfl⟩ := okWide_slice Try.underlying56 (hval 0 56 v0 rfl rfl)
 obtain ⟨A0, c0, e0, hl0, hC0⟩ := slice_cell hK0
 obtain ⟨rfl, rfl, rfl⟩ := Value.slice.inj e0
 clear hA0 hval0 hsz0 hsz
 obtain ⟨k, hk⟩ := pure x0 ok0
 refine (Go.Proofs.Ytdeijmofaapgdaa.G.laws_FnRoom.calls k _ _ x0 true W hC0 hl0 hk).mono fun e W' ⟨he, bel⟩ => ?_
 subst he
 exact ⟨_, rfl, _, _, _, [], _, [], hW', trodAll_mk1 (shut_bool Try.underlying4 _), (trodAll_cons_mk (Below.trod laidOut (by kernel_rfl) (of_decide_eq_true (by kernel_rfl)) k0 bel lt0) trodAll_mk0), rfl, bel.frame _, fun h => by cases h⟩
theorem over (pure : FnRoom.Pure) : Rows.fnRoomRow.holds Try.pinned (OpenSpec.ofChange Rows.fnRoomSpec) :=
 OpenClaim.holds_of_wide 5 Try.f5 rfl rfl rfl rfl rfl rfl rfl ⟨rfl, rfl, rfl, rfl, rfl⟩ rfl rfl rfl rfl rfl (by kernel_rfl) Try.func5 (by kernel_rfl)
  (of_decide_eq_true (by kernel_rfl)) (by unfold Func.isWrapper; first | (rw [if_pos (by decide +kernel)]; kernel_rfl) | (rw [if_neg (by decide +kernel)]; exact ⟨rfl, rfl⟩))
  (fun os started H enc _ => lifted pure os started H enc)
end Go.Proofs.Ytdeijmofaapgdaa.fnRoom
namespace Go.Proofs.Ytdeijmofaapgdaa
/-- The row, for the claim. -/
theorem fnRoom_holds : Rows.FnRoomSaid := fnRoom.over Pure.FnRoom
end Go.Proofs.Ytdeijmofaapgdaa
