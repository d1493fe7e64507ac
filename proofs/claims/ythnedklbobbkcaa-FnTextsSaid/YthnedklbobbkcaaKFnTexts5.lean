/- Ops, items, caches, askings and commands are read from their texts as they were. No conditions beside sizes. Part 5 of the claim FnTexts, merged by pack.py (this session's program) out of: the print's words, cut to what is needed; texts that gen.py printed (it runs the kit's print in place); texts of this session. -/
import Derived.ChangeArms
import Derived.SizedLaws
import Derived.DataReads
import Derived.WalkKit
import Derived.RowKit
import Derived.KernelRfl
import Derived.Laws.BitsLemmas
import Derived.Laws.BitsAllLaws
import Derived.Lib.QuoteBits
import Derived.Lib.Strings
import Derived.Test.YthnedklbobbkcaaKFnTexts0
import Derived.Test.YthnedklbobbkcaaKFnTexts1
import Derived.Test.YthnedklbobbkcaaKFnTexts2
import Derived.Test.YthnedklbobbkcaaKFnTexts3
import Derived.Test.YthnedklbobbkcaaKFnTexts4
namespace Go.Proofs.Ythnedklbobbkcaa.CutL
end Go.Proofs.Ythnedklbobbkcaa.CutL
namespace Go.Proofs.Ythnedklbobbkcaa.Fam
end Go.Proofs.Ythnedklbobbkcaa.Fam
namespace Go.Proofs.Ythnedklbobbkcaa.G
end Go.Proofs.Ythnedklbobbkcaa.G
namespace Go.Proofs.Ythnedklbobbkcaa.G.fnTexts
end Go.Proofs.Ythnedklbobbkcaa.G.fnTexts
namespace Go.Proofs.Ythnedklbobbkcaa.Man
end Go.Proofs.Ythnedklbobbkcaa.Man
namespace Go.Proofs.Ythnedklbobbkcaa.Ok
end Go.Proofs.Ythnedklbobbkcaa.Ok
namespace Go.Proofs.Ythnedklbobbkcaa.Open
end Go.Proofs.Ythnedklbobbkcaa.Open
namespace Go.Proofs.Ythnedklbobbkcaa.PL
end Go.Proofs.Ythnedklbobbkcaa.PL
namespace Go.Proofs.Ythnedklbobbkcaa.Q
end Go.Proofs.Ythnedklbobbkcaa.Q
namespace Go.Proofs.Ythnedklbobbkcaa.Open
open Go.RowKit Go.Proofs.YthnedklbobbkcaaW.PrintWords
/-- Whatever is read at type t is of the kind k, and meets ok. -/
def Opn {α : Type} (P : Program) (t : TypeId) (k : Kd α) (ok : α → Prop) : Prop :=
 ∀ (H : Type) (enc : TypeId × Value → H) (W : World) (fuel : Nat) (cs : List Value) (d : DataW H) (ps : List MemPlace),
  DataW.trod enc P W 0 (fun _ => true) true fuel t cs = some (d, ps) → (∀ n ∈ d.weights P t, n ≤ reachBytes) → ∃ x, k.K W x cs ∧ ok x
theorem Opn.int {P : Program} {t : TypeId} {q : IntKind} (ht : P.underlying t = some (.int q)) : Opn P t (Kd.int q) (fun n => (Lit.int q n).wf = true) := by
 intro H enc W fuel cs d ps h _
 obtain ⟨n, rfl, _, hw⟩ := DataW.trod_int ht h
 exact ⟨n, rfl, hw⟩
theorem Opn.bool {P : Program} {t : TypeId} (ht : P.underlying t = some .bool) : Opn P t Kd.bool (fun _ => True) := by
 intro H enc W fuel cs d ps h _
 obtain ⟨b, rfl, _⟩ := DataW.trod_bool ht h
 exact ⟨b, rfl, trivial⟩
theorem Opn.string {P : Program} {t : TypeId} (ht : P.underlying t = some .string) : Opn P t Kd.string (fun s => s.size ≤ 140737488351232) := by
 intro H enc W fuel cs d ps h hz
 obtain ⟨s, rfl, hx, _⟩ := DataW.trod_string ht h
 refine ⟨s, rfl, ?_⟩
 obtain ⟨rfl, _⟩ := Prod.mk.inj hx
 have := hz s.data.toList.length (by simp [DataW.weights])
 rw [Array.length_toList] at this
 exact this
theorem Opn.mono {α : Type} {P : Program} {t : TypeId} {k : Kd α} {ok ok' : α → Prop} (h : Opn P t k ok) (hok : ∀ x, ok x → ok' x) : Opn P t k ok' := by
 intro H enc W fuel cs d ps hd hz
 obtain ⟨x, hx, ho⟩ := h H enc W fuel cs d ps hd hz
 exact ⟨x, hx, hok x ho⟩
/-- The fields from one on, one behind the other. -/
def OpnFs {α : Type} (P : Program) (fs : List Field) (off : Nat) (k : Kd α) (ok : α → Prop) : Prop :=
 ∀ (H : Type) (enc : TypeId × Value → H) (W : World) (fuel : Nat) (cs : List Value) (xs : List (DataW H × List MemPlace)),
  xs.length = fs.length → (∀ (i : Nat) (f : Field), fs[i]? = some f → DataW.trod enc P W 0 (fun _ => true) true fuel f.type ((cs.drop f.offset).take (P.cellsOf f.type)) = xs[i]?) →
  (∀ n ∈ DataW.weightsEach P (fs.map (·.type)) (xs.map (·.1)), n ≤ reachBytes) → ∃ x, k.K W x ((cs.drop off).take k.sz) ∧ ok x
theorem OpnFs.one {α : Type} {P : Program} {f : Field} {off : Nat} {k : Kd α} {ok : α → Prop} (ho : f.offset = off) (hc : P.cellsOf f.type = k.sz) (h : Opn P f.type k ok) : OpnFs P [f] off k ok := by
 intro H enc W fuel cs xs hl hx hz
 have h0 := hx 0 f rfl
 rw [ho, hc] at h0
 match xs, hl with
 | [x], _ =>
  refine h H enc W fuel _ x.1 x.2 h0 (fun n hn => hz n ?_)
  simp [DataW.weightsEach, hn]
theorem OpnFs.cons {α β : Type} {P : Program} {f : Field} {fs : List Field} {off : Nat} {k : Kd α} {k2 : Kd β} {ok : α → Prop} {ok2 : β → Prop} (ho : f.offset = off) (hc : P.cellsOf f.type = k.sz) (h : Opn P f.type k ok)
  (h2 : OpnFs P fs (off + k.sz) k2 ok2) : OpnFs P (f :: fs) off (Kd.pair k k2) (fun x => ok x.1 ∧ ok2 x.2) := by
 intro H enc W fuel cs xs hl hx hz
 have h0 := hx 0 f rfl
 rw [ho, hc] at h0
 match xs, hl with
 | x :: xs, hl =>
  obtain ⟨a, ha, hoa⟩ := h H enc W fuel _ x.1 x.2 h0 (fun n hn => hz n (by simp [DataW.weightsEach, hn]))
  obtain ⟨b, hb, hob⟩ := h2 H enc W fuel cs xs (by simpa using hl) (fun i g hg => by simpa using hx (i + 1) g (by simpa using hg)) (fun n hn => hz n (by simp only [List.map_cons, DataW.weightsEach, List.mem_append]; exact Or.inr hn))
  refine ⟨(a, b), ⟨_, _, ?_, ha, hb⟩, hoa, hob⟩
  show (cs.drop off).take (k.sz + k2.sz) = _
  rw [List.take_add, List.drop_drop]
theorem Opn.struct {α : Type} {P : Program} {t : TypeId} {fs : Array Field} {k : Kd α} {ok : α → Prop} (ht : P.underlying t = some (.struct fs)) (hc : P.cellsOf t = k.sz) (h : OpnFs P fs.toList 0 k ok) : Opn P t k ok := by
 intro H enc W fuel cs d ps hd hz
 obtain ⟨xs, n, rfl, hx, hl, hxl, hf⟩ := DataW.trod_struct ht hd
 obtain ⟨rfl, _⟩ := Prod.mk.inj hx
 obtain ⟨x, hK, ho⟩ := h H enc W n cs xs (by simpa using hxl) (fun i f hi => hf i f (by simpa using hi)) (fun m hm => hz m (by simp only [DataW.weights, ht]; exact hm))
 refine ⟨x, ?_, ho⟩
 rw [List.drop_zero, List.take_of_length_le (by omega)] at hK
 exact hK
theorem Opn.iso {α β : Type} {P : Program} {t : TypeId} {k : Kd α} {ok : α → Prop} {f : β → α} (g : α → β) (hg : ∀ x, f (g x) = x) (h : Opn P t k ok) : Opn P t (Kd.iso k f) (fun y => ok (f y)) := by
 intro H enc W fuel cs d ps hd hz
 obtain ⟨x, hx, ho⟩ := h H enc W fuel cs d ps hd hz
 exact ⟨g x, by show k.K W (f (g x)) cs; rw [hg]; exact hx, by show ok (f (g x)); rw [hg]; exact ho⟩
theorem weightsAll_mem {H : Type} {P : Program} {e : TypeId} : ∀ {l : List (DataW H)} {d : DataW H}, d ∈ l → ∀ n ∈ d.weights P e, n ∈ DataW.weightsAll P e l
 | a :: l, d, hd, n, hn => by
  simp only [DataW.weightsAll, List.mem_append]
  rcases List.mem_cons.1 hd with rfl | hd
  ·exact .inl hn
  ·exact .inr (weightsAll_mem hd n hn)
theorem choose_list {α : Type} (p : Nat → α → Prop) : ∀ (n : Nat), (∀ i, i < n → ∃ x, p i x) → ∃ xs : List α, xs.length = n ∧ ∀ i x, xs[i]? = some x → p i x
 | 0, _ => ⟨[], rfl, fun i x h => by simp at h⟩
 | n + 1, h => by
  obtain ⟨xs, hl, hx⟩ := choose_list p n (fun i hi => h i (by omega))
  obtain ⟨y, hy⟩ := h n (by omega)
  refine ⟨xs ++ [y], by simp [hl], fun i x hi => ?_⟩
  rcases Nat.lt_or_ge i n with hin | hin
  ·rw [List.getElem?_append_left (by omega)] at hi
   exact hx i x hi
  ·rw [List.getElem?_append_right (by omega)] at hi
   have : i - xs.length = 0 := by
    rcases Nat.eq_zero_or_pos (i - xs.length) with h0 | h0
    ·exact h0
    ·rw [List.getElem?_eq_none (by simp; omega)] at hi
     cases hi
   rw [this] at hi
   simp only [List.getElem?_cons_zero, Option.some.injEq] at hi
   subst hi
   have : i = n := by omega
   subst this
   exact hy
theorem Opn.slice {α : Type} {P : Program} {t e : TypeId} {k : Kd α} {ok : α → Prop} (B : Nat) (ht : P.underlying t = some (.slice e)) (hc : P.cellsOf e = k.sz) (hB : P.bytesOf e = B) (h : Opn P e k ok) :
  Opn P t (Kd.slice e k) (fun xs => (∀ x ∈ xs, ok x) ∧ xs.length * B ≤ 140737488351232) := by
 intro H enc W fuel cs d ps hd hz
 rcases DataW.trod_slice ht hd with ⟨rfl, _⟩ | ⟨a, len, cap, elems, rest, n, rfl, rfl, hx, _, hl, hm, hel, hcell, _, _⟩
 ·exact ⟨[], ⟨none, 0, rfl, Nat.le_refl _, Kd.C_nil _ _⟩, by simp, by simp⟩
 ·obtain ⟨rfl, _⟩ := Prod.mk.inj hx
  have hz0 := hz (((elems.map (·.1)).length + (rest.map (·.1)).length) * P.bytesOf e) (by simp only [DataW.weights, ht]; exact List.mem_cons_self)
  have hpick : ∀ i, i < len → ∃ x : α, (∃ c, c.length = k.sz ∧ k.K W x c ∧ ∀ j u, c[j]? = some u → W.cell? (a.add (i * k.sz + j)) = some u) ∧ ok x := by
   intro i hi
   have h1 := hcell i hi
   rw [List.getElem?_eq_getElem (by omega)] at h1
   obtain ⟨c, hc1, hc2⟩ := Option.bind_eq_some_iff.1 h1
   obtain ⟨_, hcl, hcc⟩ := World.cells?_some hc1
   obtain ⟨x, hx, ho⟩ := h H enc W n c _ _ hc2 (fun m hm => hz m (by
    simp only [DataW.weights, ht, List.mem_cons, List.mem_append]
    exact .inr (.inl (weightsAll_mem (List.mem_map.2 ⟨_, List.getElem_mem (by omega), rfl⟩) m hm))))
   refine ⟨x, ⟨c, by omega, hx, fun j u hu => ?_⟩, ho⟩
   have hj : j < c.length := by
    rcases Nat.lt_or_ge j c.length with hj | hj
    ·exact hj
    ·rw [List.getElem?_eq_none hj] at hu; cases hu
   have := hcc j (by omega)
   rw [hu, hc] at this
   rw [← this]
   rw [Addr.add_add]
  obtain ⟨xs, hxl, hxs⟩ := choose_list _ len hpick
  subst hxl
  refine ⟨xs, ⟨some a, cap, rfl, hl, rfl, by unfold maxLen at hm; omega, fun _ => ⟨a, rfl, fun j p hj => (hxs j p hj).1⟩⟩, fun x hx => ?_, ?_⟩
  ·obtain ⟨i, hi⟩ := List.getElem?_of_mem hx
   exact (hxs i x hi).2
  ·rw [hB] at hz0
   refine Nat.le_trans (Nat.mul_le_mul_right _ ?_) hz0
   simp only [List.length_map]
   omega
/-- What a kind says of one cell that a slice's value stands in. -/
theorem slice_cell {α : Type} {e : Nat} {k : Kd α} {W : World} {xs : List α} {v : Value} (h : (Kd.slice e k).K W xs [v]) : ∃ A c, v = .slice A xs.length c ∧ xs.length ≤ c ∧ Kd.C k W A xs.length xs := by
 obtain ⟨A, c, hv, hl, hC⟩ := h
 simp only [List.cons.injEq, and_true] at hv
 exact ⟨A, c, hv, hl, hC⟩
theorem weights_of {H : Type} {P : Program} {ts : List TypeId} {ds : List (DataW H)} {j : Nat} {t : TypeId} {d : DataW H} (hsz : (DataW.weightsEach P ts ds).all (· ≤ reachBytes) = true) (ht : ts[j]? = some t) (hd : ds[j]? = some d) :
  ∀ n ∈ d.weights P t, n ≤ reachBytes := fun n hn => by
 have := List.all_eq_true.1 hsz _ (DataW.weights_mem_each ht hd n hn)
 simpa using this
end Go.Proofs.Ythnedklbobbkcaa.Open

namespace Go.Proofs.Ythnedklbobbkcaa.Ok
open Go.RowKit Go.Proofs.Ythnedklbobbkcaa.Open Go.Proofs.Ythnedklbobbkcaa.G Go.Proofs.YthnedklbobbkcaaW.PrintWords Go.Proofs.YthnedklbobbkcaaW.PrintLast
set_option linter.unusedVariables false
theorem wf_int {k : IntKind} {n : Int} (h : (Lit.int k n).wf = true) : k.min ≤ n ∧ n ≤ k.max := by
 simpa [Lit.wf] using h
def okT5 (n : Int) : Prop := 0 ≤ n ∧ n ≤ 255
set_option maxRecDepth 100000 in
theorem opn5 : Opn Try.prog 5 (Kd.int .u8) okT5 := (Opn.int Try.underlying5).mono (fun n h => by have e := wf_int (k := .u8) h; rw [show IntKind.min .u8 = 0 from by decide, show IntKind.max .u8 = 255 from by decide] at e; exact e)
def okT28 (xs : List Int) : Prop := (∀ x ∈ xs, okT5 x) ∧ xs.length * 1 ≤ 140737488351232
set_option maxRecDepth 100000 in
theorem opn28 : Opn Try.prog 28 (Kd.slice 5 (Kd.int .u8)) okT28 := Opn.slice 1 Try.underlying28 (by kernel_rfl) (by kernel_rfl) opn5
end Go.Proofs.Ythnedklbobbkcaa.Ok

namespace Go.Proofs.Ythnedklbobbkcaa.G.fnTexts
open Go.RowKit Go.Proofs.Ythnedklbobbkcaa.Open Go.Proofs.Ythnedklbobbkcaa.Ok Go.Proofs.Ythnedklbobbkcaa.G Go.Proofs.YthnedklbobbkcaaW.PrintWords Go.Proofs.YthnedklbobbkcaaW.PrintLast
set_option linter.unusedVariables false
def FnTexts.okIn (x0 : List Int) : Prop := okT28 x0
def FnTexts.Pure : Prop := ∀ (x0 : List Int), FnTexts.okIn x0 → ∃ k, laws_FnTexts.f k x0 = some true
end Go.Proofs.Ythnedklbobbkcaa.G.fnTexts

namespace Go.Proofs.Ythnedklbobbkcaa.PL
open Go.RowKit Go.Proofs.YthnedklbobbkcaaW.PrintWords
theorem Ev.const {α : Type} {x : Option α} {r : α} (h : x = some r) : Ev (fun _ => x) r := ⟨0, fun _ _ => h⟩
theorem Ev.pos {α : Type} {c : Prop} [Decidable c] {f g : Nat → Option α} {r : α} (hc : c) (h : Ev f r) : Ev (fun k => if c then f k else g k) r := by
 obtain ⟨K, h⟩ := h
 exact ⟨K, fun k hk => (if_pos hc).trans (h k hk)⟩
theorem Ev.neg {α : Type} {c : Prop} [Decidable c] {f g : Nat → Option α} {r : α} (hc : ¬ c) (h : Ev g r) : Ev (fun k => if c then f k else g k) r := by
 obtain ⟨K, h⟩ := h
 exact ⟨K, fun k hk => (if_neg hc).trans (h k hk)⟩
theorem Ev.to {α : Type} {f : Nat → Option α} {r s : α} (h : Ev f r) (e : r = s) : Ev f s := e ▸ h
theorem w64 {x : Int} (h0 : -9223372036854775808 ≤ x) (h1 : x ≤ 9223372036854775807) : wrap64 x = x := by
 unfold wrap64
 omega
theorem wsucc {i : Nat} (h : i < 9223372036854775807) : wrap64 ((i : Int) + 1) = ((i + 1 : Nat) : Int) := by
 rw [w64 (by omega) (by omega)]
 omega
theorem getD_at {α : Type} {xs : List α} {i : Nat} (h : i < xs.length) (z : α) : xs.getD ((i : Nat) : Int).toNat z = xs[i] := by
 simp [List.getD_eq_getElem?_getD, h]
theorem drop_at {α : Type} {xs : List α} {i : Nat} (h : i < xs.length) : xs.drop i = xs[i] :: xs.drop (i + 1) := List.drop_eq_getElem_cons h
theorem bytes_eq {a b : ByteArray} : a.toList = b.toList ↔ a = b := by
 rw [ByteArray.toList_eq, ByteArray.toList_eq]
 constructor
 ·intro h
  cases a; cases b
  simp at h
  simp [h]
 ·intro h; rw [h]
theorem bytes_beq (a b : ByteArray) : (a.toList == b.toList) = decide (a = b) := by
 rw [Bool.eq_iff_iff]
 simp [bytes_eq]
theorem decide_cons {α : Type} [DecidableEq α] (a b : α) (l m : List α) : decide (a :: l = b :: m) = (decide (a = b) && decide (l = m)) := by
 rw [Bool.eq_iff_iff]; simp
end Go.Proofs.Ythnedklbobbkcaa.PL
namespace Go.Proofs.Ythnedklbobbkcaa.Ok
end Go.Proofs.Ythnedklbobbkcaa.Ok
namespace Go.Proofs.Ythnedklbobbkcaa.Fam
end Go.Proofs.Ythnedklbobbkcaa.Fam
namespace Go.Proofs.Ythnedklbobbkcaa.Q
end Go.Proofs.Ythnedklbobbkcaa.Q
namespace Go.Proofs.Ythnedklbobbkcaa.Man
end Go.Proofs.Ythnedklbobbkcaa.Man

namespace Go.Proofs.Ythnedklbobbkcaa.Q
open Go.RowKit Go.Proofs.Ythnedklbobbkcaa.G Go.Proofs.Ythnedklbobbkcaa.PL Go.Proofs.YthnedklbobbkcaaW.PrintWords
theorem i64_and255 (n : Int) : Go.bits .and .i64 n 255 = n % 256 := by
 have h255 : (BitVec.ofInt 64 255).toNat = 2 ^ 8 - 1 := by decide
 have key : (BitVec.ofInt 64 n &&& BitVec.ofInt 64 255).toNat = (n % ((2 ^ 64 : Nat) : Int)).toNat % 2 ^ 8 := by
  rw [BitVec.toNat_and, BitVec.toNat_ofInt, h255, Nat.and_two_pow_sub_one_eq_mod]
 show IntKind.i64.wrap ((BitVec.ofInt 64 n &&& BitVec.ofInt 64 255).toNat : Nat) = n % 256
 rw [key, Go.IntKind.wrap_i64]
 omega
theorem l01New_ev (l : List Int) (_ : l.length ≤ 1048576) : ∃ h : Int, Ev (fun k => spec_l01New.f k l) (l, 0, h) := by
 have go : ∀ (d i : Nat) (h : Int), i + d = l.length → ∃ h' : Int, Ev (fun k => spec_l01New.l0 k l h (i : Int)) (l, 0, h') := by
  intro d
  induction d with
  | zero =>
   intro i h hi
   refine ⟨h, Ev.step (fun _ => rfl) ?_⟩
   simp only [spec_l01New.l0]
   exact Ev.neg (by omega) (Ev.const rfl)
  | succ d ih =>
   intro i h hi
   by_cases c : i < 4000
   ·obtain ⟨h', e⟩ := ih (i + 1) (Go.bits .and .i64 (wrap64 ((wrap64 ((wrap64 (h * 179)) + (wrap64 (rd l (i : Int))))) + 7)) 1073741823) (by omega)
    refine ⟨h', Ev.step (fun _ => rfl) ?_⟩
    simp only [spec_l01New.l0]
    refine Ev.pos (by omega) (Ev.pos (by omega) (Ev.pos (by omega) ?_))
    rw [wsucc (by omega)]
    exact e
   ·refine ⟨h, Ev.step (fun _ => rfl) ?_⟩
    simp only [spec_l01New.l0]
    exact Ev.pos (by omega) (Ev.neg (by omega) (Ev.const rfl))
 unfold spec_l01New.f
 exact go l.length 0 _ (by omega)
theorem l01Byte_ex (b : List Int) (i h : Int) (hl : b.length ≤ 1048576) (hi : 0 ≤ i) : ∃ x i' h' : Int, spec_l01Byte.f b i h = some (x, i', h') ∧ 0 ≤ x ∧ x ≤ 255 ∧ 0 ≤ i' := by
 unfold spec_l01Byte.f
 by_cases c : i < (b.length : Int)
 ·rw [if_pos c, if_pos hi]
  refine ⟨_, _, _, rfl, ?_, ?_, ?_⟩
  ·rw [i64_and255]; omega
  ·rw [i64_and255]; omega
  ·rw [w64 (by omega) (by omega)]; omega
 ·rw [if_neg c]
  refine ⟨_, _, _, rfl, ?_, ?_, hi⟩
  ·rw [i64_and255]; omega
  ·rw [i64_and255]; omega
theorem l01Below_ex (b : List Int) (i h n : Int) (hl : b.length ≤ 1048576) (hi : 0 ≤ i) (hn : n ≤ 256) : ∃ x i' h' : Int, spec_l01Below.f b i h n = some (x, i', h') ∧ 0 ≤ x ∧ (0 < n → x < n) ∧ (n ≤ 0 → x = 0) ∧ 0 ≤ i' := by
 unfold spec_l01Below.f
 by_cases c : n ≤ 0
 ·rw [if_pos c]
  exact ⟨0, i, h, rfl, by omega, fun h => by omega, fun _ => rfl, hi⟩
 ·obtain ⟨x, i', h', e, x0, x1, hi'⟩ := l01Byte_ex b i h hl hi
  rw [if_neg c, if_pos hn, e, Option.bind_some, if_neg (by omega)]
  refine ⟨_, _, _, rfl, ?_, fun _ => ?_, fun h => absurd h c, hi'⟩
  ·rw [Int.tmod_eq_emod_of_nonneg x0]
   exact Int.emod_nonneg _ (by omega)
  ·rw [Int.tmod_eq_emod_of_nonneg x0]
   exact Int.emod_lt_of_pos _ (by omega)
theorem l01Of_ex (b : List Int) (i h : Int) (l : List ByteArray) (hb : b.length ≤ 1048576) (hi : 0 ≤ i) (h0 : 0 < l.length) (h1 : l.length ≤ 256) : ∃ (s : ByteArray) (i' h' : Int), spec_l01Of.f b i h l = some (s, i', h') ∧ s ∈ l ∧ 0 ≤ i' := by
 obtain ⟨x, i', h', e, x0, x1, _, hi'⟩ := l01Below_ex b i h (l.length : Int) hb hi (by omega)
 have hx := x1 (by omega)
 unfold spec_l01Of.f
 rw [e, Option.bind_some, if_pos x0, if_pos hx]
 obtain ⟨n, rfl⟩ := Int.eq_ofNat_of_zero_le x0
 have hn : n < l.length := by omega
 refine ⟨_, _, _, rfl, ?_, hi'⟩
 have er : rdOf ByteArray.empty l ((n : Nat) : Int) = l[n] := getD_at hn _
 show rdOf ByteArray.empty l ((n : Nat) : Int) ∈ l
 rw [er]
 exact List.getElem_mem hn
end Go.Proofs.Ythnedklbobbkcaa.Q

namespace Go.Proofs.Ythnedklbobbkcaa.Q
open Go.RowKit Go.Proofs.Ythnedklbobbkcaa.PL Go.Proofs.YthnedklbobbkcaaW.PrintWords
def bs (s : ByteArray) : List UInt8 := s.data.toList
theorem bs_length (s : ByteArray) : (bs s).length = s.size := by unfold bs; rw [Array.length_toList]; rfl
theorem bs_inj {a b : ByteArray} (h : bs a = bs b) : a = b := by
 cases a; cases b
 simp [bs] at h
 simp [h]
theorem bs_mk (l : List UInt8) : bs ⟨l.toArray⟩ = l := by simp [bs]
theorem bs_append (a b : ByteArray) : bs (a ++ b) = bs a ++ bs b := by simp [bs]
theorem append_empty (a : ByteArray) : a ++ (⟨#[]⟩ : ByteArray) = a := bs_inj (by rw [bs_append]; exact List.append_nil _)
theorem empty_append (a : ByteArray) : (⟨#[]⟩ : ByteArray) ++ a = a := bs_inj (by rw [bs_append]; exact List.nil_append _)
theorem bs_toList (a : ByteArray) : a.toList = bs a := ByteArray.toList_eq a
theorem toList_nil {a : ByteArray} : a.toList = [] ↔ a = ⟨#[]⟩ := by
 rw [bs_toList]
 exact ⟨fun h => bs_inj (by rw [h]; rfl), fun h => by rw [h]; rfl⟩
theorem bt_eq (s : ByteArray) (i : Nat) (h : i < s.size) : bt s (i : Int) = (((bs s)[i]'(by rw [bs_length]; exact h)).toNat : Int) := by
 unfold bt bs
 simp only [Int.toNat_natCast, h, dif_pos]
 rfl
theorem drop_bs (s : ByteArray) (i : Nat) (h : i < s.size) : (bs s).drop i = (bs s)[i]'(by rw [bs_length]; exact h) :: (bs s).drop (i + 1) := List.drop_eq_getElem_cons (by rw [bs_length]; exact h)
theorem u8_eq {a : UInt8} {n : Nat} (hn : n < 256) : ((a.toNat : Int) = (n : Int)) ↔ a = UInt8.ofNat n := by
 constructor
 ·intro h
  apply UInt8.toNat.inj
  rw [UInt8.toNat_ofNat']
  omega
 ·intro h
  rw [h, UInt8.toNat_ofNat']
  omega
end Go.Proofs.Ythnedklbobbkcaa.Q

namespace Go.Proofs.Ythnedklbobbkcaa.Q
open Go.RowKit Go.Proofs.Ythnedklbobbkcaa.G Go.Proofs.Ythnedklbobbkcaa.PL Go.Proofs.YthnedklbobbkcaaW.PrintWords
def clean (s : ByteArray) : Bool := (bs s).all fun b => b != 32 && b != 10
theorem spec_l10Clean_l0 (s : ByteArray) (hs : s.size ≤ 140737488351232) : ∀ (d i : Nat), i + d = s.size → Ev (fun k => spec_l10Clean.l0 k s i) (((bs s).drop i).all fun b => b != 32 && b != 10) := by
 intro d
 induction d with
 | zero =>
  intro i hi
  refine Ev.step (fun _ => rfl) ?_
  simp only [spec_l10Clean.l0]
  refine Ev.neg (by omega) ?_
  rw [List.drop_of_length_le (by rw [bs_length]; omega)]
  exact Ev.const rfl
 | succ d ih =>
  intro i hi
  have hlt : i < s.size := by omega
  refine Ev.step (fun _ => rfl) ?_
  simp only [spec_l10Clean.l0]
  rw [bt_eq s i hlt, drop_bs s i hlt, List.all_cons, wsucc (by omega)]
  refine Ev.pos (by omega) ?_
  refine Ev.pos (by omega) ?_
  generalize (bs s)[i]'_ = b
  by_cases c : (b.toNat : Int) = 32
  ·refine Ev.pos c ?_
   have : b = 32 := (u8_eq (n := 32) (by omega)).1 c
   exact Ev.const (by simp [this])
  ·refine Ev.neg c ?_
   have h1 : ¬ b = 32 := fun h => c ((u8_eq (n := 32) (by omega)).2 h)
   by_cases c2 : (b.toNat : Int) = 10
   ·refine Ev.pos c2 ?_
    have : b = 10 := (u8_eq (n := 10) (by omega)).1 c2
    exact Ev.const (by simp [this])
   ·refine Ev.neg c2 ?_
    have h2 : ¬ b = 10 := fun h => c2 ((u8_eq (n := 10) (by omega)).2 h)
    refine Ev.to (ih (i + 1) (by omega)) ?_
    simp [h1, h2]
theorem spec_l10Clean_ev (s : ByteArray) (hs : s.size ≤ 140737488351232) : Ev (fun k => spec_l10Clean.f k s) (clean s) := by
 unfold spec_l10Clean.f
 exact spec_l10Clean_l0 s hs s.size 0 (by omega)
theorem impl_isPlain_l0 (s : ByteArray) (hs : s.size ≤ 140737488351232) : ∀ (d i : Nat), i + d = s.size → Ev (fun k => impl_isPlain.l0 k s i) (((bs s).drop i).all fun b => b != 32 && b != 10) := by
 intro d
 induction d with
 | zero =>
  intro i hi
  refine Ev.step (fun _ => rfl) ?_
  simp only [impl_isPlain.l0]
  refine Ev.neg (by omega) ?_
  rw [List.drop_of_length_le (by rw [bs_length]; omega)]
  exact Ev.const rfl
 | succ d ih =>
  intro i hi
  have hlt : i < s.size := by omega
  refine Ev.step (fun _ => rfl) ?_
  simp only [impl_isPlain.l0]
  rw [bt_eq s i hlt, drop_bs s i hlt, List.all_cons, wsucc (by omega)]
  refine Ev.pos (by omega) ?_
  refine Ev.pos (by omega) ?_
  generalize (bs s)[i]'_ = b
  by_cases c : (b.toNat : Int) = 32
  ·refine Ev.pos c ?_
   have : b = 32 := (u8_eq (n := 32) (by omega)).1 c
   exact Ev.const (by simp [this])
  ·refine Ev.neg c ?_
   have h1 : ¬ b = 32 := fun h => c ((u8_eq (n := 32) (by omega)).2 h)
   by_cases c2 : (b.toNat : Int) = 10
   ·refine Ev.pos c2 ?_
    have : b = 10 := (u8_eq (n := 10) (by omega)).1 c2
    exact Ev.const (by simp [this])
   ·refine Ev.neg c2 ?_
    have h2 : ¬ b = 10 := fun h => c2 ((u8_eq (n := 10) (by omega)).2 h)
    refine Ev.to (ih (i + 1) (by omega)) ?_
    simp [h1, h2]
theorem impl_isPlain_ev (s : ByteArray) (hs : s.size ≤ 140737488351232) : Ev (fun k => impl_isPlain.f k s) (clean s) := by
 unfold impl_isPlain.f
 exact impl_isPlain_l0 s hs s.size 0 (by omega)
def itemOk (key val : ByteArray) (freq : Int) : Bool := decide (1 ≤ key.size) && decide (key.size ≤ 20) && clean key && decide (val.size ≤ 40) && clean val && decide (0 ≤ freq) && decide (freq ≤ 3)
theorem impl_within_eq (x lo hi : Int) : impl_within.f x lo hi = some (decide (lo ≤ x) && decide (x ≤ hi)) := by
 unfold impl_within.f
 by_cases h : x ≥ lo
 ·rw [if_pos h]; simp [h]
 ·rw [if_neg h]
  have : ¬ lo ≤ x := h
  simp [this]
theorem spec_l01In_eq (x lo hi : Int) : spec_l01In.f x lo hi = some (decide (lo ≤ x) && decide (x ≤ hi)) := by
 unfold spec_l01In.f
 by_cases h : x ≥ lo
 ·rw [if_pos h]; simp [h]
 ·rw [if_neg h]
  have : ¬ lo ≤ x := h
  simp [this]
theorem spec_ItemOk_ev (key val : ByteArray) (freq : Int) (h0 : key.size ≤ 140737488351232) (h1 : val.size ≤ 140737488351232) : Ev (fun k => spec_ItemOk.f k key val freq) (itemOk key val freq) := by
 unfold spec_ItemOk.f itemOk
 by_cases a : 1 ≤ key.size
 rotate_left
 ·exact Ev.neg (by omega) (Ev.const (by simp [a]))
 refine Ev.pos (by omega) ?_
 by_cases b : key.size ≤ 20
 rotate_left
 ·exact Ev.neg (by omega) (Ev.const (by simp [b]))
 refine Ev.pos (by omega) ?_
 refine Ev.bind (spec_l10Clean_ev key h0) ?_
 cases c : clean key
 ·exact Ev.neg (by simp) (Ev.const (by simp))
 refine Ev.pos rfl ?_
 by_cases d : val.size ≤ 40
 rotate_left
 ·exact Ev.neg (by omega) (Ev.const (by simp [d]))
 refine Ev.pos (by omega) ?_
 refine Ev.bind (spec_l10Clean_ev val h1) ?_
 cases e : clean val
 ·exact Ev.neg (by simp) (Ev.const (by simp))
 refine Ev.pos rfl ?_
 refine Ev.bind (Ev.const (spec_l01In_eq _ _ _)) ?_
 exact Ev.const (by simp [a, b, d])
theorem impl_ItemOk_ev (key val : ByteArray) (freq : Int) (h0 : key.size ≤ 140737488351232) (h1 : val.size ≤ 140737488351232) : Ev (fun k => impl_ItemOk.f k key val freq) (itemOk key val freq) := by
 unfold impl_ItemOk.f itemOk
 refine Ev.bind (Ev.const (impl_within_eq _ _ _)) ?_
 by_cases a : 1 ≤ key.size
 rotate_left
 ·exact Ev.neg (by simp; omega) (Ev.const (by simp [a]))
 by_cases b : key.size ≤ 20
 rotate_left
 ·exact Ev.neg (by simp; omega) (Ev.const (by simp [b]))
 refine Ev.pos (by simp; omega) ?_
 by_cases d : val.size ≤ 40
 rotate_left
 ·exact Ev.neg (by omega) (Ev.const (by simp [d]))
 refine Ev.pos (by omega) ?_
 refine Ev.bind (impl_isPlain_ev key h0) ?_
 cases c : clean key
 ·exact Ev.neg (by simp) (Ev.const (by simp))
 refine Ev.pos rfl ?_
 refine Ev.bind (impl_isPlain_ev val h1) ?_
 cases e : clean val
 ·exact Ev.neg (by simp) (Ev.const (by simp))
 refine Ev.pos rfl ?_
 refine Ev.bind (Ev.const (impl_within_eq _ _ _)) ?_
 exact Ev.const (by simp [a, b, d])
def asksOk (l : List ByteArray) : Bool := (l.all fun s => itemOk s ⟨#[]⟩ 0) && decide (l.length ≤ 300)
theorem impl_AsksOk_l0 (l : List ByteArray) (hl : l.length ≤ 140737488351232) (ho : ∀ s ∈ l, s.size ≤ 140737488351232) : ∀ (d i : Nat), i + d = l.length →
  Ev (fun k => impl_AsksOk.l0 k l l (l.length : Int) i) (((l.drop i).all fun s => itemOk s ⟨#[]⟩ 0) && decide (l.length ≤ 300)) := by
 intro d
 induction d with
 | zero =>
  intro i hi
  refine Ev.step (fun _ => rfl) ?_
  simp only [impl_AsksOk.l0]
  refine Ev.neg (by omega) ?_
  rw [List.drop_of_length_le (by omega)]
  exact Ev.const (by simp; omega)
 | succ d ih =>
  intro i hi
  have hlt : i < l.length := by omega
  have er : rdOf ByteArray.empty l (i : Int) = l[i] := getD_at hlt _
  refine Ev.step (fun _ => rfl) ?_
  simp only [impl_AsksOk.l0]
  rw [er, drop_at hlt, wsucc (by omega), List.all_cons]
  refine Ev.pos (by omega) (Ev.pos (by omega) (Ev.pos (by omega) ?_))
  refine Ev.bind (impl_ItemOk_ev _ _ _ (ho _ (List.getElem_mem hlt)) (by decide)) ?_
  cases c : itemOk l[i] ⟨#[]⟩ 0
  ·exact Ev.neg (by simp) (Ev.const (by simp))
  ·refine Ev.pos rfl ?_
   rw [Bool.true_and]
   exact ih (i + 1) (by omega)
theorem impl_AsksOk_ev (l : List ByteArray) (hl : l.length ≤ 140737488351232) (ho : ∀ s ∈ l, s.size ≤ 140737488351232) : Ev (fun k => impl_AsksOk.f k l) (asksOk l) := by
 unfold impl_AsksOk.f
 exact impl_AsksOk_l0 l hl ho l.length 0 (by omega)
theorem asksOk_mem {l : List ByteArray} (h : asksOk l = true) : (∀ s ∈ l, 1 ≤ s.size ∧ s.size ≤ 20) ∧ l.length ≤ 300 := by
 unfold asksOk at h
 rw [Bool.and_eq_true, List.all_eq_true] at h
 refine ⟨fun s hs => ?_, by simpa using h.2⟩
 have := h.1 s hs
 unfold itemOk at this
 simp only [Bool.and_eq_true, decide_eq_true_eq] at this
 omega
/-- Words with blanks between. -/
def glueOn (acc : ByteArray) (l : List ByteArray) : ByteArray := l.foldl (fun a t => (a ++ (⟨#[32]⟩ : ByteArray)) ++ t) acc
def glue : List ByteArray → ByteArray
 | [] => ⟨#[]⟩
 | x :: r => glueOn x r
def tsum (l : List ByteArray) : Nat := (l.map ByteArray.size).sum
theorem glueOn_size (l : List ByteArray) : ∀ acc : ByteArray, (glueOn acc l).size = acc.size + l.length + tsum l := by
 induction l with
 | nil => intro acc; simp [glueOn, tsum]
 | cons x r ih =>
  intro acc
  have := ih ((acc ++ (⟨#[32]⟩ : ByteArray)) ++ x)
  unfold glueOn at this ⊢
  rw [List.foldl_cons, this, ByteArray.size_append, ByteArray.size_append, show (⟨#[32]⟩ : ByteArray).size = 1 from rfl]
  simp only [tsum, List.map_cons, List.sum_cons, List.length_cons]
  omega
theorem impl_glued_l0 (l : List ByteArray) (hl : l.length ≤ 140737488351232) : ∀ (d i : Nat) (acc : ByteArray), 1 ≤ i → i + d = l.length → acc.size + (l.drop i).length + tsum (l.drop i) ≤ 4611686018427387904 →
  Ev (fun k => impl_glued.l0 k acc l (l.length : Int) i) (glueOn acc (l.drop i)) := by
 intro d
 induction d with
 | zero =>
  intro i acc h1 hi hs
  refine Ev.step (fun _ => rfl) ?_
  simp only [impl_glued.l0]
  refine Ev.neg (by omega) ?_
  rw [List.drop_of_length_le (by omega)]
  exact Ev.const rfl
 | succ d ih =>
  intro i acc h1 hi hs
  have hlt : i < l.length := by omega
  have er : rdOf ByteArray.empty l (i : Int) = l[i] := getD_at hlt _
  refine Ev.step (fun _ => rfl) ?_
  simp only [impl_glued.l0]
  rw [drop_at hlt] at hs
  simp only [tsum, List.map_cons, List.sum_cons, List.length_cons] at hs
  rw [er, drop_at hlt, wsucc (by omega)]
  refine Ev.pos (by omega) (Ev.pos (by omega) (Ev.pos (by omega) (Ev.pos (by omega) (Ev.pos (by omega) (Ev.pos (by omega) ?_)))))
  refine ih (i + 1) _ (by omega) (by omega) ?_
  rw [ByteArray.size_append, ByteArray.size_append, show (⟨#[32]⟩ : ByteArray).size = 1 from rfl]
  simp only [tsum]
  omega
theorem impl_glued_all (l : List ByteArray) (hl : l.length ≤ 140737488351232) (hs : l.length + tsum l ≤ 4611686018427387904) : Ev (fun k => impl_glued.l0 k (⟨#[]⟩ : ByteArray) l (l.length : Int) 0) (glue l) := by
 refine Ev.step (fun _ => rfl) ?_
 simp only [impl_glued.l0]
 cases l with
 | nil => exact Ev.neg (by simp) (Ev.const rfl)
 | cons x r =>
  have er : rdOf ByteArray.empty (x :: r) 0 = x := rfl
  simp only [tsum, List.map_cons, List.sum_cons, List.length_cons] at hs
  have hz : (⟨#[]⟩ : ByteArray).size = 0 := rfl
  rw [er]
  refine Ev.pos (by simp <;> omega) (Ev.pos (by omega) (Ev.pos (by simp <;> omega) (Ev.neg (by omega) (Ev.pos (by omega) ?_))))
  have e0 : (⟨#[]⟩ : ByteArray) ++ x = x := empty_append x
  rw [e0, w64 (x := 0 + 1) (by omega) (by omega)]
  refine Ev.to (impl_glued_l0 (x :: r) hl r.length 1 x (by omega) (by simp; omega) ?_) ?_
  ·simp only [List.drop_succ_cons, List.drop_zero, tsum]; omega
  ·simp [glue]
theorem impl_glued_ev (l : List ByteArray) (hl : l.length ≤ 140737488351232) (hs : l.length + tsum l ≤ 4611686018427387904) : Ev (fun k => impl_glued.f k l) (glue l) := by
 unfold impl_glued.f
 exact impl_glued_all l hl hs
theorem tsum_le {l : List ByteArray} {b : Nat} (h : ∀ s ∈ l, s.size ≤ b) : tsum l ≤ b * l.length := by
 induction l with
 | nil => simp [tsum]
 | cons x r ih =>
  have h1 := h x (by simp)
  have h2 := ih (fun s hs => h s (by simp [hs]))
  simp only [tsum, List.map_cons, List.sum_cons, List.length_cons] at h2 ⊢
  rw [Nat.mul_succ]
  omega
def asksText (l : List ByteArray) : ByteArray := if asksOk l = true then glue l else ⟨#[]⟩
theorem glue_bound {l : List ByteArray} (h : asksOk l = true) : l.length + tsum l ≤ 6300 := by
 obtain ⟨h1, h2⟩ := asksOk_mem h
 have := tsum_le (b := 20) (fun s hs => (h1 s hs).2)
 omega
theorem impl_AsksText_ev (l : List ByteArray) (hl : l.length ≤ 140737488351232) (ho : ∀ s ∈ l, s.size ≤ 140737488351232) : Ev (fun k => impl_AsksText.f k l) (asksText l) := by
 unfold impl_AsksText.f asksText
 refine Ev.bind (impl_AsksOk_ev l hl ho) ?_
 cases c : asksOk l
 ·exact Ev.neg (by simp) (Ev.const (by simp))
 ·have := glue_bound c
  refine Ev.pos rfl ?_
  refine Ev.bind (impl_glued_ev l hl (by omega)) ?_
  exact Ev.const (by simp)
theorem asksText_size (l : List ByteArray) : (asksText l).size ≤ 6300 := by
 unfold asksText
 cases c : asksOk l
 ·exact Nat.zero_le _
 ·have := glue_bound c
  rw [if_pos rfl]
  cases l with
  | nil => exact Nat.zero_le _
  | cons x r =>
   simp only [tsum, List.map_cons, List.sum_cons, List.length_cons] at this
   show (glueOn x r).size ≤ 6300
   rw [glueOn_size]
   simp only [tsum]
   omega
theorem asksText_nil (l : List ByteArray) : asksText l = ⟨#[]⟩ ↔ (asksOk l = false ∨ l = []) := by
 unfold asksText
 cases c : asksOk l
 ·simp
 ·rw [if_pos rfl]
  cases l with
  | nil => simp [glue]
  | cons x r =>
   have h1 := (asksOk_mem c).1 x (by simp)
   constructor
   ·intro h
    have hz := congrArg ByteArray.size h
    rw [show glue (x :: r) = glueOn x r from rfl, glueOn_size, show (⟨#[]⟩ : ByteArray).size = 0 from rfl] at hz
    omega
   ·intro h; simp at h
def isNum (a : Int) : Bool := decide (0 ≤ a) && decide (a ≤ 4294967295)
theorem spec_l01Num_eq (a : Int) : spec_l01Num.f a = some (isNum a) := by
 unfold spec_l01Num.f isNum
 by_cases h : a ≥ 0
 ·rw [if_pos h]; simp [h]
 ·rw [if_neg h]
  have : ¬ 0 ≤ a := h
  simp [this]
theorem impl_isNum_eq (a : Int) : impl_isNum.f a = some (isNum a) := by
 unfold impl_isNum.f isNum
 rw [impl_within_eq]
 rfl
end Go.Proofs.Ythnedklbobbkcaa.Q

namespace Go.Proofs.Ythnedklbobbkcaa.Q
open Go.RowKit Go.Proofs.Ythnedklbobbkcaa.G Go.Proofs.Ythnedklbobbkcaa.PL Go.Proofs.YthnedklbobbkcaaW.PrintWords Go.Proofs.YthnedklbobbkcaaW.PrintLast
abbrev It := S122
def small (l : List It) : Prop := l.length ≤ 4194304 ∧ ∀ x ∈ l, x.f0.size ≤ 140737488351232 ∧ x.f1.size ≤ 140737488351232
theorem spec_l10At_l0 (key : ByteArray) (l : List It) (hl : l.length ≤ 4194304) : ∀ (d i : Nat), i + d = l.length → Ev (fun k => spec_l10At.l0 k key l (l.length : Int) (i : Int)) (impl_itemAt.idx key (l.drop i) i) := by
 intro d
 induction d with
 | zero =>
  intro i hi
  rw [List.drop_of_length_le (by omega)]
  refine Ev.step (fun _ => rfl) ?_
  simp only [spec_l10At.l0]
  exact Ev.neg (by omega) (Ev.const (by rw [impl_itemAt.idx]))
 | succ d ih =>
  intro i hi
  have hx : i < l.length := by omega
  have er : rd_T122 l (i : Int) = l[i] := getD_at hx _
  refine Ev.step (fun _ => rfl) ?_
  simp only [spec_l10At.l0]
  rw [er, drop_at hx, impl_itemAt.idx]
  refine Ev.pos (by omega) (Ev.pos (by omega) (Ev.pos (by omega) ?_))
  by_cases c : l[i].f0.toList = key.toList
  ·exact Ev.pos c (Ev.const (by rw [if_pos c]))
  ·refine Ev.neg c ?_
   rw [if_neg c, wsucc (by omega)]
   exact ih (i + 1) (by omega)
theorem spec_l10At_ev (l : List It) (key : ByteArray) (hl : l.length ≤ 4194304) : Ev (fun k => spec_l10At.f k l key) (impl_itemAt.idx key l 0) := by
 unfold spec_l10At.f
 exact spec_l10At_l0 key l hl l.length 0 (by omega)
theorem spec_l03Has_l0 (a : Int) (l : List Int) (hl : l.length ≤ 140737488351232) : ∀ (d i : Nat), i + d = l.length → Ev (fun k => spec_l03Has.l0 k a l (l.length : Int) (i : Int)) (decide (a ∈ l.drop i)) := by
 intro d
 induction d with
 | zero =>
  intro i hi
  rw [List.drop_of_length_le (by omega)]
  refine Ev.step (fun _ => rfl) ?_
  simp only [spec_l03Has.l0]
  exact Ev.neg (by omega) (Ev.const (by simp))
 | succ d ih =>
  intro i hi
  have hx : i < l.length := by omega
  have er : rd l (i : Int) = l[i] := getD_at hx _
  refine Ev.step (fun _ => rfl) ?_
  simp only [spec_l03Has.l0]
  rw [er, drop_at hx]
  refine Ev.pos (by omega) (Ev.pos (by omega) (Ev.pos (by omega) ?_))
  by_cases c : l[i] = a
  ·exact Ev.pos c (Ev.const (by simp [c]))
  ·refine Ev.neg c ?_
   rw [wsucc (by omega)]
   refine Ev.to (ih (i + 1) (by omega)) ?_
   have c' : ¬ a = l[i] := fun h => c h.symm
   simp only [List.mem_cons, c', false_or]
theorem spec_l03Has_ev (l : List Int) (a : Int) (hl : l.length ≤ 140737488351232) : Ev (fun k => spec_l03Has.f k l a) (decide (a ∈ l)) := by
 unfold spec_l03Has.f
 exact spec_l03Has_l0 a l hl l.length 0 (by omega)
def posI (a : Int) : List Int → Nat → Int
 | [], _ => -1
 | x :: r, i => if a = x then (i : Int) else posI a r (i + 1)
theorem posI_ge (a : Int) : ∀ (l : List Int) (i : Nat), decide (posI a l i ≥ 0) = decide (a ∈ l)
 | [], i => by simp [posI]
 | x :: r, i => by
  rw [posI]
  by_cases c : a = x
  ·rw [if_pos c]; simp [c]
  ·rw [if_neg c, posI_ge a r (i + 1)]; simp [c]
theorem slices_Index_l0 (a : Int) (l : List Int) (hl : l.length ≤ 140737488351232) : ∀ (d i : Nat), i + d = l.length → Ev (fun k => slices_Index_int_int.l0 k l a (l.length : Int) (i : Int)) (posI a (l.drop i) i) := by
 intro d
 induction d with
 | zero =>
  intro i hi
  rw [List.drop_of_length_le (by omega)]
  refine Ev.step (fun _ => rfl) ?_
  simp only [slices_Index_int_int.l0]
  exact Ev.neg (by omega) (Ev.const rfl)
 | succ d ih =>
  intro i hi
  have hx : i < l.length := by omega
  have er : rd l (i : Int) = l[i] := getD_at hx _
  refine Ev.step (fun _ => rfl) ?_
  simp only [slices_Index_int_int.l0]
  rw [er, drop_at hx, posI]
  refine Ev.pos (by omega) (Ev.pos (by omega) (Ev.pos (by omega) ?_))
  by_cases c : a = l[i]
  ·exact Ev.pos c (Ev.const (by rw [if_pos c]))
  ·refine Ev.neg c ?_
   rw [if_neg c, wsucc (by omega)]
   exact ih (i + 1) (by omega)
theorem slices_Contains_ev (l : List Int) (a : Int) (hl : l.length ≤ 140737488351232) : Ev (fun k => slices_Contains_int_int.f k l a) (decide (a ∈ l)) := by
 unfold slices_Contains_int_int.f slices_Index_int_int.f
 refine Ev.bind (slices_Index_l0 a l hl l.length 0 (by omega)) (Ev.const ?_)
 rw [List.drop_zero, posI_ge]
def goodFrom (all : List It) : Nat → List It → Bool
 | _, [] => true
 | i, x :: r => itemOk x.f0 x.f1 x.f2 && (decide (impl_itemAt.idx x.f0 all 0 = (i : Int)) && goodFrom all (i + 1) r)
def numsFrom (g : List Int) : Nat → List Int → Bool
 | _, [] => true
 | i, x :: r => isNum x && (!decide (x ∈ g.take i) && numsFrom g (i + 1) r)
def threeOk (cap most : Int) (s m : List It) (g : List Int) : Bool := decide (1 ≤ cap ∧ cap ≤ 60) && (decide (1 ≤ most ∧ most ≤ cap) && (decide (((s.length + m.length : Nat) : Int) ≤ cap) && (decide ((g.length : Int) ≤ max 1 (cap - most)) && (goodFrom (s ++ m) 0 (s ++ m) && numsFrom g 0 g))))
theorem impl_areItems_l0 (l : List It) (hl : small l) : ∀ (d i : Nat), i + d = l.length → Ev (fun k => impl_areItems.l0 k l l (l.length : Int) (i : Int)) (goodFrom l i (l.drop i)) := by
 have hl1 := hl.1
 intro d
 induction d with
 | zero =>
  intro i hi
  rw [List.drop_of_length_le (by omega)]
  refine Ev.step (fun _ => rfl) ?_
  simp only [impl_areItems.l0]
  exact Ev.neg (by omega) (Ev.const rfl)
 | succ d ih =>
  intro i hi
  have hx : i < l.length := by omega
  have hm := hl.2 l[i] (List.getElem_mem hx)
  have er : rd_T122 l (i : Int) = l[i] := getD_at hx _
  refine Ev.step (fun _ => rfl) ?_
  simp only [impl_areItems.l0]
  rw [er, drop_at hx, goodFrom]
  refine Ev.pos (by omega) (Ev.pos (by omega) (Ev.pos (by omega) ?_))
  refine Ev.bind (impl_ItemOk_ev _ _ _ hm.1 hm.2) ?_
  cases c : itemOk l[i].f0 l[i].f1 l[i].f2
  ·exact Ev.neg (by simp) (Ev.const rfl)
  refine Ev.pos rfl ?_
  refine Ev.bind (Ev.const (show impl_itemAt.f l l[i].f0 = some _ from rfl)) ?_
  by_cases e : impl_itemAt.idx l[i].f0 l 0 = (i : Int)
  ·refine Ev.pos e ?_
   rw [wsucc (by omega)]
   refine Ev.to (ih (i + 1) (by omega)) ?_
   simp [e]
  ·exact Ev.neg e (Ev.const (by simp [e]))
theorem impl_areItems_ev (l : List It) (hl : small l) : Ev (fun k => impl_areItems.f k l) (goodFrom l 0 l) := by
 unfold impl_areItems.f
 exact impl_areItems_l0 l hl l.length 0 (by omega)
theorem append_small {s m : List It} (hs : s.length ≤ 2097152 ∧ ∀ x ∈ s, x.f0.size ≤ 140737488351232 ∧ x.f1.size ≤ 140737488351232) (hm : m.length ≤ 2097152 ∧ ∀ x ∈ m, x.f0.size ≤ 140737488351232 ∧ x.f1.size ≤ 140737488351232) : small (s ++ m) := by
 refine ⟨by rw [List.length_append]; omega, fun x hx => ?_⟩
 rcases List.mem_append.1 hx with h | h
 ·exact hs.2 x h
 ·exact hm.2 x h
theorem impl_ThreeOk_l0 (cap most : Int) (s m : List It) (g : List Int) (hs : s.length ≤ 2097152 ∧ ∀ x ∈ s, x.f0.size ≤ 140737488351232 ∧ x.f1.size ≤ 140737488351232) (hm : m.length ≤ 2097152 ∧ ∀ x ∈ m, x.f0.size ≤ 140737488351232 ∧ x.f1.size ≤ 140737488351232) (hg : g.length ≤ 2097152) : ∀ (d i : Nat), i + d = g.length →
  Ev (fun k => impl_ThreeOk.l0 k g (g.length : Int) (i : Int) cap most s m g) (numsFrom g i (g.drop i) && (decide (((s.length + m.length : Nat) : Int) ≤ cap) && goodFrom (s ++ m) 0 (s ++ m))) := by
 intro d
 induction d with
 | zero =>
  intro i hi
  rw [List.drop_of_length_le (by omega), numsFrom, Bool.true_and]
  refine Ev.step (fun _ => rfl) ?_
  simp only [impl_ThreeOk.l0]
  refine Ev.neg (by omega) ?_
  refine Ev.bind (Ev.const (show impl_copyItems.f s = some s from by unfold impl_copyItems.f; rw [if_pos (by simp; omega)]; simp)) ?_
  refine Ev.pos (by omega) ?_
  refine Ev.bind (Ev.const rfl) ?_
  by_cases c : ((s.length + m.length : Nat) : Int) ≤ cap
  ·refine Ev.pos (by rw [List.length_append]; exact c) ?_
   refine Ev.bind (impl_areItems_ev _ (append_small hs hm)) (Ev.const ?_)
   rw [decide_eq_true c, Bool.true_and]
  ·refine Ev.neg (by rw [List.length_append]; exact c) (Ev.const ?_)
   rw [decide_eq_false c, Bool.false_and]
 | succ d ih =>
  intro i hi
  have hx : i < g.length := by omega
  have er : rd g (i : Int) = g[i] := getD_at hx _
  refine Ev.step (fun _ => rfl) ?_
  simp only [impl_ThreeOk.l0]
  rw [er, drop_at hx, numsFrom]
  refine Ev.pos (by omega) (Ev.pos (by omega) (Ev.pos (by omega) ?_))
  refine Ev.bind (Ev.const (impl_isNum_eq _)) ?_
  cases c : isNum g[i]
  ·exact Ev.neg (by simp) (Ev.const rfl)
  refine Ev.pos rfl (Ev.pos (by omega) ?_)
  rw [Int.toNat_natCast]
  refine Ev.bind (slices_Contains_ev _ _ (by rw [List.length_take]; omega)) ?_
  by_cases e : g[i] ∈ g.take i
  ·exact Ev.pos (by simp [e]) (Ev.const (by simp [e]))
  ·refine Ev.neg (by simp [e]) ?_
   rw [wsucc (by omega)]
   refine Ev.to (ih (i + 1) (by omega)) ?_
   simp [e]
theorem impl_ThreeOk_ev (cap most : Int) (s m : List It) (g : List Int) (hs : s.length ≤ 2097152 ∧ ∀ x ∈ s, x.f0.size ≤ 140737488351232 ∧ x.f1.size ≤ 140737488351232) (hm : m.length ≤ 2097152 ∧ ∀ x ∈ m, x.f0.size ≤ 140737488351232 ∧ x.f1.size ≤ 140737488351232) (hg : g.length ≤ 2097152) : Ev (fun k => impl_ThreeOk.f k cap most s m g) (threeOk cap most s m g) := by
 unfold impl_ThreeOk.f threeOk
 have hj : Ev (fun k => impl_ThreeOk.j0 k true cap most s m g) false := by
  refine Ev.step (fun _ => rfl) ?_
  simp only [impl_ThreeOk.j0]
  exact Ev.const rfl
 refine Ev.bind (Ev.const (impl_within_eq _ _ _)) ?_
 by_cases a : 1 ≤ cap ∧ cap ≤ 60
 rotate_left
 ·exact Ev.neg (by simp; omega) (Ev.to hj (by simp [a]))
 refine Ev.pos (by simp; omega) ?_
 refine Ev.bind (Ev.const (impl_within_eq _ _ _)) ?_
 by_cases b : 1 ≤ most ∧ most ≤ cap
 rotate_left
 ·exact Ev.neg (by simp; omega) (Ev.to hj (by simp [b]))
 refine Ev.pos (by simp; omega) ?_
 refine Ev.bind (Ev.const (show impl_Three_ghosts.f cap most = some (max 1 (cap - most)) from by unfold impl_Three_ghosts.f; rw [w64 (by omega) (by omega)])) ?_
 rw [decide_eq_true a, decide_eq_true b, Bool.true_and, Bool.true_and]
 by_cases c : (g.length : Int) ≤ max 1 (cap - most)
 rotate_left
 ·rw [decide_eq_true (show (g.length : Int) > max 1 (cap - most) by omega), decide_eq_false c]
  refine Ev.to hj (by simp)
 rw [decide_eq_false (show ¬ (g.length : Int) > max 1 (cap - most) by omega), decide_eq_true c]
 refine Ev.step (fun _ => rfl) ?_
 simp only [impl_ThreeOk.j0]
 refine Ev.neg (by simp) ?_
 refine Ev.to (impl_ThreeOk_l0 cap most s m g hs hm hg g.length 0 (by omega)) ?_
 rw [List.drop_zero]
 cases numsFrom g 0 g <;> simp
theorem spec_ThreeOk_l1 (cap most : Int) (s m : List It) (g : List Int) (hg : g.length ≤ 2097152) : ∀ (d i : Nat), i + d = g.length → Ev (fun k => spec_ThreeOk.l1 k g (g.length : Int) (i : Int) cap most s m g) (numsFrom g i (g.drop i)) := by
 intro d
 induction d with
 | zero =>
  intro i hi
  rw [List.drop_of_length_le (by omega), numsFrom]
  refine Ev.step (fun _ => rfl) ?_
  simp only [spec_ThreeOk.l1]
  exact Ev.neg (by omega) (Ev.const rfl)
 | succ d ih =>
  intro i hi
  have hx : i < g.length := by omega
  have er : rd g (i : Int) = g[i] := getD_at hx _
  refine Ev.step (fun _ => rfl) ?_
  simp only [spec_ThreeOk.l1]
  rw [er, drop_at hx, numsFrom]
  refine Ev.pos (by omega) (Ev.pos (by omega) (Ev.pos (by omega) ?_))
  refine Ev.bind (Ev.const (spec_l01Num_eq _)) ?_
  cases c : isNum g[i]
  ·exact Ev.neg (by simp) (Ev.const rfl)
  refine Ev.pos rfl (Ev.pos (by omega) ?_)
  rw [Int.toNat_natCast]
  refine Ev.bind (spec_l03Has_ev _ _ (by rw [List.length_take]; omega)) ?_
  by_cases e : g[i] ∈ g.take i
  ·exact Ev.pos (by simp [e]) (Ev.const (by simp [e]))
  ·refine Ev.neg (by simp [e]) ?_
   rw [wsucc (by omega)]
   refine Ev.to (ih (i + 1) (by omega)) ?_
   simp [e]
theorem spec_ThreeOk_l0 (cap most : Int) (s m : List It) (g : List Int) (l : List It) (hl : small l) (hg : g.length ≤ 2097152) : ∀ (d i : Nat), i + d = l.length → Ev (fun k => spec_ThreeOk.l0 k l l (l.length : Int) (i : Int) cap most s m g) (goodFrom l i (l.drop i) && numsFrom g 0 g) := by
 have hl1 := hl.1
 intro d
 induction d with
 | zero =>
  intro i hi
  rw [List.drop_of_length_le (by omega), goodFrom, Bool.true_and]
  refine Ev.step (fun _ => rfl) ?_
  simp only [spec_ThreeOk.l0]
  exact Ev.neg (by omega) (spec_ThreeOk_l1 cap most s m g hg g.length 0 (by omega))
 | succ d ih =>
  intro i hi
  have hx : i < l.length := by omega
  have hm := hl.2 l[i] (List.getElem_mem hx)
  have er : rd_T122 l (i : Int) = l[i] := getD_at hx _
  refine Ev.step (fun _ => rfl) ?_
  simp only [spec_ThreeOk.l0]
  rw [er, drop_at hx, goodFrom]
  refine Ev.pos (by omega) (Ev.pos (by omega) (Ev.pos (by omega) ?_))
  refine Ev.bind (spec_ItemOk_ev _ _ _ hm.1 hm.2) ?_
  cases c : itemOk l[i].f0 l[i].f1 l[i].f2
  ·exact Ev.neg (by simp) (Ev.const rfl)
  refine Ev.pos rfl ?_
  refine Ev.bind (spec_l10At_ev l _ hl1) ?_
  by_cases e : impl_itemAt.idx l[i].f0 l 0 = (i : Int)
  ·refine Ev.pos e ?_
   rw [wsucc (by omega)]
   refine Ev.to (ih (i + 1) (by omega)) ?_
   simp [e]
  ·exact Ev.neg e (Ev.const (by simp [e]))
theorem spec_ThreeOk_ev (cap most : Int) (s m : List It) (g : List Int) (hs : s.length ≤ 2097152 ∧ ∀ x ∈ s, x.f0.size ≤ 140737488351232 ∧ x.f1.size ≤ 140737488351232) (hm : m.length ≤ 2097152 ∧ ∀ x ∈ m, x.f0.size ≤ 140737488351232 ∧ x.f1.size ≤ 140737488351232) (hg : g.length ≤ 2097152) : Ev (fun k => spec_ThreeOk.f k cap most s m g) (threeOk cap most s m g) := by
 unfold spec_ThreeOk.f threeOk
 have hsl := hs.1
 have hml := hm.1
 have hj : Ev (fun k => spec_ThreeOk.j0 k true cap most s m g) false := by
  refine Ev.step (fun _ => rfl) ?_
  simp only [spec_ThreeOk.j0]
  exact Ev.const rfl
 refine Ev.bind (Ev.const (spec_l01In_eq _ _ _)) ?_
 by_cases a : 1 ≤ cap ∧ cap ≤ 60
 rotate_left
 ·exact Ev.neg (by simp; omega) (Ev.to hj (by simp [a]))
 refine Ev.pos (by simp; omega) ?_
 refine Ev.bind (Ev.const (spec_l01In_eq _ _ _)) ?_
 by_cases b : 1 ≤ most ∧ most ≤ cap
 rotate_left
 ·exact Ev.neg (by simp; omega) (Ev.to hj (by simp [b]))
 refine Ev.pos (by simp; omega) ?_
 rw [decide_eq_true a, decide_eq_true b, Bool.true_and, Bool.true_and, w64 (by omega) (by omega)]
 by_cases q : ((s.length + m.length : Nat) : Int) ≤ cap
 rotate_left
 ·exact Ev.pos (by omega) (Ev.to hj (by rw [decide_eq_false q, Bool.false_and]))
 refine Ev.neg (by omega) ?_
 rw [decide_eq_true q, Bool.true_and]
 have hgh : spec_l10Ghosts.f cap most s m g = some (max 1 (cap - most)) := by
  unfold spec_l10Ghosts.f
  rw [w64 (by omega) (by omega)]
  by_cases z : cap - most < 1
  ·rw [if_pos z]; congr 1; omega
  ·rw [if_neg z]; congr 1; omega
 refine Ev.bind (Ev.const hgh) ?_
 by_cases c : (g.length : Int) ≤ max 1 (cap - most)
 rotate_left
 ·rw [decide_eq_true (show (g.length : Int) > max 1 (cap - most) by omega), decide_eq_false c]
  refine Ev.to hj (by simp)
 rw [decide_eq_false (show ¬ (g.length : Int) > max 1 (cap - most) by omega), decide_eq_true c, Bool.true_and]
 refine Ev.step (fun _ => rfl) ?_
 simp only [spec_ThreeOk.j0]
 refine Ev.neg (by simp) ?_
 refine Ev.bind (Ev.const rfl) ?_
 refine Ev.pos (by simp; omega) ?_
 refine Ev.bind (Ev.const rfl) ?_
 refine Ev.pos (by simp; omega) ?_
 refine Ev.bind (Ev.const rfl) ?_
 rw [List.nil_append]
 exact spec_ThreeOk_l0 cap most s m g (s ++ m) (append_small hs hm) hg (s ++ m).length 0 (by omega)
end Go.Proofs.Ythnedklbobbkcaa.Q

namespace Go.Proofs.Ythnedklbobbkcaa.Q
open Go.RowKit Go.Proofs.Ythnedklbobbkcaa.G Go.Proofs.Ythnedklbobbkcaa.PL Go.Proofs.YthnedklbobbkcaaW.PrintWords
/-- The hash of a text. -/
def hashOn : List UInt8 → Int → Int
 | [], h => h
 | c :: r, h => hashOn r (Int.tmod (wrap64 ((Go.bits .xor .i64 h (wrap64 (c.toNat : Int))) * 16777619)) 4294967296)
def hash (s : ByteArray) : Int := hashOn (bs s) 2166136261
theorem spec_Hash_ev (s : ByteArray) (hz : s.size ≤ 140737488351232) : Ev (fun k => spec_Hash.f k s) (hash s) := by
 have go : ∀ (d i : Nat) (h : Int), i + d = s.size → Ev (fun k => spec_Hash.l0 k s h (i : Int)) (hashOn ((bs s).drop i) h) := by
  intro d
  induction d with
  | zero =>
   intro i h hi
   rw [List.drop_of_length_le (by rw [bs_length]; omega)]
   refine Ev.step (fun _ => rfl) ?_
   simp only [spec_Hash.l0]
   exact Ev.neg (by omega) (Ev.const rfl)
  | succ d ih =>
   intro i h hi
   have hx : i < s.size := by omega
   refine Ev.step (fun _ => rfl) ?_
   simp only [spec_Hash.l0]
   rw [drop_bs s i hx, hashOn, bt_eq s i hx]
   refine Ev.pos (by omega) (Ev.pos (by omega) ?_)
   rw [wsucc (by omega)]
   exact ih (i + 1) _ (by omega)
 unfold spec_Hash.f hash
 exact go s.size 0 _ (by omega)
theorem impl_Hash_ev (s : ByteArray) (hz : s.size ≤ 140737488351232) : Ev (fun k => impl_Hash.f k s) (hash s) := by
 have go : ∀ (d i : Nat) (h : Int), i + d = s.size → Ev (fun k => impl_Hash.l0 k s h (i : Int)) (hashOn ((bs s).drop i) h) := by
  intro d
  induction d with
  | zero =>
   intro i h hi
   rw [List.drop_of_length_le (by rw [bs_length]; omega)]
   refine Ev.step (fun _ => rfl) ?_
   simp only [impl_Hash.l0]
   exact Ev.neg (by omega) (Ev.const rfl)
  | succ d ih =>
   intro i h hi
   have hx : i < s.size := by omega
   refine Ev.step (fun _ => rfl) ?_
   simp only [impl_Hash.l0]
   rw [drop_bs s i hx, hashOn, bt_eq s i hx]
   refine Ev.pos (by omega) (Ev.pos (by omega) ?_)
   rw [wsucc (by omega)]
   exact ih (i + 1) _ (by omega)
 unfold impl_Hash.f hash
 exact go s.size 0 _ (by omega)
end Go.Proofs.Ythnedklbobbkcaa.Q

namespace Go.Proofs.Ythnedklbobbkcaa.Q
open Go.RowKit Go.Proofs.Ythnedklbobbkcaa.G Go.Proofs.Ythnedklbobbkcaa.PL Go.Proofs.Ythnedklbobbkcaa.Ok Go.Proofs.Ythnedklbobbkcaa.Fam Go.Proofs.YthnedklbobbkcaaW.PrintWords
theorem i64_xor_nats (a b : Nat) (ha : a < 4294967296) (hb : b < 4294967296) : Go.bits .xor .i64 (a : Int) (b : Int) = ((a ^^^ b : Nat) : Int) := by
 have hx : a ^^^ b < 2 ^ 32 := Nat.xor_lt_two_pow (by omega) (by omega)
 show IntKind.i64.wrap ((BitVec.ofInt 64 (a : Int) ^^^ BitVec.ofInt 64 (b : Int)).toNat : Int) = _
 rw [BitVec.toNat_xor, Go.ofInt_u64 a (by omega), Go.ofInt_u64 b (by omega)]
 exact Go.Lib.wrap_i64_small _ (by omega)
theorem isNum_nats {a : Int} (h : isNum a = true) : ∃ n : Nat, a = (n : Int) ∧ n < 4294967296 := by
 simp only [isNum, Bool.and_eq_true, decide_eq_true_eq] at h
 exact ⟨a.toNat, by omega, by omega⟩
theorem hashOn_isNum : ∀ (l : List UInt8) (h : Int), isNum h = true → isNum (hashOn l h) = true
 | [], _, h => h
 | c :: l, h, hh => by
  rw [hashOn]
  apply hashOn_isNum l
  obtain ⟨n, rfl, hn⟩ := isNum_nats hh
  have hc := c.toNat_lt
  rw [w64 (x := (c.toNat : Int)) (by omega) (by omega), i64_xor_nats _ _ (by omega) (by omega)]
  have hx : n ^^^ c.toNat < 2 ^ 32 := Nat.xor_lt_two_pow hn (by omega)
  rw [w64 (by omega) (by omega), Int.tmod_eq_emod_of_nonneg (by omega)]
  simp only [isNum, Bool.and_eq_true, decide_eq_true_eq]
  omega
theorem hash_isNum (s : ByteArray) : isNum (hash s) = true := hashOn_isNum _ _ (by decide)
end Go.Proofs.Ythnedklbobbkcaa.Q

namespace Go.Proofs.Ythnedklbobbkcaa.Q
open Go.RowKit Go.Proofs.Ythnedklbobbkcaa.G Go.Proofs.Ythnedklbobbkcaa.PL Go.Proofs.YthnedklbobbkcaaW.PrintWords Go.Proofs.YthnedklbobbkcaaW.PrintLast
def keys (l : List It) : List ByteArray := l.map (·.f0)
theorem keys_append (a b : List It) : keys (a ++ b) = keys a ++ keys b := List.map_append
theorem keys_cons (x : It) (b : List It) : keys (x :: b) = x.f0 :: keys b := rfl
theorem keys_length (a : List It) : (keys a).length = a.length := List.length_map ..
theorem mem_keys {k : ByteArray} {l : List It} : k ∈ keys l ↔ ∃ x ∈ l, x.f0 = k := by simp [keys]
theorem idx_cases (key : ByteArray) : ∀ (l : List It) (i : Nat), (key ∉ keys l ∧ impl_itemAt.idx key l i = -1) ∨ ∃ j, ∃ h : j < l.length, impl_itemAt.idx key l i = ((i + j : Nat) : Int) ∧ l[j].f0 = key ∧ key ∉ keys (l.take j)
 | [], i => .inl ⟨by simp [keys], rfl⟩
 | x :: r, i => by
  rw [impl_itemAt.idx]
  by_cases c : x.f0.toList = key.toList
  ·rw [if_pos c]
   exact .inr ⟨0, by simp, by simp, bytes_eq.1 c, by simp [keys]⟩
  ·rw [if_neg c]
   have c' : x.f0 ≠ key := fun h => c (bytes_eq.2 h)
   rcases idx_cases key r (i + 1) with ⟨h1, h2⟩ | ⟨j, hj, h1, h2, h3⟩
   ·exact .inl ⟨by rw [keys_cons, List.mem_cons, not_or]; exact ⟨fun h => c' h.symm, h1⟩, h2⟩
   ·refine .inr ⟨j + 1, by simp; omega, by rw [h1]; omega, by simpa using h2, ?_⟩
    rw [List.take_succ_cons, keys_cons, List.mem_cons, not_or]
    exact ⟨fun h => c' h.symm, h3⟩
theorem idx_neg {key : ByteArray} {l : List It} : impl_itemAt.idx key l 0 < 0 ↔ key ∉ keys l := by
 rcases idx_cases key l 0 with ⟨h1, h2⟩ | ⟨j, hj, h1, h2, h3⟩
 ·exact ⟨fun _ => h1, fun _ => by omega⟩
 ·refine ⟨fun h => by omega, fun h => absurd (mem_keys.2 ⟨_, List.getElem_mem hj, h2⟩) h⟩
theorem idx_nonneg {key : ByteArray} {l : List It} : 0 ≤ impl_itemAt.idx key l 0 ↔ key ∈ keys l := by
 have := idx_neg (key := key) (l := l)
 by_cases h : key ∈ keys l
 ·exact ⟨fun _ => h, fun _ => by
   by_cases c : impl_itemAt.idx key l 0 < 0
   ·exact absurd h (this.1 c)
   ·omega⟩
 ·exact ⟨fun c => by have := this.2 h; omega, fun c => absurd c h⟩
theorem idx_lt {key : ByteArray} {l : List It} : impl_itemAt.idx key l 0 < (l.length : Int) := by
 rcases idx_cases key l 0 with ⟨h1, h2⟩ | ⟨j, hj, h1, h2, h3⟩ <;> omega
theorem idx_at {key : ByteArray} {l : List It} (h : 0 ≤ impl_itemAt.idx key l 0) : ∃ j, ∃ hj : j < l.length, impl_itemAt.idx key l 0 = (j : Int) ∧ l[j].f0 = key := by
 rcases idx_cases key l 0 with ⟨h1, h2⟩ | ⟨j, hj, h1, h2, h3⟩
 ·omega
 ·exact ⟨j, hj, by omega, h2⟩
theorem idx_mid {x : It} {pre r : List It} : impl_itemAt.idx x.f0 (pre ++ x :: r) 0 = (pre.length : Int) ↔ x.f0 ∉ keys pre := by
 rcases idx_cases x.f0 (pre ++ x :: r) 0 with ⟨h1, h2⟩ | ⟨j, hj, h1, h2, h3⟩
 ·exact absurd (mem_keys.2 ⟨x, by simp, rfl⟩) h1
 ·constructor
  ·intro h
   have : j = pre.length := by omega
   subst this
   simpa using h3
  ·intro h
   by_cases c : j < pre.length
   ·refine absurd (mem_keys.2 ⟨pre[j], List.getElem_mem c, ?_⟩) h
    rw [← h2, List.getElem_append_left c]
   ·by_cases d : pre.length < j
    ·refine absurd (mem_keys.2 ⟨x, ?_, rfl⟩) h3
     rw [List.take_append]
     refine List.mem_append.2 (.inr ?_)
     obtain ⟨e, he⟩ : ∃ e, j - pre.length = e + 1 := ⟨j - pre.length - 1, by omega⟩
     rw [he, List.take_succ_cons]
     exact List.mem_cons_self
    ·omega
theorem goodFrom_iff : ∀ (r pre : List It), (goodFrom (pre ++ r) pre.length r = true ∧ (keys pre).Nodup) ↔ ((∀ x ∈ r, itemOk x.f0 x.f1 x.f2 = true) ∧ (keys (pre ++ r)).Nodup)
 | [], pre => by simp [goodFrom]
 | x :: r, pre => by
  have ih := goodFrom_iff r (pre ++ [x])
  simp only [List.append_assoc, List.singleton_append, List.length_append, List.length_cons, List.length_nil, Nat.zero_add] at ih
  rw [goodFrom, Bool.and_eq_true, Bool.and_eq_true, decide_eq_true_eq, idx_mid]
  have hn : (keys (pre ++ [x])).Nodup ↔ (keys pre).Nodup ∧ x.f0 ∉ keys pre := by
   have e1 : keys [x] = [x.f0] := rfl
   rw [keys_append, e1, List.nodup_append]
   simp only [List.nodup_cons, List.not_mem_nil, not_false_eq_true, List.nodup_nil, and_self, true_and, List.mem_singleton]
   constructor
   ·rintro ⟨h1, h2⟩
    exact ⟨h1, fun h => h2 _ h _ rfl rfl⟩
   ·rintro ⟨h1, h2⟩
    exact ⟨h1, fun a ha b hb h => h2 (by rw [← hb, ← h]; exact ha)⟩
  rw [hn] at ih
  constructor
  ·rintro ⟨⟨h1, h2, h3⟩, h4⟩
   obtain ⟨g1, g2⟩ := ih.1 ⟨h3, h4, h2⟩
   exact ⟨fun y hy => by
    rcases List.mem_cons.1 hy with rfl | hy
    ·exact h1
    ·exact g1 y hy, g2⟩
  ·rintro ⟨h1, h2⟩
   obtain ⟨g1, g2, g3⟩ := ih.2 ⟨fun y hy => h1 y (List.mem_cons_of_mem _ hy), h2⟩
   exact ⟨⟨h1 x List.mem_cons_self, g3, g1⟩, g2⟩
theorem numsFrom_iff (g : List Int) : ∀ (r pre : List Int), g = pre ++ r → ((numsFrom g pre.length r = true ∧ pre.Nodup) ↔ ((∀ x ∈ r, isNum x = true) ∧ g.Nodup))
 | [], pre, e => by simp only [List.append_nil] at e; subst e; simp [numsFrom]
 | x :: r, pre, e => by
  have ih := numsFrom_iff g r (pre ++ [x]) (by simp [e])
  have ht : g.take pre.length = pre := by rw [e]; simp
  rw [numsFrom, Bool.and_eq_true, Bool.and_eq_true, ht]
  have hn : (pre ++ [x]).Nodup ↔ pre.Nodup ∧ x ∉ pre := by
   rw [List.nodup_append]
   simp only [List.nodup_cons, List.not_mem_nil, not_false_eq_true, List.nodup_nil, and_self, true_and, List.mem_singleton]
   constructor
   ·rintro ⟨h1, h2⟩
    exact ⟨h1, fun h => h2 _ h _ rfl rfl⟩
   ·rintro ⟨h1, h2⟩
    exact ⟨h1, fun a ha b hb h => h2 (by rw [← hb, ← h]; exact ha)⟩
  rw [hn, List.length_append] at ih
  constructor
  ·rintro ⟨⟨h1, h2, h3⟩, h4⟩
   obtain ⟨g1, g2⟩ := ih.1 ⟨h3, h4, by simpa using h2⟩
   exact ⟨fun y hy => by
    rcases List.mem_cons.1 hy with rfl | hy
    ·exact h1
    ·exact g1 y hy, g2⟩
  ·rintro ⟨h1, h2⟩
   obtain ⟨g1, g2, g3⟩ := ih.2 ⟨fun y hy => h1 y (List.mem_cons_of_mem _ hy), h2⟩
   exact ⟨⟨h1 x List.mem_cons_self, by simpa using g3, g1⟩, g2⟩
/-- A right cache. -/
structure Good (cap most : Int) (s m : List It) (g : List Int) : Prop where
 cap1 : 1 ≤ cap
 cap2 : cap ≤ 60
 most1 : 1 ≤ most
 most2 : most ≤ cap
 room : ((s.length + m.length : Nat) : Int) ≤ cap
 gl : (g.length : Int) ≤ max 1 (cap - most)
 ok : ∀ x ∈ s ++ m, itemOk x.f0 x.f1 x.f2 = true
 nd : (keys (s ++ m)).Nodup
 nums : ∀ n ∈ g, isNum n = true
 gnd : g.Nodup
theorem threeOk_iff {cap most : Int} {s m : List It} {g : List Int} : threeOk cap most s m g = true ↔ Good cap most s m g := by
 have h1 := goodFrom_iff (s ++ m) []
 have h2 := numsFrom_iff g g [] rfl
 simp only [keys, List.map_nil, List.nil_append, List.length_nil, List.nodup_nil, and_true] at h1 h2
 simp only [threeOk, Bool.and_eq_true, decide_eq_true_eq]
 constructor
 ·rintro ⟨⟨a, b⟩, ⟨c, d⟩, e, f, i, j⟩
  exact ⟨a, b, c, d, e, f, (h1.1 i).1, (h1.1 i).2, (h2.1 j).1, (h2.1 j).2⟩
 ·rintro ⟨a, b, c, d, e, f, i, j, k, l⟩
  exact ⟨⟨a, b⟩, ⟨c, d⟩, e, f, h1.2 ⟨i, j⟩, h2.2 ⟨k, l⟩⟩
theorem itemOk_iff {key val : ByteArray} {n : Int} : itemOk key val n = true ↔ ((1 ≤ key.size ∧ key.size ≤ 20) ∧ clean key = true) ∧ (val.size ≤ 40 ∧ clean val = true) ∧ 0 ≤ n ∧ n ≤ 3 := by
 simp only [itemOk, Bool.and_eq_true, decide_eq_true_eq]
 constructor <;> (rintro h; simp only [h, and_self])
def evS : List It → List It → List It × List It × Option It
 | [], m => ([], m, none)
 | x :: s, m => if x.f2 > 1 then evS s (m ++ [⟨x.f0, x.f1, 0⟩]) else (s, m, some x)
def evM : Nat → List It → List It × Option It
 | 0, m => (m, none)
 | _ + 1, [] => ([], none)
 | n + 1, x :: m => if x.f2 = 0 then (m, some x) else evM n (m ++ [⟨x.f0, x.f1, x.f2 - 1⟩])
/-- Of each item its key and value stay; its number stays between 0 and what it was. -/
structure From (a : List It) (b : List It) : Prop where
 each : ∀ x ∈ b, ∃ y ∈ a, x.f0 = y.f0 ∧ x.f1 = y.f1 ∧ 0 ≤ x.f2 ∧ x.f2 ≤ y.f2
theorem From.sub {a b : List It} (h : ∀ x ∈ a, 0 ≤ x.f2) (hs : ∀ x ∈ b, x ∈ a) : From a b := ⟨fun x hx => ⟨x, hs x hx, rfl, rfl, h x (hs x hx), Int.le_refl _⟩⟩
theorem From.trans {a b c : List It} (h : From a b) (k : From b c) : From a c := ⟨fun x hx => by
 obtain ⟨y, hy, h1, h2, h3, h4⟩ := k.each x hx
 obtain ⟨z, hz, g1, g2, g3, g4⟩ := h.each y hy
 exact ⟨z, hz, h1.trans g1, h2.trans g2, h3, by omega⟩⟩
theorem From.nn {a b : List It} (h : From a b) : ∀ x ∈ b, 0 ≤ x.f2 := fun x hx => by
 obtain ⟨_, _, _, _, h3, _⟩ := h.each x hx
 exact h3
theorem From.ok {a b : List It} (h : From a b) (o : ∀ x ∈ a, itemOk x.f0 x.f1 x.f2 = true) : ∀ x ∈ b, itemOk x.f0 x.f1 x.f2 = true := fun x hx => by
 obtain ⟨y, hy, h1, h2, h3, h4⟩ := h.each x hx
 have := itemOk_iff.1 (o y hy)
 rw [itemOk_iff, h1, h2]
 exact ⟨this.1, this.2.1, h3, by omega⟩
theorem From.move {x : It} {s m : List It} {n : Int} (h : ∀ y ∈ x :: s ++ m, 0 ≤ y.f2) (h0 : 0 ≤ n) (h1 : n ≤ x.f2) : From (x :: s ++ m) (s ++ (m ++ [⟨x.f0, x.f1, n⟩])) := ⟨fun y hy => by
 simp only [List.mem_append, List.mem_cons, List.not_mem_nil, or_false] at hy
 rcases hy with hy | hy | rfl
 ·exact ⟨y, by simp [hy], rfl, rfl, h y (by simp [hy]), Int.le_refl _⟩
 ·exact ⟨y, by simp [hy], rfl, rfl, h y (by simp [hy]), Int.le_refl _⟩
 ·exact ⟨x, by simp, rfl, rfl, h0, h1⟩⟩
theorem keys_move (x : It) (s m : List It) (n : Int) : (keys (x :: s ++ m)).Perm (keys (s ++ (m ++ [⟨x.f0, x.f1, n⟩]))) := by
 simp only [keys, List.cons_append, List.map_cons, List.map_append, List.map_nil]
 rw [← List.append_assoc]
 exact List.perm_append_comm (l₁ := [x.f0])
theorem evS_spec : ∀ (s m : List It), (∀ x ∈ s ++ m, 0 ≤ x.f2) → (keys (s ++ m)).Perm (keys ((evS s m).2.2.toList) ++ keys ((evS s m).1 ++ (evS s m).2.1)) ∧ From (s ++ m) ((evS s m).1 ++ (evS s m).2.1) ∧ ((evS s m).2.2 = none → (evS s m).1 = [])
 | [], m, h => by
  rw [evS]
  exact ⟨by simp [keys], From.sub h (fun _ h => h), by simp⟩
 | x :: s, m, h => by
  rw [evS]
  by_cases c : x.f2 > 1
  ·rw [if_pos c]
   have hF := From.move h (n := 0) (Int.le_refl _) (by omega)
   obtain ⟨h1, h2, h3⟩ := evS_spec s (m ++ [⟨x.f0, x.f1, 0⟩]) hF.nn
   exact ⟨(keys_move x s m 0).trans h1, hF.trans h2, h3⟩
  ·rw [if_neg c]
   exact ⟨by simp [keys], From.sub h (fun y hy => by simp at hy ⊢; exact .inr hy), by simp⟩
def wt (m : List It) : Nat := (m.map (fun x => x.f2.toNat)).sum
theorem evM_spec : ∀ (n : Nat) (m : List It), (∀ x ∈ m, 0 ≤ x.f2) → (keys m).Perm (keys ((evM n m).2.toList) ++ keys (evM n m).1) ∧ From m (evM n m).1
 | 0, m, h => ⟨by simp [evM, keys], From.sub h (fun _ h => h)⟩
 | n + 1, [], h => ⟨by simp [evM, keys], From.sub h (fun _ h => h)⟩
 | n + 1, x :: m, h => by
  rw [evM]
  by_cases c : x.f2 = 0
  ·rw [if_pos c]
   exact ⟨by simp [keys], From.sub h (fun y hy => by simp at hy ⊢; exact .inr hy)⟩
  ·rw [if_neg c]
   have h0 := h x List.mem_cons_self
   have hF := From.move (s := []) (x := x) (m := m) (n := x.f2 - 1) h (by omega) (by omega)
   obtain ⟨h1, h2⟩ := evM_spec n (m ++ [⟨x.f0, x.f1, x.f2 - 1⟩]) hF.nn
   exact ⟨(keys_move x [] m (x.f2 - 1)).trans h1, hF.trans h2⟩
theorem wt_append (a b : List It) : wt (a ++ b) = wt a + wt b := by simp [wt, List.sum_append]
theorem evM_some : ∀ (n : Nat) (m : List It), m ≠ [] → wt m < n → (∀ x ∈ m, 0 ≤ x.f2) → (evM n m).2.isSome = true
 | 0, m, _, h, _ => by omega
 | n + 1, [], h, _, _ => absurd rfl h
 | n + 1, x :: m, _, hw, h => by
  rw [evM]
  by_cases c : x.f2 = 0
  ·rw [if_pos c]; rfl
  ·rw [if_neg c]
   have h0 := h x List.mem_cons_self
   have hF := From.move (s := []) (x := x) (m := m) (n := x.f2 - 1) h (by omega) (by omega)
   refine evM_some n _ (by simp) ?_ hF.nn
   rw [wt_append]
   simp only [wt, List.map_cons, List.sum_cons, List.map_nil, List.sum_nil] at hw ⊢
   omega
def haunt (cap most : Int) (g : List Int) (h : Int) : List Int :=
 if ((g.filter (fun y => !(y == h)) ++ [h]).length : Int) > max 1 (cap - most) then (g.filter (fun y => !(y == h)) ++ [h]).drop 1 else g.filter (fun y => !(y == h)) ++ [h]
theorem haunt_good {cap most h : Int} {g : List Int} (hl : (g.length : Int) ≤ max 1 (cap - most)) (hn : ∀ n ∈ g, isNum n = true) (hd : g.Nodup) (hh : isNum h = true) : ((haunt cap most g h).length : Int) ≤ max 1 (cap - most) ∧ (∀ n ∈ haunt cap most g h, isNum n = true) ∧ (haunt cap most g h).Nodup := by
 have n0 : ∀ n ∈ g.filter (fun y => !(y == h)) ++ [h], isNum n = true := by
  intro n hm
  rcases List.mem_append.1 hm with hm | hm
  ·exact hn n (List.mem_filter.1 hm).1
  ·rw [List.mem_singleton.1 hm]; exact hh
 have d0 : (g.filter (fun y => !(y == h)) ++ [h]).Nodup := by
  rw [List.nodup_append]
  refine ⟨hd.filter _, by simp, ?_⟩
  intro a ha b hb e
  rw [List.mem_singleton.1 hb] at e
  subst e
  simp at ha
 have l0 : (g.filter (fun y => !(y == h)) ++ [h]).length ≤ g.length + 1 := by
  rw [List.length_append]
  have := List.length_filter_le (fun y => !(y == h)) g
  simp only [List.length_cons, List.length_nil]
  omega
 unfold haunt
 by_cases c : ((g.filter (fun y => !(y == h)) ++ [h]).length : Int) > max 1 (cap - most)
 ·rw [if_pos c]
  refine ⟨by rw [List.length_drop]; omega, fun n hm => n0 n (List.mem_of_mem_drop hm), ?_⟩
  exact d0.sublist (List.drop_sublist _ _)
 ·rw [if_neg c]
  exact ⟨by omega, n0, d0⟩
/-- What evictSmall leaves, and the key that went. -/
def evSr (cap most : Int) (s m : List It) (g : List Int) : Int × Int × List It × List It × List Int × ByteArray × Bool :=
 match evS s m with
 | (s', m', some x) => (cap, most, s', m', haunt cap most g (hash x.f0), x.f0, true)
 | (s', m', none) => (cap, most, s', m', g, ⟨#[]⟩, false)
def evMr (n : Nat) (cap most : Int) (s m : List It) (g : List Int) : Int × Int × List It × List It × List Int × ByteArray × Bool :=
 match evM n m with
 | (m', some x) => (cap, most, s, m', g, x.f0, true)
 | (m', none) => (cap, most, s, m', g, ⟨#[]⟩, false)
/-- What evict leaves, and the key that went. -/
def evicted (cap most : Int) (s m : List It) (g : List Int) : Int × Int × List It × List It × List Int × ByteArray × Bool :=
 if (s.length : Int) ≥ most ∨ m = [] then
  if (evSr cap most s m g).2.2.2.2.2.2 = true then evSr cap most s m g
  else evMr (wt (evSr cap most s m g).2.2.2.1 + 1) cap most (evSr cap most s m g).2.2.1 (evSr cap most s m g).2.2.2.1 (evSr cap most s m g).2.2.2.2.1
 else evMr (wt m + 1) cap most s m g
theorem Good.nn {cap most : Int} {s m : List It} {g : List Int} (h : Good cap most s m g) : ∀ x ∈ s ++ m, 0 ≤ x.f2 := fun x hx => (itemOk_iff.1 (h.ok x hx)).2.2.1
theorem perm_good {cap most : Int} {s m s' m' : List It} {g : List Int} {k : List ByteArray} (h : Good cap most s m g) (hp : (keys (s ++ m)).Perm (k ++ keys (s' ++ m'))) (hF : From (s ++ m) (s' ++ m')) : Good cap most s' m' g := by
 have hl := hp.length_eq
 rw [keys_length, List.length_append, List.length_append, keys_length, List.length_append] at hl
 have := h.room
 exact { h with room := by omega, ok := hF.ok h.ok, nd := (List.nodup_append.1 (hp.nodup_iff.1 h.nd)).2.1 }
theorem evSr_spec {cap most : Int} {s m : List It} {g : List Int} (h : Good cap most s m g) : ∃ s' m' g' k b, evSr cap most s m g = (cap, most, s', m', g', k, b) ∧ Good cap most s' m' g' ∧ (keys (s ++ m)).Perm ((if b = true then [k] else []) ++ keys (s' ++ m')) ∧ From (s ++ m) (s' ++ m') ∧ (b = false → s' = []) ∧ (b = true → k ∈ keys (s ++ m)) := by
 obtain ⟨h1, h2, h3⟩ := evS_spec s m h.nn
 unfold evSr
 revert h1 h2 h3
 generalize evS s m = E
 obtain ⟨s', m', o⟩ := E
 intro h1 h2 h3
 cases o with
 | none => exact ⟨s', m', g, _, false, rfl, perm_good h h1 h2, h1, h2, fun _ => h3 rfl, by simp⟩
 | some x =>
  obtain ⟨a, b, c⟩ := haunt_good h.gl h.nums h.gnd (hash_isNum x.f0)
  have hm : x.f0 ∈ keys (s ++ m) := h1.mem_iff.2 (by simp [keys])
  exact ⟨s', m', _, x.f0, true, rfl, { perm_good h h1 h2 with gl := a, nums := b, gnd := c }, h1, h2, by simp, fun _ => hm⟩
theorem evMr_spec {n : Nat} {cap most : Int} {s m : List It} {g : List Int} (h : Good cap most s m g) : ∃ m' k b, evMr n cap most s m g = (cap, most, s, m', g, k, b) ∧ Good cap most s m' g ∧ (keys (s ++ m)).Perm ((if b = true then [k] else []) ++ keys (s ++ m')) ∧ From (s ++ m) (s ++ m') ∧ (m ≠ [] → wt m < n → b = true) ∧ (b = true → k ∈ keys (s ++ m)) := by
 have hm : ∀ x ∈ m, 0 ≤ x.f2 := fun x hx => h.nn x (List.mem_append.2 (.inr hx))
 obtain ⟨h1, h2⟩ := evM_spec n m hm
 have h3 := fun a b => evM_some n m a b hm
 unfold evMr
 revert h1 h2 h3
 generalize evM n m = E
 obtain ⟨m', o⟩ := E
 intro h1 h2 h3
 have hF : From (s ++ m) (s ++ m') := ⟨fun x hx => by
  rcases List.mem_append.1 hx with hx | hx
  ·exact ⟨x, List.mem_append.2 (.inl hx), rfl, rfl, h.nn x (List.mem_append.2 (.inl hx)), Int.le_refl _⟩
  ·obtain ⟨y, hy, r⟩ := h2.each x hx
   exact ⟨y, List.mem_append.2 (.inr hy), r⟩⟩
 have hP : ∀ l : List ByteArray, (keys m).Perm (l ++ keys m') → (keys (s ++ m)).Perm (l ++ keys (s ++ m')) := by
  intro l hp
  rw [keys_append, keys_append]
  refine (List.Perm.append_left _ hp).trans ?_
  rw [← List.append_assoc, ← List.append_assoc]
  exact List.Perm.append_right _ List.perm_append_comm
 cases o with
 | none => exact ⟨m', _, false, rfl, perm_good h (hP _ h1) hF, hP _ h1, hF, fun a b => by have := h3 a b; simp at this, by simp⟩
 | some x => exact ⟨m', x.f0, true, rfl, perm_good h (hP _ h1) hF, hP _ h1, hF, fun _ _ => rfl, fun _ => (hP _ h1).mem_iff.2 (by simp [keys])⟩
/-- Of a right cache that isn't empty one key goes. -/
theorem evicted_spec {cap most : Int} {s m : List It} {g : List Int} (h : Good cap most s m g) (hp : 0 < s.length + m.length) : ∃ s' m' g' k, evicted cap most s m g = (cap, most, s', m', g', k, true) ∧ Good cap most s' m' g' ∧ (keys (s ++ m)).Perm (k :: keys (s' ++ m')) ∧ From (s ++ m) (s' ++ m') ∧ k ∈ keys (s ++ m) := by
 unfold evicted
 by_cases c : (s.length : Int) ≥ most ∨ m = []
 ·rw [if_pos c]
  obtain ⟨s', m', g', k, b, e, hG, hP, hF, hn, hk⟩ := evSr_spec h
  rw [e]
  cases b with
  | true => exact ⟨s', m', g', k, by simp, hG, hP, hF, hk rfl⟩
  | false =>
   rw [if_neg (by simp)]
   obtain rfl := hn rfl
   obtain ⟨m2, k2, b2, e2, hG2, hP2, hF2, hn2, hk2⟩ := evMr_spec (n := wt m' + 1) hG
   have hm' : m' ≠ [] := by
    intro hc
    subst hc
    have : s.length + m.length = 0 := by rw [← List.length_append, ← keys_length]; exact hP.length_eq
    omega
   have hb := hn2 hm' (by omega)
   subst hb
   simp only [e2]
   exact ⟨[], m2, g', k2, rfl, hG2, hP.trans hP2, hF.trans hF2, (hP.mem_iff).2 (by simpa using hk2 rfl)⟩
 ·rw [if_neg c]
  rw [not_or] at c
  obtain ⟨m2, k2, b2, e2, hG2, hP2, hF2, hn2, hk2⟩ := evMr_spec (n := wt m + 1) h
  have hb := hn2 c.2 (by omega)
  subst hb
  exact ⟨s, m2, g, k2, e2, hG2, hP2, hF2, hk2 rfl⟩
end Go.Proofs.Ythnedklbobbkcaa.Q

namespace Go.Proofs.Ythnedklbobbkcaa.Q
open Go.RowKit Go.Proofs.Ythnedklbobbkcaa.G Go.Proofs.Ythnedklbobbkcaa.PL Go.Proofs.YthnedklbobbkcaaW.PrintWords
def opOk (kind : Int) (key val : ByteArray) : Bool := decide (1 ≤ kind) && decide (kind ≤ 3) && itemOk key val 0 && (decide (kind = 2) || decide (val = ⟨#[]⟩))
theorem nil_beq (a : ByteArray) : (a.toList == ([] : List UInt8)) = decide (a = ⟨#[]⟩) := by
 rw [Bool.eq_iff_iff]
 simp [toList_nil]
theorem impl_OpOk_ev (kind : Int) (key val : ByteArray) (h0 : key.size ≤ 140737488351232) (h1 : val.size ≤ 140737488351232) : Ev (fun k => impl_OpOk.f k kind key val) (opOk kind key val) := by
 unfold impl_OpOk.f opOk
 refine Ev.bind (Ev.const (impl_within_eq _ _ _)) ?_
 by_cases a : 1 ≤ kind
 rotate_left
 ·exact Ev.neg (by simp; omega) (Ev.const (by simp [a]))
 by_cases b : kind ≤ 3
 rotate_left
 ·exact Ev.neg (by simp; omega) (Ev.const (by simp [b]))
 refine Ev.pos (by simp; omega) ?_
 refine Ev.bind (impl_ItemOk_ev key val 0 h0 h1) ?_
 cases c : itemOk key val 0
 ·exact Ev.neg (by simp) (Ev.const (by simp))
 refine Ev.pos rfl ?_
 by_cases d : kind = 2
 ·exact Ev.pos d (Ev.const (by simp [d]))
 ·exact Ev.neg d (Ev.const (by rw [nil_beq]; simp [a, b, d]))
/-- The text of an op. -/
def opText (kind : Int) (key val : ByteArray) : ByteArray :=
 if opOk kind key val = true then (if kind = 1 then (⟨#[103, 101, 116, 32]⟩ : ByteArray) ++ key else if kind = 2 then (((⟨#[112, 117, 116, 32]⟩ : ByteArray) ++ key) ++ (⟨#[32]⟩ : ByteArray)) ++ val else (⟨#[100, 114, 111, 112, 32]⟩ : ByteArray) ++ key) else ⟨#[]⟩
theorem impl_OpText_ev (kind : Int) (key val : ByteArray) (h0 : key.size ≤ 140737488351232) (h1 : val.size ≤ 140737488351232) : Ev (fun k => impl_OpText.f k kind key val) (opText kind key val) := by
 unfold impl_OpText.f opText
 refine Ev.bind (impl_OpOk_ev kind key val h0 h1) ?_
 cases c : opOk kind key val
 ·exact Ev.neg (by simp) (Ev.const (by simp))
 refine Ev.pos rfl ?_
 rw [if_pos rfl]
 by_cases a : kind = 1
 ·exact Ev.pos a (Ev.pos (by omega) (Ev.const (by rw [if_pos a])))
 refine Ev.neg a ?_
 by_cases b : kind = 2
 ·exact Ev.pos b (Ev.pos (by omega) (Ev.pos (by omega) (Ev.pos (by omega) (Ev.const (by rw [if_neg a, if_pos b])))))
 exact Ev.neg b (Ev.pos (by omega) (Ev.const (by rw [if_neg a, if_neg b])))
end Go.Proofs.Ythnedklbobbkcaa.Q

namespace Go.Proofs.Ythnedklbobbkcaa.Q
open Go.RowKit Go.Proofs.Ythnedklbobbkcaa.G Go.Proofs.Ythnedklbobbkcaa.PL Go.Proofs.YthnedklbobbkcaaW.PrintWords Go.Proofs.YthnedklbobbkcaaW.PrintLast
theorem Good.bits {cap most : Int} {s m : List It} {g : List Int} (h : Good cap most s m g) : s.length ≤ 60 ∧ m.length ≤ 60 ∧ g.length ≤ 60 ∧ ∀ x ∈ s ++ m, x.f0.size ≤ 20 ∧ x.f1.size ≤ 40 ∧ 0 ≤ x.f2 ∧ x.f2 ≤ 3 := by
 have h1 := h.room
 have h2 := h.cap2
 have h3 := h.gl
 have h4 := h.most1
 refine ⟨by omega, by omega, by omega, fun x hx => ?_⟩
 have := itemOk_iff.1 (h.ok x hx)
 exact ⟨this.1.1.2, this.2.1.1, this.2.2⟩
theorem Good.fs {cap most : Int} {s m : List It} {g : List Int} (h : Good cap most s m g) : s.length ≤ 2097152 ∧ ∀ x ∈ s, x.f0.size ≤ 140737488351232 ∧ x.f1.size ≤ 140737488351232 := by
 obtain ⟨h1, h2, h3, h4⟩ := h.bits
 refine ⟨by omega, fun x hx => ?_⟩
 have := h4 x (List.mem_append.2 (.inl hx))
 omega
theorem Good.fm {cap most : Int} {s m : List It} {g : List Int} (h : Good cap most s m g) : m.length ≤ 2097152 ∧ ∀ x ∈ m, x.f0.size ≤ 140737488351232 ∧ x.f1.size ≤ 140737488351232 := by
 obtain ⟨h1, h2, h3, h4⟩ := h.bits
 refine ⟨by omega, fun x hx => ?_⟩
 have := h4 x (List.mem_append.2 (.inr hx))
 omega
theorem Good.fg {cap most : Int} {s m : List It} {g : List Int} (h : Good cap most s m g) : g.length ≤ 2097152 := by
 have := h.bits
 omega
theorem spec_threeT {cap most : Int} {s m : List It} {g : List Int} (h : Good cap most s m g) : Ev (fun k => spec_ThreeOk.f k cap most s m g) true := Ev.to (spec_ThreeOk_ev cap most s m g h.fs h.fm h.fg) (threeOk_iff.2 h)
theorem spec_l10Copy_eq {cap most : Int} {s m : List It} {g : List Int} (h1 : s.length ≤ 2097152) (h2 : m.length ≤ 2097152) (h3 : g.length ≤ 2097152) : spec_l10Copy.f cap most s m g = some (cap, most, s, m, g) := by
 unfold spec_l10Copy.f
 simp only [List.length_nil, Nat.zero_add, List.nil_append, Option.bind_some]
 rw [if_pos (by omega), if_pos (by omega), if_pos (by omega)]
theorem ghosts_w {cap most : Int} (h0 : 1 ≤ most) (h1 : most ≤ cap) (h2 : cap ≤ 60) : wrap64 (cap - most) = cap - most := w64 (by omega) (by omega)
theorem spec_ghosts_eq {cap most : Int} (s m : List It) (g : List Int) (h0 : 1 ≤ most) (h1 : most ≤ cap) (h2 : cap ≤ 60) : spec_l10Ghosts.f cap most s m g = some (max 1 (cap - most)) := by
 unfold spec_l10Ghosts.f
 rw [ghosts_w h0 h1 h2]
 by_cases c : cap - most < 1
 ·rw [if_pos c]; congr 1; omega
 ·rw [if_neg c]; congr 1; omega
-- taking a number out
theorem spec_l08But_l0 (a : Int) (l : List Int) (hl : l.length ≤ 140737488351) : ∀ (d i : Nat) (acc : List Int), i + d = l.length → acc.length ≤ i → Ev (fun k => spec_l08But.l0 k a acc l (l.length : Int) (i : Int)) (acc ++ (l.drop i).filter (fun y => !(y == a))) := by
 intro d
 induction d with
 | zero =>
  intro i acc hi ha
  rw [List.drop_of_length_le (by omega)]
  refine Ev.step (fun _ => rfl) ?_
  simp only [spec_l08But.l0]
  exact Ev.neg (by omega) (Ev.const (by simp))
 | succ d ih =>
  intro i acc hi ha
  have hx : i < l.length := by omega
  have er : rd l (i : Int) = l[i] := getD_at hx _
  refine Ev.step (fun _ => rfl) ?_
  simp only [spec_l08But.l0]
  rw [er, drop_at hx, wsucc (by omega)]
  refine Ev.pos (by omega) (Ev.pos (by omega) (Ev.pos (by omega) ?_))
  by_cases c : l[i] = a
  ·refine Ev.pos c (Ev.to (ih (i + 1) acc (by omega) (by omega)) ?_)
   rw [List.filter_cons_of_neg (by simp [c])]
  ·refine Ev.neg c (Ev.pos (by omega) (Ev.to (ih (i + 1) (acc ++ [l[i]]) (by omega) (by simp; omega)) ?_))
   rw [List.filter_cons_of_pos (by simp [c]), List.append_assoc]
   rfl
theorem spec_l08But_ev (a : Int) (l : List Int) (hl : l.length ≤ 140737488351) : Ev (fun k => spec_l08But.f k l a) (l.filter (fun y => !(y == a))) := by
 unfold spec_l08But.f
 exact Ev.to (spec_l08But_l0 a l hl l.length 0 [] (by omega) (by simp)) (by simp)
theorem spec_l10Without_l0 (a : ByteArray) (l : List It) (hl : l.length ≤ 140737488351) : ∀ (d i : Nat) (acc : List It), i + d = l.length → acc.length ≤ i → Ev (fun k => spec_l10Without.l0 k a acc l (l.length : Int) (i : Int)) (acc ++ (l.drop i).filter (fun y => !(y.f0.toList == a.toList))) := by
 intro d
 induction d with
 | zero =>
  intro i acc hi ha
  rw [List.drop_of_length_le (by omega)]
  refine Ev.step (fun _ => rfl) ?_
  simp only [spec_l10Without.l0]
  exact Ev.neg (by omega) (Ev.const (by simp))
 | succ d ih =>
  intro i acc hi ha
  have hx : i < l.length := by omega
  have er : rd_T122 l (i : Int) = l[i] := getD_at hx _
  refine Ev.step (fun _ => rfl) ?_
  simp only [spec_l10Without.l0]
  rw [er, drop_at hx, wsucc (by omega)]
  refine Ev.pos (by omega) (Ev.pos (by omega) (Ev.pos (by omega) ?_))
  by_cases c : l[i].f0.toList = a.toList
  ·refine Ev.pos c (Ev.to (ih (i + 1) acc (by omega) (by omega)) ?_)
   rw [List.filter_cons_of_neg (by simp [c])]
  ·refine Ev.neg c (Ev.pos (by omega) (Ev.to (ih (i + 1) (acc ++ [l[i]]) (by omega) (by simp; omega)) ?_))
   rw [List.filter_cons_of_pos (by simp [c]), List.append_assoc]
   rfl
theorem spec_l10Without_ev (a : ByteArray) (l : List It) (hl : l.length ≤ 140737488351) : Ev (fun k => spec_l10Without.f k l a) (l.filter (fun y => !(y.f0.toList == a.toList))) := by
 unfold spec_l10Without.f
 exact Ev.to (spec_l10Without_l0 a l hl l.length 0 [] (by omega) (by simp)) (by simp)
-- what goes
theorem filter_len {α : Type} (p : α → Bool) (l : List α) : (l.filter p).length ≤ l.length := List.length_filter_le p l
theorem spec_l10Haunt_ev {cap most : Int} (s m : List It) (g : List Int) (h : Int) (h0 : 1 ≤ most) (h1 : most ≤ cap) (h2 : cap ≤ 60) (hg : g.length ≤ 1000) : Ev (fun k => spec_l10Haunt.f k cap most s m g h) (cap, most, s, m, haunt cap most g h) := by
 have hf := filter_len (fun y => !(y == h)) g
 unfold spec_l10Haunt.f
 refine Ev.bind (spec_l08But_ev h g (by omega)) (Ev.pos (by omega) ?_)
 simp only [Option.bind_some]
 refine Ev.bind (Ev.const (spec_ghosts_eq s m _ h0 h1 h2)) ?_
 by_cases c : ((g.filter (fun y => !(y == h)) ++ [h]).length : Int) > max 1 (cap - most)
 ·exact Ev.to (Ev.pos c (Ev.pos (by omega) (Ev.const rfl))) (by rw [haunt, if_pos c]; rfl)
 ·exact Ev.to (Ev.neg c (Ev.const rfl)) (by rw [haunt, if_neg c])
theorem spec_EvictSmall_l0 {cap most : Int} (g : List Int) (h0 : 1 ≤ most) (h1 : most ≤ cap) (h2 : cap ≤ 60) (hg : g.length ≤ 1000) : ∀ (s m : List It), s.length + m.length ≤ 1000 → (∀ x ∈ s, x.f0.size ≤ 20) → Ev (fun k => spec_EvictSmall.l0 k cap most s m g) (evSr cap most s m g)
 | [], m, _, _ => by
  refine Ev.step (fun _ => rfl) ?_
  simp only [spec_EvictSmall.l0]
  exact Ev.neg (by simp) (Ev.const rfl)
 | x :: s, m, hl, hz => by
  have ih := fun m' hl' => spec_EvictSmall_l0 g h0 h1 h2 hg s m' hl' (fun y hy => hz y (List.mem_cons_of_mem _ hy))
  rw [List.length_cons] at hl
  have hz0 := hz x List.mem_cons_self
  refine Ev.step (fun _ => rfl) ?_
  simp only [spec_EvictSmall.l0, Option.bind_some]
  have er : rd_T122 (x :: s) 0 = x := rfl
  have ed : [] ++ (x :: s).drop 1 = s := rfl
  rw [er, ed]
  refine Ev.pos (by rw [List.length_cons]; omega) (Ev.pos (by rw [List.length_cons]; omega) (Ev.pos (by rw [List.length_cons]; omega) (Ev.pos (by simp; omega) ?_)))
  by_cases c : x.f2 ≤ 1
  ·refine Ev.pos c ?_
   have c' : ¬ x.f2 > 1 := by omega
   refine Ev.bind (spec_Hash_ev x.f0 (by omega)) ?_
   refine Ev.bind (spec_l10Haunt_ev s m g _ h0 h1 h2 hg) (Ev.const ?_)
   simp only [evSr, evS, if_neg c']
  ·have c' : x.f2 > 1 := by omega
   refine Ev.neg c (Ev.pos (by omega) (Ev.to (ih _ (by simp; omega)) ?_))
   simp only [evSr, evS, if_pos c']
theorem spec_EvictSmall_ev {cap most : Int} {s m : List It} {g : List Int} (h : Good cap most s m g) : Ev (fun k => spec_EvictSmall.f k cap most s m g) (evSr cap most s m g) := by
 obtain ⟨b1, b2, b3, b4⟩ := h.bits
 unfold spec_EvictSmall.f
 refine Ev.bind (spec_threeT h) (Ev.pos rfl ?_)
 refine Ev.bind (Ev.const (spec_l10Copy_eq (by omega) (by omega) (by omega))) ?_
 exact spec_EvictSmall_l0 g h.most1 h.most2 h.cap2 (by omega) s m (by omega) (fun x hx => (b4 x (List.mem_append.2 (.inl hx))).1)
theorem wt_move (x : It) (m : List It) (h0 : 0 ≤ x.f2) (h : ¬ x.f2 = 0) {n : Nat} (hw : wt (x :: m) < n + 1) : wt (m ++ [(⟨x.f0, x.f1, x.f2 - 1⟩ : It)]) < n := by
 rw [wt_append]
 simp only [wt, List.map_cons, List.sum_cons, List.map_nil, List.sum_nil] at hw ⊢
 omega
theorem spec_EvictMain_l0 {cap most : Int} (s : List It) (g : List Int) : ∀ (n : Nat) (m : List It), m.length ≤ 1000 → wt m < n → (∀ x ∈ m, 0 ≤ x.f2 ∧ x.f2 ≤ 3) → Ev (fun k => spec_EvictMain.l0 k cap most s m g) (evMr n cap most s m g)
 | 0, m, _, h, _ => by omega
 | n + 1, [], _, _, _ => by
  refine Ev.step (fun _ => rfl) ?_
  simp only [spec_EvictMain.l0]
  exact Ev.neg (by simp) (Ev.const rfl)
 | n + 1, x :: m, hl, hw, hb => by
  have hx := hb x List.mem_cons_self
  rw [List.length_cons] at hl
  refine Ev.step (fun _ => rfl) ?_
  simp only [spec_EvictMain.l0, Option.bind_some]
  have er : rd_T122 (x :: m) 0 = x := rfl
  have ed : [] ++ (x :: m).drop 1 = m := rfl
  rw [er, ed]
  refine Ev.pos (by rw [List.length_cons]; omega) (Ev.pos (by rw [List.length_cons]; omega) (Ev.pos (by rw [List.length_cons]; omega) (Ev.pos (by simp; omega) ?_)))
  by_cases c : x.f2 = 0
  ·refine Ev.pos c (Ev.const ?_)
   simp only [evMr, evM, if_pos c]
  ·refine Ev.neg c (Ev.pos (by omega) ?_)
   rw [w64 (by omega) (by omega)]
   refine Ev.to (spec_EvictMain_l0 s g n _ (by simp; omega) (wt_move x m hx.1 c hw) ?_) ?_
   ·intro y hy
    rcases List.mem_append.1 hy with hy | hy
    ·exact hb y (List.mem_cons_of_mem _ hy)
    ·rw [List.mem_singleton.1 hy]
     exact ⟨show 0 ≤ x.f2 - 1 by omega, show x.f2 - 1 ≤ 3 by omega⟩
   ·simp only [evMr, evM, if_neg c]
theorem spec_EvictMain_ev {cap most : Int} {s m : List It} {g : List Int} (h : Good cap most s m g) : Ev (fun k => spec_EvictMain.f k cap most s m g) (evMr (wt m + 1) cap most s m g) := by
 obtain ⟨b1, b2, b3, b4⟩ := h.bits
 unfold spec_EvictMain.f
 refine Ev.bind (spec_threeT h) (Ev.pos rfl ?_)
 refine Ev.bind (Ev.const (spec_l10Copy_eq (by omega) (by omega) (by omega))) ?_
 exact spec_EvictMain_l0 s g _ m (by omega) (by omega) (fun x hx => (b4 x (List.mem_append.2 (.inr hx))).2.2)
theorem spec_Evict_j0 {cap most : Int} {s m : List It} {g : List Int} (h : Good cap most s m g) (b : Bool) (hb : b = true ↔ ((s.length : Int) ≥ most ∨ m = [])) : Ev (fun k => spec_Evict.j0 k b cap most s m g) (evicted cap most s m g) := by
 refine Ev.step (fun _ => rfl) ?_
 simp only [spec_Evict.j0]
 unfold evicted
 by_cases c : (s.length : Int) ≥ most ∨ m = []
 ·rw [if_pos c]
  refine Ev.pos (hb.2 c) ?_
  refine Ev.bind (spec_EvictSmall_ev h) ?_
  obtain ⟨s', m', g', k, b', e, hG, _, _, hn, _⟩ := evSr_spec h
  rw [e]
  cases b' with
  | true => exact Ev.pos rfl (Ev.const rfl)
  | false =>
   rw [if_neg (by simp)]
   refine Ev.neg (by simp) ?_
   exact Ev.bind (spec_EvictMain_ev hG) (Ev.const rfl)
 ·rw [if_neg c]
  refine Ev.neg (fun e => c (hb.1 e)) ?_
  exact Ev.bind (spec_EvictMain_ev h) (Ev.const rfl)
theorem nil_len {m : List It} : (((m.length : Int) == 0) = true) ↔ m = [] := by
 rw [beq_iff_eq]
 constructor
 ·intro h; exact List.length_eq_zero_iff.1 (by omega)
 ·rintro rfl; rfl
theorem spec_Evict_ev {cap most : Int} {s m : List It} {g : List Int} (h : Good cap most s m g) : Ev (fun k => spec_Evict.f k cap most s m g) (evicted cap most s m g) := by
 unfold spec_Evict.f
 refine Ev.bind (spec_threeT h) (Ev.pos rfl ?_)
 by_cases c : (s.length : Int) ≥ most
 ·exact Ev.pos c (spec_Evict_j0 h true (by simp [c]))
 ·refine Ev.neg c (spec_Evict_j0 h _ ?_)
  rw [nil_len]
  exact ⟨.inr, fun h => h.resolve_left c⟩
-- what is touched
def more (x : Int) : Int := if x < 3 then x + 1 else 3
theorem more_in {x : Int} (h : 0 ≤ x) : 0 ≤ more x ∧ more x ≤ 3 := by
 unfold more
 by_cases c : x < 3
 ·rw [if_pos c]; omega
 ·rw [if_neg c]; omega
theorem spec_l10More_eq {x : Int} (h0 : 0 ≤ x) (h : x ≤ 3) : spec_l10More.f x = some (more x) := by
 unfold spec_l10More.f more
 by_cases c : x ≥ 3
 ·rw [if_pos c, if_neg (by omega)]
 ·rw [if_neg c, if_pos (by omega), w64 (by omega) (by omega)]
def touch (set : Bool) (val : ByteArray) (x : It) : It := ⟨x.f0, if set = true then val else x.f1, more x.f2⟩
def touchAt (set : Bool) (val : ByteArray) (l : List It) (i : Int) : List It := l.set i.toNat (touch set val (rd_T122 l i))
/-- The cache with the item of a key touched, its value, and whether it is there. -/
def touched (set : Bool) (val key : ByteArray) (cap most : Int) (s m : List It) (g : List Int) : Int × Int × List It × List It × List Int × ByteArray × Bool :=
 if 0 ≤ impl_itemAt.idx key s 0 then (cap, most, touchAt set val s (impl_itemAt.idx key s 0), m, g, (touch set val (rd_T122 s (impl_itemAt.idx key s 0))).f1, true)
 else if 0 ≤ impl_itemAt.idx key m 0 then (cap, most, s, touchAt set val m (impl_itemAt.idx key m 0), g, (touch set val (rd_T122 m (impl_itemAt.idx key m 0))).f1, true)
 else (cap, most, s, m, g, ⟨#[]⟩, false)
theorem rd_mem {l : List It} {i : Int} (h0 : 0 ≤ i) (h1 : i < (l.length : Int)) : rd_T122 l i ∈ l := by
 obtain ⟨j, rfl⟩ : ∃ j : Nat, i = (j : Int) := ⟨i.toNat, by omega⟩
 have hj : j < l.length := by omega
 have er : rd_T122 l (j : Int) = l[j] := getD_at hj _
 rw [er]
 exact List.getElem_mem hj
theorem touchAt_keys (set : Bool) (val : ByteArray) {l : List It} {i : Int} (h0 : 0 ≤ i) (h1 : i < (l.length : Int)) : keys (touchAt set val l i) = keys l := by
 obtain ⟨j, rfl⟩ : ∃ j : Nat, i = (j : Int) := ⟨i.toNat, by omega⟩
 have hj : j < l.length := by omega
 have er : rd_T122 l (j : Int) = l[j] := getD_at hj _
 unfold touchAt keys
 rw [er, Int.toNat_natCast, List.map_set]
 have : (touch set val l[j]).f0 = (l.map (·.f0))[j]'(by simpa using hj) := by simp [touch]
 rw [this, List.set_getElem_self]
theorem touchAt_mem {set : Bool} {val : ByteArray} {l : List It} {i : Int} {x : It} (h : x ∈ touchAt set val l i) : x ∈ l ∨ x = touch set val (rd_T122 l i) := List.mem_or_eq_of_mem_set h
theorem touchAt_len (set : Bool) (val : ByteArray) (l : List It) (i : Int) : (touchAt set val l i).length = l.length := List.length_set
theorem touch_ok {set : Bool} {val : ByteArray} (hv : set = true → val.size ≤ 40 ∧ clean val = true) {x : It} (h : itemOk x.f0 x.f1 x.f2 = true) : itemOk (touch set val x).f0 (touch set val x).f1 (touch set val x).f2 = true := by
 have h' := itemOk_iff.1 h
 rw [itemOk_iff]
 refine ⟨h'.1, ?_, more_in h'.2.2.1⟩
 show (if set = true then val else x.f1).size ≤ 40 ∧ clean (if set = true then val else x.f1) = true
 by_cases c : set = true
 ·rw [if_pos c]; exact hv c
 ·rw [if_neg c]; exact h'.2.1
theorem not_both {cap most : Int} {s m : List It} {g : List Int} (h : Good cap most s m g) {key : ByteArray} (h1 : key ∈ keys s) : key ∉ keys m := fun h2 => by
 have := h.nd
 rw [keys_append, List.nodup_append] at this
 exact this.2.2 _ h1 _ h2 rfl
/-- What a touch leaves: a right cache with the same keys; it tells whether the key is there. -/
theorem touched_spec {cap most : Int} {s m : List It} {g : List Int} (h : Good cap most s m g) (set : Bool) (val key : ByteArray) (hv : set = true → val.size ≤ 40 ∧ clean val = true) : ∃ s' m' v b, touched set val key cap most s m g = (cap, most, s', m', g, v, b) ∧ (b = true ↔ key ∈ keys (s ++ m)) ∧ Good cap most s' m' g ∧ keys s' = keys s ∧ keys m' = keys m := by
 unfold touched
 by_cases c : 0 ≤ impl_itemAt.idx key s 0
 ·rw [if_pos c]
  have hk := touchAt_keys set val c idx_lt
  refine ⟨_, _, _, _, rfl, ⟨fun _ => by rw [keys_append]; exact List.mem_append.2 (.inl (idx_nonneg.1 c)), fun _ => rfl⟩, ?_, hk, rfl⟩
  refine { h with room := by rw [touchAt_len]; exact h.room, ok := ?_, nd := by rw [keys_append, hk, ← keys_append]; exact h.nd }
  intro x hx
  rcases List.mem_append.1 hx with hx | hx
  ·rcases touchAt_mem hx with hx | rfl
   ·exact h.ok x (List.mem_append.2 (.inl hx))
   ·exact touch_ok hv (h.ok _ (List.mem_append.2 (.inl (rd_mem c idx_lt))))
  ·exact h.ok x (List.mem_append.2 (.inr hx))
 ·rw [if_neg c]
  by_cases d : 0 ≤ impl_itemAt.idx key m 0
  ·rw [if_pos d]
   have hk := touchAt_keys set val d idx_lt
   refine ⟨_, _, _, _, rfl, ⟨fun _ => by rw [keys_append]; exact List.mem_append.2 (.inr (idx_nonneg.1 d)), fun _ => rfl⟩, ?_, rfl, hk⟩
   refine { h with room := by rw [touchAt_len]; exact h.room, ok := ?_, nd := by rw [keys_append, hk, ← keys_append]; exact h.nd }
   intro x hx
   rcases List.mem_append.1 hx with hx | hx
   ·exact h.ok x (List.mem_append.2 (.inl hx))
   ·rcases touchAt_mem hx with hx | rfl
    ·exact h.ok x (List.mem_append.2 (.inr hx))
    ·exact touch_ok hv (h.ok _ (List.mem_append.2 (.inr (rd_mem d idx_lt))))
  ·rw [if_neg d]
   refine ⟨s, m, _, _, rfl, ⟨fun e => by simp at e, fun e => ?_⟩, h, rfl, rfl⟩
   rw [keys_append, List.mem_append] at e
   exact absurd e (not_or.2 ⟨idx_neg.1 (by omega), idx_neg.1 (by omega)⟩)
theorem spec_l10Touch_ev {cap most : Int} {s m : List It} {g : List Int} (h : Good cap most s m g) (set : Bool) (val key : ByteArray) : Ev (fun k => spec_l10Touch.f k cap most s m g key set val) (touched set val key cap most s m g) := by
 obtain ⟨b1, b2, b3, b4⟩ := h.bits
 have hs := idx_lt (key := key) (l := s)
 have hm := idx_lt (key := key) (l := m)
 unfold spec_l10Touch.f touched
 refine Ev.bind (spec_l10At_ev s key (by omega)) ?_
 refine Ev.bind (spec_l10At_ev m key (by omega)) ?_
 by_cases c : 0 ≤ impl_itemAt.idx key s 0
 ·have d : impl_itemAt.idx key m 0 < 0 := idx_neg.2 (not_both h (idx_nonneg.1 c))
  have hb := b4 _ (List.mem_append.2 (.inl (rd_mem c hs)))
  rw [if_pos c]
  refine Ev.pos c (Ev.pos c (Ev.pos hs ?_))
  refine Ev.step (fun _ => rfl) ?_
  simp only [spec_l10Touch.j0]
  refine Ev.neg (by omega) ?_
  refine Ev.step (fun _ => rfl) ?_
  simp only [spec_l10Touch.j1]
  refine Ev.neg (by omega) ?_
  refine Ev.step (fun _ => rfl) ?_
  simp only [spec_l10Touch.j2]
  refine Ev.neg (by simp) ?_
  refine Ev.bind (Ev.const (spec_l10More_eq hb.2.2.1 hb.2.2.2)) ?_
  cases set
  ·exact Ev.neg (by simp) (Ev.pos c (Ev.pos c (Ev.pos hs (Ev.const rfl))))
  ·exact Ev.pos rfl (Ev.pos c (Ev.pos c (Ev.pos hs (Ev.const rfl))))
 ·rw [if_neg c]
  refine Ev.neg c ?_
  refine Ev.step (fun _ => rfl) ?_
  simp only [spec_l10Touch.j0]
  by_cases d : 0 ≤ impl_itemAt.idx key m 0
  ·have hb := b4 _ (List.mem_append.2 (.inr (rd_mem d hm)))
   rw [if_pos d]
   refine Ev.pos d (Ev.pos d (Ev.pos hm ?_))
   refine Ev.step (fun _ => rfl) ?_
   simp only [spec_l10Touch.j1]
   refine Ev.pos (by omega) ?_
   refine Ev.step (fun _ => rfl) ?_
   simp only [spec_l10Touch.j2]
   refine Ev.neg (by simp; omega) ?_
   refine Ev.bind (Ev.const (spec_l10More_eq hb.2.2.1 hb.2.2.2)) ?_
   cases set
   ·exact Ev.neg (by simp) (Ev.neg c (Ev.pos d (Ev.pos hm (Ev.const rfl))))
   ·exact Ev.pos rfl (Ev.neg c (Ev.pos d (Ev.pos hm (Ev.const rfl))))
  ·rw [if_neg d]
   refine Ev.neg d ?_
   refine Ev.step (fun _ => rfl) ?_
   simp only [spec_l10Touch.j1]
   refine Ev.pos (by omega) ?_
   refine Ev.step (fun _ => rfl) ?_
   simp only [spec_l10Touch.j2]
   exact Ev.pos (by simp; omega) (Ev.const rfl)
def getT (cap most : Int) (s m : List It) (g : List Int) (key : ByteArray) : Int × Int × List It × List It × List Int × ByteArray × Bool :=
 if threeOk cap most s m g = true then touched false ⟨#[]⟩ key cap most s m g else (0, 0, [], [], [], ⟨#[]⟩, false)
abbrev Fi (l : List It) : Prop := l.length ≤ 2097152 ∧ ∀ x ∈ l, x.f0.size ≤ 140737488351232 ∧ x.f1.size ≤ 140737488351232
theorem spec_Get_ev {cap most : Int} {s m : List It} {g : List Int} (fs : Fi s) (fm : Fi m) (fg : g.length ≤ 2097152) (key : ByteArray) : Ev (fun k => spec_Get.f k cap most s m g key) (getT cap most s m g key) := by
 unfold spec_Get.f
 refine Ev.bind (spec_ThreeOk_ev cap most s m g fs fm fg) ?_
 by_cases c : threeOk cap most s m g = true
 ·refine Ev.pos c ?_
  rw [show getT cap most s m g key = _ from if_pos c]
  refine Ev.bind (Ev.const (spec_l10Copy_eq fs.1 fm.1 fg)) ?_
  exact Ev.bind (spec_l10Touch_ev (threeOk_iff.1 c) false _ key) (Ev.const rfl)
 ·rw [show getT cap most s m g key = _ from if_neg c]
  exact Ev.neg c (Ev.const rfl)
/-- A new item stands behind the others: in Main where its ghost is there. -/
def placed (cap most : Int) (s m : List It) (g : List Int) (key val : ByteArray) (gone : List ByteArray) : Int × Int × List It × List It × List Int × List ByteArray × Bool :=
 if hash key ∈ g then (cap, most, s, m ++ [⟨key, val, 0⟩], g.filter (fun y => !(y == hash key)), gone, true) else (cap, most, s ++ [⟨key, val, 0⟩], m, g, gone, true)
def putNew (cap most : Int) (s m : List It) (g : List Int) (key val : ByteArray) : Int × Int × List It × List It × List Int × List ByteArray × Bool :=
 if (s.length : Int) + (m.length : Int) ≥ cap then placed (evicted cap most s m g).1 (evicted cap most s m g).2.1 (evicted cap most s m g).2.2.1 (evicted cap most s m g).2.2.2.1 (evicted cap most s m g).2.2.2.2.1 key val [(evicted cap most s m g).2.2.2.2.2.1]
 else placed cap most s m g key val []
/-- What Put answers. -/
def putT (cap most : Int) (s m : List It) (g : List Int) (key val : ByteArray) : Int × Int × List It × List It × List Int × List ByteArray × Bool :=
 if threeOk cap most s m g = true ∧ itemOk key val 0 = true then
  if (touched true val key cap most s m g).2.2.2.2.2.2 = true then ((touched true val key cap most s m g).1, (touched true val key cap most s m g).2.1, (touched true val key cap most s m g).2.2.1, (touched true val key cap most s m g).2.2.2.1, (touched true val key cap most s m g).2.2.2.2.1, [], true)
  else putNew cap most s m g key val
 else (0, 0, [], [], [], [], false)
theorem spec_Put_end {cap most : Int} {s m : List It} {g : List Int} {key val : ByteArray} (gone : List ByteArray) (hs : s.length ≤ 1000) (hm : m.length ≤ 1000) (hg : g.length ≤ 1000) (hc : (s.length : Int) + (m.length : Int) < cap) (hk : key.size ≤ 140737488351232) : Ev (fun k => spec_Put.l0 k key val gone cap most s m g) (placed cap most s m g key val gone) := by
 refine Ev.step (fun _ => rfl) ?_
 simp only [spec_Put.l0]
 rw [w64 (by omega) (by omega)]
 refine Ev.neg (by omega) ?_
 refine Ev.bind (spec_Hash_ev key hk) ?_
 refine Ev.bind (spec_l03Has_ev g _ (by omega)) ?_
 by_cases c : hash key ∈ g
 ·rw [show placed cap most s m g key val gone = _ from if_pos c]
  refine Ev.pos (decide_eq_true c) ?_
  refine Ev.bind (spec_Hash_ev key hk) ?_
  exact Ev.bind (spec_l08But_ev _ g (by omega)) (Ev.pos (by omega) (Ev.const rfl))
 ·rw [show placed cap most s m g key val gone = _ from if_neg c]
  exact Ev.neg (by simp [c]) (Ev.pos (by omega) (Ev.const rfl))
theorem evicted_room {s m s' m' : List It} {k : ByteArray} (hP : (keys (s ++ m)).Perm (k :: keys (s' ++ m'))) : s'.length + m'.length + 1 = s.length + m.length := by
 have := hP.length_eq
 simp only [List.length_cons, keys_length, List.length_append] at this
 omega
theorem spec_Put_new {cap most : Int} {s m : List It} {g : List Int} (h : Good cap most s m g) {key val : ByteArray} (hk : key.size ≤ 140737488351232) : Ev (fun k => spec_Put.l0 k key val [] cap most s m g) (putNew cap most s m g key val) := by
 obtain ⟨b1, b2, b3, b4⟩ := h.bits
 have hr := h.room
 by_cases c : (s.length : Int) + (m.length : Int) ≥ cap
 ·rw [show putNew cap most s m g key val = _ from if_pos c]
  refine Ev.step (fun _ => rfl) ?_
  simp only [spec_Put.l0]
  rw [w64 (by omega) (by omega)]
  refine Ev.pos (by omega) ?_
  refine Ev.bind (spec_Evict_ev h) ?_
  have h1 := h.cap1
  obtain ⟨s', m', g', k, e, hG, hP, _⟩ := evicted_spec h (by omega)
  rw [e]
  have hl := evicted_room hP
  obtain ⟨b1', b2', b3', b4'⟩ := hG.bits
  exact Ev.pos (by simp) (spec_Put_end (cap := cap) (most := most) (s := s') (m := m') (g := g') [k] (by omega) (by omega) (by omega) (by omega) hk)
 ·rw [show putNew cap most s m g key val = _ from if_neg c]
  exact spec_Put_end [] (by omega) (by omega) (by omega) (by omega) hk
theorem spec_Put_j0 {cap most : Int} {s m : List It} {g : List Int} {key val : ByteArray} (fs : Fi s) (fm : Fi m) (fg : g.length ≤ 2097152) (hk : key.size ≤ 140737488351232) (b : Bool) (hb : b = false ↔ (threeOk cap most s m g = true ∧ itemOk key val 0 = true)) : Ev (fun k => spec_Put.j0 k key val b cap most s m g) (putT cap most s m g key val) := by
 refine Ev.step (fun _ => rfl) ?_
 simp only [spec_Put.j0]
 cases b with
 | true =>
  rw [show putT cap most s m g key val = _ from if_neg (fun c => by simpa using hb.2 c)]
  exact Ev.pos rfl (Ev.const rfl)
 | false =>
  have hc := hb.1 rfl
  have h := threeOk_iff.1 hc.1
  rw [show putT cap most s m g key val = _ from if_pos hc]
  refine Ev.neg (by simp) ?_
  refine Ev.bind (Ev.const (spec_l10Copy_eq fs.1 fm.1 fg)) ?_
  refine Ev.bind (spec_l10Touch_ev h true val key) ?_
  by_cases c : 0 ≤ impl_itemAt.idx key s 0
  ·rw [show touched true val key cap most s m g = _ from if_pos c]
   exact Ev.pos rfl (Ev.const rfl)
  ·by_cases d : 0 ≤ impl_itemAt.idx key m 0
   ·rw [show touched true val key cap most s m g = _ from (if_neg c).trans (if_pos d)]
    exact Ev.pos rfl (Ev.const rfl)
   ·rw [show touched true val key cap most s m g = _ from (if_neg c).trans (if_neg d)]
    rw [if_neg (by simp)]
    exact Ev.neg (by simp) (spec_Put_new h hk)
theorem spec_Put_ev {cap most : Int} {s m : List It} {g : List Int} {key val : ByteArray} (fs : Fi s) (fm : Fi m) (fg : g.length ≤ 2097152) (hk : key.size ≤ 140737488351232) (hv : val.size ≤ 140737488351232) : Ev (fun k => spec_Put.f k cap most s m g key val) (putT cap most s m g key val) := by
 unfold spec_Put.f
 refine Ev.bind (spec_ThreeOk_ev cap most s m g fs fm fg) ?_
 by_cases c : threeOk cap most s m g = true
 ·refine Ev.pos c (Ev.bind (spec_ItemOk_ev key val 0 hk hv) ?_)
  exact spec_Put_j0 fs fm fg hk _ (by simp [c])
 ·exact Ev.neg c (spec_Put_j0 fs fm fg hk true (by simp [c]))
theorem placed_good {cap most : Int} {s m : List It} {g : List Int} (h : Good cap most s m g) {key val : ByteArray} (hi : itemOk key val 0 = true) (hn : key ∉ keys (s ++ m)) (hr : (s.length : Int) + (m.length : Int) < cap) (gone : List ByteArray) : ∃ s' m' g', placed cap most s m g key val gone = (cap, most, s', m', g', gone, true) ∧ Good cap most s' m' g' ∧ (keys (s' ++ m')).Perm (key :: keys (s ++ m)) := by
 have hnd : (key :: keys (s ++ m)).Nodup := List.nodup_cons.2 ⟨hn, h.nd⟩
 unfold placed
 by_cases c : hash key ∈ g
 ·rw [if_pos c]
  have hp : (keys (s ++ (m ++ [⟨key, val, 0⟩]))).Perm (key :: keys (s ++ m)) := by
   rw [← List.append_assoc, keys_append]
   exact List.perm_append_comm (l₂ := [key])
  have hf := filter_len (fun y => !(y == hash key)) g
  refine ⟨_, _, _, rfl, { h with room := by simp; omega, gl := by have := h.gl; omega, ok := ?_, nd := hp.nodup_iff.2 hnd, nums := fun n hm => h.nums n (List.mem_filter.1 hm).1, gnd := h.gnd.filter _ }, hp⟩
  intro x hx
  rw [← List.append_assoc] at hx
  rcases List.mem_append.1 hx with hx | hx
  ·exact h.ok x hx
  ·rw [List.mem_singleton.1 hx]; exact hi
 ·rw [if_neg c]
  have hp : (keys ((s ++ [⟨key, val, 0⟩]) ++ m)).Perm (key :: keys (s ++ m)) := by
   rw [List.append_assoc, keys_append, keys_append, keys_append]
   exact List.perm_middle
  refine ⟨_, _, _, rfl, { h with room := by simp; omega, ok := ?_, nd := hp.nodup_iff.2 hnd }, hp⟩
  intro x hx
  rcases List.mem_append.1 hx with hx | hx
  ·rcases List.mem_append.1 hx with hx | hx
   ·exact h.ok x (List.mem_append.2 (.inl hx))
   ·rw [List.mem_singleton.1 hx]; exact hi
  ·exact h.ok x (List.mem_append.2 (.inr hx))
/-- What Put leaves of a right cache. -/
theorem putT_spec {cap most : Int} {s m : List It} {g : List Int} (h : Good cap most s m g) {key val : ByteArray} (hi : itemOk key val 0 = true) : ∃ s' m' g' gone, putT cap most s m g key val = (cap, most, s', m', g', gone, true) ∧ Good cap most s' m' g' ∧
  ((key ∈ keys (s ++ m) ∧ gone = [] ∧ keys (s' ++ m') = keys (s ++ m)) ∨ (key ∉ keys (s ++ m) ∧ (s.length : Int) + (m.length : Int) < cap ∧ gone = [] ∧ (keys (s' ++ m')).Perm (key :: keys (s ++ m))) ∨
   (key ∉ keys (s ++ m) ∧ (s.length : Int) + (m.length : Int) = cap ∧ ∃ k rest, gone = [k] ∧ k ∈ keys (s ++ m) ∧ (keys (s ++ m)).Perm (k :: rest) ∧ (keys (s' ++ m')).Perm (key :: rest))) := by
 have hv := (itemOk_iff.1 hi).2.1
 have hr := h.room
 have hc1 := h.cap1
 obtain ⟨s', m', v, b, e, hb, hG, k1, k2⟩ := touched_spec h true val key (fun _ => hv)
 rw [show putT cap most s m g key val = _ from if_pos ⟨threeOk_iff.2 h, hi⟩, e]
 by_cases hk : key ∈ keys (s ++ m)
 ·rw [if_pos (hb.2 hk)]
  exact ⟨s', m', g, [], rfl, hG, .inl ⟨hk, rfl, by rw [keys_append, keys_append, k1, k2]⟩⟩
 ·rw [if_neg (fun c => hk (hb.1 c))]
  unfold putNew
  by_cases c : (s.length : Int) + (m.length : Int) ≥ cap
  ·rw [if_pos c]
   obtain ⟨s2, m2, g2, k, e2, hG2, hP2, hF2, hk2⟩ := evicted_spec h (by omega)
   have hl := evicted_room hP2
   rw [e2]
   obtain ⟨s3, m3, g3, e3, hG3, hP3⟩ := placed_good hG2 hi (fun hm => hk (hP2.mem_iff.2 (List.mem_cons_of_mem _ hm))) (by omega) [k]
   exact ⟨s3, m3, g3, [k], e3, hG3, .inr (.inr ⟨hk, by omega, k, _, rfl, hk2, hP2, hP3⟩)⟩
  ·rw [if_neg c]
   obtain ⟨s3, m3, g3, e3, hG3, hP3⟩ := placed_good h hi hk (by omega) []
   exact ⟨s3, m3, g3, [], e3, hG3, .inr (.inl ⟨hk, by omega, rfl, hP3⟩)⟩
/-- A list without the item of a key. -/
def without (key : ByteArray) (l : List It) : List It := l.filter (fun y => !(y.f0.toList == key.toList))
/-- What Drop answers. -/
def dropT (cap most : Int) (s m : List It) (g : List Int) (key : ByteArray) : Int × Int × List It × List It × List Int × Bool :=
 if threeOk cap most s m g = true then (cap, most, without key s, without key m, g, decide (((without key s).length : Int) + ((without key m).length : Int) < (s.length : Int) + (m.length : Int))) else (0, 0, [], [], [], false)
theorem without_len (key : ByteArray) (l : List It) : (without key l).length ≤ l.length := filter_len _ l
theorem spec_Drop_ev {cap most : Int} {s m : List It} {g : List Int} (fs : Fi s) (fm : Fi m) (fg : g.length ≤ 2097152) (key : ByteArray) : Ev (fun k => spec_Drop.f k cap most s m g key) (dropT cap most s m g key) := by
 have h1 := without_len key s
 have h2 := without_len key m
 have e1 := fs.1
 have e2 := fm.1
 unfold spec_Drop.f
 refine Ev.bind (spec_ThreeOk_ev cap most s m g fs fm fg) ?_
 by_cases c : threeOk cap most s m g = true
 ·rw [show dropT cap most s m g key = _ from if_pos c]
  refine Ev.pos c ?_
  refine Ev.bind (Ev.const (spec_l10Copy_eq fs.1 fm.1 fg)) ?_
  refine Ev.bind (spec_l10Without_ev key s (by omega)) ?_
  refine Ev.bind (spec_l10Without_ev key m (by omega)) (Ev.const ?_)
  show some (cap, most, without key s, without key m, g, decide (wrap64 (((without key s).length : Int) + ((without key m).length : Int)) < wrap64 ((s.length : Int) + (m.length : Int)))) = _
  rw [w64 (by omega) (by omega), w64 (by omega) (by omega)]
 ·rw [show dropT cap most s m g key = _ from if_neg c]
  exact Ev.neg c (Ev.const rfl)
theorem without_append (key : ByteArray) (a b : List It) : without key (a ++ b) = without key a ++ without key b := List.filter_append ..
theorem without_not {key : ByteArray} : ∀ {l : List It}, key ∉ keys l → without key l = l
 | [], _ => rfl
 | x :: r, h => by
  rw [keys_cons, List.mem_cons, not_or] at h
  unfold without
  rw [List.filter_cons_of_pos (by simp [bytes_eq]; exact fun e => h.1 e.symm)]
  exact congrArg _ (without_not h.2)
theorem without_key (key : ByteArray) (l : List It) : key ∉ keys (without key l) := fun h => by
 obtain ⟨x, hx, e⟩ := mem_keys.1 h
 have := (List.mem_filter.1 hx).2
 simp [e] at this
theorem without_one {key : ByteArray} : ∀ {l : List It}, (keys l).Nodup → key ∈ keys l → (without key l).length + 1 = l.length
 | [], _, h => by simp [keys] at h
 | x :: r, hn, h => by
  rw [keys_cons, List.nodup_cons] at hn
  rw [keys_cons, List.mem_cons] at h
  by_cases c : x.f0 = key
  ·have : without key (x :: r) = without key r := by unfold without; rw [List.filter_cons_of_neg (by simp [c])]
   rw [this, without_not (by rw [← c]; exact hn.1), List.length_cons]
  ·have : without key (x :: r) = x :: without key r := by unfold without; rw [List.filter_cons_of_pos (by simp [bytes_eq, c])]
   rw [this, List.length_cons, List.length_cons, without_one hn.2 (h.resolve_left (fun e => c e.symm))]
/-- What Drop leaves of a right cache. -/
theorem dropT_spec {cap most : Int} {s m : List It} {g : List Int} (h : Good cap most s m g) (key : ByteArray) : ∃ s' m' b, dropT cap most s m g key = (cap, most, s', m', g, b) ∧ Good cap most s' m' g ∧ key ∉ keys (s' ++ m') ∧ (b = true ↔ key ∈ keys (s ++ m)) ∧ (key ∈ keys (s ++ m) → s'.length + m'.length + 1 = s.length + m.length) ∧ (key ∉ keys (s ++ m) → s'.length + m'.length = s.length + m.length) ∧ (∀ x, x ∈ s' ++ m' → x ∈ s ++ m) := by
 have h1 := without_len key s
 have h2 := without_len key m
 have hr := h.room
 have el : (without key s).length + (without key m).length = (without key (s ++ m)).length := by rw [without_append, List.length_append]
 have hsub : ∀ x, x ∈ without key s ++ without key m → x ∈ s ++ m := by
  intro x hx
  rw [← without_append] at hx
  exact (List.mem_filter.1 hx).1
 have hone : key ∈ keys (s ++ m) → (without key s).length + (without key m).length + 1 = s.length + m.length := fun hk => by rw [el, without_one h.nd hk, List.length_append]
 have hnot : key ∉ keys (s ++ m) → (without key s).length + (without key m).length = s.length + m.length := fun hk => by rw [el, without_not hk, List.length_append]
 refine ⟨without key s, without key m, _, if_pos (threeOk_iff.2 h), { h with room := by omega, ok := fun x hx => h.ok x (hsub x hx), nd := ?_ }, ?_, ?_, hone, hnot, hsub⟩
 ·rw [← without_append]
  exact h.nd.sublist (List.Sublist.map _ List.filter_sublist)
 ·rw [← without_append]; exact without_key key _
 ·rw [decide_eq_true_eq]
  constructor
  ·intro hl
   by_cases hk : key ∈ keys (s ++ m)
   ·exact hk
   ·have := hnot hk; omega
  ·intro hk
   have := hone hk; omega
def drawKeys : List ByteArray := [(⟨#[97]⟩ : ByteArray), (⟨#[98]⟩ : ByteArray), (⟨#[99]⟩ : ByteArray), (⟨#[100]⟩ : ByteArray), (⟨#[101]⟩ : ByteArray), (⟨#[102]⟩ : ByteArray), (⟨#[103]⟩ : ByteArray), (⟨#[104]⟩ : ByteArray)]
def drawVals : List ByteArray := [(⟨#[49]⟩ : ByteArray), (⟨#[50]⟩ : ByteArray), (⟨#[51]⟩ : ByteArray), (⟨#[]⟩ : ByteArray), (⟨#[120]⟩ : ByteArray)]
theorem draw_ok : ∀ k ∈ drawKeys, ∀ v ∈ drawVals, itemOk k v 0 = true := by
 intro k hk v hv
 simp only [drawKeys, drawVals, List.mem_cons, List.not_mem_nil, or_false] at hk hv
 rcases hk with rfl | rfl | rfl | rfl | rfl | rfl | rfl | rfl <;> rcases hv with rfl | rfl | rfl | rfl | rfl <;> decide
theorem l10Key_ex (b : List Int) (i h : Int) (hb : b.length ≤ 1048576) (hi : 0 ≤ i) : ∃ (s : ByteArray) (i' h' : Int), spec_l10Key.f b i h = some (s, i', h') ∧ s ∈ drawKeys ∧ 0 ≤ i' := by
 obtain ⟨s, i', h', e, hs, hi'⟩ := l01Of_ex b i h drawKeys hb hi (by decide) (by decide)
 refine ⟨s, i', h', ?_, hs, hi'⟩
 unfold spec_l10Key.f
 show (spec_l01Of.f b i h drawKeys).bind _ = _
 rw [e]
 rfl
theorem l10Val_ex (b : List Int) (i h : Int) (hb : b.length ≤ 1048576) (hi : 0 ≤ i) : ∃ (s : ByteArray) (i' h' : Int), spec_l10Val.f b i h = some (s, i', h') ∧ s ∈ drawVals ∧ 0 ≤ i' := by
 obtain ⟨s, i', h', e, hs, hi'⟩ := l01Of_ex b i h drawVals hb hi (by decide) (by decide)
 refine ⟨s, i', h', ?_, hs, hi'⟩
 unfold spec_l10Val.f
 show (spec_l01Of.f b i h drawVals).bind _ = _
 rw [e]
 rfl
theorem draw_size {k v : ByteArray} (hk : k ∈ drawKeys) (hv : v ∈ drawVals) : k.size ≤ 140737488351232 ∧ v.size ≤ 140737488351232 := by
 have := itemOk_iff.1 (draw_ok k hk v hv)
 omega
theorem nil_val : (⟨#[]⟩ : ByteArray) ∈ drawVals := by simp [drawVals]
theorem three_new {cap most : Int} (h0 : 1 ≤ cap) (h1 : cap ≤ 60) (h2 : 1 ≤ most) (h3 : most ≤ cap) : Good cap most [] [] [] :=
 ⟨h0, h1, h2, h3, by simp; omega, by simp; omega, by simp, by simp [keys], by simp, by simp⟩
theorem spec_ThreeNew_ev {cap most : Int} (h : Good cap most [] [] []) : Ev (fun k => spec_ThreeNew.f k cap most) (cap, most, [], [], [], true) := by
 unfold spec_ThreeNew.f
 exact Ev.bind (spec_threeT h) (Ev.pos rfl (Ev.const rfl))
/-- A drawn op. -/
def DrawnOp (o : S43) : Prop := (o.f0 = 1 ∨ o.f0 = 2 ∨ o.f0 = 3) ∧ o.f1 ∈ drawKeys ∧ o.f2 ∈ drawVals ∧ (o.f0 = 2 ∨ o.f2 = ⟨#[]⟩)
theorem drawnOp_ok {o : S43} (h : DrawnOp o) : opOk o.f0 o.f1 o.f2 = true := by
 obtain ⟨h1, h2, h3, h4⟩ := h
 simp only [opOk, Bool.and_eq_true, Bool.or_eq_true, decide_eq_true_eq]
 exact ⟨⟨⟨by omega, by omega⟩, draw_ok _ h2 _ h3⟩, h4⟩
theorem l16Op_ex (b : List Int) (i h : Int) (hb : b.length ≤ 1048576) (hi : 0 ≤ i) : ∃ (o : S43) (i' h' : Int), spec_l16Op.f b i h = some (o.f0, o.f1, o.f2, i', h') ∧ DrawnOp o ∧ 0 ≤ i' := by
 obtain ⟨x, i1, h1, e1, x0, x1, _, hi1⟩ := l01Below_ex b i h 3 hb hi (by omega)
 have x1 := x1 (by omega)
 obtain ⟨key, i2, h2, e2, hk, hi2⟩ := l10Key_ex b i1 h1 hb hi1
 unfold spec_l16Op.f
 rw [e1, Option.bind_some]
 simp only
 rw [e2, Option.bind_some, w64 (by omega) (by omega)]
 by_cases c : 1 + x = 2
 ·obtain ⟨val, i3, h3, e3, hv, hi3⟩ := l10Val_ex b i2 h2 hb hi2
  simp only
  rw [if_pos c, e3, Option.bind_some]
  exact ⟨⟨1 + x, key, val⟩, i3, h3, rfl, ⟨.inr (.inl c), hk, hv, .inl c⟩, hi3⟩
 ·simp only
  rw [if_neg c]
  exact ⟨⟨1 + x, key, ⟨#[]⟩⟩, i2, h2, rfl, ⟨by show 1 + x = 1 ∨ 1 + x = 2 ∨ 1 + x = 3; omega, hk, nil_val, .inr rfl⟩, hi2⟩
theorem l16Ops_l0 (b : List Int) (hb : b.length ≤ 1048576) : ∀ (n : Nat), n ≤ 1000 → ∀ (l : List S43) (i h : Int), l.length + n ≤ 1000 → (∀ o ∈ l, DrawnOp o) → 0 ≤ i → ∃ l' i' h', Ev (fun k => spec_l16Ops.l0 k l (n : Int) b i h) (l', i', h') ∧ l'.length = l.length + n ∧ (∀ o ∈ l', DrawnOp o) ∧ 0 ≤ i'
 | 0, _, l, i, h, _, ho, hi => by
  refine ⟨l, i, h, Ev.step (fun _ => rfl) ?_, rfl, ho, hi⟩
  simp only [spec_l16Ops.l0]
  exact Ev.neg (by omega) (Ev.const rfl)
 | n + 1, hn, l, i, h, hl, ho, hi => by
  obtain ⟨o, i1, h1, e1, hd, hi1⟩ := l16Op_ex b i h hb hi
  obtain ⟨l2, i2, h2, e2, hl2, ho2, hi2⟩ := l16Ops_l0 b hb n (by omega) (l ++ [o]) i1 h1 (by simp; omega) (fun y hy => by
   rcases List.mem_append.1 hy with hy | hy
   ·exact ho y hy
   ·rw [List.mem_singleton.1 hy]; exact hd) hi1
  refine ⟨l2, i2, h2, Ev.step (fun _ => rfl) ?_, by rw [hl2]; simp; omega, ho2, hi2⟩
  simp only [spec_l16Ops.l0]
  refine Ev.pos (by omega) (Ev.bind (Ev.const e1) (Ev.pos (by omega) ?_))
  rw [show wrap64 (((n + 1 : Nat) : Int) - 1) = (n : Int) from by rw [w64 (by omega) (by omega)]; omega]
  exact e2
theorem spec_MakeOps_ex (b : List Int) (hb : b.length ≤ 1048576) (most : Int) (h0 : 0 ≤ most) (h1 : most ≤ 255) : ∃ l, Ev (fun k => spec_MakeOps.f k b most) l ∧ l.length ≤ 255 ∧ ∀ o ∈ l, DrawnOp o := by
 obtain ⟨h, e⟩ := l01New_ev b hb
 obtain ⟨z, i3, h3, e3, z0, z1, _, hi3⟩ := l01Below_ex b 0 (wrap64 (h + 91)) (most + 1) hb (by omega) (by omega)
 have z1 := z1 (by omega)
 obtain ⟨n, rfl⟩ := Int.eq_ofNat_of_zero_le z0
 obtain ⟨l, i', h', e4, hl, ho, _⟩ := l16Ops_l0 b hb n (by omega) [] i3 h3 (by simp; omega) (by simp) hi3
 refine ⟨l, ?_, by rw [hl]; simp; omega, ho⟩
 have e5 : Ev (fun k => spec_l16Ops.f k b 0 (wrap64 (h + 91)) most) (l, i', h') := by
  unfold spec_l16Ops.f
  rw [w64 (x := most + 1) (by omega) (by omega)]
  exact Ev.bind (Ev.const e3) e4
 unfold spec_MakeOps.f
 exact Ev.bind e (Ev.bind e5 (Ev.const rfl))
end Go.Proofs.Ythnedklbobbkcaa.Q

namespace Go.Proofs.Ythnedklbobbkcaa.Q
open Go.RowKit Go.Proofs.Ythnedklbobbkcaa.G Go.Proofs.Ythnedklbobbkcaa.PL Go.Proofs.YthnedklbobbkcaaW.PrintWords
def dg (n : Nat) : ByteArray := strOfNums [(48 + (n : Int))]
def dec (n : Nat) : ByteArray := if n < 10 then dg n else dec (n / 10) ++ dg (n % 10)
termination_by n
decreasing_by omega
theorem strOfNums_size1 (x : Int) : (strOfNums [x]).size = 1 := by simp [strOfNums, ByteArray.size]
theorem dg_size (n : Nat) : (dg n).size = 1 := strOfNums_size1 _
theorem dec_small {n : Nat} (h : n < 10) : dec n = dg n := by rw [dec, if_pos h]
theorem dec_big {n : Nat} (h : ¬ n < 10) : dec n = dec (n / 10) ++ dg (n % 10) := by rw [dec, if_neg h]
theorem dec_size : ∀ (m n : Nat), n < 10 ^ (m + 1) → 1 ≤ (dec n).size ∧ (dec n).size ≤ m + 1
 | 0, n, h => by rw [dec_small (by simpa using h), dg_size]; omega
 | m + 1, n, h => by
  by_cases c : n < 10
  ·rw [dec_small c, dg_size]; omega
  ·rw [dec_big c, ByteArray.size_append, dg_size]
   have := dec_size m (n / 10) (by rw [Nat.pow_succ] at h; omega)
   omega
theorem dec_size10 {n : Nat} (h : n ≤ 4294967295) : 1 ≤ (dec n).size ∧ (dec n).size ≤ 10 := dec_size 9 n (by omega)
theorem dig_w {n : Nat} (h : n < 10) : wrap64 (48 + (n : Int)) % 256 = 48 + (n : Int) := by rw [w64 (by omega) (by omega)]; omega
theorem tdiv10 (n : Nat) : Int.tdiv (n : Int) 10 = ((n / 10 : Nat) : Int) := by
 rw [Int.tdiv_eq_ediv_of_nonneg (by omega)]; omega
theorem tmod10 (n : Nat) : Int.tmod (n : Int) 10 = ((n % 10 : Nat) : Int) := by
 rw [Int.tmod_eq_emod_of_nonneg (by omega)]; omega
def numText (a : Int) : ByteArray := if isNum a = true then dec a.toNat else ⟨#[]⟩
theorem impl_NumText_nat : ∀ (m n : Nat) (y : ByteArray), n < 10 ^ (m + 1) → n ≤ 4294967295 → y.size + m ≤ 1000 → Ev (fun k => impl_NumText.l0 k (n : Int) y) (dec n ++ y) := by
 intro m
 induction m with
 | zero =>
  intro n y h hb hy
  have hz : (strOfNums [48 + (n : Int)]).size = 1 := strOfNums_size1 _
  refine Ev.step (fun _ => rfl) ?_
  simp only [impl_NumText.l0]
  refine Ev.neg (by simp at h; omega) ?_
  rw [dig_w (by simpa using h), dec_small (by simpa using h)]
  refine Ev.bind (Ev.const rfl) ?_
  exact Ev.pos (by omega) (Ev.const rfl)
 | succ m ih =>
  intro n y h hb hy
  refine Ev.step (fun _ => rfl) ?_
  simp only [impl_NumText.l0]
  by_cases c : n < 10
  ·have hz : (strOfNums [48 + (n : Int)]).size = 1 := strOfNums_size1 _
   refine Ev.neg (by omega) ?_
   rw [dig_w c, dec_small c]
   refine Ev.bind (Ev.const rfl) ?_
   exact Ev.pos (by omega) (Ev.const rfl)
  ·refine Ev.pos (by omega) ?_
   rw [tdiv10, tmod10, dig_w (by omega), w64 (x := ((n / 10 : Nat) : Int)) (by omega) (by omega), dec_big c]
   have hz : (strOfNums [48 + ((n % 10 : Nat) : Int)]).size = 1 := strOfNums_size1 _
   refine Ev.bind (Ev.const rfl) ?_
   refine Ev.pos (by omega) ?_
   refine Ev.to (ih (n / 10) _ (by rw [Nat.pow_succ] at h; omega) (by omega) (by rw [ByteArray.size_append, hz]; omega)) ?_
   rw [ByteArray.append_assoc]; rfl
theorem impl_NumText_ev (a : Int) : Ev (fun k => impl_NumText.f k a) (numText a) := by
 unfold impl_NumText.f numText
 refine Ev.bind (Ev.const (impl_isNum_eq a)) ?_
 cases c : isNum a
 ·exact Ev.neg (by simp) (Ev.const (by simp))
 ·have h : 0 ≤ a ∧ a ≤ 4294967295 := by simpa [isNum] using c
  obtain ⟨n, rfl⟩ := Int.eq_ofNat_of_zero_le h.1
  refine Ev.pos rfl ?_
  refine Ev.to (impl_NumText_nat 9 n ⟨#[]⟩ (by omega) (by omega) (by rw [show (⟨#[]⟩ : ByteArray).size = 0 from rfl]; omega)) ?_
  rw [append_empty, if_pos rfl, Int.toNat_natCast]
theorem numText_size (a : Int) : (numText a).size ≤ 10 := by
 unfold numText
 cases c : isNum a
 ·exact Nat.zero_le _
 ·have h : 0 ≤ a ∧ a ≤ 4294967295 := by simpa [isNum] using c
  exact (dec_size10 (by omega)).2
theorem numText_nil (a : Int) : numText a = ⟨#[]⟩ ↔ isNum a = false := by
 unfold numText
 cases c : isNum a
 ·simp
 ·have h : 0 ≤ a ∧ a ≤ 4294967295 := by simpa [isNum] using c
  rw [if_pos rfl]
  constructor
  ·intro e
   have := (dec_size10 (n := a.toNat) (by omega)).1
   rw [e] at this
   exact absurd this (by decide)
  ·intro e; cases e
def cmdAlone (kind a b opk : Int) (key val : ByteArray) (asks : List ByteArray) : Bool :=
 (decide (kind = 1) || decide (kind = 6) || decide (a = 0)) && (decide (kind = 1) || decide (b = 0)) && (decide (kind = 2) || (decide (opk = 0) && decide (key = ⟨#[]⟩) && decide (val = ⟨#[]⟩))) && (decide (kind = 3) || decide (asks = []))
def kwNew : ByteArray := ⟨#[110, 101, 119]⟩
def sp : ByteArray := ⟨#[32]⟩
def cmdText (kind a b opk : Int) (key val : ByteArray) (asks : List ByteArray) : ByteArray :=
 if cmdAlone kind a b opk key val asks = true then
  if kind = 1 then (if isNum a = true ∧ isNum b = true then (((kwNew ++ sp) ++ numText a) ++ sp) ++ numText b else ⟨#[]⟩)
  else if kind = 2 then opText opk key val
  else if kind = 3 then (if asksOk asks = true ∧ asks ≠ [] then (⟨#[97, 115, 107, 32]⟩ : ByteArray) ++ asksText asks else ⟨#[]⟩)
  else if kind = 4 then ⟨#[115, 104, 111, 119]⟩
  else if kind = 5 then ⟨#[114, 97, 116, 101]⟩
  else if kind = 6 then (if isNum a = true then (⟨#[108, 97, 98, 32]⟩ : ByteArray) ++ numText a else ⟨#[]⟩)
  else if kind = 7 then ⟨#[115, 97, 118, 101]⟩
  else ⟨#[]⟩
 else ⟨#[]⟩
theorem len_zero (l : List ByteArray) : (((l.length : Int)) == 0) = decide (l = []) := by
 rw [Bool.eq_iff_iff]; cases l <;> simp <;> omega
theorem impl_isAlone_eq (kind a b opk : Int) (key val : ByteArray) (asks : List ByteArray) : impl_isAlone.f kind a b opk key val asks = some (cmdAlone kind a b opk key val asks) := by
 unfold impl_isAlone.f cmdAlone
 simp only [toList_nil, len_zero]
 by_cases h1 : kind = 1
 ·subst h1
  by_cases h2 : opk = 0 <;> by_cases h3 : key = ⟨#[]⟩ <;> by_cases h4 : val = ⟨#[]⟩ <;> simp [h2, h3, h4]
 by_cases h6 : kind = 6
 ·subst h6
  by_cases hb : b = 0 <;> by_cases h2 : opk = 0 <;> by_cases h3 : key = ⟨#[]⟩ <;> by_cases h4 : val = ⟨#[]⟩ <;> simp [hb, h2, h3, h4]
 by_cases k2 : kind = 2
 ·subst k2
  by_cases ha : a = 0 <;> by_cases hb : b = 0 <;> simp [ha, hb]
 by_cases k3 : kind = 3
 ·subst k3
  by_cases ha : a = 0 <;> by_cases hb : b = 0 <;> by_cases h2 : opk = 0 <;> by_cases h3 : key = ⟨#[]⟩ <;> by_cases h4 : val = ⟨#[]⟩ <;> simp [ha, hb, h2, h3, h4]
 by_cases ha : a = 0 <;> by_cases hb : b = 0 <;> by_cases h2 : opk = 0 <;> by_cases h3 : key = ⟨#[]⟩ <;> by_cases h4 : val = ⟨#[]⟩ <;> simp [h1, h6, k2, k3, ha, hb, h2, h3, h4]
theorem new_glue (a b : ByteArray) : glue [(⟨#[110, 101, 119]⟩ : ByteArray), a, b] = (((kwNew ++ sp) ++ a) ++ sp) ++ b := rfl
theorem isNum_zero : isNum 0 = true := by decide
theorem sz3 : kwNew.size = 3 := rfl
theorem sz1 : sp.size = 1 := rfl
theorem cmdAlone_ab {kind a b opk : Int} {key val : ByteArray} {asks : List ByteArray} (h : cmdAlone kind a b opk key val asks = true) : (kind = 1 ∨ b = 0) ∧ (kind = 1 ∨ kind = 6 ∨ a = 0) := by
 unfold cmdAlone at h
 simp only [Bool.and_eq_true, Bool.or_eq_true, decide_eq_true_eq] at h
 obtain ⟨⟨⟨h1, h2⟩, _⟩, _⟩ := h
 exact ⟨h2, by rcases h1 with (h | h) | h <;> simp [h]⟩
theorem impl_CmdText_ev (kind a b opk : Int) (key val : ByteArray) (asks : List ByteArray) (hk : key.size ≤ 140737488351232) (hv : val.size ≤ 140737488351232) (hl : asks.length ≤ 140737488351232) (ho : ∀ s ∈ asks, s.size ≤ 140737488351232) :
  Ev (fun k => impl_CmdText.f k kind a b opk key val asks) (cmdText kind a b opk key val asks) := by
 have NO : ∀ x y : ByteArray, Ev (fun k => impl_CmdText.j0 k x y true kind a b opk key val asks) ⟨#[]⟩ := by
  intro x y
  refine Ev.step (fun _ => rfl) ?_
  simp only [impl_CmdText.j0]
  first | exact Ev.pos trivial (Ev.const rfl) | exact Ev.const rfl
 unfold impl_CmdText.f cmdText
 refine Ev.bind (impl_NumText_ev a) ?_
 refine Ev.bind (impl_NumText_ev b) ?_
 refine Ev.bind (Ev.const (impl_isAlone_eq _ _ _ _ _ _ _)) ?_
 cases c : cmdAlone kind a b opk key val asks
 ·exact Ev.neg (by simp) (Ev.to (NO _ _) (by simp))
 refine Ev.pos rfl ?_
 rw [if_pos rfl, nil_beq]
 simp only [toList_nil, numText_nil]
 obtain ⟨hb, ha⟩ := cmdAlone_ab c
 have na := numText_size a
 have nb := numText_size b
 cases ia : isNum a
 ·refine Ev.pos rfl (Ev.to (NO _ _) ?_)
  have ha' : kind = 1 ∨ kind = 6 := by
   rcases ha with h | h | h
   ·exact .inl h
   ·exact .inr h
   ·rw [h, isNum_zero] at ia; cases ia
  rcases ha' with rfl | rfl <;> simp
 refine Ev.neg (by simp) ?_
 cases ib : isNum b
 ·simp only [decide_true]
  refine Ev.to (NO _ _) ?_
  have hb' : kind = 1 := by
   rcases hb with h | h
   ·exact h
   ·rw [h, isNum_zero] at ib; cases ib
  subst hb'
  simp
 refine Ev.step (fun _ => rfl) ?_
 simp only [impl_CmdText.j0]
 refine Ev.neg (by simp) ?_
 by_cases k1 : kind = 1
 ·refine Ev.pos k1 ?_
  refine Ev.bind (impl_glued_ev _ (by simp) ?_) ?_
  ·have e : (⟨#[110, 101, 119]⟩ : ByteArray).size = 3 := rfl
   simp only [tsum, List.map_cons, List.map_nil, List.sum_cons, List.sum_nil, List.length_cons, List.length_nil, e]
   omega
  ·exact Ev.const (by rw [new_glue]; simp [k1])
 refine Ev.neg k1 ?_
 by_cases k2 : kind = 2
 ·refine Ev.pos k2 ?_
  refine Ev.bind (impl_OpText_ev _ _ _ hk hv) ?_
  exact Ev.const (by simp [k2])
 refine Ev.neg k2 ?_
 by_cases k3 : kind = 3
 ·refine Ev.pos k3 ?_
  have hsz := asksText_size asks
  refine Ev.bind (impl_AsksText_ev asks hl ho) ?_
  rw [if_neg k1, if_neg k2, if_pos k3]
  by_cases d : asksText asks = ⟨#[]⟩
  ·refine Ev.pos (toList_nil.2 d) (Ev.const ?_)
   rw [if_neg]
   intro ⟨h1, h2⟩
   rcases (asksText_nil asks).1 d with h | h
   ·rw [h] at h1; cases h1
   ·exact h2 h
  ·refine Ev.neg (fun h => d (toList_nil.1 h)) ?_
   have h1 : asksOk asks = true ∧ asks ≠ [] := by
    constructor
    ·cases h : asksOk asks
     ·exact absurd ((asksText_nil asks).2 (.inl h)) d
     ·rfl
    ·intro h; exact d ((asksText_nil asks).2 (.inr h))
   rw [if_pos h1]
   exact Ev.pos (by omega) (Ev.const rfl)
 refine Ev.neg k3 ?_
 rw [if_neg k1, if_neg k2, if_neg k3]
 by_cases k4 : kind = 4
 ·exact Ev.pos k4 (Ev.const (by rw [if_pos k4]))
 refine Ev.neg k4 ?_
 rw [if_neg k4]
 by_cases k5 : kind = 5
 ·exact Ev.pos k5 (Ev.const (by rw [if_pos k5]))
 refine Ev.neg k5 ?_
 rw [if_neg k5]
 by_cases k6 : kind = 6
 ·refine Ev.pos k6 (Ev.pos (by omega) (Ev.const ?_))
  rw [if_pos k6, if_pos trivial]
 refine Ev.neg k6 ?_
 rw [if_neg k6]
 by_cases k7 : kind = 7
 ·exact Ev.pos k7 (Ev.const (by rw [if_pos k7]))
 exact Ev.neg k7 (Ev.const (by rw [if_neg k7]))
end Go.Proofs.Ythnedklbobbkcaa.Q

namespace Go.Proofs.Ythnedklbobbkcaa.G
end Go.Proofs.Ythnedklbobbkcaa.G
namespace Go.Proofs.Ythnedklbobbkcaa.Q
open Go.RowKit Go.Proofs.Ythnedklbobbkcaa.G Go.Proofs.Ythnedklbobbkcaa.PL Go.Proofs.YthnedklbobbkcaaW.PrintWords
def mk (l : List UInt8) : ByteArray := ⟨l.toArray⟩
theorem bs_of_mk (l : List UInt8) : bs (mk l) = l := bs_mk l
theorem mk_size (l : List UInt8) : (mk l).size = l.length := by rw [← bs_length, bs_of_mk]
theorem mk_of_bs (s : ByteArray) : mk (bs s) = s := bs_inj (bs_mk _)
theorem extract_mk (s : ByteArray) (a b : Nat) : s.extract a b = mk (((bs s).drop a).take (b - a)) := Lib.extract_eq s a b
def prep (p : List UInt8) : List (List UInt8) → List (List UInt8)
 | [] => [p]
 | h :: t => (p ++ h) :: t
def splitB (c : UInt8) : List UInt8 → List (List UInt8)
 | [] => [[]]
 | b :: r => if b = c then [] :: splitB c r else prep [b] (splitB c r)
theorem splitB_ne (c : UInt8) : ∀ l, ∃ h t, splitB c l = h :: t
 | [] => ⟨[], [], rfl⟩
 | b :: r => by
  rw [splitB]
  by_cases e : b = c
  ·rw [if_pos e]; exact ⟨_, _, rfl⟩
  ·obtain ⟨h, t, q⟩ := splitB_ne c r
   rw [if_neg e, q]; exact ⟨_, _, rfl⟩
theorem prep_prep (p q : List UInt8) (l : List (List UInt8)) : prep p (prep q l) = prep (p ++ q) l := by
 cases l <;> simp [prep]
theorem prep_nil {c : UInt8} {l : List UInt8} : prep [] (splitB c l) = splitB c l := by
 obtain ⟨h, t, q⟩ := splitB_ne c l
 rw [q]; rfl
theorem take_snoc (l : List UInt8) (f i : Nat) (h : f ≤ i) (hi : i < l.length) : (l.drop f).take (i + 1 - f) = (l.drop f).take (i - f) ++ [l[i]] := by
 have e : i + 1 - f = (i - f) + 1 := by omega
 rw [e, List.take_add_one, List.getElem?_drop, show f + (i - f) = i by omega, List.getElem?_eq_getElem hi]
 rfl
def joinW (c : UInt8) : List (List UInt8) → List UInt8
 | [] => []
 | [x] => x
 | x :: y :: r => x ++ c :: joinW c (y :: r)
theorem join_acc (c : UInt8) (a b : List UInt8) (r : List (List UInt8)) : joinW c ((a ++ c :: b) :: r) = joinW c (a :: b :: r) := by
 cases r with
 | nil => simp [joinW]
 | cons y t => simp [joinW]
theorem splitB_free {c : UInt8} : ∀ {l : List UInt8}, c ∉ l → splitB c l = [l]
 | [], _ => rfl
 | b :: r, h => by
  rw [splitB, if_neg (fun e => h (by rw [e]; exact List.mem_cons_self)), splitB_free (fun m => h (List.mem_cons_of_mem _ m))]
  rfl
theorem splitB_app (c : UInt8) : ∀ (a : List UInt8) (l : List UInt8), c ∉ a → splitB c (a ++ c :: l) = a :: splitB c l
 | [], l, _ => by rw [List.nil_append, splitB, if_pos rfl]
 | b :: r, l, h => by
  rw [List.cons_append, splitB, if_neg (fun e => h (by rw [e]; exact List.mem_cons_self)), splitB_app c r l (fun m => h (List.mem_cons_of_mem _ m))]
  rfl
theorem split_join (c : UInt8) : ∀ (ws : List (List UInt8)), ws ≠ [] → (∀ w ∈ ws, c ∉ w) → splitB c (joinW c ws) = ws
 | [], h, _ => absurd rfl h
 | [x], _, h => splitB_free (h x List.mem_cons_self)
 | x :: y :: r, _, h => by
  rw [joinW, splitB_app c x _ (h x List.mem_cons_self), split_join c (y :: r) (by simp) (fun w hw => h w (List.mem_cons_of_mem _ hw))]
theorem splitB_ne_nil (c : UInt8) (l : List UInt8) : splitB c l ≠ [] := by
 obtain ⟨h, t, q⟩ := splitB_ne c l
 rw [q]; simp
theorem split_mem_len (c : UInt8) : ∀ (l : List UInt8), ∀ w ∈ splitB c l, w.length ≤ l.length
 | [], w, hw => by
  rw [splitB, List.mem_singleton] at hw
  rw [hw]; simp
 | b :: r, w, hw => by
  rw [splitB] at hw
  by_cases e : b = c
  ·rw [if_pos e] at hw
   rcases List.mem_cons.1 hw with h | h
   ·rw [h]; simp
   ·have := split_mem_len c r w h
    rw [List.length_cons]; omega
  ·rw [if_neg e] at hw
   obtain ⟨h, t, q⟩ := splitB_ne c r
   have ih := split_mem_len c r
   rw [q] at hw ih
   rw [prep] at hw
   rcases List.mem_cons.1 hw with h' | h'
   ·have := ih h List.mem_cons_self
    rw [h']; simp; omega
   ·have := ih w (List.mem_cons_of_mem _ h')
    rw [List.length_cons]; omega
theorem split_len (c : UInt8) : ∀ (l : List UInt8), (splitB c l).length ≤ l.length + 1
 | [] => by simp [splitB]
 | b :: r => by
  have ih := split_len c r
  rw [splitB]
  by_cases e : b = c
  ·rw [if_pos e]; simp; omega
  ·obtain ⟨h, t, q⟩ := splitB_ne c r
   rw [if_neg e]
   rw [q] at ih ⊢
   simp [prep] at ih ⊢
   omega
theorem impl_split_l0 (s : ByteArray) (c : UInt8) (hs : s.size ≤ 1048576) : ∀ (d i f : Nat) (out : List ByteArray), i + d = s.size → f ≤ i → out.length ≤ i → Ev (fun k => impl_split.l0 k s (c.toNat : Int) out (f : Int) (i : Int)) (out ++ (prep (((bs s).drop f).take (i - f)) (splitB c ((bs s).drop i))).map mk) := by
 intro d
 induction d with
 | zero =>
  intro i f out hi hf ho
  refine Ev.step (fun _ => rfl) ?_
  simp only [impl_split.l0]
  refine Ev.neg (by omega) (Ev.pos (by omega) (Ev.pos (by omega) (Ev.pos (by omega) ?_)))
  rw [List.drop_of_length_le (i := i) (by rw [bs_length]; omega), splitB, prep, Int.toNat_natCast, extract_mk, show s.size = i by omega]
  exact Ev.const (by simp)
 | succ d ih =>
  intro i f out hi hf ho
  have hlt : i < s.size := by omega
  refine Ev.step (fun _ => rfl) ?_
  simp only [impl_split.l0]
  rw [bt_eq s i hlt, drop_bs s i hlt, wsucc (by omega), splitB]
  refine Ev.pos (by omega) (Ev.pos (by omega) ?_)
  have hsn := take_snoc (bs s) f i hf (by rw [bs_length]; omega)
  generalize (bs s)[i]'_ = b at hsn ⊢
  by_cases e : b = c
  ·refine Ev.pos (by rw [e]) (Ev.pos (by omega) (Ev.pos (by omega) (Ev.pos (by omega) (Ev.pos (by omega) ?_))))
   have h := ih (i + 1) (i + 1) (out ++ [s.extract f i]) (by omega) (by omega) (by rw [List.length_append, List.length_singleton]; omega)
   simp only [Int.toNat_natCast]
   refine Ev.to h ?_
   rw [if_pos e, Nat.sub_self, List.take_zero, prep_nil, extract_mk]
   simp [prep]
  ·refine Ev.neg (fun h => e (UInt8.toNat.inj (by omega))) ?_
   have h := ih (i + 1) f out (by omega) (by omega) (by omega)
   refine Ev.to h ?_
   rw [if_neg e, prep_prep, hsn]
theorem impl_split_ev (s : ByteArray) (c : UInt8) (hs : s.size ≤ 1048576) : Ev (fun k => impl_split.f k s (c.toNat : Int)) ((splitB c (bs s)).map mk) := by
 unfold impl_split.f
 refine Ev.to (impl_split_l0 s c hs s.size 0 0 [] (by omega) (by omega) (by simp)) ?_
 rw [Nat.sub_self, List.take_zero, List.drop_zero, prep_nil, List.nil_append]
def wordsB (s : List UInt8) : List (List UInt8) := splitB 32 s
theorem impl_Cut_ev (s : ByteArray) (hs : s.size ≤ 1048576) : Ev (fun k => impl_Cut.f k s) ((wordsB (bs s)).map mk) := by
 unfold impl_Cut.f
 exact Ev.bind (impl_split_ev s 32 hs) (Ev.const rfl)
/-- lines, as the reference cuts them -/
def linesB (s : List UInt8) : List (List UInt8) := if (splitB 10 s).getLast? = some [] then (splitB 10 s).dropLast else splitB 10 s
theorem rdmk {l : List (List UInt8)} {i : Nat} (h : i < l.length) : rdOf ByteArray.empty (l.map mk) (i : Int) = mk l[i] := by
 rw [rdOf, getD_at (by simpa using h)]; simp
def numFrom : List UInt8 → Int → Option Int
 | [], n => some n
 | b :: r, n => if (b.toNat : Int) < 48 then none else if (b.toNat : Int) > 57 then none else numFrom r (wrap64 (wrap64 (10 * n) + (((b.toNat : Int) - 48) % 256)))
def numEnd (s : ByteArray) : Option Int → Int × Bool
 | some n => if numText n = s then (n, true) else (0, false)
 | none => (0, false)
def textNum (s : ByteArray) : Int × Bool := if 1 ≤ s.size ∧ s.size ≤ 10 then numEnd s (numFrom (bs s) 0) else (0, false)
theorem impl_TextNum_l0 (s : ByteArray) (hs : s.size ≤ 10) : ∀ (d i : Nat) (n : Int), i + d = s.size → Ev (fun k => impl_TextNum.l0 k s n i) (numEnd s (numFrom ((bs s).drop i) n)) := by
 intro d
 induction d with
 | zero =>
  intro i n hi
  refine Ev.step (fun _ => rfl) ?_
  simp only [impl_TextNum.l0]
  refine Ev.neg (by omega) ?_
  rw [List.drop_of_length_le (by rw [bs_length]; omega), numFrom, numEnd]
  refine Ev.bind (impl_NumText_ev n) ?_
  by_cases c : numText n = s
  ·exact Ev.pos (bytes_eq.2 c) (Ev.const (by rw [if_pos c]))
  ·exact Ev.neg (fun h => c (bytes_eq.1 h)) (Ev.const (by rw [if_neg c]))
 | succ d ih =>
  intro i n hi
  have hlt : i < s.size := by omega
  refine Ev.step (fun _ => rfl) ?_
  simp only [impl_TextNum.l0]
  rw [bt_eq s i hlt, drop_bs s i hlt, numFrom, wsucc (by omega)]
  refine Ev.pos (by omega) ?_
  refine Ev.pos (by omega) ?_
  generalize (bs s)[i]'_ = b
  by_cases c : (b.toNat : Int) < 48
  ·exact Ev.pos c (Ev.const (by rw [if_pos c]; rfl))
  refine Ev.neg c ?_
  rw [if_neg c]
  by_cases c2 : (b.toNat : Int) > 57
  ·exact Ev.pos c2 (Ev.const (by rw [if_pos c2]; rfl))
  refine Ev.neg c2 ?_
  rw [if_neg c2]
  first | exact ih (i + 1) _ (by omega) | (rw [Int.mul_comm 10 n]; exact ih (i + 1) _ (by omega))
theorem impl_TextNum_ev (s : ByteArray) : Ev (fun k => impl_TextNum.f k s) (textNum s) := by
 unfold impl_TextNum.f textNum
 refine Ev.bind (Ev.const (impl_within_eq _ _ _)) ?_
 by_cases a : 1 ≤ s.size ∧ s.size ≤ 10
 ·refine Ev.pos (by simp; omega) ?_
  rw [if_pos a]
  exact impl_TextNum_l0 s a.2 s.size 0 0 (by omega)
 ·exact Ev.neg (by simp; omega) (Ev.const (by rw [if_neg a]))
-- texts without some byte
theorem dg_bytes (n : Nat) (h : n < 10) : bs (dg n) = [UInt8.ofNat (48 + n)] := by
 unfold dg bs strOfNums
 simp only [List.map_cons, List.map_nil]
 rw [show (48 + (n : Int)).toNat = 48 + n by omega]
theorem dec_digits : ∀ (m n : Nat), n < 10 ^ (m + 1) → ∀ b ∈ bs (dec n), 48 ≤ b.toNat ∧ b.toNat ≤ 57
 | 0, n, h => by
  have h : n < 10 := by simpa using h
  rw [dec_small h, dg_bytes n h]
  intro b hb
  rw [List.mem_singleton.1 hb, UInt8.toNat_ofNat']
  omega
 | m + 1, n, h => by
  by_cases c : n < 10
  ·rw [dec_small c, dg_bytes n c]
   intro b hb
   rw [List.mem_singleton.1 hb, UInt8.toNat_ofNat']
   omega
  ·rw [dec_big c, bs_append, dg_bytes _ (Nat.mod_lt _ (by omega))]
   intro b hb
   rcases List.mem_append.1 hb with hb | hb
   ·exact dec_digits m (n / 10) (by rw [Nat.pow_succ] at h; omega) b hb
   ·rw [List.mem_singleton.1 hb, UInt8.toNat_ofNat']
    omega
theorem numText_digits (a : Int) : ∀ b ∈ bs (numText a), 48 ≤ b.toNat ∧ b.toNat ≤ 57 := by
 unfold numText
 by_cases c : isNum a = true
 ·rw [if_pos c]
  unfold isNum at c
  simp only [Bool.and_eq_true, decide_eq_true_eq] at c
  exact dec_digits 9 a.toNat (by omega)
 ·rw [if_neg c]
  intro b hb
  exact absurd hb (by simp [bs])
theorem numText_free (a : Int) {c : UInt8} (h : c.toNat < 48) : c ∉ bs (numText a) := fun m => by
 have := numText_digits a c m
 omega
abbrev kwGet : List UInt8 := [103, 101, 116]
abbrev kwPut : List UInt8 := [112, 117, 116]
abbrev kwDrop : List UInt8 := [100, 114, 111, 112]
abbrev nilB : ByteArray := ⟨#[]⟩
def wAt (W : List (List UInt8)) (i : Nat) : ByteArray := mk (W.getD i [])
theorem wAt_rd {W : List (List UInt8)} {i : Nat} (h : i < W.length) : rdOf ByteArray.empty (W.map mk) (i : Int) = wAt W i := by
 rw [rdmk h]
 unfold wAt
 rw [List.getD_eq_getElem?_getD, List.getElem?_eq_getElem h]; rfl
theorem wAt_head (W : List (List UInt8)) : wAt W 0 = mk (W.headD []) := by
 cases W <;> rfl
theorem clean_free {s : ByteArray} (h : clean s = true) : (32 : UInt8) ∉ bs s := by
 unfold clean at h
 rw [List.all_eq_true] at h
 exact fun m => absurd (h _ m) (by decide)
theorem opOk_free {kind : Int} {key val : ByteArray} (h : opOk kind key val = true) : (32 : UInt8) ∉ bs key ∧ (32 : UInt8) ∉ bs val := by
 unfold opOk itemOk at h
 simp only [Bool.and_eq_true] at h
 exact ⟨clean_free h.1.2.1.1.1.1.2, clean_free h.1.2.1.1.2⟩
theorem words2 {a b : List UInt8} (ha : (32 : UInt8) ∉ a) (hb : (32 : UInt8) ∉ b) : wordsB (a ++ 32 :: b) = [a, b] := by
 unfold wordsB
 rw [splitB_app 32 a b ha, splitB_free hb]
theorem words3 {a b c : List UInt8} (ha : (32 : UInt8) ∉ a) (hb : (32 : UInt8) ∉ b) (hc : (32 : UInt8) ∉ c) : wordsB (a ++ 32 :: (b ++ 32 :: c)) = [a, b, c] := by
 unfold wordsB
 rw [splitB_app 32 a _ ha, splitB_app 32 b c hb, splitB_free hc]
theorem opText_words {kind : Int} {key val : ByteArray} (h : opOk kind key val = true) : wordsB (bs (opText kind key val)) = if kind = 1 then [kwGet, bs key] else if kind = 2 then [kwPut, bs key, bs val] else [kwDrop, bs key] := by
 have f := opOk_free h
 unfold opText
 rw [if_pos h]
 split
 ·rw [bs_append]
  exact words2 (a := kwGet) (by decide) f.1
 ·split
  ·rw [bs_append, bs_append, bs_append, show bs (⟨#[112, 117, 116, 32]⟩ : ByteArray) ++ bs key ++ bs (⟨#[32]⟩ : ByteArray) ++ bs val = kwPut ++ 32 :: (bs key ++ 32 :: bs val) from by simp [bs]]
   exact words3 (by decide) f.1 f.2
  ·rw [bs_append]
   exact words2 (a := kwDrop) (by decide) f.1
abbrev O3 : Type := Int × ByteArray × ByteArray
def opCand (W : List (List UInt8)) : O3 :=
 if W.headD [] = kwGet ∧ W.length = 2 then (1, wAt W 1, nilB)
 else if W.headD [] = kwPut ∧ W.length = 3 then (2, wAt W 1, wAt W 2)
 else if W.headD [] = kwDrop ∧ W.length = 2 then (3, wAt W 1, nilB) else (0, nilB, nilB)
def opFin (s : ByteArray) (c : O3) : Int × ByteArray × ByteArray × Bool := if opOk c.1 c.2.1 c.2.2 = true ∧ opText c.1 c.2.1 c.2.2 = s then (c.1, c.2.1, c.2.2, true) else (0, nilB, nilB, false)
def textOp (s : ByteArray) : Int × ByteArray × ByteArray × Bool := opFin s (opCand (wordsB (bs s)))
theorem wAt_size {s : ByteArray} (hs : s.size ≤ 1048576) (i : Nat) : (wAt (wordsB (bs s)) i).size ≤ 1048576 := by
 unfold wAt
 rw [mk_size, List.getD_eq_getElem?_getD]
 by_cases c : i < (wordsB (bs s)).length
 ·rw [List.getElem?_eq_getElem c]
  have hm : (wordsB (bs s))[i] ∈ splitB 32 (bs s) := List.getElem_mem c
  have := split_mem_len 32 (bs s) _ hm
  rw [bs_length] at this
  show (wordsB (bs s))[i].length ≤ _
  omega
 ·rw [List.getElem?_eq_none (by omega)]; simp
theorem impl_op_j2 (s : ByteArray) (a : Int) (b c : ByteArray) (hb : b.size ≤ 1048576) (hc : c.size ≤ 1048576) : Ev (fun k => impl_TextOp.j2 k s a b c) (opFin s (a, b, c)) := by
 refine Ev.step (fun _ => rfl) ?_
 simp only [impl_TextOp.j2]
 unfold opFin
 refine Ev.bind (impl_OpOk_ev a b c (by omega) (by omega)) ?_
 cases q : opOk a b c
 ·exact Ev.neg (by simp) (Ev.const (by simp))
 ·refine Ev.pos rfl (Ev.bind (impl_OpText_ev a b c (by omega) (by omega)) ?_)
  by_cases d : opText a b c = s
  ·exact Ev.pos (bytes_eq.2 d) (Ev.const (by simp [d]))
  ·exact Ev.neg (fun h => d (bytes_eq.1 h)) (Ev.const (by simp [d]))
theorem headW {W : List (List UInt8)} {kw : List UInt8} : ((mk (W.headD [])).toList = kw) ↔ W.headD [] = kw := by
 rw [bs_toList, bs_of_mk]
theorem impl_TextOp_ev (s : ByteArray) (hs : s.size ≤ 1048576) : Ev (fun k => impl_TextOp.f k s) (textOp s) := by
 unfold impl_TextOp.f textOp
 refine Ev.bind (impl_Cut_ev s hs) ?_
 have h0 : wordsB (bs s) ≠ [] := splitB_ne_nil 32 (bs s)
 have hp := List.length_pos_iff.2 h0
 have z := fun i => wAt_size (s := s) hs i
 have zn : nilB.size ≤ 1048576 := by decide
 generalize wordsB (bs s) = W at *
 have e0 := wAt_rd (W := W) (i := 0) hp
 rw [show ((0 : Nat) : Int) = 0 from rfl, wAt_head] at e0
 rw [e0]
 refine Ev.pos (by rw [List.length_map]; omega) ?_
 have len : ∀ (n : Nat), (((W.map mk).length : Int) == (n : Int)) = decide (W.length = n) := by
  intro n; rw [Bool.eq_iff_iff, beq_iff_eq, decide_eq_true_eq, List.length_map]; omega
 have j1t : ∀ (h3 : W.length = 3), Ev (fun k => impl_TextOp.j1 k s (W.map mk) true 0 nilB nilB) (opFin s (2, wAt W 1, wAt W 2)) := by
  intro h3
  refine Ev.step (fun _ => rfl) ?_
  simp only [impl_TextOp.j1]
  have e1 := wAt_rd (W := W) (i := 1) (by omega)
  have e2 := wAt_rd (W := W) (i := 2) (by omega)
  rw [show ((1 : Nat) : Int) = 1 from rfl] at e1
  rw [show ((2 : Nat) : Int) = 2 from rfl] at e2
  rw [e1, e2]
  exact Ev.pos trivial (Ev.pos (by rw [List.length_map]; omega) (Ev.pos (by rw [List.length_map]; omega) (impl_op_j2 s _ _ _ (z 1) (z 2))))
 have j1f : Ev (fun k => impl_TextOp.j1 k s (W.map mk) false 0 nilB nilB) (opFin s (if W.headD [] = kwDrop ∧ W.length = 2 then (3, wAt W 1, nilB) else (0, nilB, nilB))) := by
  refine Ev.step (fun _ => rfl) ?_
  simp only [impl_TextOp.j1]
  rw [e0]
  refine Ev.neg (by simp) (Ev.pos (by rw [List.length_map]; omega) ?_)
  by_cases c : W.headD [] = kwDrop
  ·refine Ev.pos (headW.2 c) ?_
   by_cases d : W.length = 2
   ·have e1 := wAt_rd (W := W) (i := 1) (by omega)
    rw [show ((1 : Nat) : Int) = 1 from rfl] at e1
    rw [e1, if_pos ⟨c, d⟩]
    exact Ev.pos (by rw [List.length_map]; omega) (Ev.pos (by rw [List.length_map]; omega) (impl_op_j2 s _ _ _ (z 1) zn))
   ·rw [if_neg (fun h => d h.2)]
    exact Ev.neg (by rw [List.length_map]; omega) (impl_op_j2 s _ _ _ zn zn)
  ·rw [if_neg (fun h => c h.1)]
   exact Ev.neg (fun h => c (headW.1 h)) (impl_op_j2 s _ _ _ zn zn)
 have j0f : Ev (fun k => impl_TextOp.j0 k s (W.map mk) false 0 nilB nilB) (opFin s (if W.headD [] = kwPut ∧ W.length = 3 then (2, wAt W 1, wAt W 2) else if W.headD [] = kwDrop ∧ W.length = 2 then (3, wAt W 1, nilB) else (0, nilB, nilB))) := by
  refine Ev.step (fun _ => rfl) ?_
  simp only [impl_TextOp.j0]
  rw [e0]
  refine Ev.neg (by simp) (Ev.pos (by rw [List.length_map]; omega) ?_)
  by_cases c : W.headD [] = kwPut
  ·refine Ev.pos (headW.2 c) ?_
   have l3 := len 3
   rw [show ((3 : Nat) : Int) = 3 from rfl] at l3
   rw [l3]
   by_cases d : W.length = 3
   ·rw [decide_eq_true d, if_pos ⟨c, d⟩]; exact j1t d
   ·rw [decide_eq_false d, if_neg (fun h => d h.2)]; exact j1f
  ·rw [if_neg (fun h => c h.1)]
   exact Ev.neg (fun h => c (headW.1 h)) j1f
 unfold opCand
 by_cases c : W.headD [] = kwGet
 ·refine Ev.pos (headW.2 c) ?_
  have l2 := len 2
  rw [show ((2 : Nat) : Int) = 2 from rfl] at l2
  rw [l2]
  by_cases d : W.length = 2
  ·rw [decide_eq_true d, if_pos ⟨c, d⟩]
   refine Ev.step (fun _ => rfl) ?_
   simp only [impl_TextOp.j0]
   have e1 := wAt_rd (W := W) (i := 1) (by omega)
   rw [show ((1 : Nat) : Int) = 1 from rfl] at e1
   rw [e1]
   exact Ev.pos trivial (Ev.pos (by rw [List.length_map]; omega) (impl_op_j2 s _ _ _ (z 1) zn))
  ·rw [decide_eq_false d, if_neg (fun h => d h.2)]; exact j0f
 ·rw [if_neg (fun h => c h.1)]
  exact Ev.neg (fun h => c (headW.1 h)) j0f
-- commands
abbrev kNew : List UInt8 := [110, 101, 119]
abbrev kAsk : List UInt8 := [97, 115, 107]
abbrev kShow : List UInt8 := [115, 104, 111, 119]
abbrev kRate : List UInt8 := [114, 97, 116, 101]
abbrev kLab : List UInt8 := [108, 97, 98]
abbrev kSave : List UInt8 := [115, 97, 118, 101]
abbrev C7 : Type := Int × Int × Int × Int × ByteArray × ByteArray × List ByteArray
abbrev C8 : Type := Int × Int × Int × Int × ByteArray × ByteArray × List ByteArray × Bool
def cmdOf (c : C7) : ByteArray := cmdText c.1 c.2.1 c.2.2.1 c.2.2.2.1 c.2.2.2.2.1 c.2.2.2.2.2.1 c.2.2.2.2.2.2
def cmdBad : C8 := (0, 0, 0, 0, nilB, nilB, [], false)
def cmdFin (s : ByteArray) (c : C7) : C8 := if s ≠ nilB ∧ cmdOf c = s then (c.1, c.2.1, c.2.2.1, c.2.2.2.1, c.2.2.2.2.1, c.2.2.2.2.2.1, c.2.2.2.2.2.2, true) else cmdBad
def nAt (W : List (List UInt8)) (i : Nat) : Int := if i < W.length then (textNum (wAt W i)).1 else 0
def cmdCand (s : ByteArray) (W : List (List UInt8)) : C7 :=
 if W.headD [] = kNew then (1, nAt W 1, nAt W 2, 0, nilB, nilB, [])
 else if W.headD [] = kAsk then (3, 0, 0, 0, nilB, nilB, W.tail.map mk)
 else if W.headD [] = kShow then (4, 0, 0, 0, nilB, nilB, [])
 else if W.headD [] = kRate then (5, 0, 0, 0, nilB, nilB, [])
 else if W.headD [] = kLab then (6, nAt W 1, 0, 0, nilB, nilB, [])
 else if W.headD [] = kSave then (7, 0, 0, 0, nilB, nilB, [])
 else (2, 0, 0, (textOp s).1, (textOp s).2.1, (textOp s).2.2.1, [])
def textCmd (s : ByteArray) : C8 := cmdFin s (cmdCand s (wordsB (bs s)))
theorem cmdFin_bad {s : ByteArray} {c : C7} (h : s ≠ nilB → cmdOf c ≠ s) : cmdFin s c = cmdBad := by
 unfold cmdFin
 rw [if_neg (fun q => h q.1 q.2)]
theorem new_words {s : ByteArray} {a b : Int} (hne : s ≠ nilB) (h : cmdOf (1, a, b, 0, nilB, nilB, []) = s) : (wordsB (bs s)).length = 3 := by
 have e : cmdOf (1, a, b, 0, nilB, nilB, []) = if isNum a = true ∧ isNum b = true then (((kwNew ++ sp) ++ numText a) ++ sp) ++ numText b else ⟨#[]⟩ := by
  unfold cmdOf cmdText
  rw [if_pos (by simp [cmdAlone]), if_pos rfl]
 rw [e] at h
 split at h
 ·rw [← h, bs_append, bs_append, bs_append, bs_append, show bs kwNew ++ bs sp ++ bs (numText a) ++ bs sp ++ bs (numText b) = kNew ++ 32 :: (bs (numText a) ++ 32 :: bs (numText b)) from by simp [bs, kwNew, sp]]
  rw [words3 (by decide) (numText_free a (by decide)) (numText_free b (by decide))]
  rfl
 ·exact absurd h.symm hne
theorem lab_words {s : ByteArray} {a : Int} (hne : s ≠ nilB) (h : cmdOf (6, a, 0, 0, nilB, nilB, []) = s) : (wordsB (bs s)).length = 2 := by
 have e : cmdOf (6, a, 0, 0, nilB, nilB, []) = if isNum a = true then (⟨#[108, 97, 98, 32]⟩ : ByteArray) ++ numText a else ⟨#[]⟩ := by
  unfold cmdOf cmdText
  rw [if_pos (by simp [cmdAlone]), if_neg (show ¬ (6 : Int) = 1 by decide), if_neg (show ¬ (6 : Int) = 2 by decide), if_neg (show ¬ (6 : Int) = 3 by decide), if_neg (show ¬ (6 : Int) = 4 by decide), if_neg (show ¬ (6 : Int) = 5 by decide), if_pos rfl]
 rw [e] at h
 split at h
 ·rw [← h, bs_append]
  have := words2 (a := kLab) (b := bs (numText a)) (by decide) (numText_free a (by decide))
  rw [show bs (⟨#[108, 97, 98, 32]⟩ : ByteArray) ++ bs (numText a) = kLab ++ 32 :: bs (numText a) from rfl, this]
  rfl
 ·exact absurd h.symm hne
theorem textOp_sizes {s : ByteArray} (hs : s.size ≤ 1048576) : (textOp s).2.1.size ≤ 1048576 ∧ (textOp s).2.2.1.size ≤ 1048576 := by
 have z := fun i => wAt_size (s := s) hs i
 have zn : nilB.size ≤ 1048576 := by decide
 unfold textOp opFin
 split
 ·unfold opCand
  split
  ·exact ⟨z 1, zn⟩
  ·split
   ·exact ⟨z 1, z 2⟩
   ·split
    ·exact ⟨z 1, zn⟩
    ·exact ⟨zn, zn⟩
 ·exact ⟨zn, zn⟩
def C7ok (c : C7) : Prop := c.2.2.2.2.1.size ≤ 1048576 ∧ c.2.2.2.2.2.1.size ≤ 1048576 ∧ c.2.2.2.2.2.2.length ≤ 1048577 ∧ ∀ x ∈ c.2.2.2.2.2.2, x.size ≤ 1048576
theorem nilB_size : nilB.size ≤ 1048576 := by decide
theorem c7ok_plain (a b c d : Int) : C7ok (a, b, c, d, nilB, nilB, []) := ⟨nilB_size, nilB_size, by simp, fun x hx => absurd hx (by simp)⟩
theorem c7ok_ask {s : ByteArray} (hs : s.size ≤ 1048576) : C7ok (3, 0, 0, 0, nilB, nilB, (wordsB (bs s)).tail.map mk) := by
 have hl := split_len 32 (bs s)
 rw [bs_length] at hl
 refine ⟨nilB_size, nilB_size, ?_, fun x hx => ?_⟩
 ·show ((splitB 32 (bs s)).tail.map mk).length ≤ _
  rw [List.length_map, List.length_tail]; omega
 ·obtain ⟨w, hw, rfl⟩ := List.mem_map.1 hx
  have := split_mem_len 32 (bs s) w (List.mem_of_mem_tail hw)
  rw [bs_length] at this
  rw [mk_size]; omega
theorem c7ok_op {s : ByteArray} (hs : s.size ≤ 1048576) : C7ok (2, 0, 0, (textOp s).1, (textOp s).2.1, (textOp s).2.2.1, []) := ⟨(textOp_sizes hs).1, (textOp_sizes hs).2, by simp, fun x hx => absurd hx (by simp)⟩
theorem impl_cmd_j0 (s : ByteArray) (c : C7) (h : C7ok c) : Ev (fun k => impl_TextCmd.j0 k s c.1 c.2.1 c.2.2.1 c.2.2.2.1 c.2.2.2.2.1 c.2.2.2.2.2.1 c.2.2.2.2.2.2) (cmdFin s c) := by
 obtain ⟨h1, h2, h3, h4⟩ := h
 refine Ev.step (fun _ => rfl) ?_
 simp only [impl_TextCmd.j0]
 unfold cmdFin
 by_cases n : s = nilB
 ·exact Ev.pos (toList_nil.2 n) (Ev.const (by rw [if_neg (fun q => q.1 n)]; rfl))
 refine Ev.neg (fun q => n (toList_nil.1 q)) (Ev.bind (impl_CmdText_ev _ _ _ _ _ _ _ (by omega) (by omega) (by omega) (fun x hx => by have := h4 x hx; omega)) ?_)
 by_cases d : cmdOf c = s
 ·exact Ev.pos (bytes_eq.2 d) (Ev.const (by rw [if_pos ⟨n, d⟩]))
 ·exact Ev.neg (fun q => d (bytes_eq.1 q)) (Ev.const (by rw [if_neg (fun q => d q.2)]; rfl))
theorem impl_TextCmd_ev (s : ByteArray) (hs : s.size ≤ 1048576) : Ev (fun k => impl_TextCmd.f k s) (textCmd s) := by
 unfold impl_TextCmd.f textCmd
 refine Ev.bind (impl_Cut_ev s hs) ?_
 have hp := List.length_pos_iff.2 (splitB_ne_nil 32 (bs s))
 have hp : 0 < (wordsB (bs s)).length := hp
 have e0 := wAt_rd (W := wordsB (bs s)) (i := 0) hp
 rw [show ((0 : Nat) : Int) = 0 from rfl, wAt_head] at e0
 rw [e0]
 refine Ev.pos (by rw [List.length_map]; omega) ?_
 unfold cmdCand
 by_cases a : (wordsB (bs s)).headD [] = kNew
 ·refine Ev.pos (headW.2 a) ?_
  rw [if_pos a]
  by_cases d : (wordsB (bs s)).length = 3
  ·have e1 := wAt_rd (W := wordsB (bs s)) (i := 1) (by omega)
   have e2 := wAt_rd (W := wordsB (bs s)) (i := 2) (by omega)
   rw [show ((1 : Nat) : Int) = 1 from rfl] at e1
   rw [show ((2 : Nat) : Int) = 2 from rfl] at e2
   rw [e1, e2]
   have n1 : nAt (wordsB (bs s)) 1 = (textNum (wAt (wordsB (bs s)) 1)).1 := if_pos (by omega)
   have n2 : nAt (wordsB (bs s)) 2 = (textNum (wAt (wordsB (bs s)) 2)).1 := if_pos (by omega)
   rw [n1, n2]
   refine Ev.pos (by rw [List.length_map]; omega) (Ev.pos (by rw [List.length_map]; omega) ?_)
   refine Ev.bind (impl_TextNum_ev _) (Ev.pos (by rw [List.length_map]; omega) (Ev.bind (impl_TextNum_ev _) ?_))
   exact impl_cmd_j0 s (1, _, _, 0, nilB, nilB, []) (c7ok_plain _ _ _ _)
  ·refine Ev.neg (by rw [List.length_map]; omega) ?_
   refine Ev.to (impl_cmd_j0 s (1, 0, 0, 0, nilB, nilB, []) (c7ok_plain _ _ _ _)) ?_
   rw [cmdFin_bad (fun n h => d (new_words n h)), cmdFin_bad (fun n h => d (new_words n h))]
 refine Ev.neg (fun q => a (headW.1 q)) ?_
 rw [if_neg a]
 by_cases b : (wordsB (bs s)).headD [] = kAsk
 ·refine Ev.pos (headW.2 b) (Ev.pos (by rw [List.length_map]; omega) ?_)
  rw [if_pos b]
  have e : (List.map mk (wordsB (bs s))).drop (1 : Int).toNat = (wordsB (bs s)).tail.map mk := by
   rw [show (1 : Int).toNat = 1 from rfl, List.drop_one, List.map_tail]
  rw [e]
  exact impl_cmd_j0 s (3, 0, 0, 0, nilB, nilB, (wordsB (bs s)).tail.map mk) (c7ok_ask hs)
 refine Ev.neg (fun q => b (headW.1 q)) ?_
 rw [if_neg b]
 by_cases c : (wordsB (bs s)).headD [] = kShow
 ·rw [if_pos c]
  exact Ev.pos (headW.2 c) (impl_cmd_j0 s (4, 0, 0, 0, nilB, nilB, []) (c7ok_plain _ _ _ _))
 refine Ev.neg (fun q => c (headW.1 q)) ?_
 rw [if_neg c]
 by_cases d : (wordsB (bs s)).headD [] = kRate
 ·rw [if_pos d]
  exact Ev.pos (headW.2 d) (impl_cmd_j0 s (5, 0, 0, 0, nilB, nilB, []) (c7ok_plain _ _ _ _))
 refine Ev.neg (fun q => d (headW.1 q)) ?_
 rw [if_neg d]
 by_cases e : (wordsB (bs s)).headD [] = kLab
 ·refine Ev.pos (headW.2 e) ?_
  rw [if_pos e]
  by_cases g : (wordsB (bs s)).length = 2
  ·have e1 := wAt_rd (W := wordsB (bs s)) (i := 1) (by omega)
   rw [show ((1 : Nat) : Int) = 1 from rfl] at e1
   rw [e1]
   have n1 : nAt (wordsB (bs s)) 1 = (textNum (wAt (wordsB (bs s)) 1)).1 := if_pos (by omega)
   rw [n1]
   refine Ev.pos (by rw [List.length_map]; omega) (Ev.pos (by rw [List.length_map]; omega) ?_)
   refine Ev.bind (impl_TextNum_ev _) ?_
   exact impl_cmd_j0 s (6, _, 0, 0, nilB, nilB, []) (c7ok_plain _ _ _ _)
  ·refine Ev.neg (by rw [List.length_map]; omega) ?_
   refine Ev.to (impl_cmd_j0 s (6, 0, 0, 0, nilB, nilB, []) (c7ok_plain _ _ _ _)) ?_
   rw [cmdFin_bad (fun n h => g (lab_words n h)), cmdFin_bad (fun n h => g (lab_words n h))]
 refine Ev.neg (fun q => e (headW.1 q)) ?_
 rw [if_neg e]
 by_cases f : (wordsB (bs s)).headD [] = kSave
 ·rw [if_pos f]
  exact Ev.pos (headW.2 f) (impl_cmd_j0 s (7, 0, 0, 0, nilB, nilB, []) (c7ok_plain _ _ _ _))
 refine Ev.neg (fun q => f (headW.1 q)) ?_
 rw [if_neg f]
 refine Ev.bind (impl_TextOp_ev s hs) ?_
 exact impl_cmd_j0 s (2, 0, 0, (textOp s).1, (textOp s).2.1, (textOp s).2.2.1, []) (c7ok_op hs)
end Go.Proofs.Ythnedklbobbkcaa.Q

namespace Go.Proofs.Ythnedklbobbkcaa.Q
open Go.RowKit Go.Proofs.Ythnedklbobbkcaa.G Go.Proofs.Ythnedklbobbkcaa.PL Go.Proofs.Ythnedklbobbkcaa.Man Go.Proofs.YthnedklbobbkcaaW.PrintWords
def plain (s : ByteArray) : Bool := (bs s).all fun b => b != 61 && b != 42
theorem plain_mark (s : ByteArray) : hasMark s = !plain s := by
 unfold hasMark plain bs
 induction s.data.toList with
 | nil => rfl
 | cons x r ih => rw [List.any_cons, List.all_cons, ih]; cases h : x == 61 <;> cases h2 : x == 42 <;> simp_all [bne]
theorem plain_append (a b : ByteArray) : plain (a ++ b) = (plain a && plain b) := by
 unfold plain
 rw [bs_append, List.all_append]
def itemText (key val : ByteArray) (freq : Int) : ByteArray := if itemOk key val freq = true ∧ plain key = true ∧ plain val = true then (((key ++ (⟨#[61]⟩ : ByteArray)) ++ val) ++ (⟨#[42]⟩ : ByteArray)) ++ numText freq else ⟨#[]⟩
theorem itemOk_sizes {key val : ByteArray} {freq : Int} (h : itemOk key val freq = true) : key.size ≤ 20 ∧ val.size ≤ 40 := by
 unfold itemOk at h
 simp only [Bool.and_eq_true, decide_eq_true_eq] at h
 omega
theorem impl_ItemText_ev (key val : ByteArray) (freq : Int) (h0 : key.size ≤ 140737488351232) (h1 : val.size ≤ 140737488351232) : Ev (fun k => impl_ItemText.f k key val freq) (itemText key val freq) := by
 unfold impl_ItemText.f itemText
 refine Ev.bind (impl_ItemOk_ev key val freq h0 h1) ?_
 cases a : itemOk key val freq
 ·exact Ev.neg (by simp) (Ev.const (by simp))
 have hs := itemOk_sizes a
 have hn := numText_size freq
 refine Ev.pos rfl (Ev.pos (by omega) ?_)
 refine Ev.bind (Ev.const (show strings_ContainsAny.f (key ++ val) (⟨#[61, 42]⟩ : ByteArray) = some (hasMark (key ++ val)) from if_pos ⟨rfl, by rw [ByteArray.size_append]; omega⟩)) ?_
 rw [plain_mark, plain_append]
 cases b : plain key
 ·exact Ev.pos (by simp) (Ev.const (by simp))
 cases c : plain val
 ·exact Ev.pos (by simp) (Ev.const (by simp))
 refine Ev.neg (by simp) ?_
 refine Ev.pos (by omega) (Ev.pos (by omega) (Ev.pos (by omega) ?_))
 refine Ev.bind (impl_NumText_ev freq) ?_
 exact Ev.pos (by omega) (Ev.const (by simp))
end Go.Proofs.Ythnedklbobbkcaa.Q

namespace Go.Proofs.Ythnedklbobbkcaa.Q
open Go.RowKit Go.Proofs.Ythnedklbobbkcaa.G Go.Proofs.Ythnedklbobbkcaa.PL Go.Proofs.Ythnedklbobbkcaa.Man Go.Proofs.Ythnedklbobbkcaa.CutL Go.Proofs.YthnedklbobbkcaaW.PrintWords
/-- the first instance of a byte, and what the cut tells -/
theorem split_idx (c : UInt8) : ∀ l : List UInt8, (Lib.indexByte l c = -1 ∧ splitB c l = [l]) ∨ ∃ i : Nat, Lib.indexByte l c = i ∧ i < l.length ∧ splitB c l = l.take i :: splitB c (l.drop (i + 1)) ∧ l = l.take i ++ c :: l.drop (i + 1)
 | [] => Or.inl ⟨rfl, rfl⟩
 | b :: r => by
  rw [splitB]
  unfold Lib.indexByte
  by_cases e : b = c
  ·refine Or.inr ⟨0, ?_, by simp, ?_, ?_⟩
   ·simp [e]
   ·simp [e]
   ·simp [e]
  ·have e2 : (b == c) = false := beq_eq_false_iff_ne.2 e
   rw [if_neg e, e2]
   rcases split_idx c r with ⟨h1, h2⟩ | ⟨i, h1, h2, h3, h4⟩
   ·refine Or.inl ⟨?_, ?_⟩
    ·rw [h1]; rfl
    ·rw [h2]; rfl
   ·refine Or.inr ⟨i + 1, ?_, ?_, ?_, ?_⟩
    ·have : ¬ ((i : Int) = -1) := by omega
     rw [h1]; simp [this]
    ·rw [List.length_cons]; omega
    ·rw [h3]; rfl
    ·show b :: r = b :: (r.take i ++ c :: r.drop (i + 1))
     rw [← h4]
theorem cutAt_none {s : ByteArray} {c : UInt8} (h : Lib.indexByte (bs s) c = -1) : cutAt s c = (s, ByteArray.empty, false) := by
 have h : Lib.indexByte s.data.toList c = -1 := h
 unfold cutAt
 rw [h, if_neg (by omega)]
theorem cutAt_some {s : ByteArray} {c : UInt8} {i : Nat} (h : Lib.indexByte (bs s) c = i) : cutAt s c = (mk ((bs s).take i), mk ((bs s).drop (i + 1)), true) := by
 have h : Lib.indexByte s.data.toList c = i := h
 unfold cutAt
 rw [h, if_pos (by omega), Int.toNat_natCast, extract_mk, extract_mk, List.drop_zero, Nat.sub_zero, List.take_of_length_le (l := (bs s).drop (i + 1)) (by rw [List.length_drop, bs_length]; omega)]
theorem cutAt_size (s : ByteArray) (c : UInt8) : (cutAt s c).1.size ≤ s.size ∧ (cutAt s c).2.1.size ≤ s.size := by
 rcases split_idx c (bs s) with ⟨h, _⟩ | ⟨i, h, hi, _⟩
 ·rw [cutAt_none h]; exact ⟨Nat.le_refl _, Nat.zero_le _⟩
 ·rw [cutAt_some h]
  refine ⟨?_, ?_⟩
  ·rw [mk_size, List.length_take, bs_length]; omega
  ·rw [mk_size, List.length_drop, bs_length]; omega
def textItem (s : ByteArray) : ByteArray × ByteArray × Int × Bool :=
 if (cutAt s 61).2.2 = true ∧ (cutAt (cutAt s 61).2.1 42).2.2 = true ∧ (textNum (cutAt (cutAt s 61).2.1 42).2.1).2 = true ∧ itemText (cutAt s 61).1 (cutAt (cutAt s 61).2.1 42).1 (textNum (cutAt (cutAt s 61).2.1 42).2.1).1 = s
 then ((cutAt s 61).1, (cutAt (cutAt s 61).2.1 42).1, (textNum (cutAt (cutAt s 61).2.1 42).2.1).1, true) else ((⟨#[]⟩ : ByteArray), (⟨#[]⟩ : ByteArray), 0, false)
theorem impl_TextItem_ev (s : ByteArray) (hs : s.size ≤ 1048576) : Ev (fun k => impl_TextItem.f k s) (textItem s) := by
 unfold impl_TextItem.f textItem
 have z1 := cutAt_size s 61
 have z2 := cutAt_size (cutAt s 61).2.1 42
 refine Ev.bind (Ev.const (show strings_Cut.f s (⟨#[61]⟩ : ByteArray) = some (cutAt s 61) from by unfold strings_Cut.f; rw [if_pos (by omega), if_pos rfl])) ?_
 refine Ev.bind (Ev.const (show strings_Cut.f (cutAt s 61).2.1 (⟨#[42]⟩ : ByteArray) = some (cutAt (cutAt s 61).2.1 42) from by unfold strings_Cut.f; rw [if_pos (by omega), if_neg (by decide), if_pos rfl])) ?_
 refine Ev.bind (impl_TextNum_ev _) ?_
 by_cases a : (cutAt s 61).2.2 = true
 rotate_left
 ·exact Ev.neg a (Ev.const (by rw [if_neg (fun h => a h.1)]))
 refine Ev.pos a ?_
 by_cases b : (cutAt (cutAt s 61).2.1 42).2.2 = true
 rotate_left
 ·exact Ev.neg b (Ev.const (by rw [if_neg (fun h => b h.2.1)]))
 refine Ev.pos b ?_
 by_cases c : (textNum (cutAt (cutAt s 61).2.1 42).2.1).2 = true
 rotate_left
 ·exact Ev.neg c (Ev.const (by rw [if_neg (fun h => c h.2.2.1)]))
 refine Ev.pos c ?_
 refine Ev.bind (impl_ItemText_ev _ _ _ (by omega) (by omega)) ?_
 by_cases d : itemText (cutAt s 61).1 (cutAt (cutAt s 61).2.1 42).1 (textNum (cutAt (cutAt s 61).2.1 42).2.1).1 = s
 ·exact Ev.pos (bytes_eq.2 d) (Ev.const (by rw [if_pos ⟨a, b, c, d⟩]))
 ·exact Ev.neg (fun h => d (bytes_eq.1 h)) (Ev.const (by rw [if_neg (fun h => d h.2.2.2)]))
theorem plain_not {s : ByteArray} (h : plain s = true) : (61 : UInt8) ∉ bs s ∧ (42 : UInt8) ∉ bs s := by
 unfold plain at h
 rw [List.all_eq_true] at h
 exact ⟨fun m => absurd (h _ m) (by decide), fun m => absurd (h _ m) (by decide)⟩
end Go.Proofs.Ythnedklbobbkcaa.Q

namespace Go.Proofs.Ythnedklbobbkcaa.Q
open Go.RowKit Go.Proofs.Ythnedklbobbkcaa.G Go.Proofs.Ythnedklbobbkcaa.PL Go.Proofs.YthnedklbobbkcaaW.PrintWords Go.Proofs.YthnedklbobbkcaaW.PrintLast
theorem itemText_size (key val : ByteArray) (freq : Int) : (itemText key val freq).size ≤ 72 := by
 unfold itemText
 by_cases c : itemOk key val freq = true ∧ plain key = true ∧ plain val = true
 ·rw [if_pos c]
  have h := itemOk_sizes c.1
  have hn := numText_size freq
  simp only [ByteArray.size_append]
  rw [show (⟨#[61]⟩ : ByteArray).size = 1 from rfl, show (⟨#[42]⟩ : ByteArray).size = 1 from rfl]
  omega
 ·rw [if_neg c]; exact Nat.zero_le _
def itemsT (w : ByteArray) : List It → Option ByteArray
 | [] => some (w ++ (⟨#[10]⟩ : ByteArray))
 | x :: r => if itemText x.f0 x.f1 x.f2 = (⟨#[]⟩ : ByteArray) then none else itemsT ((w ++ (⟨#[32]⟩ : ByteArray)) ++ itemText x.f0 x.f1 x.f2) r
def numsT (w : ByteArray) : List Int → ByteArray
 | [] => w ++ (⟨#[10]⟩ : ByteArray)
 | x :: r => numsT ((w ++ (⟨#[32]⟩ : ByteArray)) ++ numText x) r
theorem itemsT_size : ∀ (l : List It) (w t : ByteArray), itemsT w l = some t → 1 ≤ t.size ∧ t.size ≤ w.size + 73 * l.length + 1
 | [], w, t, h => by
  rw [itemsT] at h
  obtain rfl := Option.some.inj h
  rw [ByteArray.size_append, show (⟨#[10]⟩ : ByteArray).size = 1 from rfl]
  simp
 | x :: r, w, t, h => by
  rw [itemsT] at h
  by_cases c : itemText x.f0 x.f1 x.f2 = (⟨#[]⟩ : ByteArray)
  ·rw [if_pos c] at h; cases h
  ·rw [if_neg c] at h
   have hh := itemsT_size r _ t h
   have hs := itemText_size x.f0 x.f1 x.f2
   rw [ByteArray.size_append, ByteArray.size_append, show (⟨#[32]⟩ : ByteArray).size = 1 from rfl] at hh
   rw [List.length_cons]
   omega
theorem numsT_size : ∀ (l : List Int) (w : ByteArray), (numsT w l).size ≤ w.size + 11 * l.length + 1
 | [], w => by rw [numsT, ByteArray.size_append, show (⟨#[10]⟩ : ByteArray).size = 1 from rfl]; simp
 | x :: r, w => by
  have hh := numsT_size r ((w ++ (⟨#[32]⟩ : ByteArray)) ++ numText x)
  have hs := numText_size x
  rw [ByteArray.size_append, ByteArray.size_append, show (⟨#[32]⟩ : ByteArray).size = 1 from rfl] at hh
  rw [numsT, List.length_cons]
  omega
theorem numsT_append : ∀ (l : List Int) (p w : ByteArray), numsT (p ++ w) l = p ++ numsT w l
 | [], p, w => by rw [numsT, numsT, ByteArray.append_assoc]
 | x :: r, p, w => by rw [numsT, numsT, ← numsT_append r, ByteArray.append_assoc, ByteArray.append_assoc, ByteArray.append_assoc]
def optText : Option ByteArray → ByteArray
 | some t => t
 | none => (⟨#[]⟩ : ByteArray)
theorem impl_itemsText_l0 (l : List It) (hl : small l) : ∀ (d i : Nat) (w : ByteArray), i + d = l.length → w.size ≤ 100 + 73 * i → Ev (fun k => impl_itemsText.l0 k w l (l.length : Int) (i : Int)) (optText (itemsT w (l.drop i))) := by
 have hl1 := hl.1
 intro d
 induction d with
 | zero =>
  intro i w hi hw
  rw [List.drop_of_length_le (by omega), itemsT]
  refine Ev.step (fun _ => rfl) ?_
  simp only [impl_itemsText.l0]
  exact Ev.neg (by omega) (Ev.pos (by omega) (Ev.const rfl))
 | succ d ih =>
  intro i w hi hw
  have hx : i < l.length := by omega
  have hm := hl.2 l[i] (List.getElem_mem hx)
  have er : rd_T122 l (i : Int) = l[i] := getD_at hx _
  have hs := itemText_size l[i].f0 l[i].f1 l[i].f2
  refine Ev.step (fun _ => rfl) ?_
  simp only [impl_itemsText.l0]
  rw [er, drop_at hx, itemsT]
  refine Ev.pos (by omega) (Ev.pos (by omega) (Ev.pos (by omega) ?_))
  refine Ev.bind (impl_ItemText_ev _ _ _ hm.1 hm.2) ?_
  by_cases c : itemText l[i].f0 l[i].f1 l[i].f2 = (⟨#[]⟩ : ByteArray)
  ·exact Ev.pos (toList_nil.2 c) (Ev.const (by rw [if_pos c]; rfl))
  ·refine Ev.neg (fun h => c (toList_nil.1 h)) (Ev.pos (by omega) (Ev.pos (by omega) ?_))
   rw [if_neg c, wsucc (by omega)]
   refine ih (i + 1) _ (by omega) ?_
   rw [ByteArray.size_append, ByteArray.size_append, show (⟨#[32]⟩ : ByteArray).size = 1 from rfl]
   omega
theorem impl_itemsText_ev (w : ByteArray) (l : List It) (hl : small l) (hw : w.size ≤ 100) : Ev (fun k => impl_itemsText.f k w l) (optText (itemsT w l)) := by
 unfold impl_itemsText.f
 exact impl_itemsText_l0 l hl l.length 0 w (by omega) (by omega)
theorem impl_ThreeText_l0 (l : List Int) (hl : l.length ≤ 4194304) : ∀ (d i : Nat) (w : ByteArray), i + d = l.length → w.size ≤ 1000000000 + 11 * i → Ev (fun k => impl_ThreeText.l0 k w l (l.length : Int) (i : Int)) (numsT w (l.drop i)) := by
 intro d
 induction d with
 | zero =>
  intro i w hi hw
  rw [List.drop_of_length_le (by omega), numsT]
  refine Ev.step (fun _ => rfl) ?_
  simp only [impl_ThreeText.l0]
  exact Ev.neg (by omega) (Ev.pos (by omega) (Ev.const rfl))
 | succ d ih =>
  intro i w hi hw
  have hx : i < l.length := by omega
  have er : rd l (i : Int) = l[i] := getD_at hx _
  have hs := numText_size l[i]
  refine Ev.step (fun _ => rfl) ?_
  simp only [impl_ThreeText.l0]
  rw [er, drop_at hx, numsT]
  refine Ev.pos (by omega) (Ev.pos (by omega) (Ev.pos (by omega) (Ev.pos (by omega) ?_)))
  refine Ev.bind (impl_NumText_ev _) (Ev.pos (by omega) ?_)
  rw [wsucc (by omega)]
  refine ih (i + 1) _ (by omega) ?_
  rw [ByteArray.size_append, ByteArray.size_append, show (⟨#[32]⟩ : ByteArray).size = 1 from rfl]
  omega
theorem impl_glued3 (a b c : ByteArray) (ha : a.size ≤ 100) (hb : b.size ≤ 100) (hc : c.size ≤ 100) : Ev (fun k => impl_glued.f k [a, b, c]) ((((a ++ (⟨#[32]⟩ : ByteArray)) ++ b) ++ (⟨#[32]⟩ : ByteArray)) ++ c) := by
 unfold impl_glued.f
 have e0 : rdOf ByteArray.empty [a, b, c] 0 = a := rfl
 have e1 : rdOf ByteArray.empty [a, b, c] 1 = b := rfl
 have e2 : rdOf ByteArray.empty [a, b, c] 2 = c := rfl
 have z : (⟨#[]⟩ : ByteArray).size = 0 := rfl
 have s1 : (⟨#[32]⟩ : ByteArray).size = 1 := rfl
 show Ev (fun k => impl_glued.l0 k (⟨#[]⟩ : ByteArray) [a, b, c] 3 0) _
 refine Ev.step (fun _ => rfl) ?_
 simp only [impl_glued.l0]
 refine Ev.pos (by omega) (Ev.pos (by omega) (Ev.pos (by simp) (Ev.neg (by omega) ?_)))
 rw [e0, show wrap64 (0 + 1) = 1 from by rw [w64 (by omega) (by omega)]; rfl, empty_append]
 refine Ev.pos (by omega) (Ev.step (fun _ => rfl) ?_)
 simp only [impl_glued.l0]
 refine Ev.pos (by omega) (Ev.pos (by omega) (Ev.pos (by simp) (Ev.pos (by omega) ?_)))
 rw [e1, show wrap64 (1 + 1) = 2 from by rw [w64 (by omega) (by omega)]; rfl]
 refine Ev.pos (by omega) (Ev.pos (by omega) (Ev.step (fun _ => rfl) ?_))
 simp only [impl_glued.l0]
 refine Ev.pos (by omega) (Ev.pos (by omega) (Ev.pos (by simp) (Ev.pos (by omega) ?_)))
 rw [e2, show wrap64 (2 + 1) = 3 from by rw [w64 (by omega) (by omega)]; rfl]
 refine Ev.pos (by simp only [ByteArray.size_append]; omega) (Ev.pos (by simp only [ByteArray.size_append]; omega) (Ev.step (fun _ => rfl) ?_))
 simp only [impl_glued.l0]
 exact Ev.neg (by omega) (Ev.const rfl)
def threeText (cap most : Int) (s m : List It) (g : List Int) : ByteArray :=
 if threeOk cap most s m g = true then
  match itemsT (⟨#[115, 109, 97, 108, 108]⟩ : ByteArray) s, itemsT (⟨#[109, 97, 105, 110]⟩ : ByteArray) m with
  | some a, some b => ((numsT (⟨#[116, 104, 114, 101, 101]⟩ : ByteArray) [cap, most] ++ a) ++ b) ++ numsT (⟨#[103, 104, 111, 115, 116]⟩ : ByteArray) g
  | _, _ => (⟨#[]⟩ : ByteArray)
 else (⟨#[]⟩ : ByteArray)
theorem numsFrom_all (g : List Int) : ∀ (l : List Int) (i : Nat), numsFrom g i l = true → ∀ x ∈ l, isNum x = true
 | [], _, _ => by simp
 | y :: r, i, h => by
  rw [numsFrom, Bool.and_eq_true, Bool.and_eq_true] at h
  intro x hx
  rcases List.mem_cons.1 hx with rfl | hx
  ·exact h.1
  ·exact numsFrom_all g r _ h.2.2 x hx
theorem threeOk_nums {cap most : Int} {s m : List It} {g : List Int} (h : threeOk cap most s m g = true) : (1 ≤ cap ∧ cap ≤ 60) ∧ (1 ≤ most ∧ most ≤ cap) ∧ ∀ x ∈ g, isNum x = true := by
 unfold threeOk at h
 simp only [Bool.and_eq_true, decide_eq_true_eq] at h
 exact ⟨h.1, h.2.1, numsFrom_all g g 0 h.2.2.2.2.2⟩
abbrev Fine (l : List It) : Prop := l.length ≤ 2097152 ∧ ∀ x ∈ l, x.f0.size ≤ 140737488351232 ∧ x.f1.size ≤ 140737488351232
theorem fine_small {l : List It} (h : Fine l) : small l := ⟨by have := h.1; omega, h.2⟩
theorem impl_ThreeText_ev (cap most : Int) (s m : List It) (g : List Int) (hs : Fine s) (hm : Fine m) (hg : g.length ≤ 2097152) : Ev (fun k => impl_ThreeText.f k cap most s m g) (threeText cap most s m g) := by
 unfold impl_ThreeText.f threeText
 have hsl := hs.1
 have hml := hm.1
 refine Ev.bind (impl_itemsText_ev _ s (fine_small hs) (show (5 : Nat) ≤ 100 by omega)) ?_
 refine Ev.bind (impl_itemsText_ev _ m (fine_small hm) (show (4 : Nat) ≤ 100 by omega)) ?_
 refine Ev.bind (impl_ThreeOk_ev cap most s m g hs hm hg) ?_
 have hz := itemsT_size s (⟨#[115, 109, 97, 108, 108]⟩ : ByteArray)
 have hy := itemsT_size m (⟨#[109, 97, 105, 110]⟩ : ByteArray)
 rw [show (⟨#[115, 109, 97, 108, 108]⟩ : ByteArray).size = 5 from rfl] at hz
 rw [show (⟨#[109, 97, 105, 110]⟩ : ByteArray).size = 4 from rfl] at hy
 have hj : ∀ x y, Ev (fun k => impl_ThreeText.j0 k x y true cap most s m g) (⟨#[]⟩ : ByteArray) := by
  intro x y
  refine Ev.step (fun _ => rfl) ?_
  simp only [impl_ThreeText.j0]
  exact Ev.const rfl
 cases c : threeOk cap most s m g
 ·refine Ev.neg (by simp) ?_
  exact Ev.to (hj _ _) (by simp)
 obtain ⟨hc1, hc2, hn⟩ := threeOk_nums c
 refine Ev.pos rfl ?_
 rw [if_pos rfl]
 cases a : itemsT (⟨#[115, 109, 97, 108, 108]⟩ : ByteArray) s with
 | none => exact Ev.pos (toList_nil.2 rfl) (hj _ _)
 | some ta =>
  have na : ta ≠ (⟨#[]⟩ : ByteArray) := by
   intro e
   have := (hz ta a).1
   rw [e] at this
   exact absurd this (by decide)
  refine Ev.neg (fun h => na (toList_nil.1 h)) ?_
  cases b : itemsT (⟨#[109, 97, 105, 110]⟩ : ByteArray) m with
  | none =>
   have e : ((optText none).toList == ([] : List UInt8)) = true := by
    rw [beq_iff_eq]; exact toList_nil.2 rfl
   rw [e]
   exact hj _ _
  | some tb =>
   have nb : tb ≠ (⟨#[]⟩ : ByteArray) := by
    intro e
    have := (hy tb b).1
    rw [e] at this
    exact absurd this (by decide)
   have e : ((optText (some tb)).toList == ([] : List UInt8)) = false := by
    rw [beq_eq_false_iff_ne]; exact fun h => nb (toList_nil.1 h)
   rw [e]
   have za := (hz ta a).2
   have zb := (hy tb b).2
   have n1 := numText_size cap
   have n2 := numText_size most
   have s32 : (⟨#[32]⟩ : ByteArray).size = 1 := rfl
   have s10 : (⟨#[10]⟩ : ByteArray).size = 1 := rfl
   have s5 : (⟨#[116, 104, 114, 101, 101]⟩ : ByteArray).size = 5 := rfl
   have g5 : (⟨#[103, 104, 111, 115, 116]⟩ : ByteArray).size = 5 := rfl
   refine Ev.step (fun _ => rfl) ?_
   simp only [impl_ThreeText.j0, optText]
   refine Ev.neg (by simp) ?_
   refine Ev.bind (impl_NumText_ev cap) (Ev.bind (impl_NumText_ev most) ?_)
   refine Ev.bind (impl_glued3 _ _ _ (by omega) (by omega) (by omega)) ?_
   refine Ev.pos (by simp only [ByteArray.size_append]; omega) (Ev.pos (by simp only [ByteArray.size_append]; omega) (Ev.pos (by simp only [ByteArray.size_append]; omega) (Ev.pos (by simp only [ByteArray.size_append]; omega) ?_)))
   refine Ev.to (impl_ThreeText_l0 g (by omega) g.length 0 _ (by omega) (by simp only [ByteArray.size_append]; omega)) ?_
   rw [List.drop_zero, numsT_append]
   rfl
end Go.Proofs.Ythnedklbobbkcaa.Q

namespace Go.Proofs.Ythnedklbobbkcaa.Q
open Go.RowKit Go.Proofs.Ythnedklbobbkcaa.G Go.Proofs.Ythnedklbobbkcaa.PL Go.Proofs.Ythnedklbobbkcaa.CutL Go.Proofs.YthnedklbobbkcaaW.PrintWords
theorem itemText_free (key val : ByteArray) (n : Int) : (32 : UInt8) ∉ bs (itemText key val n) ∧ (10 : UInt8) ∉ bs (itemText key val n) := by
 unfold itemText
 by_cases c : itemOk key val n = true ∧ plain key = true ∧ plain val = true
 ·rw [if_pos c]
  have h := c.1
  unfold itemOk clean at h
  simp only [Bool.and_eq_true, decide_eq_true_eq] at h
  obtain ⟨⟨⟨⟨⟨⟨_, _⟩, hk⟩, _⟩, hv⟩, _⟩, _⟩ := h
  rw [List.all_eq_true] at hk hv
  simp only [bs_append, List.mem_append, not_or]
  rw [show bs (⟨#[61]⟩ : ByteArray) = [61] from rfl, show bs (⟨#[42]⟩ : ByteArray) = [42] from rfl]
  exact ⟨⟨⟨⟨⟨fun m => absurd (hk _ m) (by decide), by decide⟩, fun m => absurd (hv _ m) (by decide)⟩, by decide⟩, numText_free n (by decide)⟩, ⟨⟨⟨⟨fun m => absurd (hk _ m) (by decide), by decide⟩, fun m => absurd (hv _ m) (by decide)⟩, by decide⟩, numText_free n (by decide)⟩⟩
 ·rw [if_neg c]
  simp [bs]
theorem textItem_size (s : ByteArray) (hs : s.size ≤ 1048576) : (textItem s).1.size ≤ 1048576 ∧ (textItem s).2.1.size ≤ 1048576 := by
 have z1 := cutAt_size s 61
 have z2 := cutAt_size (cutAt s 61).2.1 42
 unfold textItem
 split
 ·exact ⟨by dsimp only; omega, by dsimp only; omega⟩
 ·exact ⟨by decide, by decide⟩
abbrev mkIt (s : ByteArray) : It := ⟨(textItem s).1, (textItem s).2.1, (textItem s).2.2.1⟩
def numsOf (ws : List (List UInt8)) : List Int := ws.tail.map fun w => (textNum (mk w)).1
def numsAll (ws : List (List UInt8)) : Bool := ws.tail.all fun w => (textNum (mk w)).2
def itemsOf (ws : List (List UInt8)) : List It := ws.tail.map fun w => mkIt (mk w)
def itemsAll (ws : List (List UInt8)) : Bool := ws.tail.all fun w => (textItem (mk w)).2.2.2
theorem impl_numbers_ev (s word : ByteArray) (hs : s.size ≤ 1048576) : Ev (fun k => impl_numbers.f k s word) (if numsAll (wordsB (bs s)) = true then (numsOf (wordsB (bs s)), decide ((wordsB (bs s)).headD [] = bs word)) else ([], false)) := by
 have hl : (wordsB (bs s)).length ≤ 1048577 := by have := split_len 32 (bs s); rw [bs_length] at this; unfold wordsB; omega
 have h0 : wordsB (bs s) ≠ [] := splitB_ne_nil 32 (bs s)
 unfold impl_numbers.f
 refine Ev.bind (impl_Cut_ev s hs) ?_
 generalize wordsB (bs s) = ws at *
 have hp := List.length_pos_iff.2 h0
 have go : ∀ (l : List (List UInt8)), l.length ≤ 1048577 → ∀ (d i : Nat) (out : List Int), i + d = l.length → out.length ≤ i → Ev (fun k => impl_numbers.l0 k word (ws.map mk) out (l.map mk) ((l.map mk).length : Int) (i : Int)) (if ((l.drop i).all fun w => (textNum (mk w)).2) = true then (out ++ (l.drop i).map fun w => (textNum (mk w)).1, decide (ws.headD [] = bs word)) else ([], false)) := by
  intro l hl d
  induction d with
  | zero =>
   intro i out hi ho
   refine Ev.step (fun _ => rfl) ?_
   simp only [impl_numbers.l0]
   rw [List.drop_of_length_le (by omega)]
   have e := rdmk (l := ws) (i := 0) hp
   rw [show ((0 : Nat) : Int) = 0 from rfl] at e
   rw [e]
   refine Ev.neg (by rw [List.length_map]; omega) (Ev.pos (by rw [List.length_map]; omega) (Ev.const ?_))
   rw [List.all_nil, if_pos rfl, bs_toList, bs_toList, bs_of_mk]
   cases ws with
   | nil => exact absurd rfl h0
   | cons x r =>
    have e2 : ((x :: r)[0] == bs word) = decide ((x :: r).headD [] = bs word) := by
     rw [Bool.eq_iff_iff, beq_iff_eq, decide_eq_true_iff]; rfl
    rw [e2, List.map_nil, List.append_nil]
  | succ d ih =>
   intro i out hi ho
   have hx : i < l.length := by omega
   refine Ev.step (fun _ => rfl) ?_
   simp only [impl_numbers.l0]
   rw [rdmk hx, drop_at hx, wsucc (by omega), List.all_cons]
   refine Ev.pos (by rw [List.length_map]; omega) (Ev.pos (by omega) (Ev.pos (by rw [List.length_map]; omega) ?_))
   refine Ev.bind (impl_TextNum_ev _) ?_
   cases q : (textNum (mk l[i])).2
   ·exact Ev.neg (by simp) (Ev.const (by simp))
   ·refine Ev.pos rfl (Ev.pos (by omega) ?_)
    refine Ev.to (ih (i + 1) _ (by omega) (by rw [List.length_append, List.length_singleton]; omega)) (by rw [Bool.true_and, List.map_cons, List.append_assoc]; rfl)
 refine Ev.pos (by rw [List.length_map]; omega) (Ev.bind (Ev.const rfl) ?_)
 rw [← List.map_tail]
 unfold numsAll numsOf
 exact Ev.to (go ws.tail (by rw [List.length_tail]; omega) ws.tail.length 0 [] (by omega) (by simp)) (by simp)
theorem impl_items_ev (s word : ByteArray) (hs : s.size ≤ 1048576) : Ev (fun k => impl_items.f k s word) (if itemsAll (wordsB (bs s)) = true then (itemsOf (wordsB (bs s)), decide ((wordsB (bs s)).headD [] = bs word)) else ([], false)) := by
 have hl : (wordsB (bs s)).length ≤ 1048577 := by have := split_len 32 (bs s); rw [bs_length] at this; unfold wordsB; omega
 have h0 : wordsB (bs s) ≠ [] := splitB_ne_nil 32 (bs s)
 have hz : ∀ w ∈ wordsB (bs s), w.length ≤ 1048576 := fun w hw => by have := split_mem_len 32 (bs s) w hw; rw [bs_length] at this; omega
 unfold impl_items.f
 refine Ev.bind (impl_Cut_ev s hs) ?_
 generalize wordsB (bs s) = ws at *
 have hp := List.length_pos_iff.2 h0
 have go : ∀ (l : List (List UInt8)), l.length ≤ 1048577 → (∀ w ∈ l, w.length ≤ 1048576) → ∀ (d i : Nat) (out : List It), i + d = l.length → out.length ≤ i → Ev (fun k => impl_items.l0 k word (ws.map mk) out (l.map mk) ((l.map mk).length : Int) (i : Int)) (if ((l.drop i).all fun w => (textItem (mk w)).2.2.2) = true then (out ++ (l.drop i).map fun w => mkIt (mk w), decide (ws.headD [] = bs word)) else ([], false)) := by
  intro l hl hz d
  induction d with
  | zero =>
   intro i out hi ho
   refine Ev.step (fun _ => rfl) ?_
   simp only [impl_items.l0]
   rw [List.drop_of_length_le (by omega)]
   have e := rdmk (l := ws) (i := 0) hp
   rw [show ((0 : Nat) : Int) = 0 from rfl] at e
   rw [e]
   refine Ev.neg (by rw [List.length_map]; omega) (Ev.pos (by rw [List.length_map]; omega) (Ev.const ?_))
   rw [List.all_nil, if_pos rfl, bs_toList, bs_toList, bs_of_mk]
   cases ws with
   | nil => exact absurd rfl h0
   | cons x r =>
    have e2 : ((x :: r)[0] == bs word) = decide ((x :: r).headD [] = bs word) := by
     rw [Bool.eq_iff_iff, beq_iff_eq, decide_eq_true_iff]; rfl
    rw [e2, List.map_nil, List.append_nil]
  | succ d ih =>
   intro i out hi ho
   have hx : i < l.length := by omega
   refine Ev.step (fun _ => rfl) ?_
   simp only [impl_items.l0]
   rw [rdmk hx, drop_at hx, wsucc (by omega), List.all_cons]
   refine Ev.pos (by rw [List.length_map]; omega) (Ev.pos (by omega) (Ev.pos (by rw [List.length_map]; omega) ?_))
   refine Ev.bind (impl_TextItem_ev _ (by rw [mk_size]; exact hz _ (List.getElem_mem hx))) ?_
   cases q : (textItem (mk l[i])).2.2.2
   ·exact Ev.neg (by simp) (Ev.const (by simp))
   ·refine Ev.pos rfl (Ev.pos (by omega) ?_)
    refine Ev.to (ih (i + 1) _ (by omega) (by rw [List.length_append, List.length_singleton]; omega)) (by rw [Bool.true_and, List.map_cons, List.append_assoc]; rfl)
 refine Ev.pos (by rw [List.length_map]; omega) (Ev.bind (Ev.const rfl) ?_)
 rw [← List.map_tail]
 unfold itemsAll itemsOf
 exact Ev.to (go ws.tail (by rw [List.length_tail]; omega) (fun w hw => hz w (List.mem_of_mem_tail hw)) ws.tail.length 0 [] (by omega) (by simp)) (by simp)
abbrev wThree : ByteArray := ⟨#[116, 104, 114, 101, 101]⟩
abbrev wSmall : ByteArray := ⟨#[115, 109, 97, 108, 108]⟩
abbrev wMain : ByteArray := ⟨#[109, 97, 105, 110]⟩
abbrev wGhost : ByteArray := ⟨#[103, 104, 111, 115, 116]⟩
theorem numsT_words : ∀ (l : List Int) (w : ByteArray), bs (numsT w l) = joinW 32 (bs w :: l.map fun n => bs (numText n)) ++ [10]
 | [], w => by rw [numsT, bs_append]; rfl
 | x :: r, w => by
  rw [numsT, numsT_words r, bs_append, bs_append, List.map_cons, show bs (⟨#[32]⟩ : ByteArray) = [32] from rfl, List.append_assoc, List.singleton_append, join_acc]
theorem itemsT_words : ∀ (l : List It) (w t : ByteArray), itemsT w l = some t ↔ (∀ x ∈ l, itemText x.f0 x.f1 x.f2 ≠ (⟨#[]⟩ : ByteArray)) ∧ bs t = joinW 32 (bs w :: l.map fun x => bs (itemText x.f0 x.f1 x.f2)) ++ [10]
 | [], w, t => by
  rw [itemsT]
  constructor
  ·intro h
   rw [← Option.some.inj h, bs_append]
   exact ⟨fun x hx => absurd hx (by simp), rfl⟩
  ·rintro ⟨_, h⟩
   refine congrArg some (bs_inj ?_)
   rw [h, bs_append]; rfl
 | x :: r, w, t => by
  rw [itemsT]
  by_cases c : itemText x.f0 x.f1 x.f2 = (⟨#[]⟩ : ByteArray)
  ·rw [if_pos c]
   exact ⟨fun h => (by cases h), fun h => absurd c (h.1 x List.mem_cons_self)⟩
  ·rw [if_neg c, itemsT_words r, bs_append, bs_append, List.map_cons, show bs (⟨#[32]⟩ : ByteArray) = [32] from rfl, List.append_assoc, List.singleton_append, join_acc]
   constructor
   ·rintro ⟨h1, h2⟩
    refine ⟨fun y hy => ?_, h2⟩
    rcases List.mem_cons.1 hy with rfl | hy
    ·exact c
    ·exact h1 y hy
   ·rintro ⟨h1, h2⟩
    exact ⟨fun y hy => h1 y (List.mem_cons_of_mem _ hy), h2⟩
theorem join_free {c d : UInt8} (hd : d ≠ c) : ∀ (l : List (List UInt8)), (∀ w ∈ l, d ∉ w) → d ∉ joinW c l
 | [], _ => by simp [joinW]
 | [x], h => by rw [joinW]; exact h x List.mem_cons_self
 | x :: y :: r, h => by
  rw [joinW, List.mem_append, not_or]
  refine ⟨h x List.mem_cons_self, fun m => ?_⟩
  rcases List.mem_cons.1 m with m | m
  ·exact hd m
  ·exact join_free hd (y :: r) (fun w hw => h w (List.mem_cons_of_mem _ hw)) m
/-- A line is right: its words are the word and texts of numbers. -/
def lineN (word : ByteArray) (l : List UInt8) : Prop := numsAll (wordsB l) = true ∧ (wordsB l).headD [] = bs word
def lineI (word : ByteArray) (l : List UInt8) : Prop := itemsAll (wordsB l) = true ∧ (wordsB l).headD [] = bs word
theorem of_lineN {word : ByteArray} {l : List UInt8} {ns : List Int} (hw : (32 : UInt8) ∉ bs word) (h : l = joinW 32 (bs word :: ns.map fun n => bs (numText n))) : wordsB l = bs word :: ns.map fun n => bs (numText n) := by
 unfold wordsB
 rw [h]
 refine split_join 32 _ (by simp) (fun w hw' => ?_)
 rcases List.mem_cons.1 hw' with rfl | hw'
 ·exact hw
 ·obtain ⟨n, _, rfl⟩ := List.mem_map.1 hw'
  exact numText_free n (by decide)
instance (w : ByteArray) (l : List UInt8) : Decidable (lineN w l) := by unfold lineN; infer_instance
instance (w : ByteArray) (l : List UInt8) : Decidable (lineI w l) := by unfold lineI; infer_instance
theorem words_free (w : ByteArray) (ns : List Int) (h : (10 : UInt8) ∉ bs w) : (10 : UInt8) ∉ joinW 32 (bs w :: ns.map fun n => bs (numText n)) := by
 refine join_free (by decide) _ (fun x hx => ?_)
 rcases List.mem_cons.1 hx with rfl | hx
 ·exact h
 ·obtain ⟨n, _, rfl⟩ := List.mem_map.1 hx
  exact numText_free n (by decide)
theorem items_free (w : ByteArray) (l : List It) (h : (10 : UInt8) ∉ bs w) : (10 : UInt8) ∉ joinW 32 (bs w :: l.map fun x => bs (itemText x.f0 x.f1 x.f2)) := by
 refine join_free (by decide) _ (fun x hx => ?_)
 rcases List.mem_cons.1 hx with rfl | hx
 ·exact h
 ·obtain ⟨n, _, rfl⟩ := List.mem_map.1 hx
  exact (itemText_free _ _ _).2
theorem four_lines {u0 u1 u2 u3 : List UInt8} (h0 : (10 : UInt8) ∉ u0) (h1 : (10 : UInt8) ∉ u1) (h2 : (10 : UInt8) ∉ u2) (h3 : (10 : UInt8) ∉ u3) : splitB 10 (((u0 ++ [10] ++ (u1 ++ [10])) ++ (u2 ++ [10])) ++ (u3 ++ [10])) = [u0, u1, u2, u3, []] := by
 have e : ((u0 ++ [10] ++ (u1 ++ [10])) ++ (u2 ++ [10])) ++ (u3 ++ [10]) = u0 ++ 10 :: (u1 ++ 10 :: (u2 ++ 10 :: (u3 ++ 10 :: []))) := by simp
 rw [e, splitB_app _ _ _ h0, splitB_app _ _ _ h1, splitB_app _ _ _ h2, splitB_app _ _ _ h3]
 rfl
abbrev R3 : Type := Int × Int × List It × List It × List Int × Int
def textThree (s : ByteArray) : R3 :=
 if s.size > 8000 then (0, 0, [], [], [], 1)
 else match splitB 10 (bs s) with
  | [l0, l1, l2, l3, []] =>
   if lineN wThree l0 ∧ lineI wSmall l1 ∧ lineI wMain l2 ∧ lineN wGhost l3 ∧ (numsOf (wordsB l0)).length = 2 then
    (if threeOk (rd (numsOf (wordsB l0)) 0) (rd (numsOf (wordsB l0)) 1) (itemsOf (wordsB l1)) (itemsOf (wordsB l2)) (numsOf (wordsB l3)) = true then (rd (numsOf (wordsB l0)) 0, rd (numsOf (wordsB l0)) 1, itemsOf (wordsB l1), itemsOf (wordsB l2), numsOf (wordsB l3), 0) else (0, 0, [], [], [], 3))
   else (0, 0, [], [], [], 2)
  | _ => (0, 0, [], [], [], 2)
theorem five_lines {L : List (List UInt8)} (h : L.length = 5) : ∃ a b c d e, L = [a, b, c, d, e] := by
 match L, h with
 | [a, b, c, d, e], _ => exact ⟨a, b, c, d, e, rfl⟩
theorem line_sizes {s : ByteArray} (hs : s.size ≤ 1048576) {l : List UInt8} (h : l ∈ splitB 10 (bs s)) : l.length ≤ 1048576 ∧ (wordsB l).length ≤ 1048577 ∧ ∀ w ∈ wordsB l, w.length ≤ 1048576 := by
 have h1 := split_mem_len 10 (bs s) l h
 rw [bs_length] at h1
 have h2 := split_len 32 l
 refine ⟨by omega, by unfold wordsB; omega, fun w hw => ?_⟩
 have := split_mem_len 32 l w hw
 omega
theorem items_fine {l : List UInt8} (h : (wordsB l).length ≤ 1048577) (hw : ∀ w ∈ wordsB l, w.length ≤ 1048576) : Fine (itemsOf (wordsB l)) := by
 unfold itemsOf
 refine ⟨by rw [List.length_map, List.length_tail]; omega, fun x hx => ?_⟩
 obtain ⟨w, hm, rfl⟩ := List.mem_map.1 hx
 have hz := textItem_size (mk w) (by rw [mk_size]; exact hw w (List.mem_of_mem_tail hm))
 exact ⟨by show (textItem (mk w)).1.size ≤ _; omega, by show (textItem (mk w)).2.1.size ≤ _; omega⟩
theorem nums_len {l : List UInt8} (h : (wordsB l).length ≤ 1048577) : (numsOf (wordsB l)).length ≤ 1048577 := by
 unfold numsOf
 rw [List.length_map, List.length_tail]; omega
theorem impl_j1_bad (a : List Int) (b c : List It) (d : List Int) : Ev (fun k => impl_TextThree.j1 k a b c d true) (0, 0, [], [], [], 2) := by
 refine Ev.step (fun _ => rfl) ?_
 simp only [impl_TextThree.j1]
 exact Ev.const rfl
theorem impl_j0_bad (l : List ByteArray) : Ev (fun k => impl_TextThree.j0 k l true) (0, 0, [], [], [], 2) := by
 refine Ev.step (fun _ => rfl) ?_
 simp only [impl_TextThree.j0]
 exact Ev.const rfl
theorem pickN {w : ByteArray} {l : List UInt8} {α : Type} {x : α} {z : α} (h : lineN w l) : (if numsAll (wordsB l) = true then (x, decide ((wordsB l).headD [] = bs w)) else (z, false)) = (x, true) := by
 rw [if_pos h.1, decide_eq_true h.2]
theorem pickN_not {w : ByteArray} {l : List UInt8} {α : Type} {x : α} {z : α} (h : ¬ lineN w l) : (if numsAll (wordsB l) = true then (x, decide ((wordsB l).headD [] = bs w)) else (z, false)).2 = false := by
 by_cases c : numsAll (wordsB l) = true
 ·rw [if_pos c]; exact decide_eq_false (fun e => h ⟨c, e⟩)
 ·rw [if_neg c]
theorem pickI {w : ByteArray} {l : List UInt8} {α : Type} {x : α} {z : α} (h : lineI w l) : (if itemsAll (wordsB l) = true then (x, decide ((wordsB l).headD [] = bs w)) else (z, false)) = (x, true) := by
 rw [if_pos h.1, decide_eq_true h.2]
theorem pickI_not {w : ByteArray} {l : List UInt8} {α : Type} {x : α} {z : α} (h : ¬ lineI w l) : (if itemsAll (wordsB l) = true then (x, decide ((wordsB l).headD [] = bs w)) else (z, false)).2 = false := by
 by_cases c : itemsAll (wordsB l) = true
 ·rw [if_pos c]; exact decide_eq_false (fun e => h ⟨c, e⟩)
 ·rw [if_neg c]
theorem impl_TextThree_ev (s : ByteArray) (hs : s.size ≤ 1048576) : Ev (fun k => impl_TextThree.f k s) (textThree s) := by
 unfold impl_TextThree.f textThree
 by_cases c : s.size > 8000
 ·exact Ev.pos (by omega) (Ev.const (by rw [if_pos c]))
 refine Ev.neg (by omega) ?_
 rw [if_neg c]
 refine Ev.bind (impl_split_ev s 10 hs) ?_
 have hz := @line_sizes s hs
 generalize splitB 10 (bs s) = L at hz ⊢
 by_cases h5 : L.length = 5
 rotate_left
 ·refine Ev.neg (by rw [List.length_map]; omega) (Ev.to (impl_j0_bad _) ?_)
  split
  ·exact absurd rfl h5
  ·rfl
 obtain ⟨l0, l1, l2, l3, l4, rfl⟩ := five_lines h5
 refine Ev.pos (by simp) (Ev.pos (by simp) ?_)
 have r4 : rdOf ByteArray.empty (List.map mk [l0, l1, l2, l3, l4]) 4 = mk l4 := rfl
 rw [r4, bs_toList, bs_of_mk]
 cases l4 with
 | cons x r => exact impl_j0_bad _
 | nil =>
  refine Ev.step (fun _ => rfl) ?_
  simp only [impl_TextThree.j0]
  have r0 : rdOf ByteArray.empty (List.map mk [l0, l1, l2, l3, []]) 0 = mk l0 := rfl
  have r1 : rdOf ByteArray.empty (List.map mk [l0, l1, l2, l3, []]) 1 = mk l1 := rfl
  have r2 : rdOf ByteArray.empty (List.map mk [l0, l1, l2, l3, []]) 2 = mk l2 := rfl
  have r3 : rdOf ByteArray.empty (List.map mk [l0, l1, l2, l3, []]) 3 = mk l3 := rfl
  rw [r0, r1, r2, r3]
  have z0 := hz (l := l0) (by simp)
  have z1 := hz (l := l1) (by simp)
  have z2 := hz (l := l2) (by simp)
  have z3 := hz (l := l3) (by simp)
  refine Ev.neg (by simp) (Ev.pos (by simp) ?_)
  refine Ev.bind (impl_numbers_ev (mk l0) wThree (by rw [mk_size]; exact z0.1)) (Ev.pos (by simp) ?_)
  refine Ev.bind (impl_items_ev (mk l1) wSmall (by rw [mk_size]; exact z1.1)) (Ev.pos (by simp) ?_)
  refine Ev.bind (impl_items_ev (mk l2) wMain (by rw [mk_size]; exact z2.1)) (Ev.pos (by simp) ?_)
  refine Ev.bind (impl_numbers_ev (mk l3) wGhost (by rw [mk_size]; exact z3.1)) ?_
  simp only [bs_of_mk]
  by_cases c0 : lineN wThree l0
  rotate_left
  ·exact Ev.neg (by rw [pickN_not c0]; simp) (Ev.to (impl_j1_bad _ _ _ _) (by rw [if_neg (fun h => c0 h.1)]))
  rw [pickN c0]
  refine Ev.pos rfl ?_
  by_cases c1 : lineI wSmall l1
  rotate_left
  ·exact Ev.neg (by rw [pickI_not c1]; simp) (Ev.to (impl_j1_bad _ _ _ _) (by rw [if_neg (fun h => c1 h.2.1)]))
  rw [pickI c1]
  refine Ev.pos rfl ?_
  by_cases c2 : lineI wMain l2
  rotate_left
  ·exact Ev.neg (by rw [pickI_not c2]; simp) (Ev.to (impl_j1_bad _ _ _ _) (by rw [if_neg (fun h => c2 h.2.2.1)]))
  rw [pickI c2]
  refine Ev.pos rfl ?_
  by_cases c3 : lineN wGhost l3
  rotate_left
  ·exact Ev.neg (by rw [pickN_not c3]; simp) (Ev.to (impl_j1_bad _ _ _ _) (by rw [if_neg (fun h => c3 h.2.2.2.1)]))
  rw [pickN c3]
  refine Ev.pos rfl ?_
  by_cases c4 : (numsOf (wordsB l0)).length = 2
  rotate_left
  ·have e : (((numsOf (wordsB l0)).length : Int) != 2) = true := by rw [bne_iff_ne]; omega
   rw [e]
   exact Ev.to (impl_j1_bad _ _ _ _) (by rw [if_neg (fun h => c4 h.2.2.2.2)])
  rw [if_pos ⟨c0, c1, c2, c3, c4⟩]
  have e : (((numsOf (wordsB l0)).length : Int) != 2) = false := by rw [bne_eq_false_iff_eq]; omega
  rw [e]
  refine Ev.step (fun _ => rfl) ?_
  simp only [impl_TextThree.j1]
  refine Ev.neg (by simp) (Ev.pos (by omega) (Ev.pos (by omega) ?_))
  have hg := nums_len z3.2.1
  refine Ev.bind (impl_ThreeOk_ev _ _ _ _ _ (items_fine z1.2.1 z1.2.2) (items_fine z2.2.1 z2.2.2) (by omega)) ?_
  cases q : threeOk (rd (numsOf (wordsB l0)) 0) (rd (numsOf (wordsB l0)) 1) (itemsOf (wordsB l1)) (itemsOf (wordsB l2)) (numsOf (wordsB l3))
  ·exact Ev.neg (by simp) (Ev.const (by simp))
  ·exact Ev.pos rfl (Ev.const (by simp))
end Go.Proofs.Ythnedklbobbkcaa.Q

namespace Go.Proofs.Ythnedklbobbkcaa.Q
open Go.RowKit Go.Proofs.Ythnedklbobbkcaa.G Go.Proofs.Ythnedklbobbkcaa.PL Go.Proofs.YthnedklbobbkcaaW.PrintWords
theorem threeOk_len {cap most : Int} {s m : List It} {g : List Int} (h : threeOk cap most s m g = true) : s.length ≤ 60 ∧ m.length ≤ 60 ∧ g.length ≤ 60 := by
 unfold threeOk at h
 simp only [Bool.and_eq_true, decide_eq_true_eq] at h
 obtain ⟨h1, h2, h3, h4, _⟩ := h
 have : max 1 (cap - most) ≤ 60 := by omega
 exact ⟨by omega, by omega, by omega⟩
end Go.Proofs.Ythnedklbobbkcaa.Q

namespace Go.Proofs.Ythnedklbobbkcaa.Q
open Go.RowKit Go.Proofs.Ythnedklbobbkcaa.G Go.Proofs.Ythnedklbobbkcaa.PL Go.Proofs.Ythnedklbobbkcaa.CutL Go.Proofs.YthnedklbobbkcaaW.PrintWords
theorem numFrom_append : ∀ (a b : List UInt8) (n : Int), numFrom (a ++ b) n = (numFrom a n).bind (numFrom b)
 | [], b, n => rfl
 | x :: r, b, n => by
  rw [List.cons_append, numFrom, numFrom]
  by_cases c : (x.toNat : Int) < 48
  ·rw [if_pos c, if_pos c]; rfl
  rw [if_neg c, if_neg c]
  by_cases d : (x.toNat : Int) > 57
  ·rw [if_pos d, if_pos d]; rfl
  rw [if_neg d, if_neg d, numFrom_append r b]
theorem numFrom_dg (d n : Nat) (hd : d < 10) (hn : n ≤ 429496729) : numFrom (bs (dg d)) (n : Int) = some ((10 * n + d : Nat) : Int) := by
 rw [dg_bytes d hd, numFrom]
 have e : (UInt8.ofNat (48 + d)).toNat = 48 + d := by rw [UInt8.toNat_ofNat']; omega
 rw [e, if_neg (by omega), if_neg (by omega), numFrom]
 rw [w64 (x := 10 * (n : Int)) (by omega) (by omega), w64 (by omega) (by omega)]
 congr 1
 omega
theorem numFrom_dec : ∀ (m n : Nat), n < 10 ^ (m + 1) → n ≤ 4294967295 → numFrom (bs (dec n)) 0 = some (n : Int)
 | 0, n, h, _ => by
  have h : n < 10 := by simpa using h
  rw [dec_small h]
  have := numFrom_dg n 0 h (by omega)
  simpa using this
 | m + 1, n, h, hb => by
  by_cases c : n < 10
  ·rw [dec_small c]
   have := numFrom_dg n 0 c (by omega)
   simpa using this
  ·rw [dec_big c, bs_append, numFrom_append, numFrom_dec m (n / 10) (by rw [Nat.pow_succ] at h; omega) (by omega)]
   show numFrom (bs (dg (n % 10))) ((n / 10 : Nat) : Int) = _
   rw [numFrom_dg _ _ (Nat.mod_lt _ (by omega)) (by omega)]
   congr 1
   omega
theorem textNum_numText {a : Int} (h : isNum a = true) : textNum (numText a) = (a, true) := by
 have h' := h
 unfold isNum at h'
 simp only [Bool.and_eq_true, decide_eq_true_eq] at h'
 have e : numText a = dec a.toNat := by unfold numText; rw [if_pos h]
 have hz := dec_size10 (n := a.toNat) (by omega)
 have hf := numFrom_dec 9 a.toNat (by omega) (by omega)
 have ea : ((a.toNat : Nat) : Int) = a := by omega
 unfold textNum
 rw [e, if_pos hz, hf, ea]
 show (if numText a = dec a.toNat then (a, true) else (0, false)) = _
 rw [if_pos e]
theorem cutAt_app {c : UInt8} {a r : List UInt8} (h : c ∉ a) : cutAt (mk (a ++ c :: r)) c = (mk a, mk r, true) := by
 rcases split_idx c (a ++ c :: r) with ⟨h1, h2⟩ | ⟨i, h1, h2, h3, h4⟩
 ·rw [splitB_app c a r h] at h2
  exact absurd (List.cons.inj h2).2 (splitB_ne_nil c r)
 ·rw [splitB_app c a r h] at h3
  have e1 := (List.cons.inj h3).1
  rw [← e1] at h4
  have e2 := (List.cons.inj (List.append_cancel_left h4)).2
  rw [cutAt_some (s := mk (a ++ c :: r)) (by rw [bs_of_mk]; exact h1), bs_of_mk, ← e1, ← e2]
theorem itemText_form {x : It} (h : itemOk x.f0 x.f1 x.f2 = true) (h0 : plain x.f0 = true) (h1 : plain x.f1 = true) : itemText x.f0 x.f1 x.f2 = mk (bs x.f0 ++ 61 :: (bs x.f1 ++ 42 :: bs (numText x.f2))) := by
 unfold itemText
 rw [if_pos ⟨h, h0, h1⟩]
 refine bs_inj ?_
 simp only [bs_append, bs_of_mk]
 rw [show bs (⟨#[61]⟩ : ByteArray) = [61] from rfl, show bs (⟨#[42]⟩ : ByteArray) = [42] from rfl]
 simp
theorem itemText_some {x : It} (h : itemOk x.f0 x.f1 x.f2 = true) (h0 : plain x.f0 = true) (h1 : plain x.f1 = true) : itemText x.f0 x.f1 x.f2 ≠ (⟨#[]⟩ : ByteArray) := by
 rw [itemText_form h h0 h1]
 intro e
 have := congrArg bs e
 rw [bs_of_mk] at this
 exact absurd (congrArg List.length this) (by simp [bs])
theorem textItem_itemText {x : It} (h : itemOk x.f0 x.f1 x.f2 = true) (h0 : plain x.f0 = true) (h1 : plain x.f1 = true) : textItem (itemText x.f0 x.f1 x.f2) = (x.f0, x.f1, x.f2, true) := by
 have hn : isNum x.f2 = true := by
  unfold itemOk at h
  simp only [Bool.and_eq_true, decide_eq_true_eq] at h
  unfold isNum
  simp only [Bool.and_eq_true, decide_eq_true_eq]
  omega
 have ef := itemText_form h h0 h1
 have c1 : cutAt (itemText x.f0 x.f1 x.f2) 61 = (x.f0, mk (bs x.f1 ++ 42 :: bs (numText x.f2)), true) := by
  rw [ef, cutAt_app (plain_not h0).1, mk_of_bs]
 have c2 : cutAt (mk (bs x.f1 ++ 42 :: bs (numText x.f2))) 42 = (x.f1, numText x.f2, true) := by
  rw [cutAt_app (plain_not h1).2, mk_of_bs, mk_of_bs]
 unfold textItem
 rw [c1]
 simp only [c2, textNum_numText hn]
 rw [if_pos ⟨trivial, trivial, trivial, trivial⟩]
def PlI (s m : List It) : Prop := ∀ x ∈ s ++ m, plain x.f0 = true ∧ plain x.f1 = true
theorem numsOf_words {w : List UInt8} {ns : List Int} (h : ∀ n ∈ ns, isNum n = true) : numsOf (w :: ns.map fun n => bs (numText n)) = ns ∧ numsAll (w :: ns.map fun n => bs (numText n)) = true := by
 unfold numsOf numsAll
 rw [List.tail_cons, List.map_map, List.all_map, List.all_eq_true]
 refine ⟨?_, fun n hn => ?_⟩
 ·conv => rhs; rw [← List.map_id ns]
  refine List.map_congr_left (fun n hn => ?_)
  simp only [Function.comp_apply, mk_of_bs, id_eq]
  rw [textNum_numText (h n hn)]
 ·simp only [Function.comp_apply, mk_of_bs]
  rw [textNum_numText (h n hn)]
theorem itemsOf_words {w : List UInt8} {l : List It} (h : ∀ x ∈ l, textItem (itemText x.f0 x.f1 x.f2) = (x.f0, x.f1, x.f2, true)) : itemsOf (w :: l.map fun x => bs (itemText x.f0 x.f1 x.f2)) = l ∧ itemsAll (w :: l.map fun x => bs (itemText x.f0 x.f1 x.f2)) = true := by
 unfold itemsOf itemsAll
 rw [List.tail_cons, List.map_map, List.all_map, List.all_eq_true]
 refine ⟨?_, fun x hx => ?_⟩
 ·conv => rhs; rw [← List.map_id l]
  refine List.map_congr_left (fun x hx => ?_)
  simp only [Function.comp_apply, mk_of_bs, id_eq, mkIt]
  rw [h x hx]
 ·simp only [Function.comp_apply, mk_of_bs]
  rw [h x hx]
theorem words_items {w : List UInt8} {l : List It} (hw : (32 : UInt8) ∉ w) : wordsB (joinW 32 (w :: l.map fun x => bs (itemText x.f0 x.f1 x.f2))) = w :: l.map fun x => bs (itemText x.f0 x.f1 x.f2) := by
 unfold wordsB
 refine split_join 32 _ (by simp) (fun y hy => ?_)
 rcases List.mem_cons.1 hy with rfl | hy
 ·exact hw
 ·obtain ⟨x, _, rfl⟩ := List.mem_map.1 hy
  exact (itemText_free _ _ _).1
theorem goodFrom_ok (all : List It) : ∀ (l : List It) (i : Nat), goodFrom all i l = true → ∀ x ∈ l, itemOk x.f0 x.f1 x.f2 = true
 | [], _, _ => by simp
 | y :: r, i, h => by
  rw [goodFrom, Bool.and_eq_true, Bool.and_eq_true] at h
  intro x hx
  rcases List.mem_cons.1 hx with rfl | hx
  ·exact h.1
  ·exact goodFrom_ok all r _ h.2.2 x hx
theorem threeText_read {cap most : Int} {s m : List It} {g : List Int} (h : threeOk cap most s m g = true) (hp : PlI s m) : textThree (threeText cap most s m g) = (cap, most, s, m, g, 0) := by
 obtain ⟨l1, l2, l3⟩ := threeOk_len h
 have hk := h
 unfold threeOk at hk
 simp only [Bool.and_eq_true, decide_eq_true_eq] at hk
 obtain ⟨hc1, hc2, hroom, _, hgood, hnums⟩ := hk
 have hn := numsFrom_all g g 0 hnums
 have hio := goodFrom_ok (s ++ m) (s ++ m) 0 hgood
 have hs : ∀ x ∈ s, itemOk x.f0 x.f1 x.f2 = true ∧ plain x.f0 = true ∧ plain x.f1 = true := fun x hx => ⟨hio x (List.mem_append.2 (.inl hx)), hp x (List.mem_append.2 (.inl hx))⟩
 have hm : ∀ x ∈ m, itemOk x.f0 x.f1 x.f2 = true ∧ plain x.f0 = true ∧ plain x.f1 = true := fun x hx => ⟨hio x (List.mem_append.2 (.inr hx)), hp x (List.mem_append.2 (.inr hx))⟩
 have n0 : isNum cap = true := by unfold isNum; simp only [Bool.and_eq_true, decide_eq_true_eq]; omega
 have n1 : isNum most = true := by unfold isNum; simp only [Bool.and_eq_true, decide_eq_true_eq]; omega
 have hcm : ∀ n ∈ [cap, most], isNum n = true := by
  intro n hn
  simp only [List.mem_cons, List.not_mem_nil, or_false] at hn
  rcases hn with rfl | rfl
  ·exact n0
  ·exact n1
 have ha : itemsT wSmall s = some (mk (joinW 32 (bs wSmall :: s.map fun x => bs (itemText x.f0 x.f1 x.f2)) ++ [10])) := (itemsT_words _ _ _).2 ⟨fun x hx => itemText_some (hs x hx).1 (hs x hx).2.1 (hs x hx).2.2, by rw [bs_of_mk]⟩
 have hb : itemsT wMain m = some (mk (joinW 32 (bs wMain :: m.map fun x => bs (itemText x.f0 x.f1 x.f2)) ++ [10])) := (itemsT_words _ _ _).2 ⟨fun x hx => itemText_some (hm x hx).1 (hm x hx).2.1 (hm x hx).2.2, by rw [bs_of_mk]⟩
 have za := (itemsT_size s _ _ ha).2
 have zb := (itemsT_size m _ _ hb).2
 have zn := numsT_size [cap, most] wThree
 have zg := numsT_size g wGhost
 rw [show wSmall.size = 5 from rfl] at za
 rw [show wMain.size = 4 from rfl] at zb
 rw [show wThree.size = 5 from rfl, show [cap, most].length = 2 from rfl] at zn
 rw [show wGhost.size = 5 from rfl] at zg
 have et : threeText cap most s m g = ((numsT wThree [cap, most] ++ mk (joinW 32 (bs wSmall :: s.map fun x => bs (itemText x.f0 x.f1 x.f2)) ++ [10])) ++ mk (joinW 32 (bs wMain :: m.map fun x => bs (itemText x.f0 x.f1 x.f2)) ++ [10])) ++ numsT wGhost g := by
  unfold threeText
  rw [if_pos h]
  have ha' : itemsT (⟨#[115, 109, 97, 108, 108]⟩ : ByteArray) s = _ := ha
  have hb' : itemsT (⟨#[109, 97, 105, 110]⟩ : ByteArray) m = _ := hb
  rw [ha', hb']
 have hz : (threeText cap most s m g).size ≤ 8000 := by
  rw [et, ByteArray.size_append, ByteArray.size_append, ByteArray.size_append]
  omega
 have el : splitB 10 (bs (threeText cap most s m g)) = [joinW 32 (bs wThree :: [cap, most].map fun n => bs (numText n)), joinW 32 (bs wSmall :: s.map fun x => bs (itemText x.f0 x.f1 x.f2)), joinW 32 (bs wMain :: m.map fun x => bs (itemText x.f0 x.f1 x.f2)), joinW 32 (bs wGhost :: g.map fun n => bs (numText n)), []] := by
  rw [et, bs_append, bs_append, bs_append, numsT_words, numsT_words, bs_of_mk, bs_of_mk, four_lines (words_free _ _ (by decide)) (items_free _ _ (by decide)) (items_free _ _ (by decide)) (words_free _ _ (by decide))]
 have w0 := of_lineN (ns := [cap, most]) (word := wThree) (by decide) rfl
 have w3 := of_lineN (ns := g) (word := wGhost) (by decide) rfl
 have w1 := words_items (w := bs wSmall) (l := s) (by decide)
 have w2 := words_items (w := bs wMain) (l := m) (by decide)
 obtain ⟨p0, q0⟩ := numsOf_words (w := bs wThree) hcm
 obtain ⟨p3, q3⟩ := numsOf_words (w := bs wGhost) hn
 obtain ⟨p1, q1⟩ := itemsOf_words (w := bs wSmall) (fun x hx => textItem_itemText (hs x hx).1 (hs x hx).2.1 (hs x hx).2.2)
 obtain ⟨p2, q2⟩ := itemsOf_words (w := bs wMain) (fun x hx => textItem_itemText (hm x hx).1 (hm x hx).2.1 (hm x hx).2.2)
 unfold textThree
 rw [if_neg (by omega), el]
 simp only
 rw [w0, w1, w2, w3, p0, p1, p2, p3]
 have ex : rd [cap, most] 0 = cap := rfl
 have ey : rd [cap, most] 1 = most := rfl
 have c0 : lineN wThree (joinW 32 (bs wThree :: [cap, most].map fun n => bs (numText n))) := ⟨by rw [w0]; exact q0, by rw [w0]; rfl⟩
 have c1 : lineI wSmall (joinW 32 (bs wSmall :: s.map fun x => bs (itemText x.f0 x.f1 x.f2))) := ⟨by rw [w1]; exact q1, by rw [w1]; rfl⟩
 have c2 : lineI wMain (joinW 32 (bs wMain :: m.map fun x => bs (itemText x.f0 x.f1 x.f2))) := ⟨by rw [w2]; exact q2, by rw [w2]; rfl⟩
 have c3 : lineN wGhost (joinW 32 (bs wGhost :: g.map fun n => bs (numText n))) := ⟨by rw [w3]; exact q3, by rw [w3]; rfl⟩
 rw [if_pos ⟨c0, c1, c2, c3, rfl⟩, ex, ey, if_pos h]
end Go.Proofs.Ythnedklbobbkcaa.Q

namespace Go.Proofs.Ythnedklbobbkcaa.Q
open Go.RowKit Go.Proofs.Ythnedklbobbkcaa.G Go.Proofs.Ythnedklbobbkcaa.PL Go.Proofs.YthnedklbobbkcaaW.PrintWords
theorem impl_Lines_ev (s : ByteArray) (hs : s.size ≤ 1048576) : Ev (fun k => impl_Lines.f k s) ((linesB (bs s)).map mk) := by
 unfold impl_Lines.f linesB
 refine Ev.bind (impl_split_ev s 10 hs) ?_
 have hl := split_len 10 (bs s)
 rw [bs_length] at hl
 have hn := splitB_ne_nil 10 (bs s)
 generalize splitB 10 (bs s) = L at *
 have h1 : 0 < L.length := List.length_pos_iff.2 hn
 have ew : wrap64 (((L.map mk).length : Int) - 1) = ((L.length - 1 : Nat) : Int) := by
  rw [List.length_map, w64 (by omega) (by omega)]; omega
 rw [ew, rdmk (show L.length - 1 < L.length by omega), Int.toNat_natCast]
 refine Ev.pos (by omega) (Ev.pos (by rw [List.length_map]; omega) ?_)
 have e : L.getLast? = some L[L.length - 1] := by rw [List.getLast?_eq_getElem?, List.getElem?_eq_getElem]
 rw [e]
 by_cases c : L[L.length - 1] = []
 ·rw [c, if_pos rfl]
  refine Ev.pos (by rw [bs_toList]; rfl) (Ev.pos (by rw [List.length_map]; omega) (Ev.const ?_))
  rw [List.dropLast_eq_take, List.map_take]
 ·rw [if_neg (fun h => c (Option.some.inj h))]
  refine Ev.neg (fun h => c ?_) (Ev.const rfl)
  rw [bs_toList, bs_of_mk] at h
  exact h
abbrev Cm := S55
def cmOf (c : C8) : Cm := ⟨c.1, c.2.1, c.2.2.1, ⟨c.2.2.2.1, c.2.2.2.2.1, c.2.2.2.2.2.1⟩, c.2.2.2.2.2.2.1⟩
def skipL (l : List UInt8) : Bool := if l = [] then true else (bt (mk l) 0 == 35)
def readT : List (List UInt8) → Nat → List Cm → List Cm × Int
 | [], _, out => (out, 0)
 | l :: r, i, out => if skipL l = true then readT r (i + 1) out
  else if (textCmd (mk l)).2.2.2.2.2.2.2 = true then (if out.length = 300 then ([], ((i + 1 : Nat) : Int)) else readT r (i + 1) (out ++ [cmOf (textCmd (mk l))]))
  else ([], ((i + 1 : Nat) : Int))
def readCmds (s : ByteArray) : List Cm × Int := if s.size > 20000 then ([], 1) else readT (linesB (bs s)) 0 []
theorem lines_small {s : ByteArray} (hs : s.size ≤ 20000) : (linesB (bs s)).length ≤ 20001 ∧ ∀ l ∈ linesB (bs s), l.length ≤ 20000 := by
 have hl := split_len 10 (bs s)
 rw [bs_length] at hl
 unfold linesB
 split
 ·refine ⟨by rw [List.length_dropLast]; omega, fun l h => ?_⟩
  have := split_mem_len 10 (bs s) l (List.dropLast_subset _ h)
  rw [bs_length] at this; omega
 ·refine ⟨by omega, fun l h => ?_⟩
  have := split_mem_len 10 (bs s) l h
  rw [bs_length] at this; omega
theorem impl_ReadCmds_l0 (L : List (List UInt8)) (hL : L.length ≤ 20001) (hz : ∀ l ∈ L, l.length ≤ 20000) : ∀ (d i : Nat) (out : List Cm), i + d = L.length → out.length ≤ i → Ev (fun k => impl_ReadCmds.l0 k out (L.map mk) ((L.map mk).length : Int) (i : Int)) (readT (L.drop i) i out) := by
 intro d
 induction d with
 | zero =>
  intro i out hi ho
  refine Ev.step (fun _ => rfl) ?_
  simp only [impl_ReadCmds.l0]
  rw [List.drop_of_length_le (by omega)]
  exact Ev.neg (by rw [List.length_map]; omega) (Ev.const rfl)
 | succ d ih =>
  intro i out hi ho
  have hx : i < L.length := by omega
  have hzi := hz _ (List.getElem_mem hx)
  have step : Ev (fun k => impl_ReadCmds.j1 k out (i : Int) (mk L[i]) (L.map mk) ((L.map mk).length : Int) (i : Int) (skipL L[i])) (readT (L[i] :: L.drop (i + 1)) i out) := by
   refine Ev.step (fun _ => rfl) ?_
   simp only [impl_ReadCmds.j1]
   rw [readT, wsucc (by omega)]
   by_cases c : skipL L[i] = true
   ·rw [if_pos c]
    exact Ev.pos c (ih (i + 1) out (by omega) (by omega))
   rw [if_neg c]
   refine Ev.neg c (Ev.bind (impl_TextCmd_ev (mk L[i]) (by rw [mk_size]; omega)) ?_)
   cases q : (textCmd (mk L[i])).2.2.2.2.2.2.2
   ·exact Ev.neg (by simp) (Ev.const (by simp))
   ·refine Ev.pos rfl ?_
    rw [if_pos rfl]
    by_cases e : out.length = 300
    ·rw [if_pos e]
     exact Ev.pos (by omega) (Ev.const rfl)
    ·rw [if_neg e]
     exact Ev.neg (by omega) (Ev.pos (by omega) (ih (i + 1) _ (by omega) (by rw [List.length_append, List.length_singleton]; omega)))
  refine Ev.step (fun _ => rfl) ?_
  simp only [impl_ReadCmds.l0]
  rw [rdmk hx, drop_at hx]
  refine Ev.pos (by rw [List.length_map]; omega) (Ev.pos (by omega) (Ev.pos (by rw [List.length_map]; omega) ?_))
  by_cases c : L[i] = []
  ·refine Ev.pos (by rw [bs_toList, bs_of_mk]; exact c) ?_
   have e : skipL L[i] = true := by unfold skipL; rw [if_pos c]
   rw [e] at step
   exact step
  ·have hp := List.length_pos_iff.2 c
   refine Ev.neg (fun h => c (by rw [bs_toList, bs_of_mk] at h; exact h)) (Ev.pos (by rw [mk_size]; omega) ?_)
   have e : skipL L[i] = (bt (mk L[i]) 0 == 35) := by unfold skipL; rw [if_neg c]
   rw [e] at step
   exact step
theorem impl_ReadCmds_ev (s : ByteArray) (hs : s.size ≤ 1048576) : Ev (fun k => impl_ReadCmds.f k s) (readCmds s) := by
 unfold impl_ReadCmds.f readCmds
 by_cases c : s.size > 20000
 ·exact Ev.pos (by omega) (Ev.const (by rw [if_pos c]))
 refine Ev.neg (by omega) (Ev.bind (impl_Lines_ev s hs) ?_)
 rw [if_neg c]
 obtain ⟨h1, h2⟩ := lines_small (s := s) (by omega)
 exact impl_ReadCmds_l0 _ h1 h2 (linesB (bs s)).length 0 [] (by omega) (by simp)
theorem clean_not {s : ByteArray} (h : clean s = true) : (32 : UInt8) ∉ bs s ∧ (10 : UInt8) ∉ bs s := by
 have key : ∀ b ∈ bs s, (b != 32 && b != 10) = true := List.all_eq_true.1 h
 exact ⟨fun m => absurd (key _ m) (by decide), fun m => absurd (key _ m) (by decide)⟩
theorem opOk_clean {kind : Int} {key val : ByteArray} (h : opOk kind key val = true) : clean key = true ∧ clean val = true := by
 unfold opOk at h
 simp only [Bool.and_eq_true] at h
 have h2 := h.1.2
 unfold itemOk at h2
 simp only [Bool.and_eq_true] at h2
 exact ⟨h2.1.1.1.1.2, h2.1.1.2⟩
theorem asksOk_clean {l : List ByteArray} (h : asksOk l = true) : ∀ s ∈ l, clean s = true := by
 intro s hs
 unfold asksOk at h
 simp only [Bool.and_eq_true, List.all_eq_true] at h
 have h2 := h.1 s hs
 unfold itemOk at h2
 simp only [Bool.and_eq_true] at h2
 exact h2.1.1.1.1.2
theorem bs_glueOn : ∀ (l : List ByteArray) (acc : ByteArray), bs (glueOn acc l) = joinW 32 (bs acc :: l.map bs)
 | [], acc => rfl
 | x :: r, acc => by
  have ih := bs_glueOn r ((acc ++ (⟨#[32]⟩ : ByteArray)) ++ x)
  have e : glueOn acc (x :: r) = glueOn ((acc ++ (⟨#[32]⟩ : ByteArray)) ++ x) r := rfl
  have e2 : bs acc ++ bs (⟨#[32]⟩ : ByteArray) ++ bs x = bs acc ++ 32 :: bs x := by simp [bs]
  rw [e, ih, bs_append, bs_append, List.map_cons, e2, join_acc]
theorem bs_glue {l : List ByteArray} (h : l ≠ []) : bs (glue l) = joinW 32 (l.map bs) := by
 cases l with
 | nil => exact absurd rfl h
 | cons x r => exact bs_glueOn r x
theorem map_mk_bs (l : List ByteArray) : (l.map bs).map mk = l := by
 rw [List.map_map]
 conv => rhs; rw [← List.map_id l]
 exact List.map_congr_left fun s _ => mk_of_bs s
theorem join_not {c : UInt8} (hc : c ≠ 32) : ∀ (ws : List (List UInt8)), (∀ w ∈ ws, c ∉ w) → c ∉ joinW 32 ws
 | [], _ => by simp [joinW]
 | [x], h => h x List.mem_cons_self
 | x :: y :: r, h => by
  have ih := join_not hc (y :: r) (fun w hw => h w (List.mem_cons_of_mem _ hw))
  have h0 := h x List.mem_cons_self
  rw [joinW]
  intro m
  rcases List.mem_append.1 m with m | m
  ·exact h0 m
  ·rcases List.mem_cons.1 m with m | m
   ·exact hc m
   ·exact ih m
theorem textOp_opText {kind : Int} {key val : ByteArray} (h : opOk kind key val = true) : textOp (opText kind key val) = (kind, key, val, true) := by
 have hw := opText_words h
 have hk : kind = 1 ∨ kind = 2 ∨ kind = 3 := by
  unfold opOk at h
  simp only [Bool.and_eq_true, decide_eq_true_eq] at h
  omega
 have hv : kind ≠ 2 → val = nilB := fun q => by
  unfold opOk at h
  simp only [Bool.and_eq_true, Bool.or_eq_true, decide_eq_true_eq] at h
  exact h.2.resolve_left q
 have hc : opCand (wordsB (bs (opText kind key val))) = (kind, key, val) := by
  rw [hw]
  rcases hk with rfl | rfl | rfl
  ·rw [if_pos rfl, hv (by decide)]
   unfold opCand
   rw [if_pos ⟨rfl, rfl⟩]
   show ((1 : Int), mk (bs key), nilB) = (1, key, nilB)
   rw [mk_of_bs]
  ·rw [if_neg (by decide), if_pos rfl]
   unfold opCand
   rw [if_neg (fun q => absurd (show kwPut = kwGet from q.1) (by decide)), if_pos ⟨rfl, rfl⟩]
   show ((2 : Int), mk (bs key), mk (bs val)) = (2, key, val)
   rw [mk_of_bs, mk_of_bs]
  ·rw [if_neg (by decide), if_neg (by decide), hv (by decide)]
   unfold opCand
   rw [if_neg (fun q => absurd (show kwDrop = kwGet from q.1) (by decide)), if_neg (fun q => absurd (show kwDrop = kwPut from q.1) (by decide)), if_pos ⟨rfl, rfl⟩]
   show ((3 : Int), mk (bs key), nilB) = (3, key, nilB)
   rw [mk_of_bs]
 unfold textOp opFin
 rw [hc, if_pos ⟨h, rfl⟩]
/-- A command as it is drawn. -/
def DrawnCmd (c : C7) : Prop :=
 (∃ a b, c = (1, a, b, 0, nilB, nilB, []) ∧ isNum a = true ∧ isNum b = true) ∨ (∃ k key val, c = (2, 0, 0, k, key, val, []) ∧ opOk k key val = true) ∨ (∃ l, c = (3, 0, 0, 0, nilB, nilB, l) ∧ asksOk l = true ∧ l ≠ [] ∧ l.length ≤ 40) ∨ c = (4, 0, 0, 0, nilB, nilB, []) ∨ c = (5, 0, 0, 0, nilB, nilB, []) ∨ (∃ a, c = (6, a, 0, 0, nilB, nilB, []) ∧ isNum a = true) ∨ c = (7, 0, 0, 0, nilB, nilB, [])
/-- What a line must be to be read. -/
def LineOk (s : ByteArray) : Prop := (∃ x r, bs s = x :: r ∧ x ≠ 35) ∧ (10 : UInt8) ∉ bs s ∧ s.size ≤ 1000
theorem cmdOf_eq (kind a b opk : Int) (key val : ByteArray) (asks : List ByteArray) : cmdOf (kind, a, b, opk, key, val, asks) = cmdText kind a b opk key val asks := rfl
def withTrue (c : C7) : C8 := (c.1, c.2.1, c.2.2.1, c.2.2.2.1, c.2.2.2.2.1, c.2.2.2.2.2.1, c.2.2.2.2.2.2, true)
theorem textCmd_of {c : C7} {s : ByteArray} (e : cmdOf c = s) (h : LineOk s) (hc : cmdCand s (wordsB (bs s)) = c) : textCmd (cmdOf c) = withTrue c ∧ LineOk (cmdOf c) := by
 rw [e]
 refine ⟨?_, h⟩
 obtain ⟨⟨x, r, hx, _⟩, _, _⟩ := h
 have hne : s ≠ nilB := fun q => by rw [q] at hx; cases hx
 unfold textCmd cmdFin
 rw [hc, if_pos ⟨hne, e⟩]
 rfl
theorem textCmd_cmdOf {c : C7} (h : DrawnCmd c) : textCmd (cmdOf c) = withTrue c ∧ LineOk (cmdOf c) := by
 rcases h with ⟨a, b, rfl, ha, hb⟩ | ⟨k, key, val, rfl, ho⟩ | ⟨l, rfl, hl, hne, hlen⟩ | rfl | rfl | ⟨a, rfl, ha⟩ | rfl
 ·have e : cmdOf (1, a, b, 0, nilB, nilB, []) = (((kwNew ++ sp) ++ numText a) ++ sp) ++ numText b := by
   rw [cmdOf_eq]
   unfold cmdText
   rw [if_pos (by simp [cmdAlone]), if_pos rfl, if_pos ⟨ha, hb⟩]
  have eb : bs ((((kwNew ++ sp) ++ numText a) ++ sp) ++ numText b) = kNew ++ 32 :: (bs (numText a) ++ 32 :: bs (numText b)) := by
   rw [bs_append, bs_append, bs_append, bs_append]; simp [bs, kwNew, sp]
  have hz : ((((kwNew ++ sp) ++ numText a) ++ sp) ++ numText b).size ≤ 1000 := by
   have := numText_size a
   have := numText_size b
   simp only [ByteArray.size_append, sz3, sz1]
   omega
  refine textCmd_of e ⟨⟨110, _, eb, by decide⟩, ?_, hz⟩ ?_
  ·rw [eb]
   intro m
   rcases List.mem_append.1 m with m | m
   ·exact absurd m (by decide)
   rcases List.mem_cons.1 m with m | m
   ·exact absurd m (by decide)
   rcases List.mem_append.1 m with m | m
   ·exact numText_free a (by decide) m
   rcases List.mem_cons.1 m with m | m
   ·exact absurd m (by decide)
   ·exact numText_free b (by decide) m
  ·rw [eb, words3 (by decide) (numText_free a (by decide)) (numText_free b (by decide))]
   unfold cmdCand
   rw [if_pos (show [kNew, bs (numText a), bs (numText b)].headD [] = kNew from rfl)]
   show ((1 : Int), (textNum (mk (bs (numText a)))).1, (textNum (mk (bs (numText b)))).1, (0 : Int), nilB, nilB, ([] : List ByteArray)) = _
   rw [mk_of_bs, mk_of_bs, textNum_numText ha, textNum_numText hb]
 ·have e : cmdOf (2, 0, 0, k, key, val, []) = opText k key val := by
   rw [cmdOf_eq]
   unfold cmdText
   rw [if_pos (by simp [cmdAlone]), if_neg (by decide), if_pos rfl]
  have hf := opOk_clean ho
  have hb : ∃ x r, bs (opText k key val) = x :: r ∧ x ≠ 35 ∧ (10 : UInt8) ∉ x :: r := by
   have n1 := (clean_not hf.1).2
   have n2 := (clean_not hf.2).2
   unfold opText
   rw [if_pos ho]
   split
   ·refine ⟨103, 101 :: 116 :: 32 :: bs key, by rw [bs_append]; rfl, by decide, ?_⟩
    simp [n1]
   split
   ·refine ⟨112, 117 :: 116 :: 32 :: (bs key ++ 32 :: bs val), by rw [bs_append, bs_append, bs_append]; simp [bs], by decide, ?_⟩
    simp [n1, n2]
   ·refine ⟨100, 114 :: 111 :: 112 :: 32 :: bs key, by rw [bs_append]; rfl, by decide, ?_⟩
    simp [n1]
  obtain ⟨x, r, h1, h2, h3⟩ := hb
  have hz : (opText k key val).size ≤ 1000 := by
   have hs : key.size ≤ 20 ∧ val.size ≤ 40 := by
    unfold opOk itemOk at ho
    simp only [Bool.and_eq_true, decide_eq_true_eq] at ho
    omega
   unfold opText
   rw [if_pos ho]
   split
   ·rw [ByteArray.size_append, show (⟨#[103, 101, 116, 32]⟩ : ByteArray).size = 4 from rfl]; omega
   split
   ·rw [ByteArray.size_append, ByteArray.size_append, ByteArray.size_append, show (⟨#[112, 117, 116, 32]⟩ : ByteArray).size = 4 from rfl, show (⟨#[32]⟩ : ByteArray).size = 1 from rfl]; omega
   ·rw [ByteArray.size_append, show (⟨#[100, 114, 111, 112, 32]⟩ : ByteArray).size = 5 from rfl]; omega
  refine textCmd_of e ⟨⟨x, r, h1, h2⟩, by rw [h1]; exact h3, hz⟩ ?_
  have hh : ∀ w : List UInt8, w ≠ kwGet → w ≠ kwPut → w ≠ kwDrop → (wordsB (bs (opText k key val))).headD [] ≠ w := by
   intro w w1 w2 w3
   rw [opText_words ho]
   split
   ·exact Ne.symm w1
   split
   ·exact Ne.symm w2
   ·exact Ne.symm w3
  unfold cmdCand
  rw [if_neg (hh _ (by decide) (by decide) (by decide)), if_neg (hh _ (by decide) (by decide) (by decide)), if_neg (hh _ (by decide) (by decide) (by decide)), if_neg (hh _ (by decide) (by decide) (by decide)), if_neg (hh _ (by decide) (by decide) (by decide)), if_neg (hh _ (by decide) (by decide) (by decide)), textOp_opText ho]
 ·have e : cmdOf (3, 0, 0, 0, nilB, nilB, l) = (⟨#[97, 115, 107, 32]⟩ : ByteArray) ++ glue l := by
   rw [cmdOf_eq]
   unfold cmdText asksText
   rw [if_pos (by simp [cmdAlone]), if_neg (by decide), if_neg (by decide), if_pos rfl, if_pos ⟨hl, hne⟩, if_pos hl]
  have eb : bs ((⟨#[97, 115, 107, 32]⟩ : ByteArray) ++ glue l) = kAsk ++ 32 :: joinW 32 (l.map bs) := by
   rw [bs_append, bs_glue hne]; rfl
  have fr : ∀ w ∈ l.map bs, (32 : UInt8) ∉ w ∧ (10 : UInt8) ∉ w := by
   intro w hw
   obtain ⟨s, hs, rfl⟩ := List.mem_map.1 hw
   exact clean_not (asksOk_clean hl s hs)
  have hz : ((⟨#[97, 115, 107, 32]⟩ : ByteArray) ++ glue l).size ≤ 1000 := by
   have ht := tsum_le (l := l) (b := 20) (fun s hs => ((asksOk_mem hl).1 s hs).2)
   have hg : (glue l).size ≤ l.length + tsum l := by
    cases l with
    | nil => exact Nat.zero_le _
    | cons x r =>
     show (glueOn x r).size ≤ _
     rw [glueOn_size]
     simp only [tsum, List.map_cons, List.sum_cons, List.length_cons]
     omega
   rw [ByteArray.size_append, show (⟨#[97, 115, 107, 32]⟩ : ByteArray).size = 4 from rfl]
   omega
  refine textCmd_of e ⟨⟨97, _, eb, by decide⟩, ?_, hz⟩ ?_
  ·rw [eb]
   intro m
   rcases List.mem_append.1 m with m | m
   ·exact absurd m (by decide)
   rcases List.mem_cons.1 m with m | m
   ·exact absurd m (by decide)
   ·exact join_not (by decide) _ (fun w hw => (fr w hw).2) m
  ·have ew : wordsB (bs ((⟨#[97, 115, 107, 32]⟩ : ByteArray) ++ glue l)) = kAsk :: l.map bs := by
    rw [eb]
    unfold wordsB
    rw [splitB_app 32 kAsk _ (by decide), split_join 32 _ (by simpa using hne) (fun w hw => (fr w hw).1)]
   rw [ew]
   unfold cmdCand
   have hd : (kAsk :: l.map bs).headD [] = kAsk := rfl
   rw [hd, if_neg (by decide), if_pos rfl]
   show ((3 : Int), (0 : Int), (0 : Int), (0 : Int), nilB, nilB, (l.map bs).map mk) = _
   rw [map_mk_bs]
 ·refine textCmd_of (s := ⟨#[115, 104, 111, 119]⟩) (by decide) ⟨⟨_, _, rfl, by decide⟩, by decide, by decide⟩ ?_
  have hw : wordsB (bs (⟨#[115, 104, 111, 119]⟩ : ByteArray)) = [kShow] := by decide
  have hd : [kShow].headD [] = kShow := rfl
  rw [hw]
  unfold cmdCand
  rw [hd, if_neg (by decide), if_neg (by decide), if_pos rfl]
 ·refine textCmd_of (s := ⟨#[114, 97, 116, 101]⟩) (by decide) ⟨⟨_, _, rfl, by decide⟩, by decide, by decide⟩ ?_
  have hw : wordsB (bs (⟨#[114, 97, 116, 101]⟩ : ByteArray)) = [kRate] := by decide
  have hd : [kRate].headD [] = kRate := rfl
  rw [hw]
  unfold cmdCand
  rw [hd, if_neg (by decide), if_neg (by decide), if_neg (by decide), if_pos rfl]
 ·have e : cmdOf (6, a, 0, 0, nilB, nilB, []) = (⟨#[108, 97, 98, 32]⟩ : ByteArray) ++ numText a := by
   rw [cmdOf_eq]
   unfold cmdText
   rw [if_pos (by simp [cmdAlone]), if_neg (by decide), if_neg (by decide), if_neg (by decide), if_neg (by decide), if_neg (by decide), if_pos rfl, if_pos ha]
  have eb : bs ((⟨#[108, 97, 98, 32]⟩ : ByteArray) ++ numText a) = kLab ++ 32 :: bs (numText a) := by
   rw [bs_append]; rfl
  have hz : ((⟨#[108, 97, 98, 32]⟩ : ByteArray) ++ numText a).size ≤ 1000 := by
   have := numText_size a
   rw [ByteArray.size_append, show (⟨#[108, 97, 98, 32]⟩ : ByteArray).size = 4 from rfl]
   omega
  refine textCmd_of e ⟨⟨108, _, eb, by decide⟩, ?_, hz⟩ ?_
  ·rw [eb]
   intro m
   rcases List.mem_append.1 m with m | m
   ·exact absurd m (by decide)
   rcases List.mem_cons.1 m with m | m
   ·exact absurd m (by decide)
   ·exact numText_free a (by decide) m
  ·rw [eb, words2 (by decide) (numText_free a (by decide))]
   unfold cmdCand
   have hd : [kLab, bs (numText a)].headD [] = kLab := rfl
   rw [hd, if_neg (by decide), if_neg (by decide), if_neg (by decide), if_neg (by decide), if_pos rfl]
   show ((6 : Int), (textNum (mk (bs (numText a)))).1, (0 : Int), (0 : Int), nilB, nilB, ([] : List ByteArray)) = _
   rw [mk_of_bs, textNum_numText ha]
 ·refine textCmd_of (s := ⟨#[115, 97, 118, 101]⟩) (by decide) ⟨⟨_, _, rfl, by decide⟩, by decide, by decide⟩ ?_
  have hw : wordsB (bs (⟨#[115, 97, 118, 101]⟩ : ByteArray)) = [kSave] := by decide
  have hd : [kSave].headD [] = kSave := rfl
  rw [hw]
  unfold cmdCand
  rw [hd, if_neg (by decide), if_neg (by decide), if_neg (by decide), if_neg (by decide), if_neg (by decide), if_pos rfl]
def askKeys : List ByteArray := [(⟨#[97]⟩ : ByteArray), (⟨#[98]⟩ : ByteArray), (⟨#[99]⟩ : ByteArray), (⟨#[100]⟩ : ByteArray), (⟨#[101]⟩ : ByteArray), (⟨#[102]⟩ : ByteArray), (⟨#[103]⟩ : ByteArray), (⟨#[104]⟩ : ByteArray)]
theorem askKey_ok : ∀ k ∈ askKeys, itemOk k ⟨#[]⟩ 0 = true := by
 intro k hk
 simp only [askKeys, List.mem_cons, List.not_mem_nil, or_false] at hk
 rcases hk with rfl | rfl | rfl | rfl | rfl | rfl | rfl | rfl <;> decide
theorem askKey_ex (b : List Int) (i h : Int) (hb : b.length ≤ 1048576) (hi : 0 ≤ i) : ∃ (s : ByteArray) (i' h' : Int), spec_l10Key.f b i h = some (s, i', h') ∧ s ∈ askKeys ∧ 0 ≤ i' := by
 obtain ⟨s, i', h', e, hs, hi'⟩ := l01Of_ex b i h askKeys hb hi (by decide) (by decide)
 refine ⟨s, i', h', ?_, hs, hi'⟩
 unfold spec_l10Key.f
 show (spec_l01Of.f b i h askKeys).bind _ = _
 rw [e]
 rfl
theorem l12Asks_l0 (b : List Int) (hb : b.length ≤ 1048576) : ∀ (n : Nat) (acc : List ByteArray) (i h : Int), acc.length + n ≤ 200 → 0 ≤ i → (∀ x ∈ acc, x ∈ askKeys) → ∃ l i' h', Ev (fun k => spec_l12Asks.l0 k acc (n : Int) b i h) (l, i', h') ∧ l.length = acc.length + n ∧ (∀ x ∈ l, x ∈ askKeys) ∧ 0 ≤ i'
 | 0, acc, i, h, _, hi, ha => by
  refine ⟨acc, i, h, Ev.step (fun _ => rfl) ?_, rfl, ha, hi⟩
  simp only [spec_l12Asks.l0]
  exact Ev.neg (by omega) (Ev.const rfl)
 | n + 1, acc, i, h, hn, hi, ha => by
  have ew : wrap64 (((n + 1 : Nat) : Int) - 1) = (n : Int) := by rw [w64 (by omega) (by omega)]; omega
  have hj : ∀ (t : Bool) (i h : Int), 0 ≤ i → (t = true → 0 < acc.length) → ∃ l i' h', Ev (fun k => spec_l12Asks.j1 k acc ((n + 1 : Nat) : Int) t b i h) (l, i', h') ∧ l.length = acc.length + (n + 1) ∧ (∀ x ∈ l, x ∈ askKeys) ∧ 0 ≤ i' := by
   intro t i h hi ht
   cases t
   ·obtain ⟨s, i1, h1, e1, hs, hi1⟩ := askKey_ex b i h hb hi
    obtain ⟨l, i', h', e, hl, hm⟩ := l12Asks_l0 b hb n (acc ++ [s]) i1 h1 (by rw [List.length_append, List.length_singleton]; omega) hi1 (by
     intro x hx
     rcases List.mem_append.1 hx with hx | hx
     ·exact ha x hx
     ·rw [List.mem_singleton.1 hx]; exact hs)
    refine ⟨l, i', h', Ev.step (fun _ => rfl) ?_, by rw [hl, List.length_append, List.length_singleton]; omega, hm⟩
    simp only [spec_l12Asks.j1]
    refine Ev.neg (by simp) (Ev.bind (Ev.const e1) (Ev.pos (by omega) ?_))
    rw [ew]
    exact e
   ·have hp := ht rfl
    obtain ⟨x, i1, h1, e1, x0, x1, _, hi1⟩ := l01Below_ex b i h (acc.length : Int) hb hi (by omega)
    have hx := x1 (by omega)
    obtain ⟨m, rfl⟩ := Int.eq_ofNat_of_zero_le x0
    have hm : m < acc.length := by omega
    have er : rdOf ByteArray.empty acc ((m : Nat) : Int) = acc[m] := getD_at hm _
    obtain ⟨l, i', h', e, hl, hmm⟩ := l12Asks_l0 b hb n (acc ++ [acc[m]]) i1 h1 (by rw [List.length_append, List.length_singleton]; omega) hi1 (by
     intro x hx
     rcases List.mem_append.1 hx with hx | hx
     ·exact ha x hx
     ·rw [List.mem_singleton.1 hx]; exact ha _ (List.getElem_mem hm))
    refine ⟨l, i', h', Ev.step (fun _ => rfl) ?_, by rw [hl, List.length_append, List.length_singleton]; omega, hmm⟩
    simp only [spec_l12Asks.j1]
    refine Ev.pos (by first | trivial | rfl) (Ev.bind (Ev.const e1) (Ev.pos x0 (Ev.pos hx (Ev.pos (by omega) ?_))))
    show Ev (fun k => spec_l12Asks.l0 k (acc ++ [rdOf ByteArray.empty acc ((m : Nat) : Int)]) (wrap64 (((n + 1 : Nat) : Int) - 1)) b i1 h1) _
    rw [er, ew]
    exact e
  obtain ⟨x, i1, h1, e1, _, _, _, hi1⟩ := l01Below_ex b i h 3 hb hi (by omega)
  by_cases c : x = 0
  ·obtain ⟨l, i', h', e, hl, hm⟩ := hj (decide ((acc.length : Int) > 0)) i1 h1 hi1 (fun q => by have := of_decide_eq_true q; omega)
   refine ⟨l, i', h', Ev.step (fun _ => rfl) ?_, hl, hm⟩
   simp only [spec_l12Asks.l0]
   exact Ev.pos (by omega) (Ev.bind (Ev.const e1) (Ev.pos c e))
  ·obtain ⟨l, i', h', e, hl, hm⟩ := hj false i1 h1 hi1 (fun q => absurd q (by simp))
   refine ⟨l, i', h', Ev.step (fun _ => rfl) ?_, hl, hm⟩
   simp only [spec_l12Asks.l0]
   exact Ev.pos (by omega) (Ev.bind (Ev.const e1) (Ev.neg c e))
theorem askKeys_ok {l : List ByteArray} (h : ∀ x ∈ l, x ∈ askKeys) (hl : l.length ≤ 300) : asksOk l = true := by
 unfold asksOk
 rw [Bool.and_eq_true, List.all_eq_true]
 exact ⟨fun s hs => askKey_ok s (h s hs), decide_eq_true hl⟩
theorem l12Asks_ex (b : List Int) (hb : b.length ≤ 1048576) (i h m : Int) (hi : 0 ≤ i) (hm0 : 0 ≤ m) (hm1 : m ≤ 100) : ∃ l i' h', Ev (fun k => spec_l12Asks.f k b i h m) (l, i', h') ∧ (l.length : Int) ≤ m ∧ (∀ x ∈ l, x ∈ askKeys) ∧ 0 ≤ i' := by
 obtain ⟨x, i1, h1, e1, x0, x1, _, hi1⟩ := l01Below_ex b i h (m + 1) hb hi (by omega)
 have hx := x1 (by omega)
 obtain ⟨n, rfl⟩ := Int.eq_ofNat_of_zero_le x0
 obtain ⟨l, i', h', e2, hl2, hm, hi'⟩ := l12Asks_l0 b hb n [] i1 h1 (by simp only [List.length_nil]; omega) hi1 (fun x hx => absurd hx (by simp))
 refine ⟨l, i', h', ?_, by rw [hl2, List.length_nil]; omega, hm, hi'⟩
 unfold spec_l12Asks.f
 rw [w64 (x := m + 1) (by omega) (by omega)]
 exact Ev.bind (Ev.const e1) e2
theorem spec_MakeAsks_ex (b : List Int) (hb : b.length ≤ 1048576) (m : Int) (hm0 : 0 ≤ m) (hm1 : m ≤ 100) : ∃ l, Ev (fun k => spec_MakeAsks.f k b m) l ∧ (l.length : Int) ≤ m ∧ ∀ x ∈ l, x ∈ askKeys := by
 obtain ⟨h, e⟩ := l01New_ev b hb
 obtain ⟨l, i', h', e2, hl, hm, _⟩ := l12Asks_ex b hb 0 (wrap64 (h + 17)) m (by omega) hm0 hm1
 refine ⟨l, ?_, hl, hm⟩
 unfold spec_MakeAsks.f
 exact Ev.bind e (Ev.bind e2 (Ev.const rfl))
def c7of (c : Cm) : C7 := (c.f0, c.f1, c.f2, c.f3.f0, c.f3.f1, c.f3.f2, c.f4)
theorem cmOf_withTrue (c : Cm) : cmOf (withTrue (c7of c)) = c := rfl
theorem l21Cmd_ex (b : List Int) (hb : b.length ≤ 1048576) (i h : Int) (hi : 0 ≤ i) : ∃ (c : Cm) (i' h' : Int), Ev (fun k => spec_l21Cmd.f k b i h) (c.f0, c.f1, c.f2, c.f3.f0, c.f3.f1, c.f3.f2, c.f4, i', h') ∧ DrawnCmd (c7of c) ∧ 0 ≤ i' := by
 obtain ⟨x, i1, h1, e1, x0, x1, _, hi1⟩ := l01Below_ex b i h 7 hb hi (by omega)
 have x1 := x1 (by omega)
 have ex : wrap64 (1 + x) = 1 + x := w64 (by omega) (by omega)
 have num : ∀ z : Int, 0 ≤ z → z ≤ 100 → isNum z = true := fun z h0 h1 => by
  unfold isNum
  rw [decide_eq_true (by omega), decide_eq_true (by omega)]; rfl
 by_cases c1 : x = 0
 ·subst c1
  obtain ⟨y, i2, h2, e2, y0, y1, _, hi2⟩ := l01Below_ex b i1 h1 5 hb hi1 (by omega)
  have y1 := y1 (by omega)
  have ey : wrap64 (1 + y) = 1 + y := w64 (by omega) (by omega)
  obtain ⟨z, i3, h3, e3, z0, z1, _, hi3⟩ := l01Below_ex b i2 h2 (1 + y) hb hi2 (by omega)
  have z1 := z1 (by omega)
  have ez : wrap64 (1 + z) = 1 + z := w64 (by omega) (by omega)
  refine ⟨⟨1, 1 + y, 1 + z, ⟨0, nilB, nilB⟩, []⟩, i3, h3, ?_, .inl ⟨1 + y, 1 + z, rfl, num _ (by omega) (by omega), num _ (by omega) (by omega)⟩, hi3⟩
  unfold spec_l21Cmd.f
  refine Ev.bind (Ev.const e1) ?_
  simp only [ex]
  refine Ev.pos rfl (Ev.bind (Ev.const e2) ?_)
  simp only [ey]
  refine Ev.bind (Ev.const e3) ?_
  simp only [ez]
  exact Ev.const rfl
 by_cases c2 : x = 1
 ·subst c2
  obtain ⟨o, i2, h2, e2, ho, hi2⟩ := l16Op_ex b i1 h1 hb hi1
  refine ⟨⟨2, 0, 0, o, []⟩, i2, h2, ?_, .inr (.inl ⟨o.f0, o.f1, o.f2, rfl, drawnOp_ok ho⟩), hi2⟩
  unfold spec_l21Cmd.f
  refine Ev.bind (Ev.const e1) ?_
  simp only [ex]
  refine Ev.neg (by decide) (Ev.pos rfl (Ev.bind (Ev.const e2) (Ev.const rfl)))
 by_cases c3 : x = 2
 ·subst c3
  obtain ⟨l, i2, h2, e2, hl, hm, hi2⟩ := l12Asks_ex b hb i1 h1 6 hi1 (by omega) (by omega)
  obtain ⟨s, i3, h3, e3, hs, hi3⟩ := askKey_ex b i2 h2 hb hi2
  refine ⟨⟨3, 0, 0, ⟨0, nilB, nilB⟩, l ++ [s]⟩, i3, h3, ?_, .inr (.inr (.inl ⟨l ++ [s], rfl, askKeys_ok (fun x hx => ?_) (by simp; omega), by simp, by simp; omega⟩)), hi3⟩
  ·unfold spec_l21Cmd.f
   refine Ev.bind (Ev.const e1) ?_
   simp only [ex]
   refine Ev.neg (by decide) (Ev.neg (by decide) (Ev.pos rfl (Ev.bind e2 (Ev.bind (Ev.const e3) (Ev.pos (by show l.length < 8796093022208; omega) (Ev.const rfl))))))
  ·rcases List.mem_append.1 hx with hx | hx
   ·exact hm x hx
   ·rw [List.mem_singleton.1 hx]; exact hs
 by_cases c6 : x = 5
 ·subst c6
  obtain ⟨y, i2, h2, e2, y0, y1, _, hi2⟩ := l01Below_ex b i1 h1 4 hb hi1 (by omega)
  have y1 := y1 (by omega)
  have ey : wrap64 (1 + y) = 1 + y := w64 (by omega) (by omega)
  refine ⟨⟨6, 1 + y, 0, ⟨0, nilB, nilB⟩, []⟩, i2, h2, ?_, .inr (.inr (.inr (.inr (.inr (.inl ⟨1 + y, rfl, num _ (by omega) (by omega)⟩))))), hi2⟩
  unfold spec_l21Cmd.f
  refine Ev.bind (Ev.const e1) ?_
  simp only [ex]
  refine Ev.neg (by decide) (Ev.neg (by decide) (Ev.neg (by decide) (Ev.pos rfl (Ev.bind (Ev.const e2) ?_))))
  simp only [ey]
  exact Ev.const rfl
 ·refine ⟨⟨1 + x, 0, 0, ⟨0, nilB, nilB⟩, []⟩, i1, h1, ?_, ?_, hi1⟩
  ·unfold spec_l21Cmd.f
   refine Ev.bind (Ev.const e1) ?_
   simp only [ex]
   exact Ev.neg (by omega) (Ev.neg (by omega) (Ev.neg (by omega) (Ev.neg (by omega) (Ev.const rfl))))
  ·have hx : x = 3 ∨ x = 4 ∨ x = 6 := by omega
   rcases hx with rfl | rfl | rfl
   ·exact .inr (.inr (.inr (.inl rfl)))
   ·exact .inr (.inr (.inr (.inr (.inl rfl))))
   ·exact .inr (.inr (.inr (.inr (.inr (.inr rfl)))))
theorem MakeCmds_l0 (b : List Int) (hb : b.length ≤ 1048576) : ∀ (n : Nat) (acc : List Cm) (i h : Int), acc.length + n ≤ 200 → 0 ≤ i → (∀ c ∈ acc, DrawnCmd (c7of c)) → ∃ l, Ev (fun k => spec_MakeCmds.l0 k acc (n : Int) b i h) l ∧ l.length = acc.length + n ∧ ∀ c ∈ l, DrawnCmd (c7of c)
 | 0, acc, i, h, _, _, ha => by
  refine ⟨acc, Ev.step (fun _ => rfl) ?_, rfl, ha⟩
  simp only [spec_MakeCmds.l0]
  exact Ev.neg (by omega) (Ev.const rfl)
 | n + 1, acc, i, h, hn, hi, ha => by
  obtain ⟨c, i1, h1, e1, hc, hi1⟩ := l21Cmd_ex b hb i h hi
  obtain ⟨l, e2, hl, hm⟩ := MakeCmds_l0 b hb n (acc ++ [c]) i1 h1 (by simp only [List.length_append, List.length_singleton]; omega) hi1 (fun y hy => by
   rcases List.mem_append.1 hy with hy | hy
   ·exact ha y hy
   ·rw [List.mem_singleton.1 hy]; exact hc)
  refine ⟨l, Ev.step (fun _ => rfl) ?_, by rw [hl]; simp only [List.length_append, List.length_singleton]; omega, hm⟩
  simp only [spec_MakeCmds.l0]
  refine Ev.pos (by omega) (Ev.bind e1 (Ev.pos (by omega) ?_))
  rw [show wrap64 (((n + 1 : Nat) : Int) - 1) = (n : Int) from by rw [w64 (by omega) (by omega)]; omega]
  exact e2
theorem spec_MakeCmds_ex (b : List Int) (hb : b.length ≤ 1048576) : ∃ l, Ev (fun k => spec_MakeCmds.f k b) l ∧ 0 < l.length ∧ l.length ≤ 10 ∧ ∀ c ∈ l, DrawnCmd (c7of c) := by
 obtain ⟨h, e⟩ := l01New_ev b hb
 obtain ⟨x, i1, h1, e1, x0, x1, _, hi1⟩ := l01Below_ex b 0 (wrap64 (h + 81)) 10 hb (by omega) (by omega)
 have x1 := x1 (by omega)
 obtain ⟨n, rfl⟩ := Int.eq_ofNat_of_zero_le x0
 obtain ⟨l, e2, hl, hm⟩ := MakeCmds_l0 b hb n [⟨1, 3, 1, ⟨0, nilB, nilB⟩, []⟩] i1 h1 (by simp only [List.length_singleton]; omega) hi1 (fun c hc => by
  rw [List.mem_singleton.1 hc]
  exact .inl ⟨3, 1, rfl, by decide, by decide⟩)
 rw [List.length_singleton] at hl
 refine ⟨l, ?_, by omega, by omega, hm⟩
 unfold spec_MakeCmds.f
 exact Ev.bind e (Ev.bind (Ev.const e1) e2)
end Go.Proofs.Ythnedklbobbkcaa.Q

namespace Go.Proofs.Ythnedklbobbkcaa.Q
open Go.RowKit Go.Proofs.Ythnedklbobbkcaa.G Go.Proofs.Ythnedklbobbkcaa.PL Go.Proofs.YthnedklbobbkcaaW.PrintWords Go.Proofs.YthnedklbobbkcaaW.PrintLast
theorem threeText_size (cap most : Int) (s m : List It) (g : List Int) (hs : Fine s) (hm : Fine m) (hg : g.length ≤ 2097152) : (threeText cap most s m g).size ≤ 140737488351232 := by
 have hsl := hs.1
 have hml := hm.1
 unfold threeText
 by_cases c : threeOk cap most s m g = true
 rotate_left
 ·rw [if_neg c]; exact Nat.zero_le _
 rw [if_pos c]
 have hz := itemsT_size s (⟨#[115, 109, 97, 108, 108]⟩ : ByteArray)
 have hy := itemsT_size m (⟨#[109, 97, 105, 110]⟩ : ByteArray)
 rw [show (⟨#[115, 109, 97, 108, 108]⟩ : ByteArray).size = 5 from rfl] at hz
 rw [show (⟨#[109, 97, 105, 110]⟩ : ByteArray).size = 4 from rfl] at hy
 cases a : itemsT (⟨#[115, 109, 97, 108, 108]⟩ : ByteArray) s with
 | none => exact Nat.zero_le _
 | some ta =>
  cases b : itemsT (⟨#[109, 97, 105, 110]⟩ : ByteArray) m with
  | none => exact Nat.zero_le _
  | some tb =>
   have za := (hz ta a).2
   have zb := (hy tb b).2
   have zn := numsT_size [cap, most] (⟨#[116, 104, 114, 101, 101]⟩ : ByteArray)
   have zg := numsT_size g (⟨#[103, 104, 111, 115, 116]⟩ : ByteArray)
   rw [show (⟨#[116, 104, 114, 101, 101]⟩ : ByteArray).size = 5 from rfl, show [cap, most].length = 2 from rfl] at zn
   rw [show (⟨#[103, 104, 111, 115, 116]⟩ : ByteArray).size = 5 from rfl] at zg
   simp only [ByteArray.size_append]
   omega
def digest (cap most : Int) (s m : List It) (g : List Int) : Int := if threeText cap most s m g = (⟨#[]⟩ : ByteArray) then 0 else hash (threeText cap most s m g)
theorem impl_Digest_ev (cap most : Int) (s m : List It) (g : List Int) (hs : Fine s) (hm : Fine m) (hg : g.length ≤ 2097152) : Ev (fun k => impl_Digest.f k cap most s m g) (digest cap most s m g) := by
 unfold impl_Digest.f digest
 refine Ev.bind (impl_ThreeText_ev cap most s m g hs hm hg) ?_
 by_cases c : threeText cap most s m g = (⟨#[]⟩ : ByteArray)
 ·exact Ev.pos (toList_nil.2 c) (Ev.const (by rw [if_pos c]))
 ·refine Ev.neg (fun h => c (toList_nil.1 h)) ?_
  rw [if_neg c]
  exact Ev.bind (impl_Hash_ev _ (threeText_size cap most s m g hs hm hg)) (Ev.const rfl)
end Go.Proofs.Ythnedklbobbkcaa.Q

namespace Go.Proofs.Ythnedklbobbkcaa.Q
open Go.RowKit Go.Proofs.Ythnedklbobbkcaa.G Go.Proofs.Ythnedklbobbkcaa.PL Go.Proofs.YthnedklbobbkcaaW.PrintWords
instance decItem : DecidableEq S122 := fun a b =>
 decidable_of_iff (a.f0 = b.f0 ∧ a.f1 = b.f1 ∧ a.f2 = b.f2) ⟨fun h => by cases a; cases b; simp_all, fun h => by rw [h]; exact ⟨rfl, rfl, rfl⟩⟩
instance decReply : DecidableEq S150 := fun a b =>
 decidable_of_iff (a.f0 = b.f0 ∧ a.f1 = b.f1 ∧ a.f2 = b.f2) ⟨fun h => by cases a; cases b; simp_all, fun h => by rw [h]; exact ⟨rfl, rfl, rfl⟩⟩
theorem item_ne (a b : S122) : (!((a.f0.toList) == (b.f0.toList)) || (!((a.f1.toList) == (b.f1.toList)) || (!(a.f2 == b.f2)))) = !decide (a = b) := by
 rw [bytes_beq, bytes_beq]
 cases a; cases b
 rw [Bool.eq_iff_iff]
 simp
theorem slices_Equal_impl_Item_impl_Item_l0 (xs ys : List S122) (hl : xs.length = ys.length) (hb : xs.length ≤ 140737488351232) : ∀ (d i : Nat), i + d = xs.length →
  Ev (fun k => slices_Equal_impl_Item_impl_Item.l0 k xs ys (xs.length : Int) i) (decide (xs.drop i = ys.drop i)) := by
 intro d
 induction d with
 | zero =>
  intro i hi
  rw [List.drop_of_length_le (by omega), List.drop_of_length_le (by omega)]
  refine Ev.step (fun _ => rfl) ?_
  simp only [slices_Equal_impl_Item_impl_Item.l0]
  exact Ev.neg (by omega) (Ev.const rfl)
 | succ d ih =>
  intro i hi
  have hx : i < xs.length := by omega
  have hy : i < ys.length := by omega
  have ex : rd_T122 xs (i : Int) = xs[i] := getD_at hx _
  have ey : rd_T122 ys (i : Int) = ys[i] := getD_at hy _
  refine Ev.step (fun _ => rfl) ?_
  simp only [slices_Equal_impl_Item_impl_Item.l0]
  rw [ex, ey, item_ne, wsucc (by omega), drop_at hx, drop_at hy, decide_cons]
  refine Ev.pos (by omega) (Ev.pos (by omega) (Ev.pos (by omega) (Ev.pos (by omega) ?_)))
  by_cases c : xs[i] = ys[i]
  ·refine Ev.neg (by simp [c]) ?_
   rw [decide_eq_true c, Bool.true_and]
   exact ih (i + 1) (by omega)
  ·refine Ev.pos (by simp [c]) (Ev.const ?_)
   rw [decide_eq_false c, Bool.false_and]
theorem slices_Equal_impl_Item_impl_Item_ev (xs ys : List S122) (hb : xs.length ≤ 140737488351232) : Ev (fun k => slices_Equal_impl_Item_impl_Item.f k xs ys) (decide (xs = ys)) := by
 unfold slices_Equal_impl_Item_impl_Item.f
 by_cases c : xs.length = ys.length
 ·exact Ev.pos (by omega) (slices_Equal_impl_Item_impl_Item_l0 xs ys c hb xs.length 0 (by omega))
 ·refine Ev.neg (by omega) (Ev.const ?_)
  have : ¬ xs = ys := fun h => c (by rw [h])
  rw [decide_eq_false this]
theorem slices_Equal_int_int_l0 (xs ys : List Int) (hl : xs.length = ys.length) (hb : xs.length ≤ 140737488351232) : ∀ (d i : Nat), i + d = xs.length →
  Ev (fun k => slices_Equal_int_int.l0 k xs ys (xs.length : Int) i) (decide (xs.drop i = ys.drop i)) := by
 intro d
 induction d with
 | zero =>
  intro i hi
  rw [List.drop_of_length_le (by omega), List.drop_of_length_le (by omega)]
  refine Ev.step (fun _ => rfl) ?_
  simp only [slices_Equal_int_int.l0]
  exact Ev.neg (by omega) (Ev.const rfl)
 | succ d ih =>
  intro i hi
  have hx : i < xs.length := by omega
  have hy : i < ys.length := by omega
  have ex : rd xs (i : Int) = xs[i] := getD_at hx _
  have ey : rd ys (i : Int) = ys[i] := getD_at hy _
  refine Ev.step (fun _ => rfl) ?_
  simp only [slices_Equal_int_int.l0]
  rw [ex, ey, wsucc (by omega), drop_at hx, drop_at hy, decide_cons]
  refine Ev.pos (by omega) (Ev.pos (by omega) (Ev.pos (by omega) (Ev.pos (by omega) ?_)))
  by_cases c : xs[i] = ys[i]
  ·refine Ev.pos c ?_
   rw [decide_eq_true c, Bool.true_and]
   exact ih (i + 1) (by omega)
  ·refine Ev.neg c (Ev.const ?_)
   rw [decide_eq_false c, Bool.false_and]
theorem slices_Equal_int_int_ev (xs ys : List Int) (hb : xs.length ≤ 140737488351232) : Ev (fun k => slices_Equal_int_int.f k xs ys) (decide (xs = ys)) := by
 unfold slices_Equal_int_int.f
 by_cases c : xs.length = ys.length
 ·exact Ev.pos (by omega) (slices_Equal_int_int_l0 xs ys c hb xs.length 0 (by omega))
 ·refine Ev.neg (by omega) (Ev.const ?_)
  have : ¬ xs = ys := fun h => c (by rw [h])
  rw [decide_eq_false this]
def alike (c0 m0 : Int) (s0 a0 : List S122) (g0 : List Int) (c1 m1 : Int) (s1 a1 : List S122) (g1 : List Int) : Bool :=
 decide (c0 = c1) && (decide (m0 = m1) && (decide (s0 = s1) && (decide (a0 = a1) && decide (g0 = g1))))
theorem impl_Alike_ev (c0 m0 : Int) (s0 a0 : List S122) (g0 : List Int) (c1 m1 : Int) (s1 a1 : List S122) (g1 : List Int) (hs : s0.length ≤ 140737488351232) (ha : a0.length ≤ 140737488351232) (hg : g0.length ≤ 140737488351232) :
  Ev (fun k => impl_Alike.f k c0 m0 s0 a0 g0 c1 m1 s1 a1 g1) (alike c0 m0 s0 a0 g0 c1 m1 s1 a1 g1) := by
 unfold impl_Alike.f alike
 by_cases a : c0 = c1
 rotate_left
 ·exact Ev.neg a (Ev.const (by simp [a]))
 refine Ev.pos a ?_
 by_cases b : m0 = m1
 rotate_left
 ·exact Ev.neg b (Ev.const (by simp [b]))
 refine Ev.pos b ?_
 rw [decide_eq_true a, decide_eq_true b, Bool.true_and, Bool.true_and]
 refine Ev.bind (slices_Equal_impl_Item_impl_Item_ev s0 s1 hs) ?_
 cases c : decide (s0 = s1)
 ·exact Ev.neg (by simp) (Ev.const (by simp))
 refine Ev.pos rfl ?_
 refine Ev.bind (slices_Equal_impl_Item_impl_Item_ev a0 a1 ha) ?_
 cases d : decide (a0 = a1)
 ·exact Ev.neg (by simp) (Ev.const (by simp))
 refine Ev.pos rfl ?_
 refine Ev.bind (slices_Equal_int_int_ev g0 g1 hg) ?_
 exact Ev.const (by simp)
end Go.Proofs.Ythnedklbobbkcaa.Q

namespace Go.Proofs.Ythnedklbobbkcaa.Q
open Go.RowKit Go.Proofs.Ythnedklbobbkcaa.G Go.Proofs.Ythnedklbobbkcaa.PL Go.Proofs.YthnedklbobbkcaaW.PrintWords Go.Proofs.YthnedklbobbkcaaW.PrintLast
theorem draw_plain : (∀ k ∈ drawKeys, plain k = true) ∧ ∀ v ∈ drawVals, plain v = true := by
 constructor
 ·intro k hk
  simp only [drawKeys, List.mem_cons, List.not_mem_nil, or_false] at hk
  rcases hk with rfl | rfl | rfl | rfl | rfl | rfl | rfl | rfl <;> decide
 ·intro v hv
  simp only [drawVals, List.mem_cons, List.not_mem_nil, or_false] at hv
  rcases hv with rfl | rfl | rfl | rfl | rfl <;> decide
theorem touch_pl {set : Bool} {val : ByteArray} (hv : set = true → plain val = true) {x : It} (h : plain x.f0 = true ∧ plain x.f1 = true) : plain (touch set val x).f0 = true ∧ plain (touch set val x).f1 = true := by
 refine ⟨h.1, ?_⟩
 show plain (if set = true then val else x.f1) = true
 by_cases c : set = true
 ·rw [if_pos c]; exact hv c
 ·rw [if_neg c]; exact h.2
theorem touched_pl {cap most : Int} {s m : List It} {g : List Int} (h : PlI s m) (set : Bool) (val key : ByteArray) (hv : set = true → plain val = true) : PlI (touched set val key cap most s m g).2.2.1 (touched set val key cap most s m g).2.2.2.1 := by
 unfold touched
 by_cases c : 0 ≤ impl_itemAt.idx key s 0
 ·rw [if_pos c]
  intro x hx
  rcases List.mem_append.1 hx with hx | hx
  ·rcases touchAt_mem hx with hx | rfl
   ·exact h x (List.mem_append.2 (.inl hx))
   ·exact touch_pl hv (h _ (List.mem_append.2 (.inl (rd_mem c idx_lt))))
  ·exact h x (List.mem_append.2 (.inr hx))
 ·rw [if_neg c]
  by_cases d : 0 ≤ impl_itemAt.idx key m 0
  ·rw [if_pos d]
   intro x hx
   rcases List.mem_append.1 hx with hx | hx
   ·exact h x (List.mem_append.2 (.inl hx))
   ·rcases touchAt_mem hx with hx | rfl
    ·exact h x (List.mem_append.2 (.inr hx))
    ·exact touch_pl hv (h _ (List.mem_append.2 (.inr (rd_mem d idx_lt))))
  ·rw [if_neg d]; exact h
theorem placed_pl {cap most : Int} {s m : List It} {g : List Int} (h : PlI s m) {key val : ByteArray} (hk : plain key = true) (hv : plain val = true) (gone : List ByteArray) : PlI (placed cap most s m g key val gone).2.2.1 (placed cap most s m g key val gone).2.2.2.1 := by
 unfold placed
 by_cases c : hash key ∈ g
 ·rw [if_pos c]
  intro x hx
  have hx : x ∈ s ++ (m ++ [⟨key, val, 0⟩]) := hx
  rw [← List.append_assoc] at hx
  rcases List.mem_append.1 hx with hx | hx
  ·exact h x hx
  ·rw [List.mem_singleton.1 hx]; exact ⟨hk, hv⟩
 ·rw [if_neg c]
  intro x hx
  rcases List.mem_append.1 hx with hx | hx
  ·rcases List.mem_append.1 hx with hx | hx
   ·exact h x (List.mem_append.2 (.inl hx))
   ·rw [List.mem_singleton.1 hx]; exact ⟨hk, hv⟩
  ·exact h x (List.mem_append.2 (.inr hx))
theorem putT_pl {cap most : Int} {s m : List It} {g : List Int} (hG : Good cap most s m g) (h : PlI s m) {key val : ByteArray} (hk : plain key = true) (hv : plain val = true) : PlI (putT cap most s m g key val).2.2.1 (putT cap most s m g key val).2.2.2.1 := by
 unfold putT
 split
 ·split
  ·exact touched_pl h true val key (fun _ => hv)
  ·unfold putNew
   split
   ·have hc1 := hG.cap1
    obtain ⟨s2, m2, g2, k, e2, _, _, hF2, _⟩ := evicted_spec hG (by omega)
    rw [e2]
    refine placed_pl (fun x hx => ?_) hk hv _
    obtain ⟨y, hy, e0, e1, _⟩ := hF2.each x hx
    rw [e0, e1]
    exact h y hy
   ·exact placed_pl h hk hv _
 ·intro x hx
  exact absurd hx (by simp)
theorem dropT_pl {cap most : Int} {s m : List It} {g : List Int} (h : PlI s m) (key : ByteArray) : PlI (dropT cap most s m g key).2.2.1 (dropT cap most s m g key).2.2.2.1 := by
 unfold dropT
 split
 ·intro x hx
  rcases List.mem_append.1 hx with hx | hx
  ·exact h x (List.mem_append.2 (.inl (List.mem_filter.1 hx).1))
  ·exact h x (List.mem_append.2 (.inr (List.mem_filter.1 hx).1))
 ·intro x hx
  exact absurd hx (by simp)
theorem l10Some_pl {cap most : Int} {s m : List It} {g : List Int} (hG : Good cap most s m g) (hP : PlI s m) (b : List Int) (i h : Int) (hb : b.length ≤ 1048576) (hi : 0 ≤ i) : ∃ s' m' g' i' h', Ev (fun k => spec_l10Some.f k b i h cap most s m g) (cap, most, s', m', g', i', h') ∧ Good cap most s' m' g' ∧ PlI s' m' ∧ 0 ≤ i' := by
 obtain ⟨x, i1, h1, e1, x0, _, _, hi1⟩ := l01Below_ex b i h 9 hb hi (by omega)
 obtain ⟨key, i2, h2, e2, hk, hi2⟩ := l10Key_ex b i1 h1 hb hi1
 by_cases c : x < 4
 ·obtain ⟨val, i3, h3, e3, hv, hi3⟩ := l10Val_ex b i2 h2 hb hi2
  have hz := draw_size hk hv
  obtain ⟨s', m', g', gone, e, hG', _⟩ := putT_spec hG (draw_ok key hk val hv)
  have hp := putT_pl hG hP (draw_plain.1 key hk) (draw_plain.2 val hv)
  rw [e] at hp
  refine ⟨s', m', g', i3, h3, ?_, hG', hp, hi3⟩
  unfold spec_l10Some.f
  refine Ev.bind (Ev.const e1) (Ev.pos c ?_)
  refine Ev.bind (Ev.const e2) (Ev.bind (Ev.const e3) ?_)
  exact Ev.bind (Ev.to (spec_Put_ev hG.fs hG.fm hG.fg hz.1 hz.2) e) (Ev.const rfl)
 ·by_cases d : x < 8
  ·obtain ⟨s', m', v, f, e, _, hG', _⟩ := touched_spec hG false ⟨#[]⟩ key (by simp)
   have hp := touched_pl (cap := cap) (most := most) (g := g) hP false ⟨#[]⟩ key (by simp)
   rw [e] at hp
   refine ⟨s', m', g, i2, h2, ?_, hG', hp, hi2⟩
   unfold spec_l10Some.f
   refine Ev.bind (Ev.const e1) (Ev.neg c (Ev.pos d ?_))
   refine Ev.bind (Ev.const e2) ?_
   exact Ev.bind (Ev.to (spec_Get_ev hG.fs hG.fm hG.fg key) ((if_pos (threeOk_iff.2 hG)).trans e)) (Ev.const rfl)
  ·obtain ⟨s', m', f, e, hG', _⟩ := dropT_spec hG key
   have hp := dropT_pl (cap := cap) (most := most) (g := g) hP key
   rw [e] at hp
   refine ⟨s', m', g, i2, h2, ?_, hG', hp, hi2⟩
   unfold spec_l10Some.f
   refine Ev.bind (Ev.const e1) (Ev.neg c (Ev.neg d ?_))
   refine Ev.bind (Ev.const e2) ?_
   exact Ev.bind (Ev.to (spec_Drop_ev hG.fs hG.fm hG.fg key) e) (Ev.const rfl)
theorem l10Draw_pl0 (b : List Int) (hb : b.length ≤ 1048576) : ∀ (n : Nat), n ≤ 1000 → ∀ (cap most : Int) (s m : List It) (g : List Int) (i h : Int), Good cap most s m g → PlI s m → 0 ≤ i → ∃ s' m' g' i' h', Ev (fun k => spec_l10Draw.l0 k (n : Int) b i h cap most s m g) (cap, most, s', m', g', i', h') ∧ Good cap most s' m' g' ∧ PlI s' m' ∧ 0 ≤ i' := by
 intro n
 induction n with
 | zero =>
  intro _ cap most s m g i h hG hP hi
  refine ⟨s, m, g, i, h, Ev.step (fun _ => rfl) ?_, hG, hP, hi⟩
  simp only [spec_l10Draw.l0]
  exact Ev.neg (by omega) (Ev.const rfl)
 | succ n ih =>
  intro hn cap most s m g i h hG hP hi
  obtain ⟨s1, m1, g1, i1, h1, e1, hG1, hP1, hi1⟩ := l10Some_pl hG hP b i h hb hi
  obtain ⟨s2, m2, g2, i2, h2, e2, hG2, hP2, hi2⟩ := ih (by omega) cap most s1 m1 g1 i1 h1 hG1 hP1 hi1
  refine ⟨s2, m2, g2, i2, h2, Ev.step (fun _ => rfl) ?_, hG2, hP2, hi2⟩
  simp only [spec_l10Draw.l0]
  refine Ev.pos (by omega) (Ev.bind e1 ?_)
  rw [show wrap64 (((n + 1 : Nat) : Int) - 1) = (n : Int) from by rw [w64 (by omega) (by omega)]; omega]
  exact e2
theorem l10Draw_pl (b : List Int) (i h : Int) (hb : b.length ≤ 1048576) (hi : 0 ≤ i) : ∃ cap most s m g i' h', Ev (fun k => spec_l10Draw.f k b i h) (cap, most, s, m, g, i', h') ∧ Good cap most s m g ∧ PlI s m := by
 obtain ⟨x, i1, h1, e1, x0, x1, _, hi1⟩ := l01Below_ex b i h 6 hb hi (by omega)
 have x1 := x1 (by omega)
 obtain ⟨y, i2, h2, e2, y0, y1, _, hi2⟩ := l01Below_ex b i1 h1 (1 + x) hb hi1 (by omega)
 have y1 := y1 (by omega)
 obtain ⟨z, i3, h3, e3, z0, z1, _, hi3⟩ := l01Below_ex b i2 h2 24 hb hi2 (by omega)
 have z1 := z1 (by omega)
 obtain ⟨n, rfl⟩ := Int.eq_ofNat_of_zero_le z0
 have hN := three_new (cap := 1 + x) (most := 1 + y) (by omega) (by omega) (by omega) (by omega)
 obtain ⟨s, m, g, i', h', e, hG, hP, _⟩ := l10Draw_pl0 b hb n (by omega) (1 + x) (1 + y) [] [] [] i3 h3 hN (fun x hx => absurd hx (by simp)) hi3
 refine ⟨1 + x, 1 + y, s, m, g, i', h', ?_, hG, hP⟩
 unfold spec_l10Draw.f
 refine Ev.bind (Ev.const e1) ?_
 rw [w64 (x := 1 + x) (by omega) (by omega)]
 refine Ev.bind (Ev.const e2) ?_
 rw [w64 (x := 1 + y) (by omega) (by omega)]
 refine Ev.bind (spec_ThreeNew_ev hN) ?_
 exact Ev.bind (Ev.const e3) e
theorem spec_MakeThree_pl (b : List Int) (hb : b.length ≤ 1048576) : ∃ cap most s m g, Ev (fun k => spec_MakeThree.f k b) (cap, most, s, m, g) ∧ Good cap most s m g ∧ PlI s m := by
 obtain ⟨h, e⟩ := l01New_ev b hb
 obtain ⟨cap, most, s, m, g, i', h', e2, hG, hP⟩ := l10Draw_pl b 0 (wrap64 (h + 41)) hb (by omega)
 refine ⟨cap, most, s, m, g, ?_, hG, hP⟩
 unfold spec_MakeThree.f
 exact Ev.bind e (Ev.bind e2 (Ev.const rfl))
end Go.Proofs.Ythnedklbobbkcaa.Q

namespace Go.Proofs.Ythnedklbobbkcaa.Q
open Go.RowKit Go.Proofs.Ythnedklbobbkcaa.G Go.Proofs.Ythnedklbobbkcaa.PL Go.Proofs.YthnedklbobbkcaaW.PrintWords
theorem textAsks_ok {l : List ByteArray} (h : asksOk l = true) : Ev (fun k => impl_TextAsks.f k (asksText l)) (l, true) := by
 unfold impl_TextAsks.f
 have hz := asksText_size l
 have hm := asksOk_mem h
 by_cases c : l = []
 ·subst c
  exact Ev.pos (toList_nil.2 ((asksText_nil []).2 (.inr rfl))) (Ev.const rfl)
 ·have hn : asksText l ≠ ⟨#[]⟩ := fun q => by
   rcases (asksText_nil l).1 q with q | q
   ·rw [h] at q; cases q
   ·exact c q
  have fr : ∀ w ∈ l.map bs, (32 : UInt8) ∉ w := by
   intro w hw
   obtain ⟨s, hs, rfl⟩ := List.mem_map.1 hw
   exact (clean_not (asksOk_clean h s hs)).1
  have ew : (wordsB (bs (asksText l))).map mk = l := by
   rw [show asksText l = glue l from if_pos h, bs_glue c]
   unfold wordsB
   rw [split_join 32 _ (by simpa using c) fr]
   exact map_mk_bs l
  refine Ev.neg (fun q => hn (toList_nil.1 q)) (Ev.bind (Ev.to (impl_Cut_ev _ (by omega)) ew) ?_)
  exact Ev.bind (Ev.to (impl_AsksOk_ev l (by omega) (fun s hs => by have := (hm.1 s hs).2; omega)) h) (Ev.pos rfl (Ev.const rfl))
theorem sameTexts_l0 (l : List ByteArray) (hl : l.length ≤ 1048576) : ∀ (d i : Nat), i + d = l.length → Ev (fun k => laws_sameTexts.l0 k l l (l.length : Int) (i : Int)) true
 | 0, i, h => by
  refine Ev.step (fun _ => rfl) ?_
  simp only [laws_sameTexts.l0]
  exact Ev.neg (by omega) (Ev.const rfl)
 | d + 1, i, h => by
  refine Ev.step (fun _ => rfl) ?_
  simp only [laws_sameTexts.l0]
  refine Ev.pos (by omega) (Ev.pos (by omega) (Ev.pos (by omega) (Ev.pos (by omega) (Ev.pos trivial ?_))))
  rw [wsucc (by omega)]
  exact sameTexts_l0 l hl d (i + 1) (by omega)
theorem sameTexts_ev (l : List ByteArray) (hl : l.length ≤ 1048576) : Ev (fun k => laws_sameTexts.f k l l) true := by
 unfold laws_sameTexts.f
 exact Ev.pos rfl (sameTexts_l0 l hl l.length 0 (by omega))
def cT (c : Cm) : ByteArray := cmdOf (c7of c)
def nlB : ByteArray := ⟨#[10]⟩
def flatB : List Cm → List UInt8
 | [] => []
 | c :: r => bs (cT c) ++ 10 :: flatB r
def scr (acc : ByteArray) : List Cm → ByteArray
 | [] => acc
 | c :: r => scr ((acc ++ cT c) ++ nlB) r
theorem bs_scr : ∀ (l : List Cm) (acc : ByteArray), bs (scr acc l) = bs acc ++ flatB l
 | [], acc => by simp [scr, flatB]
 | c :: r, acc => by
  have ih := bs_scr r ((acc ++ cT c) ++ nlB)
  rw [scr, ih, bs_append, bs_append, flatB]
  simp [nlB, bs]
theorem split_flat : ∀ l : List Cm, (∀ c ∈ l, DrawnCmd (c7of c)) → splitB 10 (flatB l) = (l.map fun c => bs (cT c)) ++ [[]]
 | [], _ => rfl
 | c :: r, h => by
  have hc : (10 : UInt8) ∉ bs (cT c) := (textCmd_cmdOf (h c List.mem_cons_self)).2.2.1
  rw [flatB, splitB_app 10 _ _ hc, split_flat r (fun x hx => h x (List.mem_cons_of_mem _ hx))]
  rfl
theorem lines_flat {l : List Cm} (h : ∀ c ∈ l, DrawnCmd (c7of c)) : linesB (flatB l) = l.map fun c => bs (cT c) := by
 unfold linesB
 rw [split_flat l h, if_pos (by simp), List.dropLast_concat]
theorem flat_len : ∀ l : List Cm, (∀ c ∈ l, DrawnCmd (c7of c)) → (flatB l).length ≤ 1001 * l.length
 | [], _ => by simp [flatB]
 | c :: r, h => by
  have hc := (textCmd_cmdOf (h c List.mem_cons_self)).2.2.2
  have ih := flat_len r (fun x hx => h x (List.mem_cons_of_mem _ hx))
  have e : (flatB (c :: r)).length = (bs (cT c)).length + 1 + (flatB r).length := by
   rw [flatB, List.length_append, List.length_cons]; omega
  have e2 : (bs (cT c)).length = (cmdOf (c7of c)).size := bs_length _
  rw [List.length_cons]
  omega
theorem readT_flat : ∀ (l : List Cm) (i : Nat) (out : List Cm), (∀ c ∈ l, DrawnCmd (c7of c)) → out.length + l.length ≤ 300 → readT (l.map fun c => bs (cT c)) i out = (out ++ l, 0)
 | [], i, out, _, _ => by simp [readT]
 | c :: r, i, out, h, hl => by
  obtain ⟨ht, ⟨x, q, hx, hx35⟩, _, _⟩ := textCmd_cmdOf (h c List.mem_cons_self)
  have hx : bs (cT c) = x :: q := hx
  have ht : textCmd (mk (bs (cT c))) = withTrue (c7of c) := by rw [mk_of_bs]; exact ht
  rw [List.length_cons] at hl
  have ih := readT_flat r (i + 1) (out ++ [c]) (fun x hx => h x (List.mem_cons_of_mem _ hx)) (by rw [List.length_append, List.length_singleton]; omega)
  have hs : skipL (bs (cT c)) = false := by
   unfold skipL
   rw [if_neg (by rw [hx]; simp), mk_of_bs]
   have hz : 0 < (cT c).size := by rw [← bs_length, hx]; simp
   have hb := bt_eq (cT c) 0 hz
   have h0 : (bs (cT c))[0]'(by rw [bs_length]; exact hz) = x := by simp [hx]
   rw [h0] at hb
   rw [show (0 : Int) = ((0 : Nat) : Int) from rfl, hb, beq_eq_false_iff_ne]
   intro e
   apply hx35
   apply UInt8.toNat_inj.1
   have : (x.toNat : Int) = 35 := e
   show x.toNat = 35
   omega
  rw [List.map_cons, readT, if_neg (by rw [hs]; decide), ht, if_pos (show (withTrue (c7of c)).2.2.2.2.2.2.2 = true from rfl), if_neg (by omega), cmOf_withTrue, ih, List.append_assoc]
  rfl
theorem readCmds_scr {l : List Cm} (h : ∀ c ∈ l, DrawnCmd (c7of c)) (hl : l.length ≤ 10) : readCmds (scr nilB l) = (l, 0) ∧ (scr nilB l).size ≤ 20000 := by
 have eb : bs (scr nilB l) = flatB l := bs_scr l nilB
 have hz : (scr nilB l).size ≤ 20000 := by
  rw [← bs_length, eb]
  have := flat_len l h
  omega
 refine ⟨?_, hz⟩
 unfold readCmds
 rw [if_neg (by omega), eb, lines_flat h, readT_flat l 0 [] h (by simp; omega)]
 rfl
theorem drawn_sizes {c : Cm} (h : DrawnCmd (c7of c)) : c.f3.f1.size ≤ 1000 ∧ c.f3.f2.size ≤ 1000 ∧ c.f4.length ≤ 1000 ∧ ∀ s ∈ c.f4, s.size ≤ 1000 := by
 obtain ⟨k, a, b, ⟨ok, key, val⟩, asks⟩ := c
 simp only [DrawnCmd, c7of, Prod.mk.injEq] at h
 have zn : nilB.size ≤ 1000 := by decide
 rcases h with ⟨_, _, ⟨_, _, _, _, rfl, rfl, rfl⟩, _⟩ | ⟨_, _, _, ⟨_, _, _, _, rfl, rfl, rfl⟩, ho⟩ | ⟨_, ⟨_, _, _, _, rfl, rfl, rfl⟩, hl, _, hz⟩ | ⟨_, _, _, _, rfl, rfl, rfl⟩ | ⟨_, _, _, _, rfl, rfl, rfl⟩ | ⟨_, ⟨_, _, _, _, rfl, rfl, rfl⟩, _⟩ | ⟨_, _, _, _, rfl, rfl, rfl⟩
 ·exact ⟨zn, zn, by simp, by simp⟩
 ·unfold opOk itemOk at ho
  simp only [Bool.and_eq_true, decide_eq_true_eq] at ho
  exact ⟨by simp only; omega, by simp only; omega, by simp, by simp⟩
 ·refine ⟨zn, zn, by simp only; omega, fun s hs => ?_⟩
  have := ((asksOk_mem hl).1 s hs).2
  omega
 ·exact ⟨zn, zn, by simp, by simp⟩
 ·exact ⟨zn, zn, by simp, by simp⟩
 ·exact ⟨zn, zn, by simp, by simp⟩
 ·exact ⟨zn, zn, by simp, by simp⟩
theorem cT_ev {c : Cm} (h : DrawnCmd (c7of c)) : Ev (fun k => impl_CmdText.f k c.f0 c.f1 c.f2 c.f3.f0 c.f3.f1 c.f3.f2 c.f4) (cT c) := by
 obtain ⟨h1, h2, h3, h4⟩ := drawn_sizes h
 exact impl_CmdText_ev _ _ _ _ _ _ _ (by omega) (by omega) (by omega) (fun s hs => by have := h4 s hs; omega)
theorem rdCm {l : List Cm} {i : Nat} (h : i < l.length) : rd_T55 l (i : Int) = l[i] := getD_at h _
theorem texts_l1 (cmds y : List Cm) (hd : ∀ c ∈ cmds, DrawnCmd (c7of c)) (hl : cmds.length ≤ 10) : ∀ (d i : Nat) (acc : ByteArray), i + d = cmds.length → acc.size ≤ 1001 * i → Ev (fun k => laws_FnTexts.l1 k (scr acc (cmds.drop i)) y cmds (cmds.length : Int) (cmds.length : Int)) true → Ev (fun k => laws_FnTexts.l1 k acc y cmds (cmds.length : Int) (i : Int)) true
 | 0, i, acc, h, _, hE => by
  rw [List.drop_of_length_le (by omega)] at hE
  have e : i = cmds.length := by omega
  rw [e]
  exact hE
 | d + 1, i, acc, h, hz, hE => by
  have hi : i < cmds.length := by omega
  rw [List.drop_eq_getElem_cons hi] at hE
  have hc := hd _ (List.getElem_mem hi)
  have hs := (textCmd_cmdOf hc).2.2.2
  have hs : (cT cmds[i]).size ≤ 1000 := hs
  have ih := texts_l1 cmds y hd hl d (i + 1) ((acc ++ cT cmds[i]) ++ nlB) (by omega) (by
   rw [ByteArray.size_append, ByteArray.size_append, show nlB.size = 1 from rfl]; omega) hE
  refine Ev.step (fun _ => rfl) ?_
  simp only [laws_FnTexts.l1, rdCm hi]
  refine Ev.pos (by omega) (Ev.pos (by omega) (Ev.pos (by omega) (Ev.bind (cT_ev hc) (Ev.pos (by omega) (Ev.pos (by omega) ?_)))))
  rw [wsucc (by omega)]
  exact ih
theorem texts_l2 (cmds y : List Cm) (z : ByteArray) (hd : ∀ c ∈ cmds, DrawnCmd (c7of c)) (hl : cmds.length ≤ 10) : ∀ (d i : Nat) (acc : ByteArray), i + d = cmds.length → acc.size ≤ 1001 * i → Ev (fun k => laws_FnTexts.l2 k z y (scr acc (cmds.drop i)) cmds (cmds.length : Int) (cmds.length : Int)) true → Ev (fun k => laws_FnTexts.l2 k z y acc cmds (cmds.length : Int) (i : Int)) true
 | 0, i, acc, h, _, hE => by
  rw [List.drop_of_length_le (by omega)] at hE
  have e : i = cmds.length := by omega
  rw [e]
  exact hE
 | d + 1, i, acc, h, hz, hE => by
  have hi : i < cmds.length := by omega
  rw [List.drop_eq_getElem_cons hi] at hE
  have hc := hd _ (List.getElem_mem hi)
  have hs := (textCmd_cmdOf hc).2.2.2
  have hs : (cT cmds[i]).size ≤ 1000 := hs
  have ih := texts_l2 cmds y z hd hl d (i + 1) ((acc ++ cT cmds[i]) ++ nlB) (by omega) (by
   rw [ByteArray.size_append, ByteArray.size_append, show nlB.size = 1 from rfl]; omega) hE
  refine Ev.step (fun _ => rfl) ?_
  simp only [laws_FnTexts.l2, rdCm hi]
  refine Ev.pos (by omega) (Ev.pos (by omega) (Ev.pos (by omega) (Ev.bind (cT_ev hc) (Ev.pos (by omega) (Ev.pos (by omega) ?_)))))
  rw [wsucc (by omega)]
  exact ih
theorem texts_ops (x : List Int) (l : List S43) (hl : l.length ≤ 1000) (ho : ∀ o ∈ l, DrawnOp o) (hE : Ev (fun k => laws_FnTexts.l0 k x l (l.length : Int) (l.length : Int)) true) : ∀ (d i : Nat), i + d = l.length → Ev (fun k => laws_FnTexts.l0 k x l (l.length : Int) (i : Int)) true
 | 0, i, h => by
  have e : i = l.length := by omega
  rw [e]
  exact hE
 | d + 1, i, h => by
  have hi : i < l.length := by omega
  have hc := drawnOp_ok (ho _ (List.getElem_mem hi))
  have hs : (l[i]).f1.size ≤ 20 ∧ (l[i]).f2.size ≤ 40 := by
   have := hc
   unfold opOk itemOk at this
   simp only [Bool.and_eq_true, decide_eq_true_eq] at this
   omega
  have ih := texts_ops x l hl ho hE d (i + 1) (by omega)
  have er : rd_T43 l (i : Int) = l[i] := getD_at hi _
  have hz : (opText (l[i]).f0 (l[i]).f1 (l[i]).f2).size ≤ 1048576 := by
   unfold opText
   rw [if_pos hc]
   split
   ·rw [ByteArray.size_append, show (⟨#[103, 101, 116, 32]⟩ : ByteArray).size = 4 from rfl]; omega
   split
   ·rw [ByteArray.size_append, ByteArray.size_append, ByteArray.size_append, show (⟨#[112, 117, 116, 32]⟩ : ByteArray).size = 4 from rfl, show (⟨#[32]⟩ : ByteArray).size = 1 from rfl]; omega
   ·rw [ByteArray.size_append, show (⟨#[100, 114, 111, 112, 32]⟩ : ByteArray).size = 5 from rfl]; omega
  refine Ev.step (fun _ => rfl) ?_
  simp only [laws_FnTexts.l0, er]
  refine Ev.pos (by omega) (Ev.pos (by omega) (Ev.pos (by omega) (Ev.bind (impl_OpText_ev _ _ _ (by omega) (by omega)) (Ev.bind (Ev.to (impl_TextOp_ev _ hz) (textOp_opText hc)) (Ev.pos rfl (Ev.neg (by simp) ?_))))))
  rw [wsucc (by omega)]
  exact ih
end Go.Proofs.Ythnedklbobbkcaa.Q
namespace Go.Proofs.Ythnedklbobbkcaa.Pure
open Go.RowKit Go.Proofs.Ythnedklbobbkcaa.G Go.Proofs.Ythnedklbobbkcaa.PL Go.Proofs.Ythnedklbobbkcaa.Ok Go.Proofs.Ythnedklbobbkcaa.Q Go.Proofs.YthnedklbobbkcaaW.PrintWords Go.Proofs.YthnedklbobbkcaaW.PrintLast Go.Proofs.Ythnedklbobbkcaa.G.fnTexts
theorem FnTexts : FnTexts.Pure := by
 intro x0 o0
 apply Ev.rounds
 unfold laws_FnTexts.f
 by_cases c0 : (x0.length : Int) > 1048576
 ·exact Ev.pos c0 (Ev.const rfl)
 refine Ev.neg c0 ?_
 have hx : x0.length ≤ 1048576 := by omega
 obtain ⟨cap, most, s, m, g, e1, hG, hP⟩ := spec_MakeThree_pl x0 hx
 have b := hG.bits
 have hT := impl_ThreeText_ev cap most s m g hG.fs hG.fm hG.fg
 have hR := threeText_read (threeOk_iff.2 hG) hP
 have hz : (threeText cap most s m g).size ≤ 1048576 := by
  by_cases c : (threeText cap most s m g).size > 8000
  ·have : textThree (threeText cap most s m g) = (0, 0, [], [], [], 1) := if_pos c
   rw [this] at hR
   exact absurd (congrArg (fun z => z.2.2.2.2.2) hR) (by simp)
  ·omega
 have hne : threeText cap most s m g ≠ (⟨#[]⟩ : ByteArray) := fun q => by
  rw [q] at hR
  have : (textThree (⟨#[]⟩ : ByteArray)).2.2.2.2.2 ≠ 0 := by
   unfold textThree
   rw [if_neg (by decide), show splitB 10 (bs (⟨#[]⟩ : ByteArray)) = [[]] from rfl]
   decide
  exact this (congrArg (fun z => z.2.2.2.2.2) hR)
 have hA := impl_Alike_ev cap most s m g cap most s m g (by omega) (by omega) (by omega)
 have eA : alike cap most s m g cap most s m g = true := by simp [alike]
 rw [eA] at hA
 have hD := impl_Digest_ev cap most s m g hG.fs hG.fm hG.fg
 have eD : digest cap most s m g = Q.hash (threeText cap most s m g) := if_neg hne
 rw [eD] at hD
 refine Ev.bind e1 (Ev.bind hT (Ev.bind (Ev.to (impl_TextThree_ev _ hz) hR) (Ev.neg (fun q => hne (toList_nil.1 q)) (Ev.pos rfl (Ev.bind hA (Ev.pos rfl (Ev.bind hD (Ev.bind (impl_Hash_ev _ (by omega)) ?_))))))))
 rw [show (Q.hash (threeText cap most s m g) != Q.hash (threeText cap most s m g)) = false by simp]
 refine Ev.step (fun _ => rfl) ?_
 simp only [laws_FnTexts.j0]
 obtain ⟨l, e2, hl, ho⟩ := spec_MakeOps_ex x0 hx 6 (by omega) (by omega)
 refine Ev.neg (by simp) (Ev.bind e2 ?_)
 refine texts_ops x0 l (by omega) ho ?_ l.length 0 (by omega)
 refine Ev.step (fun _ => rfl) ?_
 simp only [laws_FnTexts.l0]
 obtain ⟨a, e3, ha, hk⟩ := spec_MakeAsks_ex x0 hx 8 (by omega) (by omega)
 have hok := askKeys_ok hk (by omega)
 have hm := asksOk_mem hok
 refine Ev.neg (by omega) (Ev.bind e3 (Ev.bind (impl_AsksText_ev a (by omega) (fun s hs => by have := (hm.1 s hs).2; omega)) (Ev.bind (textAsks_ok hok) (Ev.pos rfl (Ev.bind (sameTexts_ev a (by omega)) ?_)))))
 refine Ev.step (fun _ => rfl) ?_
 simp only [laws_FnTexts.j2]
 obtain ⟨cmds, e4, hc0, hc1, hd⟩ := spec_MakeCmds_ex x0 hx
 refine Ev.neg (by simp) (Ev.bind e4 ?_)
 obtain ⟨hr, hrz⟩ := readCmds_scr hd hc1
 refine texts_l1 cmds cmds hd hc1 cmds.length 0 _ (by omega) (by decide) ?_
 show Ev (fun k => laws_FnTexts.l1 k (scr nilB cmds) cmds cmds (cmds.length : Int) (cmds.length : Int)) true
 refine Ev.step (fun _ => rfl) ?_
 simp only [laws_FnTexts.l1]
 refine Ev.neg (by omega) (Ev.bind (Ev.to (impl_ReadCmds_ev _ (by omega)) hr) (Ev.pos rfl ?_))
 refine Ev.step (fun _ => rfl) ?_
 simp only [laws_FnTexts.j4]
 refine Ev.neg (by simp) ?_
 refine texts_l2 cmds cmds (scr nilB cmds) hd hc1 cmds.length 0 _ (by omega) (by decide) ?_
 show Ev (fun k => laws_FnTexts.l2 k (scr nilB cmds) cmds (scr nilB cmds) cmds (cmds.length : Int) (cmds.length : Int)) true
 refine Ev.step (fun _ => rfl) ?_
 simp only [laws_FnTexts.l2]
 exact Ev.neg (by omega) (Ev.pos trivial (Ev.const (congrArg some (decide_eq_true (by omega)))))
end Go.Proofs.Ythnedklbobbkcaa.Pure
