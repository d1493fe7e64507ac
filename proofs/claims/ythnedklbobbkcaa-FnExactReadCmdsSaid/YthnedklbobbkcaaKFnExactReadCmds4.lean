/- ReadCmds is the reference's; no conditions beside the sizes that a row reads. Part 4 of the claim FnExactReadCmds, merged by pack.py (this session's program) out of: the print's words, cut to what is needed; texts that gen.py printed (it runs the kit's print in place); texts of this session. -/
import Derived.ChangeArms
import Derived.SizedLaws
import Derived.DataReads
import Derived.WalkKit
import Derived.RowKit
import Derived.KernelRfl
import Derived.Lib.Strings
import Derived.Test.YthnedklbobbkcaaRows
import Derived.ProofKit
import Derived.OpenShut
import Derived.ShutString
import Derived.ChangeOld
import Derived.Below
import Derived.Test.YthnedklbobbkcaaKFnExactReadCmds0
import Derived.Test.YthnedklbobbkcaaKFnExactReadCmds1
import Derived.Test.YthnedklbobbkcaaKFnExactReadCmds2
import Derived.Test.YthnedklbobbkcaaKFnExactReadCmds3
namespace Go.Proofs.Ythnedklbobbkcaa.Fam
end Go.Proofs.Ythnedklbobbkcaa.Fam
namespace Go.Proofs.Ythnedklbobbkcaa.G
end Go.Proofs.Ythnedklbobbkcaa.G
namespace Go.Proofs.Ythnedklbobbkcaa.G.fnExactReadCmds
end Go.Proofs.Ythnedklbobbkcaa.G.fnExactReadCmds
namespace Go.Proofs.Ythnedklbobbkcaa.Ok
end Go.Proofs.Ythnedklbobbkcaa.Ok
namespace Go.Proofs.Ythnedklbobbkcaa.Open
end Go.Proofs.Ythnedklbobbkcaa.Open
namespace Go.Proofs.Ythnedklbobbkcaa.PL
end Go.Proofs.Ythnedklbobbkcaa.PL
namespace Go.Proofs.Ythnedklbobbkcaa.Q
end Go.Proofs.Ythnedklbobbkcaa.Q
namespace Go.Proofs.Ythnedklbobbkcaa.Open
open Go.RowKit Go.Proofs.YthnedklbobbkcaaW.PrintWords
/-- Whatever is read at type t is of the kind k, and meets ok. -/
def Opn {α : Type} (P : Program) (t : TypeId) (k : Kd α) (ok : α → Prop) : Prop :=
 ∀ (H : Type) (enc : TypeId × Value → H) (W : World) (fuel : Nat) (cs : List Value) (d : DataW H) (ps : List MemPlace),
  DataW.trod enc P W 0 (fun _ => true) true fuel t cs = some (d, ps) → (∀ n ∈ d.weights P t, n ≤ reachBytes) → ∃ x, k.K W x cs ∧ ok x
theorem Opn.int {P : Program} {t : TypeId} {q : IntKind} (ht : P.underlying t = some (.int q)) : Opn P t (Kd.int q) (fun n => (Lit.int q n).wf = true) := by
 intro H enc W fuel cs d ps h _
 obtain ⟨n, rfl, _, hw⟩ := DataW.trod_int ht h
 exact ⟨n, rfl, hw⟩
theorem Opn.bool {P : Program} {t : TypeId} (ht : P.underlying t = some .bool) : Opn P t Kd.bool (fun _ => True) := by
 intro H enc W fuel cs d ps h _
 obtain ⟨b, rfl, _⟩ := DataW.trod_bool ht h
 exact ⟨b, rfl, trivial⟩
theorem Opn.string {P : Program} {t : TypeId} (ht : P.underlying t = some .string) : Opn P t Kd.string (fun s => s.size ≤ 140737488351232) := by
 intro H enc W fuel cs d ps h hz
 obtain ⟨s, rfl, hx, _⟩ := DataW.trod_string ht h
 refine ⟨s, rfl, ?_⟩
 obtain ⟨rfl, _⟩ := Prod.mk.inj hx
 have := hz s.data.toList.length (by simp [DataW.weights])
 rw [Array.length_toList] at this
 exact this
theorem Opn.mono {α : Type} {P : Program} {t : TypeId} {k : Kd α} {ok ok' : α → Prop} (h : Opn P t k ok) (hok : ∀ x, ok x → ok' x) : Opn P t k ok' := by
 intro H enc W fuel cs d ps hd hz
 obtain ⟨x, hx, ho⟩ := h H enc W fuel cs d ps hd hz
 exact ⟨x, hx, hok x ho⟩
/-- The fields from one on, one behind the other. -/
def OpnFs {α : Type} (P : Program) (fs : List Field) (off : Nat) (k : Kd α) (ok : α → Prop) : Prop :=
 ∀ (H : Type) (enc : TypeId × Value → H) (W : World) (fuel : Nat) (cs : List Value) (xs : List (DataW H × List MemPlace)),
  xs.length = fs.length → (∀ (i : Nat) (f : Field), fs[i]? = some f → DataW.trod enc P W 0 (fun _ => true) true fuel f.type ((cs.drop f.offset).take (P.cellsOf f.type)) = xs[i]?) →
  (∀ n ∈ DataW.weightsEach P (fs.map (·.type)) (xs.map (·.1)), n ≤ reachBytes) → ∃ x, k.K W x ((cs.drop off).take k.sz) ∧ ok x
theorem OpnFs.one {α : Type} {P : Program} {f : Field} {off : Nat} {k : Kd α} {ok : α → Prop} (ho : f.offset = off) (hc : P.cellsOf f.type = k.sz) (h : Opn P f.type k ok) : OpnFs P [f] off k ok := by
 intro H enc W fuel cs xs hl hx hz
 have h0 := hx 0 f rfl
 rw [ho, hc] at h0
 match xs, hl with
 | [x], _ =>
  refine h H enc W fuel _ x.1 x.2 h0 (fun n hn => hz n ?_)
  simp [DataW.weightsEach, hn]
theorem OpnFs.cons {α β : Type} {P : Program} {f : Field} {fs : List Field} {off : Nat} {k : Kd α} {k2 : Kd β} {ok : α → Prop} {ok2 : β → Prop} (ho : f.offset = off) (hc : P.cellsOf f.type = k.sz) (h : Opn P f.type k ok)
  (h2 : OpnFs P fs (off + k.sz) k2 ok2) : OpnFs P (f :: fs) off (Kd.pair k k2) (fun x => ok x.1 ∧ ok2 x.2) := by
 intro H enc W fuel cs xs hl hx hz
 have h0 := hx 0 f rfl
 rw [ho, hc] at h0
 match xs, hl with
 | x :: xs, hl =>
  obtain ⟨a, ha, hoa⟩ := h H enc W fuel _ x.1 x.2 h0 (fun n hn => hz n (by simp [DataW.weightsEach, hn]))
  obtain ⟨b, hb, hob⟩ := h2 H enc W fuel cs xs (by simpa using hl) (fun i g hg => by simpa using hx (i + 1) g (by simpa using hg)) (fun n hn => hz n (by simp only [List.map_cons, DataW.weightsEach, List.mem_append]; exact Or.inr hn))
  refine ⟨(a, b), ⟨_, _, ?_, ha, hb⟩, hoa, hob⟩
  show (cs.drop off).take (k.sz + k2.sz) = _
  rw [List.take_add, List.drop_drop]
theorem Opn.struct {α : Type} {P : Program} {t : TypeId} {fs : Array Field} {k : Kd α} {ok : α → Prop} (ht : P.underlying t = some (.struct fs)) (hc : P.cellsOf t = k.sz) (h : OpnFs P fs.toList 0 k ok) : Opn P t k ok := by
 intro H enc W fuel cs d ps hd hz
 obtain ⟨xs, n, rfl, hx, hl, hxl, hf⟩ := DataW.trod_struct ht hd
 obtain ⟨rfl, _⟩ := Prod.mk.inj hx
 obtain ⟨x, hK, ho⟩ := h H enc W n cs xs (by simpa using hxl) (fun i f hi => hf i f (by simpa using hi)) (fun m hm => hz m (by simp only [DataW.weights, ht]; exact hm))
 refine ⟨x, ?_, ho⟩
 rw [List.drop_zero, List.take_of_length_le (by omega)] at hK
 exact hK
theorem Opn.iso {α β : Type} {P : Program} {t : TypeId} {k : Kd α} {ok : α → Prop} {f : β → α} (g : α → β) (hg : ∀ x, f (g x) = x) (h : Opn P t k ok) : Opn P t (Kd.iso k f) (fun y => ok (f y)) := by
 intro H enc W fuel cs d ps hd hz
 obtain ⟨x, hx, ho⟩ := h H enc W fuel cs d ps hd hz
 exact ⟨g x, by show k.K W (f (g x)) cs; rw [hg]; exact hx, by show ok (f (g x)); rw [hg]; exact ho⟩
theorem weightsAll_mem {H : Type} {P : Program} {e : TypeId} : ∀ {l : List (DataW H)} {d : DataW H}, d ∈ l → ∀ n ∈ d.weights P e, n ∈ DataW.weightsAll P e l
 | a :: l, d, hd, n, hn => by
  simp only [DataW.weightsAll, List.mem_append]
  rcases List.mem_cons.1 hd with rfl | hd
  ·exact .inl hn
  ·exact .inr (weightsAll_mem hd n hn)
theorem choose_list {α : Type} (p : Nat → α → Prop) : ∀ (n : Nat), (∀ i, i < n → ∃ x, p i x) → ∃ xs : List α, xs.length = n ∧ ∀ i x, xs[i]? = some x → p i x
 | 0, _ => ⟨[], rfl, fun i x h => by simp at h⟩
 | n + 1, h => by
  obtain ⟨xs, hl, hx⟩ := choose_list p n (fun i hi => h i (by omega))
  obtain ⟨y, hy⟩ := h n (by omega)
  refine ⟨xs ++ [y], by simp [hl], fun i x hi => ?_⟩
  rcases Nat.lt_or_ge i n with hin | hin
  ·rw [List.getElem?_append_left (by omega)] at hi
   exact hx i x hi
  ·rw [List.getElem?_append_right (by omega)] at hi
   have : i - xs.length = 0 := by
    rcases Nat.eq_zero_or_pos (i - xs.length) with h0 | h0
    ·exact h0
    ·rw [List.getElem?_eq_none (by simp; omega)] at hi
     cases hi
   rw [this] at hi
   simp only [List.getElem?_cons_zero, Option.some.injEq] at hi
   subst hi
   have : i = n := by omega
   subst this
   exact hy
theorem Opn.slice {α : Type} {P : Program} {t e : TypeId} {k : Kd α} {ok : α → Prop} (B : Nat) (ht : P.underlying t = some (.slice e)) (hc : P.cellsOf e = k.sz) (hB : P.bytesOf e = B) (h : Opn P e k ok) :
  Opn P t (Kd.slice e k) (fun xs => (∀ x ∈ xs, ok x) ∧ xs.length * B ≤ 140737488351232) := by
 intro H enc W fuel cs d ps hd hz
 rcases DataW.trod_slice ht hd with ⟨rfl, _⟩ | ⟨a, len, cap, elems, rest, n, rfl, rfl, hx, _, hl, hm, hel, hcell, _, _⟩
 ·exact ⟨[], ⟨none, 0, rfl, Nat.le_refl _, Kd.C_nil _ _⟩, by simp, by simp⟩
 ·obtain ⟨rfl, _⟩ := Prod.mk.inj hx
  have hz0 := hz (((elems.map (·.1)).length + (rest.map (·.1)).length) * P.bytesOf e) (by simp only [DataW.weights, ht]; exact List.mem_cons_self)
  have hpick : ∀ i, i < len → ∃ x : α, (∃ c, c.length = k.sz ∧ k.K W x c ∧ ∀ j u, c[j]? = some u → W.cell? (a.add (i * k.sz + j)) = some u) ∧ ok x := by
   intro i hi
   have h1 := hcell i hi
   rw [List.getElem?_eq_getElem (by omega)] at h1
   obtain ⟨c, hc1, hc2⟩ := Option.bind_eq_some_iff.1 h1
   obtain ⟨_, hcl, hcc⟩ := World.cells?_some hc1
   obtain ⟨x, hx, ho⟩ := h H enc W n c _ _ hc2 (fun m hm => hz m (by
    simp only [DataW.weights, ht, List.mem_cons, List.mem_append]
    exact .inr (.inl (weightsAll_mem (List.mem_map.2 ⟨_, List.getElem_mem (by omega), rfl⟩) m hm))))
   refine ⟨x, ⟨c, by omega, hx, fun j u hu => ?_⟩, ho⟩
   have hj : j < c.length := by
    rcases Nat.lt_or_ge j c.length with hj | hj
    ·exact hj
    ·rw [List.getElem?_eq_none hj] at hu; cases hu
   have := hcc j (by omega)
   rw [hu, hc] at this
   rw [← this]
   rw [Addr.add_add]
  obtain ⟨xs, hxl, hxs⟩ := choose_list _ len hpick
  subst hxl
  refine ⟨xs, ⟨some a, cap, rfl, hl, rfl, by unfold maxLen at hm; omega, fun _ => ⟨a, rfl, fun j p hj => (hxs j p hj).1⟩⟩, fun x hx => ?_, ?_⟩
  ·obtain ⟨i, hi⟩ := List.getElem?_of_mem hx
   exact (hxs i x hi).2
  ·rw [hB] at hz0
   refine Nat.le_trans (Nat.mul_le_mul_right _ ?_) hz0
   simp only [List.length_map]
   omega
theorem weights_of {H : Type} {P : Program} {ts : List TypeId} {ds : List (DataW H)} {j : Nat} {t : TypeId} {d : DataW H} (hsz : (DataW.weightsEach P ts ds).all (· ≤ reachBytes) = true) (ht : ts[j]? = some t) (hd : ds[j]? = some d) :
  ∀ n ∈ d.weights P t, n ≤ reachBytes := fun n hn => by
 have := List.all_eq_true.1 hsz _ (DataW.weights_mem_each ht hd n hn)
 simpa using this
end Go.Proofs.Ythnedklbobbkcaa.Open

namespace Go.Proofs.Ythnedklbobbkcaa.Ok
open Go.RowKit Go.Proofs.Ythnedklbobbkcaa.Open Go.Proofs.Ythnedklbobbkcaa.G Go.Proofs.YthnedklbobbkcaaW.PrintWords Go.Proofs.YthnedklbobbkcaaW.PrintLast
set_option linter.unusedVariables false
def okT9 (s : ByteArray) : Prop := s.size ≤ 140737488351232
set_option maxRecDepth 100000 in
theorem opn9 : Opn Try.prog 9 Kd.string okT9 := Opn.string Try.underlying9
end Go.Proofs.Ythnedklbobbkcaa.Ok

namespace Go.Proofs.Ythnedklbobbkcaa.G.fnExactReadCmds
open Go.RowKit Go.Proofs.Ythnedklbobbkcaa.Open Go.Proofs.Ythnedklbobbkcaa.Ok Go.Proofs.Ythnedklbobbkcaa.G Go.Proofs.YthnedklbobbkcaaW.PrintWords Go.Proofs.YthnedklbobbkcaaW.PrintLast
set_option linter.unusedVariables false
def FnExactReadCmds.okIn (x0 : ByteArray) : Prop := okT9 x0
def FnExactReadCmds.Pure : Prop := ∀ (x0 : ByteArray), FnExactReadCmds.okIn x0 → ∃ k, laws_FnExactReadCmds.f k x0 = some true
end Go.Proofs.Ythnedklbobbkcaa.G.fnExactReadCmds

namespace Go.Proofs.Ythnedklbobbkcaa.PL
open Go.RowKit Go.Proofs.YthnedklbobbkcaaW.PrintWords
theorem Ev.const {α : Type} {x : Option α} {r : α} (h : x = some r) : Ev (fun _ => x) r := ⟨0, fun _ _ => h⟩
theorem Ev.pos {α : Type} {c : Prop} [Decidable c] {f g : Nat → Option α} {r : α} (hc : c) (h : Ev f r) : Ev (fun k => if c then f k else g k) r := by
 obtain ⟨K, h⟩ := h
 exact ⟨K, fun k hk => (if_pos hc).trans (h k hk)⟩
theorem Ev.neg {α : Type} {c : Prop} [Decidable c] {f g : Nat → Option α} {r : α} (hc : ¬ c) (h : Ev g r) : Ev (fun k => if c then f k else g k) r := by
 obtain ⟨K, h⟩ := h
 exact ⟨K, fun k hk => (if_neg hc).trans (h k hk)⟩
theorem Ev.to {α : Type} {f : Nat → Option α} {r s : α} (h : Ev f r) (e : r = s) : Ev f s := e ▸ h
theorem w64 {x : Int} (h0 : -9223372036854775808 ≤ x) (h1 : x ≤ 9223372036854775807) : wrap64 x = x := by
 unfold wrap64
 omega
theorem wsucc {i : Nat} (h : i < 9223372036854775807) : wrap64 ((i : Int) + 1) = ((i + 1 : Nat) : Int) := by
 rw [w64 (by omega) (by omega)]
 omega
theorem getD_at {α : Type} {xs : List α} {i : Nat} (h : i < xs.length) (z : α) : xs.getD ((i : Nat) : Int).toNat z = xs[i] := by
 simp [List.getD_eq_getElem?_getD, h]
theorem drop_at {α : Type} {xs : List α} {i : Nat} (h : i < xs.length) : xs.drop i = xs[i] :: xs.drop (i + 1) := List.drop_eq_getElem_cons h
theorem bytes_eq {a b : ByteArray} : a.toList = b.toList ↔ a = b := by
 rw [ByteArray.toList_eq, ByteArray.toList_eq]
 constructor
 ·intro h
  cases a; cases b
  simp at h
  simp [h]
 ·intro h; rw [h]
theorem set_mid {α : Type} (pre : List α) (x y : α) (rest : List α) : (pre ++ x :: rest).set ((pre.length : Nat) : Int).toNat y = pre ++ y :: rest := by
 simp
theorem getD_mid {α : Type} (pre : List α) (x z : α) (rest : List α) : (pre ++ x :: rest).getD ((pre.length : Nat) : Int).toNat z = x := by
 simp [List.getD_eq_getElem?_getD]
theorem snoc_mid {α : Type} (pre : List α) (x : α) (rest : List α) : pre ++ x :: rest = (pre ++ [x]) ++ rest := by simp
end Go.Proofs.Ythnedklbobbkcaa.PL
namespace Go.Proofs.Ythnedklbobbkcaa.Ok
end Go.Proofs.Ythnedklbobbkcaa.Ok
namespace Go.Proofs.Ythnedklbobbkcaa.Fam
end Go.Proofs.Ythnedklbobbkcaa.Fam
namespace Go.Proofs.Ythnedklbobbkcaa.Q
end Go.Proofs.Ythnedklbobbkcaa.Q
namespace Go.Proofs.Ythnedklbobbkcaa.Man
end Go.Proofs.Ythnedklbobbkcaa.Man

namespace Go.Proofs.Ythnedklbobbkcaa.Q
open Go.RowKit Go.Proofs.Ythnedklbobbkcaa.PL Go.Proofs.YthnedklbobbkcaaW.PrintWords
def bs (s : ByteArray) : List UInt8 := s.data.toList
theorem bs_length (s : ByteArray) : (bs s).length = s.size := by unfold bs; rw [Array.length_toList]; rfl
theorem bs_inj {a b : ByteArray} (h : bs a = bs b) : a = b := by
 cases a; cases b
 simp [bs] at h
 simp [h]
theorem bs_mk (l : List UInt8) : bs ⟨l.toArray⟩ = l := by simp [bs]
theorem bs_append (a b : ByteArray) : bs (a ++ b) = bs a ++ bs b := by simp [bs]
theorem append_empty (a : ByteArray) : a ++ (⟨#[]⟩ : ByteArray) = a := bs_inj (by rw [bs_append]; exact List.append_nil _)
theorem empty_append (a : ByteArray) : (⟨#[]⟩ : ByteArray) ++ a = a := bs_inj (by rw [bs_append]; exact List.nil_append _)
theorem bs_toList (a : ByteArray) : a.toList = bs a := ByteArray.toList_eq a
theorem toList_nil {a : ByteArray} : a.toList = [] ↔ a = ⟨#[]⟩ := by
 rw [bs_toList]
 exact ⟨fun h => bs_inj (by rw [h]; rfl), fun h => by rw [h]; rfl⟩
theorem bt_eq (s : ByteArray) (i : Nat) (h : i < s.size) : bt s (i : Int) = (((bs s)[i]'(by rw [bs_length]; exact h)).toNat : Int) := by
 unfold bt bs
 simp only [Int.toNat_natCast, h, dif_pos]
 rfl
theorem drop_bs (s : ByteArray) (i : Nat) (h : i < s.size) : (bs s).drop i = (bs s)[i]'(by rw [bs_length]; exact h) :: (bs s).drop (i + 1) := List.drop_eq_getElem_cons (by rw [bs_length]; exact h)
theorem u8_eq {a : UInt8} {n : Nat} (hn : n < 256) : ((a.toNat : Int) = (n : Int)) ↔ a = UInt8.ofNat n := by
 constructor
 ·intro h
  apply UInt8.toNat.inj
  rw [UInt8.toNat_ofNat']
  omega
 ·intro h
  rw [h, UInt8.toNat_ofNat']
  omega
end Go.Proofs.Ythnedklbobbkcaa.Q

namespace Go.Proofs.Ythnedklbobbkcaa.Q
open Go.RowKit Go.Proofs.Ythnedklbobbkcaa.G Go.Proofs.Ythnedklbobbkcaa.PL Go.Proofs.YthnedklbobbkcaaW.PrintWords
def clean (s : ByteArray) : Bool := (bs s).all fun b => b != 32 && b != 10
theorem spec_l10Clean_l0 (s : ByteArray) (hs : s.size ≤ 140737488351232) : ∀ (d i : Nat), i + d = s.size → Ev (fun k => spec_l10Clean.l0 k s i) (((bs s).drop i).all fun b => b != 32 && b != 10) := by
 intro d
 induction d with
 | zero =>
  intro i hi
  refine Ev.step (fun _ => rfl) ?_
  simp only [spec_l10Clean.l0]
  refine Ev.neg (by omega) ?_
  rw [List.drop_of_length_le (by rw [bs_length]; omega)]
  exact Ev.const rfl
 | succ d ih =>
  intro i hi
  have hlt : i < s.size := by omega
  refine Ev.step (fun _ => rfl) ?_
  simp only [spec_l10Clean.l0]
  rw [bt_eq s i hlt, drop_bs s i hlt, List.all_cons, wsucc (by omega)]
  refine Ev.pos (by omega) ?_
  refine Ev.pos (by omega) ?_
  generalize (bs s)[i]'_ = b
  by_cases c : (b.toNat : Int) = 32
  ·refine Ev.pos c ?_
   have : b = 32 := (u8_eq (n := 32) (by omega)).1 c
   exact Ev.const (by simp [this])
  ·refine Ev.neg c ?_
   have h1 : ¬ b = 32 := fun h => c ((u8_eq (n := 32) (by omega)).2 h)
   by_cases c2 : (b.toNat : Int) = 10
   ·refine Ev.pos c2 ?_
    have : b = 10 := (u8_eq (n := 10) (by omega)).1 c2
    exact Ev.const (by simp [this])
   ·refine Ev.neg c2 ?_
    have h2 : ¬ b = 10 := fun h => c2 ((u8_eq (n := 10) (by omega)).2 h)
    refine Ev.to (ih (i + 1) (by omega)) ?_
    simp [h1, h2]
theorem spec_l10Clean_ev (s : ByteArray) (hs : s.size ≤ 140737488351232) : Ev (fun k => spec_l10Clean.f k s) (clean s) := by
 unfold spec_l10Clean.f
 exact spec_l10Clean_l0 s hs s.size 0 (by omega)
theorem impl_isPlain_l0 (s : ByteArray) (hs : s.size ≤ 140737488351232) : ∀ (d i : Nat), i + d = s.size → Ev (fun k => impl_isPlain.l0 k s i) (((bs s).drop i).all fun b => b != 32 && b != 10) := by
 intro d
 induction d with
 | zero =>
  intro i hi
  refine Ev.step (fun _ => rfl) ?_
  simp only [impl_isPlain.l0]
  refine Ev.neg (by omega) ?_
  rw [List.drop_of_length_le (by rw [bs_length]; omega)]
  exact Ev.const rfl
 | succ d ih =>
  intro i hi
  have hlt : i < s.size := by omega
  refine Ev.step (fun _ => rfl) ?_
  simp only [impl_isPlain.l0]
  rw [bt_eq s i hlt, drop_bs s i hlt, List.all_cons, wsucc (by omega)]
  refine Ev.pos (by omega) ?_
  refine Ev.pos (by omega) ?_
  generalize (bs s)[i]'_ = b
  by_cases c : (b.toNat : Int) = 32
  ·refine Ev.pos c ?_
   have : b = 32 := (u8_eq (n := 32) (by omega)).1 c
   exact Ev.const (by simp [this])
  ·refine Ev.neg c ?_
   have h1 : ¬ b = 32 := fun h => c ((u8_eq (n := 32) (by omega)).2 h)
   by_cases c2 : (b.toNat : Int) = 10
   ·refine Ev.pos c2 ?_
    have : b = 10 := (u8_eq (n := 10) (by omega)).1 c2
    exact Ev.const (by simp [this])
   ·refine Ev.neg c2 ?_
    have h2 : ¬ b = 10 := fun h => c2 ((u8_eq (n := 10) (by omega)).2 h)
    refine Ev.to (ih (i + 1) (by omega)) ?_
    simp [h1, h2]
theorem impl_isPlain_ev (s : ByteArray) (hs : s.size ≤ 140737488351232) : Ev (fun k => impl_isPlain.f k s) (clean s) := by
 unfold impl_isPlain.f
 exact impl_isPlain_l0 s hs s.size 0 (by omega)
def itemOk (key val : ByteArray) (freq : Int) : Bool := decide (1 ≤ key.size) && decide (key.size ≤ 20) && clean key && decide (val.size ≤ 40) && clean val && decide (0 ≤ freq) && decide (freq ≤ 3)
theorem impl_within_eq (x lo hi : Int) : impl_within.f x lo hi = some (decide (lo ≤ x) && decide (x ≤ hi)) := by
 unfold impl_within.f
 by_cases h : x ≥ lo
 ·rw [if_pos h]; simp [h]
 ·rw [if_neg h]
  have : ¬ lo ≤ x := h
  simp [this]
theorem spec_l01In_eq (x lo hi : Int) : spec_l01In.f x lo hi = some (decide (lo ≤ x) && decide (x ≤ hi)) := by
 unfold spec_l01In.f
 by_cases h : x ≥ lo
 ·rw [if_pos h]; simp [h]
 ·rw [if_neg h]
  have : ¬ lo ≤ x := h
  simp [this]
theorem spec_ItemOk_ev (key val : ByteArray) (freq : Int) (h0 : key.size ≤ 140737488351232) (h1 : val.size ≤ 140737488351232) : Ev (fun k => spec_ItemOk.f k key val freq) (itemOk key val freq) := by
 unfold spec_ItemOk.f itemOk
 by_cases a : 1 ≤ key.size
 rotate_left
 ·exact Ev.neg (by omega) (Ev.const (by simp [a]))
 refine Ev.pos (by omega) ?_
 by_cases b : key.size ≤ 20
 rotate_left
 ·exact Ev.neg (by omega) (Ev.const (by simp [b]))
 refine Ev.pos (by omega) ?_
 refine Ev.bind (spec_l10Clean_ev key h0) ?_
 cases c : clean key
 ·exact Ev.neg (by simp) (Ev.const (by simp))
 refine Ev.pos rfl ?_
 by_cases d : val.size ≤ 40
 rotate_left
 ·exact Ev.neg (by omega) (Ev.const (by simp [d]))
 refine Ev.pos (by omega) ?_
 refine Ev.bind (spec_l10Clean_ev val h1) ?_
 cases e : clean val
 ·exact Ev.neg (by simp) (Ev.const (by simp))
 refine Ev.pos rfl ?_
 refine Ev.bind (Ev.const (spec_l01In_eq _ _ _)) ?_
 exact Ev.const (by simp [a, b, d])
theorem impl_ItemOk_ev (key val : ByteArray) (freq : Int) (h0 : key.size ≤ 140737488351232) (h1 : val.size ≤ 140737488351232) : Ev (fun k => impl_ItemOk.f k key val freq) (itemOk key val freq) := by
 unfold impl_ItemOk.f itemOk
 refine Ev.bind (Ev.const (impl_within_eq _ _ _)) ?_
 by_cases a : 1 ≤ key.size
 rotate_left
 ·exact Ev.neg (by simp; omega) (Ev.const (by simp [a]))
 by_cases b : key.size ≤ 20
 rotate_left
 ·exact Ev.neg (by simp; omega) (Ev.const (by simp [b]))
 refine Ev.pos (by simp; omega) ?_
 by_cases d : val.size ≤ 40
 rotate_left
 ·exact Ev.neg (by omega) (Ev.const (by simp [d]))
 refine Ev.pos (by omega) ?_
 refine Ev.bind (impl_isPlain_ev key h0) ?_
 cases c : clean key
 ·exact Ev.neg (by simp) (Ev.const (by simp))
 refine Ev.pos rfl ?_
 refine Ev.bind (impl_isPlain_ev val h1) ?_
 cases e : clean val
 ·exact Ev.neg (by simp) (Ev.const (by simp))
 refine Ev.pos rfl ?_
 refine Ev.bind (Ev.const (impl_within_eq _ _ _)) ?_
 exact Ev.const (by simp [a, b, d])
def isNum (a : Int) : Bool := decide (0 ≤ a) && decide (a ≤ 4294967295)
theorem spec_l01Num_eq (a : Int) : spec_l01Num.f a = some (isNum a) := by
 unfold spec_l01Num.f isNum
 by_cases h : a ≥ 0
 ·rw [if_pos h]; simp [h]
 ·rw [if_neg h]
  have : ¬ 0 ≤ a := h
  simp [this]
theorem impl_isNum_eq (a : Int) : impl_isNum.f a = some (isNum a) := by
 unfold impl_isNum.f isNum
 rw [impl_within_eq]
 rfl
def dg (n : Nat) : ByteArray := strOfNums [(48 + (n : Int))]
def dec (n : Nat) : ByteArray := if n < 10 then dg n else dec (n / 10) ++ dg (n % 10)
termination_by n
decreasing_by omega
theorem strOfNums_size1 (x : Int) : (strOfNums [x]).size = 1 := by simp [strOfNums, ByteArray.size]
theorem dg_size (n : Nat) : (dg n).size = 1 := strOfNums_size1 _
theorem dec_small {n : Nat} (h : n < 10) : dec n = dg n := by rw [dec, if_pos h]
theorem dec_big {n : Nat} (h : ¬ n < 10) : dec n = dec (n / 10) ++ dg (n % 10) := by rw [dec, if_neg h]
theorem dec_size : ∀ (m n : Nat), n < 10 ^ (m + 1) → 1 ≤ (dec n).size ∧ (dec n).size ≤ m + 1
 | 0, n, h => by rw [dec_small (by simpa using h), dg_size]; omega
 | m + 1, n, h => by
  by_cases c : n < 10
  ·rw [dec_small c, dg_size]; omega
  ·rw [dec_big c, ByteArray.size_append, dg_size]
   have := dec_size m (n / 10) (by rw [Nat.pow_succ] at h; omega)
   omega
theorem dec_size10 {n : Nat} (h : n ≤ 4294967295) : 1 ≤ (dec n).size ∧ (dec n).size ≤ 10 := dec_size 9 n (by omega)
theorem dig_w {n : Nat} (h : n < 10) : wrap64 (48 + (n : Int)) % 256 = 48 + (n : Int) := by rw [w64 (by omega) (by omega)]; omega
theorem tdiv10 (n : Nat) : Int.tdiv (n : Int) 10 = ((n / 10 : Nat) : Int) := by
 rw [Int.tdiv_eq_ediv_of_nonneg (by omega)]; omega
theorem tmod10 (n : Nat) : Int.tmod (n : Int) 10 = ((n % 10 : Nat) : Int) := by
 rw [Int.tmod_eq_emod_of_nonneg (by omega)]; omega
def numText (a : Int) : ByteArray := if isNum a = true then dec a.toNat else ⟨#[]⟩
theorem spec_NumText_nat : ∀ (m n : Nat), n < 10 ^ (m + 1) → n ≤ 4294967295 → Ev (fun k => spec_NumText.f k (n : Int)) (dec n) := by
 intro m
 induction m with
 | zero =>
  intro n h hb
  refine Ev.step (fun _ => rfl) ?_
  simp only [spec_NumText.f]
  refine Ev.bind (Ev.const (spec_l01Num_eq _)) ?_
  refine Ev.pos (by simp [isNum]; omega) ?_
  refine Ev.pos (by simp at h; omega) ?_
  rw [dig_w (by simpa using h), dec_small (by simpa using h)]
  exact Ev.const rfl
 | succ m ih =>
  intro n h hb
  refine Ev.step (fun _ => rfl) ?_
  simp only [spec_NumText.f]
  refine Ev.bind (Ev.const (spec_l01Num_eq _)) ?_
  refine Ev.pos (by simp [isNum]; omega) ?_
  by_cases c : n < 10
  ·refine Ev.pos (by omega) ?_
   rw [dig_w c, dec_small c]
   exact Ev.const rfl
  ·refine Ev.neg (by omega) ?_
   rw [tdiv10, tmod10, dig_w (by omega), w64 (x := ((n / 10 : Nat) : Int)) (by omega) (by omega), dec_big c]
   have hz := dec_size10 (n := n / 10) (by omega)
   have hd := dg_size (n % 10)
   refine Ev.bind (ih (n / 10) (by rw [Nat.pow_succ] at h; omega) (by omega)) ?_
   refine Ev.bind (Ev.const rfl) ?_
   refine Ev.pos ?_ (Ev.const rfl)
   have : (strOfNums [48 + ((n % 10 : Nat) : Int)]).size = 1 := strOfNums_size1 _
   omega
theorem spec_NumText_ev (a : Int) : Ev (fun k => spec_NumText.f k a) (numText a) := by
 unfold numText
 cases c : isNum a
 ·refine Ev.step (fun _ => rfl) ?_
  simp only [spec_NumText.f]
  refine Ev.bind (Ev.const (spec_l01Num_eq _)) ?_
  exact Ev.neg (by simp [c]) (Ev.const (by simp))
 ·have h : 0 ≤ a ∧ a ≤ 4294967295 := by simpa [isNum] using c
  obtain ⟨n, rfl⟩ := Int.eq_ofNat_of_zero_le h.1
  exact spec_NumText_nat 9 n (by omega) (by omega)
theorem impl_NumText_nat : ∀ (m n : Nat) (y : ByteArray), n < 10 ^ (m + 1) → n ≤ 4294967295 → y.size + m ≤ 1000 → Ev (fun k => impl_NumText.l0 k (n : Int) y) (dec n ++ y) := by
 intro m
 induction m with
 | zero =>
  intro n y h hb hy
  have hz : (strOfNums [48 + (n : Int)]).size = 1 := strOfNums_size1 _
  refine Ev.step (fun _ => rfl) ?_
  simp only [impl_NumText.l0]
  refine Ev.neg (by simp at h; omega) ?_
  rw [dig_w (by simpa using h), dec_small (by simpa using h)]
  refine Ev.bind (Ev.const rfl) ?_
  exact Ev.pos (by omega) (Ev.const rfl)
 | succ m ih =>
  intro n y h hb hy
  refine Ev.step (fun _ => rfl) ?_
  simp only [impl_NumText.l0]
  by_cases c : n < 10
  ·have hz : (strOfNums [48 + (n : Int)]).size = 1 := strOfNums_size1 _
   refine Ev.neg (by omega) ?_
   rw [dig_w c, dec_small c]
   refine Ev.bind (Ev.const rfl) ?_
   exact Ev.pos (by omega) (Ev.const rfl)
  ·refine Ev.pos (by omega) ?_
   rw [tdiv10, tmod10, dig_w (by omega), w64 (x := ((n / 10 : Nat) : Int)) (by omega) (by omega), dec_big c]
   have hz : (strOfNums [48 + ((n % 10 : Nat) : Int)]).size = 1 := strOfNums_size1 _
   refine Ev.bind (Ev.const rfl) ?_
   refine Ev.pos (by omega) ?_
   refine Ev.to (ih (n / 10) _ (by rw [Nat.pow_succ] at h; omega) (by omega) (by rw [ByteArray.size_append, hz]; omega)) ?_
   rw [ByteArray.append_assoc]; rfl
theorem impl_NumText_ev (a : Int) : Ev (fun k => impl_NumText.f k a) (numText a) := by
 unfold impl_NumText.f numText
 refine Ev.bind (Ev.const (impl_isNum_eq a)) ?_
 cases c : isNum a
 ·exact Ev.neg (by simp) (Ev.const (by simp))
 ·have h : 0 ≤ a ∧ a ≤ 4294967295 := by simpa [isNum] using c
  obtain ⟨n, rfl⟩ := Int.eq_ofNat_of_zero_le h.1
  refine Ev.pos rfl ?_
  refine Ev.to (impl_NumText_nat 9 n ⟨#[]⟩ (by omega) (by omega) (by rw [show (⟨#[]⟩ : ByteArray).size = 0 from rfl]; omega)) ?_
  rw [append_empty, if_pos rfl, Int.toNat_natCast]
theorem numText_size (a : Int) : (numText a).size ≤ 10 := by
 unfold numText
 cases c : isNum a
 ·exact Nat.zero_le _
 ·have h : 0 ≤ a ∧ a ≤ 4294967295 := by simpa [isNum] using c
  exact (dec_size10 (by omega)).2
theorem numText_nil (a : Int) : numText a = ⟨#[]⟩ ↔ isNum a = false := by
 unfold numText
 cases c : isNum a
 ·simp
 ·have h : 0 ≤ a ∧ a ≤ 4294967295 := by simpa [isNum] using c
  rw [if_pos rfl]
  constructor
  ·intro e
   have := (dec_size10 (n := a.toNat) (by omega)).1
   rw [e] at this
   exact absurd this (by decide)
  ·intro e; cases e
def asksOk (l : List ByteArray) : Bool := (l.all fun s => itemOk s ⟨#[]⟩ 0) && decide (l.length ≤ 300)
theorem spec_AsksOk_l0 (l : List ByteArray) (hl : l.length ≤ 140737488351232) (ho : ∀ s ∈ l, s.size ≤ 140737488351232) : ∀ (d i : Nat), i + d = l.length →
  Ev (fun k => spec_AsksOk.l0 k l l (l.length : Int) i) (((l.drop i).all fun s => itemOk s ⟨#[]⟩ 0) && decide (l.length ≤ 300)) := by
 intro d
 induction d with
 | zero =>
  intro i hi
  refine Ev.step (fun _ => rfl) ?_
  simp only [spec_AsksOk.l0]
  refine Ev.neg (by omega) ?_
  rw [List.drop_of_length_le (by omega)]
  exact Ev.const (by simp; omega)
 | succ d ih =>
  intro i hi
  have hlt : i < l.length := by omega
  have er : rdOf ByteArray.empty l (i : Int) = l[i] := getD_at hlt _
  refine Ev.step (fun _ => rfl) ?_
  simp only [spec_AsksOk.l0]
  rw [er, drop_at hlt, wsucc (by omega), List.all_cons]
  refine Ev.pos (by omega) (Ev.pos (by omega) (Ev.pos (by omega) ?_))
  refine Ev.bind (spec_ItemOk_ev _ _ _ (ho _ (List.getElem_mem hlt)) (by decide)) ?_
  cases c : itemOk l[i] ⟨#[]⟩ 0
  ·exact Ev.neg (by simp) (Ev.const (by simp))
  ·refine Ev.pos rfl ?_
   rw [Bool.true_and]
   exact ih (i + 1) (by omega)
theorem spec_AsksOk_ev (l : List ByteArray) (hl : l.length ≤ 140737488351232) (ho : ∀ s ∈ l, s.size ≤ 140737488351232) : Ev (fun k => spec_AsksOk.f k l) (asksOk l) := by
 unfold spec_AsksOk.f
 exact spec_AsksOk_l0 l hl ho l.length 0 (by omega)
theorem impl_AsksOk_l0 (l : List ByteArray) (hl : l.length ≤ 140737488351232) (ho : ∀ s ∈ l, s.size ≤ 140737488351232) : ∀ (d i : Nat), i + d = l.length →
  Ev (fun k => impl_AsksOk.l0 k l l (l.length : Int) i) (((l.drop i).all fun s => itemOk s ⟨#[]⟩ 0) && decide (l.length ≤ 300)) := by
 intro d
 induction d with
 | zero =>
  intro i hi
  refine Ev.step (fun _ => rfl) ?_
  simp only [impl_AsksOk.l0]
  refine Ev.neg (by omega) ?_
  rw [List.drop_of_length_le (by omega)]
  exact Ev.const (by simp; omega)
 | succ d ih =>
  intro i hi
  have hlt : i < l.length := by omega
  have er : rdOf ByteArray.empty l (i : Int) = l[i] := getD_at hlt _
  refine Ev.step (fun _ => rfl) ?_
  simp only [impl_AsksOk.l0]
  rw [er, drop_at hlt, wsucc (by omega), List.all_cons]
  refine Ev.pos (by omega) (Ev.pos (by omega) (Ev.pos (by omega) ?_))
  refine Ev.bind (impl_ItemOk_ev _ _ _ (ho _ (List.getElem_mem hlt)) (by decide)) ?_
  cases c : itemOk l[i] ⟨#[]⟩ 0
  ·exact Ev.neg (by simp) (Ev.const (by simp))
  ·refine Ev.pos rfl ?_
   rw [Bool.true_and]
   exact ih (i + 1) (by omega)
theorem impl_AsksOk_ev (l : List ByteArray) (hl : l.length ≤ 140737488351232) (ho : ∀ s ∈ l, s.size ≤ 140737488351232) : Ev (fun k => impl_AsksOk.f k l) (asksOk l) := by
 unfold impl_AsksOk.f
 exact impl_AsksOk_l0 l hl ho l.length 0 (by omega)
theorem asksOk_mem {l : List ByteArray} (h : asksOk l = true) : (∀ s ∈ l, 1 ≤ s.size ∧ s.size ≤ 20) ∧ l.length ≤ 300 := by
 unfold asksOk at h
 rw [Bool.and_eq_true, List.all_eq_true] at h
 refine ⟨fun s hs => ?_, by simpa using h.2⟩
 have := h.1 s hs
 unfold itemOk at this
 simp only [Bool.and_eq_true, decide_eq_true_eq] at this
 omega
/-- Words with blanks between. -/
def glueOn (acc : ByteArray) (l : List ByteArray) : ByteArray := l.foldl (fun a t => (a ++ (⟨#[32]⟩ : ByteArray)) ++ t) acc
def glue : List ByteArray → ByteArray
 | [] => ⟨#[]⟩
 | x :: r => glueOn x r
def tsum (l : List ByteArray) : Nat := (l.map ByteArray.size).sum
theorem glueOn_size (l : List ByteArray) : ∀ acc : ByteArray, (glueOn acc l).size = acc.size + l.length + tsum l := by
 induction l with
 | nil => intro acc; simp [glueOn, tsum]
 | cons x r ih =>
  intro acc
  have := ih ((acc ++ (⟨#[32]⟩ : ByteArray)) ++ x)
  unfold glueOn at this ⊢
  rw [List.foldl_cons, this, ByteArray.size_append, ByteArray.size_append, show (⟨#[32]⟩ : ByteArray).size = 1 from rfl]
  simp only [tsum, List.map_cons, List.sum_cons, List.length_cons]
  omega
theorem impl_glued_l0 (l : List ByteArray) (hl : l.length ≤ 140737488351232) : ∀ (d i : Nat) (acc : ByteArray), 1 ≤ i → i + d = l.length → acc.size + (l.drop i).length + tsum (l.drop i) ≤ 4611686018427387904 →
  Ev (fun k => impl_glued.l0 k acc l (l.length : Int) i) (glueOn acc (l.drop i)) := by
 intro d
 induction d with
 | zero =>
  intro i acc h1 hi hs
  refine Ev.step (fun _ => rfl) ?_
  simp only [impl_glued.l0]
  refine Ev.neg (by omega) ?_
  rw [List.drop_of_length_le (by omega)]
  exact Ev.const rfl
 | succ d ih =>
  intro i acc h1 hi hs
  have hlt : i < l.length := by omega
  have er : rdOf ByteArray.empty l (i : Int) = l[i] := getD_at hlt _
  refine Ev.step (fun _ => rfl) ?_
  simp only [impl_glued.l0]
  rw [drop_at hlt] at hs
  simp only [tsum, List.map_cons, List.sum_cons, List.length_cons] at hs
  rw [er, drop_at hlt, wsucc (by omega)]
  refine Ev.pos (by omega) (Ev.pos (by omega) (Ev.pos (by omega) (Ev.pos (by omega) (Ev.pos (by omega) (Ev.pos (by omega) ?_)))))
  refine ih (i + 1) _ (by omega) (by omega) ?_
  rw [ByteArray.size_append, ByteArray.size_append, show (⟨#[32]⟩ : ByteArray).size = 1 from rfl]
  simp only [tsum]
  omega
theorem impl_glued_all (l : List ByteArray) (hl : l.length ≤ 140737488351232) (hs : l.length + tsum l ≤ 4611686018427387904) : Ev (fun k => impl_glued.l0 k (⟨#[]⟩ : ByteArray) l (l.length : Int) 0) (glue l) := by
 refine Ev.step (fun _ => rfl) ?_
 simp only [impl_glued.l0]
 cases l with
 | nil => exact Ev.neg (by simp) (Ev.const rfl)
 | cons x r =>
  have er : rdOf ByteArray.empty (x :: r) 0 = x := rfl
  simp only [tsum, List.map_cons, List.sum_cons, List.length_cons] at hs
  have hz : (⟨#[]⟩ : ByteArray).size = 0 := rfl
  rw [er]
  refine Ev.pos (by simp <;> omega) (Ev.pos (by omega) (Ev.pos (by simp <;> omega) (Ev.neg (by omega) (Ev.pos (by omega) ?_))))
  have e0 : (⟨#[]⟩ : ByteArray) ++ x = x := empty_append x
  rw [e0, w64 (x := 0 + 1) (by omega) (by omega)]
  refine Ev.to (impl_glued_l0 (x :: r) hl r.length 1 x (by omega) (by simp; omega) ?_) ?_
  ·simp only [List.drop_succ_cons, List.drop_zero, tsum]; omega
  ·simp [glue]
theorem spec_AsksText_l0 (l : List ByteArray) (hl : l.length ≤ 140737488351232) : ∀ (d i : Nat) (acc : ByteArray), 1 ≤ i → i + d = l.length → acc.size + (l.drop i).length + tsum (l.drop i) ≤ 4611686018427387904 →
  Ev (fun k => spec_AsksText.l0 k acc l (l.length : Int) i) (glueOn acc (l.drop i)) := by
 intro d
 induction d with
 | zero =>
  intro i acc h1 hi hs
  refine Ev.step (fun _ => rfl) ?_
  simp only [spec_AsksText.l0]
  refine Ev.neg (by omega) ?_
  rw [List.drop_of_length_le (by omega)]
  exact Ev.const rfl
 | succ d ih =>
  intro i acc h1 hi hs
  have hlt : i < l.length := by omega
  have er : rdOf ByteArray.empty l (i : Int) = l[i] := getD_at hlt _
  refine Ev.step (fun _ => rfl) ?_
  simp only [spec_AsksText.l0]
  rw [drop_at hlt] at hs
  simp only [tsum, List.map_cons, List.sum_cons, List.length_cons] at hs
  rw [er, drop_at hlt, wsucc (by omega)]
  refine Ev.pos (by omega) (Ev.pos (by omega) (Ev.pos (by omega) (Ev.pos (by omega) (Ev.pos (by omega) (Ev.pos (by omega) ?_)))))
  refine ih (i + 1) _ (by omega) (by omega) ?_
  rw [ByteArray.size_append, ByteArray.size_append, show (⟨#[32]⟩ : ByteArray).size = 1 from rfl]
  simp only [tsum]
  omega
theorem spec_AsksText_all (l : List ByteArray) (hl : l.length ≤ 140737488351232) (hs : l.length + tsum l ≤ 4611686018427387904) : Ev (fun k => spec_AsksText.l0 k (⟨#[]⟩ : ByteArray) l (l.length : Int) 0) (glue l) := by
 refine Ev.step (fun _ => rfl) ?_
 simp only [spec_AsksText.l0]
 cases l with
 | nil => exact Ev.neg (by simp) (Ev.const rfl)
 | cons x r =>
  have er : rdOf ByteArray.empty (x :: r) 0 = x := rfl
  simp only [tsum, List.map_cons, List.sum_cons, List.length_cons] at hs
  have hz : (⟨#[]⟩ : ByteArray).size = 0 := rfl
  rw [er]
  refine Ev.pos (by simp <;> omega) (Ev.pos (by omega) (Ev.pos (by simp <;> omega) (Ev.neg (by omega) (Ev.pos (by omega) ?_))))
  have e0 : (⟨#[]⟩ : ByteArray) ++ x = x := empty_append x
  rw [e0, w64 (x := 0 + 1) (by omega) (by omega)]
  refine Ev.to (spec_AsksText_l0 (x :: r) hl r.length 1 x (by omega) (by simp; omega) ?_) ?_
  ·simp only [List.drop_succ_cons, List.drop_zero, tsum]; omega
  ·simp [glue]
theorem impl_glued_ev (l : List ByteArray) (hl : l.length ≤ 140737488351232) (hs : l.length + tsum l ≤ 4611686018427387904) : Ev (fun k => impl_glued.f k l) (glue l) := by
 unfold impl_glued.f
 exact impl_glued_all l hl hs
theorem tsum_le {l : List ByteArray} {b : Nat} (h : ∀ s ∈ l, s.size ≤ b) : tsum l ≤ b * l.length := by
 induction l with
 | nil => simp [tsum]
 | cons x r ih =>
  have h1 := h x (by simp)
  have h2 := ih (fun s hs => h s (by simp [hs]))
  simp only [tsum, List.map_cons, List.sum_cons, List.length_cons] at h2 ⊢
  rw [Nat.mul_succ]
  omega
def asksText (l : List ByteArray) : ByteArray := if asksOk l = true then glue l else ⟨#[]⟩
theorem glue_bound {l : List ByteArray} (h : asksOk l = true) : l.length + tsum l ≤ 6300 := by
 obtain ⟨h1, h2⟩ := asksOk_mem h
 have := tsum_le (b := 20) (fun s hs => (h1 s hs).2)
 omega
theorem impl_AsksText_ev (l : List ByteArray) (hl : l.length ≤ 140737488351232) (ho : ∀ s ∈ l, s.size ≤ 140737488351232) : Ev (fun k => impl_AsksText.f k l) (asksText l) := by
 unfold impl_AsksText.f asksText
 refine Ev.bind (impl_AsksOk_ev l hl ho) ?_
 cases c : asksOk l
 ·exact Ev.neg (by simp) (Ev.const (by simp))
 ·have := glue_bound c
  refine Ev.pos rfl ?_
  refine Ev.bind (impl_glued_ev l hl (by omega)) ?_
  exact Ev.const (by simp)
theorem spec_AsksText_ev (l : List ByteArray) (hl : l.length ≤ 140737488351232) (ho : ∀ s ∈ l, s.size ≤ 140737488351232) : Ev (fun k => spec_AsksText.f k l) (asksText l) := by
 unfold spec_AsksText.f asksText
 refine Ev.bind (spec_AsksOk_ev l hl ho) ?_
 cases c : asksOk l
 ·exact Ev.neg (by simp) (Ev.const (by simp))
 ·have := glue_bound c
  refine Ev.pos rfl ?_
  rw [if_pos rfl]
  exact spec_AsksText_all l hl (by omega)
theorem asksText_size (l : List ByteArray) : (asksText l).size ≤ 6300 := by
 unfold asksText
 cases c : asksOk l
 ·exact Nat.zero_le _
 ·have := glue_bound c
  rw [if_pos rfl]
  cases l with
  | nil => exact Nat.zero_le _
  | cons x r =>
   simp only [tsum, List.map_cons, List.sum_cons, List.length_cons] at this
   show (glueOn x r).size ≤ 6300
   rw [glueOn_size]
   simp only [tsum]
   omega
theorem asksText_nil (l : List ByteArray) : asksText l = ⟨#[]⟩ ↔ (asksOk l = false ∨ l = []) := by
 unfold asksText
 cases c : asksOk l
 ·simp
 ·rw [if_pos rfl]
  cases l with
  | nil => simp [glue]
  | cons x r =>
   have h1 := (asksOk_mem c).1 x (by simp)
   constructor
   ·intro h
    have hz := congrArg ByteArray.size h
    rw [show glue (x :: r) = glueOn x r from rfl, glueOn_size, show (⟨#[]⟩ : ByteArray).size = 0 from rfl] at hz
    omega
   ·intro h; simp at h
def opOk (kind : Int) (key val : ByteArray) : Bool := decide (1 ≤ kind) && decide (kind ≤ 3) && itemOk key val 0 && (decide (kind = 2) || decide (val = ⟨#[]⟩))
theorem nil_beq (a : ByteArray) : (a.toList == ([] : List UInt8)) = decide (a = ⟨#[]⟩) := by
 rw [Bool.eq_iff_iff]
 simp [toList_nil]
theorem spec_OpOk_ev (kind : Int) (key val : ByteArray) (h0 : key.size ≤ 140737488351232) (h1 : val.size ≤ 140737488351232) : Ev (fun k => spec_OpOk.f k kind key val) (opOk kind key val) := by
 unfold spec_OpOk.f opOk
 by_cases a : 1 ≤ kind
 rotate_left
 ·exact Ev.neg (by omega) (Ev.const (by simp [a]))
 refine Ev.pos (by omega) ?_
 by_cases b : kind ≤ 3
 rotate_left
 ·exact Ev.neg (by omega) (Ev.const (by simp [b]))
 refine Ev.pos (by omega) ?_
 refine Ev.bind (spec_ItemOk_ev key val 0 h0 h1) ?_
 cases c : itemOk key val 0
 ·exact Ev.neg (by simp) (Ev.const (by simp))
 refine Ev.pos rfl ?_
 by_cases d : kind = 2
 ·exact Ev.pos d (Ev.const (by simp [d]))
 ·exact Ev.neg d (Ev.const (by rw [nil_beq]; simp [a, b, d]))
theorem impl_OpOk_ev (kind : Int) (key val : ByteArray) (h0 : key.size ≤ 140737488351232) (h1 : val.size ≤ 140737488351232) : Ev (fun k => impl_OpOk.f k kind key val) (opOk kind key val) := by
 unfold impl_OpOk.f opOk
 refine Ev.bind (Ev.const (impl_within_eq _ _ _)) ?_
 by_cases a : 1 ≤ kind
 rotate_left
 ·exact Ev.neg (by simp; omega) (Ev.const (by simp [a]))
 by_cases b : kind ≤ 3
 rotate_left
 ·exact Ev.neg (by simp; omega) (Ev.const (by simp [b]))
 refine Ev.pos (by simp; omega) ?_
 refine Ev.bind (impl_ItemOk_ev key val 0 h0 h1) ?_
 cases c : itemOk key val 0
 ·exact Ev.neg (by simp) (Ev.const (by simp))
 refine Ev.pos rfl ?_
 by_cases d : kind = 2
 ·exact Ev.pos d (Ev.const (by simp [d]))
 ·exact Ev.neg d (Ev.const (by rw [nil_beq]; simp [a, b, d]))
/-- The text of an op. -/
def opText (kind : Int) (key val : ByteArray) : ByteArray :=
 if opOk kind key val = true then (if kind = 1 then (⟨#[103, 101, 116, 32]⟩ : ByteArray) ++ key else if kind = 2 then (((⟨#[112, 117, 116, 32]⟩ : ByteArray) ++ key) ++ (⟨#[32]⟩ : ByteArray)) ++ val else (⟨#[100, 114, 111, 112, 32]⟩ : ByteArray) ++ key) else ⟨#[]⟩
theorem spec_OpText_ev (kind : Int) (key val : ByteArray) (h0 : key.size ≤ 140737488351232) (h1 : val.size ≤ 140737488351232) : Ev (fun k => spec_OpText.f k kind key val) (opText kind key val) := by
 unfold spec_OpText.f opText
 refine Ev.bind (spec_OpOk_ev kind key val h0 h1) ?_
 cases c : opOk kind key val
 ·exact Ev.neg (by simp) (Ev.const (by simp))
 refine Ev.pos rfl ?_
 rw [if_pos rfl]
 by_cases a : kind = 1
 ·exact Ev.pos a (Ev.pos (by omega) (Ev.const (by rw [if_pos a])))
 refine Ev.neg a ?_
 by_cases b : kind = 2
 ·exact Ev.pos b (Ev.pos (by omega) (Ev.pos (by omega) (Ev.pos (by omega) (Ev.const (by rw [if_neg a, if_pos b])))))
 exact Ev.neg b (Ev.pos (by omega) (Ev.const (by rw [if_neg a, if_neg b])))
theorem impl_OpText_ev (kind : Int) (key val : ByteArray) (h0 : key.size ≤ 140737488351232) (h1 : val.size ≤ 140737488351232) : Ev (fun k => impl_OpText.f k kind key val) (opText kind key val) := by
 unfold impl_OpText.f opText
 refine Ev.bind (impl_OpOk_ev kind key val h0 h1) ?_
 cases c : opOk kind key val
 ·exact Ev.neg (by simp) (Ev.const (by simp))
 refine Ev.pos rfl ?_
 rw [if_pos rfl]
 by_cases a : kind = 1
 ·exact Ev.pos a (Ev.pos (by omega) (Ev.const (by rw [if_pos a])))
 refine Ev.neg a ?_
 by_cases b : kind = 2
 ·exact Ev.pos b (Ev.pos (by omega) (Ev.pos (by omega) (Ev.pos (by omega) (Ev.const (by rw [if_neg a, if_pos b])))))
 exact Ev.neg b (Ev.pos (by omega) (Ev.const (by rw [if_neg a, if_neg b])))
theorem opText_nil (kind : Int) (key val : ByteArray) : opText kind key val = ⟨#[]⟩ ↔ opOk kind key val = false := by
 unfold opText
 cases c : opOk kind key val
 ·simp
 ·rw [if_pos rfl]
  constructor
  ·intro h
   have hz := congrArg ByteArray.size h
   have e1 : (⟨#[103, 101, 116, 32]⟩ : ByteArray).size = 4 := rfl
   have e2 : (⟨#[112, 117, 116, 32]⟩ : ByteArray).size = 4 := rfl
   have e3 : (⟨#[100, 114, 111, 112, 32]⟩ : ByteArray).size = 5 := rfl
   have e4 : (⟨#[]⟩ : ByteArray).size = 0 := rfl
   split at hz
   ·rw [ByteArray.size_append] at hz; omega
   ·split at hz
    ·rw [ByteArray.size_append, ByteArray.size_append, ByteArray.size_append] at hz; omega
    ·rw [ByteArray.size_append] at hz; omega
  ·intro h; cases h
def cmdAlone (kind a b opk : Int) (key val : ByteArray) (asks : List ByteArray) : Bool :=
 (decide (kind = 1) || decide (kind = 6) || decide (a = 0)) && (decide (kind = 1) || decide (b = 0)) && (decide (kind = 2) || (decide (opk = 0) && decide (key = ⟨#[]⟩) && decide (val = ⟨#[]⟩))) && (decide (kind = 3) || decide (asks = []))
def kwNew : ByteArray := ⟨#[110, 101, 119]⟩
def sp : ByteArray := ⟨#[32]⟩
def cmdText (kind a b opk : Int) (key val : ByteArray) (asks : List ByteArray) : ByteArray :=
 if cmdAlone kind a b opk key val asks = true then
  if kind = 1 then (if isNum a = true ∧ isNum b = true then (((kwNew ++ sp) ++ numText a) ++ sp) ++ numText b else ⟨#[]⟩)
  else if kind = 2 then opText opk key val
  else if kind = 3 then (if asksOk asks = true ∧ asks ≠ [] then (⟨#[97, 115, 107, 32]⟩ : ByteArray) ++ asksText asks else ⟨#[]⟩)
  else if kind = 4 then ⟨#[115, 104, 111, 119]⟩
  else if kind = 5 then ⟨#[114, 97, 116, 101]⟩
  else if kind = 6 then (if isNum a = true then (⟨#[108, 97, 98, 32]⟩ : ByteArray) ++ numText a else ⟨#[]⟩)
  else if kind = 7 then ⟨#[115, 97, 118, 101]⟩
  else ⟨#[]⟩
 else ⟨#[]⟩
theorem len_zero (l : List ByteArray) : (((l.length : Int)) == 0) = decide (l = []) := by
 rw [Bool.eq_iff_iff]; cases l <;> simp <;> omega
theorem impl_isAlone_eq (kind a b opk : Int) (key val : ByteArray) (asks : List ByteArray) : impl_isAlone.f kind a b opk key val asks = some (cmdAlone kind a b opk key val asks) := by
 unfold impl_isAlone.f cmdAlone
 simp only [toList_nil, len_zero]
 by_cases h1 : kind = 1
 ·subst h1
  by_cases h2 : opk = 0 <;> by_cases h3 : key = ⟨#[]⟩ <;> by_cases h4 : val = ⟨#[]⟩ <;> simp [h2, h3, h4]
 by_cases h6 : kind = 6
 ·subst h6
  by_cases hb : b = 0 <;> by_cases h2 : opk = 0 <;> by_cases h3 : key = ⟨#[]⟩ <;> by_cases h4 : val = ⟨#[]⟩ <;> simp [hb, h2, h3, h4]
 by_cases k2 : kind = 2
 ·subst k2
  by_cases ha : a = 0 <;> by_cases hb : b = 0 <;> simp [ha, hb]
 by_cases k3 : kind = 3
 ·subst k3
  by_cases ha : a = 0 <;> by_cases hb : b = 0 <;> by_cases h2 : opk = 0 <;> by_cases h3 : key = ⟨#[]⟩ <;> by_cases h4 : val = ⟨#[]⟩ <;> simp [ha, hb, h2, h3, h4]
 by_cases ha : a = 0 <;> by_cases hb : b = 0 <;> by_cases h2 : opk = 0 <;> by_cases h3 : key = ⟨#[]⟩ <;> by_cases h4 : val = ⟨#[]⟩ <;> simp [h1, h6, k2, k3, ha, hb, h2, h3, h4]
theorem len_pos (l : List ByteArray) : decide (((l.length : Int)) > 0) = !decide (l = []) := by
 rw [Bool.eq_iff_iff]; cases l <;> simp <;> omega
theorem l21Zero_j0 (x : Bool) (kind a b opk : Int) (key val : ByteArray) (asks : List ByteArray) : Ev (fun k => spec_l21Zero.j0 k x kind a b opk key val asks) (!x && (decide (kind = 1) || (decide (b = 0) && (decide (kind = 6) || decide (a = 0))))) := by
 refine Ev.step (fun _ => rfl) ?_
 simp only [spec_l21Zero.j0]
 cases x
 ·refine Ev.neg (by simp) ?_
  by_cases h1 : kind = 1
  ·exact Ev.pos h1 (Ev.const (by simp [h1]))
  refine Ev.neg h1 ?_
  by_cases hb : b = 0
  rotate_left
  ·exact Ev.neg hb (Ev.const (by simp [h1, hb]))
  refine Ev.pos hb ?_
  by_cases h6 : kind = 6
  ·exact Ev.pos h6 (Ev.const (by simp [h6, hb]))
  refine Ev.neg h6 (Ev.const ?_)
  by_cases ha : a = 0 <;> simp [h1, hb, h6, ha]
 ·exact Ev.pos rfl (Ev.const (by simp))
theorem spec_l21Zero_ev (kind a b opk : Int) (key val : ByteArray) (asks : List ByteArray) : Ev (fun k => spec_l21Zero.f k kind a b opk key val asks) (cmdAlone kind a b opk key val asks) := by
 have J := fun x => l21Zero_j0 x kind a b opk key val asks
 unfold spec_l21Zero.f cmdAlone
 simp only [toList_nil, len_pos]
 have fin : ∀ (x : Bool), (!x) = ((decide (kind = 2) || (decide (opk = 0) && decide (key = ⟨#[]⟩) && decide (val = ⟨#[]⟩))) && (decide (kind = 3) || decide (asks = []))) →
   (!x && (decide (kind = 1) || (decide (b = 0) && (decide (kind = 6) || decide (a = 0))))) = ((decide (kind = 1) || decide (kind = 6) || decide (a = 0)) && (decide (kind = 1) || decide (b = 0)) && (decide (kind = 2) || (decide (opk = 0) && decide (key = ⟨#[]⟩) && decide (val = ⟨#[]⟩))) && (decide (kind = 3) || decide (asks = []))) := by
  intro x hx
  rw [hx]
  cases decide (kind = 1) <;> cases decide (kind = 6) <;> cases decide (a = 0) <;> cases decide (b = 0) <;> cases decide (kind = 2) <;> cases (decide (opk = 0) && decide (key = ⟨#[]⟩) && decide (val = ⟨#[]⟩)) <;> cases decide (kind = 3) <;> cases decide (asks = []) <;> rfl
 by_cases k2 : kind = 2
 ·refine Ev.pos k2 ?_
  refine Ev.neg (by omega) (Ev.to (J _) (fin _ ?_))
  have k3 : ¬ kind = 3 := by omega
  simp [k2]
 refine Ev.neg k2 ?_
 by_cases h2 : opk = 0
 rotate_left
 ·exact Ev.neg h2 (Ev.to (J _) (fin _ (by simp [k2, h2])))
 refine Ev.pos h2 ?_
 by_cases h3 : key = ⟨#[]⟩
 rotate_left
 ·exact Ev.neg h3 (Ev.to (J _) (fin _ (by simp [k2, h3])))
 refine Ev.pos h3 ?_
 by_cases h4 : val = ⟨#[]⟩
 rotate_left
 ·exact Ev.neg h4 (Ev.to (J _) (fin _ (by simp [k2, h4])))
 refine Ev.pos h4 ?_
 by_cases k3 : kind = 3
 ·exact Ev.pos k3 (Ev.to (J _) (fin _ (by simp [h2, h3, h4, k3])))
 ·exact Ev.neg k3 (Ev.to (J _) (fin _ (by simp [h2, h3, h4, k3])))
theorem new_glue (a b : ByteArray) : glue [(⟨#[110, 101, 119]⟩ : ByteArray), a, b] = (((kwNew ++ sp) ++ a) ++ sp) ++ b := rfl
theorem isNum_zero : isNum 0 = true := by decide
theorem sz3 : kwNew.size = 3 := rfl
theorem cmdAlone_ab {kind a b opk : Int} {key val : ByteArray} {asks : List ByteArray} (h : cmdAlone kind a b opk key val asks = true) : (kind = 1 ∨ b = 0) ∧ (kind = 1 ∨ kind = 6 ∨ a = 0) := by
 unfold cmdAlone at h
 simp only [Bool.and_eq_true, Bool.or_eq_true, decide_eq_true_eq] at h
 obtain ⟨⟨⟨h1, h2⟩, _⟩, _⟩ := h
 exact ⟨h2, by rcases h1 with (h | h) | h <;> simp [h]⟩
theorem impl_CmdText_ev (kind a b opk : Int) (key val : ByteArray) (asks : List ByteArray) (hk : key.size ≤ 140737488351232) (hv : val.size ≤ 140737488351232) (hl : asks.length ≤ 140737488351232) (ho : ∀ s ∈ asks, s.size ≤ 140737488351232) :
  Ev (fun k => impl_CmdText.f k kind a b opk key val asks) (cmdText kind a b opk key val asks) := by
 have NO : ∀ x y : ByteArray, Ev (fun k => impl_CmdText.j0 k x y true kind a b opk key val asks) ⟨#[]⟩ := by
  intro x y
  refine Ev.step (fun _ => rfl) ?_
  simp only [impl_CmdText.j0]
  first | exact Ev.pos trivial (Ev.const rfl) | exact Ev.const rfl
 unfold impl_CmdText.f cmdText
 refine Ev.bind (impl_NumText_ev a) ?_
 refine Ev.bind (impl_NumText_ev b) ?_
 refine Ev.bind (Ev.const (impl_isAlone_eq _ _ _ _ _ _ _)) ?_
 cases c : cmdAlone kind a b opk key val asks
 ·exact Ev.neg (by simp) (Ev.to (NO _ _) (by simp))
 refine Ev.pos rfl ?_
 rw [if_pos rfl, nil_beq]
 simp only [toList_nil, numText_nil]
 obtain ⟨hb, ha⟩ := cmdAlone_ab c
 have na := numText_size a
 have nb := numText_size b
 cases ia : isNum a
 ·refine Ev.pos rfl (Ev.to (NO _ _) ?_)
  have ha' : kind = 1 ∨ kind = 6 := by
   rcases ha with h | h | h
   ·exact .inl h
   ·exact .inr h
   ·rw [h, isNum_zero] at ia; cases ia
  rcases ha' with rfl | rfl <;> simp
 refine Ev.neg (by simp) ?_
 cases ib : isNum b
 ·simp only [decide_true]
  refine Ev.to (NO _ _) ?_
  have hb' : kind = 1 := by
   rcases hb with h | h
   ·exact h
   ·rw [h, isNum_zero] at ib; cases ib
  subst hb'
  simp
 refine Ev.step (fun _ => rfl) ?_
 simp only [impl_CmdText.j0]
 refine Ev.neg (by simp) ?_
 by_cases k1 : kind = 1
 ·refine Ev.pos k1 ?_
  refine Ev.bind (impl_glued_ev _ (by simp) ?_) ?_
  ·have e : (⟨#[110, 101, 119]⟩ : ByteArray).size = 3 := rfl
   simp only [tsum, List.map_cons, List.map_nil, List.sum_cons, List.sum_nil, List.length_cons, List.length_nil, e]
   omega
  ·exact Ev.const (by rw [new_glue]; simp [k1])
 refine Ev.neg k1 ?_
 by_cases k2 : kind = 2
 ·refine Ev.pos k2 ?_
  refine Ev.bind (impl_OpText_ev _ _ _ hk hv) ?_
  exact Ev.const (by simp [k2])
 refine Ev.neg k2 ?_
 by_cases k3 : kind = 3
 ·refine Ev.pos k3 ?_
  have hsz := asksText_size asks
  refine Ev.bind (impl_AsksText_ev asks hl ho) ?_
  rw [if_neg k1, if_neg k2, if_pos k3]
  by_cases d : asksText asks = ⟨#[]⟩
  ·refine Ev.pos (toList_nil.2 d) (Ev.const ?_)
   rw [if_neg]
   intro ⟨h1, h2⟩
   rcases (asksText_nil asks).1 d with h | h
   ·rw [h] at h1; cases h1
   ·exact h2 h
  ·refine Ev.neg (fun h => d (toList_nil.1 h)) ?_
   have h1 : asksOk asks = true ∧ asks ≠ [] := by
    constructor
    ·cases h : asksOk asks
     ·exact absurd ((asksText_nil asks).2 (.inl h)) d
     ·rfl
    ·intro h; exact d ((asksText_nil asks).2 (.inr h))
   rw [if_pos h1]
   exact Ev.pos (by omega) (Ev.const rfl)
 refine Ev.neg k3 ?_
 rw [if_neg k1, if_neg k2, if_neg k3]
 by_cases k4 : kind = 4
 ·exact Ev.pos k4 (Ev.const (by rw [if_pos k4]))
 refine Ev.neg k4 ?_
 rw [if_neg k4]
 by_cases k5 : kind = 5
 ·exact Ev.pos k5 (Ev.const (by rw [if_pos k5]))
 refine Ev.neg k5 ?_
 rw [if_neg k5]
 by_cases k6 : kind = 6
 ·refine Ev.pos k6 (Ev.pos (by omega) (Ev.const ?_))
  rw [if_pos k6, if_pos trivial]
 refine Ev.neg k6 ?_
 rw [if_neg k6]
 by_cases k7 : kind = 7
 ·exact Ev.pos k7 (Ev.const (by rw [if_pos k7]))
 exact Ev.neg k7 (Ev.const (by rw [if_neg k7]))
theorem spec_l21Word_eq (kind : Int) : spec_l21Word.f kind = some (if kind = 1 then kwNew else if kind = 3 then ⟨#[97, 115, 107]⟩ else if kind = 4 then ⟨#[115, 104, 111, 119]⟩ else if kind = 5 then ⟨#[114, 97, 116, 101]⟩ else if kind = 6 then ⟨#[108, 97, 98]⟩ else if kind = 7 then ⟨#[115, 97, 118, 101]⟩ else ⟨#[]⟩) := by
 unfold spec_l21Word.f
 by_cases k1 : kind = 1
 ·rw [if_pos k1, if_pos k1]; rfl
 rw [if_neg k1, if_neg k1]
 by_cases k3 : kind = 3
 ·rw [if_pos k3, if_pos k3]
 rw [if_neg k3, if_neg k3]
 by_cases k4 : kind = 4
 ·rw [if_pos k4, if_pos k4]
 rw [if_neg k4, if_neg k4]
 by_cases k5 : kind = 5
 ·rw [if_pos k5, if_pos k5]
 rw [if_neg k5, if_neg k5]
 by_cases k6 : kind = 6
 ·rw [if_pos k6, if_pos k6]
 rw [if_neg k6, if_neg k6]
 by_cases k7 : kind = 7
 ·rw [if_pos k7, if_pos k7]
 rw [if_neg k7, if_neg k7]
theorem spec_CmdText_ev (kind a b opk : Int) (key val : ByteArray) (asks : List ByteArray) (hk : key.size ≤ 140737488351232) (hv : val.size ≤ 140737488351232) (hl : asks.length ≤ 140737488351232) (ho : ∀ s ∈ asks, s.size ≤ 140737488351232) :
  Ev (fun k => spec_CmdText.f k kind a b opk key val asks) (cmdText kind a b opk key val asks) := by
 have NO : ∀ x : ByteArray, Ev (fun k => spec_CmdText.j0 k x true kind a b opk key val asks) ⟨#[]⟩ := by
  intro x
  refine Ev.step (fun _ => rfl) ?_
  simp only [spec_CmdText.j0]
  first | exact Ev.pos trivial (Ev.const rfl) | exact Ev.const rfl
 unfold spec_CmdText.f cmdText
 refine Ev.bind (spec_l21Zero_ev _ _ _ _ _ _ _) ?_
 cases c : cmdAlone kind a b opk key val asks
 ·exact Ev.neg (by simp) (Ev.const (by simp))
 refine Ev.pos rfl ?_
 rw [if_pos rfl]
 refine Ev.bind (Ev.const (spec_l21Word_eq kind)) ?_
 have na := numText_size a
 have nb := numText_size b
 by_cases k2 : kind = 2
 ·refine Ev.pos k2 ?_
  refine Ev.bind (spec_OpText_ev _ _ _ hk hv) ?_
  exact Ev.const (by simp [k2])
 refine Ev.neg k2 ?_
 by_cases k3 : kind = 3
 ·refine Ev.pos k3 ?_
  have hsz := asksText_size asks
  have k1 : ¬ kind = 1 := by omega
  rw [if_neg k1, if_neg k2, if_pos k3, if_pos k3, if_neg k1]
  have e3 : (⟨#[97, 115, 107]⟩ : ByteArray).size = 3 := rfl
  refine Ev.bind (spec_AsksOk_ev asks hl ho) ?_
  cases d : asksOk asks
  ·exact Ev.neg (by simp) (Ev.const (by simp))
  refine Ev.pos rfl ?_
  by_cases e : asks = []
  ·refine Ev.pos (by simp [e]) (Ev.const (by simp [e]))
  ·have hn : ¬ (asks.length : Int) = 0 := fun h => e (List.length_eq_zero_iff.1 (by omega))
   refine Ev.neg hn ?_
   refine Ev.pos (by omega) ?_
   refine Ev.bind (spec_AsksText_ev asks hl ho) ?_
   refine Ev.pos (by omega) (Ev.const ?_)
   rw [if_pos ⟨rfl, e⟩]
   rfl
 refine Ev.neg k3 ?_
 by_cases k1 : kind = 1
 ·refine Ev.pos k1 ?_
  rw [if_pos k1, if_pos k1]
  refine Ev.bind (Ev.const (spec_l01Num_eq a)) ?_
  cases ia : isNum a
  ·exact Ev.neg (by simp) (Ev.to (NO _) (by simp))
  refine Ev.pos rfl ?_
  refine Ev.bind (Ev.const (spec_l01Num_eq b)) ?_
  cases ib : isNum b
  ·exact Ev.to (NO _) (by simp)
  refine Ev.step (fun _ => rfl) ?_
  simp only [spec_CmdText.j0]
  have e3 := sz3
  refine Ev.neg (by simp) (Ev.pos (by omega) ?_)
  refine Ev.bind (spec_NumText_ev a) ?_
  refine Ev.pos (by omega) (Ev.pos (by omega) ?_)
  refine Ev.bind (spec_NumText_ev b) ?_
  exact Ev.pos (by omega) (Ev.const (by simp [sp]))
 refine Ev.neg k1 ?_
 rw [if_neg k1, if_neg k2, if_neg k3, if_neg k1, if_neg k3]
 by_cases k6 : kind = 6
 ·refine Ev.pos k6 ?_
  have k4 : ¬ kind = 4 := by omega
  have k5 : ¬ kind = 5 := by omega
  rw [if_neg k4, if_neg k5, if_pos k6, if_neg k4, if_neg k5, if_pos k6]
  refine Ev.bind (Ev.const (spec_l01Num_eq a)) ?_
  cases ia : isNum a
  ·exact Ev.neg (by simp) (Ev.const (by simp))
  refine Ev.pos rfl ?_
  have e3 : (⟨#[108, 97, 98]⟩ : ByteArray).size = 3 := rfl
  refine Ev.pos (by omega) ?_
  refine Ev.bind (spec_NumText_ev a) ?_
  exact Ev.pos (by omega) (Ev.const rfl)
 refine Ev.neg k6 (Ev.const ?_)
 by_cases k4 : kind = 4
 ·rw [if_pos k4, if_pos k4]
 rw [if_neg k4, if_neg k4]
 by_cases k5 : kind = 5
 ·rw [if_pos k5, if_pos k5]
 rw [if_neg k5, if_neg k5, if_neg k6, if_neg k6]
def mk (l : List UInt8) : ByteArray := ⟨l.toArray⟩
theorem bs_of_mk (l : List UInt8) : bs (mk l) = l := bs_mk l
theorem mk_size (l : List UInt8) : (mk l).size = l.length := by rw [← bs_length, bs_of_mk]
theorem extract_mk (s : ByteArray) (a b : Nat) : s.extract a b = mk (((bs s).drop a).take (b - a)) := Lib.extract_eq s a b
def prep (p : List UInt8) : List (List UInt8) → List (List UInt8)
 | [] => [p]
 | h :: t => (p ++ h) :: t
def splitB (c : UInt8) : List UInt8 → List (List UInt8)
 | [] => [[]]
 | b :: r => if b = c then [] :: splitB c r else prep [b] (splitB c r)
theorem splitB_ne (c : UInt8) : ∀ l, ∃ h t, splitB c l = h :: t
 | [] => ⟨[], [], rfl⟩
 | b :: r => by
  rw [splitB]
  by_cases e : b = c
  ·rw [if_pos e]; exact ⟨_, _, rfl⟩
  ·obtain ⟨h, t, q⟩ := splitB_ne c r
   rw [if_neg e, q]; exact ⟨_, _, rfl⟩
theorem prep_prep (p q : List UInt8) (l : List (List UInt8)) : prep p (prep q l) = prep (p ++ q) l := by
 cases l <;> simp [prep]
theorem prep_nil {c : UInt8} {l : List UInt8} : prep [] (splitB c l) = splitB c l := by
 obtain ⟨h, t, q⟩ := splitB_ne c l
 rw [q]; rfl
theorem take_snoc (l : List UInt8) (f i : Nat) (h : f ≤ i) (hi : i < l.length) : (l.drop f).take (i + 1 - f) = (l.drop f).take (i - f) ++ [l[i]] := by
 have e : i + 1 - f = (i - f) + 1 := by omega
 rw [e, List.take_add_one, List.getElem?_drop, show f + (i - f) = i by omega, List.getElem?_eq_getElem hi]
 rfl
theorem spec_l01Cut_l0 (s : ByteArray) (c : UInt8) (hs : s.size ≤ 1048576) : ∀ (d i f : Nat) (out : List ByteArray), i + d = s.size → f ≤ i → out.length ≤ i → Ev (fun k => spec_l01Cut.l0 k s (c.toNat : Int) out (f : Int) (i : Int)) (out ++ (prep (((bs s).drop f).take (i - f)) (splitB c ((bs s).drop i))).map mk) := by
 intro d
 induction d with
 | zero =>
  intro i f out hi hf ho
  refine Ev.step (fun _ => rfl) ?_
  simp only [spec_l01Cut.l0]
  refine Ev.neg (by omega) (Ev.pos (by omega) (Ev.pos (by omega) (Ev.pos (by omega) ?_)))
  rw [List.drop_of_length_le (i := i) (by rw [bs_length]; omega), splitB, prep, Int.toNat_natCast, extract_mk, show s.size = i by omega]
  exact Ev.const (by simp)
 | succ d ih =>
  intro i f out hi hf ho
  have hlt : i < s.size := by omega
  refine Ev.step (fun _ => rfl) ?_
  simp only [spec_l01Cut.l0]
  rw [bt_eq s i hlt, drop_bs s i hlt, wsucc (by omega), splitB]
  refine Ev.pos (by omega) (Ev.pos (by omega) ?_)
  have hsn := take_snoc (bs s) f i hf (by rw [bs_length]; omega)
  generalize (bs s)[i]'_ = b at hsn ⊢
  by_cases e : b = c
  ·refine Ev.pos (by rw [e]) (Ev.pos (by omega) (Ev.pos (by omega) (Ev.pos (by omega) (Ev.pos (by omega) ?_))))
   have h := ih (i + 1) (i + 1) (out ++ [s.extract f i]) (by omega) (by omega) (by rw [List.length_append, List.length_singleton]; omega)
   simp only [Int.toNat_natCast]
   refine Ev.to h ?_
   rw [if_pos e, Nat.sub_self, List.take_zero, prep_nil, extract_mk]
   simp [prep]
  ·refine Ev.neg (fun h => e (UInt8.toNat.inj (by omega))) ?_
   have h := ih (i + 1) f out (by omega) (by omega) (by omega)
   refine Ev.to h ?_
   rw [if_neg e, prep_prep, hsn]
theorem spec_l01Cut_ev (s : ByteArray) (c : UInt8) (hs : s.size ≤ 1048576) : Ev (fun k => spec_l01Cut.f k s (c.toNat : Int)) ((splitB c (bs s)).map mk) := by
 unfold spec_l01Cut.f
 refine Ev.to (spec_l01Cut_l0 s c hs s.size 0 0 [] (by omega) (by omega) (by simp)) ?_
 rw [Nat.sub_self, List.take_zero, List.drop_zero, prep_nil, List.nil_append]
theorem splitB_free {c : UInt8} : ∀ {l : List UInt8}, c ∉ l → splitB c l = [l]
 | [], _ => rfl
 | b :: r, h => by
  rw [splitB, if_neg (fun e => h (by rw [e]; exact List.mem_cons_self)), splitB_free (fun m => h (List.mem_cons_of_mem _ m))]
  rfl
theorem splitB_app (c : UInt8) : ∀ (a : List UInt8) (l : List UInt8), c ∉ a → splitB c (a ++ c :: l) = a :: splitB c l
 | [], l, _ => by rw [List.nil_append, splitB, if_pos rfl]
 | b :: r, l, h => by
  rw [List.cons_append, splitB, if_neg (fun e => h (by rw [e]; exact List.mem_cons_self)), splitB_app c r l (fun m => h (List.mem_cons_of_mem _ m))]
  rfl
theorem splitB_ne_nil (c : UInt8) (l : List UInt8) : splitB c l ≠ [] := by
 obtain ⟨h, t, q⟩ := splitB_ne c l
 rw [q]; simp
theorem split_mem_len (c : UInt8) : ∀ (l : List UInt8), ∀ w ∈ splitB c l, w.length ≤ l.length
 | [], w, hw => by
  rw [splitB, List.mem_singleton] at hw
  rw [hw]; simp
 | b :: r, w, hw => by
  rw [splitB] at hw
  by_cases e : b = c
  ·rw [if_pos e] at hw
   rcases List.mem_cons.1 hw with h | h
   ·rw [h]; simp
   ·have := split_mem_len c r w h
    rw [List.length_cons]; omega
  ·rw [if_neg e] at hw
   obtain ⟨h, t, q⟩ := splitB_ne c r
   have ih := split_mem_len c r
   rw [q] at hw ih
   rw [prep] at hw
   rcases List.mem_cons.1 hw with h' | h'
   ·have := ih h List.mem_cons_self
    rw [h']; simp; omega
   ·have := ih w (List.mem_cons_of_mem _ h')
    rw [List.length_cons]; omega
theorem split_len (c : UInt8) : ∀ (l : List UInt8), (splitB c l).length ≤ l.length + 1
 | [] => by simp [splitB]
 | b :: r => by
  have ih := split_len c r
  rw [splitB]
  by_cases e : b = c
  ·rw [if_pos e]; simp; omega
  ·obtain ⟨h, t, q⟩ := splitB_ne c r
   rw [if_neg e]
   rw [q] at ih ⊢
   simp [prep] at ih ⊢
   omega
theorem impl_split_l0 (s : ByteArray) (c : UInt8) (hs : s.size ≤ 1048576) : ∀ (d i f : Nat) (out : List ByteArray), i + d = s.size → f ≤ i → out.length ≤ i → Ev (fun k => impl_split.l0 k s (c.toNat : Int) out (f : Int) (i : Int)) (out ++ (prep (((bs s).drop f).take (i - f)) (splitB c ((bs s).drop i))).map mk) := by
 intro d
 induction d with
 | zero =>
  intro i f out hi hf ho
  refine Ev.step (fun _ => rfl) ?_
  simp only [impl_split.l0]
  refine Ev.neg (by omega) (Ev.pos (by omega) (Ev.pos (by omega) (Ev.pos (by omega) ?_)))
  rw [List.drop_of_length_le (i := i) (by rw [bs_length]; omega), splitB, prep, Int.toNat_natCast, extract_mk, show s.size = i by omega]
  exact Ev.const (by simp)
 | succ d ih =>
  intro i f out hi hf ho
  have hlt : i < s.size := by omega
  refine Ev.step (fun _ => rfl) ?_
  simp only [impl_split.l0]
  rw [bt_eq s i hlt, drop_bs s i hlt, wsucc (by omega), splitB]
  refine Ev.pos (by omega) (Ev.pos (by omega) ?_)
  have hsn := take_snoc (bs s) f i hf (by rw [bs_length]; omega)
  generalize (bs s)[i]'_ = b at hsn ⊢
  by_cases e : b = c
  ·refine Ev.pos (by rw [e]) (Ev.pos (by omega) (Ev.pos (by omega) (Ev.pos (by omega) (Ev.pos (by omega) ?_))))
   have h := ih (i + 1) (i + 1) (out ++ [s.extract f i]) (by omega) (by omega) (by rw [List.length_append, List.length_singleton]; omega)
   simp only [Int.toNat_natCast]
   refine Ev.to h ?_
   rw [if_pos e, Nat.sub_self, List.take_zero, prep_nil, extract_mk]
   simp [prep]
  ·refine Ev.neg (fun h => e (UInt8.toNat.inj (by omega))) ?_
   have h := ih (i + 1) f out (by omega) (by omega) (by omega)
   refine Ev.to h ?_
   rw [if_neg e, prep_prep, hsn]
theorem impl_split_ev (s : ByteArray) (c : UInt8) (hs : s.size ≤ 1048576) : Ev (fun k => impl_split.f k s (c.toNat : Int)) ((splitB c (bs s)).map mk) := by
 unfold impl_split.f
 refine Ev.to (impl_split_l0 s c hs s.size 0 0 [] (by omega) (by omega) (by simp)) ?_
 rw [Nat.sub_self, List.take_zero, List.drop_zero, prep_nil, List.nil_append]
def wordsB (s : List UInt8) : List (List UInt8) := splitB 32 s
theorem impl_Cut_ev (s : ByteArray) (hs : s.size ≤ 1048576) : Ev (fun k => impl_Cut.f k s) ((wordsB (bs s)).map mk) := by
 unfold impl_Cut.f
 exact Ev.bind (impl_split_ev s 32 hs) (Ev.const rfl)
theorem spec_Cut_ev (s : ByteArray) (hs : s.size ≤ 1048576) : Ev (fun k => spec_Cut.f k s) ((wordsB (bs s)).map mk) := by
 unfold spec_Cut.f
 exact Ev.bind (spec_l01Cut_ev s 32 hs) (Ev.const rfl)
/-- lines, as the reference cuts them -/
def linesB (s : List UInt8) : List (List UInt8) := if (splitB 10 s).getLast? = some [] then (splitB 10 s).dropLast else splitB 10 s
theorem rdmk {l : List (List UInt8)} {i : Nat} (h : i < l.length) : rdOf ByteArray.empty (l.map mk) (i : Int) = mk l[i] := by
 rw [rdOf, getD_at (by simpa using h)]; simp
theorem spec_Lines_ev (s : ByteArray) (hs : s.size ≤ 1048576) : Ev (fun k => spec_Lines.f k s) ((linesB (bs s)).map mk) := by
 unfold spec_Lines.f linesB
 refine Ev.bind (spec_l01Cut_ev s 10 hs) ?_
 have hl := split_len 10 (bs s)
 rw [bs_length] at hl
 have hn := splitB_ne_nil 10 (bs s)
 generalize splitB 10 (bs s) = L at *
 have h1 : 0 < L.length := List.length_pos_iff.2 hn
 have ew : wrap64 (((L.map mk).length : Int) - 1) = ((L.length - 1 : Nat) : Int) := by
  rw [List.length_map, w64 (by omega) (by omega)]; omega
 rw [ew, rdmk (show L.length - 1 < L.length by omega), Int.toNat_natCast]
 refine Ev.pos (by omega) (Ev.pos (by rw [List.length_map]; omega) ?_)
 have e : L.getLast? = some L[L.length - 1] := by rw [List.getLast?_eq_getElem?, List.getElem?_eq_getElem]
 rw [e]
 by_cases c : L[L.length - 1] = []
 ·rw [c, if_pos rfl]
  refine Ev.pos (by rw [bs_toList]; rfl) (Ev.pos (by rw [List.length_map]; omega) (Ev.const ?_))
  rw [List.dropLast_eq_take, List.map_take]
 ·rw [if_neg (fun h => c (Option.some.inj h))]
  refine Ev.neg (fun h => c ?_) (Ev.const rfl)
  rw [bs_toList, bs_of_mk] at h
  exact h
def numFrom : List UInt8 → Int → Option Int
 | [], n => some n
 | b :: r, n => if (b.toNat : Int) < 48 then none else if (b.toNat : Int) > 57 then none else numFrom r (wrap64 (wrap64 (10 * n) + (((b.toNat : Int) - 48) % 256)))
def numEnd (s : ByteArray) : Option Int → Int × Bool
 | some n => if numText n = s then (n, true) else (0, false)
 | none => (0, false)
def textNum (s : ByteArray) : Int × Bool := if 1 ≤ s.size ∧ s.size ≤ 10 then numEnd s (numFrom (bs s) 0) else (0, false)
theorem spec_TextNum_l0 (s : ByteArray) (hs : s.size ≤ 10) : ∀ (d i : Nat) (n : Int), i + d = s.size → Ev (fun k => spec_TextNum.l0 k s n i) (numEnd s (numFrom ((bs s).drop i) n)) := by
 intro d
 induction d with
 | zero =>
  intro i n hi
  refine Ev.step (fun _ => rfl) ?_
  simp only [spec_TextNum.l0]
  refine Ev.neg (by omega) ?_
  rw [List.drop_of_length_le (by rw [bs_length]; omega), numFrom, numEnd]
  refine Ev.bind (spec_NumText_ev n) ?_
  by_cases c : numText n = s
  ·exact Ev.pos (bytes_eq.2 c) (Ev.const (by rw [if_pos c]))
  ·exact Ev.neg (fun h => c (bytes_eq.1 h)) (Ev.const (by rw [if_neg c]))
 | succ d ih =>
  intro i n hi
  have hlt : i < s.size := by omega
  refine Ev.step (fun _ => rfl) ?_
  simp only [spec_TextNum.l0]
  rw [bt_eq s i hlt, drop_bs s i hlt, numFrom, wsucc (by omega)]
  refine Ev.pos (by omega) ?_
  refine Ev.pos (by omega) ?_
  generalize (bs s)[i]'_ = b
  by_cases c : (b.toNat : Int) < 48
  ·exact Ev.pos c (Ev.const (by rw [if_pos c]; rfl))
  refine Ev.neg c ?_
  rw [if_neg c]
  by_cases c2 : (b.toNat : Int) > 57
  ·exact Ev.pos c2 (Ev.const (by rw [if_pos c2]; rfl))
  refine Ev.neg c2 ?_
  rw [if_neg c2]
  first | exact ih (i + 1) _ (by omega) | (rw [Int.mul_comm 10 n]; exact ih (i + 1) _ (by omega))
theorem impl_TextNum_l0 (s : ByteArray) (hs : s.size ≤ 10) : ∀ (d i : Nat) (n : Int), i + d = s.size → Ev (fun k => impl_TextNum.l0 k s n i) (numEnd s (numFrom ((bs s).drop i) n)) := by
 intro d
 induction d with
 | zero =>
  intro i n hi
  refine Ev.step (fun _ => rfl) ?_
  simp only [impl_TextNum.l0]
  refine Ev.neg (by omega) ?_
  rw [List.drop_of_length_le (by rw [bs_length]; omega), numFrom, numEnd]
  refine Ev.bind (impl_NumText_ev n) ?_
  by_cases c : numText n = s
  ·exact Ev.pos (bytes_eq.2 c) (Ev.const (by rw [if_pos c]))
  ·exact Ev.neg (fun h => c (bytes_eq.1 h)) (Ev.const (by rw [if_neg c]))
 | succ d ih =>
  intro i n hi
  have hlt : i < s.size := by omega
  refine Ev.step (fun _ => rfl) ?_
  simp only [impl_TextNum.l0]
  rw [bt_eq s i hlt, drop_bs s i hlt, numFrom, wsucc (by omega)]
  refine Ev.pos (by omega) ?_
  refine Ev.pos (by omega) ?_
  generalize (bs s)[i]'_ = b
  by_cases c : (b.toNat : Int) < 48
  ·exact Ev.pos c (Ev.const (by rw [if_pos c]; rfl))
  refine Ev.neg c ?_
  rw [if_neg c]
  by_cases c2 : (b.toNat : Int) > 57
  ·exact Ev.pos c2 (Ev.const (by rw [if_pos c2]; rfl))
  refine Ev.neg c2 ?_
  rw [if_neg c2]
  first | exact ih (i + 1) _ (by omega) | (rw [Int.mul_comm 10 n]; exact ih (i + 1) _ (by omega))
theorem spec_TextNum_ev (s : ByteArray) : Ev (fun k => spec_TextNum.f k s) (textNum s) := by
 unfold spec_TextNum.f textNum
 by_cases a : 1 ≤ s.size
 rotate_left
 ·refine Ev.pos (by omega) (Ev.step (fun _ => rfl) ?_)
  simp only [spec_TextNum.j0]
  exact Ev.const (by rw [if_neg (by omega)])
 refine Ev.neg (by omega) (Ev.step (fun _ => rfl) ?_)
 simp only [spec_TextNum.j0]
 by_cases b : s.size ≤ 10
 ·refine Ev.neg (by simp; omega) ?_
  rw [if_pos ⟨a, b⟩]
  exact spec_TextNum_l0 s b s.size 0 0 (by omega)
 ·exact Ev.pos (by simp; omega) (Ev.const (by rw [if_neg (by omega)]))
theorem impl_TextNum_ev (s : ByteArray) : Ev (fun k => impl_TextNum.f k s) (textNum s) := by
 unfold impl_TextNum.f textNum
 refine Ev.bind (Ev.const (impl_within_eq _ _ _)) ?_
 by_cases a : 1 ≤ s.size ∧ s.size ≤ 10
 ·refine Ev.pos (by simp; omega) ?_
  rw [if_pos a]
  exact impl_TextNum_l0 s a.2 s.size 0 0 (by omega)
 ·exact Ev.neg (by simp; omega) (Ev.const (by rw [if_neg a]))
-- texts without some byte
theorem dg_bytes (n : Nat) (h : n < 10) : bs (dg n) = [UInt8.ofNat (48 + n)] := by
 unfold dg bs strOfNums
 simp only [List.map_cons, List.map_nil]
 rw [show (48 + (n : Int)).toNat = 48 + n by omega]
theorem dec_digits : ∀ (m n : Nat), n < 10 ^ (m + 1) → ∀ b ∈ bs (dec n), 48 ≤ b.toNat ∧ b.toNat ≤ 57
 | 0, n, h => by
  have h : n < 10 := by simpa using h
  rw [dec_small h, dg_bytes n h]
  intro b hb
  rw [List.mem_singleton.1 hb, UInt8.toNat_ofNat']
  omega
 | m + 1, n, h => by
  by_cases c : n < 10
  ·rw [dec_small c, dg_bytes n c]
   intro b hb
   rw [List.mem_singleton.1 hb, UInt8.toNat_ofNat']
   omega
  ·rw [dec_big c, bs_append, dg_bytes _ (Nat.mod_lt _ (by omega))]
   intro b hb
   rcases List.mem_append.1 hb with hb | hb
   ·exact dec_digits m (n / 10) (by rw [Nat.pow_succ] at h; omega) b hb
   ·rw [List.mem_singleton.1 hb, UInt8.toNat_ofNat']
    omega
theorem numText_digits (a : Int) : ∀ b ∈ bs (numText a), 48 ≤ b.toNat ∧ b.toNat ≤ 57 := by
 unfold numText
 by_cases c : isNum a = true
 ·rw [if_pos c]
  unfold isNum at c
  simp only [Bool.and_eq_true, decide_eq_true_eq] at c
  exact dec_digits 9 a.toNat (by omega)
 ·rw [if_neg c]
  intro b hb
  exact absurd hb (by simp [bs])
theorem numText_free (a : Int) {c : UInt8} (h : c.toNat < 48) : c ∉ bs (numText a) := fun m => by
 have := numText_digits a c m
 omega
abbrev kwGet : List UInt8 := [103, 101, 116]
abbrev kwPut : List UInt8 := [112, 117, 116]
abbrev kwDrop : List UInt8 := [100, 114, 111, 112]
abbrev nilB : ByteArray := ⟨#[]⟩
def wAt (W : List (List UInt8)) (i : Nat) : ByteArray := mk (W.getD i [])
theorem wAt_rd {W : List (List UInt8)} {i : Nat} (h : i < W.length) : rdOf ByteArray.empty (W.map mk) (i : Int) = wAt W i := by
 rw [rdmk h]
 unfold wAt
 rw [List.getD_eq_getElem?_getD, List.getElem?_eq_getElem h]; rfl
theorem wAt_rd2 {W : List (List UInt8)} {i : Nat} (h : i < W.length + 2) : rdOf ByteArray.empty (W.map mk ++ [nilB, nilB]) (i : Int) = wAt W i := by
 have hl : i < (W.map mk ++ [nilB, nilB]).length := by rw [List.length_append, List.length_map]; exact h
 rw [rdOf, getD_at hl]
 unfold wAt
 by_cases c : i < W.length
 ·rw [List.getElem_append_left (by rw [List.length_map]; exact c), List.getElem_map, List.getD_eq_getElem?_getD, List.getElem?_eq_getElem c]; rfl
 ·rw [List.getD_eq_getElem?_getD, List.getElem?_eq_none (by omega), List.getElem_append_right (by rw [List.length_map]; omega)]
  have : i - (W.map mk).length = 0 ∨ i - (W.map mk).length = 1 := by rw [List.length_map]; omega
  have e : ∀ j (hj : j < [nilB, nilB].length), [nilB, nilB][j] = mk [] := by
   intro j hj
   match j, hj with
   | 0, _ => rfl
   | 1, _ => rfl
  exact e _ _
theorem wAt_head (W : List (List UInt8)) : wAt W 0 = mk (W.headD []) := by
 cases W <;> rfl
theorem clean_free {s : ByteArray} (h : clean s = true) : (32 : UInt8) ∉ bs s := by
 unfold clean at h
 rw [List.all_eq_true] at h
 exact fun m => absurd (h _ m) (by decide)
theorem opOk_free {kind : Int} {key val : ByteArray} (h : opOk kind key val = true) : (32 : UInt8) ∉ bs key ∧ (32 : UInt8) ∉ bs val := by
 unfold opOk itemOk at h
 simp only [Bool.and_eq_true] at h
 exact ⟨clean_free h.1.2.1.1.1.1.2, clean_free h.1.2.1.1.2⟩
theorem words2 {a b : List UInt8} (ha : (32 : UInt8) ∉ a) (hb : (32 : UInt8) ∉ b) : wordsB (a ++ 32 :: b) = [a, b] := by
 unfold wordsB
 rw [splitB_app 32 a b ha, splitB_free hb]
theorem words3 {a b c : List UInt8} (ha : (32 : UInt8) ∉ a) (hb : (32 : UInt8) ∉ b) (hc : (32 : UInt8) ∉ c) : wordsB (a ++ 32 :: (b ++ 32 :: c)) = [a, b, c] := by
 unfold wordsB
 rw [splitB_app 32 a _ ha, splitB_app 32 b c hb, splitB_free hc]
theorem opText_words {kind : Int} {key val : ByteArray} (h : opOk kind key val = true) : wordsB (bs (opText kind key val)) = if kind = 1 then [kwGet, bs key] else if kind = 2 then [kwPut, bs key, bs val] else [kwDrop, bs key] := by
 have f := opOk_free h
 unfold opText
 rw [if_pos h]
 split
 ·rw [bs_append]
  exact words2 (a := kwGet) (by decide) f.1
 ·split
  ·rw [bs_append, bs_append, bs_append, show bs (⟨#[112, 117, 116, 32]⟩ : ByteArray) ++ bs key ++ bs (⟨#[32]⟩ : ByteArray) ++ bs val = kwPut ++ 32 :: (bs key ++ 32 :: bs val) from by simp [bs]]
   exact words3 (by decide) f.1 f.2
  ·rw [bs_append]
   exact words2 (a := kwDrop) (by decide) f.1
theorem opText_ok {kind : Int} {key val s : ByteArray} (h : opText kind key val = s) (hs : s ≠ nilB) : opOk kind key val = true := by
 cases c : opOk kind key val
 ·rw [(opText_nil kind key val).2 c] at h
  exact absurd h.symm hs
 ·rfl
abbrev O3 : Type := Int × ByteArray × ByteArray
def opCand (W : List (List UInt8)) : O3 :=
 if W.headD [] = kwGet ∧ W.length = 2 then (1, wAt W 1, nilB)
 else if W.headD [] = kwPut ∧ W.length = 3 then (2, wAt W 1, wAt W 2)
 else if W.headD [] = kwDrop ∧ W.length = 2 then (3, wAt W 1, nilB) else (0, nilB, nilB)
def opFin (s : ByteArray) (c : O3) : Int × ByteArray × ByteArray × Bool := if opOk c.1 c.2.1 c.2.2 = true ∧ opText c.1 c.2.1 c.2.2 = s then (c.1, c.2.1, c.2.2, true) else (0, nilB, nilB, false)
def textOp (s : ByteArray) : Int × ByteArray × ByteArray × Bool := opFin s (opCand (wordsB (bs s)))
theorem wAt_size {s : ByteArray} (hs : s.size ≤ 1048576) (i : Nat) : (wAt (wordsB (bs s)) i).size ≤ 1048576 := by
 unfold wAt
 rw [mk_size, List.getD_eq_getElem?_getD]
 by_cases c : i < (wordsB (bs s)).length
 ·rw [List.getElem?_eq_getElem c]
  have hm : (wordsB (bs s))[i] ∈ splitB 32 (bs s) := List.getElem_mem c
  have := split_mem_len 32 (bs s) _ hm
  rw [bs_length] at this
  show (wordsB (bs s))[i].length ≤ _
  omega
 ·rw [List.getElem?_eq_none (by omega)]; simp
theorem impl_op_j2 (s : ByteArray) (a : Int) (b c : ByteArray) (hb : b.size ≤ 1048576) (hc : c.size ≤ 1048576) : Ev (fun k => impl_TextOp.j2 k s a b c) (opFin s (a, b, c)) := by
 refine Ev.step (fun _ => rfl) ?_
 simp only [impl_TextOp.j2]
 unfold opFin
 refine Ev.bind (impl_OpOk_ev a b c (by omega) (by omega)) ?_
 cases q : opOk a b c
 ·exact Ev.neg (by simp) (Ev.const (by simp))
 ·refine Ev.pos rfl (Ev.bind (impl_OpText_ev a b c (by omega) (by omega)) ?_)
  by_cases d : opText a b c = s
  ·exact Ev.pos (bytes_eq.2 d) (Ev.const (by simp [d]))
  ·exact Ev.neg (fun h => d (bytes_eq.1 h)) (Ev.const (by simp [d]))
theorem headW {W : List (List UInt8)} {kw : List UInt8} : ((mk (W.headD [])).toList = kw) ↔ W.headD [] = kw := by
 rw [bs_toList, bs_of_mk]
theorem impl_TextOp_ev (s : ByteArray) (hs : s.size ≤ 1048576) : Ev (fun k => impl_TextOp.f k s) (textOp s) := by
 unfold impl_TextOp.f textOp
 refine Ev.bind (impl_Cut_ev s hs) ?_
 have h0 : wordsB (bs s) ≠ [] := splitB_ne_nil 32 (bs s)
 have hp := List.length_pos_iff.2 h0
 have z := fun i => wAt_size (s := s) hs i
 have zn : nilB.size ≤ 1048576 := by decide
 generalize wordsB (bs s) = W at *
 have e0 := wAt_rd (W := W) (i := 0) hp
 rw [show ((0 : Nat) : Int) = 0 from rfl, wAt_head] at e0
 rw [e0]
 refine Ev.pos (by rw [List.length_map]; omega) ?_
 have len : ∀ (n : Nat), (((W.map mk).length : Int) == (n : Int)) = decide (W.length = n) := by
  intro n; rw [Bool.eq_iff_iff, beq_iff_eq, decide_eq_true_eq, List.length_map]; omega
 have j1t : ∀ (h3 : W.length = 3), Ev (fun k => impl_TextOp.j1 k s (W.map mk) true 0 nilB nilB) (opFin s (2, wAt W 1, wAt W 2)) := by
  intro h3
  refine Ev.step (fun _ => rfl) ?_
  simp only [impl_TextOp.j1]
  have e1 := wAt_rd (W := W) (i := 1) (by omega)
  have e2 := wAt_rd (W := W) (i := 2) (by omega)
  rw [show ((1 : Nat) : Int) = 1 from rfl] at e1
  rw [show ((2 : Nat) : Int) = 2 from rfl] at e2
  rw [e1, e2]
  exact Ev.pos trivial (Ev.pos (by rw [List.length_map]; omega) (Ev.pos (by rw [List.length_map]; omega) (impl_op_j2 s _ _ _ (z 1) (z 2))))
 have j1f : Ev (fun k => impl_TextOp.j1 k s (W.map mk) false 0 nilB nilB) (opFin s (if W.headD [] = kwDrop ∧ W.length = 2 then (3, wAt W 1, nilB) else (0, nilB, nilB))) := by
  refine Ev.step (fun _ => rfl) ?_
  simp only [impl_TextOp.j1]
  rw [e0]
  refine Ev.neg (by simp) (Ev.pos (by rw [List.length_map]; omega) ?_)
  by_cases c : W.headD [] = kwDrop
  ·refine Ev.pos (headW.2 c) ?_
   by_cases d : W.length = 2
   ·have e1 := wAt_rd (W := W) (i := 1) (by omega)
    rw [show ((1 : Nat) : Int) = 1 from rfl] at e1
    rw [e1, if_pos ⟨c, d⟩]
    exact Ev.pos (by rw [List.length_map]; omega) (Ev.pos (by rw [List.length_map]; omega) (impl_op_j2 s _ _ _ (z 1) zn))
   ·rw [if_neg (fun h => d h.2)]
    exact Ev.neg (by rw [List.length_map]; omega) (impl_op_j2 s _ _ _ zn zn)
  ·rw [if_neg (fun h => c h.1)]
   exact Ev.neg (fun h => c (headW.1 h)) (impl_op_j2 s _ _ _ zn zn)
 have j0f : Ev (fun k => impl_TextOp.j0 k s (W.map mk) false 0 nilB nilB) (opFin s (if W.headD [] = kwPut ∧ W.length = 3 then (2, wAt W 1, wAt W 2) else if W.headD [] = kwDrop ∧ W.length = 2 then (3, wAt W 1, nilB) else (0, nilB, nilB))) := by
  refine Ev.step (fun _ => rfl) ?_
  simp only [impl_TextOp.j0]
  rw [e0]
  refine Ev.neg (by simp) (Ev.pos (by rw [List.length_map]; omega) ?_)
  by_cases c : W.headD [] = kwPut
  ·refine Ev.pos (headW.2 c) ?_
   have l3 := len 3
   rw [show ((3 : Nat) : Int) = 3 from rfl] at l3
   rw [l3]
   by_cases d : W.length = 3
   ·rw [decide_eq_true d, if_pos ⟨c, d⟩]; exact j1t d
   ·rw [decide_eq_false d, if_neg (fun h => d h.2)]; exact j1f
  ·rw [if_neg (fun h => c h.1)]
   exact Ev.neg (fun h => c (headW.1 h)) j1f
 unfold opCand
 by_cases c : W.headD [] = kwGet
 ·refine Ev.pos (headW.2 c) ?_
  have l2 := len 2
  rw [show ((2 : Nat) : Int) = 2 from rfl] at l2
  rw [l2]
  by_cases d : W.length = 2
  ·rw [decide_eq_true d, if_pos ⟨c, d⟩]
   refine Ev.step (fun _ => rfl) ?_
   simp only [impl_TextOp.j0]
   have e1 := wAt_rd (W := W) (i := 1) (by omega)
   rw [show ((1 : Nat) : Int) = 1 from rfl] at e1
   rw [e1]
   exact Ev.pos trivial (Ev.pos (by rw [List.length_map]; omega) (impl_op_j2 s _ _ _ (z 1) zn))
  ·rw [decide_eq_false d, if_neg (fun h => d h.2)]; exact j0f
 ·rw [if_neg (fun h => c h.1)]
  exact Ev.neg (fun h => c (headW.1 h)) j0f
/-- What the reference takes for the op. -/
def opCandS (W : List (List UInt8)) : O3 :=
 if W.headD [] = kwGet then (1, wAt W 1, nilB) else if W.headD [] = kwPut then (2, wAt W 1, wAt W 2) else if W.headD [] = kwDrop then (3, wAt W 1, nilB) else (0, wAt W 1, nilB)
theorem opFin_bad {s : ByteArray} {c : O3} (h : opText c.1 c.2.1 c.2.2 ≠ s) : opFin s c = (0, nilB, nilB, false) := by
 unfold opFin
 rw [if_neg (fun q => h q.2)]
theorem opFin_none (s : ByteArray) (key val : ByteArray) : opFin s (0, key, val) = (0, nilB, nilB, false) := by
 unfold opFin
 rw [if_neg]
 rintro ⟨h, _⟩
 unfold opOk at h
 simp at h
theorem opFin_same (s : ByteArray) (hne : s ≠ nilB) : opFin s (opCandS (wordsB (bs s))) = opFin s (opCand (wordsB (bs s))) := by
 have key : ∀ c : O3, opText c.1 c.2.1 c.2.2 = s → wordsB (bs s) = if c.1 = 1 then [kwGet, bs c.2.1] else if c.1 = 2 then [kwPut, bs c.2.1, bs c.2.2] else [kwDrop, bs c.2.1] := by
  intro c hc
  rw [← hc]
  exact opText_words (opText_ok hc hne)
 unfold opCandS opCand
 by_cases a : (wordsB (bs s)).headD [] = kwGet
 ·rw [if_pos a]
  by_cases d : (wordsB (bs s)).length = 2
  ·rw [if_pos ⟨a, d⟩]
  ·have hb : opText 1 (wAt (wordsB (bs s)) 1) nilB ≠ s := fun h => d (by rw [key (1, wAt (wordsB (bs s)) 1, nilB) h]; rfl)
   rw [opFin_bad (c := (1, wAt (wordsB (bs s)) 1, nilB)) hb, if_neg (show ¬ ((wordsB (bs s)).headD [] = kwGet ∧ (wordsB (bs s)).length = 2) from fun h => d h.2), if_neg (show ¬ ((wordsB (bs s)).headD [] = kwPut ∧ (wordsB (bs s)).length = 3) from fun h => absurd (a.symm.trans h.1) (by decide)), if_neg (show ¬ ((wordsB (bs s)).headD [] = kwDrop ∧ (wordsB (bs s)).length = 2) from fun h => absurd (a.symm.trans h.1) (by decide)), opFin_none]
 rw [if_neg a, if_neg (show ¬ ((wordsB (bs s)).headD [] = kwGet ∧ (wordsB (bs s)).length = 2) from fun h => a h.1)]
 by_cases b : (wordsB (bs s)).headD [] = kwPut
 ·rw [if_pos b]
  by_cases d : (wordsB (bs s)).length = 3
  ·rw [if_pos ⟨b, d⟩]
  ·have hb : opText 2 (wAt (wordsB (bs s)) 1) (wAt (wordsB (bs s)) 2) ≠ s := fun h => d (by rw [key (2, wAt (wordsB (bs s)) 1, wAt (wordsB (bs s)) 2) h]; rfl)
   rw [opFin_bad (c := (2, wAt (wordsB (bs s)) 1, wAt (wordsB (bs s)) 2)) hb, if_neg (show ¬ ((wordsB (bs s)).headD [] = kwPut ∧ (wordsB (bs s)).length = 3) from fun h => d h.2), if_neg (show ¬ ((wordsB (bs s)).headD [] = kwDrop ∧ (wordsB (bs s)).length = 2) from fun h => absurd (b.symm.trans h.1) (by decide)), opFin_none]
 rw [if_neg b, if_neg (show ¬ ((wordsB (bs s)).headD [] = kwPut ∧ (wordsB (bs s)).length = 3) from fun h => b h.1)]
 by_cases e : (wordsB (bs s)).headD [] = kwDrop
 ·rw [if_pos e]
  by_cases d : (wordsB (bs s)).length = 2
  ·rw [if_pos ⟨e, d⟩]
  ·have hb : opText 3 (wAt (wordsB (bs s)) 1) nilB ≠ s := fun h => d (by rw [key (3, wAt (wordsB (bs s)) 1, nilB) h]; rfl)
   rw [opFin_bad (c := (3, wAt (wordsB (bs s)) 1, nilB)) hb, if_neg (show ¬ ((wordsB (bs s)).headD [] = kwDrop ∧ (wordsB (bs s)).length = 2) from fun h => d h.2), opFin_none]
 rw [if_neg e, if_neg (show ¬ ((wordsB (bs s)).headD [] = kwDrop ∧ (wordsB (bs s)).length = 2) from fun h => e h.1), opFin_none, opFin_none]
theorem textOp_nil : textOp nilB = (0, nilB, nilB, false) := by
 unfold textOp
 rw [show opCand (wordsB (bs nilB)) = (0, nilB, nilB) from rfl, opFin_none]
theorem spec_TextOp_ev (s : ByteArray) (hs : s.size ≤ 1048576) : Ev (fun k => spec_TextOp.f k s) (textOp s) := by
 unfold spec_TextOp.f
 refine Ev.bind (spec_Cut_ev s hs) (Ev.bind (Ev.const rfl) ?_)
 have hl := split_len 32 (bs s)
 rw [bs_length] at hl
 have hlW : (wordsB (bs s)).length ≤ 1048577 := by unfold wordsB; omega
 refine Ev.pos (by rw [List.length_map]; show _ + 2 < _; omega) (Ev.bind (Ev.const rfl) ?_)
 have e0 := wAt_rd2 (W := wordsB (bs s)) (i := 0) (by omega)
 have e1 := wAt_rd2 (W := wordsB (bs s)) (i := 1) (by omega)
 rw [show ((0 : Nat) : Int) = 0 from rfl, wAt_head] at e0
 rw [show ((1 : Nat) : Int) = 1 from rfl] at e1
 have z := fun i => wAt_size (s := s) hs i
 have hlen : (1 : Int) < ((List.map mk (wordsB (bs s)) ++ [nilB, nilB]).length : Int) := by
  rw [List.length_append, List.length_map]
  show (1 : Int) < (((wordsB (bs s)).length + 2 : Nat) : Int)
  omega
 rw [e0, e1]
 have hlen0 : (0 : Int) < ((List.map mk (wordsB (bs s)) ++ [nilB, nilB]).length : Int) := Int.lt_trans (by decide) hlen
 refine Ev.pos hlen (Ev.pos hlen0 ?_)
 have fin : ∀ c : O3, c.2.1.size ≤ 1048576 → c.2.2.size ≤ 1048576 → c = opCandS (wordsB (bs s)) → Ev (fun k => if s.toList = ([] : List UInt8) then (some (0, nilB, nilB, false)) else ((spec_OpText.f k c.1 c.2.1 c.2.2).bind fun t => if t.toList = s.toList then (some (c.1, c.2.1, c.2.2, true)) else (some (0, nilB, nilB, false)))) (textOp s) := by
  intro c hb hc ec
  by_cases n : s = nilB
  ·rw [n]
   exact Ev.pos (toList_nil.2 rfl) (Ev.const (by rw [textOp_nil]))
  ·refine Ev.neg (fun h => n (toList_nil.1 h)) (Ev.bind (spec_OpText_ev _ _ _ (by omega) (by omega)) ?_)
   unfold textOp
   rw [← opFin_same s n, ← ec]
   by_cases d : opText c.1 c.2.1 c.2.2 = s
   ·refine Ev.pos (bytes_eq.2 d) (Ev.const ?_)
    unfold opFin
    rw [if_pos ⟨opText_ok d n, d⟩]
   ·exact Ev.neg (fun h => d (bytes_eq.1 h)) (Ev.const (by rw [opFin_bad d]))
 have zn : nilB.size ≤ 1048576 := by decide
 by_cases a : (wordsB (bs s)).headD [] = kwGet
 ·exact Ev.pos (headW.2 a) (fin (1, wAt (wordsB (bs s)) 1, nilB) (z 1) zn (by unfold opCandS; rw [if_pos a]))
 refine Ev.neg (fun h => a (headW.1 h)) ?_
 by_cases b : (wordsB (bs s)).headD [] = kwPut
 ·have e2 := wAt_rd2 (W := wordsB (bs s)) (i := 2) (by have := List.length_pos_iff.2 (splitB_ne_nil 32 (bs s)); show 2 < (splitB 32 (bs s)).length + 2; omega)
  rw [show ((2 : Nat) : Int) = 2 from rfl] at e2
  rw [e2]
  refine Ev.pos (headW.2 b) (Ev.pos ?_ (fin (2, wAt (wordsB (bs s)) 1, wAt (wordsB (bs s)) 2) (z 1) (z 2) (by unfold opCandS; rw [if_neg a, if_pos b])))
  rw [List.length_append, List.length_map]
  have := List.length_pos_iff.2 (splitB_ne_nil 32 (bs s))
  show (2 : Int) < (((splitB 32 (bs s)).length + 2 : Nat) : Int)
  omega
 refine Ev.neg (fun h => b (headW.1 h)) ?_
 by_cases e : (wordsB (bs s)).headD [] = kwDrop
 ·exact Ev.pos (headW.2 e) (fin (3, wAt (wordsB (bs s)) 1, nilB) (z 1) zn (by unfold opCandS; rw [if_neg a, if_neg b, if_pos e]))
 ·exact Ev.neg (fun h => e (headW.1 h)) (fin (0, wAt (wordsB (bs s)) 1, nilB) (z 1) zn (by unfold opCandS; rw [if_neg a, if_neg b, if_neg e]))
-- commands
abbrev kNew : List UInt8 := [110, 101, 119]
abbrev kAsk : List UInt8 := [97, 115, 107]
abbrev kShow : List UInt8 := [115, 104, 111, 119]
abbrev kRate : List UInt8 := [114, 97, 116, 101]
abbrev kLab : List UInt8 := [108, 97, 98]
abbrev kSave : List UInt8 := [115, 97, 118, 101]
abbrev C7 : Type := Int × Int × Int × Int × ByteArray × ByteArray × List ByteArray
abbrev C8 : Type := Int × Int × Int × Int × ByteArray × ByteArray × List ByteArray × Bool
def cmdOf (c : C7) : ByteArray := cmdText c.1 c.2.1 c.2.2.1 c.2.2.2.1 c.2.2.2.2.1 c.2.2.2.2.2.1 c.2.2.2.2.2.2
def cmdBad : C8 := (0, 0, 0, 0, nilB, nilB, [], false)
def cmdFin (s : ByteArray) (c : C7) : C8 := if s ≠ nilB ∧ cmdOf c = s then (c.1, c.2.1, c.2.2.1, c.2.2.2.1, c.2.2.2.2.1, c.2.2.2.2.2.1, c.2.2.2.2.2.2, true) else cmdBad
def nAt (W : List (List UInt8)) (i : Nat) : Int := if i < W.length then (textNum (wAt W i)).1 else 0
def cmdCand (s : ByteArray) (W : List (List UInt8)) : C7 :=
 if W.headD [] = kNew then (1, nAt W 1, nAt W 2, 0, nilB, nilB, [])
 else if W.headD [] = kAsk then (3, 0, 0, 0, nilB, nilB, W.tail.map mk)
 else if W.headD [] = kShow then (4, 0, 0, 0, nilB, nilB, [])
 else if W.headD [] = kRate then (5, 0, 0, 0, nilB, nilB, [])
 else if W.headD [] = kLab then (6, nAt W 1, 0, 0, nilB, nilB, [])
 else if W.headD [] = kSave then (7, 0, 0, 0, nilB, nilB, [])
 else (2, 0, 0, (textOp s).1, (textOp s).2.1, (textOp s).2.2.1, [])
def textCmd (s : ByteArray) : C8 := cmdFin s (cmdCand s (wordsB (bs s)))
theorem cmdFin_bad {s : ByteArray} {c : C7} (h : s ≠ nilB → cmdOf c ≠ s) : cmdFin s c = cmdBad := by
 unfold cmdFin
 rw [if_neg (fun q => h q.1 q.2)]
theorem new_words {s : ByteArray} {a b : Int} (hne : s ≠ nilB) (h : cmdOf (1, a, b, 0, nilB, nilB, []) = s) : (wordsB (bs s)).length = 3 := by
 have e : cmdOf (1, a, b, 0, nilB, nilB, []) = if isNum a = true ∧ isNum b = true then (((kwNew ++ sp) ++ numText a) ++ sp) ++ numText b else ⟨#[]⟩ := by
  unfold cmdOf cmdText
  rw [if_pos (by simp [cmdAlone]), if_pos rfl]
 rw [e] at h
 split at h
 ·rw [← h, bs_append, bs_append, bs_append, bs_append, show bs kwNew ++ bs sp ++ bs (numText a) ++ bs sp ++ bs (numText b) = kNew ++ 32 :: (bs (numText a) ++ 32 :: bs (numText b)) from by simp [bs, kwNew, sp]]
  rw [words3 (by decide) (numText_free a (by decide)) (numText_free b (by decide))]
  rfl
 ·exact absurd h.symm hne
theorem lab_words {s : ByteArray} {a : Int} (hne : s ≠ nilB) (h : cmdOf (6, a, 0, 0, nilB, nilB, []) = s) : (wordsB (bs s)).length = 2 := by
 have e : cmdOf (6, a, 0, 0, nilB, nilB, []) = if isNum a = true then (⟨#[108, 97, 98, 32]⟩ : ByteArray) ++ numText a else ⟨#[]⟩ := by
  unfold cmdOf cmdText
  rw [if_pos (by simp [cmdAlone]), if_neg (show ¬ (6 : Int) = 1 by decide), if_neg (show ¬ (6 : Int) = 2 by decide), if_neg (show ¬ (6 : Int) = 3 by decide), if_neg (show ¬ (6 : Int) = 4 by decide), if_neg (show ¬ (6 : Int) = 5 by decide), if_pos rfl]
 rw [e] at h
 split at h
 ·rw [← h, bs_append]
  have := words2 (a := kLab) (b := bs (numText a)) (by decide) (numText_free a (by decide))
  rw [show bs (⟨#[108, 97, 98, 32]⟩ : ByteArray) ++ bs (numText a) = kLab ++ 32 :: bs (numText a) from rfl, this]
  rfl
 ·exact absurd h.symm hne
theorem textOp_sizes {s : ByteArray} (hs : s.size ≤ 1048576) : (textOp s).2.1.size ≤ 1048576 ∧ (textOp s).2.2.1.size ≤ 1048576 := by
 have z := fun i => wAt_size (s := s) hs i
 have zn : nilB.size ≤ 1048576 := by decide
 unfold textOp opFin
 split
 ·unfold opCand
  split
  ·exact ⟨z 1, zn⟩
  ·split
   ·exact ⟨z 1, z 2⟩
   ·split
    ·exact ⟨z 1, zn⟩
    ·exact ⟨zn, zn⟩
 ·exact ⟨zn, zn⟩
def C7ok (c : C7) : Prop := c.2.2.2.2.1.size ≤ 1048576 ∧ c.2.2.2.2.2.1.size ≤ 1048576 ∧ c.2.2.2.2.2.2.length ≤ 1048577 ∧ ∀ x ∈ c.2.2.2.2.2.2, x.size ≤ 1048576
theorem nilB_size : nilB.size ≤ 1048576 := by decide
theorem c7ok_plain (a b c d : Int) : C7ok (a, b, c, d, nilB, nilB, []) := ⟨nilB_size, nilB_size, by simp, fun x hx => absurd hx (by simp)⟩
theorem c7ok_ask {s : ByteArray} (hs : s.size ≤ 1048576) : C7ok (3, 0, 0, 0, nilB, nilB, (wordsB (bs s)).tail.map mk) := by
 have hl := split_len 32 (bs s)
 rw [bs_length] at hl
 refine ⟨nilB_size, nilB_size, ?_, fun x hx => ?_⟩
 ·show ((splitB 32 (bs s)).tail.map mk).length ≤ _
  rw [List.length_map, List.length_tail]; omega
 ·obtain ⟨w, hw, rfl⟩ := List.mem_map.1 hx
  have := split_mem_len 32 (bs s) w (List.mem_of_mem_tail hw)
  rw [bs_length] at this
  rw [mk_size]; omega
theorem c7ok_op {s : ByteArray} (hs : s.size ≤ 1048576) : C7ok (2, 0, 0, (textOp s).1, (textOp s).2.1, (textOp s).2.2.1, []) := ⟨(textOp_sizes hs).1, (textOp_sizes hs).2, by simp, fun x hx => absurd hx (by simp)⟩
theorem impl_cmd_j0 (s : ByteArray) (c : C7) (h : C7ok c) : Ev (fun k => impl_TextCmd.j0 k s c.1 c.2.1 c.2.2.1 c.2.2.2.1 c.2.2.2.2.1 c.2.2.2.2.2.1 c.2.2.2.2.2.2) (cmdFin s c) := by
 obtain ⟨h1, h2, h3, h4⟩ := h
 refine Ev.step (fun _ => rfl) ?_
 simp only [impl_TextCmd.j0]
 unfold cmdFin
 by_cases n : s = nilB
 ·exact Ev.pos (toList_nil.2 n) (Ev.const (by rw [if_neg (fun q => q.1 n)]; rfl))
 refine Ev.neg (fun q => n (toList_nil.1 q)) (Ev.bind (impl_CmdText_ev _ _ _ _ _ _ _ (by omega) (by omega) (by omega) (fun x hx => by have := h4 x hx; omega)) ?_)
 by_cases d : cmdOf c = s
 ·exact Ev.pos (bytes_eq.2 d) (Ev.const (by rw [if_pos ⟨n, d⟩]))
 ·exact Ev.neg (fun q => d (bytes_eq.1 q)) (Ev.const (by rw [if_neg (fun q => d q.2)]; rfl))
theorem spec_cmd_j1 (s : ByteArray) (c : C7) (h : C7ok c) : Ev (fun k => spec_TextCmd.j1 k s c.1 c.2.1 c.2.2.1 c.2.2.2.1 c.2.2.2.2.1 c.2.2.2.2.2.1 c.2.2.2.2.2.2) (cmdFin s c) := by
 obtain ⟨h1, h2, h3, h4⟩ := h
 refine Ev.step (fun _ => rfl) ?_
 simp only [spec_TextCmd.j1]
 unfold cmdFin
 by_cases n : s = nilB
 ·exact Ev.pos (toList_nil.2 n) (Ev.const (by rw [if_neg (fun q => q.1 n)]; rfl))
 refine Ev.neg (fun q => n (toList_nil.1 q)) (Ev.bind (spec_CmdText_ev _ _ _ _ _ _ _ (by omega) (by omega) (by omega) (fun x hx => by have := h4 x hx; omega)) ?_)
 by_cases d : cmdOf c = s
 ·exact Ev.pos (bytes_eq.2 d) (Ev.const (by rw [if_pos ⟨n, d⟩]))
 ·exact Ev.neg (fun q => d (bytes_eq.1 q)) (Ev.const (by rw [if_neg (fun q => d q.2)]; rfl))
theorem impl_TextCmd_ev (s : ByteArray) (hs : s.size ≤ 1048576) : Ev (fun k => impl_TextCmd.f k s) (textCmd s) := by
 unfold impl_TextCmd.f textCmd
 refine Ev.bind (impl_Cut_ev s hs) ?_
 have hp := List.length_pos_iff.2 (splitB_ne_nil 32 (bs s))
 have hp : 0 < (wordsB (bs s)).length := hp
 have e0 := wAt_rd (W := wordsB (bs s)) (i := 0) hp
 rw [show ((0 : Nat) : Int) = 0 from rfl, wAt_head] at e0
 rw [e0]
 refine Ev.pos (by rw [List.length_map]; omega) ?_
 unfold cmdCand
 by_cases a : (wordsB (bs s)).headD [] = kNew
 ·refine Ev.pos (headW.2 a) ?_
  rw [if_pos a]
  by_cases d : (wordsB (bs s)).length = 3
  ·have e1 := wAt_rd (W := wordsB (bs s)) (i := 1) (by omega)
   have e2 := wAt_rd (W := wordsB (bs s)) (i := 2) (by omega)
   rw [show ((1 : Nat) : Int) = 1 from rfl] at e1
   rw [show ((2 : Nat) : Int) = 2 from rfl] at e2
   rw [e1, e2]
   have n1 : nAt (wordsB (bs s)) 1 = (textNum (wAt (wordsB (bs s)) 1)).1 := if_pos (by omega)
   have n2 : nAt (wordsB (bs s)) 2 = (textNum (wAt (wordsB (bs s)) 2)).1 := if_pos (by omega)
   rw [n1, n2]
   refine Ev.pos (by rw [List.length_map]; omega) (Ev.pos (by rw [List.length_map]; omega) ?_)
   refine Ev.bind (impl_TextNum_ev _) (Ev.pos (by rw [List.length_map]; omega) (Ev.bind (impl_TextNum_ev _) ?_))
   exact impl_cmd_j0 s (1, _, _, 0, nilB, nilB, []) (c7ok_plain _ _ _ _)
  ·refine Ev.neg (by rw [List.length_map]; omega) ?_
   refine Ev.to (impl_cmd_j0 s (1, 0, 0, 0, nilB, nilB, []) (c7ok_plain _ _ _ _)) ?_
   rw [cmdFin_bad (fun n h => d (new_words n h)), cmdFin_bad (fun n h => d (new_words n h))]
 refine Ev.neg (fun q => a (headW.1 q)) ?_
 rw [if_neg a]
 by_cases b : (wordsB (bs s)).headD [] = kAsk
 ·refine Ev.pos (headW.2 b) (Ev.pos (by rw [List.length_map]; omega) ?_)
  rw [if_pos b]
  have e : (List.map mk (wordsB (bs s))).drop (1 : Int).toNat = (wordsB (bs s)).tail.map mk := by
   rw [show (1 : Int).toNat = 1 from rfl, List.drop_one, List.map_tail]
  rw [e]
  exact impl_cmd_j0 s (3, 0, 0, 0, nilB, nilB, (wordsB (bs s)).tail.map mk) (c7ok_ask hs)
 refine Ev.neg (fun q => b (headW.1 q)) ?_
 rw [if_neg b]
 by_cases c : (wordsB (bs s)).headD [] = kShow
 ·rw [if_pos c]
  exact Ev.pos (headW.2 c) (impl_cmd_j0 s (4, 0, 0, 0, nilB, nilB, []) (c7ok_plain _ _ _ _))
 refine Ev.neg (fun q => c (headW.1 q)) ?_
 rw [if_neg c]
 by_cases d : (wordsB (bs s)).headD [] = kRate
 ·rw [if_pos d]
  exact Ev.pos (headW.2 d) (impl_cmd_j0 s (5, 0, 0, 0, nilB, nilB, []) (c7ok_plain _ _ _ _))
 refine Ev.neg (fun q => d (headW.1 q)) ?_
 rw [if_neg d]
 by_cases e : (wordsB (bs s)).headD [] = kLab
 ·refine Ev.pos (headW.2 e) ?_
  rw [if_pos e]
  by_cases g : (wordsB (bs s)).length = 2
  ·have e1 := wAt_rd (W := wordsB (bs s)) (i := 1) (by omega)
   rw [show ((1 : Nat) : Int) = 1 from rfl] at e1
   rw [e1]
   have n1 : nAt (wordsB (bs s)) 1 = (textNum (wAt (wordsB (bs s)) 1)).1 := if_pos (by omega)
   rw [n1]
   refine Ev.pos (by rw [List.length_map]; omega) (Ev.pos (by rw [List.length_map]; omega) ?_)
   refine Ev.bind (impl_TextNum_ev _) ?_
   exact impl_cmd_j0 s (6, _, 0, 0, nilB, nilB, []) (c7ok_plain _ _ _ _)
  ·refine Ev.neg (by rw [List.length_map]; omega) ?_
   refine Ev.to (impl_cmd_j0 s (6, 0, 0, 0, nilB, nilB, []) (c7ok_plain _ _ _ _)) ?_
   rw [cmdFin_bad (fun n h => g (lab_words n h)), cmdFin_bad (fun n h => g (lab_words n h))]
 refine Ev.neg (fun q => e (headW.1 q)) ?_
 rw [if_neg e]
 by_cases f : (wordsB (bs s)).headD [] = kSave
 ·rw [if_pos f]
  exact Ev.pos (headW.2 f) (impl_cmd_j0 s (7, 0, 0, 0, nilB, nilB, []) (c7ok_plain _ _ _ _))
 refine Ev.neg (fun q => f (headW.1 q)) ?_
 rw [if_neg f]
 refine Ev.bind (impl_TextOp_ev s hs) ?_
 exact impl_cmd_j0 s (2, 0, 0, (textOp s).1, (textOp s).2.1, (textOp s).2.2.1, []) (c7ok_op hs)
theorem spec_l21Num_ev (W : List (List UInt8)) (i : Nat) : Ev (fun k => spec_l21Num.f k (W.map mk) (i : Int)) (nAt W i) := by
 unfold spec_l21Num.f nAt
 by_cases c : i < W.length
 ·rw [if_pos c, wAt_rd c]
  refine Ev.neg (by rw [List.length_map]; omega) (Ev.pos (by omega) (Ev.pos (by rw [List.length_map]; omega) ?_))
  exact Ev.bind (spec_TextNum_ev _) (Ev.const rfl)
 ·rw [if_neg c]
  exact Ev.pos (by rw [List.length_map]; omega) (Ev.const rfl)
def wordOf (i : Int) : ByteArray := if i = 1 then kwNew else if i = 3 then ⟨#[97, 115, 107]⟩ else if i = 4 then ⟨#[115, 104, 111, 119]⟩ else if i = 5 then ⟨#[114, 97, 116, 101]⟩ else if i = 6 then ⟨#[108, 97, 98]⟩ else if i = 7 then ⟨#[115, 97, 118, 101]⟩ else ⟨#[]⟩
/-- The kind, behind number i. -/
def kindAt (w : List UInt8) (i c : Int) : Int := if bs (wordOf i) = w ∧ w ≠ [] then i else c
theorem spec_cmd_l0 {s : ByteArray} {W : List (List UInt8)} {r : C8} (hp : 0 < W.length) (i c : Int) (hi : i ≤ 7) (h0 : 0 ≤ i) (h : Ev (fun k => spec_TextCmd.l0 k s (W.map mk) (i + 1) (kindAt (W.headD []) i c) 0 0 0 nilB nilB) r) : Ev (fun k => spec_TextCmd.l0 k s (W.map mk) i c 0 0 0 nilB nilB) r := by
 refine Ev.step (fun _ => rfl) ?_
 simp only [spec_TextCmd.l0]
 have e0 := wAt_rd (W := W) (i := 0) hp
 rw [show ((0 : Nat) : Int) = 0 from rfl, wAt_head] at e0
 rw [e0, w64 (x := i + 1) (by omega) (by omega)]
 refine Ev.pos hi (Ev.bind (Ev.const (spec_l21Word_eq i)) (Ev.pos (by rw [List.length_map]; omega) ?_))
 unfold kindAt at h
 by_cases a : bs (wordOf i) = W.headD []
 ·refine Ev.pos (by rw [bs_toList, bs_toList, bs_of_mk]; exact a) ?_
  by_cases b : W.headD [] = []
  ·rw [if_neg (fun q => q.2 b)] at h
   exact Ev.pos (headW.2 b) h
  ·rw [if_pos ⟨a, b⟩] at h
   exact Ev.neg (fun q => b (headW.1 q)) h
 ·rw [if_neg (fun q => a q.1)] at h
  exact Ev.neg (fun q => a (by rw [bs_toList, bs_toList, bs_of_mk] at q; exact q)) h
def kindW (w : List UInt8) : Int := kindAt w 7 (kindAt w 6 (kindAt w 5 (kindAt w 4 (kindAt w 3 (kindAt w 2 (kindAt w 1 0))))))
theorem kindW_eq (w : List UInt8) : kindW w = if w = kNew then 1 else if w = kAsk then 3 else if w = kShow then 4 else if w = kRate then 5 else if w = kLab then 6 else if w = kSave then 7 else 0 := by
 have w1 : bs (wordOf 1) = kNew := rfl
 have w2 : bs (wordOf 2) = [] := rfl
 have w3 : bs (wordOf 3) = kAsk := rfl
 have w4 : bs (wordOf 4) = kShow := rfl
 have w5 : bs (wordOf 5) = kRate := rfl
 have w6 : bs (wordOf 6) = kLab := rfl
 have w7 : bs (wordOf 7) = kSave := rfl
 unfold kindW kindAt
 rw [w1, w2, w3, w4, w5, w6, w7]
 by_cases a : w = kNew
 ·rw [a]; decide
 by_cases b : w = kAsk
 ·rw [b]; decide
 by_cases c : w = kShow
 ·rw [c]; decide
 by_cases d : w = kRate
 ·rw [d]; decide
 by_cases e : w = kLab
 ·rw [e]; decide
 by_cases f : w = kSave
 ·rw [f]; decide
 rw [if_neg a, if_neg b, if_neg c, if_neg d, if_neg e, if_neg f, if_neg (fun q => f q.1.symm), if_neg (fun q => e q.1.symm), if_neg (fun q => d q.1.symm), if_neg (fun q => c q.1.symm), if_neg (fun q => b q.1.symm), if_neg (fun q => q.2 q.1.symm), if_neg (fun q => a q.1.symm)]
theorem spec_TextCmd_ev (s : ByteArray) (hs : s.size ≤ 1048576) : Ev (fun k => spec_TextCmd.f k s) (textCmd s) := by
 unfold spec_TextCmd.f textCmd
 refine Ev.bind (spec_Cut_ev s hs) ?_
 have hl := split_len 32 (bs s)
 rw [bs_length] at hl
 have hlW : (wordsB (bs s)).length ≤ 1048577 := by unfold wordsB; omega
 have hp := List.length_pos_iff.2 (splitB_ne_nil 32 (bs s))
 have hp : 0 < (wordsB (bs s)).length := hp
 refine spec_cmd_l0 hp 1 0 (by omega) (by omega) (spec_cmd_l0 hp 2 _ (by omega) (by omega) (spec_cmd_l0 hp 3 _ (by omega) (by omega) (spec_cmd_l0 hp 4 _ (by omega) (by omega) (spec_cmd_l0 hp 5 _ (by omega) (by omega) (spec_cmd_l0 hp 6 _ (by omega) (by omega) (spec_cmd_l0 hp 7 _ (by omega) (by omega) ?_))))))
 show Ev (fun k => spec_TextCmd.l0 k s ((wordsB (bs s)).map mk) 8 (kindW ((wordsB (bs s)).headD [])) 0 0 0 nilB nilB) _
 have n1 := spec_l21Num_ev (wordsB (bs s)) 1
 have n2 := spec_l21Num_ev (wordsB (bs s)) 2
 rw [show ((1 : Nat) : Int) = 1 from rfl] at n1
 rw [show ((2 : Nat) : Int) = 2 from rfl] at n2
 refine Ev.step (fun _ => rfl) ?_
 simp only [spec_TextCmd.l0]
 refine Ev.neg (by omega) ?_
 rw [kindW_eq]
 unfold cmdCand
 by_cases a : (wordsB (bs s)).headD [] = kNew
 ·rw [if_pos a, if_pos a]
  refine Ev.pos rfl (Ev.bind n1 (Ev.bind n2 ?_))
  exact spec_cmd_j1 s (1, _, _, 0, nilB, nilB, []) (c7ok_plain _ _ _ _)
 rw [if_neg a, if_neg a]
 by_cases b : (wordsB (bs s)).headD [] = kAsk
 ·rw [if_pos b, if_pos b]
  refine Ev.neg (by decide) (Ev.neg (by decide) (Ev.pos rfl (Ev.bind (Ev.const rfl) (Ev.pos (by rw [List.length_map]; omega) (Ev.bind (Ev.const rfl) ?_)))))
  refine Ev.pos (by simp; omega) ?_
  have e : ([] : List ByteArray) ++ (List.map mk (wordsB (bs s))).drop 1 = (wordsB (bs s)).tail.map mk := by
   rw [List.nil_append, List.drop_one, List.map_tail]
  rw [e]
  exact spec_cmd_j1 s (3, 0, 0, 0, nilB, nilB, (wordsB (bs s)).tail.map mk) (c7ok_ask hs)
 rw [if_neg b, if_neg b]
 by_cases c : (wordsB (bs s)).headD [] = kShow
 ·rw [if_pos c, if_pos c]
  exact Ev.neg (by decide) (Ev.neg (by decide) (Ev.neg (by decide) (Ev.neg (by decide) (spec_cmd_j1 s (4, 0, 0, 0, nilB, nilB, []) (c7ok_plain _ _ _ _)))))
 rw [if_neg c, if_neg c]
 by_cases d : (wordsB (bs s)).headD [] = kRate
 ·rw [if_pos d, if_pos d]
  exact Ev.neg (by decide) (Ev.neg (by decide) (Ev.neg (by decide) (Ev.neg (by decide) (spec_cmd_j1 s (5, 0, 0, 0, nilB, nilB, []) (c7ok_plain _ _ _ _)))))
 rw [if_neg d, if_neg d]
 by_cases e : (wordsB (bs s)).headD [] = kLab
 ·rw [if_pos e, if_pos e]
  exact Ev.neg (by decide) (Ev.pos rfl (Ev.bind n1 (spec_cmd_j1 s (6, _, 0, 0, nilB, nilB, []) (c7ok_plain _ _ _ _))))
 rw [if_neg e, if_neg e]
 by_cases f : (wordsB (bs s)).headD [] = kSave
 ·rw [if_pos f, if_pos f]
  exact Ev.neg (by decide) (Ev.neg (by decide) (Ev.neg (by decide) (Ev.neg (by decide) (spec_cmd_j1 s (7, 0, 0, 0, nilB, nilB, []) (c7ok_plain _ _ _ _)))))
 rw [if_neg f, if_neg f]
 refine Ev.neg (by decide) (Ev.neg (by decide) (Ev.neg (by decide) (Ev.pos rfl (Ev.bind (spec_TextOp_ev s hs) ?_))))
 exact spec_cmd_j1 s (2, 0, 0, (textOp s).1, (textOp s).2.1, (textOp s).2.2.1, []) (c7ok_op hs)
theorem textCmd_len (s : ByteArray) (hs : s.size ≤ 1048576) : (textCmd s).2.2.2.2.2.2.1.length ≤ 1048577 := by
 unfold textCmd cmdFin
 split
 ·unfold cmdCand
  split
  ·simp
  ·split
   ·exact (c7ok_ask hs).2.2.1
   ·split
    ·simp
    ·split
     ·simp
     ·split
      ·simp
      ·split
       ·simp
       ·simp
 ·simp [cmdBad]
theorem impl_Lines_ev (s : ByteArray) (hs : s.size ≤ 1048576) : Ev (fun k => impl_Lines.f k s) ((linesB (bs s)).map mk) := by
 unfold impl_Lines.f linesB
 refine Ev.bind (impl_split_ev s 10 hs) ?_
 have hl := split_len 10 (bs s)
 rw [bs_length] at hl
 have hn := splitB_ne_nil 10 (bs s)
 generalize splitB 10 (bs s) = L at *
 have h1 : 0 < L.length := List.length_pos_iff.2 hn
 have ew : wrap64 (((L.map mk).length : Int) - 1) = ((L.length - 1 : Nat) : Int) := by
  rw [List.length_map, w64 (by omega) (by omega)]; omega
 rw [ew, rdmk (show L.length - 1 < L.length by omega), Int.toNat_natCast]
 refine Ev.pos (by omega) (Ev.pos (by rw [List.length_map]; omega) ?_)
 have e : L.getLast? = some L[L.length - 1] := by rw [List.getLast?_eq_getElem?, List.getElem?_eq_getElem]
 rw [e]
 by_cases c : L[L.length - 1] = []
 ·rw [c, if_pos rfl]
  refine Ev.pos (by rw [bs_toList]; rfl) (Ev.pos (by rw [List.length_map]; omega) (Ev.const ?_))
  rw [List.dropLast_eq_take, List.map_take]
 ·rw [if_neg (fun h => c (Option.some.inj h))]
  refine Ev.neg (fun h => c ?_) (Ev.const rfl)
  rw [bs_toList, bs_of_mk] at h
  exact h
abbrev Cm := S55
def cmOf (c : C8) : Cm := ⟨c.1, c.2.1, c.2.2.1, ⟨c.2.2.2.1, c.2.2.2.2.1, c.2.2.2.2.2.1⟩, c.2.2.2.2.2.2.1⟩
def skipL (l : List UInt8) : Bool := if l = [] then true else (bt (mk l) 0 == 35)
def readT : List (List UInt8) → Nat → List Cm → List Cm × Int
 | [], _, out => (out, 0)
 | l :: r, i, out => if skipL l = true then readT r (i + 1) out
  else if (textCmd (mk l)).2.2.2.2.2.2.2 = true then (if out.length = 300 then ([], ((i + 1 : Nat) : Int)) else readT r (i + 1) (out ++ [cmOf (textCmd (mk l))]))
  else ([], ((i + 1 : Nat) : Int))
def readCmds (s : ByteArray) : List Cm × Int := if s.size > 20000 then ([], 1) else readT (linesB (bs s)) 0 []
theorem lines_small {s : ByteArray} (hs : s.size ≤ 20000) : (linesB (bs s)).length ≤ 20001 ∧ ∀ l ∈ linesB (bs s), l.length ≤ 20000 := by
 have hl := split_len 10 (bs s)
 rw [bs_length] at hl
 unfold linesB
 split
 ·refine ⟨by rw [List.length_dropLast]; omega, fun l h => ?_⟩
  have := split_mem_len 10 (bs s) l (List.dropLast_subset _ h)
  rw [bs_length] at this; omega
 ·refine ⟨by omega, fun l h => ?_⟩
  have := split_mem_len 10 (bs s) l h
  rw [bs_length] at this; omega
theorem spec_ReadCmds_l0 (L : List (List UInt8)) (hL : L.length ≤ 20001) (hz : ∀ l ∈ L, l.length ≤ 20000) : ∀ (d i : Nat) (out : List Cm), i + d = L.length → out.length ≤ i → Ev (fun k => spec_ReadCmds.l0 k out (L.map mk) ((L.map mk).length : Int) (i : Int)) (readT (L.drop i) i out) := by
 intro d
 induction d with
 | zero =>
  intro i out hi ho
  refine Ev.step (fun _ => rfl) ?_
  simp only [spec_ReadCmds.l0]
  rw [List.drop_of_length_le (by omega)]
  exact Ev.neg (by rw [List.length_map]; omega) (Ev.const rfl)
 | succ d ih =>
  intro i out hi ho
  have hx : i < L.length := by omega
  have hzi := hz _ (List.getElem_mem hx)
  have step : Ev (fun k => spec_ReadCmds.j1 k out (i : Int) (mk L[i]) (L.map mk) ((L.map mk).length : Int) (i : Int) (skipL L[i])) (readT (L[i] :: L.drop (i + 1)) i out) := by
   refine Ev.step (fun _ => rfl) ?_
   simp only [spec_ReadCmds.j1]
   rw [readT, wsucc (by omega)]
   by_cases c : skipL L[i] = true
   ·rw [if_pos c]
    exact Ev.pos c (ih (i + 1) out (by omega) (by omega))
   rw [if_neg c]
   refine Ev.neg c (Ev.bind (spec_TextCmd_ev (mk L[i]) (by rw [mk_size]; omega)) ?_)
   cases q : (textCmd (mk L[i])).2.2.2.2.2.2.2
   ·exact Ev.neg (by simp) (Ev.const (by simp))
   ·refine Ev.pos rfl ?_
    rw [if_pos rfl]
    by_cases e : out.length = 300
    ·rw [if_pos e]
     exact Ev.pos (by omega) (Ev.const rfl)
    ·rw [if_neg e]
     exact Ev.neg (by omega) (Ev.pos (by omega) (ih (i + 1) _ (by omega) (by rw [List.length_append, List.length_singleton]; omega)))
  refine Ev.step (fun _ => rfl) ?_
  simp only [spec_ReadCmds.l0]
  rw [rdmk hx, drop_at hx]
  refine Ev.pos (by rw [List.length_map]; omega) (Ev.pos (by omega) (Ev.pos (by rw [List.length_map]; omega) ?_))
  by_cases c : L[i] = []
  ·refine Ev.pos (by rw [bs_toList, bs_of_mk]; exact c) ?_
   have e : skipL L[i] = true := by unfold skipL; rw [if_pos c]
   rw [e] at step
   exact step
  ·have hp := List.length_pos_iff.2 c
   refine Ev.neg (fun h => c (by rw [bs_toList, bs_of_mk] at h; exact h)) (Ev.pos (by rw [mk_size]; omega) ?_)
   have e : skipL L[i] = (bt (mk L[i]) 0 == 35) := by unfold skipL; rw [if_neg c]
   rw [e] at step
   exact step
theorem spec_ReadCmds_ev (s : ByteArray) (hs : s.size ≤ 1048576) : Ev (fun k => spec_ReadCmds.f k s) (readCmds s) := by
 unfold spec_ReadCmds.f readCmds
 by_cases c : s.size > 20000
 ·exact Ev.pos (by omega) (Ev.const (by rw [if_pos c]))
 refine Ev.neg (by omega) (Ev.bind (spec_Lines_ev s hs) ?_)
 rw [if_neg c]
 obtain ⟨h1, h2⟩ := lines_small (s := s) (by omega)
 exact spec_ReadCmds_l0 _ h1 h2 (linesB (bs s)).length 0 [] (by omega) (by simp)
theorem impl_ReadCmds_l0 (L : List (List UInt8)) (hL : L.length ≤ 20001) (hz : ∀ l ∈ L, l.length ≤ 20000) : ∀ (d i : Nat) (out : List Cm), i + d = L.length → out.length ≤ i → Ev (fun k => impl_ReadCmds.l0 k out (L.map mk) ((L.map mk).length : Int) (i : Int)) (readT (L.drop i) i out) := by
 intro d
 induction d with
 | zero =>
  intro i out hi ho
  refine Ev.step (fun _ => rfl) ?_
  simp only [impl_ReadCmds.l0]
  rw [List.drop_of_length_le (by omega)]
  exact Ev.neg (by rw [List.length_map]; omega) (Ev.const rfl)
 | succ d ih =>
  intro i out hi ho
  have hx : i < L.length := by omega
  have hzi := hz _ (List.getElem_mem hx)
  have step : Ev (fun k => impl_ReadCmds.j1 k out (i : Int) (mk L[i]) (L.map mk) ((L.map mk).length : Int) (i : Int) (skipL L[i])) (readT (L[i] :: L.drop (i + 1)) i out) := by
   refine Ev.step (fun _ => rfl) ?_
   simp only [impl_ReadCmds.j1]
   rw [readT, wsucc (by omega)]
   by_cases c : skipL L[i] = true
   ·rw [if_pos c]
    exact Ev.pos c (ih (i + 1) out (by omega) (by omega))
   rw [if_neg c]
   refine Ev.neg c (Ev.bind (impl_TextCmd_ev (mk L[i]) (by rw [mk_size]; omega)) ?_)
   cases q : (textCmd (mk L[i])).2.2.2.2.2.2.2
   ·exact Ev.neg (by simp) (Ev.const (by simp))
   ·refine Ev.pos rfl ?_
    rw [if_pos rfl]
    by_cases e : out.length = 300
    ·rw [if_pos e]
     exact Ev.pos (by omega) (Ev.const rfl)
    ·rw [if_neg e]
     exact Ev.neg (by omega) (Ev.pos (by omega) (ih (i + 1) _ (by omega) (by rw [List.length_append, List.length_singleton]; omega)))
  refine Ev.step (fun _ => rfl) ?_
  simp only [impl_ReadCmds.l0]
  rw [rdmk hx, drop_at hx]
  refine Ev.pos (by rw [List.length_map]; omega) (Ev.pos (by omega) (Ev.pos (by rw [List.length_map]; omega) ?_))
  by_cases c : L[i] = []
  ·refine Ev.pos (by rw [bs_toList, bs_of_mk]; exact c) ?_
   have e : skipL L[i] = true := by unfold skipL; rw [if_pos c]
   rw [e] at step
   exact step
  ·have hp := List.length_pos_iff.2 c
   refine Ev.neg (fun h => c (by rw [bs_toList, bs_of_mk] at h; exact h)) (Ev.pos (by rw [mk_size]; omega) ?_)
   have e : skipL L[i] = (bt (mk L[i]) 0 == 35) := by unfold skipL; rw [if_neg c]
   rw [e] at step
   exact step
theorem impl_ReadCmds_ev (s : ByteArray) (hs : s.size ≤ 1048576) : Ev (fun k => impl_ReadCmds.f k s) (readCmds s) := by
 unfold impl_ReadCmds.f readCmds
 by_cases c : s.size > 20000
 ·exact Ev.pos (by omega) (Ev.const (by rw [if_pos c]))
 refine Ev.neg (by omega) (Ev.bind (impl_Lines_ev s hs) ?_)
 rw [if_neg c]
 obtain ⟨h1, h2⟩ := lines_small (s := s) (by omega)
 exact impl_ReadCmds_l0 _ h1 h2 (linesB (bs s)).length 0 [] (by omega) (by simp)
theorem readT_small : ∀ (L : List (List UInt8)) (i : Nat) (out : List Cm), (∀ l ∈ L, l.length ≤ 20000) → out.length ≤ 300 → (∀ x ∈ out, x.f4.length ≤ 1048577) → (readT L i out).1.length ≤ 300 ∧ ∀ x ∈ (readT L i out).1, x.f4.length ≤ 1048577
 | [], i, out, _, h1, h2 => ⟨h1, h2⟩
 | l :: r, i, out, hz, h1, h2 => by
  have hr : ∀ l ∈ r, l.length ≤ 20000 := fun l hl => hz l (List.mem_cons_of_mem _ hl)
  rw [readT]
  split
  ·exact readT_small r (i + 1) out hr h1 h2
  ·split
   ·split
    ·simp
    ·refine readT_small r (i + 1) _ hr (by rw [List.length_append, List.length_singleton]; omega) (fun x hx => ?_)
     rcases List.mem_append.1 hx with hx | hx
     ·exact h2 x hx
     ·rw [List.mem_singleton.1 hx]
      exact textCmd_len (mk l) (by rw [mk_size]; have := hz l List.mem_cons_self; omega)
   ·simp
theorem readCmds_small (s : ByteArray) : (readCmds s).1.length ≤ 300 ∧ ∀ x ∈ (readCmds s).1, x.f4.length ≤ 1048577 := by
 unfold readCmds
 split
 ·simp
 ·exact readT_small _ _ _ (lines_small (by omega)).2 (by simp) (by simp)
end Go.Proofs.Ythnedklbobbkcaa.Q

namespace Go.Proofs.Ythnedklbobbkcaa.Fam
open Go.RowKit Go.Proofs.Ythnedklbobbkcaa.G Go.Proofs.Ythnedklbobbkcaa.PL Go.Proofs.YthnedklbobbkcaaW.PrintWords Go.Proofs.YthnedklbobbkcaaW.PrintLast
set_option linter.unusedVariables false
set_option linter.unusedSimpArgs false
theorem strOfNums_size (xs : List Int) : (strOfNums xs).size = xs.length := by
 simp [strOfNums, ByteArray.size]
theorem markText_l0 : ∀ (n : Nat) (x : Int) (y : ByteArray), x < 10 ^ n → y.size + n ≤ 1000 → ∃ t, Ev (fun k => laws_markText.l0 k x y) t
 | 0, x, y, hx, hy => by
  refine ⟨(⟨#[109]⟩ : ByteArray) ++ y, Ev.step (fun _ => rfl) ?_⟩
  simp only [laws_markText.l0]
  refine Ev.neg (by simp at hx; omega) ?_
  refine Ev.pos (by omega) ?_
  exact Ev.const rfl
 | n + 1, x, y, hx, hy => by
  by_cases h0 : x > 0
  ·have hd : Int.tdiv x 10 = x / 10 := Int.tdiv_eq_ediv_of_nonneg (by omega)
   have hxd : wrap64 (Int.tdiv x 10) < 10 ^ n := by
    rw [hd]
    have h1 : x / 10 < 10 ^ n := by rw [Int.pow_succ] at hx; omega
    by_cases hb : x / 10 ≤ 9223372036854775807
    ·rw [w64 (by omega) hb]; exact h1
    ·have h2 : wrap64 (x / 10) < 9223372036854775808 := by unfold wrap64; omega
     omega
   have hz : (strOfNums [wrap64 (48 + Int.tmod x 10) % 256]).size = 1 := by rw [strOfNums_size]; rfl
   obtain ⟨t, ht⟩ := markText_l0 n (wrap64 (Int.tdiv x 10)) (strOfNums [wrap64 (48 + Int.tmod x 10) % 256] ++ y) hxd (by rw [ByteArray.size_append, hz]; omega)
   refine ⟨t, Ev.step (fun _ => rfl) ?_⟩
   simp only [laws_markText.l0]
   refine Ev.pos h0 ?_
   refine Ev.bind (Ev.const rfl) ?_
   refine Ev.pos (by omega) ?_
   exact ht
  ·refine ⟨(⟨#[109]⟩ : ByteArray) ++ y, Ev.step (fun _ => rfl) ?_⟩
   simp only [laws_markText.l0]
   refine Ev.neg h0 ?_
   refine Ev.pos (by omega) ?_
   exact Ev.const rfl
theorem markText_any (m : Int) (h : m ≤ 4611686018427387904) : ∃ t, Ev (fun k => laws_markText.f k m) t := by
 unfold laws_markText.f
 by_cases c : m ≤ 0
 ·exact ⟨_, Ev.pos c (Ev.const rfl)⟩
 ·obtain ⟨t, ht⟩ := markText_l0 20 m ⟨#[]⟩ (by rw [show (10 : Int) ^ 20 = 100000000000000000000 from by decide]; omega) (by rw [show (⟨#[]⟩ : ByteArray).size = 0 from rfl]; omega)
  exact ⟨t, Ev.neg c ht⟩
open Classical in
noncomputable def tx (m : Int) : ByteArray := if h : m ≤ 4611686018427387904 then Classical.choose (markText_any m h) else ⟨#[]⟩
theorem tx_ev (m : Int) (h0 : 1 ≤ m) (h : m ≤ 4611686018427387904) : Ev (fun k => laws_markText.f k m) (tx m) := by
 unfold tx
 rw [dif_pos h]
 exact Classical.choose_spec (markText_any m h)
theorem wrap_add1 {m : Int} (h0 : 0 ≤ m) (h : m ≤ 4611686018427387904) : wrap64 (m + 1) = m + 1 := w64 (by omega) (by omega)
theorem wrap_add2 {m : Int} (h0 : 0 ≤ m) (h : m ≤ 4611686018427387904) : wrap64 (m + 1 + 1) = m + 2 := by rw [w64 (by omega) (by omega)]; omega
theorem wrap_add3 {m : Int} (h0 : 0 ≤ m) (h : m ≤ 4611686018427387904) : wrap64 (m + 2 + 1) = m + 3 := by rw [w64 (by omega) (by omega)]; omega
theorem wrap_add4 {m : Int} (h0 : 0 ≤ m) (h : m ≤ 4611686018427387904) : wrap64 (m + 3 + 1) = m + 4 := by rw [w64 (by omega) (by omega)]; omega
theorem wrap_add5 {m : Int} (h0 : 0 ≤ m) (h : m ≤ 4611686018427387904) : wrap64 (m + 4 + 1) = m + 5 := by rw [w64 (by omega) (by omega)]; omega
theorem wrap_add6 {m : Int} (h0 : 0 ≤ m) (h : m ≤ 4611686018427387904) : wrap64 (m + 5 + 1) = m + 6 := by rw [w64 (by omega) (by omega)]; omega
end Go.Proofs.Ythnedklbobbkcaa.Fam

namespace Go.Proofs.Ythnedklbobbkcaa.Fam
open Go.RowKit Go.Proofs.Ythnedklbobbkcaa.G Go.Proofs.Ythnedklbobbkcaa.PL Go.Proofs.Ythnedklbobbkcaa.Ok Go.Proofs.YthnedklbobbkcaaW.PrintWords Go.Proofs.YthnedklbobbkcaaW.PrintLast Go.Proofs.YthnedklbobbkcaaW.PrintMore
set_option linter.unusedVariables false
set_option linter.unusedSimpArgs false
theorem eqStringS_l0 (l : List ByteArray) (ho : l.length ≤ 140737488351232) : ∀ (d i : Nat), i + d = l.length → Ev (fun k => laws_eqStringS.l0 k l l i) true := by
 have hl : l.length ≤ 140737488351232 := ho
 intro d
 induction d with
 | zero =>
  intro i hi
  refine Ev.step (fun _ => rfl) ?_
  simp only [laws_eqStringS.l0]
  refine Ev.neg (by omega) ?_
  exact Ev.const rfl
 | succ d ih =>
  intro i hi
  refine Ev.step (fun _ => rfl) ?_
  simp only [laws_eqStringS.l0]
  refine Ev.pos (by omega) ?_
  refine Ev.pos (by omega) ?_
  refine Ev.pos (by omega) ?_
  rw [wsucc (by omega)]
  first | refine Ev.pos rfl ?_ | refine Ev.pos trivial ?_ | refine Ev.neg (by simp) ?_
  exact ih (i + 1) (by omega)
theorem eqStringS_ev (l : List ByteArray) (ho : l.length ≤ 140737488351232) : Ev (fun k => laws_eqStringS.f k l l) true := by
 unfold laws_eqStringS.f
 refine Ev.pos rfl ?_
 exact eqStringS_l0 l ho l.length 0 (by omega)
noncomputable def mkStringS : Int → List ByteArray → List ByteArray
 | _, [] => []
 | m, _ :: r => (tx m) :: mkStringS (m + 1) r
theorem rdm_StringS (pre : List ByteArray) (x : ByteArray) (rest : List ByteArray) : rdOf ByteArray.empty (pre ++ x :: rest) (pre.length : Int) = x := getD_mid pre x _ rest
theorem markStringS_l0 : ∀ (rest pre : List ByteArray) (m : Int), 1 ≤ m → (m + 1 * (rest.length : Int) ≤ 4611686018427387904 ∧ (pre.length : Int) + rest.length ≤ 4611686018427387904) → Ev (fun k => laws_markStringS.l0 k (pre ++ rest) m (pre.length : Int)) (m + 1 * (rest.length : Int), pre ++ mkStringS m rest)
 | [], pre, m, h0, h1 => by
  refine Ev.step (fun _ => rfl) ?_
  simp only [laws_markStringS.l0]
  refine Ev.neg (by simp) ?_
  exact Ev.const (by simp [mkStringS])
 | x :: rest, pre, m, h0, h1 => by
  simp only [List.length_cons, Int.natCast_add, Int.cast_ofNat_Int] at h1
  have hlen : (pre.length : Int) < 4611686018427387904 := by omega
  have hstep := markStringS_l0 rest (pre ++ [(tx m)]) (m + 1) (by omega) (by simp only [List.length_append, List.length_singleton, Int.natCast_add]; omega)
  refine Ev.step (fun _ => rfl) ?_
  simp only [laws_markStringS.l0]
  have hlt : (pre.length : Int) < ((pre ++ x :: rest).length : Int) := by simp; omega
  simp only [wrap_add1 (m := m) (by omega) (by omega), rdm_StringS, set_mid]
  have w1 : wrap64 ((pre.length : Int) + 1) = (((pre ++ [(tx m)]).length : Nat) : Int) := by rw [w64 (by omega) (by omega)]; simp
  rw [w1]
  refine Ev.pos hlt ?_
  try first | with_reducible refine Ev.pos (Int.natCast_nonneg _) ?_ | with_reducible refine Ev.pos rfl ?_ | with_reducible refine Ev.pos trivial ?_ | with_reducible refine Ev.bind (tx_ev _ (by omega) (by omega)) ?_ | with_reducible refine Ev.bind (Ev.const rfl) ?_ | with_reducible refine Ev.neg (by simp) ?_
  try first | with_reducible refine Ev.pos (Int.natCast_nonneg _) ?_ | with_reducible refine Ev.pos rfl ?_ | with_reducible refine Ev.pos trivial ?_ | with_reducible refine Ev.bind (tx_ev _ (by omega) (by omega)) ?_ | with_reducible refine Ev.bind (Ev.const rfl) ?_ | with_reducible refine Ev.neg (by simp) ?_
  try first | with_reducible refine Ev.pos (Int.natCast_nonneg _) ?_ | with_reducible refine Ev.pos rfl ?_ | with_reducible refine Ev.pos trivial ?_ | with_reducible refine Ev.bind (tx_ev _ (by omega) (by omega)) ?_ | with_reducible refine Ev.bind (Ev.const rfl) ?_ | with_reducible refine Ev.neg (by simp) ?_
  try first | with_reducible refine Ev.pos (Int.natCast_nonneg _) ?_ | with_reducible refine Ev.pos rfl ?_ | with_reducible refine Ev.pos trivial ?_ | with_reducible refine Ev.bind (tx_ev _ (by omega) (by omega)) ?_ | with_reducible refine Ev.bind (Ev.const rfl) ?_ | with_reducible refine Ev.neg (by simp) ?_
  try first | with_reducible refine Ev.pos (Int.natCast_nonneg _) ?_ | with_reducible refine Ev.pos rfl ?_ | with_reducible refine Ev.pos trivial ?_ | with_reducible refine Ev.bind (tx_ev _ (by omega) (by omega)) ?_ | with_reducible refine Ev.bind (Ev.const rfl) ?_ | with_reducible refine Ev.neg (by simp) ?_
  try first | with_reducible refine Ev.pos (Int.natCast_nonneg _) ?_ | with_reducible refine Ev.pos rfl ?_ | with_reducible refine Ev.pos trivial ?_ | with_reducible refine Ev.bind (tx_ev _ (by omega) (by omega)) ?_ | with_reducible refine Ev.bind (Ev.const rfl) ?_ | with_reducible refine Ev.neg (by simp) ?_
  try simp only [rdm_StringS, set_mid]
  refine Ev.to (by simpa only [List.append_assoc, List.singleton_append] using hstep) ?_
  simp [mkStringS, Int.natCast_add]; try omega
theorem heldStringS_l0 : ∀ (rest pre : List ByteArray) (m : Int), 1 ≤ m → (m + 1 * (rest.length : Int) ≤ 4611686018427387904 ∧ (pre.length : Int) + rest.length ≤ 4611686018427387904) → Ev (fun k => laws_heldStringS.l0 k (pre ++ mkStringS m rest) m (pre.length : Int)) (m + 1 * (rest.length : Int))
 | [], pre, m, h0, h1 => by
  refine Ev.step (fun _ => rfl) ?_
  simp only [laws_heldStringS.l0]
  refine Ev.neg (by simp [mkStringS]) ?_
  exact Ev.const (by simp)
 | x :: rest, pre, m, h0, h1 => by
  simp only [List.length_cons, Int.natCast_add, Int.cast_ofNat_Int] at h1
  have hlen : (pre.length : Int) < 4611686018427387904 := by omega
  have hstep := heldStringS_l0 rest (pre ++ [(tx m)]) (m + 1) (by omega) (by simp only [List.length_append, List.length_singleton, Int.natCast_add]; omega)
  refine Ev.step (fun _ => rfl) ?_
  simp only [laws_heldStringS.l0, mkStringS]
  have hlt : (pre.length : Int) < ((pre ++ (tx m) :: mkStringS (m + 1) rest).length : Int) := by simp; omega
  simp only [wrap_add1 (m := m) (by omega) (by omega), rdm_StringS, set_mid]
  have w1 : wrap64 ((pre.length : Int) + 1) = (((pre ++ [(tx m)]).length : Nat) : Int) := by rw [w64 (by omega) (by omega)]; simp
  rw [w1]
  refine Ev.pos hlt ?_
  try first | with_reducible refine Ev.pos (Int.natCast_nonneg _) ?_ | with_reducible refine Ev.pos rfl ?_ | with_reducible refine Ev.pos trivial ?_ | with_reducible refine Ev.bind (tx_ev _ (by omega) (by omega)) ?_ | with_reducible refine Ev.bind (Ev.const rfl) ?_ | with_reducible refine Ev.neg (by simp) ?_
  try first | with_reducible refine Ev.pos (Int.natCast_nonneg _) ?_ | with_reducible refine Ev.pos rfl ?_ | with_reducible refine Ev.pos trivial ?_ | with_reducible refine Ev.bind (tx_ev _ (by omega) (by omega)) ?_ | with_reducible refine Ev.bind (Ev.const rfl) ?_ | with_reducible refine Ev.neg (by simp) ?_
  try first | with_reducible refine Ev.pos (Int.natCast_nonneg _) ?_ | with_reducible refine Ev.pos rfl ?_ | with_reducible refine Ev.pos trivial ?_ | with_reducible refine Ev.bind (tx_ev _ (by omega) (by omega)) ?_ | with_reducible refine Ev.bind (Ev.const rfl) ?_ | with_reducible refine Ev.neg (by simp) ?_
  try first | with_reducible refine Ev.pos (Int.natCast_nonneg _) ?_ | with_reducible refine Ev.pos rfl ?_ | with_reducible refine Ev.pos trivial ?_ | with_reducible refine Ev.bind (tx_ev _ (by omega) (by omega)) ?_ | with_reducible refine Ev.bind (Ev.const rfl) ?_ | with_reducible refine Ev.neg (by simp) ?_
  try first | with_reducible refine Ev.pos (Int.natCast_nonneg _) ?_ | with_reducible refine Ev.pos rfl ?_ | with_reducible refine Ev.pos trivial ?_ | with_reducible refine Ev.bind (tx_ev _ (by omega) (by omega)) ?_ | with_reducible refine Ev.bind (Ev.const rfl) ?_ | with_reducible refine Ev.neg (by simp) ?_
  try first | with_reducible refine Ev.pos (Int.natCast_nonneg _) ?_ | with_reducible refine Ev.pos rfl ?_ | with_reducible refine Ev.pos trivial ?_ | with_reducible refine Ev.bind (tx_ev _ (by omega) (by omega)) ?_ | with_reducible refine Ev.bind (Ev.const rfl) ?_ | with_reducible refine Ev.neg (by simp) ?_
  try simp only [rdm_StringS, set_mid]
  refine Ev.to (by simpa only [List.append_assoc, List.singleton_append] using hstep) ?_
  simp [Int.natCast_add]; try omega
theorem markStringS_ev (l : List ByteArray) (m : Int) (h0 : 1 ≤ m) (h1 : m + 1 * (l.length : Int) ≤ 4611686018427387904) : Ev (fun k => laws_markStringS.f k l m) (m + 1 * (l.length : Int), mkStringS m l) := by
 unfold laws_markStringS.f
 have h := markStringS_l0 l [] m h0 ⟨h1, by simp; omega⟩
 simpa using h
theorem heldStringS_ev (l : List ByteArray) (m : Int) (h0 : 1 ≤ m) (h1 : m + 1 * (l.length : Int) ≤ 4611686018427387904) : Ev (fun k => laws_heldStringS.f k (mkStringS m l) m) (m + 1 * (l.length : Int)) := by
 unfold laws_heldStringS.f
 have h := heldStringS_l0 l [] m h0 ⟨h1, by simp; omega⟩
 simpa using h
end Go.Proofs.Ythnedklbobbkcaa.Fam

namespace Go.Proofs.Ythnedklbobbkcaa.Q
open Go.RowKit Go.Proofs.Ythnedklbobbkcaa.G Go.Proofs.Ythnedklbobbkcaa.PL Go.Proofs.Ythnedklbobbkcaa.Ok Go.Proofs.Ythnedklbobbkcaa.Fam Go.Proofs.YthnedklbobbkcaaW.PrintWords
noncomputable def mkCmdS : Int → List S55 → List S55
 | _, [] => []
 | m, x :: r => ⟨m, m + 1, m + 2, ⟨m + 3, tx (m + 4), tx (m + 5)⟩, mkStringS (m + 6) x.f4⟩ :: mkCmdS (m + 6 + 1 * (x.f4.length : Int)) r
def endCmdS : Int → List S55 → Int
 | m, [] => m
 | m, x :: r => endCmdS (m + 6 + 1 * (x.f4.length : Int)) r
theorem endCmdS_le : ∀ (l : List S55) (m : Int) (c : Nat), (∀ x ∈ l, x.f4.length ≤ c) → m ≤ endCmdS m l ∧ endCmdS m l ≤ m + (6 + c) * l.length
 | [], m, c, _ => by simp [endCmdS]
 | x :: r, m, c, h => by
  have h0 := h x List.mem_cons_self
  have ih := endCmdS_le r (m + 6 + 1 * (x.f4.length : Int)) c (fun y hy => h y (List.mem_cons_of_mem _ hy))
  rw [endCmdS, List.length_cons]
  have e : ((6 : Int) + c) * ((r.length + 1 : Nat) : Int) = (6 + c) * r.length + (6 + c) := by
   rw [Int.natCast_add, Int.mul_add]; simp
  rw [e]
  omega
theorem markCmdS_l0 : ∀ (rest pre : List S55) (m : Int), 1 ≤ m → (∀ x ∈ rest, x.f4.length ≤ 1048577) → m + (1048600 : Int) * rest.length ≤ 4611686018427387900 → (pre.length : Int) + rest.length ≤ 4611686018427387904 → Ev (fun k => laws_markCmdS.l0 k (pre ++ rest) m (pre.length : Int)) (endCmdS m rest, pre ++ mkCmdS m rest) := by
 intro rest
 induction rest with
 | nil =>
  intro pre m h0 hs h1 h2
  refine Ev.step (fun _ => rfl) ?_
  simp only [laws_markCmdS.l0]
  refine Ev.neg (by simp) ?_
  exact Ev.const (by simp [mkCmdS, endCmdS])
 | cons x rest ih =>
  intro pre m h0 hs h1 h2
  have hx := hs x List.mem_cons_self
  rw [List.length_cons] at h1 h2
  have hstep := ih (pre ++ [(⟨m, m + 1, m + 2, ⟨m + 3, tx (m + 4), tx (m + 5)⟩, mkStringS (m + 6) x.f4⟩ : S55)]) (m + 6 + 1 * (x.f4.length : Int)) (by omega) (fun y hy => hs y (List.mem_cons_of_mem _ hy)) (by omega) (by simp only [List.length_append, List.length_singleton]; omega)
  refine Ev.step (fun _ => rfl) ?_
  simp only [laws_markCmdS.l0]
  have hlt : (pre.length : Int) < ((pre ++ x :: rest).length : Int) := by simp; omega
  have rdm : ∀ y : S55, rd_T55 (pre ++ y :: rest) (pre.length : Int) = y := fun y => getD_mid pre y _ rest
  refine Ev.pos hlt (Ev.pos (by omega) ?_)
  simp only [Option.bind_some, rdm, set_mid]
  rw [wrap_add1 (m := m) (by omega) (by omega), wrap_add2 (m := m) (by omega) (by omega), wrap_add3 (m := m) (by omega) (by omega), wrap_add4 (m := m) (by omega) (by omega), wrap_add5 (m := m) (by omega) (by omega), wrap_add6 (m := m) (by omega) (by omega)]
  refine Ev.bind (tx_ev (m + 4) (by omega) (by omega)) ?_
  refine Ev.bind (tx_ev (m + 5) (by omega) (by omega)) ?_
  refine Ev.bind (markStringS_ev x.f4 (m + 6) (by omega) (by omega)) ?_
  have ew : wrap64 ((pre.length : Int) + 1) = ((pre ++ [(⟨m, m + 1, m + 2, ⟨m + 3, tx (m + 4), tx (m + 5)⟩, mkStringS (m + 6) x.f4⟩ : S55)]).length : Int) := by
   rw [w64 (by omega) (by omega), List.length_append, List.length_singleton]; omega
  rw [ew, snoc_mid]
  refine Ev.to hstep ?_
  rw [endCmdS, mkCmdS, List.append_assoc]; rfl
theorem heldCmdS_l0 : ∀ (rest pre : List S55) (m : Int), 1 ≤ m → (∀ x ∈ rest, x.f4.length ≤ 1048577) → m + (1048600 : Int) * rest.length ≤ 4611686018427387900 → (pre.length : Int) + rest.length ≤ 4611686018427387904 → Ev (fun k => laws_heldCmdS.l0 k (pre ++ mkCmdS m rest) m (pre.length : Int)) (endCmdS m rest) := by
 intro rest
 induction rest with
 | nil =>
  intro pre m h0 hs h1 h2
  refine Ev.step (fun _ => rfl) ?_
  simp only [laws_heldCmdS.l0]
  refine Ev.neg (by simp [mkCmdS]) ?_
  exact Ev.const (by simp [endCmdS])
 | cons x rest ih =>
  intro pre m h0 hs h1 h2
  have hx := hs x List.mem_cons_self
  rw [List.length_cons] at h1 h2
  have hstep := ih (pre ++ [(⟨m, m + 1, m + 2, ⟨m + 3, tx (m + 4), tx (m + 5)⟩, mkStringS (m + 6) x.f4⟩ : S55)]) (m + 6 + 1 * (x.f4.length : Int)) (by omega) (fun y hy => hs y (List.mem_cons_of_mem _ hy)) (by omega) (by simp only [List.length_append, List.length_singleton]; omega)
  refine Ev.step (fun _ => rfl) ?_
  simp only [laws_heldCmdS.l0, mkCmdS]
  have rdm : ∀ (y : S55) (r : List S55), rd_T55 (pre ++ y :: r) (pre.length : Int) = y := fun y r => getD_mid pre y _ r
  have hlt : ∀ (y : S55) (r : List S55), (pre.length : Int) < ((pre ++ y :: r).length : Int) := by intro y r; simp; omega
  refine Ev.pos (hlt _ _) (Ev.pos (by omega) ?_)
  simp only [rdm]
  rw [wrap_add1 (m := m) (by omega) (by omega), wrap_add2 (m := m) (by omega) (by omega), wrap_add3 (m := m) (by omega) (by omega), wrap_add4 (m := m) (by omega) (by omega), wrap_add5 (m := m) (by omega) (by omega), wrap_add6 (m := m) (by omega) (by omega)]
  refine Ev.pos trivial (Ev.pos rfl (Ev.pos rfl (Ev.pos rfl ?_)))
  refine Ev.bind (tx_ev (m + 4) (by omega) (by omega)) (Ev.pos rfl ?_)
  refine Ev.bind (tx_ev (m + 5) (by omega) (by omega)) (Ev.pos rfl ?_)
  refine Ev.bind (heldStringS_ev x.f4 (m + 6) (by omega) (by omega)) (Ev.neg (by omega) ?_)
  have ew : wrap64 ((pre.length : Int) + 1) = ((pre ++ [(⟨m, m + 1, m + 2, ⟨m + 3, tx (m + 4), tx (m + 5)⟩, mkStringS (m + 6) x.f4⟩ : S55)]).length : Int) := by
   rw [w64 (by omega) (by omega), List.length_append, List.length_singleton]; omega
  rw [ew, snoc_mid]
  exact hstep
end Go.Proofs.Ythnedklbobbkcaa.Q

namespace Go.Proofs.Ythnedklbobbkcaa.Fam
open Go.RowKit Go.Proofs.Ythnedklbobbkcaa.G Go.Proofs.Ythnedklbobbkcaa.PL Go.Proofs.Ythnedklbobbkcaa.Ok Go.Proofs.YthnedklbobbkcaaW.PrintWords Go.Proofs.YthnedklbobbkcaaW.PrintLast Go.Proofs.YthnedklbobbkcaaW.PrintMore
set_option linter.unusedVariables false
set_option linter.unusedSimpArgs false
instance decOp : DecidableEq S43 := fun a b => decidable_of_iff (a.f0 = b.f0 ∧ a.f1 = b.f1 ∧ a.f2 = b.f2) (by cases a; cases b; simp)
theorem eqOp_ev (x0 : Int) (x1 : ByteArray) (x2 : ByteArray)  : Ev (fun k => laws_eqOp.f x0 x1 x2 x0 x1 x2) true := by
 unfold laws_eqOp.f
 refine Ev.pos rfl ?_
 refine Ev.pos rfl ?_
 refine Ev.pos rfl ?_
 exact Ev.const rfl
instance decCmd : DecidableEq S55 := fun a b => decidable_of_iff (a.f0 = b.f0 ∧ a.f1 = b.f1 ∧ a.f2 = b.f2 ∧ a.f3 = b.f3 ∧ a.f4 = b.f4) (by cases a; cases b; simp)
theorem eqCmd_ev (x0 : Int) (x1 : Int) (x2 : Int) (x3 : Int) (x4 : ByteArray) (x5 : ByteArray) (x6 : List ByteArray) (o_x6 : x6.length ≤ 140737488351232) : Ev (fun k => laws_eqCmd.f k x0 x1 x2 x3 x4 x5 x6 x0 x1 x2 x3 x4 x5 x6) true := by
 unfold laws_eqCmd.f
 refine Ev.pos rfl ?_
 refine Ev.pos rfl ?_
 refine Ev.pos rfl ?_
 refine Ev.bind (eqOp_ev x3 x4 x5 ) ?_
 refine Ev.pos rfl ?_
 refine Ev.bind (eqStringS_ev x6 o_x6) ?_
 refine Ev.pos rfl ?_
 exact Ev.const rfl
def lenokCmdS (l : List S55) : Prop := l.length ≤ 140737488351232 ∧ ∀ x ∈ l, x.f4.length ≤ 140737488351232
theorem eqCmdS_l0 (l : List S55) (ho : lenokCmdS l) : ∀ (d i : Nat), i + d = l.length → Ev (fun k => laws_eqCmdS.l0 k l l i) true := by
 have hl : l.length ≤ 140737488351232 := ho.1
 intro d
 induction d with
 | zero =>
  intro i hi
  refine Ev.step (fun _ => rfl) ?_
  simp only [laws_eqCmdS.l0]
  refine Ev.neg (by omega) ?_
  exact Ev.const rfl
 | succ d ih =>
  intro i hi
  refine Ev.step (fun _ => rfl) ?_
  simp only [laws_eqCmdS.l0]
  refine Ev.pos (by omega) ?_
  refine Ev.pos (by omega) ?_
  refine Ev.pos (by omega) ?_
  rw [wsucc (by omega)]
  have hlt : i < l.length := by omega
  have er : rd_T55 l (i : Int) = l[i] := getD_at hlt _
  have hok := ho.2 _ (List.getElem_mem hlt)
  rw [er]
  refine Ev.bind (eqCmd_ev _ _ _ _ _ _ _ (hok)) ?_
  refine Ev.pos rfl ?_
  exact ih (i + 1) (by omega)
theorem eqCmdS_ev (l : List S55) (ho : lenokCmdS l) : Ev (fun k => laws_eqCmdS.f k l l) true := by
 unfold laws_eqCmdS.f
 refine Ev.pos rfl ?_
 exact eqCmdS_l0 l ho l.length 0 (by omega)
end Go.Proofs.Ythnedklbobbkcaa.Fam

namespace Go.Proofs.Ythnedklbobbkcaa.Pure
open Go.RowKit Go.Proofs.Ythnedklbobbkcaa.G Go.Proofs.Ythnedklbobbkcaa.PL Go.Proofs.Ythnedklbobbkcaa.Ok Go.Proofs.Ythnedklbobbkcaa.Fam Go.Proofs.Ythnedklbobbkcaa.Q Go.Proofs.YthnedklbobbkcaaW.PrintWords Go.Proofs.YthnedklbobbkcaaW.PrintLast Go.Proofs.Ythnedklbobbkcaa.G.fnExactReadCmds
theorem FnExactReadCmds : FnExactReadCmds.Pure := by
 intro x0 o0
 apply Ev.rounds
 unfold laws_FnExactReadCmds.f
 by_cases c0 : (x0.size : Int) > 1048576
 ·exact Ev.pos c0 (Ev.const rfl)
 refine Ev.neg c0 ?_
 obtain ⟨l1, l2⟩ := readCmds_small x0
 have hI := impl_ReadCmds_ev x0 (by omega)
 refine Ev.bind (spec_ReadCmds_ev x0 (by omega)) ?_
 refine Ev.bind hI ?_
 revert l1 l2 hI
 generalize readCmds x0 = R
 obtain ⟨l, code⟩ := R
 intro l1 l2 hI
 have l1 : l.length ≤ 300 := l1
 have l2 : ∀ x ∈ l, x.f4.length ≤ 1048577 := l2
 have hE := eqCmdS_ev l ⟨by omega, fun x hx => by have := l2 x hx; omega⟩
 have hc : (code != code) = false := by simp
 have hle := endCmdS_le l 1 1048577 l2
 have hM : Ev (fun k => laws_markCmdS.f k l 1) (endCmdS 1 l, mkCmdS 1 l) := by
  unfold laws_markCmdS.f
  have h := markCmdS_l0 l [] 1 (by omega) l2 (by omega) (by simp; omega)
  exact h
 have hH : Ev (fun k => laws_heldCmdS.f k (mkCmdS 1 l) 1) (endCmdS 1 l) := by
  unfold laws_heldCmdS.f
  have h := heldCmdS_l0 l [] 1 (by omega) l2 (by omega) (by simp; omega)
  exact h
 refine Ev.bind hE (Ev.pos rfl ?_)
 rw [hc]
 refine Ev.step (fun _ => rfl) ?_
 simp only [laws_FnExactReadCmds.j0]
 refine Ev.neg (by simp) ?_
 refine Ev.bind hM (Ev.bind hH (Ev.neg (by omega) (Ev.pos rfl ?_)))
 refine Ev.bind hI (Ev.bind hE (Ev.pos rfl ?_))
 rw [hc]
 refine Ev.step (fun _ => rfl) ?_
 simp only [laws_FnExactReadCmds.j1]
 refine Ev.neg (by simp) ?_
 exact Ev.bind hH (Ev.neg (by omega) (Ev.pos rfl (Ev.const rfl)))
end Go.Proofs.Ythnedklbobbkcaa.Pure

namespace Go.Proofs.Ythnedklbobbkcaa.fnExactReadCmds
open Go.ChangeShapes Go.WideShapes Go.ChangeAt Go.RowKit Go.Proofs.Ythnedklbobbkcaa.Open Go.Proofs.Ythnedklbobbkcaa.Ok Go.Proofs.Ythnedklbobbkcaa.G.fnExactReadCmds
set_option linter.unusedVariables false
theorem own : ownKnob Try.prog.godebug = none := by kernel_rfl
theorem laidOut : laidOutB Try.prog = true := by kernel_rfl
set_option maxRecDepth 100000 in
set_option maxHeartbeats 2000000 in
theorem lifted (pure : FnExactReadCmds.Pure) (os : Os) (started : os.Started) (H : Type) (enc : TypeId × Value → H) :
  ReturnsInHanded {} Try.checked os 3 .any (Rows.fnExactReadCmdsSpec.pre6 enc Try.prog Try.f3 Rows.fnExactReadCmdsRow.domain false) (Rows.fnExactReadCmdsSpec.post enc Try.prog Try.f3 false true false false) := by
 refine returnsInHanded_of_change_sized (C := Try.checked) own started (by kernel_rfl) Try.func3
  (ChangeSpec.witness6 (enc := enc) (C := Try.checked) false ⟨#[], #[.string ByteArray.empty], []⟩ 8 (by kernel_rfl) (by kernel_rfl) (by kernel_rfl) (by kernel_rfl)) ?_
 intro W base args ds gs before hval0 hW hcnd hsz0 _
 have hsz : (DataW.weightsEach Try.prog (Try.f3.params.toList ++ Rows.fnExactReadCmdsSpec.plain.varTypes Try.prog) (ds ++ gs)).all (· ≤ reachBytes) = true := hsz0
 have hval : ∀ (j : Nat) t v, Try.f3.params[j]? = some t → args[j]? = some v → Value.okWide Try.prog W .any base t v := hval0
 have hW' := hW
 obtain ⟨p, q, hA0, hV, rfl, hfz, hnd⟩ := hW
 have hA : DataW.TrodAll enc Try.prog W 0 (fun _ => true) true Try.f3.params.toList args.toList ds p := hA0
 rw [Try.params3] at hA hval hsz
 obtain ⟨v0, vs0, d0, ds0, p0, q0, hargs, rfl, rfl, h0, r0⟩ := trodAll_cons hA
 obtain ⟨rfl, rfl, rfl⟩ := trodAll_nil r0
 obtain rfl : args = #[v0] := by cases args; simp_all
 obtain ⟨rfl, rfl⟩ := trodVars_none hV
 have k0 := h0
 have lt0 : ∀ x ∈ p0, x.block < W.heap.size := by obtain ⟨m, hm⟩ := k0; exact DataW.trod_lt m _ _ _ hm
 obtain ⟨fuel0, hf0⟩ := h0
 obtain ⟨x0, hK0, ok0⟩ := opn9 H enc W fuel0 _ _ _ hf0 (weights_of hsz (j := 0) (t := 9) rfl rfl)
 obtain ⟨b0, rfl⟩ := okWide_string Try.underlying9 (hval 0 9 v0 rfl rfl)
 obtain rfl : b0 = x0 := by have e_ : [_] = [_] := hK0; simpa using e_
 clear hA0 hval0 hsz0 hsz
 obtain ⟨k, hk⟩ := pure b0 ok0
 refine (Go.Proofs.Ythnedklbobbkcaa.G.laws_FnExactReadCmds.calls k b0 true W  hk).mono fun e W' ⟨he, bel⟩ => ?_
 subst he
 exact ⟨_, rfl, _, _, _, [], _, [], hW', trodAll_mk1 (shut_bool Try.underlying4 _), (trodAll_cons_mk (Below.trod laidOut (by kernel_rfl) (of_decide_eq_true (by kernel_rfl)) k0 bel lt0) trodAll_mk0), rfl, bel.frame _, fun h => by cases h⟩
theorem over (pure : FnExactReadCmds.Pure) : Rows.fnExactReadCmdsRow.holds Try.pinned (OpenSpec.ofChange Rows.fnExactReadCmdsSpec) :=
 OpenClaim.holds_of_wide 3 Try.f3 rfl rfl rfl rfl rfl rfl rfl ⟨rfl, rfl, rfl, rfl, rfl⟩ rfl rfl rfl rfl rfl (by kernel_rfl) Try.func3 (by kernel_rfl)
  (of_decide_eq_true (by kernel_rfl)) (by unfold Func.isWrapper; first | (rw [if_pos (by decide +kernel)]; kernel_rfl) | (rw [if_neg (by decide +kernel)]; exact ⟨rfl, rfl⟩))
  (fun os started H enc _ => lifted pure os started H enc)
end Go.Proofs.Ythnedklbobbkcaa.fnExactReadCmds
namespace Go.Proofs.Ythnedklbobbkcaa
/-- The row, for the claim. -/
theorem fnExactReadCmds_holds : Rows.FnExactReadCmdsSaid := fnExactReadCmds.over Pure.FnExactReadCmds
end Go.Proofs.Ythnedklbobbkcaa
