/- Part 2 of the claim FnRoom, merged by pack.py (this session's program) out of: the print's words, cut to what is needed; texts that gen.py printed (it runs the kit's print in place); texts of this session. -/
import Derived.RegionTactic
import Derived.Test.YtdeijmofaapgdaaKFnRoom0
import Derived.Test.YtdeijmofaapgdaaKFnRoom1
namespace Go.Proofs.Ytdeijmofaapgdaa.Man
end Go.Proofs.Ytdeijmofaapgdaa.Man
namespace Go.Proofs.Ytdeijmofaapgdaa.Mm
end Go.Proofs.Ytdeijmofaapgdaa.Mm
namespace Go.Proofs.Ytdeijmofaapgdaa.Sh
end Go.Proofs.Ytdeijmofaapgdaa.Sh
namespace Go.Proofs.Ytdeijmofaapgdaa.G
open Go.RowKit Go.Proofs.YtdeijmofaapgdaaW.PrintWords Go.Proofs.YtdeijmofaapgdaaW.PrintLast Go.Proofs.YtdeijmofaapgdaaW.PrintMore Go.Proofs.Ytdeijmofaapgdaa.Sh
attribute [local go_sem] max2_int min2_int max_two min_two max_three min_three max_four min_four
set_option linter.unusedVariables false
set_option linter.unusedSimpArgs false
open Go.Proofs.Ytdeijmofaapgdaa.Man
section
variable {P : Program}
/-- 'clear(s)' of what lies behind a queue of the call's own, in its spare room: the queue stays. -/
theorem Q_clear_run {α : Type} (d : Kd α) {W : World} (base : Nat) (t ty e : TypeId) (z : Value) (ht : P.underlying t = some (.slice e)) (hz : ∀ w, (zeroValue e).run P w = .ok z w) (hzs : z.cells.size = d.sz) (hz1 : ∀ u ∈ z.cells.toList, u.oneCell' = true)
  {g o n c m : Nat} {xs : List α} {ok : Nat → Prop} (HO : d.Q e W base ok (.slice (some ⟨g, o, none⟩) n c) xs) (hm : n + m ≤ c) (hm0 : 0 < m) (hn0 : 0 < c) (c2 : Nat) (hpos : 0 < d.sz) :
  ∃ w1, (Builtin.clear_ #[t] ty #[.slice (some ⟨g, o + n * d.sz, none⟩) m c2]).run P W = .ok (.tuple #[]) w1 ∧ d.Q e w1 base ok (.slice (some ⟨g, o, none⟩) n c) xs ∧ W.grownBy w1 (some g) := by
 obtain ⟨hn, hnc, _⟩ := Kd.Q_reads' HO
 obtain ⟨hok, inner, hown, hr⟩ := HO
 have hin : inner.length = n * d.sz := by rw [hr.1, hn]
 rcases hown.2 with ⟨h0, A, hv, _⟩ | ⟨g', off, cap', cur, hv, hb, hh, hcn, hcm, hcs, htake⟩
 ·injection hv with _ h1 h2
  omega
 injection hv with ha _ hc
 injection ha with ha
 injection ha with hg ho
 subst hg; subst hc; subst ho
 rw [← hn] at htake
 obtain ⟨news, hnews⟩ : ∃ news, news = (Builtin.zeroCells z.cells m).toList := ⟨_, rfl⟩
 have hnl : news.length = m * d.sz := by rw [hnews, cycle_len _ _ hm0, hzs]
 have hone : ∀ u ∈ news, u.oneCell' = true := by
  intro u hu
  rw [hnews] at hu
  have hp : 0 < z.cells.size := by omega
  simp only [Builtin.zeroCells, Array.toList_map, List.mem_map] at hu
  obtain ⟨i, _, rfl⟩ := hu
  have hi := Nat.mod_lt i hp
  rw [getElem!_pos z.cells _ hi]
  exact hz1 _ (by simp)
 have hnm : (n + m) * d.sz ≤ c * d.sz := Nat.mul_le_mul_right _ hm
 have hnm2 : (n + m) * d.sz = n * d.sz + m * d.sz := Nat.add_mul _ _ _
 have hoc : (off + c) * d.sz = off * d.sz + c * d.sz := Nat.add_mul _ _ _
 have hfit : off * d.sz + n * d.sz + news.length ≤ cur.size := by omega
 have hst := run_storeCells_cells (P := P) g (off * d.sz + n * d.sz) news 0 W (fun j hj => by rw [cell_of_row W g _ cur e (0, 0) hh]; simp; omega) (fun j _ => blk_frozen hh _) hone
 simp only [Nat.add_zero] at hst
 obtain ⟨cur', h3, h4, h5⟩ := setCells_row news (off * d.sz + n * d.sz) W cur hh hfit
 obtain ⟨s1, s2, s3, s4⟩ := setCells_same g news (off * d.sz + n * d.sz) W
 have hfar : ∀ k', k' ≠ g → (W.setCells g (off * d.sz + n * d.sz) news).heap[k']? = W.heap[k']? := fun k' hk' => setCells_far news _ k' hk'
 refine ⟨_, ?_, ⟨hok, inner, ⟨by rw [hin, hn], .inr ⟨g, off, c, cur', by rw [hn], hb, h3, by omega, hcm, by rw [h4, hcs], ?_⟩⟩, ?_⟩, ⟨s1, s2, s3, by rw [s4]; exact Nat.le_refl _, fun k' _ hk' => hfar k' (fun he => hk' (by rw [he]))⟩⟩
 ·obtain ⟨k, rfl⟩ : ∃ k, m = k + 1 := ⟨m - 1, by omega⟩
  have hzc : (Builtin.zeroCells z.cells (k + 1)).toList = news := hnews.symm
  simp [Builtin.clear_, run_underlying ht, hz, hzc, hst]
 ·rw [← hn, h5, List.append_assoc]
  have hl : (cur.toList.take (off * d.sz + n * d.sz)).drop (off * d.sz) = (cur.toList.drop (off * d.sz)).take (n * d.sz) := by
   rw [List.drop_take]
   congr 1
   omega
  have hlen : (cur.toList.take (off * d.sz + n * d.sz)).length = off * d.sz + n * d.sz := by
   rw [List.length_take, Array.length_toList]; omega
  rw [List.drop_append_of_le_length (by rw [hlen]; omega), hl, htake]
  exact List.take_left' hin
 ·exact hr.imp_ (fun p q hp => d.M_move (fun k' hk' => hfar k' (fun he => hk'.2 (by simp [Value.ownBlock, he]))) hp)
end
def delInt.idx (h : Int) : List Int → Nat → Int
 | [], _ => -1
 | x :: r, i => if x = h then (i : Int) else delInt.idx h r (i + 1)
theorem delInt.idx_at (h : Int) (l : List Int) (i : Nat) (hi : i < l.length) : delInt.idx h (l.drop i) i = if rd l (i : Int) = h then (i : Int) else delInt.idx h (l.drop (i + 1)) (i + 1) := by
 rw [List.drop_eq_getElem_cons hi, delInt.idx]
 have e : rd l (i : Int) = l[i] := by
  show l.getD (i : Int).toNat _ = _
  simp [List.getD_eq_getElem?_getD, hi]
 rw [e]
theorem delInt.idx_end (h : Int) (l : List Int) (i : Nat) (hi : ¬ i < l.length) : delInt.idx h (l.drop i) i = -1 := by
 rw [List.drop_of_length_le (by omega)]; rfl
/-- What is asked of a closure over one number: it tells whether it is handed just that one. -/
def delInt.Clo (M : Nat) (fnM : Func) (B : Nat) (h : Int) : Prop := Try.prog.funcs[M]? = some fnM ∧ (fnM.name == "runtime.NumGoroutine") = false ∧ fnM.body.isSome = true ∧ ∀ (y : Int) (W : World), W.heap[B]? = some (.cells #[.int .i64 h] 3 (0, 0)) →
 Calls Try.prog M #[.int .i64 y, .pointer (some ⟨B, 0, none⟩)] W fun e w' => e = .returned (.bool (y == h)) ∧ Below W.heap.size W w'
set_option maxHeartbeats 8000000 in
set_option maxRecDepth 100000 in
theorem delInt.index (M : Nat) (fnM : Func) (B : Nat) (h : Int) (hM : delInt.Clo M fnM B h) (A0 : Option Addr) (c0 : Nat) (l0 : List Int) (w : World) (hblk : w.heap[B]? = some (.cells #[.int .i64 h] 3 (0, 0))) (hr0 : Kd.C (Kd.int .i64) w A0 l0.length l0) (hc0 : l0.length ≤ c0) :
  Calls Try.prog 97 #[.slice A0 l0.length c0, .func (.func M) #[] #[.pointer (some ⟨B, 0, none⟩)]] w fun e w' => e = .returned (.int .i64 (delInt.idx h l0 0)) ∧ Below w.heap.size w w' := by
 obtain ⟨hfM, hnM, hbM, hcM⟩ := hM
 have HR0 := Aside0.mk hr0
 have HC0 := Aside0.mk hc0
 have HL := Aside0.mk (show l0.length ≤ 9223372036854775807 from hr0.2.1)
 have HX := Aside0.mk hblk
 have HF := Aside0.mk hfM
 have HN1 := Aside0.mk hnM
 have HB1 := Aside0.mk hbM
 have HCM := Aside0.mk hcM
 clear hr0 hc0 hblk hfM hnM hbM hcM
 have HB := Aside0.mk (Below.refl w.heap.size w)
 obtain ⟨R, hR⟩ : ∃ R, R = delInt.idx h l0 0 := ⟨_, rfl⟩
 rw [← hR]
 have HN := Aside0.mk (show delInt.idx h (l0.drop 0) 0 = R from hR.symm)
 clear hR
 go_enter Try.func97, Try.ntmps97
 go_wp2
 go_loopg [5, 8] l0.length (fun kq _ v8 w' => ∃ x : Int, v8 = .int .i64 x ∧ Aside0 (∃ n : Nat, x = (n : Int) ∧ delInt.idx h (l0.drop n) n = R ∧ n + kq = l0.length) ∧ Aside0 (Below w.heap.size w w'))
 case atStart => exact ⟨0, rfl, ⟨0, rfl, HN.out, Nat.zero_add _⟩, HB⟩
 case round =>
  clear HN
  obtain ⟨x, rfl, HN, HB⟩ := hrel
  by_cases hlt : x < (l0.length : Int)
  ·have hd : decide (x < (l0.length : Int)) = true := decide_eq_true hlt
   have hn0 : 0 ≤ x := by obtain ⟨n, rfl, _⟩ := HN.out; exact Int.natCast_nonneg n
   obtain ⟨ad, hA, hx0⟩ := Kd.at_int HR0.out x hn0 hlt
   subst hA
   replace hx0 := (HB.out.cell (World.block_lt_of_cell? w _ hx0)).trans hx0
   have H0 := Aside0.mk hn0
   have H1 := Aside0.mk hlt
   replace hn0 := eq_true hn0
   replace hlt := eq_true hlt
   obtain ⟨y, hy⟩ : ∃ y, rd l0 x = y := ⟨_, rfl⟩
   rw [hy] at hx0
   have HY := Aside0.mk hy
   clear hy
   by_cases c : y = h
   ·have C := Aside0.mk c
    have hbq : (y == h) = true := beq_iff_eq.mpr c
    clear c
    go_wp2_with fail
    rw [enters_ HF.out HN1.out HB1.out, Oper.upon_enter]
    refine (HCM.out y _ (blk_below HX.out HB.out)).mono ?_
    rintro e w' ⟨rfl, hb'⟩
    have HB' := Aside0.mk hb'
    clear hb'
    rw [hbq]
    go_wp2
    go_ret
    refine ⟨?_, below_step HB.out HB'.out⟩
    obtain ⟨n, rfl, hn, hk⟩ := HN.out
    have e := delInt.idx_at h l0 n (Int.ofNat_lt.mp H1.out)
    rw [HY.out, if_pos C.out, hn] at e
    rw [e]
    rfl
   ·have C := Aside0.mk c
    have hbq : (y == h) = false := beq_eq_false_iff_ne.mpr c
    clear c
    go_wp2_with fail
    rw [enters_ HF.out HN1.out HB1.out, Oper.upon_enter]
    refine (HCM.out y _ (blk_below HX.out HB.out)).mono ?_
    rintro e w' ⟨rfl, hb'⟩
    have HB' := Aside0.mk hb'
    clear hb'
    rw [hbq]
    go_wp2
    obtain ⟨n, rfl, hn, hk⟩ := HN.out
    have hlt' := Int.ofNat_lt.mp H1.out
    go_roundg (gk - 1)
    case measure => omega
    case rel =>
     have e := delInt.idx_at h l0 n hlt'
     rw [HY.out, if_neg C.out, hn] at e
     exact ⟨_, rfl, ⟨n + 1, wsucc_ (by have := HL.out; omega), e.symm, by omega⟩, ⟨below_step HB.out HB'.out⟩⟩
  ·have hd : decide (x < (l0.length : Int)) = false := decide_eq_false hlt
   have HLT := Aside0.mk hlt
   clear hlt
   go_wp2
   go_ret
   obtain ⟨n, rfl, hn, hk⟩ := HN.out
   have hlt' := HLT.out
   rw [delInt.idx_end h l0 n (by omega)] at hn
   exact ⟨by rw [← hn]; rfl, HB.out⟩
def slices_DeleteFunc_int_int.f (l0 : List Int) (a1 : Int) : Option (List Int) := some (l0.filter (fun y => !(y == a1)))
theorem delInt.idx_neg (h : Int) : ∀ (l : List Int) (i : Nat), delInt.idx h l i = -1 → l.filter (fun y => !(y == h)) = l
 | [], _, _ => rfl
 | x :: r, i, e => by
  rw [delInt.idx] at e
  by_cases c : x = h
  ·rw [if_pos c] at e; omega
  ·rw [if_neg c] at e
   rw [List.filter_cons, if_pos (by simp [c]), delInt.idx_neg h r (i + 1) e]
theorem delInt.idx_pos (h : Int) : ∀ (l : List Int) (i : Nat), delInt.idx h l i ≠ -1 → ∃ p, p < l.length ∧ delInt.idx h l i = ((i + p : Nat) : Int) ∧ (l.take p).filter (fun y => !(y == h)) = l.take p ∧ rd l (p : Int) = h
 | [], _, e => by simp [delInt.idx] at e
 | x :: r, i, e => by
  rw [delInt.idx] at e ⊢
  by_cases c : x = h
  ·exact ⟨0, by simp, by rw [if_pos c]; simp, rfl, c⟩
  ·rw [if_neg c] at e ⊢
   obtain ⟨p, h1, h2, h3, h4⟩ := delInt.idx_pos h r (i + 1) e
   refine ⟨p + 1, by simpa using h1, by rw [h2]; omega, ?_, ?_⟩
   ·rw [List.take_succ_cons, List.filter_cons, if_pos (by simp [c]), h3]
   ·have : rd (x :: r) ((p + 1 : Nat) : Int) = rd r (p : Int) := by
     show (x :: r).getD ((p + 1 : Nat) : Int).toNat _ = r.getD (p : Int).toNat _
     simp
    rw [this, h4]
/-- What the loop keeps: ahead of i what stays of the first j, from j on the rest. -/
structure delInt.Inv (h : Int) (l cur : List Int) (i j : Nat) : Prop where
 len : cur.length = l.length
 lt : i < j
 le : j ≤ l.length
 front : cur.take i = (l.take j).filter (fun y => !(y == h))
 back : cur.drop j = l.drop j
theorem delInt.Inv.read {h : Int} {l cur : List Int} {i j : Nat} (v : delInt.Inv h l cur i j) (hj : j < l.length) : rd cur (j : Int) = rd l (j : Int) := by
 have e := congrArg (fun z => z.head?) v.back
 simp only [List.head?_drop] at e
 show cur.getD (j : Int).toNat _ = l.getD (j : Int).toNat _
 simp [List.getD_eq_getElem?_getD, e]
theorem delInt.take_succ {l : List Int} {j : Nat} (hj : j < l.length) : l.take (j + 1) = l.take j ++ [rd l (j : Int)] := by
 have e : rd l (j : Int) = l[j] := by
  show l.getD (j : Int).toNat _ = _
  simp [List.getD_eq_getElem?_getD, hj]
 rw [e, List.take_succ_eq_append_getElem hj]
theorem delInt.Inv.skip {h : Int} {l cur : List Int} {i j : Nat} (v : delInt.Inv h l cur i j) (hj : j < l.length) (e : rd l (j : Int) = h) : delInt.Inv h l cur i (j + 1) := by
 refine ⟨v.len, by have := v.lt; omega, hj, ?_, ?_⟩
 ·rw [v.front, delInt.take_succ hj, List.filter_append]
  simp [e]
 ·rw [← List.drop_drop, ← List.drop_drop, v.back]
theorem delInt.Inv.put {h : Int} {l cur : List Int} {i j : Nat} (v : delInt.Inv h l cur i j) (hj : j < l.length) (e : rd l (j : Int) ≠ h) : delInt.Inv h l (cur.set i (rd l (j : Int))) (i + 1) (j + 1) := by
 have hi := v.lt
 have hl := v.len
 refine ⟨by rw [List.length_set]; exact hl, by omega, hj, ?_, ?_⟩
 ·rw [List.take_succ_eq_append_getElem (by rw [List.length_set]; omega), List.take_set_of_le (Nat.le_refl _), v.front, delInt.take_succ hj, List.filter_append]
  simp [e]
 ·rw [List.drop_set_of_lt (by omega), ← List.drop_drop, ← List.drop_drop, v.back]
set_option maxHeartbeats 8000000 in
set_option maxRecDepth 100000 in
theorem slices_DeleteFunc_int_int.calls (P0_ : Nat → Prop) (u9000_ : Value) (l0 : List Int) (M : Nat) (fnM : Func) (B : Nat) (a1 : Int) (r : List Int) (w0 w : World) (hB : Below w0.heap.size w0 w) (ho0 : Kd.Q (Kd.int .i64) 3 w w0.heap.size P0_ u9000_ l0) (hM : delInt.Clo M fnM B a1) (hblk : w.heap[B]? = some (.cells #[.int .i64 a1] 3 (0, 0))) (hPB : ∀ k_, P0_ k_ → k_ ≠ B) (h : slices_DeleteFunc_int_int.f l0 a1 = some r) :
  Calls Try.prog 78 #[u9000_, .func (.func M) #[] #[.pointer (some ⟨B, 0, none⟩)]] w fun e w' => ∃ v0_ : Value, e = .returned v0_ ∧ Kd.Q (Kd.int .i64) 3 w' w0.heap.size (fun k_ => P0_ k_ ∨ w.heap.size ≤ k_) v0_ r ∧ Below w0.heap.size w0 w' ∧ Kept w w' (fun k_ => P0_ k_) := by
 obtain rfl := Option.some.inj h
 clear h
 obtain ⟨A0, c0, rfl, hlc⟩ := Kd.Q_slice ho0
 obtain ⟨_, _, hC⟩ := Kd.Q_reads' ho0
 have hidx := delInt.index M fnM B a1 hM A0 c0 l0 w hblk hC hlc
 have hL : l0.length ≤ 9223372036854775807 := hC.2.1
 obtain ⟨hfM, hnM, hbM, hcM⟩ := hM
 have HF := Aside0.mk hfM
 have HN1 := Aside0.mk hnM
 have HB1 := Aside0.mk hbM
 have HCM := Aside0.mk hcM
 have HX := Aside0.mk hblk
 have HQ := Aside0.mk ho0
 have HBW := Aside0.mk hB
 have HPB := Aside0.mk hPB
 have HL := Aside0.mk hL
 have HLC := Aside0.mk hlc
 clear hfM hnM hbM hcM hblk ho0 hB hPB hL hC
 by_cases ci : delInt.idx a1 l0 0 = -1
 ·have e1 := delInt.idx_neg a1 l0 0 ci
  rw [e1]
  rw [ci] at hidx
  clear e1 ci
  go_enter Try.func78, Try.ntmps78
  go_wp2_with fail
  refine hidx.mono ?_
  rintro e w' ⟨rfl, hb⟩
  have HB := Aside0.mk hb
  clear hb hidx
  go_wp2
  go_ret
  exact ⟨_, rfl, Kd.Q_mono (Kd.Q_below HQ.out HB.out) (fun _ h => Or.inl h), below_step HBW.out HB.out, Kept.below (Kept.refl _ _) HB.out⟩
 ·obtain ⟨p, hp, e1, e2, e3⟩ := delInt.idx_pos a1 l0 0 ci
  rw [Nat.zero_add] at e1
  rw [e1] at hidx
  obtain ⟨g, o, cap, hv, hbg, hgl, cl, hgc⟩ := Kd.Q_form HQ.out (by omega)
  injection hv with ha _ hcap
  subst ha
  subst hcap
  have hP0 : P0_ g := HQ.out.1 g rfl
  have HG := Aside0.mk hbg
  have HGL := Aside0.mk hgl
  have HP0 := Aside0.mk hP0
  have I0 : delInt.Inv a1 l0 l0 p (p + 1) := by
   refine ⟨rfl, by omega, hp, ?_, rfl⟩
   rw [delInt.take_succ hp, List.filter_append, e2]
   simp [e3]
  have HI0 := Aside0.mk I0
  have HP := Aside0.mk hp
  have ew : IntKind.i64.wrap ((p : Int) + 1) = ((p + 1 : Nat) : Int) := by exact (i64_w _).trans (by have := HL.out; unfold wrap64; omega)
  have hne : ((p : Int) == -1) = false := by rw [beq_eq_false_iff_ne]; omega
  clear ci e1 e2 e3 hbg hgl hgc hP0 I0 hp
  go_enter Try.func78, Try.ntmps78
  go_wp2_with fail
  refine hidx.mono ?_
  rintro e w1 ⟨rfl, hb⟩
  have HB := Aside0.mk hb
  clear hb hidx
  go_wp2
  go_loopg [5, 6, 7] (l0.length - (p + 1)) (fun kq v5 v6 v7 w' => ∃ x5 x6 : Int, v5 = .int .i64 x5 ∧ v6 = .int .i64 x6 ∧ Aside0 (∃ (i j : Nat) (cur : List Int), x5 = (i : Int) ∧ x6 = (j : Int) ∧ j + kq = l0.length + 0 ∧ delInt.Inv a1 l0 cur i j ∧ Kd.Q (Kd.int .i64) 3 w' w0.heap.size (fun k_ => P0_ k_ ∨ w.heap.size ≤ k_) (.slice (some ⟨g, o, none⟩) l0.length c0) cur) ∧ Aside0 (Below w0.heap.size w0 w') ∧ Aside0 (Kept w w' (fun k_ => P0_ k_)))
  case atStart =>
   exact ⟨(p : Int), ((p + 1 : Nat) : Int), rfl, rfl, ⟨p, p + 1, l0, rfl, rfl, by have := HP.out; omega, HI0.out, Kd.Q_mono (Kd.Q_below HQ.out HB.out) (fun _ h => Or.inl h)⟩, ⟨below_step HBW.out HB.out⟩, ⟨Kept.below (Kept.refl _ _) HB.out⟩⟩
  case round =>
   clear HI0 HQ HB HBW HP ew hne
   obtain ⟨x5, x6, rfl, rfl, HI, HB, HK⟩ := hrel
   obtain ⟨i, j, cur, rfl, rfl, hq, hi, hQ⟩ := HI.out
   clear HI
   have HI := Aside0.mk hi
   have HQ := Aside0.mk hQ
   have HJ := Aside0.mk hq
   clear hi hQ hq
   by_cases hlt : (j : Int) < (l0.length : Int)
   ·have hd : decide ((j : Int) < (l0.length : Int)) = true := decide_eq_true hlt
    have hn0 : (0 : Int) ≤ (j : Int) := Int.natCast_nonneg j
    obtain ⟨hx0, hf0⟩ := Kd.Q_cell (0 : Int) HQ.out (j : Int) hn0 hlt
    obtain ⟨y, hy⟩ : ∃ y, rd l0 (j : Int) = y := ⟨_, rfl⟩
    have hyc : rdOf (0 : Int) cur (j : Int) = y := (HI.out.read (Int.ofNat_lt.mp hlt)).trans hy
    rw [hyc] at hx0
    simp only [Int.toNat_natCast] at hx0 hf0
    have HY := Aside0.mk hy
    have HLT := Aside0.mk (Int.ofNat_lt.mp hlt)
    replace hn0 := eq_true hn0
    replace hlt := eq_true hlt
    clear hy hyc hf0
    by_cases c : y = a1
    ·have C := Aside0.mk c
     have hbq : (y == a1) = true := beq_iff_eq.mpr c
     clear c
     go_wp2_with fail
     rw [enters_ HF.out HN1.out HB1.out, Oper.upon_enter]
     refine (HCM.out y _ (blk_kept HX.out HK.out (fun h => HPB.out B h rfl))).mono ?_
     rintro e w' ⟨rfl, hb'⟩
     have HB' := Aside0.mk hb'
     clear hb'
     rw [hbq]
     go_wp2
     go_roundg (gk - 1)
     case measure => have := HJ.out; have := HLT.out; omega
     case rel =>
      exact ⟨(i : Int), _, rfl, rfl, ⟨i, j + 1, cur, rfl, wsucc_ (by have := HL.out; have := HLT.out; omega), by have := HJ.out; have := HLT.out; omega, HI.out.skip HLT.out (HY.out.trans C.out), Kd.Q_below HQ.out HB'.out⟩, ⟨below_step HB.out HB'.out⟩, ⟨Kept.below HK.out HB'.out⟩⟩
    ·have C := Aside0.mk c
     have hbq : (y == a1) = false := beq_eq_false_iff_ne.mpr c
     clear c
     go_wp2_with fail
     rw [enters_ HF.out HN1.out HB1.out, Oper.upon_enter]
     refine (HCM.out y _ (blk_kept HX.out HK.out (fun h => HPB.out B h rfl))).mono ?_
     rintro e w' ⟨rfl, hb'⟩
     have HB' := Aside0.mk hb'
     have HQ' := Aside0.mk (Kd.Q_below HQ.out hb')
     have hi0 : (0 : Int) ≤ (i : Int) := Int.natCast_nonneg i
     have hil : (i : Int) < (l0.length : Int) := by have := HI.out.lt; have := HLT.out; omega
     obtain ⟨hxi, hfi⟩ := Kd.Q_cell (0 : Int) HQ'.out (i : Int) hi0 hil
     simp only [Int.toNat_natCast] at hxi hfi
     have HS := Aside0.mk (by have h := Kd.Q_putg HQ'.out (i : Int) hi0 hil y; simp only [Int.toNat_natCast] at h; exact h)
     have HBS := Aside0.mk (below_set (j := o + i) (v := .int .i64 y) (below_step HB.out hb') HG.out)
     have HKS := Aside0.mk (Kept.setCell (p := ⟨g, o + i, none⟩) (Kept.below HK.out hb') (.inl HP0.out) (.int .i64 y))
     replace hi0 := eq_true hi0
     replace hil := eq_true hil
     clear hb'
     rw [hbq]
     go_wp2
     go_roundg (gk - 1)
     case measure => have := HJ.out; have := HLT.out; omega
     case rel =>
      have e := HI.out.put HLT.out (fun e => C.out (HY.out.symm.trans e))
      rw [HY.out] at e
      exact ⟨_, _, rfl, rfl, ⟨i + 1, j + 1, cur.set i y, wsucc_ (by have := HL.out; have := HLT.out; have := HI.out.lt; omega), wsucc_ (by have := HL.out; have := HLT.out; omega), by have := HJ.out; have := HLT.out; omega, e, HS.out.1⟩, ⟨HBS.out⟩, ⟨HKS.out⟩⟩
   ·have hd : decide ((j : Int) < (l0.length : Int)) = false := decide_eq_false hlt
    have hj : j = l0.length := by have := HI.out.le; omega
    subst hj
    have hil : i < l0.length := HI.out.lt
    have hcl : cur.length = l0.length := HI.out.len
    have hft : cur.take i = l0.filter (fun y => !(y == a1)) := by
     have := HI.out.front
     rwa [List.take_length] at this
    have hQt := Kd.Q_take HQ.out (m := i) (by omega)
    rw [hft] at hQt
    have HQT := Aside0.mk hQt
    have hc0 : i ≤ c0 := by have := HLC.out; omega
    have hli : (List.filter (fun y => !(y == a1)) l0).length = i := by rw [← hft, List.length_take]; omega
    obtain ⟨w2, hrun, hr2, hg2⟩ := Q_clear_run (P := Try.prog) (Kd.int .i64) w0.heap.size 23 0 3 (.int .i64 0) Try.underlying23 Try.zeroValue3 rfl (by decide) hQt (m := l0.length - i) (by omega) (by omega) (by omega) (c0 - i) (by decide)
    have HR2 := Aside0.mk hr2
    have HG2 := Aside0.mk hg2
    have b1 : (i : Int) ≤ (l0.length : Int) := by omega
    have b2 : (l0.length : Int) ≤ (c0 : Int) := by have := HLC.out; omega
    have b3 : (i : Int) ≤ (c0 : Int) := by omega
    have b4 : (0 : Int) ≤ (i : Int) := by omega
    have b5 : (c0 = i) = False := eq_false (by omega)
    have HLI := Aside0.mk hli
    change Sem.run _ (Builtin.clear_ #[23] 0 #[.slice (some ⟨g, o + i * 1, none⟩) (l0.length - i) (c0 - i)]) _ = _ at hrun
    rw [Nat.mul_one] at hrun
    clear hr2 hg2 hQt hft hcl hil hli hlt
    go_wp2
    go_ret
    exact ⟨_, rfl, HR2.out, HB.out.grown HG2.out HB.out.size (fun k hk => by injection hk with hk; subst hk; exact HG.out), Kept.of_grown HG2.out HK.out (fun k hk => by injection hk with hk; subst hk; exact .inl HP0.out)⟩
end Go.Proofs.Ytdeijmofaapgdaa.G

namespace Go.Proofs.Ytdeijmofaapgdaa.G
open Go.RowKit Go.Proofs.YtdeijmofaapgdaaW.PrintWords Go.Proofs.YtdeijmofaapgdaaW.PrintLast Go.Proofs.YtdeijmofaapgdaaW.PrintMore Go.Proofs.Ytdeijmofaapgdaa.Sh
attribute [local go_sem] max2_int min2_int max_two min_two max_three min_three max_four min_four
set_option linter.unusedVariables false
set_option linter.unusedSimpArgs false
open Go.Proofs.Ytdeijmofaapgdaa.Mm
theorem impl_Three_evictSmall.clo104 (B : Nat) (h : Int) : delInt.Clo 104 Try.f104 B h := by
 refine ⟨Try.func104, by kernel_rfl, by rfl, fun y W hb => ?_⟩
 have HB := Aside0.mk (Below.refl W.heap.size W)
 have hc : W.cell? ⟨B, 0, none⟩ = some (.int .i64 h) := (blk_cell hb 0).trans rfl
 clear hb
 go_enter Try.func104, Try.ntmps104
 go_wp2
 go_ret
 exact ⟨rfl, HB.out⟩
def impl_Three_evictSmall.l0 : Nat → Int → Int → List (S95) → List (S95) → List Int → Option (Int × Int × (List (S95)) × (List (S95)) × List Int × ByteArray × Bool)
 | 0, _, _, _, _, _ => none
 | k + 1, x604000, x604001, x604002, x604003, x604004 => if (x604002.length : Int) > 0 then (if 0 < (x604002.length : Int) then (if 1 ≤ (x604002.length : Int) then ((some (x604002.drop (1 : Int).toNat : List (S95))).bind fun y606 => (if ((rd_T95 x604002 0).f2) > 1 then (if x604003.length < 3518437208883 then (impl_Three_evictSmall.l0 k x604000 x604001 y606 (x604003 ++ [(⟨(rd_T95 x604002 0).f0, (rd_T95 x604002 0).f1, 0⟩ : S95)]) x604004) else (none)) else ((impl_Hash.f k ((rd_T95 x604002 0).f0)).bind fun t612 => ((slices_DeleteFunc_int_int.f x604004 t612).bind fun t614 => (if t614.length < 17592186044416 then ((some (t614 ++ [t612] : List Int)).bind fun y617 => ((impl_Three_ghosts.f x604000 x604001).bind fun t620 => (if (y617.length : Int) > t620 then (if 1 ≤ (y617.length : Int) then (some (x604000, x604001, y606, x604003, (y617.drop (1 : Int).toNat), (rd_T95 x604002 0).f0, true)) else (none)) else (some (x604000, x604001, y606, x604003, y617, (rd_T95 x604002 0).f0, true))))) else (none)))))) else (none)) else (none)) else (some (x604000, x604001, x604002, x604003, x604004, (⟨#[]⟩ : ByteArray), false))
def impl_Three_evictSmall.f (k : Nat) (a0_0 : Int) (a0_1 : Int) (l0_2 : List (S95)) (l0_3 : List (S95)) (l0_4 : List Int) : Option (Int × Int × (List (S95)) × (List (S95)) × List Int × ByteArray × Bool) := impl_Three_evictSmall.l0 k a0_0 a0_1 l0_2 l0_3 l0_4
theorem impl_Three_evictSmall.mono_l : ∀ k, (∀ y0 y1 y2 y3 y4, LeO (impl_Three_evictSmall.l0 k y0 y1 y2 y3 y4) (impl_Three_evictSmall.l0 (k + 1) y0 y1 y2 y3 y4))
 | 0 => fun _ _ _ _ _ r h => by simp [impl_Three_evictSmall.l0] at h
 | k + 1 => by
  have ih0 := impl_Three_evictSmall.mono_l k
  ·intro y0 y1 y2 y3 y4
   unfold impl_Three_evictSmall.l0
   repeat' first | (with_reducible first | exact ih0 _ _ _ _ _ | exact impl_Hash.mono _ _ | exact LeO.refl _ | exact LeO.none _ | refine LeO.ite ?_ ?_ | refine LeO.bind ?_ (fun _ => ?_)) | exact ih0 _ _ _ _ _ | exact impl_Hash.mono _ _ | exact LeO.none _ | refine LeO.ite ?_ ?_ | refine LeO.bind ?_ (fun _ => ?_)
theorem impl_Three_evictSmall.mono : ∀ a0 a1 a2 a3 a4 k, LeO (impl_Three_evictSmall.f k a0 a1 a2 a3 a4) (impl_Three_evictSmall.f (k + 1) a0 a1 a2 a3 a4) := by
 intro a0 a1 a2 a3 a4 k
 have ih0 := impl_Three_evictSmall.mono_l k
 unfold impl_Three_evictSmall.f
 repeat' first | (with_reducible first | exact ih0 _ _ _ _ _ | exact impl_Hash.mono _ _ | exact LeO.refl _ | exact LeO.none _ | refine LeO.ite ?_ ?_ | refine LeO.bind ?_ (fun _ => ?_)) | exact ih0 _ _ _ _ _ | exact impl_Hash.mono _ _ | exact LeO.none _ | refine LeO.ite ?_ ?_ | refine LeO.bind ?_ (fun _ => ?_)
def impl_Three_evictSmall.T6 : Bool × List (List Nat × List Nat) := (true, [([], []), ([], []), ([1], [1]), ([2], [2]), ([3], [3]), ([], []), ([5], [5]), ([4, 6], [4, 6]), ([0, 0, 1, 2, 3, 4, 5, 6, 7], [0]), ([8, 0, 1, 2, 3, 4, 5, 6, 7], [8]), ([9, 7, 7, 0, 1, 2, 3, 4, 5, 6, 7], [7, 9])])
def impl_Three_evictSmall.B6 : List Nat := [0, 0, 2, 6, 14, 0, 32, 126, 255, 511, 1023]
theorem impl_Three_evictSmall.tab6 : rtab .any (opsOf Try.f95 6) = impl_Three_evictSmall.T6 := by kernel_rfl
theorem impl_Three_evictSmall.bits6 : waitsOk impl_Three_evictSmall.T6.2 impl_Three_evictSmall.B6 = true := by kernel_rfl
def impl_Three_evictSmall.T8 : Bool × List (List Nat × List Nat) := (true, [([], []), ([], []), ([1], [1]), ([2], [2]), ([3], [3]), ([], []), ([4, 5], [4, 5]), ([], []), ([7], [7]), ([6, 8, 6], [6, 8]), ([0, 0, 1, 2, 3, 4, 5, 6, 7, 8, 9], [0]), ([10, 0, 1, 2, 3, 4, 5, 6, 7, 8, 9], [10]), ([11, 9, 9, 0, 1, 2, 3, 4, 5, 6, 7, 8, 9], [9, 11])])
def impl_Three_evictSmall.B8 : List Nat := [0, 0, 2, 6, 14, 0, 62, 0, 128, 510, 1023, 2047, 4095]
theorem impl_Three_evictSmall.tab8 : rtab .any (opsOf Try.f95 8) = impl_Three_evictSmall.T8 := by kernel_rfl
theorem impl_Three_evictSmall.bits8 : waitsOk impl_Three_evictSmall.T8.2 impl_Three_evictSmall.B8 = true := by kernel_rfl
def impl_Three_evictSmall.T9 : Bool × List (List Nat × List Nat) := (true, [([], []), ([0], [0]), ([1], [1]), ([2], [2]), ([3], [3]), ([], []), ([5], [5]), ([4, 6], [4, 6])])
def impl_Three_evictSmall.B9 : List Nat := [0, 1, 3, 7, 15, 0, 32, 127]
theorem impl_Three_evictSmall.tab9 : rtab .any (opsOf Try.f95 9) = impl_Three_evictSmall.T9 := by kernel_rfl
theorem impl_Three_evictSmall.bits9 : waitsOk impl_Three_evictSmall.T9.2 impl_Three_evictSmall.B9 = true := by kernel_rfl
set_option maxHeartbeats 8000000 in
set_option maxRecDepth 100000 in
theorem impl_Three_evictSmall.calls (k : Nat) (g : Nat) (a0_0 : Int) (a0_1 : Int) (u9000_ : Value) (l0_2 : List (S95)) (u9001_ : Value) (l0_3 : List (S95)) (u9002_ : Value) (l0_4 : List Int) (r1 : Int) (r2 : Int) (r3 : List (S95)) (r4 : List (S95)) (r5 : List Int) (r6 : ByteArray) (r7 : Bool) (w0 w : World) (F : List SP)  (hM : Mem w0 F w [row k95 95 u9000_ l0_2, row k95 95 u9001_ l0_3, row (Kd.int .i64) 3 u9002_ l0_4, box 32 g [.int .i64 a0_0, .int .i64 a0_1, u9000_, u9001_, u9002_]]) (h : impl_Three_evictSmall.f k a0_0 a0_1 l0_2 l0_3 l0_4 = some (r1, r2, r3, r4, r5, r6, r7)) :
  Calls Try.prog 95 #[.pointer (some ⟨g, 0, none⟩)] w fun e w' => ∃ v2_ v3_ v4_ : Value, e = .returned (.tuple #[.string r6, .bool r7]) ∧ Mem w0 F w' [row k95 95 v2_ r3, row k95 95 v3_ r4, row (Kd.int .i64) 3 v4_ r5, box 32 g [.int .i64 r1, .int .i64 r2, v2_, v3_, v4_]] := by
 have hu95 := Try.underlying95
 have HM := hM
 clear hM
 have H := h
 clear h
 unfold impl_Three_evictSmall.f at H
 go_enter Try.func95, Try.ntmps95
 have H' := Aside0.mk H
 clear H
 go_wp2
 go_loopg [] k (fun kq w' => ∃ (x604000_1 : Int) (x604001_1 : Int) (x604002_1 : List (S95)) (x604003_1 : List (S95)) (x604004_1 : List Int) (u604002 : Value) (u604003 : Value) (u604004 : Value), Aside0 (impl_Three_evictSmall.l0 kq x604000_1 x604001_1 x604002_1 x604003_1 x604004_1 = some (r1, r2, r3, r4, r5, r6, r7)) ∧ Aside0 (kq ≤ k) ∧ Mem w0 F w' [row k95 95 u604002 x604002_1, row k95 95 u604003 x604003_1, row (Kd.int .i64) 3 u604004 x604004_1, box 32 g [.int .i64 x604000_1, .int .i64 x604001_1, u604002, u604003, u604004]])
 case atStart => exact ⟨(a0_0), (a0_1), (l0_2), (l0_3), (l0_4), (u9000_), (u9001_), (u9002_), H', ⟨Nat.le_refl _⟩, (MD HM).pick [0, 1, 2, 3]⟩
 case round =>
  clear H' HM
  obtain ⟨x604000_1, x604001_1, x604002_1, x604003_1, x604004_1, u604002, u604003, u604004, HA, HK1, HM⟩ := hrel
  cases gk with
  | zero => exact absurd HA.out (by simp [impl_Three_evictSmall.l0])
  | succ k1 =>
   have H := HA.out
   clear HA
   simp only [impl_Three_evictSmall.l0] at H
   obtain ⟨hcz2_0, hcz2_1, hcz2_2, hcz2_3, hcz2_4, hfz2_0, hfz2_1, hfz2_2, hfz2_3, hfz2_4⟩ := bk5 (HM.bx 3 rfl)
   obtain ⟨Xo3, ko3, eo3⟩ := HM.rd 0 rfl
   subst eo3
   go_upto_if 11 with (fail)
   replace H := IT H; rcases H with ⟨c4, H⟩ | ⟨c4, H⟩
   ·replace c4 : (x604002_1.length : Int) > 0 := c4
    have c4b0 : decide (0 < (x604002_1.length : Int)) = true := decide_eq_true c4
    have c4b1 : decide (0 < x604002_1.length) = true := decide_eq_true (by omega)
    have c4b9 : decide (0 < x604002_1.length) = true := decide_eq_true (by omega)
    clear c4
    (first | rw [c4b0] | rw [c4b9] | (simp only [i64_w, i32_w]; rw [c4b0]) | skip)
    replace H := GD H; obtain ⟨c5, H⟩ := H
    replace c5 : 0 < (x604002_1.length : Int) := c5
    have c5b0 : decide (0 < (x604002_1.length : Int)) = true := decide_eq_true c5
    have c5b1 : decide (0 < x604002_1.length) = true := decide_eq_true (by omega)
    have c5b9 : decide (0 < x604002_1.length) = true := decide_eq_true (by omega)
    clear c5
    replace H := GD H; obtain ⟨c9, H⟩ := H
    have c9b0 := eq_true c9
    have c9b1 : decide (1 ≤ (x604002_1.length : Int)) = true := decide_eq_true c9
    clear c9
    replace H := BLt H; obtain ⟨y606, Ny606, H⟩ := H
    replace Ny606 := Aside0.mk Ny606
    have p604 : 0 ≤ (0 : Int) := (by omega)
    have q604 : (0 : Int) < (x604002_1.length : Int) := of_decide_eq_true AS
    obtain ⟨ad604, e604, hx604_0, hx604_1, hx604_2⟩ := at_T95 (HM.C 0 rfl).2.2 0 p604 q604
    cases e604
    have qi604 : (0 < x604002_1.length) = True := eq_true (by omega)
    (try rw [show ((0 : Int)).toNat = 0 from rfl] at hx604_0)
    (try rw [show 0 * 3 = 0 from rfl] at hx604_0)
    (try rw [Addr.add_zero'] at hx604_0)
    (try rw [show ((0 : Int)).toNat = 0 from rfl] at hx604_1)
    (try rw [show 0 * 3 = 0 from rfl] at hx604_1)
    (try rw [Addr.add_zero'] at hx604_1)
    (try rw [show ((0 : Int)).toNat = 0 from rfl] at hx604_2)
    (try rw [show 0 * 3 = 0 from rfl] at hx604_2)
    (try rw [Addr.add_zero'] at hx604_2)
    replace p604 := eq_true p604
    replace q604 := eq_true q604
    go_upto_if 28 with (first | ((with_reducible refine gate_dst (N := 4) rfl ?_); refine pB 4 95 [.string (⟨#[]⟩ : ByteArray), .string (⟨#[]⟩ : ByteArray), .int .i64 0] HM rfl ?_; clear HM; intro gb605 w6 HM) | ((with_reducible refine gate_st (p := 4) rfl ?_); refine pS 4 4 0 [.string ((rd_T95 x604002_1 0).f0), .string ((rd_T95 x604002_1 0).f1), .int .i64 ((rd_T95 x604002_1 0).f2)] HM rfl rfl ?_; clear HM; intro w7 HM; obtain ⟨hcz8_0, hcz8_1, hcz8_2, hcz8_3, hcz8_4, hfz8_0, hfz8_1, hfz8_2, hfz8_3, hfz8_4⟩ := bk5 (HM.bx 3 rfl)) | ((with_reducible refine gate_sl (t := 30) rfl ?_); refine pD 0 30 95 k95 _ _ 1 x604002_1 (some ad604) ko3 HM rfl Try.underlying30 info95 rfl (fun _ _ h => h) (by omega) (by have h_ : (1 : Int) ≤ ((x604002_1.length : Int) : Int) := of_decide_eq_true AS; first | exact h_ | (have e_ := (HM.C 0 rfl).1; omega)) ?_; clear HM; intro v607 HM; replace HM := HM.nmQ 0 rfl Ny606.out; obtain ⟨Xo10, ko10, eo10⟩ := HM.rd 0 rfl; subst eo10) | ((with_reducible refine gate_st (p := 25) rfl ?_); refine pS 3 25 2 [.slice Xo10 y606.length ko10] HM rfl rfl ?_; clear HM; intro w11 HM; obtain ⟨hcz12_0, hcz12_1, hcz12_2, hfz12_0, hfz12_1, hfz12_2⟩ := bk3 (HM.bx 4 rfl)))
    replace HM := nzM HM
    replace H := IT H; rcases H with ⟨c13, H⟩ | ⟨c13, H⟩
    ·have c13b0 : decide (1 < ((rd_T95 x604002_1 0).f2)) = true := decide_eq_true c13
     clear c13
     (first | rw [c13b0] | (simp only [i64_w, i32_w]; rw [c13b0]) | skip)
     try go_wp2_with (first | ((with_reducible refine gate_st (p := 29) rfl ?_); refine pS 4 29 2 [.int .i64 0] HM rfl rfl ?_; clear HM; intro w14 HM))
     replace H := GD H; obtain ⟨c15, H⟩ := H
     have LMc15 := Aside0.mk c15
     clear c15
     obtain ⟨Xo24, ko24, eo24⟩ := HM.rd 1 rfl
     subst eo24
     refine RGN 11 [0, 1, 2, 3, 4, 5, 6, 7, 8, 9, 10] (fun a0 b a w' => ∃ (v19 : Value) (v610 : Value), a = putSel a0 b [(0, 30, .pointer (some ⟨g, 0, none⟩)), (1, 31, .pointer (some ⟨g, 0, none⟩)), (2, 32, .pointer (some ⟨g, 0, none⟩)), (3, 33, .pointer (some ⟨g, 3, none⟩)), (4, 34, .slice Xo24 x604003_1.length ko24), (5, 35, .agg #[.string ((rd_T95 x604002_1 0).f0), .string ((rd_T95 x604002_1 0).f1), .int .i64 0]), (6, 36, v19), (7, 37, v610), (8, 38, .pointer (some ⟨g, 0, none⟩)), (9, 39, .pointer (some ⟨g, 3, none⟩))] ∧ Mem w0 F w' [row k95 95 (.slice Xo10 y606.length ko10) y606, sel (b 7) (row k95 95 v610 (x604003_1 ++ [(⟨(rd_T95 x604002_1 0).f0, (rd_T95 x604002_1 0).f1, 0⟩ : S95)])) (row k95 95 (.slice Xo24 x604003_1.length ko24) x604003_1), row (Kd.int .i64) 3 u604004 x604004_1, sel (b 10) (box 32 g [.int .i64 x604000_1, .int .i64 x604001_1, .slice Xo10 y606.length ko10, v610, u604004]) (box 32 g [.int .i64 x604000_1, .int .i64 x604001_1, .slice Xo10 y606.length ko10, .slice Xo24 x604003_1.length ko24, u604004]), box 95 gb605 [.string ((rd_T95 x604002_1 0).f0), .string ((rd_T95 x604002_1 0).f1), .int .i64 0], sel (b 6) (rowR k95 95 v19 [(⟨(rd_T95 x604002_1 0).f0, (rd_T95 x604002_1 0).f1, 0⟩ : S95)]) (emp)]) impl_Three_evictSmall.tab6 impl_Three_evictSmall.bits6 ?_ ?_ ?_
     ·exact ⟨.bool false, .bool false, PS0' rfl _, (HM.drew.ems 1).pick [0, 1, 2, 3, 4, 5]⟩
     ·clear HM
      refine steps_cons ?_ ?_
      ·rintro b a w ⟨v19, v610, ha, HM⟩ hb hon hoff
       refine ⟨_, rfl, fun K hK => ?_⟩
       have e0 := POF ha 0
       replace ha := Aside0.mk ha
       exact VL (.pointer (some ⟨g, 0, none⟩)) (hK.out _ _ ⟨v19, v610, PUT ha 0 hb, HM⟩)
      refine steps_cons ?_ ?_
      ·rintro b a w ⟨v19, v610, ha, HM⟩ hb hon hoff
       refine ⟨_, rfl, fun K hK => ?_⟩
       have e0 := POF ha 0
       replace ha := Aside0.mk ha
       exact VL (.pointer (some ⟨g, 0, none⟩)) (hK.out _ _ ⟨v19, v610, PUT ha 1 hb, HM⟩)
      refine steps_cons ?_ ?_
      ·rintro b a w ⟨v19, v610, ha, HM⟩ hb hon hoff
       refine ⟨_, rfl, fun K hK => ?_⟩
       have e31 := PON ha 1 (hon 1 (by kernel_rfl))
       replace ha := Aside0.mk ha
       exact VL (.pointer (some ⟨g, 0, none⟩)) (hK.out _ _ ⟨v19, v610, PUT ha 2 hb, HM⟩)
      refine steps_cons ?_ ?_
      ·rintro b a w ⟨v19, v610, ha, HM⟩ hb hon hoff
       refine ⟨_, rfl, fun K hK => ?_⟩
       have e32 := PON ha 2 (hon 2 (by kernel_rfl))
       replace ha := Aside0.mk ha
       exact VL (.pointer (some ⟨g, 3, none⟩)) (hK.out _ _ ⟨v19, v610, PUT ha 3 hb, HM⟩)
      refine steps_cons ?_ ?_
      ·rintro b a w ⟨v19, v610, ha, HM⟩ hb hon hoff
       refine ⟨_, rfl, fun K hK => ?_⟩
       have HZ := HM
       replace HM := HM.sF 3 rfl (hoff 10 (by kernel_rfl))
       obtain ⟨hcz25_0, hcz25_1, hcz25_2, hcz25_3, hcz25_4, hfz25_0, hfz25_1, hfz25_2, hfz25_3, hfz25_4⟩ := bk5 (HM.bx 3 rfl)
       have e33 := PON ha 3 (hon 3 (by kernel_rfl))
       replace ha := Aside0.mk ha
       exact VL (.slice Xo24 x604003_1.length ko24) (hK.out _ _ ⟨v19, v610, PUT ha 4 hb, HZ⟩)
      refine steps_cons ?_ ?_
      ·rintro b a w ⟨v19, v610, ha, HM⟩ hb hon hoff
       refine ⟨_, rfl, fun K hK => ?_⟩
       obtain ⟨hcz26_0, hcz26_1, hcz26_2, hfz26_0, hfz26_1, hfz26_2⟩ := bk3 (HM.bx 4 rfl)
       have e4 := POF ha 4
       replace ha := Aside0.mk ha
       exact VL (.agg #[.string ((rd_T95 x604002_1 0).f0), .string ((rd_T95 x604002_1 0).f1), .int .i64 0]) (hK.out _ _ ⟨v19, v610, PUT ha 5 hb, HM⟩)
      refine steps_cons ?_ ?_
      ·rintro b a w ⟨v19, v610, ha, HM⟩ hb hon hoff
       refine ⟨_, rfl, fun K hK => ?_⟩
       have e35 := PON ha 5 (hon 5 (by kernel_rfl))
       replace ha := Aside0.mk ha
       refine ST (eL 36 k95 95 [(⟨(rd_T95 x604002_1 0).f0, (rd_T95 x604002_1 0).f1, 0⟩ : S95)] [.string ((rd_T95 x604002_1 0).f0), .string ((rd_T95 x604002_1 0).f1), .int .i64 0] (Reps.c3 (show Kd.M k95 _ _ _ (⟨(rd_T95 x604002_1 0).f0, (rd_T95 x604002_1 0).f1, 0⟩ : S95) [.string ((rd_T95 x604002_1 0).f0), .string ((rd_T95 x604002_1 0).f1), .int .i64 0] from (k95_mkM _ _ _ (⟨(rd_T95 x604002_1 0).f0, (rd_T95 x604002_1 0).f1, 0⟩ : S95))) (Reps.none _ _)) HM rfl ?_)
       clear HM
       intro v19 w27 HM
       exact hK.out _ _ ⟨v19, v610, PUT ha 6 hb, (HM).pick [0, 1, 2, 3, 4, 6]⟩
      refine steps_cons ?_ ?_
      ·rintro b a w ⟨v19, v610, ha, HM⟩ hb hon hoff
       refine ⟨_, rfl, fun K hK => ?_⟩
       replace HM := HM.sF 1 rfl hb
       replace HM := HM.sT 5 rfl (hon 6 (by kernel_rfl))
       obtain ⟨Xo28, ko28, eo28⟩ := HM.rdR 5 rfl
       subst eo28
       have e34 := PON ha 4 (hon 4 (by kernel_rfl))
       have e36 := PON ha 6 (hon 6 (by kernel_rfl))
       replace ha := Aside0.mk ha
       refine ST (eAq 1 (.tmp 34) (.tmp 36) 30 95 k95 (.slice Xo24 x604003_1.length ko24) x604003_1 [(⟨(rd_T95 x604002_1 0).f0, (rd_T95 x604002_1 0).f1, 0⟩ : S95)] Xo28 ([(⟨(rd_T95 x604002_1 0).f0, (rd_T95 x604002_1 0).f1, 0⟩ : S95)].length) ko28 HM rfl Try.underlying30 info95 rfl (HM.CR 5 rfl).2.2 (by have h_ := LMc15.out; simp only [List.length_singleton]; omega) (by simp) ?_ (ops := #[]) (hw := by rfl) (hs := (eval_of e34)) (hx := (eval_of e36)))
       clear HM
       intro v610 w29 HM
       exact hK.out _ _ ⟨.slice Xo28 [(⟨(rd_T95 x604002_1 0).f0, (rd_T95 x604002_1 0).f1, 0⟩ : S95)].length ko28, v610, PUT ha 7 hb, (((HM.sF 3 rfl (hoff 10 (by kernel_rfl))).iF 3 rfl (hoff 10 (by kernel_rfl))).iT 5 rfl (hon 6 (by kernel_rfl))).pick [0, 1, 2, 3, 4, 5]⟩
      refine steps_cons ?_ ?_
      ·rintro b a w ⟨v19, v610, ha, HM⟩ hb hon hoff
       refine ⟨_, rfl, fun K hK => ?_⟩
       have e30 := PON ha 0 (hon 0 (by kernel_rfl))
       replace ha := Aside0.mk ha
       exact VL (.pointer (some ⟨g, 0, none⟩)) (hK.out _ _ ⟨v19, v610, PUT ha 8 hb, HM⟩)
      refine steps_cons ?_ ?_
      ·rintro b a w ⟨v19, v610, ha, HM⟩ hb hon hoff
       refine ⟨_, rfl, fun K hK => ?_⟩
       have e38 := PON ha 8 (hon 8 (by kernel_rfl))
       replace ha := Aside0.mk ha
       exact VL (.pointer (some ⟨g, 3, none⟩)) (hK.out _ _ ⟨v19, v610, PUT ha 9 hb, HM⟩)
      refine steps_cons ?_ ?_
      ·rintro b a w ⟨v19, v610, ha, HM⟩ hb hon hoff
       refine ⟨_, rfl, fun K hK => ?_⟩
       replace HM := HM.sT 1 rfl (hon 7 (by kernel_rfl))
       replace HM := HM.sF 3 rfl hb
       obtain ⟨Xo30, ko30, eo30⟩ := HM.rd 1 rfl
       subst eo30
       have e39 := PON ha 9 (hon 9 (by kernel_rfl))
       have e37 := PON ha 7 (hon 7 (by kernel_rfl))
       replace ha := Aside0.mk ha
       refine ST (eS 3 39 3 [.slice Xo30 (x604003_1 ++ [(⟨(rd_T95 x604002_1 0).f0, (rd_T95 x604002_1 0).f1, 0⟩ : S95)]).length ko30] HM rfl rfl ?_ (hp := (eval_of e39)) (hx := (by rw [eval_of e37]; rfl)))
       clear HM
       intro w31 HM
       exact hK.out _ _ ⟨v19, .slice Xo30 (x604003_1 ++ [(⟨(rd_T95 x604002_1 0).f0, (rd_T95 x604002_1 0).f1, 0⟩ : S95)]).length ko30, PUS ha, (HM.iT 1 rfl (hon 7 (by kernel_rfl))).pick [0, 1, 2, 3, 4, 5]⟩
      exact steps_nil
     rintro _ w32 ⟨v19, v610, rfl, HM⟩
     replace HM := HM.sT 1 rfl rfl
     replace HM := HM.sT 3 rfl rfl
     replace HM := HM.sT 5 rfl rfl
     simp only [putSel, if_true, Act.put, List.setIfInBounds_toArray, List.set_cons_zero, List.set_cons_succ, gt_iff_lt, ge_iff_le]
     have H' := Aside0.mk H
     clear H
     go_wp2
     go_roundg k1
     case measure => have := HK1.out; omega
     case rel => exact ⟨(x604000_1), (x604001_1), (y606), ((x604003_1 ++ [(⟨(rd_T95 x604002_1 0).f0, (rd_T95 x604002_1 0).f1, 0⟩ : S95)])), (x604004_1), (.slice Xo10 y606.length ko10), (v610), (u604004), H', ⟨by have := HK1.out; omega⟩, (MD HM).pick [0, 1, 2, 3]⟩
    ·have c13b0 : decide (1 < ((rd_T95 x604002_1 0).f2)) = false := decide_eq_false c13
     clear c13
     (first | rw [c13b0] | (simp only [i64_w, i32_w]; rw [c13b0]) | skip)
     replace H := BN H; obtain ⟨t612, A33, H⟩ := H
     try go_wp2_with (first | ((with_reducible refine gate_callee (f := 77) rfl ?_); refine pC (some 42) rfl #[.string ((rd_T95 x604002_1 0).f0)] rfl Try.func77 (impl_Hash.calls k1 ((rd_T95 x604002_1 0).f0) t612 _ A33.out) ?_; rintro e w34 ⟨rfl, hd⟩; refine ⟨_, rfl, ?_⟩; replace HM := HM.drawn hd; clear hd) | ((with_reducible refine gate_dst (N := 5) rfl ?_); refine pB 5 3 [.int .i64 0] HM rfl ?_; clear HM; intro gb613 w35 HM) | ((with_reducible refine gate_st (p := 5) rfl ?_); refine pS 5 5 0 [.int .i64 t612] HM rfl rfl ?_; clear HM; intro w36 HM))
     replace H := BN H; obtain ⟨t614, A37, H⟩ := H
     replace H := GD H; obtain ⟨c38, H⟩ := H
     have LMc38 := Aside0.mk c38
     clear c38
     replace H := BLt H; obtain ⟨y617, Ny617, H⟩ := H
     replace Ny617 := Aside0.mk Ny617
     obtain ⟨Xo48, ko48, eo48⟩ := HM.rd 2 rfl
     subst eo48
     refine RGN 13 [0, 1, 2, 3, 4, 5, 6, 7, 8, 9, 10, 11, 12] (fun a0 b a w' => ∃ (v615 : Value) (v43 : Value) (v618 : Value), a = putSel a0 b [(0, 43, .pointer (some ⟨g, 0, none⟩)), (1, 44, .pointer (some ⟨g, 0, none⟩)), (2, 45, .pointer (some ⟨g, 0, none⟩)), (3, 46, .pointer (some ⟨g, 4, none⟩)), (4, 47, .slice Xo48 x604004_1.length ko48), (5, 48, .func (.func 104) #[] #[.pointer (some ⟨gb613, 0, none⟩)]), (6, 49, v615), (7, 50, .int .i64 t612), (8, 51, v43), (9, 52, v618), (10, 53, .pointer (some ⟨g, 0, none⟩)), (11, 54, .pointer (some ⟨g, 4, none⟩))] ∧ Mem w0 F w' [row k95 95 (.slice Xo10 y606.length ko10) y606, row k95 95 u604003 x604003_1, sel (b 9) (row (Kd.int .i64) 3 v618 y617) (sel (b 6) (row (Kd.int .i64) 3 v615 t614) (row (Kd.int .i64) 3 (.slice Xo48 x604004_1.length ko48) x604004_1)), sel (b 12) (box 32 g [.int .i64 x604000_1, .int .i64 x604001_1, .slice Xo10 y606.length ko10, u604003, v618]) (box 32 g [.int .i64 x604000_1, .int .i64 x604001_1, .slice Xo10 y606.length ko10, u604003, .slice Xo48 x604004_1.length ko48]), box 95 gb605 [.string ((rd_T95 x604002_1 0).f0), .string ((rd_T95 x604002_1 0).f1), .int .i64 ((rd_T95 x604002_1 0).f2)], box 3 gb613 [.int .i64 t612], sel (b 8) (rowR (Kd.int .i64) 3 v43 [t612]) (emp)]) impl_Three_evictSmall.tab8 impl_Three_evictSmall.bits8 ?_ ?_ ?_
     ·exact ⟨.bool false, .bool false, .bool false, PS0' rfl _, (HM.drew.ems 1).pick [0, 1, 2, 3, 4, 5, 6]⟩
     ·clear HM
      refine steps_cons ?_ ?_
      ·rintro b a w ⟨v615, v43, v618, ha, HM⟩ hb hon hoff
       refine ⟨_, rfl, fun K hK => ?_⟩
       have e0 := POF ha 0
       replace ha := Aside0.mk ha
       exact VL (.pointer (some ⟨g, 0, none⟩)) (hK.out _ _ ⟨v615, v43, v618, PUT ha 0 hb, HM⟩)
      refine steps_cons ?_ ?_
      ·rintro b a w ⟨v615, v43, v618, ha, HM⟩ hb hon hoff
       refine ⟨_, rfl, fun K hK => ?_⟩
       have e0 := POF ha 0
       replace ha := Aside0.mk ha
       exact VL (.pointer (some ⟨g, 0, none⟩)) (hK.out _ _ ⟨v615, v43, v618, PUT ha 1 hb, HM⟩)
      refine steps_cons ?_ ?_
      ·rintro b a w ⟨v615, v43, v618, ha, HM⟩ hb hon hoff
       refine ⟨_, rfl, fun K hK => ?_⟩
       have e44 := PON ha 1 (hon 1 (by kernel_rfl))
       replace ha := Aside0.mk ha
       exact VL (.pointer (some ⟨g, 0, none⟩)) (hK.out _ _ ⟨v615, v43, v618, PUT ha 2 hb, HM⟩)
      refine steps_cons ?_ ?_
      ·rintro b a w ⟨v615, v43, v618, ha, HM⟩ hb hon hoff
       refine ⟨_, rfl, fun K hK => ?_⟩
       have e45 := PON ha 2 (hon 2 (by kernel_rfl))
       replace ha := Aside0.mk ha
       exact VL (.pointer (some ⟨g, 4, none⟩)) (hK.out _ _ ⟨v615, v43, v618, PUT ha 3 hb, HM⟩)
      refine steps_cons ?_ ?_
      ·rintro b a w ⟨v615, v43, v618, ha, HM⟩ hb hon hoff
       refine ⟨_, rfl, fun K hK => ?_⟩
       have HZ := HM
       replace HM := HM.sF 3 rfl (hoff 12 (by kernel_rfl))
       obtain ⟨hcz49_0, hcz49_1, hcz49_2, hcz49_3, hcz49_4, hfz49_0, hfz49_1, hfz49_2, hfz49_3, hfz49_4⟩ := bk5 (HM.bx 3 rfl)
       have e46 := PON ha 3 (hon 3 (by kernel_rfl))
       replace ha := Aside0.mk ha
       exact VL (.slice Xo48 x604004_1.length ko48) (hK.out _ _ ⟨v615, v43, v618, PUT ha 4 hb, HZ⟩)
      refine steps_cons ?_ ?_
      ·rintro b a w ⟨v615, v43, v618, ha, HM⟩ hb hon hoff
       refine ⟨_, rfl, fun K hK => ?_⟩
       have e5 := POF ha 5
       replace ha := Aside0.mk ha
       exact VL (.func (.func 104) #[] #[.pointer (some ⟨gb613, 0, none⟩)]) (hK.out _ _ ⟨v615, v43, v618, PUT ha 5 hb, HM⟩)
      refine steps_cons ?_ ?_
      ·rintro b a w ⟨v615, v43, v618, ha, HM⟩ hb hon hoff
       refine ⟨_, rfl, fun K hK => ?_⟩
       replace HM := (HM.sF 2 rfl (hoff 9 (by kernel_rfl))).sF 2 rfl hb
       obtain ⟨P_, hq_, hn_, fin_⟩ := HM.man 2 5 rfl rfl
       have e47 := PON ha 4 (hon 4 (by kernel_rfl))
       have e48 := PON ha 5 (hon 5 (by kernel_rfl))
       replace ha := Aside0.mk ha
       refine ST (eC (some 49) rfl #[.slice Xo48 x604004_1.length ko48, .func (.func 104) #[] #[.pointer (some ⟨gb613, 0, none⟩)]] rfl Try.func78 (slices_DeleteFunc_int_int.calls P_ (.slice Xo48 x604004_1.length ko48) x604004_1 104 Try.f104 gb613 t612 t614 (bare _) _ (bare_below _) hq_ (impl_Three_evictSmall.clo104 _ _) (HM.bx 5 rfl) hn_ A37.out) ?_ (hargs := by (simp only [List.map_toArray, List.map_cons, List.map_nil, evc, eval_of e47, eval_of e48]) <;> rfl))
       rintro e w50 ⟨v615, rfl, hQ_, hB_, hK_⟩
       refine ⟨_, rfl, ?_⟩
       replace HM := fin_ _ _ _ hQ_ hB_ hK_
       clear hQ_ hB_ hK_ hq_ hn_ fin_ P_
       exact hK.out _ _ ⟨v615, v43, v618, PUT ha 6 hb, (HM.iF 2 rfl (hoff 9 (by kernel_rfl))).pick [0, 1, 2, 3, 4, 5, 6]⟩
      refine steps_cons ?_ ?_
      ·rintro b a w ⟨v615, v43, v618, ha, HM⟩ hb hon hoff
       refine ⟨_, rfl, fun K hK => ?_⟩
       obtain ⟨hcz51_0, hfz51_0⟩ := bk1 (HM.bx 5 rfl)
       have e5 := POF ha 5
       replace ha := Aside0.mk ha
       exact VL (.int .i64 t612) (hK.out _ _ ⟨v615, v43, v618, PUT ha 7 hb, HM⟩)
      refine steps_cons ?_ ?_
      ·rintro b a w ⟨v615, v43, v618, ha, HM⟩ hb hon hoff
       refine ⟨_, rfl, fun K hK => ?_⟩
       have e50 := PON ha 7 (hon 7 (by kernel_rfl))
       replace ha := Aside0.mk ha
       refine ST (eL 51 (Kd.int .i64) 3 [t612] [.int .i64 t612] (Reps.one (show Kd.M (Kd.int .i64) _ _ _ t612 [.int .i64 t612] from rfl) (Reps.none _ _)) HM rfl ?_)
       clear HM
       intro v43 w52 HM
       exact hK.out _ _ ⟨v615, v43, v618, PUT ha 8 hb, (HM).pick [0, 1, 2, 3, 4, 5, 7]⟩
      refine steps_cons ?_ ?_
      ·rintro b a w ⟨v615, v43, v618, ha, HM⟩ hb hon hoff
       refine ⟨_, rfl, fun K hK => ?_⟩
       replace HM := (HM.sF 2 rfl hb).sT 2 rfl (hon 6 (by kernel_rfl))
       replace HM := HM.sT 6 rfl (hon 8 (by kernel_rfl))
       obtain ⟨Xo53, ko53, eo53⟩ := HM.rdR 6 rfl
       subst eo53
       have e49 := PON ha 6 (hon 6 (by kernel_rfl))
       have e51 := PON ha 8 (hon 8 (by kernel_rfl))
       replace ha := Aside0.mk ha
       refine ST (eAq 2 (.tmp 49) (.tmp 51) 23 3 (Kd.int .i64) v615 t614 [t612] Xo53 ([t612].length) ko53 HM rfl Try.underlying23 info3 rfl (HM.CR 6 rfl).2.2 (by have h_ := LMc38.out; simp only [List.length_singleton]; omega) (by simp) ?_ (ops := #[]) (hw := by rfl) (hs := (eval_of e49)) (hx := (eval_of e51)))
       clear HM
       intro v618 w54 HM
       replace HM := HM.nmQ 2 rfl Ny617.out
       exact hK.out _ _ ⟨v615, .slice Xo53 [t612].length ko53, v618, PUT ha 9 hb, (((HM.sF 3 rfl (hoff 12 (by kernel_rfl))).iF 3 rfl (hoff 12 (by kernel_rfl))).iT 6 rfl (hon 8 (by kernel_rfl))).pick [0, 1, 2, 3, 4, 5, 6]⟩
      refine steps_cons ?_ ?_
      ·rintro b a w ⟨v615, v43, v618, ha, HM⟩ hb hon hoff
       refine ⟨_, rfl, fun K hK => ?_⟩
       have e43 := PON ha 0 (hon 0 (by kernel_rfl))
       replace ha := Aside0.mk ha
       exact VL (.pointer (some ⟨g, 0, none⟩)) (hK.out _ _ ⟨v615, v43, v618, PUT ha 10 hb, HM⟩)
      refine steps_cons ?_ ?_
      ·rintro b a w ⟨v615, v43, v618, ha, HM⟩ hb hon hoff
       refine ⟨_, rfl, fun K hK => ?_⟩
       have e53 := PON ha 10 (hon 10 (by kernel_rfl))
       replace ha := Aside0.mk ha
       exact VL (.pointer (some ⟨g, 4, none⟩)) (hK.out _ _ ⟨v615, v43, v618, PUT ha 11 hb, HM⟩)
      refine steps_cons ?_ ?_
      ·rintro b a w ⟨v615, v43, v618, ha, HM⟩ hb hon hoff
       refine ⟨_, rfl, fun K hK => ?_⟩
       replace HM := HM.sT 2 rfl (hon 9 (by kernel_rfl))
       replace HM := HM.sF 3 rfl hb
       obtain ⟨Xo55, ko55, eo55⟩ := HM.rd 2 rfl
       subst eo55
       have e54 := PON ha 11 (hon 11 (by kernel_rfl))
       have e52 := PON ha 9 (hon 9 (by kernel_rfl))
       replace ha := Aside0.mk ha
       refine ST (eS 3 54 4 [.slice Xo55 y617.length ko55] HM rfl rfl ?_ (hp := (eval_of e54)) (hx := (by rw [eval_of e52]; rfl)))
       clear HM
       intro w56 HM
       exact hK.out _ _ ⟨v615, v43, .slice Xo55 y617.length ko55, PUS ha, (HM.iT 2 rfl (hon 9 (by kernel_rfl))).pick [0, 1, 2, 3, 4, 5, 6]⟩
      exact steps_nil
     rintro _ w57 ⟨v615, v43, v618, rfl, HM⟩
     replace HM := HM.sT 2 rfl rfl
     replace HM := HM.sT 3 rfl rfl
     replace HM := HM.sT 6 rfl rfl
     simp only [putSel, if_true, Act.put, List.setIfInBounds_toArray, List.set_cons_zero, List.set_cons_succ, gt_iff_lt, ge_iff_le]
     try go_wp2
     replace H := BN H; obtain ⟨t620, A58, H⟩ := H
     obtain ⟨Xo62, ko62, eo62⟩ := HM.rd 2 rfl
     subst eo62
     refine RGN 8 [0, 1, 2, 3, 4, 5, 6, 7] (fun a0 b a w' => a = putSel a0 b [(0, 55, .pointer (some ⟨g, 0, none⟩)), (1, 56, .pointer (some ⟨g, 0, none⟩)), (2, 57, .pointer (some ⟨g, 4, none⟩)), (3, 58, .slice Xo62 y617.length ko62), (4, 59, .int .i64 (y617.length : Int)), (5, 60, .pointer (some ⟨g, 0, none⟩)), (6, 61, .int .i64 t620), (7, 62, .bool (decide ((y617.length : Int) > t620)))] ∧ Mem w0 F w' [row k95 95 (.slice Xo10 y606.length ko10) y606, row k95 95 u604003 x604003_1, row (Kd.int .i64) 3 (.slice Xo62 y617.length ko62) y617, box 32 g [.int .i64 x604000_1, .int .i64 x604001_1, .slice Xo10 y606.length ko10, u604003, .slice Xo62 y617.length ko62], box 95 gb605 [.string ((rd_T95 x604002_1 0).f0), .string ((rd_T95 x604002_1 0).f1), .int .i64 ((rd_T95 x604002_1 0).f2)], box 3 gb613 [.int .i64 t612], rowR (Kd.int .i64) 3 v43 [t612]]) impl_Three_evictSmall.tab9 impl_Three_evictSmall.bits9 ?_ ?_ ?_
     ·exact ⟨PS0' rfl _, (HM.drew).pick [0, 1, 2, 3, 4, 5, 6]⟩
     ·clear HM
      refine steps_cons ?_ ?_
      ·rintro b a w ⟨ha, HM⟩ hb hon hoff
       refine ⟨_, rfl, fun K hK => ?_⟩
       have e0 := POF ha 0
       replace ha := Aside0.mk ha
       exact VL (.pointer (some ⟨g, 0, none⟩)) (hK.out _ _ ⟨PUT ha 0 hb, HM⟩)
      refine steps_cons ?_ ?_
      ·rintro b a w ⟨ha, HM⟩ hb hon hoff
       refine ⟨_, rfl, fun K hK => ?_⟩
       have e55 := PON ha 0 (hon 0 (by kernel_rfl))
       replace ha := Aside0.mk ha
       exact VL (.pointer (some ⟨g, 0, none⟩)) (hK.out _ _ ⟨PUT ha 1 hb, HM⟩)
      refine steps_cons ?_ ?_
      ·rintro b a w ⟨ha, HM⟩ hb hon hoff
       refine ⟨_, rfl, fun K hK => ?_⟩
       have e56 := PON ha 1 (hon 1 (by kernel_rfl))
       replace ha := Aside0.mk ha
       exact VL (.pointer (some ⟨g, 4, none⟩)) (hK.out _ _ ⟨PUT ha 2 hb, HM⟩)
      refine steps_cons ?_ ?_
      ·rintro b a w ⟨ha, HM⟩ hb hon hoff
       refine ⟨_, rfl, fun K hK => ?_⟩
       obtain ⟨hcz63_0, hcz63_1, hcz63_2, hcz63_3, hcz63_4, hfz63_0, hfz63_1, hfz63_2, hfz63_3, hfz63_4⟩ := bk5 (HM.bx 3 rfl)
       have e57 := PON ha 2 (hon 2 (by kernel_rfl))
       replace ha := Aside0.mk ha
       exact VL (.slice Xo62 y617.length ko62) (hK.out _ _ ⟨PUT ha 3 hb, HM⟩)
      refine steps_cons ?_ ?_
      ·rintro b a w ⟨ha, HM⟩ hb hon hoff
       refine ⟨_, rfl, fun K hK => ?_⟩
       have e58 := PON ha 3 (hon 3 (by kernel_rfl))
       replace ha := Aside0.mk ha
       exact VL (.int .i64 (y617.length : Int)) (hK.out _ _ ⟨PUT ha 4 hb, HM⟩)
      refine steps_cons ?_ ?_
      ·rintro b a w ⟨ha, HM⟩ hb hon hoff
       refine ⟨_, rfl, fun K hK => ?_⟩
       have e0 := POF ha 0
       replace ha := Aside0.mk ha
       exact VL (.pointer (some ⟨g, 0, none⟩)) (hK.out _ _ ⟨PUT ha 5 hb, HM⟩)
      refine steps_cons ?_ ?_
      ·rintro b a w ⟨ha, HM⟩ hb hon hoff
       refine ⟨_, rfl, fun K hK => ?_⟩
       have e60 := PON ha 5 (hon 5 (by kernel_rfl))
       replace ha := Aside0.mk ha
       refine ST (eC (some 61) rfl #[.pointer (some ⟨g, 0, none⟩)] rfl Try.func56 (impl_Three_ghosts.calls g x604000_1 x604001_1 _ _ _ t620 _ (HM.bx 3 rfl) A58.out) ?_ (hargs := by (simp only [List.map_toArray, List.map_cons, List.map_nil, evc, eval_of e60]) <;> rfl))
       rintro e w64 ⟨rfl, nd_, rfl⟩
       refine ⟨_, rfl, ?_⟩
       replace HM := HM.drewN nd_
       exact hK.out _ _ ⟨PUT ha 6 hb, (HM).pick [0, 1, 2, 3, 4, 5, 6]⟩
      refine steps_cons ?_ ?_
      ·rintro b a w ⟨ha, HM⟩ hb hon hoff
       refine ⟨_, rfl, fun K hK => ?_⟩
       have e59 := PON ha 4 (hon 4 (by kernel_rfl))
       have e61 := PON ha 6 (hon 6 (by kernel_rfl))
       replace ha := Aside0.mk ha
       exact VL (.bool (decide ((y617.length : Int) > t620))) (hK.out _ _ ⟨PUT ha 7 hb, HM⟩)
      exact steps_nil
     rintro _ w65 ⟨rfl, HM⟩
     simp only [putSel, if_true, Act.put, List.setIfInBounds_toArray, List.set_cons_zero, List.set_cons_succ, gt_iff_lt, ge_iff_le]
     go_upto_if 62 with (fail)
     replace H := IT H; rcases H with ⟨c66, H⟩ | ⟨c66, H⟩
     ·have c66b0 : decide (t620 < (y617.length : Int)) = true := decide_eq_true c66
      clear c66
      (first | rw [c66b0] | (simp only [i64_w, i32_w]; rw [c66b0]) | skip)
      replace H := GD H; obtain ⟨c68, H⟩ := H
      have c68b0 := eq_true c68
      have c68b1 : decide (1 ≤ (y617.length : Int)) = true := decide_eq_true c68
      clear c68
      simp only [Option.some.injEq, Prod.mk.injEq] at H
      obtain ⟨rfl, rfl, rfl, rfl, rfl, rfl, rfl⟩ := H
      obtain ⟨hcz67_0, hcz67_1, hcz67_2, hcz67_3, hcz67_4, hfz67_0, hfz67_1, hfz67_2, hfz67_3, hfz67_4⟩ := bk5 (HM.bx 3 rfl)
      go_wp2_with (first | ((with_reducible refine gate_sl (t := 23) rfl ?_); refine pD 2 23 3 (Kd.int .i64) _ _ 1 y617 Xo62 ko62 HM rfl Try.underlying23 info3 rfl (fun _ _ h => h) (by omega) (by have h_ : (1 : Int) ≤ ((y617.length : Int) : Int) := of_decide_eq_true AS; first | exact h_ | (have e_ := (HM.C 2 rfl).1; omega)) ?_; clear HM; intro v622 HM; obtain ⟨Xo69, ko69, eo69⟩ := HM.rd 2 rfl; subst eo69) | ((with_reducible refine gate_st (p := 70) rfl ?_); refine pS 3 70 4 [.slice Xo69 (y617.drop (1 : Int).toNat).length ko69] HM rfl rfl ?_; clear HM; intro w70 HM; obtain ⟨hcz71_0, hcz71_1, hcz71_2, hfz71_0, hfz71_1, hfz71_2⟩ := bk3 (HM.bx 4 rfl)))
      go_ret2
      exact ⟨_, _, _, ER, (MD HM).pick [0, 1, 2, 3]⟩
     ·have c66b0 : decide (t620 < (y617.length : Int)) = false := decide_eq_false c66
      clear c66
      (first | rw [c66b0] | (simp only [i64_w, i32_w]; rw [c66b0]) | skip)
      simp only [Option.some.injEq, Prod.mk.injEq] at H
      obtain ⟨rfl, rfl, rfl, rfl, rfl, rfl, rfl⟩ := H
      obtain ⟨hcz72_0, hcz72_1, hcz72_2, hfz72_0, hfz72_1, hfz72_2⟩ := bk3 (HM.bx 4 rfl)
      go_wp2
      go_ret2
      exact ⟨_, _, _, ER, (MD HM).pick [0, 1, 2, 3]⟩
   ·replace c4 : ¬ ((x604002_1.length : Int) > 0) := c4
    have c4b0 : decide (0 < (x604002_1.length : Int)) = false := decide_eq_false c4
    have c4b1 : decide (0 < x604002_1.length) = false := decide_eq_false (by omega)
    have c4b9 : decide (0 < x604002_1.length) = false := decide_eq_false (by omega)
    clear c4
    (first | rw [c4b0] | rw [c4b9] | (simp only [i64_w, i32_w]; rw [c4b0]) | skip)
    simp only [Option.some.injEq, Prod.mk.injEq] at H
    obtain ⟨rfl, rfl, rfl, rfl, rfl, rfl, rfl⟩ := H
    go_wp2
    go_ret2
    exact ⟨_, _, _, ER, (MD HM).pick [0, 1, 2, 3]⟩
def impl_Three_evictMain.l0 : Nat → Int → Int → List (S95) → List (S95) → List Int → Option (Int × Int × (List (S95)) × (List (S95)) × List Int × ByteArray × Bool)
 | 0, _, _, _, _, _ => none
 | k + 1, x625000, x625001, x625002, x625003, x625004 => if (x625003.length : Int) > 0 then (if 0 < (x625003.length : Int) then (if 1 ≤ (x625003.length : Int) then ((some (x625003.drop (1 : Int).toNat : List (S95))).bind fun y627 => (if ((rd_T95 x625003 0).f2) = 0 then (some (x625000, x625001, x625002, y627, x625004, (rd_T95 x625003 0).f0, true)) else (if y627.length < 3518437208883 then (impl_Three_evictMain.l0 k x625000 x625001 x625002 (y627 ++ [(⟨(rd_T95 x625003 0).f0, (rd_T95 x625003 0).f1, wrap64 (((rd_T95 x625003 0).f2) - 1)⟩ : S95)]) x625004) else (none)))) else (none)) else (none)) else (some (x625000, x625001, x625002, x625003, x625004, (⟨#[]⟩ : ByteArray), false))
def impl_Three_evictMain.f (k : Nat) (a0_0 : Int) (a0_1 : Int) (l0_2 : List (S95)) (l0_3 : List (S95)) (l0_4 : List Int) : Option (Int × Int × (List (S95)) × (List (S95)) × List Int × ByteArray × Bool) := impl_Three_evictMain.l0 k a0_0 a0_1 l0_2 l0_3 l0_4
theorem impl_Three_evictMain.mono_l : ∀ k, (∀ y0 y1 y2 y3 y4, LeO (impl_Three_evictMain.l0 k y0 y1 y2 y3 y4) (impl_Three_evictMain.l0 (k + 1) y0 y1 y2 y3 y4))
 | 0 => fun _ _ _ _ _ r h => by simp [impl_Three_evictMain.l0] at h
 | k + 1 => by
  have ih0 := impl_Three_evictMain.mono_l k
  ·intro y0 y1 y2 y3 y4
   unfold impl_Three_evictMain.l0
   repeat' first | (with_reducible first | exact ih0 _ _ _ _ _ | exact LeO.refl _ | exact LeO.none _ | refine LeO.ite ?_ ?_ | refine LeO.bind ?_ (fun _ => ?_)) | exact ih0 _ _ _ _ _ | exact LeO.none _ | refine LeO.ite ?_ ?_ | refine LeO.bind ?_ (fun _ => ?_)
theorem impl_Three_evictMain.mono : ∀ a0 a1 a2 a3 a4 k, LeO (impl_Three_evictMain.f k a0 a1 a2 a3 a4) (impl_Three_evictMain.f (k + 1) a0 a1 a2 a3 a4) := by
 intro a0 a1 a2 a3 a4 k
 have ih0 := impl_Three_evictMain.mono_l k
 unfold impl_Three_evictMain.f
 repeat' first | (with_reducible first | exact ih0 _ _ _ _ _ | exact LeO.refl _ | exact LeO.none _ | refine LeO.ite ?_ ?_ | refine LeO.bind ?_ (fun _ => ?_)) | exact ih0 _ _ _ _ _ | exact LeO.none _ | refine LeO.ite ?_ ?_ | refine LeO.bind ?_ (fun _ => ?_)
def impl_Three_evictMain.T7 : Bool × List (List Nat × List Nat) := (true, [([], []), ([], []), ([1], [1]), ([2], [2]), ([3], [3]), ([], []), ([5], [5]), ([4, 6], [4, 6]), ([0, 0, 1, 2, 3, 4, 5, 6, 7], [0]), ([8, 0, 1, 2, 3, 4, 5, 6, 7], [8]), ([9, 7, 7, 0, 1, 2, 3, 4, 5, 6, 7], [7, 9])])
def impl_Three_evictMain.B7 : List Nat := [0, 0, 2, 6, 14, 0, 32, 126, 255, 511, 1023]
theorem impl_Three_evictMain.tab7 : rtab .any (opsOf Try.f96 7) = impl_Three_evictMain.T7 := by kernel_rfl
theorem impl_Three_evictMain.bits7 : waitsOk impl_Three_evictMain.T7.2 impl_Three_evictMain.B7 = true := by kernel_rfl
set_option maxHeartbeats 8000000 in
set_option maxRecDepth 100000 in
theorem impl_Three_evictMain.calls (k : Nat) (g : Nat) (a0_0 : Int) (a0_1 : Int) (u9000_ : Value) (l0_2 : List (S95)) (u9001_ : Value) (l0_3 : List (S95)) (u9002_ : Value) (l0_4 : List Int) (r1 : Int) (r2 : Int) (r3 : List (S95)) (r4 : List (S95)) (r5 : List Int) (r6 : ByteArray) (r7 : Bool) (w0 w : World) (F : List SP)  (hM : Mem w0 F w [row k95 95 u9000_ l0_2, row k95 95 u9001_ l0_3, row (Kd.int .i64) 3 u9002_ l0_4, box 32 g [.int .i64 a0_0, .int .i64 a0_1, u9000_, u9001_, u9002_]]) (h : impl_Three_evictMain.f k a0_0 a0_1 l0_2 l0_3 l0_4 = some (r1, r2, r3, r4, r5, r6, r7)) :
  Calls Try.prog 96 #[.pointer (some ⟨g, 0, none⟩)] w fun e w' => ∃ v2_ v3_ v4_ : Value, e = .returned (.tuple #[.string r6, .bool r7]) ∧ Mem w0 F w' [row k95 95 v2_ r3, row k95 95 v3_ r4, row (Kd.int .i64) 3 v4_ r5, box 32 g [.int .i64 r1, .int .i64 r2, v2_, v3_, v4_]] := by
 have hu95 := Try.underlying95
 have HM := hM
 clear hM
 have H := h
 clear h
 unfold impl_Three_evictMain.f at H
 go_enter Try.func96, Try.ntmps96
 have H' := Aside0.mk H
 clear H
 go_wp2
 go_loopg [] k (fun kq w' => ∃ (x625003_1 : List (S95)) (u625003 : Value), Aside0 (impl_Three_evictMain.l0 kq a0_0 a0_1 l0_2 x625003_1 l0_4 = some (r1, r2, r3, r4, r5, r6, r7)) ∧ Aside0 (kq ≤ k) ∧ Mem w0 F w' [row k95 95 u9000_ l0_2, row k95 95 u625003 x625003_1, row (Kd.int .i64) 3 u9002_ l0_4, box 32 g [.int .i64 a0_0, .int .i64 a0_1, u9000_, u625003, u9002_]])
 case atStart => exact ⟨(l0_3), (u9001_), H', ⟨Nat.le_refl _⟩, (MD HM).pick [0, 1, 2, 3]⟩
 case round =>
  clear H' HM
  obtain ⟨x625003_1, u625003, HA, HK1, HM⟩ := hrel
  cases gk with
  | zero => exact absurd HA.out (by simp [impl_Three_evictMain.l0])
  | succ k1 =>
   have H := HA.out
   clear HA
   simp only [impl_Three_evictMain.l0] at H
   obtain ⟨hcz2_0, hcz2_1, hcz2_2, hcz2_3, hcz2_4, hfz2_0, hfz2_1, hfz2_2, hfz2_3, hfz2_4⟩ := bk5 (HM.bx 3 rfl)
   obtain ⟨Xo3, ko3, eo3⟩ := HM.rd 1 rfl
   subst eo3
   go_upto_if 10 with (fail)
   replace H := IT H; rcases H with ⟨c4, H⟩ | ⟨c4, H⟩
   ·replace c4 : (x625003_1.length : Int) > 0 := c4
    have c4b0 : decide (0 < (x625003_1.length : Int)) = true := decide_eq_true c4
    have c4b1 : decide (0 < x625003_1.length) = true := decide_eq_true (by omega)
    have c4b9 : decide (0 < x625003_1.length) = true := decide_eq_true (by omega)
    clear c4
    (first | rw [c4b0] | rw [c4b9] | (simp only [i64_w, i32_w]; rw [c4b0]) | skip)
    replace H := GD H; obtain ⟨c5, H⟩ := H
    replace c5 : 0 < (x625003_1.length : Int) := c5
    have c5b0 : decide (0 < (x625003_1.length : Int)) = true := decide_eq_true c5
    have c5b1 : decide (0 < x625003_1.length) = true := decide_eq_true (by omega)
    have c5b9 : decide (0 < x625003_1.length) = true := decide_eq_true (by omega)
    clear c5
    replace H := GD H; obtain ⟨c9, H⟩ := H
    have c9b0 := eq_true c9
    have c9b1 : decide (1 ≤ (x625003_1.length : Int)) = true := decide_eq_true c9
    clear c9
    replace H := BLt H; obtain ⟨y627, Ny627, H⟩ := H
    replace Ny627 := Aside0.mk Ny627
    have p625 : 0 ≤ (0 : Int) := (by omega)
    have q625 : (0 : Int) < (x625003_1.length : Int) := of_decide_eq_true AS
    obtain ⟨ad625, e625, hx625_0, hx625_1, hx625_2⟩ := at_T95 (HM.C 1 rfl).2.2 0 p625 q625
    cases e625
    have qi625 : (0 < x625003_1.length) = True := eq_true (by omega)
    (try rw [show ((0 : Int)).toNat = 0 from rfl] at hx625_0)
    (try rw [show 0 * 3 = 0 from rfl] at hx625_0)
    (try rw [Addr.add_zero'] at hx625_0)
    (try rw [show ((0 : Int)).toNat = 0 from rfl] at hx625_1)
    (try rw [show 0 * 3 = 0 from rfl] at hx625_1)
    (try rw [Addr.add_zero'] at hx625_1)
    (try rw [show ((0 : Int)).toNat = 0 from rfl] at hx625_2)
    (try rw [show 0 * 3 = 0 from rfl] at hx625_2)
    (try rw [Addr.add_zero'] at hx625_2)
    replace p625 := eq_true p625
    replace q625 := eq_true q625
    go_upto_if 27 with (first | ((with_reducible refine gate_dst (N := 4) rfl ?_); refine pB 4 95 [.string (⟨#[]⟩ : ByteArray), .string (⟨#[]⟩ : ByteArray), .int .i64 0] HM rfl ?_; clear HM; intro gb626 w6 HM) | ((with_reducible refine gate_st (p := 4) rfl ?_); refine pS 4 4 0 [.string ((rd_T95 x625003_1 0).f0), .string ((rd_T95 x625003_1 0).f1), .int .i64 ((rd_T95 x625003_1 0).f2)] HM rfl rfl ?_; clear HM; intro w7 HM; obtain ⟨hcz8_0, hcz8_1, hcz8_2, hcz8_3, hcz8_4, hfz8_0, hfz8_1, hfz8_2, hfz8_3, hfz8_4⟩ := bk5 (HM.bx 3 rfl)) | ((with_reducible refine gate_sl (t := 30) rfl ?_); refine pD 1 30 95 k95 _ _ 1 x625003_1 (some ad625) ko3 HM rfl Try.underlying30 info95 rfl (fun _ _ h => h) (by omega) (by have h_ : (1 : Int) ≤ ((x625003_1.length : Int) : Int) := of_decide_eq_true AS; first | exact h_ | (have e_ := (HM.C 1 rfl).1; omega)) ?_; clear HM; intro v628 HM; replace HM := HM.nmQ 1 rfl Ny627.out; obtain ⟨Xo10, ko10, eo10⟩ := HM.rd 1 rfl; subst eo10) | ((with_reducible refine gate_st (p := 24) rfl ?_); refine pS 3 24 3 [.slice Xo10 y627.length ko10] HM rfl rfl ?_; clear HM; intro w11 HM; obtain ⟨hcz12_0, hcz12_1, hcz12_2, hfz12_0, hfz12_1, hfz12_2⟩ := bk3 (HM.bx 4 rfl)))
    replace HM := nzM HM
    replace H := IT H; rcases H with ⟨c13, H⟩ | ⟨c13, H⟩
    ·have c13b0 : (((rd_T95 x625003_1 0).f2) == 0) = true := beq_iff_eq.mpr c13
     have c13b1 : (((rd_T95 x625003_1 0).f2) != 0) = false := bne_eq_false_iff_eq.mpr c13
     clear c13
     (first | rw [c13b0] | (simp only [i64_w, i32_w]; rw [c13b0]) | skip)
     simp only [Option.some.injEq, Prod.mk.injEq] at H
     obtain ⟨rfl, rfl, rfl, rfl, rfl, rfl, rfl⟩ := H
     go_wp2
     go_ret2
     exact ⟨_, _, _, ER, (MD HM).pick [0, 1, 2, 3]⟩
    ·have c13b0 : (((rd_T95 x625003_1 0).f2) == 0) = false := beq_eq_false_iff_ne.mpr c13
     have c13b1 : (((rd_T95 x625003_1 0).f2) != 0) = true := bne_iff_ne.mpr c13
     (first | rw [c13b0] | (simp only [i64_w, i32_w]; rw [c13b0]) | skip)
     try go_wp2_with (first | ((with_reducible refine gate_st (p := 33) rfl ?_); refine pS 4 33 2 [.int .i64 (wrap64 (((rd_T95 x625003_1 0).f2) - 1))] HM rfl rfl ?_; clear HM; intro w14 HM))
     replace H := GD H; obtain ⟨c15, H⟩ := H
     have LMc15 := Aside0.mk c15
     clear c15
     refine RGN 11 [0, 1, 2, 3, 4, 5, 6, 7, 8, 9, 10] (fun a0 b a w' => ∃ (v19 : Value) (v631 : Value), a = putSel a0 b [(0, 34, .pointer (some ⟨g, 0, none⟩)), (1, 35, .pointer (some ⟨g, 0, none⟩)), (2, 36, .pointer (some ⟨g, 0, none⟩)), (3, 37, .pointer (some ⟨g, 3, none⟩)), (4, 38, .slice Xo10 y627.length ko10), (5, 39, .agg #[.string ((rd_T95 x625003_1 0).f0), .string ((rd_T95 x625003_1 0).f1), .int .i64 (wrap64 (((rd_T95 x625003_1 0).f2) - 1))]), (6, 40, v19), (7, 41, v631), (8, 42, .pointer (some ⟨g, 0, none⟩)), (9, 43, .pointer (some ⟨g, 3, none⟩))] ∧ Mem w0 F w' [row k95 95 u9000_ l0_2, sel (b 7) (row k95 95 v631 (y627 ++ [(⟨(rd_T95 x625003_1 0).f0, (rd_T95 x625003_1 0).f1, wrap64 (((rd_T95 x625003_1 0).f2) - 1)⟩ : S95)])) (row k95 95 (.slice Xo10 y627.length ko10) y627), row (Kd.int .i64) 3 u9002_ l0_4, sel (b 10) (box 32 g [.int .i64 a0_0, .int .i64 a0_1, u9000_, v631, u9002_]) (box 32 g [.int .i64 a0_0, .int .i64 a0_1, u9000_, .slice Xo10 y627.length ko10, u9002_]), box 95 gb626 [.string ((rd_T95 x625003_1 0).f0), .string ((rd_T95 x625003_1 0).f1), .int .i64 (wrap64 (((rd_T95 x625003_1 0).f2) - 1))], sel (b 6) (rowR k95 95 v19 [(⟨(rd_T95 x625003_1 0).f0, (rd_T95 x625003_1 0).f1, wrap64 (((rd_T95 x625003_1 0).f2) - 1)⟩ : S95)]) (emp)]) impl_Three_evictMain.tab7 impl_Three_evictMain.bits7 ?_ ?_ ?_
     ·exact ⟨.bool false, .bool false, PS0' rfl _, (HM.drew.ems 1).pick [0, 1, 2, 3, 4, 5]⟩
     ·clear HM
      refine steps_cons ?_ ?_
      ·rintro b a w ⟨v19, v631, ha, HM⟩ hb hon hoff
       refine ⟨_, rfl, fun K hK => ?_⟩
       have e0 := POF ha 0
       replace ha := Aside0.mk ha
       exact VL (.pointer (some ⟨g, 0, none⟩)) (hK.out _ _ ⟨v19, v631, PUT ha 0 hb, HM⟩)
      refine steps_cons ?_ ?_
      ·rintro b a w ⟨v19, v631, ha, HM⟩ hb hon hoff
       refine ⟨_, rfl, fun K hK => ?_⟩
       have e0 := POF ha 0
       replace ha := Aside0.mk ha
       exact VL (.pointer (some ⟨g, 0, none⟩)) (hK.out _ _ ⟨v19, v631, PUT ha 1 hb, HM⟩)
      refine steps_cons ?_ ?_
      ·rintro b a w ⟨v19, v631, ha, HM⟩ hb hon hoff
       refine ⟨_, rfl, fun K hK => ?_⟩
       have e35 := PON ha 1 (hon 1 (by kernel_rfl))
       replace ha := Aside0.mk ha
       exact VL (.pointer (some ⟨g, 0, none⟩)) (hK.out _ _ ⟨v19, v631, PUT ha 2 hb, HM⟩)
      refine steps_cons ?_ ?_
      ·rintro b a w ⟨v19, v631, ha, HM⟩ hb hon hoff
       refine ⟨_, rfl, fun K hK => ?_⟩
       have e36 := PON ha 2 (hon 2 (by kernel_rfl))
       replace ha := Aside0.mk ha
       exact VL (.pointer (some ⟨g, 3, none⟩)) (hK.out _ _ ⟨v19, v631, PUT ha 3 hb, HM⟩)
      refine steps_cons ?_ ?_
      ·rintro b a w ⟨v19, v631, ha, HM⟩ hb hon hoff
       refine ⟨_, rfl, fun K hK => ?_⟩
       have HZ := HM
       replace HM := HM.sF 3 rfl (hoff 10 (by kernel_rfl))
       obtain ⟨hcz24_0, hcz24_1, hcz24_2, hcz24_3, hcz24_4, hfz24_0, hfz24_1, hfz24_2, hfz24_3, hfz24_4⟩ := bk5 (HM.bx 3 rfl)
       have e37 := PON ha 3 (hon 3 (by kernel_rfl))
       replace ha := Aside0.mk ha
       exact VL (.slice Xo10 y627.length ko10) (hK.out _ _ ⟨v19, v631, PUT ha 4 hb, HZ⟩)
      refine steps_cons ?_ ?_
      ·rintro b a w ⟨v19, v631, ha, HM⟩ hb hon hoff
       refine ⟨_, rfl, fun K hK => ?_⟩
       obtain ⟨hcz25_0, hcz25_1, hcz25_2, hfz25_0, hfz25_1, hfz25_2⟩ := bk3 (HM.bx 4 rfl)
       have e4 := POF ha 4
       replace ha := Aside0.mk ha
       exact VL (.agg #[.string ((rd_T95 x625003_1 0).f0), .string ((rd_T95 x625003_1 0).f1), .int .i64 (wrap64 (((rd_T95 x625003_1 0).f2) - 1))]) (hK.out _ _ ⟨v19, v631, PUT ha 5 hb, HM⟩)
      refine steps_cons ?_ ?_
      ·rintro b a w ⟨v19, v631, ha, HM⟩ hb hon hoff
       refine ⟨_, rfl, fun K hK => ?_⟩
       have e39 := PON ha 5 (hon 5 (by kernel_rfl))
       replace ha := Aside0.mk ha
       refine ST (eL 40 k95 95 [(⟨(rd_T95 x625003_1 0).f0, (rd_T95 x625003_1 0).f1, wrap64 (((rd_T95 x625003_1 0).f2) - 1)⟩ : S95)] [.string ((rd_T95 x625003_1 0).f0), .string ((rd_T95 x625003_1 0).f1), .int .i64 (wrap64 (((rd_T95 x625003_1 0).f2) - 1))] (Reps.c3 (show Kd.M k95 _ _ _ (⟨(rd_T95 x625003_1 0).f0, (rd_T95 x625003_1 0).f1, wrap64 (((rd_T95 x625003_1 0).f2) - 1)⟩ : S95) [.string ((rd_T95 x625003_1 0).f0), .string ((rd_T95 x625003_1 0).f1), .int .i64 (wrap64 (((rd_T95 x625003_1 0).f2) - 1))] from (k95_mkM _ _ _ (⟨(rd_T95 x625003_1 0).f0, (rd_T95 x625003_1 0).f1, wrap64 (((rd_T95 x625003_1 0).f2) - 1)⟩ : S95))) (Reps.none _ _)) HM rfl ?_)
       clear HM
       intro v19 w26 HM
       exact hK.out _ _ ⟨v19, v631, PUT ha 6 hb, (HM).pick [0, 1, 2, 3, 4, 6]⟩
      refine steps_cons ?_ ?_
      ·rintro b a w ⟨v19, v631, ha, HM⟩ hb hon hoff
       refine ⟨_, rfl, fun K hK => ?_⟩
       replace HM := HM.sF 1 rfl hb
       replace HM := HM.sT 5 rfl (hon 6 (by kernel_rfl))
       obtain ⟨Xo27, ko27, eo27⟩ := HM.rdR 5 rfl
       subst eo27
       have e38 := PON ha 4 (hon 4 (by kernel_rfl))
       have e40 := PON ha 6 (hon 6 (by kernel_rfl))
       replace ha := Aside0.mk ha
       refine ST (eAq 1 (.tmp 38) (.tmp 40) 30 95 k95 (.slice Xo10 y627.length ko10) y627 [(⟨(rd_T95 x625003_1 0).f0, (rd_T95 x625003_1 0).f1, wrap64 (((rd_T95 x625003_1 0).f2) - 1)⟩ : S95)] Xo27 ([(⟨(rd_T95 x625003_1 0).f0, (rd_T95 x625003_1 0).f1, wrap64 (((rd_T95 x625003_1 0).f2) - 1)⟩ : S95)].length) ko27 HM rfl Try.underlying30 info95 rfl (HM.CR 5 rfl).2.2 (by have h_ := LMc15.out; simp only [List.length_singleton]; omega) (by simp) ?_ (ops := #[]) (hw := by rfl) (hs := (eval_of e38)) (hx := (eval_of e40)))
       clear HM
       intro v631 w28 HM
       exact hK.out _ _ ⟨.slice Xo27 [(⟨(rd_T95 x625003_1 0).f0, (rd_T95 x625003_1 0).f1, wrap64 (((rd_T95 x625003_1 0).f2) - 1)⟩ : S95)].length ko27, v631, PUT ha 7 hb, (((HM.sF 3 rfl (hoff 10 (by kernel_rfl))).iF 3 rfl (hoff 10 (by kernel_rfl))).iT 5 rfl (hon 6 (by kernel_rfl))).pick [0, 1, 2, 3, 4, 5]⟩
      refine steps_cons ?_ ?_
      ·rintro b a w ⟨v19, v631, ha, HM⟩ hb hon hoff
       refine ⟨_, rfl, fun K hK => ?_⟩
       have e34 := PON ha 0 (hon 0 (by kernel_rfl))
       replace ha := Aside0.mk ha
       exact VL (.pointer (some ⟨g, 0, none⟩)) (hK.out _ _ ⟨v19, v631, PUT ha 8 hb, HM⟩)
      refine steps_cons ?_ ?_
      ·rintro b a w ⟨v19, v631, ha, HM⟩ hb hon hoff
       refine ⟨_, rfl, fun K hK => ?_⟩
       have e42 := PON ha 8 (hon 8 (by kernel_rfl))
       replace ha := Aside0.mk ha
       exact VL (.pointer (some ⟨g, 3, none⟩)) (hK.out _ _ ⟨v19, v631, PUT ha 9 hb, HM⟩)
      refine steps_cons ?_ ?_
      ·rintro b a w ⟨v19, v631, ha, HM⟩ hb hon hoff
       refine ⟨_, rfl, fun K hK => ?_⟩
       replace HM := HM.sT 1 rfl (hon 7 (by kernel_rfl))
       replace HM := HM.sF 3 rfl hb
       obtain ⟨Xo29, ko29, eo29⟩ := HM.rd 1 rfl
       subst eo29
       have e43 := PON ha 9 (hon 9 (by kernel_rfl))
       have e41 := PON ha 7 (hon 7 (by kernel_rfl))
       replace ha := Aside0.mk ha
       refine ST (eS 3 43 3 [.slice Xo29 (y627 ++ [(⟨(rd_T95 x625003_1 0).f0, (rd_T95 x625003_1 0).f1, wrap64 (((rd_T95 x625003_1 0).f2) - 1)⟩ : S95)]).length ko29] HM rfl rfl ?_ (hp := (eval_of e43)) (hx := (by rw [eval_of e41]; rfl)))
       clear HM
       intro w30 HM
       exact hK.out _ _ ⟨v19, .slice Xo29 (y627 ++ [(⟨(rd_T95 x625003_1 0).f0, (rd_T95 x625003_1 0).f1, wrap64 (((rd_T95 x625003_1 0).f2) - 1)⟩ : S95)]).length ko29, PUS ha, (HM.iT 1 rfl (hon 7 (by kernel_rfl))).pick [0, 1, 2, 3, 4, 5]⟩
      exact steps_nil
     rintro _ w31 ⟨v19, v631, rfl, HM⟩
     replace HM := HM.sT 1 rfl rfl
     replace HM := HM.sT 3 rfl rfl
     replace HM := HM.sT 5 rfl rfl
     simp only [putSel, if_true, Act.put, List.setIfInBounds_toArray, List.set_cons_zero, List.set_cons_succ, gt_iff_lt, ge_iff_le]
     have H' := Aside0.mk H
     clear H
     go_wp2
     go_roundg k1
     case measure => have := HK1.out; omega
     case rel => exact ⟨((y627 ++ [(⟨(rd_T95 x625003_1 0).f0, (rd_T95 x625003_1 0).f1, wrap64 (((rd_T95 x625003_1 0).f2) - 1)⟩ : S95)])), (v631), H', ⟨by have := HK1.out; omega⟩, (MD HM).pick [0, 1, 2, 3]⟩
   ·replace c4 : ¬ ((x625003_1.length : Int) > 0) := c4
    have c4b0 : decide (0 < (x625003_1.length : Int)) = false := decide_eq_false c4
    have c4b1 : decide (0 < x625003_1.length) = false := decide_eq_false (by omega)
    have c4b9 : decide (0 < x625003_1.length) = false := decide_eq_false (by omega)
    clear c4
    (first | rw [c4b0] | rw [c4b9] | (simp only [i64_w, i32_w]; rw [c4b0]) | skip)
    simp only [Option.some.injEq, Prod.mk.injEq] at H
    obtain ⟨rfl, rfl, rfl, rfl, rfl, rfl, rfl⟩ := H
    go_wp2
    go_ret2
    exact ⟨_, _, _, ER, (MD HM).pick [0, 1, 2, 3]⟩
def impl_Three_evict.j0 : Nat → Bool → Int → Int → List (S95) → List (S95) → List Int → Option (Int × Int × (List (S95)) × (List (S95)) × List Int × ByteArray × Bool)
 | 0, _, _, _, _, _, _ => none
 | k + 1, x23, x634000, x634001, x634002, x634003, x634004 => if x23 = true then ((impl_Three_evictSmall.f k x634000 x634001 x634002 x634003 x634004).bind fun bt634 => (if bt634.2.2.2.2.2.2 = true then (some (bt634.1, bt634.2.1, bt634.2.2.1, bt634.2.2.2.1, bt634.2.2.2.2.1, bt634.2.2.2.2.2.1, true)) else ((impl_Three_evictMain.f k bt634.1 bt634.2.1 bt634.2.2.1 bt634.2.2.2.1 bt634.2.2.2.2.1).bind fun bt647 => (some (bt647.1, bt647.2.1, bt647.2.2.1, bt647.2.2.2.1, bt647.2.2.2.2.1, bt647.2.2.2.2.2.1, bt647.2.2.2.2.2.2))))) else ((impl_Three_evictMain.f k x634000 x634001 x634002 x634003 x634004).bind fun bt660 => (some (bt660.1, bt660.2.1, bt660.2.2.1, bt660.2.2.2.1, bt660.2.2.2.2.1, bt660.2.2.2.2.2.1, bt660.2.2.2.2.2.2)))
def impl_Three_evict.f (k : Nat) (a0_0 : Int) (a0_1 : Int) (l0_2 : List (S95)) (l0_3 : List (S95)) (l0_4 : List Int) : Option (Int × Int × (List (S95)) × (List (S95)) × List Int × ByteArray × Bool) := if (l0_2.length : Int) ≥ a0_1 then (impl_Three_evict.j0 k true a0_0 a0_1 l0_2 l0_3 l0_4) else (impl_Three_evict.j0 k ((l0_3.length : Int) == 0) a0_0 a0_1 l0_2 l0_3 l0_4)
theorem impl_Three_evict.mono_l : ∀ k, (∀ y0 y1 y2 y3 y4 y5, LeO (impl_Three_evict.j0 k y0 y1 y2 y3 y4 y5) (impl_Three_evict.j0 (k + 1) y0 y1 y2 y3 y4 y5))
 | 0 => fun _ _ _ _ _ _ r h => by simp [impl_Three_evict.j0] at h
 | k + 1 => by
  have ih0 := impl_Three_evict.mono_l k
  ·intro y0 y1 y2 y3 y4 y5
   unfold impl_Three_evict.j0
   repeat' first | (with_reducible first | exact ih0 _ _ _ _ _ _ | exact impl_Three_evictMain.mono _ _ _ _ _ _ | exact impl_Three_evictSmall.mono _ _ _ _ _ _ | exact LeO.refl _ | exact LeO.none _ | refine LeO.ite ?_ ?_ | refine LeO.bind ?_ (fun _ => ?_)) | exact ih0 _ _ _ _ _ _ | exact impl_Three_evictMain.mono _ _ _ _ _ _ | exact impl_Three_evictSmall.mono _ _ _ _ _ _ | exact LeO.none _ | refine LeO.ite ?_ ?_ | refine LeO.bind ?_ (fun _ => ?_)
theorem impl_Three_evict.mono : ∀ a0 a1 a2 a3 a4 k, LeO (impl_Three_evict.f k a0 a1 a2 a3 a4) (impl_Three_evict.f (k + 1) a0 a1 a2 a3 a4) := by
 intro a0 a1 a2 a3 a4 k
 have ih0 := impl_Three_evict.mono_l k
 unfold impl_Three_evict.f
 repeat' first | (with_reducible first | exact ih0 _ _ _ _ _ _ | exact impl_Three_evictMain.mono _ _ _ _ _ _ | exact impl_Three_evictSmall.mono _ _ _ _ _ _ | exact LeO.refl _ | exact LeO.none _ | refine LeO.ite ?_ ?_ | refine LeO.bind ?_ (fun _ => ?_)) | exact ih0 _ _ _ _ _ _ | exact impl_Three_evictMain.mono _ _ _ _ _ _ | exact impl_Three_evictSmall.mono _ _ _ _ _ _ | exact LeO.none _ | refine LeO.ite ?_ ?_ | refine LeO.bind ?_ (fun _ => ?_)
set_option maxHeartbeats 8000000 in
set_option maxRecDepth 100000 in
theorem impl_Three_evict.calls (k : Nat) (g : Nat) (a0_0 : Int) (a0_1 : Int) (u9000_ : Value) (l0_2 : List (S95)) (u9001_ : Value) (l0_3 : List (S95)) (u9002_ : Value) (l0_4 : List Int) (r1 : Int) (r2 : Int) (r3 : List (S95)) (r4 : List (S95)) (r5 : List Int) (r6 : ByteArray) (r7 : Bool) (w0 w : World) (F : List SP)  (hM : Mem w0 F w [row k95 95 u9000_ l0_2, row k95 95 u9001_ l0_3, row (Kd.int .i64) 3 u9002_ l0_4, box 32 g [.int .i64 a0_0, .int .i64 a0_1, u9000_, u9001_, u9002_]]) (h : impl_Three_evict.f k a0_0 a0_1 l0_2 l0_3 l0_4 = some (r1, r2, r3, r4, r5, r6, r7)) :
  Calls Try.prog 76 #[.pointer (some ⟨g, 0, none⟩)] w fun e w' => ∃ v2_ v3_ v4_ : Value, e = .returned (.tuple #[.string r6, .bool r7]) ∧ Mem w0 F w' [row k95 95 v2_ r3, row k95 95 v3_ r4, row (Kd.int .i64) 3 v4_ r5, box 32 g [.int .i64 r1, .int .i64 r2, v2_, v3_, v4_]] := by
 have HM := hM
 clear hM
 have H := h
 clear h
 unfold impl_Three_evict.f at H
 go_enter Try.func76, Try.ntmps76
 have HC2 := Aside0.mk H
 clear H
 go_upto_region 1 with (fail)
 repeat (go_quiet (fail); go_upto_region 1 with (fail))
 go_cut [23] (fun v23 wc => ∃ (kq : Nat) (x23_1 : Bool), v23 = .bool x23_1 ∧ Aside0 (impl_Three_evict.j0 kq x23_1 a0_0 a0_1 l0_2 l0_3 l0_4 = some (r1, r2, r3, r4, r5, r6, r7)) ∧ Aside0 (kq ≤ k) ∧ Mem w0 F wc [row k95 95 u9000_ l0_2, row k95 95 u9001_ l0_3, row (Kd.int .i64) 3 u9002_ l0_4, box 32 g [.int .i64 a0_0, .int .i64 a0_1, u9000_, u9001_, u9002_]])
 case first =>
  have H := HC2.out
  clear HC2
  replace H := IT H; rcases H with ⟨c5, H⟩ | ⟨c5, H⟩
  ·have c5b0 : decide (a0_1 ≤ (l0_2.length : Int)) = true := decide_eq_true c5
   clear c5
   have H' := Aside0.mk H
   clear H
   obtain ⟨hcz3_0, hcz3_1, hcz3_2, hcz3_3, hcz3_4, hfz3_0, hfz3_1, hfz3_2, hfz3_3, hfz3_4⟩ := bk5 (HM.bx 3 rfl)
   obtain ⟨Xo4, ko4, eo4⟩ := HM.rd 0 rfl
   subst eo4
   go_wp2
   repeat (go_quiet (fail); try go_wp2_with (fail))
   go_meet
   case rel => exact ⟨_, (true), RS, H', ⟨by first | omega | exact Nat.le_refl _⟩, (MD HM).pick [0, 1, 2, 3]⟩
  ·have c5b0 : decide (a0_1 ≤ (l0_2.length : Int)) = false := decide_eq_false c5
   clear c5
   have H' := Aside0.mk H
   clear H
   obtain ⟨hcz3_0, hcz3_1, hcz3_2, hcz3_3, hcz3_4, hfz3_0, hfz3_1, hfz3_2, hfz3_3, hfz3_4⟩ := bk5 (HM.bx 3 rfl)
   obtain ⟨Xo4, ko4, eo4⟩ := HM.rd 0 rfl
   subst eo4
   obtain ⟨Xo6, ko6, eo6⟩ := HM.rd 1 rfl
   subst eo6
   go_wp2
   repeat (go_quiet (fail); try go_wp2_with (fail))
   go_meet
   case rel => exact ⟨_, (((l0_3.length : Int) == 0)), RS, H', ⟨by first | omega | exact Nat.le_refl _⟩, (MD HM).pick [0, 1, 2, 3]⟩
 case rest =>
  clear HC2 HM
  obtain ⟨kq, x23_1, rfl, HA, HJ1, HM⟩ := hcut
  cases kq with
  | zero => exact absurd HA.out (by simp [impl_Three_evict.j0])
  | succ kj1 =>
   have H := HA.out
   clear HA
   simp only [impl_Three_evict.j0] at H
   go_upto_if 23 with (fail)
   repeat (go_quiet (fail); go_upto_if 23 with (fail))
   replace H := IB H
   rcases H with ⟨c7, H⟩ | ⟨c7, H⟩
   ·subst c7
    replace H := BN H; obtain ⟨⟨t634, t635, t636, t639, t642, t645, t646⟩, A8, H⟩ := H
    go_upto_if 29 with (first | ((with_reducible refine gate_callee (f := 95) rfl ?_); refine pC (some 26) rfl #[.pointer (some ⟨g, 0, none⟩)] rfl Try.func95 (impl_Three_evictSmall.calls kj1 g a0_0 a0_1 u9000_ l0_2 u9001_ l0_3 u9002_ l0_4 t634 t635 t636 t639 t642 t645 t646 _ _ _ (HM.focus [] [0, 1, 2, 3]) A8.out) ?_; rintro e w9 ⟨v637, v640, v643, rfl, hR⟩; refine ⟨_, rfl, ?_⟩; replace HM := nzM hR.unfocus; clear hR))
    repeat (go_quiet (first | ((with_reducible refine gate_callee (f := 95) rfl ?_); refine pC (some 26) rfl #[.pointer (some ⟨g, 0, none⟩)] rfl Try.func95 (impl_Three_evictSmall.calls kj1 g a0_0 a0_1 u9000_ l0_2 u9001_ l0_3 u9002_ l0_4 t634 t635 t636 t639 t642 t645 t646 _ _ _ (HM.focus [] [0, 1, 2, 3]) A8.out) ?_; rintro e w9 ⟨v637, v640, v643, rfl, hR⟩; refine ⟨_, rfl, ?_⟩; replace HM := nzM hR.unfocus; clear hR)); go_upto_if 29 with (first | ((with_reducible refine gate_callee (f := 95) rfl ?_); refine pC (some 26) rfl #[.pointer (some ⟨g, 0, none⟩)] rfl Try.func95 (impl_Three_evictSmall.calls kj1 g a0_0 a0_1 u9000_ l0_2 u9001_ l0_3 u9002_ l0_4 t634 t635 t636 t639 t642 t645 t646 _ _ _ (HM.focus [] [0, 1, 2, 3]) A8.out) ?_; rintro e w9 ⟨v637, v640, v643, rfl, hR⟩; refine ⟨_, rfl, ?_⟩; replace HM := nzM hR.unfocus; clear hR)))
    replace H := IB H
    rcases H with ⟨c10, H⟩ | ⟨c10, H⟩
    ·subst c10
     simp only [Option.some.injEq, Prod.mk.injEq] at H
     obtain ⟨rfl, rfl, rfl, rfl, rfl, rfl, rfl⟩ := H
     go_wp2
     repeat (go_quiet (fail); try go_wp2_with (fail))
     go_ret2
     first | exact ⟨_, _, _, ER, (MD HM).pick [0, 1, 2, 3]⟩ | exact ⟨ER, _, _, _, (MD HM).pick [0, 1, 2, 3]⟩
    ·subst c10
     replace H := BN H; obtain ⟨⟨t647, t648, t649, t652, t655, t658, t659⟩, A11, H⟩ := H
     simp only [Option.some.injEq, Prod.mk.injEq] at H
     obtain ⟨rfl, rfl, rfl, rfl, rfl, rfl, rfl⟩ := H
     go_wp2_with (first | ((with_reducible refine gate_callee (f := 96) rfl ?_); refine pC (some 32) rfl #[.pointer (some ⟨g, 0, none⟩)] rfl Try.func96 (impl_Three_evictMain.calls kj1 g t634 t635 v637 t636 v640 t639 v643 t642 t647 t648 t649 t652 t655 t658 t659 _ _ _ (HM.focus [] [0, 1, 2, 3]) A11.out) ?_; rintro e w12 ⟨v650, v653, v656, rfl, hR⟩; refine ⟨_, rfl, ?_⟩; replace HM := nzM hR.unfocus; clear hR))
     repeat (go_quiet (first | ((with_reducible refine gate_callee (f := 96) rfl ?_); refine pC (some 32) rfl #[.pointer (some ⟨g, 0, none⟩)] rfl Try.func96 (impl_Three_evictMain.calls kj1 g t634 t635 v637 t636 v640 t639 v643 t642 t647 t648 t649 t652 t655 t658 t659 _ _ _ (HM.focus [] [0, 1, 2, 3]) A11.out) ?_; rintro e w12 ⟨v650, v653, v656, rfl, hR⟩; refine ⟨_, rfl, ?_⟩; replace HM := nzM hR.unfocus; clear hR)); try go_wp2_with (first | ((with_reducible refine gate_callee (f := 96) rfl ?_); refine pC (some 32) rfl #[.pointer (some ⟨g, 0, none⟩)] rfl Try.func96 (impl_Three_evictMain.calls kj1 g t634 t635 v637 t636 v640 t639 v643 t642 t647 t648 t649 t652 t655 t658 t659 _ _ _ (HM.focus [] [0, 1, 2, 3]) A11.out) ?_; rintro e w12 ⟨v650, v653, v656, rfl, hR⟩; refine ⟨_, rfl, ?_⟩; replace HM := nzM hR.unfocus; clear hR)))
     go_ret2
     first | exact ⟨_, _, _, ER, (MD HM).pick [0, 1, 2, 3]⟩ | exact ⟨ER, _, _, _, (MD HM).pick [0, 1, 2, 3]⟩
   ·subst c7
    replace H := BN H; obtain ⟨⟨t660, t661, t662, t665, t668, t671, t672⟩, A13, H⟩ := H
    simp only [Option.some.injEq, Prod.mk.injEq] at H
    obtain ⟨rfl, rfl, rfl, rfl, rfl, rfl, rfl⟩ := H
    go_wp2_with (first | ((with_reducible refine gate_callee (f := 96) rfl ?_); refine pC (some 36) rfl #[.pointer (some ⟨g, 0, none⟩)] rfl Try.func96 (impl_Three_evictMain.calls kj1 g a0_0 a0_1 u9000_ l0_2 u9001_ l0_3 u9002_ l0_4 t660 t661 t662 t665 t668 t671 t672 _ _ _ (HM.focus [] [0, 1, 2, 3]) A13.out) ?_; rintro e w14 ⟨v663, v666, v669, rfl, hR⟩; refine ⟨_, rfl, ?_⟩; replace HM := nzM hR.unfocus; clear hR))
    repeat (go_quiet (first | ((with_reducible refine gate_callee (f := 96) rfl ?_); refine pC (some 36) rfl #[.pointer (some ⟨g, 0, none⟩)] rfl Try.func96 (impl_Three_evictMain.calls kj1 g a0_0 a0_1 u9000_ l0_2 u9001_ l0_3 u9002_ l0_4 t660 t661 t662 t665 t668 t671 t672 _ _ _ (HM.focus [] [0, 1, 2, 3]) A13.out) ?_; rintro e w14 ⟨v663, v666, v669, rfl, hR⟩; refine ⟨_, rfl, ?_⟩; replace HM := nzM hR.unfocus; clear hR)); try go_wp2_with (first | ((with_reducible refine gate_callee (f := 96) rfl ?_); refine pC (some 36) rfl #[.pointer (some ⟨g, 0, none⟩)] rfl Try.func96 (impl_Three_evictMain.calls kj1 g a0_0 a0_1 u9000_ l0_2 u9001_ l0_3 u9002_ l0_4 t660 t661 t662 t665 t668 t671 t672 _ _ _ (HM.focus [] [0, 1, 2, 3]) A13.out) ?_; rintro e w14 ⟨v663, v666, v669, rfl, hR⟩; refine ⟨_, rfl, ?_⟩; replace HM := nzM hR.unfocus; clear hR)))
    go_ret2
    first | exact ⟨_, _, _, ER, (MD HM).pick [0, 1, 2, 3]⟩ | exact ⟨ER, _, _, _, (MD HM).pick [0, 1, 2, 3]⟩
theorem impl_Put.clo79 (B : Nat) (h : Int) : delInt.Clo 79 Try.f79 B h := by
 refine ⟨Try.func79, by kernel_rfl, by rfl, fun y W hb => ?_⟩
 have HB := Aside0.mk (Below.refl W.heap.size W)
 have hc : W.cell? ⟨B, 0, none⟩ = some (.int .i64 h) := (blk_cell hb 0).trans rfl
 clear hb
 go_enter Try.func79, Try.ntmps79
 go_wp2
 go_ret
 exact ⟨rfl, HB.out⟩
mutual
def impl_Put.j0 : Nat → ByteArray → ByteArray → Bool → Int → Int → List (S95) → List (S95) → List Int → Option (Int × Int × (List (S95)) × (List (S95)) × List Int × List ByteArray × Bool)
 | 0, _, _, _, _, _, _, _, _ => none
 | k + 1, x1, x2, x24, x674000, x674001, x674002, x674003, x674004 => if x24 = true then (some (0, 0, ([] : List (S95)), ([] : List (S95)), ([] : List Int), ([] : List ByteArray), false)) else ((impl_copyThree.f x674000 x674001 x674002 x674003 x674004).bind fun bt677 => ((some (([] : List ByteArray) : List ByteArray)).bind fun y689 => ((impl_Three_item.f bt677.2.2.1 bt677.2.2.2.1 x1).bind fun t692 => (if t692 ≥ 0 then (if t692 < (bt677.2.2.1.length : Int) then (if 0 ≤ t692 then ((some (bt677.2.2.1.set (t692 : Int).toNat (⟨(rd_T95 bt677.2.2.1 t692).f0, x2, (rd_T95 bt677.2.2.1 t692).f2⟩ : S95) : List (S95))).bind fun y693 => (some (bt677.1, bt677.2.1, (y693.set (t692 : Int).toNat (⟨(rd_T95 y693 t692).f0, (rd_T95 y693 t692).f1, mn 3 (wrap64 (((rd_T95 y693 t692).f2) + 1))⟩ : S95)), bt677.2.2.2.1, bt677.2.2.2.2, y689, true))) else (none)) else (if 0 ≤ (wrap64 (t692 - (bt677.2.2.1.length : Int))) then (if (wrap64 (t692 - (bt677.2.2.1.length : Int))) < (bt677.2.2.2.1.length : Int) then ((some (bt677.2.2.2.1.set ((wrap64 (t692 - (bt677.2.2.1.length : Int))) : Int).toNat (⟨(rd_T95 bt677.2.2.2.1 (wrap64 (t692 - (bt677.2.2.1.length : Int)))).f0, x2, (rd_T95 bt677.2.2.2.1 (wrap64 (t692 - (bt677.2.2.1.length : Int)))).f2⟩ : S95) : List (S95))).bind fun y695 => (some (bt677.1, bt677.2.1, bt677.2.2.1, (y695.set ((wrap64 (t692 - (bt677.2.2.1.length : Int))) : Int).toNat (⟨(rd_T95 y695 (wrap64 (t692 - (bt677.2.2.1.length : Int)))).f0, (rd_T95 y695 (wrap64 (t692 - (bt677.2.2.1.length : Int)))).f1, mn 3 (wrap64 (((rd_T95 y695 (wrap64 (t692 - (bt677.2.2.1.length : Int)))).f2) + 1))⟩ : S95)), bt677.2.2.2.2, y689, true))) else (none)) else (none))) else (impl_Put.l0 k x1 x2 y689 bt677.1 bt677.2.1 bt677.2.2.1 bt677.2.2.2.1 bt677.2.2.2.2)))))
def impl_Put.l0 : Nat → ByteArray → ByteArray → List ByteArray → Int → Int → List (S95) → List (S95) → List Int → Option (Int × Int × (List (S95)) × (List (S95)) × List Int × List ByteArray × Bool)
 | 0, _, _, _, _, _, _, _, _ => none
 | k + 1, x1, x2, x10, x689000, x689001, x689002, x689003, x689004 => if (wrap64 ((x689002.length : Int) + (x689003.length : Int))) ≥ x689000 then ((impl_Three_evict.f k x689000 x689001 x689002 x689003 x689004).bind fun bt697 => (if x10.length < 8796093022208 then (impl_Put.l0 k x1 x2 (x10 ++ [bt697.2.2.2.2.2.1]) bt697.1 bt697.2.1 bt697.2.2.1 bt697.2.2.2.1 bt697.2.2.2.2.1) else (none))) else ((impl_Hash.f k x1).bind fun t713 => ((slices_Contains_int_int.f k x689004 t713).bind fun t715 => (if t715 = true then ((slices_DeleteFunc_int_int.f x689004 t713).bind fun t716 => (if x689003.length < 3518437208883 then ((impl_copyThree.f x689000 x689001 x689002 (x689003 ++ [(⟨x1, x2, 0⟩ : S95)]) t716).bind fun bt722 => (some (bt722.1, bt722.2.1, bt722.2.2.1, bt722.2.2.2.1, bt722.2.2.2.2, x10, true))) else (none))) else (if x689002.length < 3518437208883 then ((impl_copyThree.f x689000 x689001 (x689002 ++ [(⟨x1, x2, 0⟩ : S95)]) x689003 x689004).bind fun bt736 => (some (bt736.1, bt736.2.1, bt736.2.2.1, bt736.2.2.2.1, bt736.2.2.2.2, x10, true))) else (none)))))
end
def impl_Put.f (k : Nat) (a0_0 : Int) (a0_1 : Int) (l0_2 : List (S95)) (l0_3 : List (S95)) (l0_4 : List Int) (a1 : ByteArray) (a2 : ByteArray) : Option (Int × Int × (List (S95)) × (List (S95)) × List Int × List ByteArray × Bool) := (impl_ThreeOk.f k a0_0 a0_1 l0_2 l0_3 l0_4).bind fun t675 => (if t675 = true then ((impl_ItemOk.f k a1 a2 0).bind fun t676 => (impl_Put.j0 k a1 a2 (!t676) a0_0 a0_1 l0_2 l0_3 l0_4)) else (impl_Put.j0 k a1 a2 true a0_0 a0_1 l0_2 l0_3 l0_4))
theorem impl_Put.mono_l : ∀ k, (∀ y0 y1 y2 y3 y4 y5 y6 y7, LeO (impl_Put.j0 k y0 y1 y2 y3 y4 y5 y6 y7) (impl_Put.j0 (k + 1) y0 y1 y2 y3 y4 y5 y6 y7)) ∧ (∀ y0 y1 y2 y3 y4 y5 y6 y7, LeO (impl_Put.l0 k y0 y1 y2 y3 y4 y5 y6 y7) (impl_Put.l0 (k + 1) y0 y1 y2 y3 y4 y5 y6 y7))
 | 0 => ⟨fun _ _ _ _ _ _ _ _ r h => by simp [impl_Put.j0] at h, fun _ _ _ _ _ _ _ _ r h => by simp [impl_Put.l0] at h⟩
 | k + 1 => by
  obtain ⟨ih0, ih1⟩ := impl_Put.mono_l k
  refine ⟨?_, ?_⟩
  ·intro y0 y1 y2 y3 y4 y5 y6 y7
   unfold impl_Put.j0
   repeat' first | (with_reducible first | exact ih0 _ _ _ _ _ _ _ _ | exact ih1 _ _ _ _ _ _ _ _ | exact impl_Hash.mono _ _ | exact impl_ItemOk.mono _ _ _ _ | exact impl_ThreeOk.mono _ _ _ _ _ _ | exact impl_Three_evict.mono _ _ _ _ _ _ | exact slices_Contains_int_int.mono _ _ _ | exact LeO.refl _ | exact LeO.none _ | refine LeO.ite ?_ ?_ | refine LeO.bind ?_ (fun _ => ?_)) | exact ih0 _ _ _ _ _ _ _ _ | exact ih1 _ _ _ _ _ _ _ _ | exact impl_Hash.mono _ _ | exact impl_ItemOk.mono _ _ _ _ | exact impl_ThreeOk.mono _ _ _ _ _ _ | exact impl_Three_evict.mono _ _ _ _ _ _ | exact slices_Contains_int_int.mono _ _ _ | exact LeO.none _ | refine LeO.ite ?_ ?_ | refine LeO.bind ?_ (fun _ => ?_)
  ·intro y0 y1 y2 y3 y4 y5 y6 y7
   unfold impl_Put.l0
   repeat' first | (with_reducible first | exact ih0 _ _ _ _ _ _ _ _ | exact ih1 _ _ _ _ _ _ _ _ | exact impl_Hash.mono _ _ | exact impl_ItemOk.mono _ _ _ _ | exact impl_ThreeOk.mono _ _ _ _ _ _ | exact impl_Three_evict.mono _ _ _ _ _ _ | exact slices_Contains_int_int.mono _ _ _ | exact LeO.refl _ | exact LeO.none _ | refine LeO.ite ?_ ?_ | refine LeO.bind ?_ (fun _ => ?_)) | exact ih0 _ _ _ _ _ _ _ _ | exact ih1 _ _ _ _ _ _ _ _ | exact impl_Hash.mono _ _ | exact impl_ItemOk.mono _ _ _ _ | exact impl_ThreeOk.mono _ _ _ _ _ _ | exact impl_Three_evict.mono _ _ _ _ _ _ | exact slices_Contains_int_int.mono _ _ _ | exact LeO.none _ | refine LeO.ite ?_ ?_ | refine LeO.bind ?_ (fun _ => ?_)
theorem impl_Put.mono : ∀ a0 a1 a2 a3 a4 a5 a6 k, LeO (impl_Put.f k a0 a1 a2 a3 a4 a5 a6) (impl_Put.f (k + 1) a0 a1 a2 a3 a4 a5 a6) := by
 intro a0 a1 a2 a3 a4 a5 a6 k
 obtain ⟨ih0, ih1⟩ := impl_Put.mono_l k
 unfold impl_Put.f
 repeat' first | (with_reducible first | exact ih0 _ _ _ _ _ _ _ _ | exact ih1 _ _ _ _ _ _ _ _ | exact impl_Hash.mono _ _ | exact impl_ItemOk.mono _ _ _ _ | exact impl_ThreeOk.mono _ _ _ _ _ _ | exact impl_Three_evict.mono _ _ _ _ _ _ | exact slices_Contains_int_int.mono _ _ _ | exact LeO.refl _ | exact LeO.none _ | refine LeO.ite ?_ ?_ | refine LeO.bind ?_ (fun _ => ?_)) | exact ih0 _ _ _ _ _ _ _ _ | exact ih1 _ _ _ _ _ _ _ _ | exact impl_Hash.mono _ _ | exact impl_ItemOk.mono _ _ _ _ | exact impl_ThreeOk.mono _ _ _ _ _ _ | exact impl_Three_evict.mono _ _ _ _ _ _ | exact slices_Contains_int_int.mono _ _ _ | exact LeO.none _ | refine LeO.ite ?_ ?_ | refine LeO.bind ?_ (fun _ => ?_)
set_option maxHeartbeats 8000000 in
set_option maxRecDepth 100000 in
theorem impl_Put.calls (k : Nat) (a0_0 : Int) (a0_1 : Int) (A0_2 : Option Addr) (c0_2 : Nat) (l0_2 : List (S95)) (A0_3 : Option Addr) (c0_3 : Nat) (l0_3 : List (S95)) (A0_4 : Option Addr) (c0_4 : Nat) (l0_4 : List Int) (a1 : ByteArray) (a2 : ByteArray) (r1 : Int) (r2 : Int) (r3 : List (S95)) (r4 : List (S95)) (r5 : List Int) (r6 : List ByteArray) (r7 : Bool) (w : World) (hr0_2 : Kd.C k95 w A0_2 l0_2.length l0_2) (hc0_2 : l0_2.length ≤ c0_2) (hr0_3 : Kd.C k95 w A0_3 l0_3.length l0_3) (hc0_3 : l0_3.length ≤ c0_3) (hr0_4 : Kd.C (Kd.int .i64) w A0_4 l0_4.length l0_4) (hc0_4 : l0_4.length ≤ c0_4) (h : impl_Put.f k a0_0 a0_1 l0_2 l0_3 l0_4 a1 a2 = some (r1, r2, r3, r4, r5, r6, r7)) :
  Calls Try.prog 40 #[.agg #[.int .i64 a0_0, .int .i64 a0_1, .slice A0_2 l0_2.length c0_2, .slice A0_3 l0_3.length c0_3, .slice A0_4 l0_4.length c0_4], .string a1, .string a2] w fun e w' => ∃ v2_ v3_ v4_ v5_ : Value, e = .returned (.tuple #[.agg #[.int .i64 r1, .int .i64 r2, v2_, v3_, v4_], v5_, .bool r7]) ∧ Mem w [] w' [rowR k95 95 v2_ r3, rowR k95 95 v3_ r4, rowR (Kd.int .i64) 3 v4_ r5, rowR Kd.string 9 v5_ r6] := by
 have hu32 := Try.underlying32
 have hu95 := Try.underlying95
 have HR0_2 := Aside0.mk hr0_2
 have HC0_2 := Aside0.mk hc0_2
 clear hr0_2 hc0_2
 have HR0_3 := Aside0.mk hr0_3
 have HC0_3 := Aside0.mk hc0_3
 clear hr0_3 hc0_3
 have HR0_4 := Aside0.mk hr0_4
 have HC0_4 := Aside0.mk hc0_4
 clear hr0_4 hc0_4
 have HM := Mem.nil w
 have H := h
 clear h
 unfold impl_Put.f at H
 go_enter Try.func40, Try.ntmps40
 have HC6 := Aside0.mk H
 clear H
 go_upto_region 1 with (first | ((with_reducible refine gate_dst (N := 3) rfl ?_); refine pB 3 32 [.int .i64 a0_0, .int .i64 a0_1, .slice A0_2 l0_2.length c0_2, .slice A0_3 l0_3.length c0_3, .slice A0_4 l0_4.length c0_4] HM rfl ?_; clear HM; intro gb673 w4 HM) | ((with_reducible refine gate_dst (N := 6) rfl ?_); refine pB 6 32 [.int .i64 0, .int .i64 0, .slice none 0 0, .slice none 0 0, .slice none 0 0] HM rfl ?_; clear HM; intro gb674 w5 HM))
 replace HM := nzM HM
 go_cut [24] (fun v24 wc => ∃ (kq : Nat) (x24_5 : Bool), v24 = .bool x24_5 ∧ Aside0 (impl_Put.j0 kq a1 a2 x24_5 a0_0 a0_1 l0_2 l0_3 l0_4 = some (r1, r2, r3, r4, r5, r6, r7)) ∧ Aside0 (kq ≤ k) ∧ Mem w [] wc [box 32 gb673 [.int .i64 a0_0, .int .i64 a0_1, .slice A0_2 l0_2.length c0_2, .slice A0_3 l0_3.length c0_3, .slice A0_4 l0_4.length c0_4], box 32 gb674 [.int .i64 0, .int .i64 0, .slice none 0 0, .slice none 0 0, .slice none 0 0]])
 case first =>
  have H := HC6.out
  clear HC6
  replace H := BN H; obtain ⟨t675, A8, H⟩ := H
  replace H := IB H
  rcases H with ⟨c10, H⟩ | ⟨c10, H⟩
  ·subst c10
   replace H := BN H; obtain ⟨t676, A11, H⟩ := H
   have H' := Aside0.mk H
   clear H
   obtain ⟨hcz7_0, hcz7_1, hcz7_2, hcz7_3, hcz7_4, hfz7_0, hfz7_1, hfz7_2, hfz7_3, hfz7_4⟩ := bk5 (HM.bx 0 rfl)
   go_wp2_with (first | ((with_reducible refine gate_callee (f := 27) rfl ?_); refine pC (some 16) rfl #[.agg #[.int .i64 a0_0, .int .i64 a0_1, .slice A0_2 l0_2.length c0_2, .slice A0_3 l0_3.length c0_3, .slice A0_4 l0_4.length c0_4]] rfl Try.func27 (impl_ThreeOk.calls k a0_0 a0_1 _ _ l0_2 _ _ l0_3 _ _ l0_4 true _ (HM.came HR0_2.out) HC0_2.out (HM.came HR0_3.out) HC0_3.out (HM.came HR0_4.out) HC0_4.out A8.out) ?_; rintro e w9 ⟨rfl, hR⟩; refine ⟨_, rfl, ?_⟩; replace HM := HM.call hR; clear hR) | ((with_reducible refine gate_callee (f := 75) rfl ?_); refine pC (some 22) rfl #[.agg #[.string a1, .string a2, .int .i64 0]] rfl Try.func75 (impl_ItemOk.calls k a1 a2 0 t676 _ A11.out) ?_; rintro e w12 ⟨rfl, hR⟩; refine ⟨_, rfl, ?_⟩; replace HM := HM.call hR; clear hR))
   go_meet
   case rel => exact ⟨_, (!t676), RS, H', ⟨by first | omega | exact Nat.le_refl _⟩, (MD HM).pick [0, 1]⟩
  ·subst c10
   have H' := Aside0.mk H
   clear H
   obtain ⟨hcz7_0, hcz7_1, hcz7_2, hcz7_3, hcz7_4, hfz7_0, hfz7_1, hfz7_2, hfz7_3, hfz7_4⟩ := bk5 (HM.bx 0 rfl)
   go_wp2_with (first | ((with_reducible refine gate_callee (f := 27) rfl ?_); refine pC (some 16) rfl #[.agg #[.int .i64 a0_0, .int .i64 a0_1, .slice A0_2 l0_2.length c0_2, .slice A0_3 l0_3.length c0_3, .slice A0_4 l0_4.length c0_4]] rfl Try.func27 (impl_ThreeOk.calls k a0_0 a0_1 _ _ l0_2 _ _ l0_3 _ _ l0_4 false _ (HM.came HR0_2.out) HC0_2.out (HM.came HR0_3.out) HC0_3.out (HM.came HR0_4.out) HC0_4.out A8.out) ?_; rintro e w9 ⟨rfl, hR⟩; refine ⟨_, rfl, ?_⟩; replace HM := HM.call hR; clear hR))
   go_meet
   case rel => exact ⟨_, (true), RS, H', ⟨by first | omega | exact Nat.le_refl _⟩, (MD HM).pick [0, 1]⟩
 case rest =>
  clear HC6 HM
  obtain ⟨kq, x24_5, rfl, HA, HJ5, HM⟩ := hcut
  cases kq with
  | zero => exact absurd HA.out (by simp [impl_Put.j0])
  | succ kj5 =>
   have H := HA.out
   clear HA
   simp only [impl_Put.j0] at H
   replace H := IB H
   rcases H with ⟨c13, H⟩ | ⟨c13, H⟩
   ·subst c13
    simp only [Option.some.injEq, Prod.mk.injEq] at H
    obtain ⟨rfl, rfl, rfl, rfl, rfl, rfl, rfl⟩ := H
    go_wp2_with (first | ((with_reducible refine gate_st (p := 6) rfl ?_); refine pS 1 6 0 [.int .i64 0, .int .i64 0, .slice none 0 0, .slice none 0 0, .slice none 0 0] HM rfl rfl ?_; clear HM; intro w14 HM; replace HM := HM.nl k95 95; replace HM := HM.nl k95 95; replace HM := HM.nl (Kd.int .i64) 3; replace HM := HM.nl Kd.string 9))
    refine bodyPost_ret (results_ctt rfl _ _ gb674 32 #[.int .i64 0, .int .i64 0, .slice none 0 0, .slice none 0 0, .slice none 0 0] (0, 0) _ rfl (HM.bx 1 rfl) Try.underlying32 rfl (by kernel_rfl)) rfl ?_
    exact ⟨_, _, _, _, ER, (MD HM).pick [2, 3, 4, 5]⟩
   ·subst c13
    replace H := BN H; obtain ⟨⟨t677, t678, t679, t682, t685⟩, A16, H⟩ := H
    replace H := BLt H; obtain ⟨y689, Ny689, H⟩ := H
    replace Ny689 := Aside0.mk Ny689
    replace H := BN H; obtain ⟨t692, A25, H⟩ := H
    replace H := IT H; rcases H with ⟨c27, H⟩ | ⟨c27, H⟩
    ·have c27b0 : decide (0 ≤ t692) = true := decide_eq_true c27
     clear c27
     replace H := IT H; rcases H with ⟨c29, H⟩ | ⟨c29, H⟩
     ·have c29b0 : decide (t692 < (t679.length : Int)) = true := decide_eq_true c29
      clear c29
      replace H := GD H; obtain ⟨c30, H⟩ := H
      have c30b0 : decide (0 ≤ t692) = true := decide_eq_true c30
      clear c30
      replace H := BLt H; obtain ⟨y693, Ny693, H⟩ := H
      replace Ny693 := Aside0.mk Ny693
      obtain ⟨ji35, hji35⟩ : ∃ j_ : Int, (mn 3 (wrap64 (((rd_T95 y693 t692).f2) + 1))) = j_ := ⟨_, rfl⟩
      (first | rw [hji35] at H | simp only [hji35] at H | skip)
      have hji35_ : (if (wrap64 (((rd_T95 y693 t692).f2) + 1)) < 3 then (wrap64 (((rd_T95 y693 t692).f2) + 1)) else 3) = ji35 := hji35
      (try (have hji35h : ji35 ≤ 3 := by (rw [← hji35]; unfold mn; (repeat' split) <;> omega)))
      simp only [Option.some.injEq, Prod.mk.injEq] at H
      obtain ⟨rfl, rfl, rfl, rfl, rfl, rfl, rfl⟩ := H
      obtain ⟨hcz15_0, hcz15_1, hcz15_2, hcz15_3, hcz15_4, hfz15_0, hfz15_1, hfz15_2, hfz15_3, hfz15_4⟩ := bk5 (HM.bx 0 rfl)
      go_wp2_with (first | ((with_reducible refine gate_callee (f := 49) rfl ?_); refine pC (some 27) rfl #[.agg #[.int .i64 a0_0, .int .i64 a0_1, .slice A0_2 l0_2.length c0_2, .slice A0_3 l0_3.length c0_3, .slice A0_4 l0_4.length c0_4]] rfl Try.func49 (impl_copyThree.calls a0_0 a0_1 _ _ l0_2 _ _ l0_3 _ _ l0_4 t677 t678 t679 t682 t685 _ (HM.came HR0_2.out) HC0_2.out (HM.came HR0_3.out) HC0_3.out (HM.came HR0_4.out) HC0_4.out A16.out) ?_; rintro e w17 ⟨v680, v683, v686, rfl, hR⟩; refine ⟨_, rfl, ?_⟩; replace HM := HM.call hR; clear hR) | ((with_reducible refine gate_dst (N := 9) rfl ?_); refine pB 9 32 [.int .i64 0, .int .i64 0, .slice none 0 0, .slice none 0 0, .slice none 0 0] HM rfl ?_; clear HM; intro gb688 w18 HM; obtain ⟨Xo19, ko19, eo19⟩ := HM.rdR 2 rfl; subst eo19; obtain ⟨Xo20, ko20, eo20⟩ := HM.rdR 3 rfl; subst eo20; obtain ⟨Xo21, ko21, eo21⟩ := HM.rdR 4 rfl; subst eo21) | ((with_reducible refine gate_st (p := 9) rfl ?_); refine pS 5 9 0 [.int .i64 t677, .int .i64 t678, .slice Xo19 t679.length ko19, .slice Xo20 t682.length ko20, .slice Xo21 t685.length ko21] HM rfl rfl ?_; clear HM; intro w22 HM) | ((with_reducible refine gate_dst (N := 28) rfl ?_); refine pL 28 Kd.string 9 ([] : List ByteArray) [] (Reps.none _ _) HM rfl ?_; clear HM; intro v690 w23 HM; replace HM := HM.nm 6 rfl Ny689.out; obtain ⟨hcz24_0, hcz24_1, hcz24_2, hcz24_3, hcz24_4, hfz24_0, hfz24_1, hfz24_2, hfz24_3, hfz24_4⟩ := bk5 (HM.bx 5 rfl)) | ((with_reducible refine gate_callee (f := 61) rfl ?_); refine pC (some 30) rfl #[.pointer (some ⟨gb688, 0, none⟩), .string a1] rfl Try.func61 (impl_Three_item.calls gb688 t677 t678 (.slice Xo21 t685.length ko21) Xo19 ko19 t679 Xo20 ko20 t682 a1 t692 _ (HM.CR 2 rfl).2.2 (HM.CR 2 rfl).2.1 (HM.CR 3 rfl).2.2 (HM.CR 3 rfl).2.1 (HM.bx 5 rfl) A25.out) ?_; rintro e w26 ⟨rfl, hb⟩; refine ⟨_, rfl, ?_⟩; replace HM := HM.below hb; clear hb; have pf32 : 0 ≤ (t692 : Int) := of_decide_eq_true AS; have qf32 : (t692 : Int) < ((t679.length : Int) : Int) := of_decide_eq_true AS; obtain ⟨gof32, eff32⟩ := HM.form 2 rfl (by have h_ := (HM.CR 2 rfl).1; omega); subst eff32; clear pf32 qf32; (first | rw [impl_Three_item.ptr_nil (by assumption)] | rw [impl_Three_item.ptr_small (by assumption) (by assumption)] | rw [impl_Three_item.ptr_main (by assumption) (by assumption)] | rw [impl_Three_item.ptr_nil' (by assumption)] | rw [impl_Three_item.ptr_small' (by assumption) (by assumption)] | rw [impl_Three_item.ptr_main' (by assumption) (by assumption)]); obtain ⟨hcz28_0, hcz28_1, hcz28_2, hcz28_3, hcz28_4, hfz28_0, hfz28_1, hfz28_2, hfz28_3, hfz28_4⟩ := bk5 (HM.bx 5 rfl); have p31 : 0 ≤ (t692 : Int) := of_decide_eq_true AS; have q31 : (t692 : Int) < ((t679.length : Int) : Int) := of_decide_eq_true AS; obtain ⟨hcc31, hfr31⟩ := HM.el 2 rfl z95 (t692 : Int) p31 (by have h_ := (HM.CR 2 rfl).1; omega) [.string ((rd_T95 t679 t692).f0), .string ((rd_T95 t679 t692).f1), .int .i64 ((rd_T95 t679 t692).f2)] (fun _ _ h => k95_openM h); have hx31_0 : w26.cell? ⟨gof32, (t692 : Int).toNat * 3, none⟩ = some (.string ((rd_T95 t679 t692).f0)) := (by have h_ := hcc31 0 _ rfl; first | exact h_ | (simp only [show (k95).sz = 3 from rfl, Nat.mul_one, Nat.add_zero] at h_; exact h_) | simpa using h_); have hf31_0 : w26.frozen? ⟨gof32, (t692 : Int).toNat * 3, none⟩ = false := (by have h_ := hfr31 0; first | exact h_ | (simp only [show (k95).sz = 3 from rfl, Nat.mul_one, Nat.add_zero] at h_; exact h_) | simpa using h_); have hx31_1 : w26.cell? ⟨gof32, (t692 : Int).toNat * 3 + 1, none⟩ = some (.string ((rd_T95 t679 t692).f1)) := (by have h_ := hcc31 1 _ rfl; first | exact h_ | (simp only [show (k95).sz = 3 from rfl, Nat.mul_one, Nat.add_zero] at h_; exact h_) | simpa using h_); have hf31_1 : w26.frozen? ⟨gof32, (t692 : Int).toNat * 3 + 1, none⟩ = false := (by have h_ := hfr31 1; first | exact h_ | (simp only [show (k95).sz = 3 from rfl, Nat.mul_one, Nat.add_zero] at h_; exact h_) | simpa using h_); have hx31_2 : w26.cell? ⟨gof32, (t692 : Int).toNat * 3 + 2, none⟩ = some (.int .i64 ((rd_T95 t679 t692).f2)) := (by have h_ := hcc31 2 _ rfl; first | exact h_ | (simp only [show (k95).sz = 3 from rfl, Nat.mul_one, Nat.add_zero] at h_; exact h_) | simpa using h_); have hf31_2 : w26.frozen? ⟨gof32, (t692 : Int).toNat * 3 + 2, none⟩ = false := (by have h_ := hfr31 2; first | exact h_ | (simp only [show (k95).sz = 3 from rfl, Nat.mul_one, Nat.add_zero] at h_; exact h_) | simpa using h_); clear hcc31 hfr31; replace p31 := eq_true p31; replace q31 := eq_true q31) | ((with_reducible refine gate_st (p := 36) rfl ?_); refine pPR 2 36 (t692 : Int) 1 [.string a2] k95 95 t679 (⟨(rd_T95 t679 t692).f0, a2, (rd_T95 t679 t692).f2⟩ : S95) z95 [.string ((rd_T95 t679 t692).f0), .string ((rd_T95 t679 t692).f1), .int .i64 ((rd_T95 t679 t692).f2)] HM rfl rfl (of_decide_eq_true AS) (by have h_ : (t692 : Int) < ((t679.length : Int) : Int) := of_decide_eq_true AS; have e_ := (HM.CR 2 rfl).1; omega) (fun _ _ h => k95_openM h) (k95_mkM _ _ _ (⟨(rd_T95 t679 t692).f0, a2, (rd_T95 t679 t692).f2⟩ : S95)) ?_; clear HM; intro w33 HM; replace HM := HM.nm 2 rfl Ny693.out; have p34 : 0 ≤ (t692 : Int) := of_decide_eq_true AS; have q34 : (t692 : Int) < ((t679.length : Int) : Int) := of_decide_eq_true AS; obtain ⟨hcc34, hfr34⟩ := HM.el 2 rfl z95 (t692 : Int) p34 (by have h_ := (HM.CR 2 rfl).1; omega) [.string ((rd_T95 y693 t692).f0), .string ((rd_T95 y693 t692).f1), .int .i64 ((rd_T95 y693 t692).f2)] (fun _ _ h => k95_openM h); have hx34_0 : w33.cell? ⟨gof32, (t692 : Int).toNat * 3, none⟩ = some (.string ((rd_T95 y693 t692).f0)) := (by have h_ := hcc34 0 _ rfl; first | exact h_ | (simp only [show (k95).sz = 3 from rfl, Nat.mul_one, Nat.add_zero] at h_; exact h_) | simpa using h_); have hf34_0 : w33.frozen? ⟨gof32, (t692 : Int).toNat * 3, none⟩ = false := (by have h_ := hfr34 0; first | exact h_ | (simp only [show (k95).sz = 3 from rfl, Nat.mul_one, Nat.add_zero] at h_; exact h_) | simpa using h_); have hx34_1 : w33.cell? ⟨gof32, (t692 : Int).toNat * 3 + 1, none⟩ = some (.string ((rd_T95 y693 t692).f1)) := (by have h_ := hcc34 1 _ rfl; first | exact h_ | (simp only [show (k95).sz = 3 from rfl, Nat.mul_one, Nat.add_zero] at h_; exact h_) | simpa using h_); have hf34_1 : w33.frozen? ⟨gof32, (t692 : Int).toNat * 3 + 1, none⟩ = false := (by have h_ := hfr34 1; first | exact h_ | (simp only [show (k95).sz = 3 from rfl, Nat.mul_one, Nat.add_zero] at h_; exact h_) | simpa using h_); have hx34_2 : w33.cell? ⟨gof32, (t692 : Int).toNat * 3 + 2, none⟩ = some (.int .i64 ((rd_T95 y693 t692).f2)) := (by have h_ := hcc34 2 _ rfl; first | exact h_ | (simp only [show (k95).sz = 3 from rfl, Nat.mul_one, Nat.add_zero] at h_; exact h_) | simpa using h_); have hf34_2 : w33.frozen? ⟨gof32, (t692 : Int).toNat * 3 + 2, none⟩ = false := (by have h_ := hfr34 2; first | exact h_ | (simp only [show (k95).sz = 3 from rfl, Nat.mul_one, Nat.add_zero] at h_; exact h_) | simpa using h_); clear hcc34 hfr34; replace p34 := eq_true p34; replace q34 := eq_true q34) | ((with_reducible refine gate_st (p := 45) rfl ?_); refine pPR 2 45 (t692 : Int) 2 [.int .i64 ji35] k95 95 y693 (⟨(rd_T95 y693 t692).f0, (rd_T95 y693 t692).f1, ji35⟩ : S95) z95 [.string ((rd_T95 y693 t692).f0), .string ((rd_T95 y693 t692).f1), .int .i64 ((rd_T95 y693 t692).f2)] HM rfl rfl (of_decide_eq_true AS) (by have h_ : (t692 : Int) < ((t679.length : Int) : Int) := of_decide_eq_true AS; have e_ := (HM.CR 2 rfl).1; omega) (fun _ _ h => k95_openM h) (k95_mkM _ _ _ (⟨(rd_T95 y693 t692).f0, (rd_T95 y693 t692).f1, ji35⟩ : S95)) ?_; clear HM; intro w36 HM; have p37 : 0 ≤ (t692 : Int) := of_decide_eq_true AS; have q37 : (t692 : Int) < ((t679.length : Int) : Int) := of_decide_eq_true AS; obtain ⟨hcc37, hfr37⟩ := HM.el 2 rfl z95 (t692 : Int) p37 (by have h_ := (HM.CR 2 rfl).1; omega) [.string ((rd_T95 (y693.set (t692 : Int).toNat (⟨(rd_T95 y693 t692).f0, (rd_T95 y693 t692).f1, ji35⟩ : S95)) t692).f0), .string ((rd_T95 (y693.set (t692 : Int).toNat (⟨(rd_T95 y693 t692).f0, (rd_T95 y693 t692).f1, ji35⟩ : S95)) t692).f1), .int .i64 ((rd_T95 (y693.set (t692 : Int).toNat (⟨(rd_T95 y693 t692).f0, (rd_T95 y693 t692).f1, ji35⟩ : S95)) t692).f2)] (fun _ _ h => k95_openM h); have hx37_0 : w36.cell? ⟨gof32, (t692 : Int).toNat * 3, none⟩ = some (.string ((rd_T95 (y693.set (t692 : Int).toNat (⟨(rd_T95 y693 t692).f0, (rd_T95 y693 t692).f1, ji35⟩ : S95)) t692).f0)) := (by have h_ := hcc37 0 _ rfl; first | exact h_ | (simp only [show (k95).sz = 3 from rfl, Nat.mul_one, Nat.add_zero] at h_; exact h_) | simpa using h_); have hf37_0 : w36.frozen? ⟨gof32, (t692 : Int).toNat * 3, none⟩ = false := (by have h_ := hfr37 0; first | exact h_ | (simp only [show (k95).sz = 3 from rfl, Nat.mul_one, Nat.add_zero] at h_; exact h_) | simpa using h_); have hx37_1 : w36.cell? ⟨gof32, (t692 : Int).toNat * 3 + 1, none⟩ = some (.string ((rd_T95 (y693.set (t692 : Int).toNat (⟨(rd_T95 y693 t692).f0, (rd_T95 y693 t692).f1, ji35⟩ : S95)) t692).f1)) := (by have h_ := hcc37 1 _ rfl; first | exact h_ | (simp only [show (k95).sz = 3 from rfl, Nat.mul_one, Nat.add_zero] at h_; exact h_) | simpa using h_); have hf37_1 : w36.frozen? ⟨gof32, (t692 : Int).toNat * 3 + 1, none⟩ = false := (by have h_ := hfr37 1; first | exact h_ | (simp only [show (k95).sz = 3 from rfl, Nat.mul_one, Nat.add_zero] at h_; exact h_) | simpa using h_); have hx37_2 : w36.cell? ⟨gof32, (t692 : Int).toNat * 3 + 2, none⟩ = some (.int .i64 ((rd_T95 (y693.set (t692 : Int).toNat (⟨(rd_T95 y693 t692).f0, (rd_T95 y693 t692).f1, ji35⟩ : S95)) t692).f2)) := (by have h_ := hcc37 2 _ rfl; first | exact h_ | (simp only [show (k95).sz = 3 from rfl, Nat.mul_one, Nat.add_zero] at h_; exact h_) | simpa using h_); have hf37_2 : w36.frozen? ⟨gof32, (t692 : Int).toNat * 3 + 2, none⟩ = false := (by have h_ := hfr37 2; first | exact h_ | (simp only [show (k95).sz = 3 from rfl, Nat.mul_one, Nat.add_zero] at h_; exact h_) | simpa using h_); clear hcc37 hfr37; replace p37 := eq_true p37; replace q37 := eq_true q37; obtain ⟨hcz38_0, hcz38_1, hcz38_2, hcz38_3, hcz38_4, hfz38_0, hfz38_1, hfz38_2, hfz38_3, hfz38_4⟩ := bk5 (HM.bx 5 rfl)) | ((with_reducible refine gate_st (p := 6) rfl ?_); refine pS 1 6 0 [.int .i64 t677, .int .i64 t678, .slice (some ⟨gof32, 0, none⟩) t679.length ko19, .slice Xo20 t682.length ko20, .slice Xo21 t685.length ko21] HM rfl rfl ?_; clear HM; intro w39 HM))
      refine bodyPost_ret (results_ctt rfl _ _ gb674 32 #[.int .i64 t677, .int .i64 t678, .slice (some ⟨gof32, 0, none⟩) t679.length ko19, .slice Xo20 t682.length ko20, .slice Xo21 t685.length ko21] (0, 0) _ rfl (HM.bx 1 rfl) Try.underlying32 rfl (by kernel_rfl)) rfl ?_
      exact ⟨_, _, _, _, ER, (MD HM).pick [2, 3, 4, 6]⟩
     ·have c29b0 : decide (t692 < (t679.length : Int)) = false := decide_eq_false c29
      clear c29
      replace H := GD H; obtain ⟨c40, H⟩ := H
      have c40b0 : decide (0 ≤ (wrap64 (t692 - (t679.length : Int)))) = true := decide_eq_true c40
      clear c40
      replace H := GD H; obtain ⟨c41, H⟩ := H
      have c41b0 : decide ((wrap64 (t692 - (t679.length : Int))) < (t682.length : Int)) = true := decide_eq_true c41
      clear c41
      replace H := BLt H; obtain ⟨y695, Ny695, H⟩ := H
      replace Ny695 := Aside0.mk Ny695
      obtain ⟨ji46, hji46⟩ : ∃ j_ : Int, (mn 3 (wrap64 (((rd_T95 y695 (wrap64 (t692 - (t679.length : Int)))).f2) + 1))) = j_ := ⟨_, rfl⟩
      (first | rw [hji46] at H | simp only [hji46] at H | skip)
      have hji46_ : (if (wrap64 (((rd_T95 y695 (wrap64 (t692 - (t679.length : Int)))).f2) + 1)) < 3 then (wrap64 (((rd_T95 y695 (wrap64 (t692 - (t679.length : Int)))).f2) + 1)) else 3) = ji46 := hji46
      (try (have hji46h : ji46 ≤ 3 := by (rw [← hji46]; unfold mn; (repeat' split) <;> omega)))
      simp only [Option.some.injEq, Prod.mk.injEq] at H
      obtain ⟨rfl, rfl, rfl, rfl, rfl, rfl, rfl⟩ := H
      obtain ⟨hcz15_0, hcz15_1, hcz15_2, hcz15_3, hcz15_4, hfz15_0, hfz15_1, hfz15_2, hfz15_3, hfz15_4⟩ := bk5 (HM.bx 0 rfl)
      go_wp2_with (first | ((with_reducible refine gate_callee (f := 49) rfl ?_); refine pC (some 27) rfl #[.agg #[.int .i64 a0_0, .int .i64 a0_1, .slice A0_2 l0_2.length c0_2, .slice A0_3 l0_3.length c0_3, .slice A0_4 l0_4.length c0_4]] rfl Try.func49 (impl_copyThree.calls a0_0 a0_1 _ _ l0_2 _ _ l0_3 _ _ l0_4 t677 t678 t679 t682 t685 _ (HM.came HR0_2.out) HC0_2.out (HM.came HR0_3.out) HC0_3.out (HM.came HR0_4.out) HC0_4.out A16.out) ?_; rintro e w17 ⟨v680, v683, v686, rfl, hR⟩; refine ⟨_, rfl, ?_⟩; replace HM := HM.call hR; clear hR) | ((with_reducible refine gate_dst (N := 9) rfl ?_); refine pB 9 32 [.int .i64 0, .int .i64 0, .slice none 0 0, .slice none 0 0, .slice none 0 0] HM rfl ?_; clear HM; intro gb688 w18 HM; obtain ⟨Xo19, ko19, eo19⟩ := HM.rdR 2 rfl; subst eo19; obtain ⟨Xo20, ko20, eo20⟩ := HM.rdR 3 rfl; subst eo20; obtain ⟨Xo21, ko21, eo21⟩ := HM.rdR 4 rfl; subst eo21) | ((with_reducible refine gate_st (p := 9) rfl ?_); refine pS 5 9 0 [.int .i64 t677, .int .i64 t678, .slice Xo19 t679.length ko19, .slice Xo20 t682.length ko20, .slice Xo21 t685.length ko21] HM rfl rfl ?_; clear HM; intro w22 HM) | ((with_reducible refine gate_dst (N := 28) rfl ?_); refine pL 28 Kd.string 9 ([] : List ByteArray) [] (Reps.none _ _) HM rfl ?_; clear HM; intro v690 w23 HM; replace HM := HM.nm 6 rfl Ny689.out; obtain ⟨hcz24_0, hcz24_1, hcz24_2, hcz24_3, hcz24_4, hfz24_0, hfz24_1, hfz24_2, hfz24_3, hfz24_4⟩ := bk5 (HM.bx 5 rfl)) | ((with_reducible refine gate_callee (f := 61) rfl ?_); refine pC (some 30) rfl #[.pointer (some ⟨gb688, 0, none⟩), .string a1] rfl Try.func61 (impl_Three_item.calls gb688 t677 t678 (.slice Xo21 t685.length ko21) Xo19 ko19 t679 Xo20 ko20 t682 a1 t692 _ (HM.CR 2 rfl).2.2 (HM.CR 2 rfl).2.1 (HM.CR 3 rfl).2.2 (HM.CR 3 rfl).2.1 (HM.bx 5 rfl) A25.out) ?_; rintro e w26 ⟨rfl, hb⟩; refine ⟨_, rfl, ?_⟩; replace HM := HM.below hb; clear hb; have pf43 : 0 ≤ ((wrap64 (t692 - (t679.length : Int))) : Int) := of_decide_eq_true AS; have qf43 : ((wrap64 (t692 - (t679.length : Int))) : Int) < ((t682.length : Int) : Int) := of_decide_eq_true AS; obtain ⟨gof43, eff43⟩ := HM.form 3 rfl (by have h_ := (HM.CR 3 rfl).1; omega); subst eff43; clear pf43 qf43; (first | rw [impl_Three_item.ptr_nil (by assumption)] | rw [impl_Three_item.ptr_small (by assumption) (by assumption)] | rw [impl_Three_item.ptr_main (by assumption) (by assumption)] | rw [impl_Three_item.ptr_nil' (by assumption)] | rw [impl_Three_item.ptr_small' (by assumption) (by assumption)] | rw [impl_Three_item.ptr_main' (by assumption) (by assumption)]); obtain ⟨hcz28_0, hcz28_1, hcz28_2, hcz28_3, hcz28_4, hfz28_0, hfz28_1, hfz28_2, hfz28_3, hfz28_4⟩ := bk5 (HM.bx 5 rfl); have p42 : 0 ≤ ((wrap64 (t692 - (t679.length : Int))) : Int) := of_decide_eq_true AS; have q42 : ((wrap64 (t692 - (t679.length : Int))) : Int) < ((t682.length : Int) : Int) := of_decide_eq_true AS; obtain ⟨hcc42, hfr42⟩ := HM.el 3 rfl z95 ((wrap64 (t692 - (t679.length : Int))) : Int) p42 (by have h_ := (HM.CR 3 rfl).1; omega) [.string ((rd_T95 t682 (wrap64 (t692 - (t679.length : Int)))).f0), .string ((rd_T95 t682 (wrap64 (t692 - (t679.length : Int)))).f1), .int .i64 ((rd_T95 t682 (wrap64 (t692 - (t679.length : Int)))).f2)] (fun _ _ h => k95_openM h); have hx42_0 : w26.cell? ⟨gof43, ((wrap64 (t692 - (t679.length : Int))) : Int).toNat * 3, none⟩ = some (.string ((rd_T95 t682 (wrap64 (t692 - (t679.length : Int)))).f0)) := (by have h_ := hcc42 0 _ rfl; first | exact h_ | (simp only [show (k95).sz = 3 from rfl, Nat.mul_one, Nat.add_zero] at h_; exact h_) | simpa using h_); have hf42_0 : w26.frozen? ⟨gof43, ((wrap64 (t692 - (t679.length : Int))) : Int).toNat * 3, none⟩ = false := (by have h_ := hfr42 0; first | exact h_ | (simp only [show (k95).sz = 3 from rfl, Nat.mul_one, Nat.add_zero] at h_; exact h_) | simpa using h_); have hx42_1 : w26.cell? ⟨gof43, ((wrap64 (t692 - (t679.length : Int))) : Int).toNat * 3 + 1, none⟩ = some (.string ((rd_T95 t682 (wrap64 (t692 - (t679.length : Int)))).f1)) := (by have h_ := hcc42 1 _ rfl; first | exact h_ | (simp only [show (k95).sz = 3 from rfl, Nat.mul_one, Nat.add_zero] at h_; exact h_) | simpa using h_); have hf42_1 : w26.frozen? ⟨gof43, ((wrap64 (t692 - (t679.length : Int))) : Int).toNat * 3 + 1, none⟩ = false := (by have h_ := hfr42 1; first | exact h_ | (simp only [show (k95).sz = 3 from rfl, Nat.mul_one, Nat.add_zero] at h_; exact h_) | simpa using h_); have hx42_2 : w26.cell? ⟨gof43, ((wrap64 (t692 - (t679.length : Int))) : Int).toNat * 3 + 2, none⟩ = some (.int .i64 ((rd_T95 t682 (wrap64 (t692 - (t679.length : Int)))).f2)) := (by have h_ := hcc42 2 _ rfl; first | exact h_ | (simp only [show (k95).sz = 3 from rfl, Nat.mul_one, Nat.add_zero] at h_; exact h_) | simpa using h_); have hf42_2 : w26.frozen? ⟨gof43, ((wrap64 (t692 - (t679.length : Int))) : Int).toNat * 3 + 2, none⟩ = false := (by have h_ := hfr42 2; first | exact h_ | (simp only [show (k95).sz = 3 from rfl, Nat.mul_one, Nat.add_zero] at h_; exact h_) | simpa using h_); clear hcc42 hfr42; replace p42 := eq_true p42; replace q42 := eq_true q42) | ((with_reducible refine gate_st (p := 36) rfl ?_); refine pPR 3 36 ((wrap64 (t692 - (t679.length : Int))) : Int) 1 [.string a2] k95 95 t682 (⟨(rd_T95 t682 (wrap64 (t692 - (t679.length : Int)))).f0, a2, (rd_T95 t682 (wrap64 (t692 - (t679.length : Int)))).f2⟩ : S95) z95 [.string ((rd_T95 t682 (wrap64 (t692 - (t679.length : Int)))).f0), .string ((rd_T95 t682 (wrap64 (t692 - (t679.length : Int)))).f1), .int .i64 ((rd_T95 t682 (wrap64 (t692 - (t679.length : Int)))).f2)] HM rfl rfl (of_decide_eq_true AS) (by have h_ : ((wrap64 (t692 - (t679.length : Int))) : Int) < ((t682.length : Int) : Int) := of_decide_eq_true AS; have e_ := (HM.CR 3 rfl).1; omega) (fun _ _ h => k95_openM h) (k95_mkM _ _ _ (⟨(rd_T95 t682 (wrap64 (t692 - (t679.length : Int)))).f0, a2, (rd_T95 t682 (wrap64 (t692 - (t679.length : Int)))).f2⟩ : S95)) ?_; clear HM; intro w44 HM; replace HM := HM.nm 3 rfl Ny695.out; have p45 : 0 ≤ ((wrap64 (t692 - (t679.length : Int))) : Int) := of_decide_eq_true AS; have q45 : ((wrap64 (t692 - (t679.length : Int))) : Int) < ((t682.length : Int) : Int) := of_decide_eq_true AS; obtain ⟨hcc45, hfr45⟩ := HM.el 3 rfl z95 ((wrap64 (t692 - (t679.length : Int))) : Int) p45 (by have h_ := (HM.CR 3 rfl).1; omega) [.string ((rd_T95 y695 (wrap64 (t692 - (t679.length : Int)))).f0), .string ((rd_T95 y695 (wrap64 (t692 - (t679.length : Int)))).f1), .int .i64 ((rd_T95 y695 (wrap64 (t692 - (t679.length : Int)))).f2)] (fun _ _ h => k95_openM h); have hx45_0 : w44.cell? ⟨gof43, ((wrap64 (t692 - (t679.length : Int))) : Int).toNat * 3, none⟩ = some (.string ((rd_T95 y695 (wrap64 (t692 - (t679.length : Int)))).f0)) := (by have h_ := hcc45 0 _ rfl; first | exact h_ | (simp only [show (k95).sz = 3 from rfl, Nat.mul_one, Nat.add_zero] at h_; exact h_) | simpa using h_); have hf45_0 : w44.frozen? ⟨gof43, ((wrap64 (t692 - (t679.length : Int))) : Int).toNat * 3, none⟩ = false := (by have h_ := hfr45 0; first | exact h_ | (simp only [show (k95).sz = 3 from rfl, Nat.mul_one, Nat.add_zero] at h_; exact h_) | simpa using h_); have hx45_1 : w44.cell? ⟨gof43, ((wrap64 (t692 - (t679.length : Int))) : Int).toNat * 3 + 1, none⟩ = some (.string ((rd_T95 y695 (wrap64 (t692 - (t679.length : Int)))).f1)) := (by have h_ := hcc45 1 _ rfl; first | exact h_ | (simp only [show (k95).sz = 3 from rfl, Nat.mul_one, Nat.add_zero] at h_; exact h_) | simpa using h_); have hf45_1 : w44.frozen? ⟨gof43, ((wrap64 (t692 - (t679.length : Int))) : Int).toNat * 3 + 1, none⟩ = false := (by have h_ := hfr45 1; first | exact h_ | (simp only [show (k95).sz = 3 from rfl, Nat.mul_one, Nat.add_zero] at h_; exact h_) | simpa using h_); have hx45_2 : w44.cell? ⟨gof43, ((wrap64 (t692 - (t679.length : Int))) : Int).toNat * 3 + 2, none⟩ = some (.int .i64 ((rd_T95 y695 (wrap64 (t692 - (t679.length : Int)))).f2)) := (by have h_ := hcc45 2 _ rfl; first | exact h_ | (simp only [show (k95).sz = 3 from rfl, Nat.mul_one, Nat.add_zero] at h_; exact h_) | simpa using h_); have hf45_2 : w44.frozen? ⟨gof43, ((wrap64 (t692 - (t679.length : Int))) : Int).toNat * 3 + 2, none⟩ = false := (by have h_ := hfr45 2; first | exact h_ | (simp only [show (k95).sz = 3 from rfl, Nat.mul_one, Nat.add_zero] at h_; exact h_) | simpa using h_); clear hcc45 hfr45; replace p45 := eq_true p45; replace q45 := eq_true q45) | ((with_reducible refine gate_st (p := 45) rfl ?_); refine pPR 3 45 ((wrap64 (t692 - (t679.length : Int))) : Int) 2 [.int .i64 ji46] k95 95 y695 (⟨(rd_T95 y695 (wrap64 (t692 - (t679.length : Int)))).f0, (rd_T95 y695 (wrap64 (t692 - (t679.length : Int)))).f1, ji46⟩ : S95) z95 [.string ((rd_T95 y695 (wrap64 (t692 - (t679.length : Int)))).f0), .string ((rd_T95 y695 (wrap64 (t692 - (t679.length : Int)))).f1), .int .i64 ((rd_T95 y695 (wrap64 (t692 - (t679.length : Int)))).f2)] HM rfl rfl (of_decide_eq_true AS) (by have h_ : ((wrap64 (t692 - (t679.length : Int))) : Int) < ((t682.length : Int) : Int) := of_decide_eq_true AS; have e_ := (HM.CR 3 rfl).1; omega) (fun _ _ h => k95_openM h) (k95_mkM _ _ _ (⟨(rd_T95 y695 (wrap64 (t692 - (t679.length : Int)))).f0, (rd_T95 y695 (wrap64 (t692 - (t679.length : Int)))).f1, ji46⟩ : S95)) ?_; clear HM; intro w47 HM; have p48 : 0 ≤ ((wrap64 (t692 - (t679.length : Int))) : Int) := of_decide_eq_true AS; have q48 : ((wrap64 (t692 - (t679.length : Int))) : Int) < ((t682.length : Int) : Int) := of_decide_eq_true AS; obtain ⟨hcc48, hfr48⟩ := HM.el 3 rfl z95 ((wrap64 (t692 - (t679.length : Int))) : Int) p48 (by have h_ := (HM.CR 3 rfl).1; omega) [.string ((rd_T95 (y695.set ((wrap64 (t692 - (t679.length : Int))) : Int).toNat (⟨(rd_T95 y695 (wrap64 (t692 - (t679.length : Int)))).f0, (rd_T95 y695 (wrap64 (t692 - (t679.length : Int)))).f1, ji46⟩ : S95)) (wrap64 (t692 - (t679.length : Int)))).f0), .string ((rd_T95 (y695.set ((wrap64 (t692 - (t679.length : Int))) : Int).toNat (⟨(rd_T95 y695 (wrap64 (t692 - (t679.length : Int)))).f0, (rd_T95 y695 (wrap64 (t692 - (t679.length : Int)))).f1, ji46⟩ : S95)) (wrap64 (t692 - (t679.length : Int)))).f1), .int .i64 ((rd_T95 (y695.set ((wrap64 (t692 - (t679.length : Int))) : Int).toNat (⟨(rd_T95 y695 (wrap64 (t692 - (t679.length : Int)))).f0, (rd_T95 y695 (wrap64 (t692 - (t679.length : Int)))).f1, ji46⟩ : S95)) (wrap64 (t692 - (t679.length : Int)))).f2)] (fun _ _ h => k95_openM h); have hx48_0 : w47.cell? ⟨gof43, ((wrap64 (t692 - (t679.length : Int))) : Int).toNat * 3, none⟩ = some (.string ((rd_T95 (y695.set ((wrap64 (t692 - (t679.length : Int))) : Int).toNat (⟨(rd_T95 y695 (wrap64 (t692 - (t679.length : Int)))).f0, (rd_T95 y695 (wrap64 (t692 - (t679.length : Int)))).f1, ji46⟩ : S95)) (wrap64 (t692 - (t679.length : Int)))).f0)) := (by have h_ := hcc48 0 _ rfl; first | exact h_ | (simp only [show (k95).sz = 3 from rfl, Nat.mul_one, Nat.add_zero] at h_; exact h_) | simpa using h_); have hf48_0 : w47.frozen? ⟨gof43, ((wrap64 (t692 - (t679.length : Int))) : Int).toNat * 3, none⟩ = false := (by have h_ := hfr48 0; first | exact h_ | (simp only [show (k95).sz = 3 from rfl, Nat.mul_one, Nat.add_zero] at h_; exact h_) | simpa using h_); have hx48_1 : w47.cell? ⟨gof43, ((wrap64 (t692 - (t679.length : Int))) : Int).toNat * 3 + 1, none⟩ = some (.string ((rd_T95 (y695.set ((wrap64 (t692 - (t679.length : Int))) : Int).toNat (⟨(rd_T95 y695 (wrap64 (t692 - (t679.length : Int)))).f0, (rd_T95 y695 (wrap64 (t692 - (t679.length : Int)))).f1, ji46⟩ : S95)) (wrap64 (t692 - (t679.length : Int)))).f1)) := (by have h_ := hcc48 1 _ rfl; first | exact h_ | (simp only [show (k95).sz = 3 from rfl, Nat.mul_one, Nat.add_zero] at h_; exact h_) | simpa using h_); have hf48_1 : w47.frozen? ⟨gof43, ((wrap64 (t692 - (t679.length : Int))) : Int).toNat * 3 + 1, none⟩ = false := (by have h_ := hfr48 1; first | exact h_ | (simp only [show (k95).sz = 3 from rfl, Nat.mul_one, Nat.add_zero] at h_; exact h_) | simpa using h_); have hx48_2 : w47.cell? ⟨gof43, ((wrap64 (t692 - (t679.length : Int))) : Int).toNat * 3 + 2, none⟩ = some (.int .i64 ((rd_T95 (y695.set ((wrap64 (t692 - (t679.length : Int))) : Int).toNat (⟨(rd_T95 y695 (wrap64 (t692 - (t679.length : Int)))).f0, (rd_T95 y695 (wrap64 (t692 - (t679.length : Int)))).f1, ji46⟩ : S95)) (wrap64 (t692 - (t679.length : Int)))).f2)) := (by have h_ := hcc48 2 _ rfl; first | exact h_ | (simp only [show (k95).sz = 3 from rfl, Nat.mul_one, Nat.add_zero] at h_; exact h_) | simpa using h_); have hf48_2 : w47.frozen? ⟨gof43, ((wrap64 (t692 - (t679.length : Int))) : Int).toNat * 3 + 2, none⟩ = false := (by have h_ := hfr48 2; first | exact h_ | (simp only [show (k95).sz = 3 from rfl, Nat.mul_one, Nat.add_zero] at h_; exact h_) | simpa using h_); clear hcc48 hfr48; replace p48 := eq_true p48; replace q48 := eq_true q48; obtain ⟨hcz49_0, hcz49_1, hcz49_2, hcz49_3, hcz49_4, hfz49_0, hfz49_1, hfz49_2, hfz49_3, hfz49_4⟩ := bk5 (HM.bx 5 rfl)) | ((with_reducible refine gate_st (p := 6) rfl ?_); refine pS 1 6 0 [.int .i64 t677, .int .i64 t678, .slice Xo19 t679.length ko19, .slice (some ⟨gof43, 0, none⟩) t682.length ko20, .slice Xo21 t685.length ko21] HM rfl rfl ?_; clear HM; intro w50 HM))
      refine bodyPost_ret (results_ctt rfl _ _ gb674 32 #[.int .i64 t677, .int .i64 t678, .slice Xo19 t679.length ko19, .slice (some ⟨gof43, 0, none⟩) t682.length ko20, .slice Xo21 t685.length ko21] (0, 0) _ rfl (HM.bx 1 rfl) Try.underlying32 rfl (by kernel_rfl)) rfl ?_
      exact ⟨_, _, _, _, ER, (MD HM).pick [2, 3, 4, 6]⟩
    ·have c27b0 : decide (0 ≤ t692) = false := decide_eq_false c27
     clear c27
     have H' := Aside0.mk H
     clear H
     obtain ⟨hcz15_0, hcz15_1, hcz15_2, hcz15_3, hcz15_4, hfz15_0, hfz15_1, hfz15_2, hfz15_3, hfz15_4⟩ := bk5 (HM.bx 0 rfl)
     go_wp2_with (first | ((with_reducible refine gate_callee (f := 49) rfl ?_); refine pC (some 27) rfl #[.agg #[.int .i64 a0_0, .int .i64 a0_1, .slice A0_2 l0_2.length c0_2, .slice A0_3 l0_3.length c0_3, .slice A0_4 l0_4.length c0_4]] rfl Try.func49 (impl_copyThree.calls a0_0 a0_1 _ _ l0_2 _ _ l0_3 _ _ l0_4 t677 t678 t679 t682 t685 _ (HM.came HR0_2.out) HC0_2.out (HM.came HR0_3.out) HC0_3.out (HM.came HR0_4.out) HC0_4.out A16.out) ?_; rintro e w17 ⟨v680, v683, v686, rfl, hR⟩; refine ⟨_, rfl, ?_⟩; replace HM := HM.call hR; clear hR) | ((with_reducible refine gate_dst (N := 9) rfl ?_); refine pB 9 32 [.int .i64 0, .int .i64 0, .slice none 0 0, .slice none 0 0, .slice none 0 0] HM rfl ?_; clear HM; intro gb688 w18 HM; obtain ⟨Xo19, ko19, eo19⟩ := HM.rdR 2 rfl; subst eo19; obtain ⟨Xo20, ko20, eo20⟩ := HM.rdR 3 rfl; subst eo20; obtain ⟨Xo21, ko21, eo21⟩ := HM.rdR 4 rfl; subst eo21) | ((with_reducible refine gate_st (p := 9) rfl ?_); refine pS 5 9 0 [.int .i64 t677, .int .i64 t678, .slice Xo19 t679.length ko19, .slice Xo20 t682.length ko20, .slice Xo21 t685.length ko21] HM rfl rfl ?_; clear HM; intro w22 HM) | ((with_reducible refine gate_dst (N := 28) rfl ?_); refine pL 28 Kd.string 9 ([] : List ByteArray) [] (Reps.none _ _) HM rfl ?_; clear HM; intro v690 w23 HM; replace HM := HM.nm 6 rfl Ny689.out; obtain ⟨hcz24_0, hcz24_1, hcz24_2, hcz24_3, hcz24_4, hfz24_0, hfz24_1, hfz24_2, hfz24_3, hfz24_4⟩ := bk5 (HM.bx 5 rfl)) | ((with_reducible refine gate_callee (f := 61) rfl ?_); refine pC (some 30) rfl #[.pointer (some ⟨gb688, 0, none⟩), .string a1] rfl Try.func61 (impl_Three_item.calls gb688 t677 t678 (.slice Xo21 t685.length ko21) Xo19 ko19 t679 Xo20 ko20 t682 a1 t692 _ (HM.CR 2 rfl).2.2 (HM.CR 2 rfl).2.1 (HM.CR 3 rfl).2.2 (HM.CR 3 rfl).2.1 (HM.bx 5 rfl) A25.out) ?_; rintro e w26 ⟨rfl, hb⟩; refine ⟨_, rfl, ?_⟩; replace HM := HM.below hb; clear hb; (first | rw [impl_Three_item.ptr_nil (by assumption)] | rw [impl_Three_item.ptr_small (by assumption) (by assumption)] | rw [impl_Three_item.ptr_main (by assumption) (by assumption)] | rw [impl_Three_item.ptr_nil' (by assumption)] | rw [impl_Three_item.ptr_small' (by assumption) (by assumption)] | rw [impl_Three_item.ptr_main' (by assumption) (by assumption)]); replace HM := HM.toQ 2 rfl; replace HM := HM.toQ 3 rfl; replace HM := HM.toQ 4 rfl))
     go_loopg [10] kj5 (fun kq v10 w' => ∃ (x10_2 : List ByteArray) (x689000_2 : Int) (x689001_2 : Int) (x689002_2 : List (S95)) (x689003_2 : List (S95)) (x689004_2 : List Int) (u689002 : Value) (u689003 : Value) (u689004 : Value), Aside0 (impl_Put.l0 kq a1 a2 x10_2 x689000_2 x689001_2 x689002_2 x689003_2 x689004_2 = some (r1, r2, r3, r4, r5, r6, r7)) ∧ Aside0 (kq ≤ kj5) ∧ Mem w [] w' [rowR Kd.string 9 v10 x10_2, row k95 95 u689002 x689002_2, row k95 95 u689003 x689003_2, row (Kd.int .i64) 3 u689004 x689004_2, box 32 gb673 [.int .i64 a0_0, .int .i64 a0_1, .slice A0_2 l0_2.length c0_2, .slice A0_3 l0_3.length c0_3, .slice A0_4 l0_4.length c0_4], box 32 gb674 [.int .i64 0, .int .i64 0, .slice none 0 0, .slice none 0 0, .slice none 0 0], box 32 gb688 [.int .i64 x689000_2, .int .i64 x689001_2, u689002, u689003, u689004]])
     case atStart => exact ⟨(y689), (t677), (t678), (t679), (t682), (t685), (.slice Xo19 t679.length ko19), (.slice Xo20 t682.length ko20), (.slice Xo21 t685.length ko21), H', ⟨Nat.le_refl _⟩, (MD HM).pick [6, 2, 3, 4, 0, 1, 5]⟩
     case round =>
      clear H' HM
      obtain ⟨x10_2, x689000_2, x689001_2, x689002_2, x689003_2, x689004_2, u689002, u689003, u689004, HA, HK2, HM⟩ := hrel
      cases gk with
      | zero => exact absurd HA.out (by simp [impl_Put.l0])
      | succ k2 =>
       have H := HA.out
       clear HA
       simp only [impl_Put.l0] at H
       replace H := IT H; rcases H with ⟨c54, H⟩ | ⟨c54, H⟩
       ·have c54b0 : decide (x689000_2 ≤ (wrap64 ((x689002_2.length : Int) + (x689003_2.length : Int)))) = true := decide_eq_true c54
        clear c54
        replace H := BN H; obtain ⟨⟨t697, t698, t699, t702, t705, t708, t709⟩, A55, H⟩ := H
        replace H := GD H; obtain ⟨c57, H⟩ := H
        have LMc57 := Aside0.mk c57
        clear c57
        have H' := Aside0.mk H
        clear H
        obtain ⟨hcz51_0, hcz51_1, hcz51_2, hcz51_3, hcz51_4, hfz51_0, hfz51_1, hfz51_2, hfz51_3, hfz51_4⟩ := bk5 (HM.bx 6 rfl)
        obtain ⟨Xo52, ko52, eo52⟩ := HM.rd 1 rfl
        subst eo52
        obtain ⟨Xo53, ko53, eo53⟩ := HM.rd 2 rfl
        subst eo53
        go_wp2_with (first | ((with_reducible refine gate_callee (f := 76) rfl ?_); refine pC (some 59) rfl #[.pointer (some ⟨gb688, 0, none⟩)] rfl Try.func76 (impl_Three_evict.calls k2 gb688 x689000_2 x689001_2 (.slice Xo52 x689002_2.length ko52) x689002_2 (.slice Xo53 x689003_2.length ko53) x689003_2 u689004 x689004_2 t697 t698 t699 t702 t705 t708 t709 _ _ _ (HM.focus [0, 4, 5] [1, 2, 3, 6]) A55.out) ?_; rintro e w56 ⟨v700, v703, v706, rfl, hR⟩; refine ⟨_, rfl, ?_⟩; replace HM := nzM hR.unfocus; clear hR) | ((with_reducible refine gate_dst (N := 64) rfl ?_); refine pL 64 Kd.string 9 [t708] [.string t708] (Reps.one (show Kd.M Kd.string _ _ _ t708 [.string t708] from rfl) (Reps.none _ _)) HM rfl ?_; clear HM; intro v59 w58 HM; obtain ⟨Xv59, kv59, ev59⟩ := HM.rdR 7 rfl; subst ev59) | ((with_reducible refine gate_builtin (b := .append) (xs := #[.tmp 62, .tmp 64]) rfl ?_); refine pA 0 (.tmp 62) (.tmp 64) 67 9 Kd.string u10 x10_2 [t708] Xv59 ([t708].length) kv59 HM rfl Try.underlying67 info9 rfl (HM.CR 7 rfl).2.2 (by have h_ := LMc57.out; simp only [List.length_singleton]; omega) ?_; clear HM; intro v711 w60 HM))
        go_roundg k2
        case measure => have := HJ5.out; have := HK2.out; omega
        case rel => exact ⟨((x10_2 ++ [t708])), (t697), (t698), (t699), (t702), (t705), (v700), (v703), (v706), H', ⟨by have := HJ5.out; have := HK2.out; omega⟩, (MD HM).pick [0, 3, 4, 5, 1, 2, 6]⟩
       ·have c54b0 : decide (x689000_2 ≤ (wrap64 ((x689002_2.length : Int) + (x689003_2.length : Int)))) = false := decide_eq_false c54
        clear c54
        replace H := BN H; obtain ⟨t713, A61, H⟩ := H
        replace H := BN H; obtain ⟨t715, A67, H⟩ := H
        replace H := IB H
        rcases H with ⟨c70, H⟩ | ⟨c70, H⟩
        ·subst c70
         replace H := BN H; obtain ⟨t716, A72, H⟩ := H
         replace H := GD H; obtain ⟨c77, H⟩ := H
         have LMc77 := Aside0.mk c77
         clear c77
         replace H := BN H; obtain ⟨⟨t722, t723, t724, t727, t730⟩, A84, H⟩ := H
         simp only [Option.some.injEq, Prod.mk.injEq] at H
         obtain ⟨rfl, rfl, rfl, rfl, rfl, rfl, rfl⟩ := H
         obtain ⟨hcz51_0, hcz51_1, hcz51_2, hcz51_3, hcz51_4, hfz51_0, hfz51_1, hfz51_2, hfz51_3, hfz51_4⟩ := bk5 (HM.bx 6 rfl)
         obtain ⟨Xo52, ko52, eo52⟩ := HM.rd 1 rfl
         subst eo52
         obtain ⟨Xo53, ko53, eo53⟩ := HM.rd 2 rfl
         subst eo53
         go_wp2_with (first | ((with_reducible refine gate_callee (f := 77) rfl ?_); refine pC (some 67) rfl #[.string a1] rfl Try.func77 (impl_Hash.calls k2 a1 t713 _ A61.out) ?_; rintro e w62 ⟨rfl, hd⟩; refine ⟨_, rfl, ?_⟩; replace HM := HM.drawn hd; clear hd) | ((with_reducible refine gate_dst (N := 14) rfl ?_); refine pB 14 3 [.int .i64 0] HM rfl ?_; clear HM; intro gb714 w63 HM) | ((with_reducible refine gate_st (p := 14) rfl ?_); refine pS 7 14 0 [.int .i64 t713] HM rfl rfl ?_; clear HM; intro w64 HM; obtain ⟨hcz65_0, hcz65_1, hcz65_2, hcz65_3, hcz65_4, hfz65_0, hfz65_1, hfz65_2, hfz65_3, hfz65_4⟩ := bk5 (HM.bx 6 rfl); obtain ⟨hcz66_0, hfz66_0⟩ := bk1 (HM.bx 7 rfl); obtain ⟨Xo69, ko69, eo69⟩ := HM.rd 3 rfl; subst eo69) | ((with_reducible refine gate_callee (f := 58) rfl ?_); refine pC (some 71) rfl #[.slice Xo69 x689004_2.length ko69, .int .i64 t713] rfl Try.func58 (slices_Contains_int_int.calls k2 _ _ x689004_2 t713 true _ (HM.C 3 rfl).2.2 (HM.C 3 rfl).2.1 A67.out) ?_; rintro e w68 ⟨rfl, hd⟩; refine ⟨_, rfl, ?_⟩; replace HM := HM.drawn hd; clear hd; obtain ⟨hcz71_0, hcz71_1, hcz71_2, hcz71_3, hcz71_4, hfz71_0, hfz71_1, hfz71_2, hfz71_3, hfz71_4⟩ := bk5 (HM.bx 6 rfl); obtain ⟨P_, hq_, hn_, fin_⟩ := HM.man 3 7 rfl rfl) | ((with_reducible refine gate_callee (f := 78) rfl ?_); refine pC (some 75) rfl #[.slice Xo69 x689004_2.length ko69, .func (.func 79) #[] #[.pointer (some ⟨gb714, 0, none⟩)]] rfl Try.func78 (slices_DeleteFunc_int_int.calls P_ (.slice Xo69 x689004_2.length ko69) x689004_2 79 Try.f79 gb714 t713 t716 (bare _) _ (bare_below _) hq_ (impl_Put.clo79 _ _) (HM.bx 7 rfl) hn_ A72.out) ?_; rintro e w73 ⟨v717, rfl, hQ_, hB_, hK_⟩; refine ⟨_, rfl, ?_⟩; replace HM := fin_ _ _ _ hQ_ hB_ hK_; clear hQ_ hB_ hK_ hq_ hn_ fin_ P_; obtain ⟨Xo74, ko74, eo74⟩ := HM.rd 3 rfl; subst eo74) | ((with_reducible refine gate_st (p := 76) rfl ?_); refine pS 6 76 4 [.slice Xo74 t716.length ko74] HM rfl rfl ?_; clear HM; intro w75 HM; obtain ⟨hcz76_0, hcz76_1, hcz76_2, hcz76_3, hcz76_4, hfz76_0, hfz76_1, hfz76_2, hfz76_3, hfz76_4⟩ := bk5 (HM.bx 6 rfl)) | ((with_reducible refine gate_dst (N := 82) rfl ?_); refine pL 82 k95 95 [(⟨a1, a2, 0⟩ : S95)] [.string a1, .string a2, .int .i64 0] (Reps.c3 (show Kd.M k95 _ _ _ (⟨a1, a2, 0⟩ : S95) [.string a1, .string a2, .int .i64 0] from (k95_mkM _ _ _ (⟨a1, a2, 0⟩ : S95))) (Reps.none _ _)) HM rfl ?_; clear HM; intro v79 w78 HM; obtain ⟨Xv79, kv79, ev79⟩ := HM.rdR 8 rfl; subst ev79) | ((with_reducible refine gate_builtin (b := .append) (xs := #[.tmp 78, .tmp 82]) rfl ?_); refine pAq 2 (.tmp 78) (.tmp 82) 30 95 k95 (.slice Xo53 x689003_2.length ko53) x689003_2 [(⟨a1, a2, 0⟩ : S95)] Xv79 ([(⟨a1, a2, 0⟩ : S95)].length) kv79 HM rfl Try.underlying30 info95 rfl (HM.CR 8 rfl).2.2 (by have h_ := LMc77.out; simp only [List.length_singleton]; omega) (by simp) ?_; clear HM; intro v720 w80 HM; obtain ⟨Xo81, ko81, eo81⟩ := HM.rd 2 rfl; subst eo81) | ((with_reducible refine gate_st (p := 84) rfl ?_); refine pS 6 84 3 [.slice Xo81 (x689003_2 ++ [(⟨a1, a2, 0⟩ : S95)]).length ko81] HM rfl rfl ?_; clear HM; intro w82 HM; obtain ⟨hcz83_0, hcz83_1, hcz83_2, hcz83_3, hcz83_4, hfz83_0, hfz83_1, hfz83_2, hfz83_3, hfz83_4⟩ := bk5 (HM.bx 6 rfl)) | ((with_reducible refine gate_callee (f := 49) rfl ?_); refine pC (some 94) rfl #[.agg #[.int .i64 x689000_2, .int .i64 x689001_2, .slice Xo52 x689002_2.length ko52, .slice Xo81 (x689003_2 ++ [(⟨a1, a2, 0⟩ : S95)]).length ko81, .slice Xo74 t716.length ko74]] rfl Try.func49 (impl_copyThree.calls x689000_2 x689001_2 _ _ x689002_2 _ _ (x689003_2 ++ [(⟨a1, a2, 0⟩ : S95)]) _ _ t716 t722 t723 t724 t727 t730 _ (HM.C 1 rfl).2.2 (HM.C 1 rfl).2.1 (HM.C 2 rfl).2.2 (HM.C 2 rfl).2.1 (HM.C 3 rfl).2.2 (HM.C 3 rfl).2.1 A84.out) ?_; rintro e w85 ⟨v725, v728, v731, rfl, hR⟩; refine ⟨_, rfl, ?_⟩; replace HM := HM.call hR; clear hR; obtain ⟨Xo86, ko86, eo86⟩ := HM.rdR 9 rfl; subst eo86; obtain ⟨Xo87, ko87, eo87⟩ := HM.rdR 10 rfl; subst eo87; obtain ⟨Xo88, ko88, eo88⟩ := HM.rdR 11 rfl; subst eo88) | ((with_reducible refine gate_st (p := 6) rfl ?_); refine pS 5 6 0 [.int .i64 t722, .int .i64 t723, .slice Xo86 t724.length ko86, .slice Xo87 t727.length ko87, .slice Xo88 t730.length ko88] HM rfl rfl ?_; clear HM; intro w89 HM))
         refine bodyPost_ret (results_ctt rfl _ _ gb674 32 #[.int .i64 t722, .int .i64 t723, .slice Xo86 t724.length ko86, .slice Xo87 t727.length ko87, .slice Xo88 t730.length ko88] (0, 0) _ rfl (HM.bx 5 rfl) Try.underlying32 rfl (by kernel_rfl)) rfl ?_
         exact ⟨_, _, _, _, ER, (MD HM).pick [9, 10, 11, 0]⟩
        ·subst c70
         replace H := GD H; obtain ⟨c91, H⟩ := H
         have LMc91 := Aside0.mk c91
         clear c91
         replace H := BN H; obtain ⟨⟨t736, t737, t738, t741, t744⟩, A98, H⟩ := H
         simp only [Option.some.injEq, Prod.mk.injEq] at H
         obtain ⟨rfl, rfl, rfl, rfl, rfl, rfl, rfl⟩ := H
         obtain ⟨hcz51_0, hcz51_1, hcz51_2, hcz51_3, hcz51_4, hfz51_0, hfz51_1, hfz51_2, hfz51_3, hfz51_4⟩ := bk5 (HM.bx 6 rfl)
         obtain ⟨Xo52, ko52, eo52⟩ := HM.rd 1 rfl
         subst eo52
         obtain ⟨Xo53, ko53, eo53⟩ := HM.rd 2 rfl
         subst eo53
         go_wp2_with (first | ((with_reducible refine gate_callee (f := 77) rfl ?_); refine pC (some 67) rfl #[.string a1] rfl Try.func77 (impl_Hash.calls k2 a1 t713 _ A61.out) ?_; rintro e w62 ⟨rfl, hd⟩; refine ⟨_, rfl, ?_⟩; replace HM := HM.drawn hd; clear hd) | ((with_reducible refine gate_dst (N := 14) rfl ?_); refine pB 14 3 [.int .i64 0] HM rfl ?_; clear HM; intro gb714 w63 HM) | ((with_reducible refine gate_st (p := 14) rfl ?_); refine pS 7 14 0 [.int .i64 t713] HM rfl rfl ?_; clear HM; intro w64 HM; obtain ⟨hcz65_0, hcz65_1, hcz65_2, hcz65_3, hcz65_4, hfz65_0, hfz65_1, hfz65_2, hfz65_3, hfz65_4⟩ := bk5 (HM.bx 6 rfl); obtain ⟨hcz66_0, hfz66_0⟩ := bk1 (HM.bx 7 rfl); obtain ⟨Xo69, ko69, eo69⟩ := HM.rd 3 rfl; subst eo69) | ((with_reducible refine gate_callee (f := 58) rfl ?_); refine pC (some 71) rfl #[.slice Xo69 x689004_2.length ko69, .int .i64 t713] rfl Try.func58 (slices_Contains_int_int.calls k2 _ _ x689004_2 t713 false _ (HM.C 3 rfl).2.2 (HM.C 3 rfl).2.1 A67.out) ?_; rintro e w68 ⟨rfl, hd⟩; refine ⟨_, rfl, ?_⟩; replace HM := HM.drawn hd; clear hd; obtain ⟨hcz90_0, hcz90_1, hcz90_2, hcz90_3, hcz90_4, hfz90_0, hfz90_1, hfz90_2, hfz90_3, hfz90_4⟩ := bk5 (HM.bx 6 rfl)) | ((with_reducible refine gate_dst (N := 90) rfl ?_); refine pL 90 k95 95 [(⟨a1, a2, 0⟩ : S95)] [.string a1, .string a2, .int .i64 0] (Reps.c3 (show Kd.M k95 _ _ _ (⟨a1, a2, 0⟩ : S95) [.string a1, .string a2, .int .i64 0] from (k95_mkM _ _ _ (⟨a1, a2, 0⟩ : S95))) (Reps.none _ _)) HM rfl ?_; clear HM; intro v93 w92 HM; obtain ⟨Xv93, kv93, ev93⟩ := HM.rdR 8 rfl; subst ev93) | ((with_reducible refine gate_builtin (b := .append) (xs := #[.tmp 86, .tmp 90]) rfl ?_); refine pAq 1 (.tmp 86) (.tmp 90) 30 95 k95 (.slice Xo52 x689002_2.length ko52) x689002_2 [(⟨a1, a2, 0⟩ : S95)] Xv93 ([(⟨a1, a2, 0⟩ : S95)].length) kv93 HM rfl Try.underlying30 info95 rfl (HM.CR 8 rfl).2.2 (by have h_ := LMc91.out; simp only [List.length_singleton]; omega) (by simp) ?_; clear HM; intro v734 w94 HM; obtain ⟨Xo95, ko95, eo95⟩ := HM.rd 1 rfl; subst eo95) | ((with_reducible refine gate_st (p := 92) rfl ?_); refine pS 6 92 2 [.slice Xo95 (x689002_2 ++ [(⟨a1, a2, 0⟩ : S95)]).length ko95] HM rfl rfl ?_; clear HM; intro w96 HM; obtain ⟨hcz97_0, hcz97_1, hcz97_2, hcz97_3, hcz97_4, hfz97_0, hfz97_1, hfz97_2, hfz97_3, hfz97_4⟩ := bk5 (HM.bx 6 rfl)) | ((with_reducible refine gate_callee (f := 49) rfl ?_); refine pC (some 94) rfl #[.agg #[.int .i64 x689000_2, .int .i64 x689001_2, .slice Xo95 (x689002_2 ++ [(⟨a1, a2, 0⟩ : S95)]).length ko95, .slice Xo53 x689003_2.length ko53, .slice Xo69 x689004_2.length ko69]] rfl Try.func49 (impl_copyThree.calls x689000_2 x689001_2 _ _ (x689002_2 ++ [(⟨a1, a2, 0⟩ : S95)]) _ _ x689003_2 _ _ x689004_2 t736 t737 t738 t741 t744 _ (HM.C 1 rfl).2.2 (HM.C 1 rfl).2.1 (HM.C 2 rfl).2.2 (HM.C 2 rfl).2.1 (HM.C 3 rfl).2.2 (HM.C 3 rfl).2.1 A98.out) ?_; rintro e w99 ⟨v739, v742, v745, rfl, hR⟩; refine ⟨_, rfl, ?_⟩; replace HM := HM.call hR; clear hR; obtain ⟨Xo100, ko100, eo100⟩ := HM.rdR 9 rfl; subst eo100; obtain ⟨Xo101, ko101, eo101⟩ := HM.rdR 10 rfl; subst eo101; obtain ⟨Xo102, ko102, eo102⟩ := HM.rdR 11 rfl; subst eo102) | ((with_reducible refine gate_st (p := 6) rfl ?_); refine pS 5 6 0 [.int .i64 t736, .int .i64 t737, .slice Xo100 t738.length ko100, .slice Xo101 t741.length ko101, .slice Xo102 t744.length ko102] HM rfl rfl ?_; clear HM; intro w103 HM))
         refine bodyPost_ret (results_ctt rfl _ _ gb674 32 #[.int .i64 t736, .int .i64 t737, .slice Xo100 t738.length ko100, .slice Xo101 t741.length ko101, .slice Xo102 t744.length ko102] (0, 0) _ rfl (HM.bx 5 rfl) Try.underlying32 rfl (by kernel_rfl)) rfl ?_
         exact ⟨_, _, _, _, ER, (MD HM).pick [9, 10, 11, 0]⟩
end Go.Proofs.Ytdeijmofaapgdaa.G

namespace Go.Proofs.Ytdeijmofaapgdaa.G
open Go.RowKit Go.Proofs.YtdeijmofaapgdaaW.PrintWords Go.Proofs.YtdeijmofaapgdaaW.PrintLast Go.Proofs.YtdeijmofaapgdaaW.PrintMore Go.Proofs.Ytdeijmofaapgdaa.Sh
attribute [local go_sem] max2_int min2_int max_two min_two max_three min_three max_four min_four
set_option linter.unusedVariables false
set_option linter.unusedSimpArgs false
open Go.Proofs.Ytdeijmofaapgdaa.Man
section
variable {P : Program}
/-- 'clear(s)' of what lies behind a queue of the call's own, in its spare room: the queue stays. -/
theorem Q_clear_runI {α : Type} (d : Kd α) {W : World} (base : Nat) (t ty e : TypeId) (z : Value) (ht : P.underlying t = some (.slice e)) (hz : ∀ w, (zeroValue e).run P w = .ok z w) (hzs : z.cells.size = d.sz) (hz1 : ∀ u ∈ z.cells.toList, u.oneCell' = true)
  {g o n c m : Nat} {xs : List α} {ok : Nat → Prop} (HO : d.Q e W base ok (.slice (some ⟨g, o, none⟩) n c) xs) (hm : n + m ≤ c) (hm0 : 0 < m) (hn0 : 0 < c) (c2 : Nat) (hpos : 0 < d.sz) :
  ∃ w1, (Builtin.clear_ #[t] ty #[.slice (some ⟨g, o + n * d.sz, none⟩) m c2]).run P W = .ok (.tuple #[]) w1 ∧ d.Q e w1 base ok (.slice (some ⟨g, o, none⟩) n c) xs ∧ W.grownBy w1 (some g) := by
 obtain ⟨hn, hnc, _⟩ := Kd.Q_reads' HO
 obtain ⟨hok, inner, hown, hr⟩ := HO
 have hin : inner.length = n * d.sz := by rw [hr.1, hn]
 rcases hown.2 with ⟨h0, A, hv, _⟩ | ⟨g', off, cap', cur, hv, hb, hh, hcn, hcm, hcs, htake⟩
 ·injection hv with _ h1 h2
  omega
 injection hv with ha _ hc
 injection ha with ha
 injection ha with hg ho
 subst hg; subst hc; subst ho
 rw [← hn] at htake
 obtain ⟨news, hnews⟩ : ∃ news, news = (Builtin.zeroCells z.cells m).toList := ⟨_, rfl⟩
 have hnl : news.length = m * d.sz := by rw [hnews, cycle_len _ _ hm0, hzs]
 have hone : ∀ u ∈ news, u.oneCell' = true := by
  intro u hu
  rw [hnews] at hu
  have hp : 0 < z.cells.size := by omega
  simp only [Builtin.zeroCells, Array.toList_map, List.mem_map] at hu
  obtain ⟨i, _, rfl⟩ := hu
  have hi := Nat.mod_lt i hp
  rw [getElem!_pos z.cells _ hi]
  exact hz1 _ (by simp)
 have hnm : (n + m) * d.sz ≤ c * d.sz := Nat.mul_le_mul_right _ hm
 have hnm2 : (n + m) * d.sz = n * d.sz + m * d.sz := Nat.add_mul _ _ _
 have hoc : (off + c) * d.sz = off * d.sz + c * d.sz := Nat.add_mul _ _ _
 have hfit : off * d.sz + n * d.sz + news.length ≤ cur.size := by omega
 have hst := run_storeCells_cells (P := P) g (off * d.sz + n * d.sz) news 0 W (fun j hj => by rw [cell_of_row W g _ cur e (0, 0) hh]; simp; omega) (fun j _ => blk_frozen hh _) hone
 simp only [Nat.add_zero] at hst
 obtain ⟨cur', h3, h4, h5⟩ := setCells_row news (off * d.sz + n * d.sz) W cur hh hfit
 obtain ⟨s1, s2, s3, s4⟩ := setCells_same g news (off * d.sz + n * d.sz) W
 have hfar : ∀ k', k' ≠ g → (W.setCells g (off * d.sz + n * d.sz) news).heap[k']? = W.heap[k']? := fun k' hk' => setCells_far news _ k' hk'
 refine ⟨_, ?_, ⟨hok, inner, ⟨by rw [hin, hn], .inr ⟨g, off, c, cur', by rw [hn], hb, h3, by omega, hcm, by rw [h4, hcs], ?_⟩⟩, ?_⟩, ⟨s1, s2, s3, by rw [s4]; exact Nat.le_refl _, fun k' _ hk' => hfar k' (fun he => hk' (by rw [he]))⟩⟩
 ·obtain ⟨k, rfl⟩ : ∃ k, m = k + 1 := ⟨m - 1, by omega⟩
  have hzc : (Builtin.zeroCells z.cells (k + 1)).toList = news := hnews.symm
  simp [Builtin.clear_, run_underlying ht, hz, hzc, hst]
 ·rw [← hn, h5, List.append_assoc]
  have hl : (cur.toList.take (off * d.sz + n * d.sz)).drop (off * d.sz) = (cur.toList.drop (off * d.sz)).take (n * d.sz) := by
   rw [List.drop_take]
   congr 1
   omega
  have hlen : (cur.toList.take (off * d.sz + n * d.sz)).length = off * d.sz + n * d.sz := by
   rw [List.length_take, Array.length_toList]; omega
  rw [List.drop_append_of_le_length (by rw [hlen]; omega), hl, htake]
  exact List.take_left' hin
 ·exact hr.imp_ (fun p q hp => d.M_move (fun k' hk' => hfar k' (fun he => hk'.2 (by simp [Value.ownBlock, he]))) hp)
end
def delItem.idx (h : ByteArray) : List S95 → Nat → Int
 | [], _ => -1
 | x :: r, i => if x.f0.toList = h.toList then (i : Int) else delItem.idx h r (i + 1)
theorem delItem.idx_at (h : ByteArray) (l : List S95) (i : Nat) (hi : i < l.length) : delItem.idx h (l.drop i) i = if (rd_T95 l (i : Int)).f0.toList = h.toList then (i : Int) else delItem.idx h (l.drop (i + 1)) (i + 1) := by
 rw [List.drop_eq_getElem_cons hi, delItem.idx]
 have e : rd_T95 l (i : Int) = l[i] := by
  show l.getD (i : Int).toNat _ = _
  simp [List.getD_eq_getElem?_getD, hi]
 rw [e]
theorem delItem.idx_end (h : ByteArray) (l : List S95) (i : Nat) (hi : ¬ i < l.length) : delItem.idx h (l.drop i) i = -1 := by
 rw [List.drop_of_length_le (by omega)]; rfl
/-- What is asked of a closure over one number: it tells whether it is handed just that one. -/
def delItem.Clo (M : Nat) (fnM : Func) (B : Nat) (h : ByteArray) : Prop := Try.prog.funcs[M]? = some fnM ∧ (fnM.name == "runtime.NumGoroutine") = false ∧ fnM.body.isSome = true ∧ ∀ (y : S95) (W : World), W.heap[B]? = some (.cells #[.string h] 9 (0, 0)) →
 Calls Try.prog M #[.agg #[.string y.f0, .string y.f1, .int .i64 y.f2], .pointer (some ⟨B, 0, none⟩)] W fun e w' => e = .returned (.bool (y.f0.toList == h.toList)) ∧ Below W.heap.size W w'
set_option maxHeartbeats 8000000 in
set_option maxRecDepth 100000 in
theorem delItem.index (M : Nat) (fnM : Func) (B : Nat) (h : ByteArray) (hM : delItem.Clo M fnM B h) (A0 : Option Addr) (c0 : Nat) (l0 : List S95) (w : World) (hblk : w.heap[B]? = some (.cells #[.string h] 9 (0, 0))) (hr0 : Kd.C k95 w A0 l0.length l0) (hc0 : l0.length ≤ c0) :
  Calls Try.prog 98 #[.slice A0 l0.length c0, .func (.func M) #[] #[.pointer (some ⟨B, 0, none⟩)]] w fun e w' => e = .returned (.int .i64 (delItem.idx h l0 0)) ∧ Below w.heap.size w w' := by
 obtain ⟨hfM, hnM, hbM, hcM⟩ := hM
 have HR0 := Aside0.mk hr0
 have HC0 := Aside0.mk hc0
 have HL := Aside0.mk (show l0.length ≤ 9223372036854775807 from hr0.2.1)
 have HX := Aside0.mk hblk
 have HF := Aside0.mk hfM
 have HN1 := Aside0.mk hnM
 have HB1 := Aside0.mk hbM
 have HCM := Aside0.mk hcM
 clear hr0 hc0 hblk hfM hnM hbM hcM
 have HB := Aside0.mk (Below.refl w.heap.size w)
 obtain ⟨R, hR⟩ : ∃ R, R = delItem.idx h l0 0 := ⟨_, rfl⟩
 rw [← hR]
 have HN := Aside0.mk (show delItem.idx h (l0.drop 0) 0 = R from hR.symm)
 clear hR
 go_enter Try.func98, Try.ntmps98
 go_wp2
 go_loopg [5, 8] l0.length (fun kq _ v8 w' => ∃ x : Int, v8 = .int .i64 x ∧ Aside0 (∃ n : Nat, x = (n : Int) ∧ delItem.idx h (l0.drop n) n = R ∧ n + kq = l0.length) ∧ Aside0 (Below w.heap.size w w'))
 case atStart => exact ⟨0, rfl, ⟨0, rfl, HN.out, Nat.zero_add _⟩, HB⟩
 case round =>
  clear HN
  obtain ⟨x, rfl, HN, HB⟩ := hrel
  by_cases hlt : x < (l0.length : Int)
  ·have hd : decide (x < (l0.length : Int)) = true := decide_eq_true hlt
   have hn0 : 0 ≤ x := by obtain ⟨n, rfl, _⟩ := HN.out; exact Int.natCast_nonneg n
   obtain ⟨ad, hA, hx0, hx1, hx2⟩ := at_T95 HR0.out x hn0 hlt
   subst hA
   replace hx0 := (HB.out.cell (World.block_lt_of_cell? w _ hx0)).trans hx0
   replace hx1 := (HB.out.cell (World.block_lt_of_cell? w _ hx1)).trans hx1
   replace hx2 := (HB.out.cell (World.block_lt_of_cell? w _ hx2)).trans hx2
   have H0 := Aside0.mk hn0
   have H1 := Aside0.mk hlt
   replace hn0 := eq_true hn0
   replace hlt := eq_true hlt
   obtain ⟨y, hy⟩ : ∃ y, rd_T95 l0 x = y := ⟨_, rfl⟩
   rw [hy] at hx0 hx1 hx2
   have HY := Aside0.mk hy
   clear hy
   by_cases c : y.f0.toList = h.toList
   ·have C := Aside0.mk c
    have hbq : (y.f0.toList == h.toList) = true := beq_iff_eq.mpr c
    clear c
    go_wp2_with fail
    rw [enters_ HF.out HN1.out HB1.out, Oper.upon_enter]
    refine (HCM.out y _ (blk_below HX.out HB.out)).mono ?_
    rintro e w' ⟨rfl, hb'⟩
    have HB' := Aside0.mk hb'
    clear hb'
    rw [hbq]
    go_wp2
    go_ret
    refine ⟨?_, below_step HB.out HB'.out⟩
    obtain ⟨n, rfl, hn, hk⟩ := HN.out
    have e := delItem.idx_at h l0 n (Int.ofNat_lt.mp H1.out)
    rw [HY.out, if_pos C.out, hn] at e
    rw [e]
    rfl
   ·have C := Aside0.mk c
    have hbq : (y.f0.toList == h.toList) = false := beq_eq_false_iff_ne.mpr c
    clear c
    go_wp2_with fail
    rw [enters_ HF.out HN1.out HB1.out, Oper.upon_enter]
    refine (HCM.out y _ (blk_below HX.out HB.out)).mono ?_
    rintro e w' ⟨rfl, hb'⟩
    have HB' := Aside0.mk hb'
    clear hb'
    rw [hbq]
    go_wp2
    obtain ⟨n, rfl, hn, hk⟩ := HN.out
    have hlt' := Int.ofNat_lt.mp H1.out
    go_roundg (gk - 1)
    case measure => omega
    case rel =>
     have e := delItem.idx_at h l0 n hlt'
     rw [HY.out, if_neg C.out, hn] at e
     exact ⟨_, rfl, ⟨n + 1, wsucc_ (by have := HL.out; omega), e.symm, by omega⟩, ⟨below_step HB.out HB'.out⟩⟩
  ·have hd : decide (x < (l0.length : Int)) = false := decide_eq_false hlt
   have HLT := Aside0.mk hlt
   clear hlt
   go_wp2
   go_ret
   obtain ⟨n, rfl, hn, hk⟩ := HN.out
   have hlt' := HLT.out
   rw [delItem.idx_end h l0 n (by omega)] at hn
   exact ⟨by rw [← hn]; rfl, HB.out⟩
def slices_DeleteFunc_impl_Item_impl_Item.f (l0 : List S95) (a1 : ByteArray) : Option (List S95) := some (l0.filter (fun y => !(y.f0.toList == a1.toList)))
theorem delItem.idx_neg (h : ByteArray) : ∀ (l : List S95) (i : Nat), delItem.idx h l i = -1 → l.filter (fun y => !(y.f0.toList == h.toList)) = l
 | [], _, _ => rfl
 | x :: r, i, e => by
  rw [delItem.idx] at e
  by_cases c : x.f0.toList = h.toList
  ·rw [if_pos c] at e; omega
  ·rw [if_neg c] at e
   rw [List.filter_cons, if_pos (by simp [c]), delItem.idx_neg h r (i + 1) e]
theorem delItem.idx_pos (h : ByteArray) : ∀ (l : List S95) (i : Nat), delItem.idx h l i ≠ -1 → ∃ p, p < l.length ∧ delItem.idx h l i = ((i + p : Nat) : Int) ∧ (l.take p).filter (fun y => !(y.f0.toList == h.toList)) = l.take p ∧ (rd_T95 l (p : Int)).f0.toList = h.toList
 | [], _, e => by simp [delItem.idx] at e
 | x :: r, i, e => by
  rw [delItem.idx] at e ⊢
  by_cases c : x.f0.toList = h.toList
  ·exact ⟨0, by simp, by rw [if_pos c]; simp, rfl, c⟩
  ·rw [if_neg c] at e ⊢
   obtain ⟨p, h1, h2, h3, h4⟩ := delItem.idx_pos h r (i + 1) e
   refine ⟨p + 1, by simpa using h1, by rw [h2]; omega, ?_, ?_⟩
   ·rw [List.take_succ_cons, List.filter_cons, if_pos (by simp [c]), h3]
   ·have : rd_T95 (x :: r) ((p + 1 : Nat) : Int) = rd_T95 r (p : Int) := by
     show (x :: r).getD ((p + 1 : Nat) : Int).toNat _ = r.getD (p : Int).toNat _
     simp
    rw [this, h4]
/-- What the loop keeps: ahead of i what stays of the first j, from j on the rest. -/
structure delItem.Inv (h : ByteArray) (l cur : List S95) (i j : Nat) : Prop where
 len : cur.length = l.length
 lt : i < j
 le : j ≤ l.length
 front : cur.take i = (l.take j).filter (fun y => !(y.f0.toList == h.toList))
 back : cur.drop j = l.drop j
theorem delItem.Inv.read {h : ByteArray} {l cur : List S95} {i j : Nat} (v : delItem.Inv h l cur i j) (hj : j < l.length) : rd_T95 cur (j : Int) = rd_T95 l (j : Int) := by
 have e := congrArg (fun z => z.head?) v.back
 simp only [List.head?_drop] at e
 show cur.getD (j : Int).toNat _ = l.getD (j : Int).toNat _
 simp [List.getD_eq_getElem?_getD, e]
theorem delItem.take_succ {l : List S95} {j : Nat} (hj : j < l.length) : l.take (j + 1) = l.take j ++ [rd_T95 l (j : Int)] := by
 have e : rd_T95 l (j : Int) = l[j] := by
  show l.getD (j : Int).toNat _ = _
  simp [List.getD_eq_getElem?_getD, hj]
 rw [e, List.take_succ_eq_append_getElem hj]
theorem delItem.Inv.skip {h : ByteArray} {l cur : List S95} {i j : Nat} (v : delItem.Inv h l cur i j) (hj : j < l.length) (e : (rd_T95 l (j : Int)).f0.toList = h.toList) : delItem.Inv h l cur i (j + 1) := by
 refine ⟨v.len, by have := v.lt; omega, hj, ?_, ?_⟩
 ·rw [v.front, delItem.take_succ hj, List.filter_append]
  simp [e]
 ·rw [← List.drop_drop, ← List.drop_drop, v.back]
theorem delItem.Inv.put {h : ByteArray} {l cur : List S95} {i j : Nat} (v : delItem.Inv h l cur i j) (hj : j < l.length) (e : (rd_T95 l (j : Int)).f0.toList ≠ h.toList) : delItem.Inv h l (cur.set i (rd_T95 l (j : Int))) (i + 1) (j + 1) := by
 have hi := v.lt
 have hl := v.len
 refine ⟨by rw [List.length_set]; exact hl, by omega, hj, ?_, ?_⟩
 ·rw [List.take_succ_eq_append_getElem (by rw [List.length_set]; omega), List.take_set_of_le (Nat.le_refl _), v.front, delItem.take_succ hj, List.filter_append]
  simp [e]
 ·rw [List.drop_set_of_lt (by omega), ← List.drop_drop, ← List.drop_drop, v.back]
set_option maxHeartbeats 8000000 in
set_option maxRecDepth 100000 in
theorem slices_DeleteFunc_impl_Item_impl_Item.callsQ (P0_ : Nat → Prop) (u9000_ : Value) (l0 : List S95) (M : Nat) (fnM : Func) (B : Nat) (a1 : ByteArray) (r : List S95) (w0 w : World) (hB : Below w0.heap.size w0 w) (ho0 : Kd.Q k95 95 w w0.heap.size P0_ u9000_ l0) (hM : delItem.Clo M fnM B a1) (hblk : w.heap[B]? = some (.cells #[.string a1] 9 (0, 0))) (hPB : ∀ k_, P0_ k_ → k_ ≠ B) (h : slices_DeleteFunc_impl_Item_impl_Item.f l0 a1 = some r) :
  Calls Try.prog 81 #[u9000_, .func (.func M) #[] #[.pointer (some ⟨B, 0, none⟩)]] w fun e w' => ∃ v0_ : Value, e = .returned v0_ ∧ (v0_ = u9000_ ∧ r = l0 ∧ Below w.heap.size w w' ∨ ∃ g o n c, u9000_ = .slice (some ⟨g, o, none⟩) n c ∧ v0_ = .slice (some ⟨g, o, none⟩) r.length c ∧ 0 < c) ∧ Kd.Q k95 95 w' w0.heap.size (fun k_ => P0_ k_ ∨ w.heap.size ≤ k_) v0_ r ∧ Below w0.heap.size w0 w' ∧ Kept w w' (fun k_ => P0_ k_) := by
 obtain rfl := Option.some.inj h
 clear h
 obtain ⟨A0, c0, rfl, hlc⟩ := Kd.Q_slice ho0
 obtain ⟨_, _, hC⟩ := Kd.Q_reads' ho0
 have hidx := delItem.index M fnM B a1 hM A0 c0 l0 w hblk hC hlc
 have hL : l0.length ≤ 9223372036854775807 := hC.2.1
 obtain ⟨hfM, hnM, hbM, hcM⟩ := hM
 have HF := Aside0.mk hfM
 have HN1 := Aside0.mk hnM
 have HB1 := Aside0.mk hbM
 have HCM := Aside0.mk hcM
 have HX := Aside0.mk hblk
 have HQ := Aside0.mk ho0
 have HBW := Aside0.mk hB
 have HPB := Aside0.mk hPB
 have HL := Aside0.mk hL
 have HLC := Aside0.mk hlc
 clear hfM hnM hbM hcM hblk ho0 hB hPB hL hC
 by_cases ci : delItem.idx a1 l0 0 = -1
 ·have e1 := delItem.idx_neg a1 l0 0 ci
  rw [e1]
  rw [ci] at hidx
  clear e1 ci
  go_enter Try.func81, Try.ntmps81
  go_wp2_with fail
  refine hidx.mono ?_
  rintro e w' ⟨rfl, hb⟩
  have HB := Aside0.mk hb
  clear hb hidx
  go_wp2
  go_ret
  exact ⟨_, rfl, (by first | exact .inl ⟨rfl, rfl, HB.out⟩ | exact .inl ⟨trivial, trivial, HB.out⟩ | exact .inl ⟨trivial, rfl, HB.out⟩ | exact .inl ⟨rfl, trivial, HB.out⟩ | exact .inl HB.out), Kd.Q_mono (Kd.Q_below HQ.out HB.out) (fun _ h => Or.inl h), below_step HBW.out HB.out, Kept.below (Kept.refl _ _) HB.out⟩
 ·obtain ⟨p, hp, e1, e2, e3⟩ := delItem.idx_pos a1 l0 0 ci
  rw [Nat.zero_add] at e1
  rw [e1] at hidx
  obtain ⟨g, o, cap, hv, hbg, hgl, cl, hgc⟩ := Kd.Q_form HQ.out (by omega)
  injection hv with ha _ hcap
  subst ha
  subst hcap
  have hP0 : P0_ g := HQ.out.1 g rfl
  have HG := Aside0.mk hbg
  have HGL := Aside0.mk hgl
  have HP0 := Aside0.mk hP0
  have I0 : delItem.Inv a1 l0 l0 p (p + 1) := by
   refine ⟨rfl, by omega, hp, ?_, rfl⟩
   rw [delItem.take_succ hp, List.filter_append, e2]
   simp [e3]
  have HI0 := Aside0.mk I0
  have HP := Aside0.mk hp
  have ew : IntKind.i64.wrap ((p : Int) + 1) = ((p + 1 : Nat) : Int) := by exact (i64_w _).trans (by have := HL.out; unfold wrap64; omega)
  have hne : ((p : Int) == -1) = false := by rw [beq_eq_false_iff_ne]; omega
  clear ci e1 e2 e3 hbg hgl hgc hP0 I0 hp
  go_enter Try.func81, Try.ntmps81
  go_wp2_with fail
  refine hidx.mono ?_
  rintro e w1 ⟨rfl, hb⟩
  have HB := Aside0.mk hb
  clear hb hidx
  go_wp2
  go_loopg [5, 6, 7] (l0.length - (p + 1)) (fun kq v5 v6 v7 w' => ∃ x5 x6 : Int, v5 = .int .i64 x5 ∧ v6 = .int .i64 x6 ∧ Aside0 (∃ (i j : Nat) (cur : List S95), x5 = (i : Int) ∧ x6 = (j : Int) ∧ j + kq = l0.length + 0 ∧ delItem.Inv a1 l0 cur i j ∧ Kd.Q k95 95 w' w0.heap.size (fun k_ => P0_ k_ ∨ w.heap.size ≤ k_) (.slice (some ⟨g, o, none⟩) l0.length c0) cur) ∧ Aside0 (Below w0.heap.size w0 w') ∧ Aside0 (Kept w w' (fun k_ => P0_ k_)))
  case atStart =>
   exact ⟨(p : Int), ((p + 1 : Nat) : Int), rfl, rfl, ⟨p, p + 1, l0, rfl, rfl, by have := HP.out; omega, HI0.out, Kd.Q_mono (Kd.Q_below HQ.out HB.out) (fun _ h => Or.inl h)⟩, ⟨below_step HBW.out HB.out⟩, ⟨Kept.below (Kept.refl _ _) HB.out⟩⟩
  case round =>
   clear HI0 HQ HB HBW HP ew hne
   obtain ⟨x5, x6, rfl, rfl, HI, HB, HK⟩ := hrel
   obtain ⟨i, j, cur, rfl, rfl, hq, hi, hQ⟩ := HI.out
   clear HI
   have HI := Aside0.mk hi
   have HQ := Aside0.mk hQ
   have HJ := Aside0.mk hq
   clear hi hQ hq
   by_cases hlt : (j : Int) < (l0.length : Int)
   ·have hd : decide ((j : Int) < (l0.length : Int)) = true := decide_eq_true hlt
    have hn0 : (0 : Int) ≤ (j : Int) := Int.natCast_nonneg j
    obtain ⟨ce, hcl, hM, hcc, hfr⟩ := Kd.Q_elem HQ.out z95 (j : Int) hn0 hlt
    obtain rfl := k95_openM hM
    have hx0 := hcc 0 _ rfl
    have hx1 := hcc 1 _ rfl
    have hx2 := hcc 2 _ rfl
    obtain ⟨y, hy⟩ : ∃ y, rd_T95 l0 (j : Int) = y := ⟨_, rfl⟩
    have hyc : cur.getD (j : Int).toNat z95 = y := (HI.out.read (Int.ofNat_lt.mp hlt)).trans hy
    rw [hyc] at hx0 hx1 hx2
    simp only [show (k95).sz = 3 from rfl, Int.toNat_natCast, Nat.add_zero] at hx0 hx1 hx2
    have HY := Aside0.mk hy
    have HLT := Aside0.mk (Int.ofNat_lt.mp hlt)
    replace hn0 := eq_true hn0
    replace hlt := eq_true hlt
    clear hy hyc hcl hM hcc hfr
    by_cases c : y.f0.toList = a1.toList
    ·have C := Aside0.mk c
     have hbq : (y.f0.toList == a1.toList) = true := beq_iff_eq.mpr c
     clear c
     go_wp2_with fail
     rw [enters_ HF.out HN1.out HB1.out, Oper.upon_enter]
     have hb1 : Below wr.heap.size wr (wr.alloc (.cells #[.string y.f0, .string y.f1, .int .i64 y.f2] 95 (0, 0))) := below_alloc (Below.refl _ _) _
     refine (HCM.out y _ (blk_below (blk_kept HX.out HK.out (fun h => HPB.out B h rfl)) hb1)).mono ?_
     rintro e w' ⟨rfl, hb2⟩
     have hb' := below_step hb1 hb2
     have hbx := blk_below (blk_new wr (.cells #[.string y.f0, .string y.f1, .int .i64 y.f2] 95 (0, 0))) hb2
     have v0 : w'.cell? ⟨wr.heap.size, 0, none⟩ = some (.string y.f0) := blk_cell hbx 0
     have v1 : w'.cell? ⟨wr.heap.size, 1, none⟩ = some (.string y.f1) := blk_cell hbx 1
     have v2 : w'.cell? ⟨wr.heap.size, 2, none⟩ = some (.int .i64 y.f2) := blk_cell hbx 2
     clear hbx hb1 hb2
     have HB' := Aside0.mk hb'
     clear hb'
     rw [hbq]
     go_wp2
     go_roundg (gk - 1)
     case measure => have := HJ.out; have := HLT.out; omega
     case rel =>
      exact ⟨(i : Int), _, rfl, rfl, ⟨i, j + 1, cur, rfl, wsucc_ (by have := HL.out; have := HLT.out; omega), by have := HJ.out; have := HLT.out; omega, HI.out.skip HLT.out (by rw [HY.out]; exact C.out), Kd.Q_below HQ.out HB'.out⟩, ⟨below_step HB.out HB'.out⟩, ⟨Kept.below HK.out HB'.out⟩⟩
    ·have C := Aside0.mk c
     have hbq : (y.f0.toList == a1.toList) = false := beq_eq_false_iff_ne.mpr c
     clear c
     go_wp2_with fail
     rw [enters_ HF.out HN1.out HB1.out, Oper.upon_enter]
     have hb1 : Below wr.heap.size wr (wr.alloc (.cells #[.string y.f0, .string y.f1, .int .i64 y.f2] 95 (0, 0))) := below_alloc (Below.refl _ _) _
     refine (HCM.out y _ (blk_below (blk_kept HX.out HK.out (fun h => HPB.out B h rfl)) hb1)).mono ?_
     rintro e w' ⟨rfl, hb2⟩
     have hb' := below_step hb1 hb2
     have hbx := blk_below (blk_new wr (.cells #[.string y.f0, .string y.f1, .int .i64 y.f2] 95 (0, 0))) hb2
     have v0 : w'.cell? ⟨wr.heap.size, 0, none⟩ = some (.string y.f0) := blk_cell hbx 0
     have v1 : w'.cell? ⟨wr.heap.size, 1, none⟩ = some (.string y.f1) := blk_cell hbx 1
     have v2 : w'.cell? ⟨wr.heap.size, 2, none⟩ = some (.int .i64 y.f2) := blk_cell hbx 2
     clear hbx hb1 hb2
     have HB' := Aside0.mk hb'
     have HQ' := Aside0.mk (Kd.Q_below HQ.out hb')
     have hi0 : (0 : Int) ≤ (i : Int) := Int.natCast_nonneg i
     have hil : (i : Int) < (l0.length : Int) := by have := HI.out.lt; have := HLT.out; omega
     obtain ⟨ci, hcl, hM, hcc, hfr⟩ := Kd.Q_elem HQ'.out z95 (i : Int) hi0 hil
     obtain rfl := k95_openM hM
     have hs := Kd.Q_seg HQ'.out (i : Int) hi0 hil (seg := [.string y.f0, .string y.f1, .int .i64 y.f2]) (j := 0) hcl hcc (show 3 ≤ 3 by decide) (x' := y) (k95_mkM _ _ _ y) (fun _ hk => hk)
     have hk0 := hcc 0 _ rfl
     have hk1 := hcc 1 _ rfl
     have hk2 := hcc 2 _ rfl
     have hf0 := hfr 0
     have hf1 := hfr 1
     have hf2 := hfr 2
     simp only [show (k95).sz = 3 from rfl, Int.toNat_natCast, Nat.add_zero] at hk0 hk1 hk2 hf0 hf1 hf2 hs
     clear hcl hM hcc hfr
     have HS := Aside0.mk hs
     clear hs
     have HBS := Aside0.mk (below_set (j := o + i * 3 + 2) (v := .int .i64 y.f2) (below_set (j := o + i * 3 + 1) (v := .string y.f1) (below_set (j := o + i * 3) (v := .string y.f0) (below_step HB.out hb') HG.out) HG.out) HG.out)
     have HKS := Aside0.mk (Kept.setCell (p := ⟨g, o + i * 3 + 2, none⟩) (Kept.setCell (p := ⟨g, o + i * 3 + 1, none⟩) (Kept.setCell (p := ⟨g, o + i * 3, none⟩) (Kept.below HK.out hb') (.inl HP0.out) (.string y.f0)) (.inl HP0.out) (.string y.f1)) (.inl HP0.out) (.int .i64 y.f2))
     replace hi0 := eq_true hi0
     replace hil := eq_true hil
     clear hb'
     rw [hbq]
     go_wp2
     go_roundg (gk - 1)
     case measure => have := HJ.out; have := HLT.out; omega
     case rel =>
      have e := HI.out.put HLT.out (fun e => C.out (by rw [← HY.out]; exact e))
      rw [HY.out] at e
      exact ⟨_, _, rfl, rfl, ⟨i + 1, j + 1, cur.set i y, wsucc_ (by have := HL.out; have := HLT.out; have := HI.out.lt; omega), wsucc_ (by have := HL.out; have := HLT.out; omega), by have := HJ.out; have := HLT.out; omega, e, HS.out.1⟩, ⟨HBS.out⟩, ⟨HKS.out⟩⟩
   ·have hd : decide ((j : Int) < (l0.length : Int)) = false := decide_eq_false hlt
    have hj : j = l0.length := by have := HI.out.le; omega
    subst hj
    have hil : i < l0.length := HI.out.lt
    have hcl : cur.length = l0.length := HI.out.len
    have hft : cur.take i = l0.filter (fun y => !(y.f0.toList == a1.toList)) := by
     have := HI.out.front
     rwa [List.take_length] at this
    have hQt := Kd.Q_take HQ.out (m := i) (by omega)
    rw [hft] at hQt
    have HQT := Aside0.mk hQt
    have hc0 : i ≤ c0 := by have := HLC.out; omega
    have hli : (List.filter (fun y => !(y.f0.toList == a1.toList)) l0).length = i := by rw [← hft, List.length_take]; omega
    obtain ⟨w2, hrun, hr2, hg2⟩ := Q_clear_runI (P := Try.prog) k95 w0.heap.size 30 0 95 (.agg #[(.string ⟨#[]⟩), (.string ⟨#[]⟩), (.int .i64 0)]) Try.underlying30 Try.zeroValue95 rfl (by decide) hQt (m := l0.length - i) (by omega) (by omega) (by omega) (c0 - i) (by decide)
    have HR2 := Aside0.mk hr2
    have HG2 := Aside0.mk hg2
    have b1 : (i : Int) ≤ (l0.length : Int) := by omega
    have b2 : (l0.length : Int) ≤ (c0 : Int) := by have := HLC.out; omega
    have b3 : (i : Int) ≤ (c0 : Int) := by omega
    have b4 : (0 : Int) ≤ (i : Int) := by omega
    have b5 : (c0 = i) = False := eq_false (by omega)
    have HLI := Aside0.mk hli
    have HC0 := Aside0.mk (show 0 < c0 by have := HLC.out; omega)
    change Sem.run _ (Builtin.clear_ #[30] 0 #[.slice (some ⟨g, o + i * 3, none⟩) (l0.length - i) (c0 - i)]) _ = _ at hrun
    clear hr2 hg2 hQt hft hcl hil hli hlt
    go_wp2
    go_ret
    exact ⟨_, rfl, .inr ⟨g, o, _, c0, rfl, by first | (rw [HLI.out]; done) | (rw [HLI.out]; simp; done) | (simp [HLI.out]; done) | (simp; omega), HC0.out⟩, HR2.out, HB.out.grown HG2.out HB.out.size (fun k hk => by injection hk with hk; subst hk; exact HG.out), Kept.of_grown HG2.out HK.out (fun k hk => by injection hk with hk; subst hk; exact .inl HP0.out)⟩
/-- A queue that begins where its block begins is a row. -/
theorem delItem.R_of_Q0 {α : Type} {d : Kd α} {e g n c : Nat} {w : World} {base : Nat} {ok : Nat → Prop} {xs : List α} (h : d.Q e w base ok (.slice (some ⟨g, 0, none⟩) n c) xs) (hc : 0 < c) (hs : 0 < d.sz) : d.R e w base ok (.slice (some ⟨g, 0, none⟩) n c) xs := by
 obtain ⟨h0, inner, ⟨hl, ho⟩, hr⟩ := h
 refine ⟨h0, inner, ⟨hl, ?_⟩, hr⟩
 rcases ho with ⟨_, A, hv, _⟩ | ⟨g', off, cap, cur, hv, hb, hh, hnc, hcm, hcs, ht⟩
 ·injection hv with _ _ h3
  omega
 ·injection hv with ha h2 h3
  injection ha with ha
  injection ha with hg hoff
  have : off = 0 := by
   rcases Nat.eq_zero_or_pos off with h | h
   ·exact h
   ·have := Nat.mul_pos h hs
    omega
  subst this
  subst hg
  subst h3
  refine .inr ⟨g, c, cur, by rw [h2], hb, hh, hnc, by omega, by rw [hcs, Nat.zero_add], ?_⟩
  rw [Nat.zero_mul, List.drop_zero] at ht
  exact ht
set_option maxHeartbeats 4000000 in
theorem slices_DeleteFunc_impl_Item_impl_Item.calls (P0_ : Nat → Prop) (u9000_ : Value) (l0 : List S95) (M : Nat) (fnM : Func) (B : Nat) (a1 : ByteArray) (r : List S95) (w0 w : World) (hB : Below w0.heap.size w0 w) (ho0 : Kd.R k95 95 w w0.heap.size P0_ u9000_ l0) (hM : delItem.Clo M fnM B a1) (hblk : w.heap[B]? = some (.cells #[.string a1] 9 (0, 0))) (hPB : ∀ k_, P0_ k_ → k_ ≠ B) (h : slices_DeleteFunc_impl_Item_impl_Item.f l0 a1 = some r) :
  Calls Try.prog 81 #[u9000_, .func (.func M) #[] #[.pointer (some ⟨B, 0, none⟩)]] w fun e w' => ∃ v0_ : Value, e = .returned v0_ ∧ Kd.R k95 95 w' w0.heap.size (fun k_ => P0_ k_ ∨ w.heap.size ≤ k_) v0_ r ∧ Below w0.heap.size w0 w' ∧ Kept w w' (fun k_ => P0_ k_) := by
 refine (slices_DeleteFunc_impl_Item_impl_Item.callsQ P0_ u9000_ l0 M fnM B a1 r w0 w hB (Kd.Q_of_R ho0) hM hblk hPB h).mono ?_
 rintro e w' ⟨v0, he, hv, hq, hb, hk⟩
 refine ⟨v0, he, ?_, hb, hk⟩
 rcases hv with ⟨rfl, rfl, hbw⟩ | ⟨g, o, n, c, rfl, rfl, hc⟩
 ·exact Kd.R_mono (Kd.R_below ho0 hbw) (fun _ h => Or.inl h)
 ·have ho : o = 0 := by
   obtain ⟨_, inner, ⟨_, hv | ⟨_, _, _, hv, _⟩⟩, _⟩ := ho0
   ·exact absurd hv.1 (by simp)
   ·injection hv with ha
    injection ha with ha
    injection ha
  subst ho
  exact delItem.R_of_Q0 hq hc (by decide)
end Go.Proofs.Ytdeijmofaapgdaa.G

namespace Go.Proofs.Ytdeijmofaapgdaa.G
open Go.RowKit Go.Proofs.YtdeijmofaapgdaaW.PrintWords Go.Proofs.YtdeijmofaapgdaaW.PrintLast Go.Proofs.YtdeijmofaapgdaaW.PrintMore Go.Proofs.Ytdeijmofaapgdaa.Sh
attribute [local go_sem] max2_int min2_int max_two min_two max_three min_three max_four min_four
set_option linter.unusedVariables false
set_option linter.unusedSimpArgs false
open Go.Proofs.Ytdeijmofaapgdaa.Mm
set_option maxRecDepth 100000 in
theorem impl_Drop.cloS80 (B : Nat) (h : ByteArray) : delItem.Clo 80 Try.f80 B h := by
 refine ⟨Try.func80, by kernel_rfl, by rfl, fun y W hb => ?_⟩
 have hc : W.cell? ⟨B, 0, none⟩ = some (.string h) := (blk_cell hb 0).trans rfl
 have hne : B ≠ W.heap.size := by have := blk_lt hb; omega
 have hc2 : (W.alloc (.cells #[.string y.f0, .string y.f1, .int .i64 y.f2] 95 (0, 0))).cell? ⟨B, 0, none⟩ = some (.string h) := (blk_cell (blk_below hb (below_alloc (Below.refl _ _) _)) 0).trans rfl
 have hu := Try.underlying95
 clear hb
 go_enter Try.func80, Try.ntmps80
 go_wp2
 go_ret
 exact ⟨rfl, by repeat (first | exact Below.refl _ _ | apply below_alloc)⟩
def impl_Drop.f (k : Nat) (a0_0 : Int) (a0_1 : Int) (l0_2 : List (S95)) (l0_3 : List (S95)) (l0_4 : List Int) (a1 : ByteArray) : Option (Int × Int × (List (S95)) × (List (S95)) × List Int × Bool) := (impl_ThreeOk.f k a0_0 a0_1 l0_2 l0_3 l0_4).bind fun t754 => (if t754 = true then ((impl_copyThree.f a0_0 a0_1 l0_2 l0_3 l0_4).bind fun bt755 => ((slices_DeleteFunc_impl_Item_impl_Item.f bt755.2.2.1 a1).bind fun t767 => ((slices_DeleteFunc_impl_Item_impl_Item.f bt755.2.2.2.1 a1).bind fun t770 => (some (bt755.1, bt755.2.1, t767, t770, bt755.2.2.2.2, decide ((wrap64 ((t767.length : Int) + (t770.length : Int))) < (wrap64 ((l0_2.length : Int) + (l0_3.length : Int))))))))) else (some (0, 0, ([] : List (S95)), ([] : List (S95)), ([] : List Int), false)))
theorem impl_Drop.mono : ∀ a0 a1 a2 a3 a4 a5 k, LeO (impl_Drop.f k a0 a1 a2 a3 a4 a5) (impl_Drop.f (k + 1) a0 a1 a2 a3 a4 a5) := by
 intro a0 a1 a2 a3 a4 a5 k
 unfold impl_Drop.f
 repeat' first | (with_reducible first | exact impl_ThreeOk.mono _ _ _ _ _ _ | exact LeO.refl _ | exact LeO.none _ | refine LeO.ite ?_ ?_ | refine LeO.bind ?_ (fun _ => ?_)) | exact impl_ThreeOk.mono _ _ _ _ _ _ | exact LeO.none _ | refine LeO.ite ?_ ?_ | refine LeO.bind ?_ (fun _ => ?_)
def impl_Drop.T7 : Bool × List (List Nat × List Nat) := (true, [([], []), ([], []), ([1], [1]), ([2], [2]), ([], []), ([4], [4]), ([5], [5]), ([3, 6], [3, 6]), ([], []), ([8], [8]), ([9], [9]), ([], []), ([11], [11]), ([12], [12]), ([10, 13], [10, 13]), ([7, 14], [7, 14]), ([0, 0], [0]), ([15, 16, 0, 1, 2, 3, 4, 5, 6, 7, 8, 9, 10, 11, 12, 13, 14, 15, 16], [15])])
def impl_Drop.B7 : List Nat := [0, 0, 2, 6, 0, 16, 48, 126, 0, 256, 768, 0, 2048, 6144, 16128, 32766, 1, 131071]
theorem impl_Drop.tab7 : rtab .any (opsOf Try.f41 7) = impl_Drop.T7 := by kernel_rfl
theorem impl_Drop.bits7 : waitsOk impl_Drop.T7.2 impl_Drop.B7 = true := by kernel_rfl
set_option maxHeartbeats 8000000 in
set_option maxRecDepth 100000 in
theorem impl_Drop.calls (k : Nat) (a0_0 : Int) (a0_1 : Int) (A0_2 : Option Addr) (c0_2 : Nat) (l0_2 : List (S95)) (A0_3 : Option Addr) (c0_3 : Nat) (l0_3 : List (S95)) (A0_4 : Option Addr) (c0_4 : Nat) (l0_4 : List Int) (a1 : ByteArray) (r1 : Int) (r2 : Int) (r3 : List (S95)) (r4 : List (S95)) (r5 : List Int) (r6 : Bool) (w : World) (hr0_2 : Kd.C k95 w A0_2 l0_2.length l0_2) (hc0_2 : l0_2.length ≤ c0_2) (hr0_3 : Kd.C k95 w A0_3 l0_3.length l0_3) (hc0_3 : l0_3.length ≤ c0_3) (hr0_4 : Kd.C (Kd.int .i64) w A0_4 l0_4.length l0_4) (hc0_4 : l0_4.length ≤ c0_4) (h : impl_Drop.f k a0_0 a0_1 l0_2 l0_3 l0_4 a1 = some (r1, r2, r3, r4, r5, r6)) :
  Calls Try.prog 41 #[.agg #[.int .i64 a0_0, .int .i64 a0_1, .slice A0_2 l0_2.length c0_2, .slice A0_3 l0_3.length c0_3, .slice A0_4 l0_4.length c0_4], .string a1] w fun e w' => ∃ v2_ v3_ v4_ : Value, e = .returned (.tuple #[.agg #[.int .i64 r1, .int .i64 r2, v2_, v3_, v4_], .bool r6]) ∧ Mem w [] w' [rowR k95 95 v2_ r3, rowR k95 95 v3_ r4, rowR (Kd.int .i64) 3 v4_ r5] := by
 have hu32 := Try.underlying32
 have HR0_2 := Aside0.mk hr0_2
 have HC0_2 := Aside0.mk hc0_2
 clear hr0_2 hc0_2
 have HR0_3 := Aside0.mk hr0_3
 have HC0_3 := Aside0.mk hc0_3
 clear hr0_3 hc0_3
 have HR0_4 := Aside0.mk hr0_4
 have HC0_4 := Aside0.mk hc0_4
 clear hr0_4 hc0_4
 have HM := Mem.nil w
 have H := h
 clear h
 unfold impl_Drop.f at H
 go_enter Try.func41, Try.ntmps41
 replace H := BN H; obtain ⟨t754, A7, H⟩ := H
 go_upto_if 10 with (first | ((with_reducible refine gate_dst (N := 2) rfl ?_); refine pB 2 32 [.int .i64 a0_0, .int .i64 a0_1, .slice A0_2 l0_2.length c0_2, .slice A0_3 l0_3.length c0_3, .slice A0_4 l0_4.length c0_4] HM rfl ?_; clear HM; intro gb751 w3 HM) | ((with_reducible refine gate_dst (N := 3) rfl ?_); refine pB 3 9 [.string a1] HM rfl ?_; clear HM; intro gb752 w4 HM) | ((with_reducible refine gate_dst (N := 4) rfl ?_); refine pB 4 32 [.int .i64 0, .int .i64 0, .slice none 0 0, .slice none 0 0, .slice none 0 0] HM rfl ?_; clear HM; intro gb753 w5 HM; obtain ⟨hcz6_0, hcz6_1, hcz6_2, hcz6_3, hcz6_4, hfz6_0, hfz6_1, hfz6_2, hfz6_3, hfz6_4⟩ := bk5 (HM.bx 0 rfl)) | ((with_reducible refine gate_callee (f := 27) rfl ?_); refine pC (some 9) rfl #[.agg #[.int .i64 a0_0, .int .i64 a0_1, .slice A0_2 l0_2.length c0_2, .slice A0_3 l0_3.length c0_3, .slice A0_4 l0_4.length c0_4]] rfl Try.func27 (impl_ThreeOk.calls k a0_0 a0_1 _ _ l0_2 _ _ l0_3 _ _ l0_4 t754 _ (HM.came HR0_2.out) HC0_2.out (HM.came HR0_3.out) HC0_3.out (HM.came HR0_4.out) HC0_4.out A7.out) ?_; rintro e w8 ⟨rfl, hR⟩; refine ⟨_, rfl, ?_⟩; replace HM := HM.call hR; clear hR))
 replace HM := nzM HM
 replace H := IB H
 rcases H with ⟨c9, H⟩ | ⟨c9, H⟩
 ·subst c9
  replace H := BN H; obtain ⟨⟨t755, t756, t757, t760, t763⟩, A11, H⟩ := H
  replace H := BN H; obtain ⟨t767, A19, H⟩ := H
  replace H := BN H; obtain ⟨t770, A24, H⟩ := H
  obtain ⟨hcz10_0, hcz10_1, hcz10_2, hcz10_3, hcz10_4, hfz10_0, hfz10_1, hfz10_2, hfz10_3, hfz10_4⟩ := bk5 (HM.bx 0 rfl)
  try go_wp2_with (first | ((with_reducible refine gate_callee (f := 49) rfl ?_); refine pC (some 13) rfl #[.agg #[.int .i64 a0_0, .int .i64 a0_1, .slice A0_2 l0_2.length c0_2, .slice A0_3 l0_3.length c0_3, .slice A0_4 l0_4.length c0_4]] rfl Try.func49 (impl_copyThree.calls a0_0 a0_1 _ _ l0_2 _ _ l0_3 _ _ l0_4 t755 t756 t757 t760 t763 _ (HM.came HR0_2.out) HC0_2.out (HM.came HR0_3.out) HC0_3.out (HM.came HR0_4.out) HC0_4.out A11.out) ?_; rintro e w12 ⟨v758, v761, v764, rfl, hR⟩; refine ⟨_, rfl, ?_⟩; replace HM := HM.call hR; clear hR) | ((with_reducible refine gate_dst (N := 6) rfl ?_); refine pB 6 32 [.int .i64 0, .int .i64 0, .slice none 0 0, .slice none 0 0, .slice none 0 0] HM rfl ?_; clear HM; intro gb766 w13 HM; obtain ⟨Xo14, ko14, eo14⟩ := HM.rdR 3 rfl; subst eo14; obtain ⟨Xo15, ko15, eo15⟩ := HM.rdR 4 rfl; subst eo15; obtain ⟨Xo16, ko16, eo16⟩ := HM.rdR 5 rfl; subst eo16) | ((with_reducible refine gate_st (p := 6) rfl ?_); refine pS 6 6 0 [.int .i64 t755, .int .i64 t756, .slice Xo14 t757.length ko14, .slice Xo15 t760.length ko15, .slice Xo16 t763.length ko16] HM rfl rfl ?_; clear HM; intro w17 HM; obtain ⟨hcz18_0, hcz18_1, hcz18_2, hcz18_3, hcz18_4, hfz18_0, hfz18_1, hfz18_2, hfz18_3, hfz18_4⟩ := bk5 (HM.bx 6 rfl); obtain ⟨P_, hq_, hn_, fin_⟩ := HM.manR 3 1 rfl rfl) | ((with_reducible refine gate_callee (f := 81) rfl ?_); refine pC (some 18) rfl #[.slice Xo14 t757.length ko14, .func (.func 80) #[] #[.pointer (some ⟨gb752, 0, none⟩)]] rfl Try.func81 (slices_DeleteFunc_impl_Item_impl_Item.calls P_ (.slice Xo14 t757.length ko14) t757 80 Try.f80 gb752 a1 t767 (bare _) _ (bare_below _) hq_ (impl_Drop.cloS80 _ _) (HM.bx 1 rfl) hn_ A19.out) ?_; rintro e w20 ⟨v768, rfl, hQ_, hB_, hK_⟩; refine ⟨_, rfl, ?_⟩; replace HM := fin_ _ _ _ hQ_ hB_ hK_; clear hQ_ hB_ hK_ hq_ hn_ fin_ P_; obtain ⟨Xo21, ko21, eo21⟩ := HM.rdR 3 rfl; subst eo21) | ((with_reducible refine gate_st (p := 19) rfl ?_); refine pS 6 19 2 [.slice Xo21 t767.length ko21] HM rfl rfl ?_; clear HM; intro w22 HM; obtain ⟨hcz23_0, hcz23_1, hcz23_2, hcz23_3, hcz23_4, hfz23_0, hfz23_1, hfz23_2, hfz23_3, hfz23_4⟩ := bk5 (HM.bx 6 rfl); obtain ⟨P_, hq_, hn_, fin_⟩ := HM.manR 4 1 rfl rfl) | ((with_reducible refine gate_callee (f := 81) rfl ?_); refine pC (some 23) rfl #[.slice Xo15 t760.length ko15, .func (.func 80) #[] #[.pointer (some ⟨gb752, 0, none⟩)]] rfl Try.func81 (slices_DeleteFunc_impl_Item_impl_Item.calls P_ (.slice Xo15 t760.length ko15) t760 80 Try.f80 gb752 a1 t770 (bare _) _ (bare_below _) hq_ (impl_Drop.cloS80 _ _) (HM.bx 1 rfl) hn_ A24.out) ?_; rintro e w25 ⟨v771, rfl, hQ_, hB_, hK_⟩; refine ⟨_, rfl, ?_⟩; replace HM := fin_ _ _ _ hQ_ hB_ hK_; clear hQ_ hB_ hK_ hq_ hn_ fin_ P_; obtain ⟨Xo26, ko26, eo26⟩ := HM.rdR 4 rfl; subst eo26) | ((with_reducible refine gate_st (p := 24) rfl ?_); refine pS 6 24 3 [.slice Xo26 t770.length ko26] HM rfl rfl ?_; clear HM; intro w27 HM))
  refine RGN 18 [0, 1, 2, 3, 4, 5, 6, 7, 8, 9, 10, 11, 12, 13, 14, 15, 16, 17] (fun a0 b a w' => a = putSel a0 b [(0, 25, .agg #[.int .i64 t755, .int .i64 t756, .slice Xo21 t767.length ko21, .slice Xo26 t770.length ko26, .slice Xo16 t763.length ko16]), (1, 26, .pointer (some ⟨gb766, 2, none⟩)), (2, 27, .slice Xo21 t767.length ko21), (3, 28, .int .i64 (t767.length : Int)), (4, 29, .pointer (some ⟨gb766, 3, none⟩)), (5, 30, .slice Xo26 t770.length ko26), (6, 31, .int .i64 (t770.length : Int)), (7, 32, .int .i64 (wrap64 ((t767.length : Int) + (t770.length : Int)))), (8, 33, .pointer (some ⟨gb751, 2, none⟩)), (9, 34, .slice A0_2 l0_2.length c0_2), (10, 35, .int .i64 (l0_2.length : Int)), (11, 36, .pointer (some ⟨gb751, 3, none⟩)), (12, 37, .slice A0_3 l0_3.length c0_3), (13, 38, .int .i64 (l0_3.length : Int)), (14, 39, .int .i64 (wrap64 ((l0_2.length : Int) + (l0_3.length : Int)))), (15, 40, .bool (decide ((wrap64 ((t767.length : Int) + (t770.length : Int))) < (wrap64 ((l0_2.length : Int) + (l0_3.length : Int)))))), (17, 5, .bool (decide ((wrap64 ((t767.length : Int) + (t770.length : Int))) < (wrap64 ((l0_2.length : Int) + (l0_3.length : Int))))))] ∧ Mem w [] w' [box 32 gb751 [.int .i64 a0_0, .int .i64 a0_1, .slice A0_2 l0_2.length c0_2, .slice A0_3 l0_3.length c0_3, .slice A0_4 l0_4.length c0_4], box 9 gb752 [.string a1], sel (b 16) (box 32 gb753 [.int .i64 t755, .int .i64 t756, .slice Xo21 t767.length ko21, .slice Xo26 t770.length ko26, .slice Xo16 t763.length ko16]) (box 32 gb753 [.int .i64 0, .int .i64 0, .slice none 0 0, .slice none 0 0, .slice none 0 0]), rowR k95 95 (.slice Xo21 t767.length ko21) t767, rowR k95 95 (.slice Xo26 t770.length ko26) t770, rowR (Kd.int .i64) 3 (.slice Xo16 t763.length ko16) t763, box 32 gb766 [.int .i64 t755, .int .i64 t756, .slice Xo21 t767.length ko21, .slice Xo26 t770.length ko26, .slice Xo16 t763.length ko16]]) impl_Drop.tab7 impl_Drop.bits7 ?_ ?_ ?_
  ·exact ⟨PS0' rfl _, (HM.drew).pick [0, 1, 2, 3, 4, 5, 6]⟩
  ·clear HM
   refine steps_cons ?_ ?_
   ·rintro b a w ⟨ha, HM⟩ hb hon hoff
    refine ⟨_, rfl, fun K hK => ?_⟩
    obtain ⟨hcz34_0, hcz34_1, hcz34_2, hcz34_3, hcz34_4, hfz34_0, hfz34_1, hfz34_2, hfz34_3, hfz34_4⟩ := bk5 (HM.bx 6 rfl)
    have e6 := POF ha 6
    replace ha := Aside0.mk ha
    exact VL (.agg #[.int .i64 t755, .int .i64 t756, .slice Xo21 t767.length ko21, .slice Xo26 t770.length ko26, .slice Xo16 t763.length ko16]) (hK.out _ _ ⟨PUT ha 0 hb, HM⟩)
   refine steps_cons ?_ ?_
   ·rintro b a w ⟨ha, HM⟩ hb hon hoff
    refine ⟨_, rfl, fun K hK => ?_⟩
    have e6 := POF ha 6
    replace ha := Aside0.mk ha
    exact VL (.pointer (some ⟨gb766, 2, none⟩)) (hK.out _ _ ⟨PUT ha 1 hb, HM⟩)
   refine steps_cons ?_ ?_
   ·rintro b a w ⟨ha, HM⟩ hb hon hoff
    refine ⟨_, rfl, fun K hK => ?_⟩
    obtain ⟨hcz35_0, hcz35_1, hcz35_2, hcz35_3, hcz35_4, hfz35_0, hfz35_1, hfz35_2, hfz35_3, hfz35_4⟩ := bk5 (HM.bx 6 rfl)
    have e26 := PON ha 1 (hon 1 (by kernel_rfl))
    replace ha := Aside0.mk ha
    exact VL (.slice Xo21 t767.length ko21) (hK.out _ _ ⟨PUT ha 2 hb, HM⟩)
   refine steps_cons ?_ ?_
   ·rintro b a w ⟨ha, HM⟩ hb hon hoff
    refine ⟨_, rfl, fun K hK => ?_⟩
    have e27 := PON ha 2 (hon 2 (by kernel_rfl))
    replace ha := Aside0.mk ha
    exact VL (.int .i64 (t767.length : Int)) (hK.out _ _ ⟨PUT ha 3 hb, HM⟩)
   refine steps_cons ?_ ?_
   ·rintro b a w ⟨ha, HM⟩ hb hon hoff
    refine ⟨_, rfl, fun K hK => ?_⟩
    have e6 := POF ha 6
    replace ha := Aside0.mk ha
    exact VL (.pointer (some ⟨gb766, 3, none⟩)) (hK.out _ _ ⟨PUT ha 4 hb, HM⟩)
   refine steps_cons ?_ ?_
   ·rintro b a w ⟨ha, HM⟩ hb hon hoff
    refine ⟨_, rfl, fun K hK => ?_⟩
    obtain ⟨hcz36_0, hcz36_1, hcz36_2, hcz36_3, hcz36_4, hfz36_0, hfz36_1, hfz36_2, hfz36_3, hfz36_4⟩ := bk5 (HM.bx 6 rfl)
    have e29 := PON ha 4 (hon 4 (by kernel_rfl))
    replace ha := Aside0.mk ha
    exact VL (.slice Xo26 t770.length ko26) (hK.out _ _ ⟨PUT ha 5 hb, HM⟩)
   refine steps_cons ?_ ?_
   ·rintro b a w ⟨ha, HM⟩ hb hon hoff
    refine ⟨_, rfl, fun K hK => ?_⟩
    have e30 := PON ha 5 (hon 5 (by kernel_rfl))
    replace ha := Aside0.mk ha
    exact VL (.int .i64 (t770.length : Int)) (hK.out _ _ ⟨PUT ha 6 hb, HM⟩)
   refine steps_cons ?_ ?_
   ·rintro b a w ⟨ha, HM⟩ hb hon hoff
    refine ⟨_, rfl, fun K hK => ?_⟩
    have e28 := PON ha 3 (hon 3 (by kernel_rfl))
    have e31 := PON ha 6 (hon 6 (by kernel_rfl))
    replace ha := Aside0.mk ha
    exact VL (.int .i64 (wrap64 ((t767.length : Int) + (t770.length : Int)))) (hK.out _ _ ⟨PUT ha 7 hb, HM⟩)
   refine steps_cons ?_ ?_
   ·rintro b a w ⟨ha, HM⟩ hb hon hoff
    refine ⟨_, rfl, fun K hK => ?_⟩
    have e2 := POF ha 2
    replace ha := Aside0.mk ha
    exact VL (.pointer (some ⟨gb751, 2, none⟩)) (hK.out _ _ ⟨PUT ha 8 hb, HM⟩)
   refine steps_cons ?_ ?_
   ·rintro b a w ⟨ha, HM⟩ hb hon hoff
    refine ⟨_, rfl, fun K hK => ?_⟩
    obtain ⟨hcz37_0, hcz37_1, hcz37_2, hcz37_3, hcz37_4, hfz37_0, hfz37_1, hfz37_2, hfz37_3, hfz37_4⟩ := bk5 (HM.bx 0 rfl)
    have e33 := PON ha 8 (hon 8 (by kernel_rfl))
    replace ha := Aside0.mk ha
    exact VL (.slice A0_2 l0_2.length c0_2) (hK.out _ _ ⟨PUT ha 9 hb, HM⟩)
   refine steps_cons ?_ ?_
   ·rintro b a w ⟨ha, HM⟩ hb hon hoff
    refine ⟨_, rfl, fun K hK => ?_⟩
    have e34 := PON ha 9 (hon 9 (by kernel_rfl))
    replace ha := Aside0.mk ha
    exact VL (.int .i64 (l0_2.length : Int)) (hK.out _ _ ⟨PUT ha 10 hb, HM⟩)
   refine steps_cons ?_ ?_
   ·rintro b a w ⟨ha, HM⟩ hb hon hoff
    refine ⟨_, rfl, fun K hK => ?_⟩
    have e2 := POF ha 2
    replace ha := Aside0.mk ha
    exact VL (.pointer (some ⟨gb751, 3, none⟩)) (hK.out _ _ ⟨PUT ha 11 hb, HM⟩)
   refine steps_cons ?_ ?_
   ·rintro b a w ⟨ha, HM⟩ hb hon hoff
    refine ⟨_, rfl, fun K hK => ?_⟩
    obtain ⟨hcz38_0, hcz38_1, hcz38_2, hcz38_3, hcz38_4, hfz38_0, hfz38_1, hfz38_2, hfz38_3, hfz38_4⟩ := bk5 (HM.bx 0 rfl)
    have e36 := PON ha 11 (hon 11 (by kernel_rfl))
    replace ha := Aside0.mk ha
    exact VL (.slice A0_3 l0_3.length c0_3) (hK.out _ _ ⟨PUT ha 12 hb, HM⟩)
   refine steps_cons ?_ ?_
   ·rintro b a w ⟨ha, HM⟩ hb hon hoff
    refine ⟨_, rfl, fun K hK => ?_⟩
    have e37 := PON ha 12 (hon 12 (by kernel_rfl))
    replace ha := Aside0.mk ha
    exact VL (.int .i64 (l0_3.length : Int)) (hK.out _ _ ⟨PUT ha 13 hb, HM⟩)
   refine steps_cons ?_ ?_
   ·rintro b a w ⟨ha, HM⟩ hb hon hoff
    refine ⟨_, rfl, fun K hK => ?_⟩
    have e35 := PON ha 10 (hon 10 (by kernel_rfl))
    have e38 := PON ha 13 (hon 13 (by kernel_rfl))
    replace ha := Aside0.mk ha
    exact VL (.int .i64 (wrap64 ((l0_2.length : Int) + (l0_3.length : Int)))) (hK.out _ _ ⟨PUT ha 14 hb, HM⟩)
   refine steps_cons ?_ ?_
   ·rintro b a w ⟨ha, HM⟩ hb hon hoff
    refine ⟨_, rfl, fun K hK => ?_⟩
    have e32 := PON ha 7 (hon 7 (by kernel_rfl))
    have e39 := PON ha 14 (hon 14 (by kernel_rfl))
    replace ha := Aside0.mk ha
    exact VL (.bool (decide ((wrap64 ((t767.length : Int) + (t770.length : Int))) < (wrap64 ((l0_2.length : Int) + (l0_3.length : Int)))))) (hK.out _ _ ⟨PUT ha 15 hb, HM⟩)
   refine steps_cons ?_ ?_
   ·rintro b a w ⟨ha, HM⟩ hb hon hoff
    refine ⟨_, rfl, fun K hK => ?_⟩
    replace HM := HM.sF 2 rfl hb
    have e4 := POF ha 4
    have e25 := PON ha 0 (hon 0 (by kernel_rfl))
    replace ha := Aside0.mk ha
    refine ST (eS 2 4 0 [.int .i64 t755, .int .i64 t756, .slice Xo21 t767.length ko21, .slice Xo26 t770.length ko26, .slice Xo16 t763.length ko16] HM rfl rfl ?_ (hp := (eval_of e4)) (hx := (by rw [eval_of e25]; rfl)))
    clear HM
    intro w39 HM
    exact hK.out _ _ ⟨PUS ha, (HM).pick [0, 1, 2, 3, 4, 5, 6]⟩
   refine steps_cons ?_ ?_
   ·rintro b a w ⟨ha, HM⟩ hb hon hoff
    refine ⟨_, rfl, fun K hK => ?_⟩
    have e40 := PON ha 15 (hon 15 (by kernel_rfl))
    replace ha := Aside0.mk ha
    exact VL (.bool (decide ((wrap64 ((t767.length : Int) + (t770.length : Int))) < (wrap64 ((l0_2.length : Int) + (l0_3.length : Int)))))) (hK.out _ _ ⟨PUT ha 16 hb, HM⟩)
   exact steps_nil
  rintro _ w40 ⟨rfl, HM⟩
  replace HM := HM.sT 2 rfl rfl
  simp only [putSel, if_true, Act.put, List.setIfInBounds_toArray, List.set_cons_zero, List.set_cons_succ, gt_iff_lt, ge_iff_le]
  simp only [Option.some.injEq, Prod.mk.injEq] at H
  obtain ⟨rfl, rfl, rfl, rfl, rfl, rfl⟩ := H
  go_wp2
  refine bodyPost_ret (results_ct rfl _ _ gb753 32 #[.int .i64 t755, .int .i64 t756, .slice Xo21 t767.length ko21, .slice Xo26 t770.length ko26, .slice Xo16 t763.length ko16] (0, 0) _ rfl (HM.bx 2 rfl) Try.underlying32 rfl (by kernel_rfl)) rfl ?_
  exact ⟨_, _, _, ER, (MD HM).pick [3, 4, 5]⟩
 ·subst c9
  simp only [Option.some.injEq, Prod.mk.injEq] at H
  obtain ⟨rfl, rfl, rfl, rfl, rfl, rfl⟩ := H
  go_wp2_with (first | ((with_reducible refine gate_st (p := 4) rfl ?_); refine pS 2 4 0 [.int .i64 0, .int .i64 0, .slice none 0 0, .slice none 0 0, .slice none 0 0] HM rfl rfl ?_; clear HM; intro w41 HM; replace HM := HM.nl k95 95; replace HM := HM.nl k95 95; replace HM := HM.nl (Kd.int .i64) 3))
  refine bodyPost_ret (results_ct rfl _ _ gb753 32 #[.int .i64 0, .int .i64 0, .slice none 0 0, .slice none 0 0, .slice none 0 0] (0, 0) _ rfl (HM.bx 2 rfl) Try.underlying32 rfl (by kernel_rfl)) rfl ?_
  exact ⟨_, _, _, ER, (MD HM).pick [3, 4, 5]⟩
def impl_OpDo.j0 : Nat → Bool → Int → Int → List (S95) → List (S95) → List Int → Int → ByteArray → ByteArray → Option (Int × Int × (List (S95)) × (List (S95)) × List Int × Bool × ByteArray × ByteArray × Bool)
 | 0, _, _, _, _, _, _, _, _, _ => none
 | k + 1, x23, x777000, x777001, x777002, x777003, x777004, x778000, x778001, x778002 => if x23 = true then (some (0, 0, ([] : List (S95)), ([] : List (S95)), ([] : List Int), false, (⟨#[]⟩ : ByteArray), (⟨#[]⟩ : ByteArray), false)) else (if x778000 = 1 then ((impl_Get.f k x777000 x777001 x777002 x777003 x777004 x778001).bind fun bt782 => (some (bt782.1, bt782.2.1, bt782.2.2.1, bt782.2.2.2.1, bt782.2.2.2.2.1, bt782.2.2.2.2.2.2, bt782.2.2.2.2.2.1, (⟨#[]⟩ : ByteArray), true))) else (if x778000 = 2 then ((impl_Put.f k x777000 x777001 x777002 x777003 x777004 x778001 x778002).bind fun bt796 => (if (bt796.2.2.2.2.2.1.length : Int) > 0 then (if 0 < (bt796.2.2.2.2.2.1.length : Int) then (some (bt796.1, bt796.2.1, bt796.2.2.1, bt796.2.2.2.1, bt796.2.2.2.2.1, true, (⟨#[]⟩ : ByteArray), rdOf ByteArray.empty bt796.2.2.2.2.2.1 0, true)) else (none)) else (some (bt796.1, bt796.2.1, bt796.2.2.1, bt796.2.2.2.1, bt796.2.2.2.2.1, true, (⟨#[]⟩ : ByteArray), (⟨#[]⟩ : ByteArray), true)))) else ((impl_Drop.f k x777000 x777001 x777002 x777003 x777004 x778001).bind fun bt814 => (some (bt814.1, bt814.2.1, bt814.2.2.1, bt814.2.2.2.1, bt814.2.2.2.2.1, bt814.2.2.2.2.2, (⟨#[]⟩ : ByteArray), (⟨#[]⟩ : ByteArray), true)))))
def impl_OpDo.f (k : Nat) (a0_0 : Int) (a0_1 : Int) (l0_2 : List (S95)) (l0_3 : List (S95)) (l0_4 : List Int) (a1_0 : Int) (a1_1 : ByteArray) (a1_2 : ByteArray) : Option (Int × Int × (List (S95)) × (List (S95)) × List Int × Bool × ByteArray × ByteArray × Bool) := (impl_ThreeOk.f k a0_0 a0_1 l0_2 l0_3 l0_4).bind fun t780 => (if t780 = true then ((impl_OpOk.f k a1_0 a1_1 a1_2).bind fun t781 => (impl_OpDo.j0 k (!t781) a0_0 a0_1 l0_2 l0_3 l0_4 a1_0 a1_1 a1_2)) else (impl_OpDo.j0 k true a0_0 a0_1 l0_2 l0_3 l0_4 a1_0 a1_1 a1_2))
theorem impl_OpDo.mono_l : ∀ k, (∀ y0 y1 y2 y3 y4 y5 y6 y7 y8, LeO (impl_OpDo.j0 k y0 y1 y2 y3 y4 y5 y6 y7 y8) (impl_OpDo.j0 (k + 1) y0 y1 y2 y3 y4 y5 y6 y7 y8))
 | 0 => fun _ _ _ _ _ _ _ _ _ r h => by simp [impl_OpDo.j0] at h
 | k + 1 => by
  have ih0 := impl_OpDo.mono_l k
  ·intro y0 y1 y2 y3 y4 y5 y6 y7 y8
   unfold impl_OpDo.j0
   repeat' first | (with_reducible first | exact ih0 _ _ _ _ _ _ _ _ _ | exact impl_Drop.mono _ _ _ _ _ _ _ | exact impl_Get.mono _ _ _ _ _ _ _ | exact impl_OpOk.mono _ _ _ _ | exact impl_Put.mono _ _ _ _ _ _ _ _ | exact impl_ThreeOk.mono _ _ _ _ _ _ | exact LeO.refl _ | exact LeO.none _ | refine LeO.ite ?_ ?_ | refine LeO.bind ?_ (fun _ => ?_)) | exact ih0 _ _ _ _ _ _ _ _ _ | exact impl_Drop.mono _ _ _ _ _ _ _ | exact impl_Get.mono _ _ _ _ _ _ _ | exact impl_OpOk.mono _ _ _ _ | exact impl_Put.mono _ _ _ _ _ _ _ _ | exact impl_ThreeOk.mono _ _ _ _ _ _ | exact LeO.none _ | refine LeO.ite ?_ ?_ | refine LeO.bind ?_ (fun _ => ?_)
theorem impl_OpDo.mono : ∀ a0 a1 a2 a3 a4 a5 a6 a7 k, LeO (impl_OpDo.f k a0 a1 a2 a3 a4 a5 a6 a7) (impl_OpDo.f (k + 1) a0 a1 a2 a3 a4 a5 a6 a7) := by
 intro a0 a1 a2 a3 a4 a5 a6 a7 k
 have ih0 := impl_OpDo.mono_l k
 unfold impl_OpDo.f
 repeat' first | (with_reducible first | exact ih0 _ _ _ _ _ _ _ _ _ | exact impl_Drop.mono _ _ _ _ _ _ _ | exact impl_Get.mono _ _ _ _ _ _ _ | exact impl_OpOk.mono _ _ _ _ | exact impl_Put.mono _ _ _ _ _ _ _ _ | exact impl_ThreeOk.mono _ _ _ _ _ _ | exact LeO.refl _ | exact LeO.none _ | refine LeO.ite ?_ ?_ | refine LeO.bind ?_ (fun _ => ?_)) | exact ih0 _ _ _ _ _ _ _ _ _ | exact impl_Drop.mono _ _ _ _ _ _ _ | exact impl_Get.mono _ _ _ _ _ _ _ | exact impl_OpOk.mono _ _ _ _ | exact impl_Put.mono _ _ _ _ _ _ _ _ | exact impl_ThreeOk.mono _ _ _ _ _ _ | exact LeO.none _ | refine LeO.ite ?_ ?_ | refine LeO.bind ?_ (fun _ => ?_)
def impl_OpDo.T12 : Bool × List (List Nat × List Nat) := (true, [([], []), ([], []), ([0, 0], [0]), ([1, 2, 0, 1, 2], [1]), ([3, 0, 1, 2, 3], [])])
def impl_OpDo.B12 : List Nat := [0, 0, 1, 7, 15]
theorem impl_OpDo.tab12 : rtab .any (opsOf Try.f11 12) = impl_OpDo.T12 := by kernel_rfl
theorem impl_OpDo.bits12 : waitsOk impl_OpDo.T12.2 impl_OpDo.B12 = true := by kernel_rfl
set_option maxHeartbeats 8000000 in
set_option maxRecDepth 100000 in
theorem impl_OpDo.calls (k : Nat) (a0_0 : Int) (a0_1 : Int) (A0_2 : Option Addr) (c0_2 : Nat) (l0_2 : List (S95)) (A0_3 : Option Addr) (c0_3 : Nat) (l0_3 : List (S95)) (A0_4 : Option Addr) (c0_4 : Nat) (l0_4 : List Int) (a1_0 : Int) (a1_1 : ByteArray) (a1_2 : ByteArray) (r1 : Int) (r2 : Int) (r3 : List (S95)) (r4 : List (S95)) (r5 : List Int) (r6 : Bool) (r7 : ByteArray) (r8 : ByteArray) (r9 : Bool) (w : World) (hr0_2 : Kd.C k95 w A0_2 l0_2.length l0_2) (hc0_2 : l0_2.length ≤ c0_2) (hr0_3 : Kd.C k95 w A0_3 l0_3.length l0_3) (hc0_3 : l0_3.length ≤ c0_3) (hr0_4 : Kd.C (Kd.int .i64) w A0_4 l0_4.length l0_4) (hc0_4 : l0_4.length ≤ c0_4) (h : impl_OpDo.f k a0_0 a0_1 l0_2 l0_3 l0_4 a1_0 a1_1 a1_2 = some (r1, r2, r3, r4, r5, r6, r7, r8, r9)) :
  Calls Try.prog 11 #[.agg #[.int .i64 a0_0, .int .i64 a0_1, .slice A0_2 l0_2.length c0_2, .slice A0_3 l0_3.length c0_3, .slice A0_4 l0_4.length c0_4], .agg #[.int .i64 a1_0, .string a1_1, .string a1_2]] w fun e w' => ∃ v2_ v3_ v4_ : Value, e = .returned (.tuple #[.agg #[.int .i64 r1, .int .i64 r2, v2_, v3_, v4_], .agg #[.bool r6, .string r7, .string r8], .bool r9]) ∧ Mem w [] w' [rowR k95 95 v2_ r3, rowR k95 95 v3_ r4, rowR (Kd.int .i64) 3 v4_ r5] := by
 have hu32 := Try.underlying32
 have hu38 := Try.underlying38
 have hu34 := Try.underlying34
 have HR0_2 := Aside0.mk hr0_2
 have HC0_2 := Aside0.mk hc0_2
 clear hr0_2 hc0_2
 have HR0_3 := Aside0.mk hr0_3
 have HC0_3 := Aside0.mk hc0_3
 clear hr0_3 hc0_3
 have HR0_4 := Aside0.mk hr0_4
 have HC0_4 := Aside0.mk hc0_4
 clear hr0_4 hc0_4
 have HM := Mem.nil w
 have H := h
 clear h
 unfold impl_OpDo.f at H
 go_enter Try.func11, Try.ntmps11
 have HC7 := Aside0.mk H
 clear H
 go_upto_region 1 with (first | ((with_reducible refine gate_dst (N := 2) rfl ?_); refine pB 2 32 [.int .i64 a0_0, .int .i64 a0_1, .slice A0_2 l0_2.length c0_2, .slice A0_3 l0_3.length c0_3, .slice A0_4 l0_4.length c0_4] HM rfl ?_; clear HM; intro gb776 w3 HM) | ((with_reducible refine gate_dst (N := 3) rfl ?_); refine pB 3 38 [.int .i64 a1_0, .string a1_1, .string a1_2] HM rfl ?_; clear HM; intro gb777 w4 HM) | ((with_reducible refine gate_dst (N := 4) rfl ?_); refine pB 4 32 [.int .i64 0, .int .i64 0, .slice none 0 0, .slice none 0 0, .slice none 0 0] HM rfl ?_; clear HM; intro gb778 w5 HM) | ((with_reducible refine gate_dst (N := 5) rfl ?_); refine pB 5 34 [.bool false, .string (⟨#[]⟩ : ByteArray), .string (⟨#[]⟩ : ByteArray)] HM rfl ?_; clear HM; intro gb779 w6 HM))
 replace HM := nzM HM
 go_cut [23] (fun v23 wc => ∃ (kq : Nat) (x23_6 : Bool), v23 = .bool x23_6 ∧ Aside0 (impl_OpDo.j0 kq x23_6 a0_0 a0_1 l0_2 l0_3 l0_4 a1_0 a1_1 a1_2 = some (r1, r2, r3, r4, r5, r6, r7, r8, r9)) ∧ Aside0 (kq ≤ k) ∧ Mem w [] wc [box 32 gb776 [.int .i64 a0_0, .int .i64 a0_1, .slice A0_2 l0_2.length c0_2, .slice A0_3 l0_3.length c0_3, .slice A0_4 l0_4.length c0_4], box 38 gb777 [.int .i64 a1_0, .string a1_1, .string a1_2], box 32 gb778 [.int .i64 0, .int .i64 0, .slice none 0 0, .slice none 0 0, .slice none 0 0], box 34 gb779 [.bool false, .string (⟨#[]⟩ : ByteArray), .string (⟨#[]⟩ : ByteArray)]])
 case first =>
  have H := HC7.out
  clear HC7
  replace H := BN H; obtain ⟨t780, A9, H⟩ := H
  replace H := IB H
  rcases H with ⟨c11, H⟩ | ⟨c11, H⟩
  ·subst c11
   replace H := BN H; obtain ⟨t781, A13, H⟩ := H
   have H' := Aside0.mk H
   clear H
   obtain ⟨hcz8_0, hcz8_1, hcz8_2, hcz8_3, hcz8_4, hfz8_0, hfz8_1, hfz8_2, hfz8_3, hfz8_4⟩ := bk5 (HM.bx 0 rfl)
   go_wp2_with (first | ((with_reducible refine gate_callee (f := 27) rfl ?_); refine pC (some 17) rfl #[.agg #[.int .i64 a0_0, .int .i64 a0_1, .slice A0_2 l0_2.length c0_2, .slice A0_3 l0_3.length c0_3, .slice A0_4 l0_4.length c0_4]] rfl Try.func27 (impl_ThreeOk.calls k a0_0 a0_1 _ _ l0_2 _ _ l0_3 _ _ l0_4 true _ (HM.came HR0_2.out) HC0_2.out (HM.came HR0_3.out) HC0_3.out (HM.came HR0_4.out) HC0_4.out A9.out) ?_; rintro e w10 ⟨rfl, hR⟩; refine ⟨_, rfl, ?_⟩; replace HM := HM.call hR; clear hR; obtain ⟨hcz12_0, hcz12_1, hcz12_2, hfz12_0, hfz12_1, hfz12_2⟩ := bk3 (HM.bx 1 rfl)) | ((with_reducible refine gate_callee (f := 39) rfl ?_); refine pC (some 21) rfl #[.agg #[.int .i64 a1_0, .string a1_1, .string a1_2]] rfl Try.func39 (impl_OpOk.calls k a1_0 a1_1 a1_2 t781 _ A13.out) ?_; rintro e w14 ⟨rfl, hR⟩; refine ⟨_, rfl, ?_⟩; replace HM := HM.call hR; clear hR))
   go_meet
   case rel => exact ⟨_, (!t781), RS, H', ⟨by first | omega | exact Nat.le_refl _⟩, (MD HM).pick [0, 1, 2, 3]⟩
  ·subst c11
   have H' := Aside0.mk H
   clear H
   obtain ⟨hcz8_0, hcz8_1, hcz8_2, hcz8_3, hcz8_4, hfz8_0, hfz8_1, hfz8_2, hfz8_3, hfz8_4⟩ := bk5 (HM.bx 0 rfl)
   go_wp2_with (first | ((with_reducible refine gate_callee (f := 27) rfl ?_); refine pC (some 17) rfl #[.agg #[.int .i64 a0_0, .int .i64 a0_1, .slice A0_2 l0_2.length c0_2, .slice A0_3 l0_3.length c0_3, .slice A0_4 l0_4.length c0_4]] rfl Try.func27 (impl_ThreeOk.calls k a0_0 a0_1 _ _ l0_2 _ _ l0_3 _ _ l0_4 false _ (HM.came HR0_2.out) HC0_2.out (HM.came HR0_3.out) HC0_3.out (HM.came HR0_4.out) HC0_4.out A9.out) ?_; rintro e w10 ⟨rfl, hR⟩; refine ⟨_, rfl, ?_⟩; replace HM := HM.call hR; clear hR))
   go_meet
   case rel => exact ⟨_, (true), RS, H', ⟨by first | omega | exact Nat.le_refl _⟩, (MD HM).pick [0, 1, 2, 3]⟩
 case rest =>
  clear HC7 HM
  obtain ⟨kq, x23_6, rfl, HA, HJ6, HM⟩ := hcut
  cases kq with
  | zero => exact absurd HA.out (by simp [impl_OpDo.j0])
  | succ kj6 =>
   have H := HA.out
   clear HA
   simp only [impl_OpDo.j0] at H
   go_upto_if 23 with (fail)
   replace H := IB H
   rcases H with ⟨c15, H⟩ | ⟨c15, H⟩
   ·subst c15
    simp only [Option.some.injEq, Prod.mk.injEq] at H
    obtain ⟨rfl, rfl, rfl, rfl, rfl, rfl, rfl, rfl, rfl⟩ := H
    go_wp2_with (first | ((with_reducible refine gate_st (p := 4) rfl ?_); refine pS 2 4 0 [.int .i64 0, .int .i64 0, .slice none 0 0, .slice none 0 0, .slice none 0 0] HM rfl rfl ?_; clear HM; intro w16 HM) | ((with_reducible refine gate_st (p := 5) rfl ?_); refine pS 3 5 0 [.bool false, .string (⟨#[]⟩ : ByteArray), .string (⟨#[]⟩ : ByteArray)] HM rfl rfl ?_; clear HM; intro w17 HM; replace HM := HM.nl k95 95; replace HM := HM.nl k95 95; replace HM := HM.nl (Kd.int .i64) 3))
    refine bodyPost_ret (results_list (rs := [.cell 4 32, .cell 5 34, .tmp 6]) rfl (by simp) (.cell gb778 32 #[.int .i64 0, .int .i64 0, .slice none 0 0, .slice none 0 0, .slice none 0 0] (0, 0) _ rfl (HM.bx 2 rfl) Try.underlying32 rfl (by kernel_rfl) (.cell gb779 34 #[.bool false, .string (⟨#[]⟩ : ByteArray), .string (⟨#[]⟩ : ByteArray)] (0, 0) _ rfl (HM.bx 3 rfl) Try.underlying34 rfl (by kernel_rfl) (.tmp .nil)))) rfl ?_
    exact ⟨_, _, _, ER, (MD HM).pick [4, 5, 6]⟩
   ·subst c15
    obtain ⟨hcz18_0, hcz18_1, hcz18_2, hfz18_0, hfz18_1, hfz18_2⟩ := bk3 (HM.bx 1 rfl)
    go_upto_if 28 with (fail)
    replace H := IT H; rcases H with ⟨c19, H⟩ | ⟨c19, H⟩
    ·have c19b0 : (a1_0 == 1) = true := beq_iff_eq.mpr c19
     have c19b1 : (a1_0 != 1) = false := bne_eq_false_iff_eq.mpr c19
     clear c19
     (first | rw [c19b0] | (simp only [i64_w, i32_w]; rw [c19b0]) | skip)
     replace H := BN H; obtain ⟨⟨t782, t783, t784, t787, t790, t793, t794⟩, A21, H⟩ := H
     simp only [Option.some.injEq, Prod.mk.injEq] at H
     obtain ⟨rfl, rfl, rfl, rfl, rfl, rfl, rfl, rfl, rfl⟩ := H
     obtain ⟨hcz20_0, hcz20_1, hcz20_2, hcz20_3, hcz20_4, hfz20_0, hfz20_1, hfz20_2, hfz20_3, hfz20_4⟩ := bk5 (HM.bx 0 rfl)
     go_wp2_with (first | ((with_reducible refine gate_callee (f := 28) rfl ?_); refine pC (some 34) rfl #[.agg #[.int .i64 a0_0, .int .i64 a0_1, .slice A0_2 l0_2.length c0_2, .slice A0_3 l0_3.length c0_3, .slice A0_4 l0_4.length c0_4], .string a1_1] rfl Try.func28 (impl_Get.calls kj6 a0_0 a0_1 _ _ l0_2 _ _ l0_3 _ _ l0_4 a1_1 t782 t783 t784 t787 t790 t793 t794 _ (HM.came HR0_2.out) HC0_2.out (HM.came HR0_3.out) HC0_3.out (HM.came HR0_4.out) HC0_4.out A21.out) ?_; rintro e w22 ⟨v785, v788, v791, rfl, hR⟩; refine ⟨_, rfl, ?_⟩; replace HM := HM.call hR; clear hR) | ((with_reducible refine gate_dst (N := 7) rfl ?_); refine pB 7 32 [.int .i64 0, .int .i64 0, .slice none 0 0, .slice none 0 0, .slice none 0 0] HM rfl ?_; clear HM; intro gb795 w23 HM; obtain ⟨Xo24, ko24, eo24⟩ := HM.rdR 4 rfl; subst eo24; obtain ⟨Xo25, ko25, eo25⟩ := HM.rdR 5 rfl; subst eo25; obtain ⟨Xo26, ko26, eo26⟩ := HM.rdR 6 rfl; subst eo26) | ((with_reducible refine gate_st (p := 7) rfl ?_); refine pS 7 7 0 [.int .i64 t782, .int .i64 t783, .slice Xo24 t784.length ko24, .slice Xo25 t787.length ko25, .slice Xo26 t790.length ko26] HM rfl rfl ?_; clear HM; intro w27 HM; obtain ⟨hcz28_0, hcz28_1, hcz28_2, hcz28_3, hcz28_4, hfz28_0, hfz28_1, hfz28_2, hfz28_3, hfz28_4⟩ := bk5 (HM.bx 7 rfl)) | ((with_reducible refine gate_st (p := 4) rfl ?_); refine pS 2 4 0 [.int .i64 t782, .int .i64 t783, .slice Xo24 t784.length ko24, .slice Xo25 t787.length ko25, .slice Xo26 t790.length ko26] HM rfl rfl ?_; clear HM; intro w29 HM) | ((with_reducible refine gate_st (p := 5) rfl ?_); refine pS 3 5 0 [.bool t794, .string t793, .string (⟨#[]⟩ : ByteArray)] HM rfl rfl ?_; clear HM; intro w30 HM))
     refine bodyPost_ret (results_list (rs := [.cell 4 32, .cell 5 34, .tmp 6]) rfl (by simp) (.cell gb778 32 #[.int .i64 t782, .int .i64 t783, .slice Xo24 t784.length ko24, .slice Xo25 t787.length ko25, .slice Xo26 t790.length ko26] (0, 0) _ rfl (HM.bx 2 rfl) Try.underlying32 rfl (by kernel_rfl) (.cell gb779 34 #[.bool t794, .string t793, .string (⟨#[]⟩ : ByteArray)] (0, 0) _ rfl (HM.bx 3 rfl) Try.underlying34 rfl (by kernel_rfl) (.tmp .nil)))) rfl ?_
     exact ⟨_, _, _, ER, (MD HM).pick [4, 5, 6]⟩
    ·have c19b0 : (a1_0 == 1) = false := beq_eq_false_iff_ne.mpr c19
     have c19b1 : (a1_0 != 1) = true := bne_iff_ne.mpr c19
     (first | rw [c19b0] | (simp only [i64_w, i32_w]; rw [c19b0]) | skip)
     go_upto_if 42 with (fail)
     replace H := IT H; rcases H with ⟨c31, H⟩ | ⟨c31, H⟩
     ·have c31b0 : (a1_0 == 2) = true := beq_iff_eq.mpr c31
      have c31b1 : (a1_0 != 2) = false := bne_eq_false_iff_eq.mpr c31
      clear c31
      (first | rw [c31b0] | (simp only [i64_w, i32_w]; rw [c31b0]) | skip)
      replace H := BN H; obtain ⟨⟨t796, t797, t798, t801, t804, t807, t810⟩, A33, H⟩ := H
      obtain ⟨hcz32_0, hcz32_1, hcz32_2, hcz32_3, hcz32_4, hfz32_0, hfz32_1, hfz32_2, hfz32_3, hfz32_4⟩ := bk5 (HM.bx 0 rfl)
      go_upto_if 57 with (first | ((with_reducible refine gate_callee (f := 40) rfl ?_); refine pC (some 50) rfl #[.agg #[.int .i64 a0_0, .int .i64 a0_1, .slice A0_2 l0_2.length c0_2, .slice A0_3 l0_3.length c0_3, .slice A0_4 l0_4.length c0_4], .string a1_1, .string a1_2] rfl Try.func40 (impl_Put.calls kj6 a0_0 a0_1 _ _ l0_2 _ _ l0_3 _ _ l0_4 a1_1 a1_2 t796 t797 t798 t801 t804 t807 t810 _ (HM.came HR0_2.out) HC0_2.out (HM.came HR0_3.out) HC0_3.out (HM.came HR0_4.out) HC0_4.out A33.out) ?_; rintro e w34 ⟨v799, v802, v805, v808, rfl, hR⟩; refine ⟨_, rfl, ?_⟩; replace HM := HM.call hR; clear hR) | ((with_reducible refine gate_dst (N := 10) rfl ?_); refine pB 10 32 [.int .i64 0, .int .i64 0, .slice none 0 0, .slice none 0 0, .slice none 0 0] HM rfl ?_; clear HM; intro gb811 w35 HM; obtain ⟨Xo36, ko36, eo36⟩ := HM.rdR 4 rfl; subst eo36; obtain ⟨Xo37, ko37, eo37⟩ := HM.rdR 5 rfl; subst eo37; obtain ⟨Xo38, ko38, eo38⟩ := HM.rdR 6 rfl; subst eo38) | ((with_reducible refine gate_st (p := 10) rfl ?_); refine pS 8 10 0 [.int .i64 t796, .int .i64 t797, .slice Xo36 t798.length ko36, .slice Xo37 t801.length ko37, .slice Xo38 t804.length ko38] HM rfl rfl ?_; clear HM; intro w39 HM) | ((with_reducible refine gate_dst (N := 13) rfl ?_); refine pB 13 34 [.bool false, .string (⟨#[]⟩ : ByteArray), .string (⟨#[]⟩ : ByteArray)] HM rfl ?_; clear HM; intro gb812 w40 HM) | ((with_reducible refine gate_st (p := 13) rfl ?_); refine pS 9 13 0 [.bool true, .string (⟨#[]⟩ : ByteArray), .string (⟨#[]⟩ : ByteArray)] HM rfl rfl ?_; clear HM; intro w41 HM; obtain ⟨Xo42, ko42, eo42⟩ := HM.rdR 7 rfl; subst eo42))
      replace HM := nzM HM
      replace H := IT H; rcases H with ⟨c43, H⟩ | ⟨c43, H⟩
      ·replace c43 : (t807.length : Int) > 0 := c43
       have c43b0 : decide (0 < (t807.length : Int)) = true := decide_eq_true c43
       have c43b1 : decide (0 < t807.length) = true := decide_eq_true (by omega)
       have c43b9 : decide (0 < t807.length) = true := decide_eq_true (by omega)
       clear c43
       (first | rw [c43b0] | rw [c43b9] | (simp only [i64_w, i32_w]; rw [c43b0]) | skip)
       replace H := GD H; obtain ⟨c44, H⟩ := H
       replace c44 : 0 < (t807.length : Int) := c44
       have c44b0 : decide (0 < (t807.length : Int)) = true := decide_eq_true c44
       have c44b1 : decide (0 < t807.length) = true := decide_eq_true (by omega)
       have c44b9 : decide (0 < t807.length) = true := decide_eq_true (by omega)
       clear c44
       have p813 : 0 ≤ (0 : Int) := (by omega)
       have q813 : (0 : Int) < (t807.length : Int) := of_decide_eq_true AS
       obtain ⟨ad813, e813, hx813_0⟩ := Kd.at_string (HM.CR 7 rfl).2.2 0 p813 q813
       cases e813
       have qi813 : (0 < t807.length) = True := eq_true (by omega)
       (try rw [show ((0 : Int)).toNat = 0 from rfl] at hx813_0)
       (try rw [Addr.add_zero'] at hx813_0)
       replace p813 := eq_true p813
       replace q813 := eq_true q813
       try go_wp2_with (first | ((with_reducible refine gate_st (p := 61) rfl ?_); refine pS 9 61 2 [.string (rdOf ByteArray.empty t807 0)] HM rfl rfl ?_; clear HM; intro w45 HM))
       refine RGN 5 [0, 1, 2, 3, 4] (fun a0 b a w' => a = putSel a0 b [(0, 62, .agg #[.int .i64 t796, .int .i64 t797, .slice Xo36 t798.length ko36, .slice Xo37 t801.length ko37, .slice Xo38 t804.length ko38]), (1, 63, .agg #[.bool true, .string (⟨#[]⟩ : ByteArray), .string (rdOf ByteArray.empty t807 0)]), (4, 6, .bool true)] ∧ Mem w [] w' [box 32 gb776 [.int .i64 a0_0, .int .i64 a0_1, .slice A0_2 l0_2.length c0_2, .slice A0_3 l0_3.length c0_3, .slice A0_4 l0_4.length c0_4], box 38 gb777 [.int .i64 a1_0, .string a1_1, .string a1_2], sel (b 2) (box 32 gb778 [.int .i64 t796, .int .i64 t797, .slice Xo36 t798.length ko36, .slice Xo37 t801.length ko37, .slice Xo38 t804.length ko38]) (box 32 gb778 [.int .i64 0, .int .i64 0, .slice none 0 0, .slice none 0 0, .slice none 0 0]), sel (b 3) (box 34 gb779 [.bool true, .string (⟨#[]⟩ : ByteArray), .string (rdOf ByteArray.empty t807 0)]) (box 34 gb779 [.bool false, .string (⟨#[]⟩ : ByteArray), .string (⟨#[]⟩ : ByteArray)]), rowR k95 95 (.slice Xo36 t798.length ko36) t798, rowR k95 95 (.slice Xo37 t801.length ko37) t801, rowR (Kd.int .i64) 3 (.slice Xo38 t804.length ko38) t804, rowR Kd.string 9 (.slice (some ad813) t807.length ko42) t807, box 32 gb811 [.int .i64 t796, .int .i64 t797, .slice Xo36 t798.length ko36, .slice Xo37 t801.length ko37, .slice Xo38 t804.length ko38], box 34 gb812 [.bool true, .string (⟨#[]⟩ : ByteArray), .string (rdOf ByteArray.empty t807 0)]]) impl_OpDo.tab12 impl_OpDo.bits12 ?_ ?_ ?_
       ·exact ⟨PS0' rfl _, (HM.drew).pick [0, 1, 2, 3, 4, 5, 6, 7, 8, 9]⟩
       ·clear HM
        refine steps_cons ?_ ?_
        ·rintro b a w ⟨ha, HM⟩ hb hon hoff
         refine ⟨_, rfl, fun K hK => ?_⟩
         obtain ⟨hcz50_0, hcz50_1, hcz50_2, hcz50_3, hcz50_4, hfz50_0, hfz50_1, hfz50_2, hfz50_3, hfz50_4⟩ := bk5 (HM.bx 8 rfl)
         have e10 := POF ha 10
         replace ha := Aside0.mk ha
         exact VL (.agg #[.int .i64 t796, .int .i64 t797, .slice Xo36 t798.length ko36, .slice Xo37 t801.length ko37, .slice Xo38 t804.length ko38]) (hK.out _ _ ⟨PUT ha 0 hb, HM⟩)
        refine steps_cons ?_ ?_
        ·rintro b a w ⟨ha, HM⟩ hb hon hoff
         refine ⟨_, rfl, fun K hK => ?_⟩
         obtain ⟨hcz51_0, hcz51_1, hcz51_2, hfz51_0, hfz51_1, hfz51_2⟩ := bk3 (HM.bx 9 rfl)
         have e13 := POF ha 13
         replace ha := Aside0.mk ha
         exact VL (.agg #[.bool true, .string (⟨#[]⟩ : ByteArray), .string (rdOf ByteArray.empty t807 0)]) (hK.out _ _ ⟨PUT ha 1 hb, HM⟩)
        refine steps_cons ?_ ?_
        ·rintro b a w ⟨ha, HM⟩ hb hon hoff
         refine ⟨_, rfl, fun K hK => ?_⟩
         replace HM := HM.sF 2 rfl hb
         have e4 := POF ha 4
         have e62 := PON ha 0 (hon 0 (by kernel_rfl))
         replace ha := Aside0.mk ha
         refine ST (eS 2 4 0 [.int .i64 t796, .int .i64 t797, .slice Xo36 t798.length ko36, .slice Xo37 t801.length ko37, .slice Xo38 t804.length ko38] HM rfl rfl ?_ (hp := (eval_of e4)) (hx := (by rw [eval_of e62]; rfl)))
         clear HM
         intro w52 HM
         exact hK.out _ _ ⟨PUS ha, (HM).pick [0, 1, 2, 3, 4, 5, 6, 7, 8, 9]⟩
        refine steps_cons ?_ ?_
        ·rintro b a w ⟨ha, HM⟩ hb hon hoff
         refine ⟨_, rfl, fun K hK => ?_⟩
         replace HM := HM.sF 3 rfl hb
         have e5 := POF ha 5
         have e63 := PON ha 1 (hon 1 (by kernel_rfl))
         replace ha := Aside0.mk ha
         refine ST (eS 3 5 0 [.bool true, .string (⟨#[]⟩ : ByteArray), .string (rdOf ByteArray.empty t807 0)] HM rfl rfl ?_ (hp := (eval_of e5)) (hx := (by rw [eval_of e63]; rfl)))
         clear HM
         intro w53 HM
         exact hK.out _ _ ⟨PUS ha, (HM).pick [0, 1, 2, 3, 4, 5, 6, 7, 8, 9]⟩
        refine steps_cons ?_ ?_
        ·rintro b a w ⟨ha, HM⟩ hb hon hoff
         refine ⟨_, rfl, fun K hK => ?_⟩
         replace ha := Aside0.mk ha
         exact VL (.bool true) (hK.out _ _ ⟨PUT ha 2 hb, HM⟩)
        exact steps_nil
       rintro _ w54 ⟨rfl, HM⟩
       replace HM := HM.sT 2 rfl rfl
       replace HM := HM.sT 3 rfl rfl
       simp only [putSel, if_true, Act.put, List.setIfInBounds_toArray, List.set_cons_zero, List.set_cons_succ, gt_iff_lt, ge_iff_le]
       simp only [Option.some.injEq, Prod.mk.injEq] at H
       obtain ⟨rfl, rfl, rfl, rfl, rfl, rfl, rfl, rfl, rfl⟩ := H
       go_wp2
       refine bodyPost_ret (results_list (rs := [.cell 4 32, .cell 5 34, .tmp 6]) rfl (by simp) (.cell gb778 32 #[.int .i64 t796, .int .i64 t797, .slice Xo36 t798.length ko36, .slice Xo37 t801.length ko37, .slice Xo38 t804.length ko38] (0, 0) _ rfl (HM.bx 2 rfl) Try.underlying32 rfl (by kernel_rfl) (.cell gb779 34 #[.bool true, .string (⟨#[]⟩ : ByteArray), .string (rdOf ByteArray.empty t807 0)] (0, 0) _ rfl (HM.bx 3 rfl) Try.underlying34 rfl (by kernel_rfl) (.tmp .nil)))) rfl ?_
       exact ⟨_, _, _, ER, (MD HM).pick [4, 5, 6]⟩
      ·replace c43 : ¬ ((t807.length : Int) > 0) := c43
       have c43b0 : decide (0 < (t807.length : Int)) = false := decide_eq_false c43
       have c43b1 : decide (0 < t807.length) = false := decide_eq_false (by omega)
       have c43b9 : decide (0 < t807.length) = false := decide_eq_false (by omega)
       clear c43
       (first | rw [c43b0] | rw [c43b9] | (simp only [i64_w, i32_w]; rw [c43b0]) | skip)
       try go_wp2
       refine RGN 5 [0, 1, 2, 3, 4] (fun a0 b a w' => a = putSel a0 b [(0, 62, .agg #[.int .i64 t796, .int .i64 t797, .slice Xo36 t798.length ko36, .slice Xo37 t801.length ko37, .slice Xo38 t804.length ko38]), (1, 63, .agg #[.bool true, .string (⟨#[]⟩ : ByteArray), .string (⟨#[]⟩ : ByteArray)]), (4, 6, .bool true)] ∧ Mem w [] w' [box 32 gb776 [.int .i64 a0_0, .int .i64 a0_1, .slice A0_2 l0_2.length c0_2, .slice A0_3 l0_3.length c0_3, .slice A0_4 l0_4.length c0_4], box 38 gb777 [.int .i64 a1_0, .string a1_1, .string a1_2], sel (b 2) (box 32 gb778 [.int .i64 t796, .int .i64 t797, .slice Xo36 t798.length ko36, .slice Xo37 t801.length ko37, .slice Xo38 t804.length ko38]) (box 32 gb778 [.int .i64 0, .int .i64 0, .slice none 0 0, .slice none 0 0, .slice none 0 0]), sel (b 3) (box 34 gb779 [.bool true, .string (⟨#[]⟩ : ByteArray), .string (⟨#[]⟩ : ByteArray)]) (box 34 gb779 [.bool false, .string (⟨#[]⟩ : ByteArray), .string (⟨#[]⟩ : ByteArray)]), rowR k95 95 (.slice Xo36 t798.length ko36) t798, rowR k95 95 (.slice Xo37 t801.length ko37) t801, rowR (Kd.int .i64) 3 (.slice Xo38 t804.length ko38) t804, rowR Kd.string 9 (.slice Xo42 t807.length ko42) t807, box 32 gb811 [.int .i64 t796, .int .i64 t797, .slice Xo36 t798.length ko36, .slice Xo37 t801.length ko37, .slice Xo38 t804.length ko38], box 34 gb812 [.bool true, .string (⟨#[]⟩ : ByteArray), .string (⟨#[]⟩ : ByteArray)]]) impl_OpDo.tab12 impl_OpDo.bits12 ?_ ?_ ?_
       ·exact ⟨PS0' rfl _, (HM.drew).pick [0, 1, 2, 3, 4, 5, 6, 7, 8, 9]⟩
       ·clear HM
        refine steps_cons ?_ ?_
        ·rintro b a w ⟨ha, HM⟩ hb hon hoff
         refine ⟨_, rfl, fun K hK => ?_⟩
         obtain ⟨hcz59_0, hcz59_1, hcz59_2, hcz59_3, hcz59_4, hfz59_0, hfz59_1, hfz59_2, hfz59_3, hfz59_4⟩ := bk5 (HM.bx 8 rfl)
         have e10 := POF ha 10
         replace ha := Aside0.mk ha
         exact VL (.agg #[.int .i64 t796, .int .i64 t797, .slice Xo36 t798.length ko36, .slice Xo37 t801.length ko37, .slice Xo38 t804.length ko38]) (hK.out _ _ ⟨PUT ha 0 hb, HM⟩)
        refine steps_cons ?_ ?_
        ·rintro b a w ⟨ha, HM⟩ hb hon hoff
         refine ⟨_, rfl, fun K hK => ?_⟩
         obtain ⟨hcz60_0, hcz60_1, hcz60_2, hfz60_0, hfz60_1, hfz60_2⟩ := bk3 (HM.bx 9 rfl)
         have e13 := POF ha 13
         replace ha := Aside0.mk ha
         exact VL (.agg #[.bool true, .string (⟨#[]⟩ : ByteArray), .string (⟨#[]⟩ : ByteArray)]) (hK.out _ _ ⟨PUT ha 1 hb, HM⟩)
        refine steps_cons ?_ ?_
        ·rintro b a w ⟨ha, HM⟩ hb hon hoff
         refine ⟨_, rfl, fun K hK => ?_⟩
         replace HM := HM.sF 2 rfl hb
         have e4 := POF ha 4
         have e62 := PON ha 0 (hon 0 (by kernel_rfl))
         replace ha := Aside0.mk ha
         refine ST (eS 2 4 0 [.int .i64 t796, .int .i64 t797, .slice Xo36 t798.length ko36, .slice Xo37 t801.length ko37, .slice Xo38 t804.length ko38] HM rfl rfl ?_ (hp := (eval_of e4)) (hx := (by rw [eval_of e62]; rfl)))
         clear HM
         intro w61 HM
         exact hK.out _ _ ⟨PUS ha, (HM).pick [0, 1, 2, 3, 4, 5, 6, 7, 8, 9]⟩
        refine steps_cons ?_ ?_
        ·rintro b a w ⟨ha, HM⟩ hb hon hoff
         refine ⟨_, rfl, fun K hK => ?_⟩
         replace HM := HM.sF 3 rfl hb
         have e5 := POF ha 5
         have e63 := PON ha 1 (hon 1 (by kernel_rfl))
         replace ha := Aside0.mk ha
         refine ST (eS 3 5 0 [.bool true, .string (⟨#[]⟩ : ByteArray), .string (⟨#[]⟩ : ByteArray)] HM rfl rfl ?_ (hp := (eval_of e5)) (hx := (by rw [eval_of e63]; rfl)))
         clear HM
         intro w62 HM
         exact hK.out _ _ ⟨PUS ha, (HM).pick [0, 1, 2, 3, 4, 5, 6, 7, 8, 9]⟩
        refine steps_cons ?_ ?_
        ·rintro b a w ⟨ha, HM⟩ hb hon hoff
         refine ⟨_, rfl, fun K hK => ?_⟩
         replace ha := Aside0.mk ha
         exact VL (.bool true) (hK.out _ _ ⟨PUT ha 2 hb, HM⟩)
        exact steps_nil
       rintro _ w63 ⟨rfl, HM⟩
       replace HM := HM.sT 2 rfl rfl
       replace HM := HM.sT 3 rfl rfl
       simp only [putSel, if_true, Act.put, List.setIfInBounds_toArray, List.set_cons_zero, List.set_cons_succ, gt_iff_lt, ge_iff_le]
       simp only [Option.some.injEq, Prod.mk.injEq] at H
       obtain ⟨rfl, rfl, rfl, rfl, rfl, rfl, rfl, rfl, rfl⟩ := H
       go_wp2
       refine bodyPost_ret (results_list (rs := [.cell 4 32, .cell 5 34, .tmp 6]) rfl (by simp) (.cell gb778 32 #[.int .i64 t796, .int .i64 t797, .slice Xo36 t798.length ko36, .slice Xo37 t801.length ko37, .slice Xo38 t804.length ko38] (0, 0) _ rfl (HM.bx 2 rfl) Try.underlying32 rfl (by kernel_rfl) (.cell gb779 34 #[.bool true, .string (⟨#[]⟩ : ByteArray), .string (⟨#[]⟩ : ByteArray)] (0, 0) _ rfl (HM.bx 3 rfl) Try.underlying34 rfl (by kernel_rfl) (.tmp .nil)))) rfl ?_
       exact ⟨_, _, _, ER, (MD HM).pick [4, 5, 6]⟩
     ·have c31b0 : (a1_0 == 2) = false := beq_eq_false_iff_ne.mpr c31
      have c31b1 : (a1_0 != 2) = true := bne_iff_ne.mpr c31
      (first | rw [c31b0] | (simp only [i64_w, i32_w]; rw [c31b0]) | skip)
      replace H := BN H; obtain ⟨⟨t814, t815, t816, t819, t822, t825⟩, A65, H⟩ := H
      simp only [Option.some.injEq, Prod.mk.injEq] at H
      obtain ⟨rfl, rfl, rfl, rfl, rfl, rfl, rfl, rfl, rfl⟩ := H
      obtain ⟨hcz64_0, hcz64_1, hcz64_2, hcz64_3, hcz64_4, hfz64_0, hfz64_1, hfz64_2, hfz64_3, hfz64_4⟩ := bk5 (HM.bx 0 rfl)
      go_wp2_with (first | ((with_reducible refine gate_callee (f := 41) rfl ?_); refine pC (some 68) rfl #[.agg #[.int .i64 a0_0, .int .i64 a0_1, .slice A0_2 l0_2.length c0_2, .slice A0_3 l0_3.length c0_3, .slice A0_4 l0_4.length c0_4], .string a1_1] rfl Try.func41 (impl_Drop.calls kj6 a0_0 a0_1 _ _ l0_2 _ _ l0_3 _ _ l0_4 a1_1 t814 t815 t816 t819 t822 t825 _ (HM.came HR0_2.out) HC0_2.out (HM.came HR0_3.out) HC0_3.out (HM.came HR0_4.out) HC0_4.out A65.out) ?_; rintro e w66 ⟨v817, v820, v823, rfl, hR⟩; refine ⟨_, rfl, ?_⟩; replace HM := HM.call hR; clear hR) | ((with_reducible refine gate_dst (N := 14) rfl ?_); refine pB 14 32 [.int .i64 0, .int .i64 0, .slice none 0 0, .slice none 0 0, .slice none 0 0] HM rfl ?_; clear HM; intro gb826 w67 HM; obtain ⟨Xo68, ko68, eo68⟩ := HM.rdR 4 rfl; subst eo68; obtain ⟨Xo69, ko69, eo69⟩ := HM.rdR 5 rfl; subst eo69; obtain ⟨Xo70, ko70, eo70⟩ := HM.rdR 6 rfl; subst eo70) | ((with_reducible refine gate_st (p := 14) rfl ?_); refine pS 7 14 0 [.int .i64 t814, .int .i64 t815, .slice Xo68 t816.length ko68, .slice Xo69 t819.length ko69, .slice Xo70 t822.length ko70] HM rfl rfl ?_; clear HM; intro w71 HM; obtain ⟨hcz72_0, hcz72_1, hcz72_2, hcz72_3, hcz72_4, hfz72_0, hfz72_1, hfz72_2, hfz72_3, hfz72_4⟩ := bk5 (HM.bx 7 rfl)) | ((with_reducible refine gate_st (p := 4) rfl ?_); refine pS 2 4 0 [.int .i64 t814, .int .i64 t815, .slice Xo68 t816.length ko68, .slice Xo69 t819.length ko69, .slice Xo70 t822.length ko70] HM rfl rfl ?_; clear HM; intro w73 HM) | ((with_reducible refine gate_st (p := 5) rfl ?_); refine pS 3 5 0 [.bool t825, .string (⟨#[]⟩ : ByteArray), .string (⟨#[]⟩ : ByteArray)] HM rfl rfl ?_; clear HM; intro w74 HM))
      refine bodyPost_ret (results_list (rs := [.cell 4 32, .cell 5 34, .tmp 6]) rfl (by simp) (.cell gb778 32 #[.int .i64 t814, .int .i64 t815, .slice Xo68 t816.length ko68, .slice Xo69 t819.length ko69, .slice Xo70 t822.length ko70] (0, 0) _ rfl (HM.bx 2 rfl) Try.underlying32 rfl (by kernel_rfl) (.cell gb779 34 #[.bool t825, .string (⟨#[]⟩ : ByteArray), .string (⟨#[]⟩ : ByteArray)] (0, 0) _ rfl (HM.bx 3 rfl) Try.underlying34 rfl (by kernel_rfl) (.tmp .nil)))) rfl ?_
      exact ⟨_, _, _, ER, (MD HM).pick [4, 5, 6]⟩
/-- A state of type 83 at block g of W; what its slices lead to came in by w0. -/
def IsS83 (w0 W : World) (g : Nat) (f0 : List Int) (f1 : Int) (f2 : Int) : Prop := ∃ A0 c0, W.heap[g]? = some (.cells #[.slice A0 f0.length c0, .int .i64 f1, .int .i64 f2] 83 (0, 0)) ∧ w0.heap.size ≤ g ∧ Kd.C (Kd.int .u8) w0 A0 f0.length f0
theorem IsS83.grown {w0 W : World} {g : Nat} {f0 : List Int} {f1 : Int} {f2 : Int} {W1 : World} {row : Option Nat} (h : IsS83 w0 W g f0 f1 f2) (hw : W.grownBy W1 row) (hne : some g ≠ row) : IsS83 w0 W1 g f0 f1 f2 := by
 obtain ⟨A0, c0, hb, hg, hr0⟩ := h
 exact ⟨A0, c0, blk_grown hb hw hne, hg, hr0⟩
theorem IsS83.kept {w0 W : World} {g : Nat} {f0 : List Int} {f1 : Int} {f2 : Int} {W1 : World} {S : Nat → Prop} (h : IsS83 w0 W g f0 f1 f2) (hk : Kept W W1 S) (hne : ¬ S g) : IsS83 w0 W1 g f0 f1 f2 := by
 obtain ⟨A0, c0, hb, hg, hr0⟩ := h
 exact ⟨A0, c0, blk_kept hb hk hne, hg, hr0⟩
theorem IsS83.below {w0 W : World} {g : Nat} {f0 : List Int} {f1 : Int} {f2 : Int} {W1 : World} (h : IsS83 w0 W g f0 f1 f2) (hw : Below W.heap.size W W1) : IsS83 w0 W1 g f0 f1 f2 := h.grown (grown_of_below hw none) (by simp)
theorem IsS83.alloc {w0 W : World} {g : Nat} {f0 : List Int} {f1 : Int} {f2 : Int} (h : IsS83 w0 W g f0 f1 f2) (o : Obj) : IsS83 w0 (W.alloc o) g f0 f1 f2 := h.below (below_alloc (Below.refl _ _) o)
theorem IsS83.drewN {w0 W : World} {g : Nat} {f0 : List Int} {f1 : Int} {f2 : Int} (h : IsS83 w0 W g f0 f1 f2) (m : Nat) : IsS83 w0 (W.drewN m) g f0 f1 f2 := h
theorem IsS83.drew {w0 W : World} {g : Nat} {f0 : List Int} {f1 : Int} {f2 : Int} (h : IsS83 w0 W g f0 f1 f2) : IsS83 w0 W.drew g f0 f1 f2 := h
theorem IsS83.at_ {w0 W : World} {g : Nat} {f0 : List Int} {f1 : Int} {f2 : Int} {w' : World} {m : Nat} (hq : W.drewN m = w') (h : IsS83 w0 W g f0 f1 f2) : IsS83 w0 w' g f0 f1 f2 := by subst hq; exact IsS83.drewN h m
theorem IsS83.apart {w0 W : World} {g : Nat} {f0 : List Int} {f1 : Int} {f2 : Int} {α : Type} {d : Kd α} {e : Nat} {base : Nat} {ok : Nat → Prop} {v : Value} {xs : List α} (h : IsS83 w0 W g f0 f1 f2) (ho : d.R e W base ok v xs) (ht : ∀ q, q ∈ e :: d.E → q ≠ 83) : d.R e W base (fun k => ok k ∧ k ≠ g) v xs := by
 obtain ⟨A0, c0, hb, hg, hr0⟩ := h
 exact Kd.R_types ho hb ht
theorem IsS83.lt {w0 W : World} {g : Nat} {f0 : List Int} {f1 : Int} {f2 : Int} (h : IsS83 w0 W g f0 f1 f2) : g < W.heap.size := by
 obtain ⟨A0, c0, hb, hg, hr0⟩ := h
 exact blk_lt hb
def spec_l01New.l0 : Nat → List Int → Int → Int → Option (List Int × Int × Int)
 | 0, _, _, _ => none
 | k + 1, x0, x3, x4 => if x4 < (x0.length : Int) then (if x4 < 4000 then (if 0 ≤ x4 then (spec_l01New.l0 k x0 (Go.bits .and .i64 (wrap64 ((wrap64 ((wrap64 (x3 * 179)) + (wrap64 (rd x0 x4)))) + 7)) 1073741823) (wrap64 (x4 + 1))) else (none)) else (some (x0, 0, x3))) else (some (x0, 0, x3))
def spec_l01New.f (k : Nat) (l0 : List Int) : Option (List Int × Int × Int) := spec_l01New.l0 k l0 (wrap64 (774119 + (l0.length : Int))) 0
theorem spec_l01New.mono_l : ∀ k, (∀ y0 y1 y2, LeO (spec_l01New.l0 k y0 y1 y2) (spec_l01New.l0 (k + 1) y0 y1 y2))
 | 0 => fun _ _ _ r h => by simp [spec_l01New.l0] at h
 | k + 1 => by
  have ih0 := spec_l01New.mono_l k
  ·intro y0 y1 y2
   unfold spec_l01New.l0
   repeat' first | (with_reducible first | exact ih0 _ _ _ | exact LeO.refl _ | exact LeO.none _ | refine LeO.ite ?_ ?_ | refine LeO.bind ?_ (fun _ => ?_)) | exact ih0 _ _ _ | exact LeO.none _ | refine LeO.ite ?_ ?_ | refine LeO.bind ?_ (fun _ => ?_)
theorem spec_l01New.mono : ∀ a0 k, LeO (spec_l01New.f k a0) (spec_l01New.f (k + 1) a0) := by
 intro a0 k
 have ih0 := spec_l01New.mono_l k
 unfold spec_l01New.f
 repeat' first | (with_reducible first | exact ih0 _ _ _ | exact LeO.refl _ | exact LeO.none _ | refine LeO.ite ?_ ?_ | refine LeO.bind ?_ (fun _ => ?_)) | exact ih0 _ _ _ | exact LeO.none _ | refine LeO.ite ?_ ?_ | refine LeO.bind ?_ (fun _ => ?_)
set_option maxHeartbeats 8000000 in
set_option maxRecDepth 100000 in
theorem spec_l01New.calls (k : Nat) (A0 : Option Addr) (c0 : Nat) (l0 : List Int) (r1 : List Int) (r2 : Int) (r3 : Int) (w0 w : World) (hB : Below w0.heap.size w0 w) (hr0 : Kd.C (Kd.int .u8) w0 A0 l0.length l0) (hc0 : l0.length ≤ c0) (h : spec_l01New.f k l0 = some (r1, r2, r3)) :
  Calls Try.prog 52 #[.slice A0 l0.length c0] w fun e w' => ∃ g_ : Nat, ∃ (X0_ : Option Addr) (c0_ : Nat), e = .returned (.pointer (some ⟨g_, 0, none⟩)) ∧ Mem w [] w' [box 83 g_ [.slice X0_ r1.length c0_, .int .i64 r2, .int .i64 r3]] ∧ Kd.C (Kd.int .u8) w0 X0_ r1.length r1 ∧ r1.length ≤ c0_ := by
 have hu83 := Try.underlying83
 have HZ0 := Aside0.mk hr0
 have HR0 := Aside0.mk (Kd.C_below hr0 hB)
 have HC0 := Aside0.mk hc0
 clear hr0 hc0
 clear hB
 have HM := Mem.nil w
 have H := h
 clear h
 unfold spec_l01New.f at H
 go_enter Try.func52, Try.ntmps52
 have H' := Aside0.mk H
 clear H
 go_wp2
 go_loopg [3, 4] k (fun kq v3 v4 w' => ∃ (x3_1 : Int) (x4_1 : Int), v3 = .int .i64 x3_1 ∧ v4 = .int .i64 x4_1 ∧ Aside0 (spec_l01New.l0 kq l0 x3_1 x4_1 = some (r1, r2, r3)) ∧ Aside0 (kq ≤ k) ∧ Mem w [] w' [])
 case atStart => exact ⟨(wrap64 (774119 + (l0.length : Int))), (0), RS, RS, H', ⟨Nat.le_refl _⟩, (MD HM).pick []⟩
 case round =>
  clear H' HM
  obtain ⟨x3_1, x4_1, rfl, rfl, HA, HK1, HM⟩ := hrel
  cases gk with
  | zero => exact absurd HA.out (by simp [spec_l01New.l0])
  | succ k1 =>
   have H := HA.out
   clear HA
   simp only [spec_l01New.l0] at H
   replace H := IT H; rcases H with ⟨c2, H⟩ | ⟨c2, H⟩
   ·have c2b0 : decide (x4_1 < (l0.length : Int)) = true := decide_eq_true c2
    clear c2
    go_upto_if 15 with (fail)
    replace H := IT H; rcases H with ⟨c3, H⟩ | ⟨c3, H⟩
    ·have c3b0 : decide (x4_1 < 4000) = true := decide_eq_true c3
     clear c3
     (first | rw [c3b0] | (simp only [i64_w, i32_w]; rw [c3b0]) | skip)
     replace H := GD H; obtain ⟨c4, H⟩ := H
     have c4b0 : decide (0 ≤ x4_1) = true := decide_eq_true c4
     clear c4
     have H' := Aside0.mk H
     clear H
     have p1249 : 0 ≤ (x4_1 : Int) := of_decide_eq_true AS
     have q1249 : (x4_1 : Int) < (l0.length : Int) := of_decide_eq_true AS
     obtain ⟨ad1249, e1249, hx1249_0⟩ := Kd.at_int (HM.came HR0.out) x4_1 p1249 q1249
     cases e1249
     replace p1249 := eq_true p1249
     replace q1249 := eq_true q1249
     go_wp2
     go_roundg k1
     case measure => have := HK1.out; omega
     case rel => exact ⟨(Go.bits .and .i64 (wrap64 ((wrap64 ((wrap64 (x3_1 * 179)) + (wrap64 (rd l0 x4_1)))) + 7)) 1073741823), (wrap64 (x4_1 + 1)), RS, RS, H', ⟨by have := HK1.out; omega⟩, (MD HM).pick []⟩
    ·have c3b0 : decide (x4_1 < 4000) = false := decide_eq_false c3
     clear c3
     (first | rw [c3b0] | (simp only [i64_w, i32_w]; rw [c3b0]) | skip)
     simp only [Option.some.injEq, Prod.mk.injEq] at H
     obtain ⟨rfl, rfl, rfl⟩ := H
     go_wp2_with (first | ((with_reducible refine gate_dst (N := 31) rfl ?_); refine pB 31 83 [.slice A0 l0.length c0, .int .i64 0, .int .i64 x3_1] HM rfl ?_; clear HM; intro gb1250 w5 HM))
     go_ret
     exact ⟨_, _, _, ER, (MD HM).pick [0], HZ0.out, HC0.out⟩
   ·have c2b0 : decide (x4_1 < (l0.length : Int)) = false := decide_eq_false c2
    clear c2
    simp only [Option.some.injEq, Prod.mk.injEq] at H
    obtain ⟨rfl, rfl, rfl⟩ := H
    go_wp2_with (first | ((with_reducible refine gate_dst (N := 31) rfl ?_); refine pB 31 83 [.slice A0 l0.length c0, .int .i64 0, .int .i64 x3_1] HM rfl ?_; clear HM; intro gb1251 w6 HM))
    go_ret
    exact ⟨_, _, _, ER, (MD HM).pick [0], HZ0.out, HC0.out⟩
def spec_l01Byte.f (s0_0 : List Int) (s0_1 : Int) (s0_2 : Int) : Option (Int × Int × Int) := if s0_1 < (s0_0.length : Int) then (if 0 ≤ s0_1 then (some (Go.bits .and .i64 (wrap64 ((Go.bits .and .i64 (Go.bits .xor .i64 ((wrap64 ((wrap64 (s0_2 * 6364136223846793005)) + 1442695040888963407)) / 8589934592) ((wrap64 ((wrap64 (s0_2 * 6364136223846793005)) + 1442695040888963407)) / 35184372088832)) 255) + (wrap64 (rd s0_0 s0_1)))) 255, wrap64 (s0_1 + 1), wrap64 ((wrap64 (s0_2 * 6364136223846793005)) + 1442695040888963407))) else (none)) else (some (Go.bits .and .i64 (Go.bits .xor .i64 ((wrap64 ((wrap64 (s0_2 * 6364136223846793005)) + 1442695040888963407)) / 8589934592) ((wrap64 ((wrap64 (s0_2 * 6364136223846793005)) + 1442695040888963407)) / 35184372088832)) 255, s0_1, wrap64 ((wrap64 (s0_2 * 6364136223846793005)) + 1442695040888963407)))
set_option maxHeartbeats 8000000 in
set_option maxRecDepth 100000 in
theorem spec_l01Byte.calls (g : Nat) (A0_0 : Option Addr) (c0_0 : Nat) (s0_0 : List Int) (s0_1 : Int) (s0_2 : Int) (r1 : Int) (r2 : Int) (r3 : Int) (w0 w : World) (F : List SP) (hrs0_0 : Kd.C (Kd.int .u8) w0 A0_0 s0_0.length s0_0) (hcs0_0 : s0_0.length ≤ c0_0) (hM : Mem w0 F w [box 83 g [.slice A0_0 s0_0.length c0_0, .int .i64 s0_1, .int .i64 s0_2]]) (h : spec_l01Byte.f s0_0 s0_1 s0_2 = some (r1, r2, r3)) :
  Calls Try.prog 99 #[.pointer (some ⟨g, 0, none⟩)] w fun e w' => e = .returned (.int .i64 r1) ∧ Mem w0 F w' [box 83 g [.slice A0_0 s0_0.length c0_0, .int .i64 r2, .int .i64 r3]] := by
 have HRs0_0 := Aside0.mk hrs0_0
 have HCs0_0 := Aside0.mk hcs0_0
 clear hrs0_0 hcs0_0
 have HM := hM
 clear hM
 have H := h
 clear h
 unfold spec_l01Byte.f at H
 go_enter Try.func99, Try.ntmps99
 obtain ⟨hcz2_0, hcz2_1, hcz2_2, hfz2_0, hfz2_1, hfz2_2⟩ := bk3 (HM.bx 0 rfl)
 go_upto_if 34 with (first | ((with_reducible refine gate_st (p := 12) rfl ?_); refine pS 0 12 2 [.int .i64 (wrap64 ((wrap64 (s0_2 * 6364136223846793005)) + 1442695040888963407))] HM rfl rfl ?_; clear HM; intro w3 HM; obtain ⟨hcz4_0, hcz4_1, hcz4_2, hfz4_0, hfz4_1, hfz4_2⟩ := bk3 (HM.bx 0 rfl)))
 repeat (go_quiet (first | ((with_reducible refine gate_st (p := 12) rfl ?_); refine pS 0 12 2 [.int .i64 (wrap64 ((wrap64 (s0_2 * 6364136223846793005)) + 1442695040888963407))] HM rfl rfl ?_; clear HM; intro w3 HM; obtain ⟨hcz4_0, hcz4_1, hcz4_2, hfz4_0, hfz4_1, hfz4_2⟩ := bk3 (HM.bx 0 rfl))); go_upto_if 34 with (first | ((with_reducible refine gate_st (p := 12) rfl ?_); refine pS 0 12 2 [.int .i64 (wrap64 ((wrap64 (s0_2 * 6364136223846793005)) + 1442695040888963407))] HM rfl rfl ?_; clear HM; intro w3 HM; obtain ⟨hcz4_0, hcz4_1, hcz4_2, hfz4_0, hfz4_1, hfz4_2⟩ := bk3 (HM.bx 0 rfl))))
 replace H := IT H; rcases H with ⟨c5, H⟩ | ⟨c5, H⟩
 ·have c5b0 : decide (s0_1 < (s0_0.length : Int)) = true := decide_eq_true c5
  clear c5
  (first | rw [c5b0] | (simp only [i64_w, i32_w]; rw [c5b0]) | skip)
  replace H := GD H; obtain ⟨c6, H⟩ := H
  have c6b0 : decide (0 ≤ s0_1) = true := decide_eq_true c6
  clear c6
  simp only [Option.some.injEq, Prod.mk.injEq] at H
  obtain ⟨rfl, rfl, rfl⟩ := H
  have p1252 : 0 ≤ (s0_1 : Int) := of_decide_eq_true AS
  have q1252 : (s0_1 : Int) < (s0_0.length : Int) := of_decide_eq_true AS
  obtain ⟨ad1252, e1252, hx1252_0⟩ := Kd.at_int (HM.came HRs0_0.out) s0_1 p1252 q1252
  cases e1252
  replace p1252 := eq_true p1252
  replace q1252 := eq_true q1252
  go_wp2_with (first | ((with_reducible refine gate_st (p := 56) rfl ?_); refine pS 0 56 1 [.int .i64 (wrap64 (s0_1 + 1))] HM rfl rfl ?_; clear HM; intro w7 HM))
  repeat (go_quiet (first | ((with_reducible refine gate_st (p := 56) rfl ?_); refine pS 0 56 1 [.int .i64 (wrap64 (s0_1 + 1))] HM rfl rfl ?_; clear HM; intro w7 HM)); try go_wp2_with (first | ((with_reducible refine gate_st (p := 56) rfl ?_); refine pS 0 56 1 [.int .i64 (wrap64 (s0_1 + 1))] HM rfl rfl ?_; clear HM; intro w7 HM)))
  go_ret
  exact ⟨ER, (MD HM).pick [0]⟩
 ·have c5b0 : decide (s0_1 < (s0_0.length : Int)) = false := decide_eq_false c5
  clear c5
  (first | rw [c5b0] | (simp only [i64_w, i32_w]; rw [c5b0]) | skip)
  simp only [Option.some.injEq, Prod.mk.injEq] at H
  obtain ⟨rfl, rfl, rfl⟩ := H
  go_wp2
  repeat (go_quiet (fail); try go_wp2_with (fail))
  go_ret
  exact ⟨ER, (MD HM).pick [0]⟩
def spec_l01Below.f (s0_0 : List Int) (s0_1 : Int) (s0_2 : Int) (a1 : Int) : Option (Int × Int × Int) := if a1 ≤ 0 then (some (0, s0_1, s0_2)) else (if a1 ≤ 256 then ((spec_l01Byte.f s0_0 s0_1 s0_2).bind fun bt1253 => (if a1 = 0 then (none) else (some (Int.tmod bt1253.1 a1, bt1253.2.1, bt1253.2.2)))) else ((spec_l01Byte.f s0_0 s0_1 s0_2).bind fun bt1256 => ((spec_l01Byte.f s0_0 bt1256.2.1 bt1256.2.2).bind fun bt1259 => ((spec_l01Byte.f s0_0 bt1259.2.1 bt1259.2.2).bind fun bt1262 => ((spec_l01Byte.f s0_0 bt1262.2.1 bt1262.2.2).bind fun bt1265 => (if a1 = 0 then (none) else (some (Int.tmod (wrap64 ((wrap64 ((wrap64 ((wrap64 (bt1256.1 * 16777216)) + (wrap64 (bt1259.1 * 65536)))) + (wrap64 (bt1262.1 * 256)))) + bt1265.1)) a1, bt1265.2.1, bt1265.2.2))))))))
set_option maxHeartbeats 8000000 in
set_option maxRecDepth 100000 in
theorem spec_l01Below.calls (g : Nat) (A0_0 : Option Addr) (c0_0 : Nat) (s0_0 : List Int) (s0_1 : Int) (s0_2 : Int) (a1 : Int) (r1 : Int) (r2 : Int) (r3 : Int) (w0 w : World) (F : List SP) (hrs0_0 : Kd.C (Kd.int .u8) w0 A0_0 s0_0.length s0_0) (hcs0_0 : s0_0.length ≤ c0_0) (hM : Mem w0 F w [box 83 g [.slice A0_0 s0_0.length c0_0, .int .i64 s0_1, .int .i64 s0_2]]) (h : spec_l01Below.f s0_0 s0_1 s0_2 a1 = some (r1, r2, r3)) :
  Calls Try.prog 84 #[.pointer (some ⟨g, 0, none⟩), .int .i64 a1] w fun e w' => e = .returned (.int .i64 r1) ∧ Mem w0 F w' [box 83 g [.slice A0_0 s0_0.length c0_0, .int .i64 r2, .int .i64 r3]] := by
 have HRs0_0 := Aside0.mk hrs0_0
 have HCs0_0 := Aside0.mk hcs0_0
 clear hrs0_0 hcs0_0
 have HM := hM
 clear hM
 have H := h
 clear h
 unfold spec_l01Below.f at H
 go_enter Try.func84, Try.ntmps84
 go_upto_if 10 with (fail)
 replace H := IT H; rcases H with ⟨c3, H⟩ | ⟨c3, H⟩
 ·have c3b0 : decide (a1 ≤ 0) = true := decide_eq_true c3
  clear c3
  (first | rw [c3b0] | (simp only [i64_w, i32_w]; rw [c3b0]) | skip)
  simp only [Option.some.injEq, Prod.mk.injEq] at H
  obtain ⟨rfl, rfl, rfl⟩ := H
  go_wp2
  go_ret
  exact ⟨ER, (MD HM).pick [0]⟩
 ·have c3b0 : decide (a1 ≤ 0) = false := decide_eq_false c3
  clear c3
  (first | rw [c3b0] | (simp only [i64_w, i32_w]; rw [c3b0]) | skip)
  go_upto_if 12 with (fail)
  replace H := IT H; rcases H with ⟨c4, H⟩ | ⟨c4, H⟩
  ·have c4b0 : decide (a1 ≤ 256) = true := decide_eq_true c4
   clear c4
   (first | rw [c4b0] | (simp only [i64_w, i32_w]; rw [c4b0]) | skip)
   replace H := BN H; obtain ⟨⟨t1253, t1254, t1255⟩, A5, H⟩ := H
   replace H := GN H; obtain ⟨c7, H⟩ := H
   have c7b0 : (a1 == 0) = false := beq_eq_false_iff_ne.mpr c7
   have c7b1 : (a1 != 0) = true := bne_iff_ne.mpr c7
   simp only [Option.some.injEq, Prod.mk.injEq] at H
   obtain ⟨rfl, rfl, rfl⟩ := H
   go_wp2_with (first | ((with_reducible refine gate_callee (f := 99) rfl ?_); refine pC (some 14) rfl #[.pointer (some ⟨g, 0, none⟩)] rfl Try.func99 (spec_l01Byte.calls g A0_0 c0_0 s0_0 s0_1 s0_2 t1253 t1254 t1255 _ _ _ HRs0_0.out HCs0_0.out (HM.focus [] [0]) A5.out) ?_; rintro e w6 ⟨rfl, hR⟩; refine ⟨_, rfl, ?_⟩; replace HM := nzM hR.unfocus; clear hR))
   go_ret
   exact ⟨ER, (MD HM).pick [0]⟩
  ·have c4b0 : decide (a1 ≤ 256) = false := decide_eq_false c4
   clear c4
   (first | rw [c4b0] | (simp only [i64_w, i32_w]; rw [c4b0]) | skip)
   replace H := BN H; obtain ⟨⟨t1256, t1257, t1258⟩, A8, H⟩ := H
   replace H := BN H; obtain ⟨⟨t1259, t1260, t1261⟩, A10, H⟩ := H
   replace H := BN H; obtain ⟨⟨t1262, t1263, t1264⟩, A12, H⟩ := H
   replace H := BN H; obtain ⟨⟨t1265, t1266, t1267⟩, A14, H⟩ := H
   replace H := GN H; obtain ⟨c16, H⟩ := H
   have c16b0 : (a1 == 0) = false := beq_eq_false_iff_ne.mpr c16
   have c16b1 : (a1 != 0) = true := bne_iff_ne.mpr c16
   simp only [Option.some.injEq, Prod.mk.injEq] at H
   obtain ⟨rfl, rfl, rfl⟩ := H
   go_wp2_with (first | ((with_reducible refine gate_callee (f := 99) rfl ?_); refine pC (some 18) rfl #[.pointer (some ⟨g, 0, none⟩)] rfl Try.func99 (spec_l01Byte.calls g A0_0 c0_0 s0_0 s0_1 s0_2 t1256 t1257 t1258 _ _ _ HRs0_0.out HCs0_0.out (HM.focus [] [0]) A8.out) ?_; rintro e w9 ⟨rfl, hR⟩; refine ⟨_, rfl, ?_⟩; replace HM := nzM hR.unfocus; clear hR) | ((with_reducible refine gate_callee (f := 99) rfl ?_); refine pC (some 20) rfl #[.pointer (some ⟨g, 0, none⟩)] rfl Try.func99 (spec_l01Byte.calls g A0_0 c0_0 s0_0 t1257 t1258 t1259 t1260 t1261 _ _ _ HRs0_0.out HCs0_0.out (HM.focus [] [0]) A10.out) ?_; rintro e w11 ⟨rfl, hR⟩; refine ⟨_, rfl, ?_⟩; replace HM := nzM hR.unfocus; clear hR) | ((with_reducible refine gate_callee (f := 99) rfl ?_); refine pC (some 22) rfl #[.pointer (some ⟨g, 0, none⟩)] rfl Try.func99 (spec_l01Byte.calls g A0_0 c0_0 s0_0 t1260 t1261 t1262 t1263 t1264 _ _ _ HRs0_0.out HCs0_0.out (HM.focus [] [0]) A12.out) ?_; rintro e w13 ⟨rfl, hR⟩; refine ⟨_, rfl, ?_⟩; replace HM := nzM hR.unfocus; clear hR) | ((with_reducible refine gate_callee (f := 99) rfl ?_); refine pC (some 24) rfl #[.pointer (some ⟨g, 0, none⟩)] rfl Try.func99 (spec_l01Byte.calls g A0_0 c0_0 s0_0 t1263 t1264 t1265 t1266 t1267 _ _ _ HRs0_0.out HCs0_0.out (HM.focus [] [0]) A14.out) ?_; rintro e w15 ⟨rfl, hR⟩; refine ⟨_, rfl, ?_⟩; replace HM := nzM hR.unfocus; clear hR))
   go_ret
   exact ⟨ER, (MD HM).pick [0]⟩
end Go.Proofs.Ytdeijmofaapgdaa.G

namespace Go.Proofs.Ytdeijmofaapgdaa.G
open Go.RowKit Go.Proofs.YtdeijmofaapgdaaW.PrintWords Go.Proofs.YtdeijmofaapgdaaW.PrintLast Go.Proofs.YtdeijmofaapgdaaW.PrintMore Go.Proofs.Ytdeijmofaapgdaa.Sh
attribute [local go_sem] max2_int min2_int max_two min_two max_three min_three max_four min_four
set_option linter.unusedVariables false
set_option linter.unusedSimpArgs false
def spec_l01In.f (a0 : Int) (a1 : Int) (a2 : Int) : Option (Bool) := if a0 ≥ a1 then (some (decide (a0 ≤ a2))) else (some false)
set_option maxHeartbeats 8000000 in
set_option maxRecDepth 100000 in
theorem spec_l01In.calls (a0 : Int) (a1 : Int) (a2 : Int) (r : Bool) (w : World) (h : spec_l01In.f a0 a1 a2 = some r) :
  Calls Try.prog 63 #[.int .i64 a0, .int .i64 a1, .int .i64 a2] w fun e w' => e = .returned (.bool r) ∧ Drawn0 w w' := by
 have H : (if a0 ≥ a1 then (some (decide (a0 ≤ a2))) else (some false)) = some r := h
 clear h
 by_cases c4 : a0 ≥ a1
 ·rw [if_pos c4] at H
  have c4b0 : decide (a1 ≤ a0) = true := decide_eq_true c4
  clear c4
  obtain rfl := Option.some.inj H
  go_enter Try.func63, Try.ntmps63
  go_wp2
  go_ret
  exact ⟨by first | rfl | (simp; done) | (simp [*]; done), DR⟩
 ·rw [if_neg c4] at H
  have c4b0 : decide (a1 ≤ a0) = false := decide_eq_false c4
  clear c4
  obtain rfl := Option.some.inj H
  go_enter Try.func63, Try.ntmps63
  go_wp2
  go_ret
  exact ⟨by first | rfl | (simp; done) | (simp [*]; done), DR⟩
end Go.Proofs.Ytdeijmofaapgdaa.G

namespace Go.Proofs.Ytdeijmofaapgdaa.G
open Go.RowKit Go.Proofs.YtdeijmofaapgdaaW.PrintWords Go.Proofs.YtdeijmofaapgdaaW.PrintLast Go.Proofs.YtdeijmofaapgdaaW.PrintMore Go.Proofs.Ytdeijmofaapgdaa.Sh
attribute [local go_sem] max2_int min2_int max_two min_two max_three min_three max_four min_four
set_option linter.unusedVariables false
set_option linter.unusedSimpArgs false
open Go.Proofs.Ytdeijmofaapgdaa.Mm
def spec_l10Ghosts.f (a0_0 : Int) (a0_1 : Int) (l0_2 : List (S95)) (l0_3 : List (S95)) (l0_4 : List Int) : Option (Int) := if (wrap64 (a0_0 - a0_1)) < 1 then (some 1) else (some (wrap64 (a0_0 - a0_1)))
set_option maxHeartbeats 8000000 in
set_option maxRecDepth 100000 in
theorem spec_l10Ghosts.calls (a0_0 : Int) (a0_1 : Int) (A0_2 : Option Addr) (c0_2 : Nat) (l0_2 : List (S95)) (A0_3 : Option Addr) (c0_3 : Nat) (l0_3 : List (S95)) (A0_4 : Option Addr) (c0_4 : Nat) (l0_4 : List Int) (r : Int) (w : World) (hr0_2 : Kd.C k95 w A0_2 l0_2.length l0_2) (hc0_2 : l0_2.length ≤ c0_2) (hr0_3 : Kd.C k95 w A0_3 l0_3.length l0_3) (hc0_3 : l0_3.length ≤ c0_3) (hr0_4 : Kd.C (Kd.int .i64) w A0_4 l0_4.length l0_4) (hc0_4 : l0_4.length ≤ c0_4) (h : spec_l10Ghosts.f a0_0 a0_1 l0_2 l0_3 l0_4 = some r) :
  Calls Try.prog 64 #[.agg #[.int .i64 a0_0, .int .i64 a0_1, .slice A0_2 l0_2.length c0_2, .slice A0_3 l0_3.length c0_3, .slice A0_4 l0_4.length c0_4]] w fun e w' => e = .returned (.int .i64 r) ∧ Mem w [] w' [] := by
 have hu32 := Try.underlying32
 have HR0_2 := Aside0.mk hr0_2
 have HC0_2 := Aside0.mk hc0_2
 clear hr0_2 hc0_2
 have HR0_3 := Aside0.mk hr0_3
 have HC0_3 := Aside0.mk hc0_3
 clear hr0_3 hc0_3
 have HR0_4 := Aside0.mk hr0_4
 have HC0_4 := Aside0.mk hc0_4
 clear hr0_4 hc0_4
 have HM := Mem.nil w
 have H := h
 clear h
 unfold spec_l10Ghosts.f at H
 go_enter Try.func64, Try.ntmps64
 go_upto_if 8 with (first | ((with_reducible refine gate_dst (N := 1) rfl ?_); refine pB 1 32 [.int .i64 a0_0, .int .i64 a0_1, .slice A0_2 l0_2.length c0_2, .slice A0_3 l0_3.length c0_3, .slice A0_4 l0_4.length c0_4] HM rfl ?_; clear HM; intro gb109 w2 HM; obtain ⟨hcz3_0, hcz3_1, hcz3_2, hcz3_3, hcz3_4, hfz3_0, hfz3_1, hfz3_2, hfz3_3, hfz3_4⟩ := bk5 (HM.bx 0 rfl)))
 replace H := IT H; rcases H with ⟨c4, H⟩ | ⟨c4, H⟩
 ·have c4b0 : decide ((wrap64 (a0_0 - a0_1)) < 1) = true := decide_eq_true c4
  clear c4
  (first | rw [c4b0] | (simp only [i64_w, i32_w]; rw [c4b0]) | skip)
  obtain rfl := Option.some.inj H
  go_wp2
  go_ret
  exact ⟨ER, (MD HM).pick []⟩
 ·have c4b0 : decide ((wrap64 (a0_0 - a0_1)) < 1) = false := decide_eq_false c4
  clear c4
  (first | rw [c4b0] | (simp only [i64_w, i32_w]; rw [c4b0]) | skip)
  obtain rfl := Option.some.inj H
  go_wp2
  go_ret
  exact ⟨ER, (MD HM).pick []⟩
end Go.Proofs.Ytdeijmofaapgdaa.G

namespace Go.Proofs.Ytdeijmofaapgdaa.G
open Go.RowKit Go.Proofs.YtdeijmofaapgdaaW.PrintWords Go.Proofs.YtdeijmofaapgdaaW.PrintLast Go.Proofs.YtdeijmofaapgdaaW.PrintMore Go.Proofs.Ytdeijmofaapgdaa.Sh
attribute [local go_sem] max2_int min2_int max_two min_two max_three min_three max_four min_four
set_option linter.unusedVariables false
set_option linter.unusedSimpArgs false
def spec_l10Clean.l0 : Nat → ByteArray → Int → Option (Bool)
 | 0, _, _ => none
 | k + 1, x0, x3 => if x3 < (x0.size : Int) then (if 0 ≤ x3 then (if (bt x0 x3) = 32 then (some false) else (if (bt x0 x3) = 10 then (some false) else (spec_l10Clean.l0 k x0 (wrap64 (x3 + 1))))) else (none)) else (some true)
def spec_l10Clean.f (k : Nat) (a0 : ByteArray) : Option (Bool) := spec_l10Clean.l0 k a0 0
theorem spec_l10Clean.mono_l : ∀ k, (∀ y0 y1, LeO (spec_l10Clean.l0 k y0 y1) (spec_l10Clean.l0 (k + 1) y0 y1))
 | 0 => fun _ _ r h => by simp [spec_l10Clean.l0] at h
 | k + 1 => by
  have ih0 := spec_l10Clean.mono_l k
  ·intro y0 y1
   unfold spec_l10Clean.l0
   repeat' first | (with_reducible first | exact ih0 _ _ | exact LeO.refl _ | exact LeO.none _ | refine LeO.ite ?_ ?_ | refine LeO.bind ?_ (fun _ => ?_)) | exact ih0 _ _ | exact LeO.none _ | refine LeO.ite ?_ ?_ | refine LeO.bind ?_ (fun _ => ?_)
theorem spec_l10Clean.mono : ∀ a0 k, LeO (spec_l10Clean.f k a0) (spec_l10Clean.f (k + 1) a0) := by
 intro a0 k
 have ih0 := spec_l10Clean.mono_l k
 unfold spec_l10Clean.f
 repeat' first | (with_reducible first | exact ih0 _ _ | exact LeO.refl _ | exact LeO.none _ | refine LeO.ite ?_ ?_ | refine LeO.bind ?_ (fun _ => ?_)) | exact ih0 _ _ | exact LeO.none _ | refine LeO.ite ?_ ?_ | refine LeO.bind ?_ (fun _ => ?_)
set_option maxHeartbeats 8000000 in
set_option maxRecDepth 100000 in
theorem spec_l10Clean.calls (k : Nat) (a0 : ByteArray) (r : Bool) (w : World) (h : spec_l10Clean.f k a0 = some r) :
  Calls Try.prog 90 #[.string a0] w fun e w' => e = .returned (.bool r) ∧ Drawn0 w w' := by
 have H : (spec_l10Clean.l0 k a0 0) = some r := h
 clear h
 have H' := Aside0.mk H
 clear H
 go_enter Try.func90, Try.ntmps90
 go_wp2
 go_loopg [3] k (fun kq v3 w' => ∃ (x3_1 : Int), v3 = .int .i64 x3_1 ∧ Aside0 (spec_l10Clean.l0 kq a0 x3_1 = some r) ∧ Aside0 (kq ≤ k) ∧ Drawn0 w w')
 case atStart => exact ⟨(0), RS, H', ⟨Nat.le_refl _⟩, DR⟩
 case round =>
  clear H'
  obtain ⟨x3_1, rfl, HA, HK1, ⟨m1, rfl⟩⟩ := hrel
  cases gk with
  | zero => exact absurd HA.out (by simp [spec_l10Clean.l0])
  | succ k1 =>
   have H := HA.out
   clear HA
   simp only [spec_l10Clean.l0] at H
   by_cases c2 : x3_1 < (a0.size : Int)
   ·rw [if_pos c2] at H
    have c2b0 : decide (x3_1 < (a0.size : Int)) = true := decide_eq_true c2
    clear c2
    by_cases c3 : 0 ≤ x3_1
    ·rw [if_pos c3] at H
     have c3b0 : decide (0 ≤ x3_1) = true := decide_eq_true c3
     clear c3
     by_cases c5 : (bt a0 x3_1) = 32
     ·rw [if_pos c5] at H
      have c5b0 : ((bt a0 x3_1) == 32) = true := beq_iff_eq.mpr c5
      have c5b1 : ((bt a0 x3_1) != 32) = false := bne_eq_false_iff_eq.mpr c5
      clear c5
      obtain rfl := Option.some.inj H
      have p4 : 0 ≤ (x3_1 : Int) := of_decide_eq_true AS
      have q4 : x3_1 < (a0.size : Int) := of_decide_eq_true AS
      have hx4 := bt_at a0 x3_1
      replace p4 := eq_true p4
      replace q4 := eq_true q4
      go_wp2
      go_ret
      exact ⟨by first | rfl | (simp; done) | (simp [*]; done), DR⟩
     ·rw [if_neg c5] at H
      have c5b0 : ((bt a0 x3_1) == 32) = false := beq_eq_false_iff_ne.mpr c5
      have c5b1 : ((bt a0 x3_1) != 32) = true := bne_iff_ne.mpr c5
      by_cases c7 : (bt a0 x3_1) = 10
      ·rw [if_pos c7] at H
       have c7b0 : ((bt a0 x3_1) == 10) = true := beq_iff_eq.mpr c7
       have c7b1 : ((bt a0 x3_1) != 10) = false := bne_eq_false_iff_eq.mpr c7
       clear c7
       obtain rfl := Option.some.inj H
       have p4 : 0 ≤ (x3_1 : Int) := of_decide_eq_true AS
       have q4 : x3_1 < (a0.size : Int) := of_decide_eq_true AS
       have hx4 := bt_at a0 x3_1
       replace p4 := eq_true p4
       replace q4 := eq_true q4
       have p6 : 0 ≤ (x3_1 : Int) := of_decide_eq_true AS
       have q6 : x3_1 < (a0.size : Int) := of_decide_eq_true AS
       have hx6 := bt_at a0 x3_1
       replace p6 := eq_true p6
       replace q6 := eq_true q6
       go_wp2
       go_ret
       exact ⟨by first | rfl | (simp; done) | (simp [*]; done), DR⟩
      ·rw [if_neg c7] at H
       have c7b0 : ((bt a0 x3_1) == 10) = false := beq_eq_false_iff_ne.mpr c7
       have c7b1 : ((bt a0 x3_1) != 10) = true := bne_iff_ne.mpr c7
       have H' := Aside0.mk H
       clear H
       have p4 : 0 ≤ (x3_1 : Int) := of_decide_eq_true AS
       have q4 : x3_1 < (a0.size : Int) := of_decide_eq_true AS
       have hx4 := bt_at a0 x3_1
       replace p4 := eq_true p4
       replace q4 := eq_true q4
       have p6 : 0 ≤ (x3_1 : Int) := of_decide_eq_true AS
       have q6 : x3_1 < (a0.size : Int) := of_decide_eq_true AS
       have hx6 := bt_at a0 x3_1
       replace p6 := eq_true p6
       replace q6 := eq_true q6
       go_wp2
       go_roundg k1
       case measure => have := HK1.out; omega
       case rel => exact ⟨(wrap64 (x3_1 + 1)), RS, H', ⟨by have := HK1.out; omega⟩, DR⟩
    ·rw [if_neg c3] at H
     exact absurd H (by simp)
   ·rw [if_neg c2] at H
    have c2b0 : decide (x3_1 < (a0.size : Int)) = false := decide_eq_false c2
    clear c2
    obtain rfl := Option.some.inj H
    go_wp2
    go_ret
    exact ⟨by first | rfl | (simp; done) | (simp [*]; done), DR⟩
end Go.Proofs.Ytdeijmofaapgdaa.G

namespace Go.Proofs.Ytdeijmofaapgdaa.G
open Go.RowKit Go.Proofs.YtdeijmofaapgdaaW.PrintWords Go.Proofs.YtdeijmofaapgdaaW.PrintLast Go.Proofs.YtdeijmofaapgdaaW.PrintMore Go.Proofs.Ytdeijmofaapgdaa.Sh
attribute [local go_sem] max2_int min2_int max_two min_two max_three min_three max_four min_four
set_option linter.unusedVariables false
set_option linter.unusedSimpArgs false
open Go.Proofs.Ytdeijmofaapgdaa.Mm
def spec_ItemOk.f (k : Nat) (a0_0 : ByteArray) (a0_1 : ByteArray) (a0_2 : Int) : Option (Bool) := if (a0_0.size : Int) ≥ 1 then (if (a0_0.size : Int) ≤ 20 then ((spec_l10Clean.f k a0_0).bind fun t111 => (if t111 = true then (if (a0_1.size : Int) ≤ 40 then ((spec_l10Clean.f k a0_1).bind fun t112 => (if t112 = true then ((spec_l01In.f a0_2 0 3).bind fun t113 => (some t113)) else (some false))) else (some false)) else (some false))) else (some false)) else (some false)
theorem spec_ItemOk.mono : ∀ a0 a1 a2 k, LeO (spec_ItemOk.f k a0 a1 a2) (spec_ItemOk.f (k + 1) a0 a1 a2) := by
 intro a0 a1 a2 k
 unfold spec_ItemOk.f
 repeat' first | (with_reducible first | exact spec_l10Clean.mono _ _ | exact LeO.refl _ | exact LeO.none _ | refine LeO.ite ?_ ?_ | refine LeO.bind ?_ (fun _ => ?_)) | exact spec_l10Clean.mono _ _ | exact LeO.none _ | refine LeO.ite ?_ ?_ | refine LeO.bind ?_ (fun _ => ?_)
set_option maxHeartbeats 8000000 in
set_option maxRecDepth 100000 in
theorem spec_ItemOk.calls (k : Nat) (a0_0 : ByteArray) (a0_1 : ByteArray) (a0_2 : Int) (r : Bool) (w : World)  (h : spec_ItemOk.f k a0_0 a0_1 a0_2 = some r) :
  Calls Try.prog 65 #[.agg #[.string a0_0, .string a0_1, .int .i64 a0_2]] w fun e w' => e = .returned (.bool r) ∧ Mem w [] w' [] := by
 have hu95 := Try.underlying95
 have HM := Mem.nil w
 have H := h
 clear h
 unfold spec_ItemOk.f at H
 go_enter Try.func65, Try.ntmps65
 replace H := IT H; rcases H with ⟨c4, H⟩ | ⟨c4, H⟩
 ·replace c4 : (a0_0.size : Int) ≥ 1 := c4
  have c4b0 : decide (1 ≤ (a0_0.size : Int)) = true := decide_eq_true c4
  have c4b1 : decide (1 ≤ a0_0.size) = true := decide_eq_true (by omega)
  clear c4
  replace H := IT H; rcases H with ⟨c5, H⟩ | ⟨c5, H⟩
  ·replace c5 : (a0_0.size : Int) ≤ 20 := c5
   have c5b0 : decide ((a0_0.size : Int) ≤ 20) = true := decide_eq_true c5
   have c5b1 : decide (a0_0.size ≤ 20) = true := decide_eq_true (by omega)
   clear c5
   replace H := BN H; obtain ⟨t111, A6, H⟩ := H
   replace H := IB H
   rcases H with ⟨c8, H⟩ | ⟨c8, H⟩
   ·subst c8
    replace H := IT H; rcases H with ⟨c10, H⟩ | ⟨c10, H⟩
    ·replace c10 : (a0_1.size : Int) ≤ 40 := c10
     have c10b0 : decide ((a0_1.size : Int) ≤ 40) = true := decide_eq_true c10
     have c10b1 : decide (a0_1.size ≤ 40) = true := decide_eq_true (by omega)
     clear c10
     replace H := BN H; obtain ⟨t112, A11, H⟩ := H
     replace H := IB H
     rcases H with ⟨c13, H⟩ | ⟨c13, H⟩
     ·subst c13
      replace H := BN H; obtain ⟨t113, A15, H⟩ := H
      obtain rfl := Option.some.inj H
      go_wp2_with (first | ((with_reducible refine gate_dst (N := 1) rfl ?_); refine pB 1 95 [.string a0_0, .string a0_1, .int .i64 a0_2] HM rfl ?_; clear HM; intro gb110 w2 HM; obtain ⟨hcz3_0, hcz3_1, hcz3_2, hfz3_0, hfz3_1, hfz3_2⟩ := bk3 (HM.bx 0 rfl)) | ((with_reducible refine gate_callee (f := 90) rfl ?_); refine pC (some 16) rfl #[.string a0_0] rfl Try.func90 (spec_l10Clean.calls k a0_0 true _ A6.out) ?_; rintro e w7 ⟨rfl, hd⟩; refine ⟨_, rfl, ?_⟩; replace HM := HM.drawn hd; clear hd; obtain ⟨hcz9_0, hcz9_1, hcz9_2, hfz9_0, hfz9_1, hfz9_2⟩ := bk3 (HM.bx 0 rfl)) | ((with_reducible refine gate_callee (f := 90) rfl ?_); refine pC (some 27) rfl #[.string a0_1] rfl Try.func90 (spec_l10Clean.calls k a0_1 true _ A11.out) ?_; rintro e w12 ⟨rfl, hd⟩; refine ⟨_, rfl, ?_⟩; replace HM := HM.drawn hd; clear hd; obtain ⟨hcz14_0, hcz14_1, hcz14_2, hfz14_0, hfz14_1, hfz14_2⟩ := bk3 (HM.bx 0 rfl)) | ((with_reducible refine gate_callee (f := 63) rfl ?_); refine pC (some 32) rfl #[.int .i64 a0_2, .int .i64 0, .int .i64 3] rfl Try.func63 (spec_l01In.calls a0_2 0 3 t113 _ A15.out) ?_; rintro e w16 ⟨rfl, hd⟩; refine ⟨_, rfl, ?_⟩; replace HM := HM.drawn hd; clear hd))
      go_ret
      exact ⟨ER, (MD HM).pick []⟩
     ·subst c13
      obtain rfl := Option.some.inj H
      go_wp2_with (first | ((with_reducible refine gate_dst (N := 1) rfl ?_); refine pB 1 95 [.string a0_0, .string a0_1, .int .i64 a0_2] HM rfl ?_; clear HM; intro gb110 w2 HM; obtain ⟨hcz3_0, hcz3_1, hcz3_2, hfz3_0, hfz3_1, hfz3_2⟩ := bk3 (HM.bx 0 rfl)) | ((with_reducible refine gate_callee (f := 90) rfl ?_); refine pC (some 16) rfl #[.string a0_0] rfl Try.func90 (spec_l10Clean.calls k a0_0 true _ A6.out) ?_; rintro e w7 ⟨rfl, hd⟩; refine ⟨_, rfl, ?_⟩; replace HM := HM.drawn hd; clear hd; obtain ⟨hcz9_0, hcz9_1, hcz9_2, hfz9_0, hfz9_1, hfz9_2⟩ := bk3 (HM.bx 0 rfl)) | ((with_reducible refine gate_callee (f := 90) rfl ?_); refine pC (some 27) rfl #[.string a0_1] rfl Try.func90 (spec_l10Clean.calls k a0_1 false _ A11.out) ?_; rintro e w12 ⟨rfl, hd⟩; refine ⟨_, rfl, ?_⟩; replace HM := HM.drawn hd; clear hd))
      go_ret
      exact ⟨ER, (MD HM).pick []⟩
    ·replace c10 : ¬ ((a0_1.size : Int) ≤ 40) := c10
     have c10b0 : decide ((a0_1.size : Int) ≤ 40) = false := decide_eq_false c10
     have c10b1 : decide (a0_1.size ≤ 40) = false := decide_eq_false (by omega)
     clear c10
     obtain rfl := Option.some.inj H
     go_wp2_with (first | ((with_reducible refine gate_dst (N := 1) rfl ?_); refine pB 1 95 [.string a0_0, .string a0_1, .int .i64 a0_2] HM rfl ?_; clear HM; intro gb110 w2 HM; obtain ⟨hcz3_0, hcz3_1, hcz3_2, hfz3_0, hfz3_1, hfz3_2⟩ := bk3 (HM.bx 0 rfl)) | ((with_reducible refine gate_callee (f := 90) rfl ?_); refine pC (some 16) rfl #[.string a0_0] rfl Try.func90 (spec_l10Clean.calls k a0_0 true _ A6.out) ?_; rintro e w7 ⟨rfl, hd⟩; refine ⟨_, rfl, ?_⟩; replace HM := HM.drawn hd; clear hd; obtain ⟨hcz9_0, hcz9_1, hcz9_2, hfz9_0, hfz9_1, hfz9_2⟩ := bk3 (HM.bx 0 rfl)))
     go_ret
     exact ⟨ER, (MD HM).pick []⟩
   ·subst c8
    obtain rfl := Option.some.inj H
    go_wp2_with (first | ((with_reducible refine gate_dst (N := 1) rfl ?_); refine pB 1 95 [.string a0_0, .string a0_1, .int .i64 a0_2] HM rfl ?_; clear HM; intro gb110 w2 HM; obtain ⟨hcz3_0, hcz3_1, hcz3_2, hfz3_0, hfz3_1, hfz3_2⟩ := bk3 (HM.bx 0 rfl)) | ((with_reducible refine gate_callee (f := 90) rfl ?_); refine pC (some 16) rfl #[.string a0_0] rfl Try.func90 (spec_l10Clean.calls k a0_0 false _ A6.out) ?_; rintro e w7 ⟨rfl, hd⟩; refine ⟨_, rfl, ?_⟩; replace HM := HM.drawn hd; clear hd))
    go_ret
    exact ⟨ER, (MD HM).pick []⟩
  ·replace c5 : ¬ ((a0_0.size : Int) ≤ 20) := c5
   have c5b0 : decide ((a0_0.size : Int) ≤ 20) = false := decide_eq_false c5
   have c5b1 : decide (a0_0.size ≤ 20) = false := decide_eq_false (by omega)
   clear c5
   obtain rfl := Option.some.inj H
   go_wp2_with (first | ((with_reducible refine gate_dst (N := 1) rfl ?_); refine pB 1 95 [.string a0_0, .string a0_1, .int .i64 a0_2] HM rfl ?_; clear HM; intro gb110 w2 HM; obtain ⟨hcz3_0, hcz3_1, hcz3_2, hfz3_0, hfz3_1, hfz3_2⟩ := bk3 (HM.bx 0 rfl)))
   go_ret
   exact ⟨ER, (MD HM).pick []⟩
 ·replace c4 : ¬ ((a0_0.size : Int) ≥ 1) := c4
  have c4b0 : decide (1 ≤ (a0_0.size : Int)) = false := decide_eq_false c4
  have c4b1 : decide (1 ≤ a0_0.size) = false := decide_eq_false (by omega)
  clear c4
  obtain rfl := Option.some.inj H
  go_wp2_with (first | ((with_reducible refine gate_dst (N := 1) rfl ?_); refine pB 1 95 [.string a0_0, .string a0_1, .int .i64 a0_2] HM rfl ?_; clear HM; intro gb110 w2 HM; obtain ⟨hcz3_0, hcz3_1, hcz3_2, hfz3_0, hfz3_1, hfz3_2⟩ := bk3 (HM.bx 0 rfl)))
  go_ret
  exact ⟨ER, (MD HM).pick []⟩
end Go.Proofs.Ytdeijmofaapgdaa.G
