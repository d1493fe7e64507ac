/- Part 5 of the claim FnSave, merged by pack.py (this session's program) out of: the print's words, cut to what is needed; texts that gen.py printed (it runs the kit's print in place); texts of this session. -/
import Derived.Test.YtnlnifpehndacaaGreatKFnSave1
import Derived.Test.YtnlnifpehndacaaGreatKFnSave2
import Derived.Test.YtnlnifpehndacaaGreatKFnSave3
import Derived.Test.YtnlnifpehndacaaGreatKFnSave4
namespace Go.Proofs.YtnlnifpehndacaaGreat.Mm
end Go.Proofs.YtnlnifpehndacaaGreat.Mm
namespace Go.Proofs.YtnlnifpehndacaaGreat.Sh
end Go.Proofs.YtnlnifpehndacaaGreat.Sh
set_option maxHeartbeats 8000000
set_option maxRecDepth 100000
namespace Go.Proofs.YtnlnifpehndacaaGreat.G
open Go.RowKit Go.Proofs.YtnlnifpehndacaaGreatW.PrintWords Go.Proofs.YtnlnifpehndacaaGreatW.PrintLast Go.Proofs.YtnlnifpehndacaaGreatW.PrintMore Go.Proofs.YtnlnifpehndacaaGreat.Sh
attribute [local go_sem] max2_int min2_int max_two min_two max_three min_three max_four min_four
set_option linter.unusedVariables false
set_option linter.unusedSimpArgs false
open Go.Proofs.YtnlnifpehndacaaGreat.Mm
def impl_Alike.f (k : Nat) (a0_0 : Int) (a0_1 : Int) (l0_2 : List (S60)) (l0_3 : List (S60)) (l0_4 : List Int) (a1_0 : Int) (a1_1 : Int) (l1_2 : List (S60)) (l1_3 : List (S60)) (l1_4 : List Int) : Option (Bool) := if a0_0 = a1_0 then (if a0_1 = a1_1 then ((slices_Equal_impl_Item_impl_Item.f k l0_2 l1_2).bind fun t1146 => (if t1146 = true then ((slices_Equal_impl_Item_impl_Item.f k l0_3 l1_3).bind fun t1147 => (if t1147 = true then ((slices_Equal_int_int.f k l0_4 l1_4).bind fun t1148 => (some t1148)) else (some false))) else (some false))) else (some false)) else (some false)
theorem impl_Alike.calls (k : Nat) (a0_0 : Int) (a0_1 : Int) (A0_2 : Option Addr) (c0_2 : Nat) (l0_2 : List (S60)) (A0_3 : Option Addr) (c0_3 : Nat) (l0_3 : List (S60)) (A0_4 : Option Addr) (c0_4 : Nat) (l0_4 : List Int) (a1_0 : Int) (a1_1 : Int) (A1_2 : Option Addr) (c1_2 : Nat) (l1_2 : List (S60)) (A1_3 : Option Addr) (c1_3 : Nat) (l1_3 : List (S60)) (A1_4 : Option Addr) (c1_4 : Nat) (l1_4 : List Int) (r : Bool) (w : World) (hr0_2 : Kd.C k60 w A0_2 l0_2.length l0_2) (hc0_2 : l0_2.length ≤ c0_2) (hr0_3 : Kd.C k60 w A0_3 l0_3.length l0_3) (hc0_3 : l0_3.length ≤ c0_3) (hr0_4 : Kd.C (Kd.int .i64) w A0_4 l0_4.length l0_4) (hc0_4 : l0_4.length ≤ c0_4) (hr1_2 : Kd.C k60 w A1_2 l1_2.length l1_2) (hc1_2 : l1_2.length ≤ c1_2) (hr1_3 : Kd.C k60 w A1_3 l1_3.length l1_3) (hc1_3 : l1_3.length ≤ c1_3) (hr1_4 : Kd.C (Kd.int .i64) w A1_4 l1_4.length l1_4) (hc1_4 : l1_4.length ≤ c1_4) (h : impl_Alike.f k a0_0 a0_1 l0_2 l0_3 l0_4 a1_0 a1_1 l1_2 l1_3 l1_4 = some r) :
  Calls Tryz.prog 9 #[.agg #[.int .i64 a0_0, .int .i64 a0_1, .slice A0_2 l0_2.length c0_2, .slice A0_3 l0_3.length c0_3, .slice A0_4 l0_4.length c0_4], .agg #[.int .i64 a1_0, .int .i64 a1_1, .slice A1_2 l1_2.length c1_2, .slice A1_3 l1_3.length c1_3, .slice A1_4 l1_4.length c1_4]] w fun e w' => e = .returned (.bool r) ∧ Mem w [] w' [] := by
 have hu26 := Tryz.underlying26
 have HR0_2 := Aside0.mk hr0_2
 have HC0_2 := Aside0.mk hc0_2
 clear hr0_2 hc0_2
 have HR0_3 := Aside0.mk hr0_3
 have HC0_3 := Aside0.mk hc0_3
 clear hr0_3 hc0_3
 have HR0_4 := Aside0.mk hr0_4
 have HC0_4 := Aside0.mk hc0_4
 clear hr0_4 hc0_4
 have HR1_2 := Aside0.mk hr1_2
 have HC1_2 := Aside0.mk hc1_2
 clear hr1_2 hc1_2
 have HR1_3 := Aside0.mk hr1_3
 have HC1_3 := Aside0.mk hc1_3
 clear hr1_3 hc1_3
 have HR1_4 := Aside0.mk hr1_4
 have HC1_4 := Aside0.mk hc1_4
 clear hr1_4 hc1_4
 have HM := Mem.nil w
 have H := h
 clear h
 unfold impl_Alike.f at H
 go_enter Tryz.func9, Tryz.ntmps9
 replace H := IT H; rcases H with ⟨c7, H⟩ | ⟨c7, H⟩
 ·obtain ⟨c7b0, c7b1⟩ := BE c7
  clear c7
  replace H := IT H; rcases H with ⟨c8, H⟩ | ⟨c8, H⟩
  ·obtain ⟨c8b0, c8b1⟩ := BE c8
   clear c8
   replace H := BN H; obtain ⟨t1146, A9, H⟩ := H
   replace H := IB H
   rcases H with ⟨c11, H⟩ | ⟨c11, H⟩
   ·subst c11
    replace H := BN H; obtain ⟨t1147, A14, H⟩ := H
    replace H := IB H
    rcases H with ⟨c16, H⟩ | ⟨c16, H⟩
    ·subst c16
     replace H := BN H; obtain ⟨t1148, A19, H⟩ := H
     obtain rfl := Option.some.inj H
     go_wp2_with (first | ((with_reducible refine gN 2 rfl ?_); refine pB 2 26 [.int .i64 a0_0, .int .i64 a0_1, .slice A0_2 l0_2.length c0_2, .slice A0_3 l0_3.length c0_3, .slice A0_4 l0_4.length c0_4] HM rfl ?_; clear HM; intro gb1144 w3 HM) | ((with_reducible refine gN 3 rfl ?_); refine pB 3 26 [.int .i64 a1_0, .int .i64 a1_1, .slice A1_2 l1_2.length c1_2, .slice A1_3 l1_3.length c1_3, .slice A1_4 l1_4.length c1_4] HM rfl ?_; clear HM; intro gb1145 w4 HM; obtain ⟨_,_,_,_,_,_,_,_,_,_⟩ := bk5 (HM.bx 0 rfl); obtain ⟨_,_,_,_,_,_,_,_,_,_⟩ := bk5 (HM.bx 1 rfl)) | ((with_reducible refine gC 21 rfl ?_); refine pC (some 22) rfl #[.slice A0_2 l0_2.length c0_2, .slice A1_2 l1_2.length c1_2] rfl Tryz.func21 (slices_Equal_impl_Item_impl_Item.calls k _ _ l0_2 _ _ l1_2 true _ (HM.came HR0_2.out) HC0_2.out (HM.came HR1_2.out) HC1_2.out A9.out) ?_; rintro e w10 ⟨rfl, hd⟩; refine ⟨_, rfl, ?_⟩; replace HM := HM.drawn hd; clear hd; obtain ⟨_,_,_,_,_,_,_,_,_,_⟩ := bk5 (HM.bx 0 rfl); obtain ⟨_,_,_,_,_,_,_,_,_,_⟩ := bk5 (HM.bx 1 rfl)) | ((with_reducible refine gC 21 rfl ?_); refine pC (some 29) rfl #[.slice A0_3 l0_3.length c0_3, .slice A1_3 l1_3.length c1_3] rfl Tryz.func21 (slices_Equal_impl_Item_impl_Item.calls k _ _ l0_3 _ _ l1_3 true _ (HM.came HR0_3.out) HC0_3.out (HM.came HR1_3.out) HC1_3.out A14.out) ?_; rintro e w15 ⟨rfl, hd⟩; refine ⟨_, rfl, ?_⟩; replace HM := HM.drawn hd; clear hd; obtain ⟨_,_,_,_,_,_,_,_,_,_⟩ := bk5 (HM.bx 0 rfl); obtain ⟨_,_,_,_,_,_,_,_,_,_⟩ := bk5 (HM.bx 1 rfl)) | ((with_reducible refine gC 22 rfl ?_); refine pC (some 36) rfl #[.slice A0_4 l0_4.length c0_4, .slice A1_4 l1_4.length c1_4] rfl Tryz.func22 (slices_Equal_int_int.calls k _ _ l0_4 _ _ l1_4 t1148 _ (HM.came HR0_4.out) HC0_4.out (HM.came HR1_4.out) HC1_4.out A19.out) ?_; rintro e w20 ⟨rfl, hd⟩; refine ⟨_, rfl, ?_⟩; replace HM := HM.drawn hd; clear hd))
     go_ret
     exact ⟨ER, (MD HM).pick []⟩
    ·subst c16
     obtain rfl := Option.some.inj H
     go_wp2_with (first | ((with_reducible refine gN 2 rfl ?_); refine pB 2 26 [.int .i64 a0_0, .int .i64 a0_1, .slice A0_2 l0_2.length c0_2, .slice A0_3 l0_3.length c0_3, .slice A0_4 l0_4.length c0_4] HM rfl ?_; clear HM; intro gb1144 w3 HM) | ((with_reducible refine gN 3 rfl ?_); refine pB 3 26 [.int .i64 a1_0, .int .i64 a1_1, .slice A1_2 l1_2.length c1_2, .slice A1_3 l1_3.length c1_3, .slice A1_4 l1_4.length c1_4] HM rfl ?_; clear HM; intro gb1145 w4 HM; obtain ⟨_,_,_,_,_,_,_,_,_,_⟩ := bk5 (HM.bx 0 rfl); obtain ⟨_,_,_,_,_,_,_,_,_,_⟩ := bk5 (HM.bx 1 rfl)) | ((with_reducible refine gC 21 rfl ?_); refine pC (some 22) rfl #[.slice A0_2 l0_2.length c0_2, .slice A1_2 l1_2.length c1_2] rfl Tryz.func21 (slices_Equal_impl_Item_impl_Item.calls k _ _ l0_2 _ _ l1_2 true _ (HM.came HR0_2.out) HC0_2.out (HM.came HR1_2.out) HC1_2.out A9.out) ?_; rintro e w10 ⟨rfl, hd⟩; refine ⟨_, rfl, ?_⟩; replace HM := HM.drawn hd; clear hd; obtain ⟨_,_,_,_,_,_,_,_,_,_⟩ := bk5 (HM.bx 0 rfl); obtain ⟨_,_,_,_,_,_,_,_,_,_⟩ := bk5 (HM.bx 1 rfl)) | ((with_reducible refine gC 21 rfl ?_); refine pC (some 29) rfl #[.slice A0_3 l0_3.length c0_3, .slice A1_3 l1_3.length c1_3] rfl Tryz.func21 (slices_Equal_impl_Item_impl_Item.calls k _ _ l0_3 _ _ l1_3 false _ (HM.came HR0_3.out) HC0_3.out (HM.came HR1_3.out) HC1_3.out A14.out) ?_; rintro e w15 ⟨rfl, hd⟩; refine ⟨_, rfl, ?_⟩; replace HM := HM.drawn hd; clear hd))
     go_ret
     exact ⟨ER, (MD HM).pick []⟩
   ·subst c11
    obtain rfl := Option.some.inj H
    go_wp2_with (first | ((with_reducible refine gN 2 rfl ?_); refine pB 2 26 [.int .i64 a0_0, .int .i64 a0_1, .slice A0_2 l0_2.length c0_2, .slice A0_3 l0_3.length c0_3, .slice A0_4 l0_4.length c0_4] HM rfl ?_; clear HM; intro gb1144 w3 HM) | ((with_reducible refine gN 3 rfl ?_); refine pB 3 26 [.int .i64 a1_0, .int .i64 a1_1, .slice A1_2 l1_2.length c1_2, .slice A1_3 l1_3.length c1_3, .slice A1_4 l1_4.length c1_4] HM rfl ?_; clear HM; intro gb1145 w4 HM; obtain ⟨_,_,_,_,_,_,_,_,_,_⟩ := bk5 (HM.bx 0 rfl); obtain ⟨_,_,_,_,_,_,_,_,_,_⟩ := bk5 (HM.bx 1 rfl)) | ((with_reducible refine gC 21 rfl ?_); refine pC (some 22) rfl #[.slice A0_2 l0_2.length c0_2, .slice A1_2 l1_2.length c1_2] rfl Tryz.func21 (slices_Equal_impl_Item_impl_Item.calls k _ _ l0_2 _ _ l1_2 false _ (HM.came HR0_2.out) HC0_2.out (HM.came HR1_2.out) HC1_2.out A9.out) ?_; rintro e w10 ⟨rfl, hd⟩; refine ⟨_, rfl, ?_⟩; replace HM := HM.drawn hd; clear hd))
    go_ret
    exact ⟨ER, (MD HM).pick []⟩
  ·obtain ⟨c8b0, c8b1⟩ := BF c8
   obtain rfl := Option.some.inj H
   go_wp2_with (first | ((with_reducible refine gN 2 rfl ?_); refine pB 2 26 [.int .i64 a0_0, .int .i64 a0_1, .slice A0_2 l0_2.length c0_2, .slice A0_3 l0_3.length c0_3, .slice A0_4 l0_4.length c0_4] HM rfl ?_; clear HM; intro gb1144 w3 HM) | ((with_reducible refine gN 3 rfl ?_); refine pB 3 26 [.int .i64 a1_0, .int .i64 a1_1, .slice A1_2 l1_2.length c1_2, .slice A1_3 l1_3.length c1_3, .slice A1_4 l1_4.length c1_4] HM rfl ?_; clear HM; intro gb1145 w4 HM; obtain ⟨_,_,_,_,_,_,_,_,_,_⟩ := bk5 (HM.bx 0 rfl); obtain ⟨_,_,_,_,_,_,_,_,_,_⟩ := bk5 (HM.bx 1 rfl)))
   go_ret
   exact ⟨ER, (MD HM).pick []⟩
 ·obtain ⟨c7b0, c7b1⟩ := BF c7
  obtain rfl := Option.some.inj H
  go_wp2_with (first | ((with_reducible refine gN 2 rfl ?_); refine pB 2 26 [.int .i64 a0_0, .int .i64 a0_1, .slice A0_2 l0_2.length c0_2, .slice A0_3 l0_3.length c0_3, .slice A0_4 l0_4.length c0_4] HM rfl ?_; clear HM; intro gb1144 w3 HM) | ((with_reducible refine gN 3 rfl ?_); refine pB 3 26 [.int .i64 a1_0, .int .i64 a1_1, .slice A1_2 l1_2.length c1_2, .slice A1_3 l1_3.length c1_3, .slice A1_4 l1_4.length c1_4] HM rfl ?_; clear HM; intro gb1145 w4 HM; obtain ⟨_,_,_,_,_,_,_,_,_,_⟩ := bk5 (HM.bx 0 rfl); obtain ⟨_,_,_,_,_,_,_,_,_,_⟩ := bk5 (HM.bx 1 rfl)))
  go_ret
  exact ⟨ER, (MD HM).pick []⟩
end Go.Proofs.YtnlnifpehndacaaGreat.G

namespace Go.Proofs.YtnlnifpehndacaaGreat.G
open Go.RowKit Go.Proofs.YtnlnifpehndacaaGreatW.PrintWords Go.Proofs.YtnlnifpehndacaaGreatW.PrintLast Go.Proofs.YtnlnifpehndacaaGreatW.PrintMore Go.Proofs.YtnlnifpehndacaaGreat.Sh
attribute [local go_sem] max2_int min2_int max_two min_two max_three min_three max_four min_four
set_option linter.unusedVariables false
set_option linter.unusedSimpArgs false
attribute [local go_sem high] eqA54
def slices_Equal_impl_Reply_impl_Reply.l0 : Nat → List (S54) → List (S54) → Int → Int → Option (Bool)
 | 0, _, _, _, _ => none
 | k + 1, x0, x1, x12, x13 => if x13 < x12 then (if 0 ≤ x13 then (if x13 < (x0.length : Int) then (if x13 < (x1.length : Int) then (if (!(((rd_T54 x0 x13).f0) == ((rd_T54 x1 x13).f0)) || (!((((rd_T54 x0 x13).f1).toList) == (((rd_T54 x1 x13).f1).toList)) || (!((((rd_T54 x0 x13).f2).toList) == (((rd_T54 x1 x13).f2).toList))))) = true then (some false) else (slices_Equal_impl_Reply_impl_Reply.l0 k x0 x1 x12 (wrap64 (x13 + 1)))) else (none)) else (none)) else (none)) else (some true)
def slices_Equal_impl_Reply_impl_Reply.f (k : Nat) (l0 : List (S54)) (l1 : List (S54)) : Option (Bool) := if (l0.length : Int) = (l1.length : Int) then (slices_Equal_impl_Reply_impl_Reply.l0 k l0 l1 (l0.length : Int) 0) else (some false)
theorem slices_Equal_impl_Reply_impl_Reply.mono_l : ∀ k, (∀ y0 y1 y2 y3, LeO (slices_Equal_impl_Reply_impl_Reply.l0 k y0 y1 y2 y3) (slices_Equal_impl_Reply_impl_Reply.l0 (k + 1) y0 y1 y2 y3))
 | 0 => fun _ _ _ _ r h => by simp [slices_Equal_impl_Reply_impl_Reply.l0] at h
 | k + 1 => by
  have ih0 := slices_Equal_impl_Reply_impl_Reply.mono_l k
  ·intro y0 y1 y2 y3
   unfold slices_Equal_impl_Reply_impl_Reply.l0
   repeat' first | (with_reducible first | exact ih0 _ _ _ _ | exact LeO.refl _ | exact LeO.none _ | refine LeO.ite ?_ ?_ | refine LeO.bind ?_ (fun _ => ?_)) | exact LeO.none _ | refine LeO.ite ?_ ?_ | refine LeO.bind ?_ (fun _ => ?_)
theorem slices_Equal_impl_Reply_impl_Reply.mono : ∀ a0 a1 k, LeO (slices_Equal_impl_Reply_impl_Reply.f k a0 a1) (slices_Equal_impl_Reply_impl_Reply.f (k + 1) a0 a1) := by
 intro a0 a1 k
 have ih0 := slices_Equal_impl_Reply_impl_Reply.mono_l k
 unfold slices_Equal_impl_Reply_impl_Reply.f
 repeat' first | (with_reducible first | exact ih0 _ _ _ _ | exact LeO.refl _ | exact LeO.none _ | refine LeO.ite ?_ ?_ | refine LeO.bind ?_ (fun _ => ?_)) | exact LeO.none _ | refine LeO.ite ?_ ?_ | refine LeO.bind ?_ (fun _ => ?_)
theorem slices_Equal_impl_Reply_impl_Reply.calls (k : Nat) (A0 : Option Addr) (c0 : Nat) (l0 : List (S54)) (A1 : Option Addr) (c1 : Nat) (l1 : List (S54)) (r : Bool) (w : World) (hr0 : Kd.C k54 w A0 l0.length l0) (hc0 : l0.length ≤ c0) (hr1 : Kd.C k54 w A1 l1.length l1) (hc1 : l1.length ≤ c1) (h : slices_Equal_impl_Reply_impl_Reply.f k l0 l1 = some r) :
  Calls Tryz.prog 23 #[.slice A0 l0.length c0, .slice A1 l1.length c1] w fun e w' => e = .returned (.bool r) ∧ Drawn0 w w' := by
 have hu54 := Tryz.underlying54
 have HR0 := Aside0.mk hr0
 have HC0 := Aside0.mk hc0
 clear hr0 hc0
 have HR1 := Aside0.mk hr1
 have HC1 := Aside0.mk hc1
 clear hr1 hc1
 have H : (if (l0.length : Int) = (l1.length : Int) then (slices_Equal_impl_Reply_impl_Reply.l0 k l0 l1 (l0.length : Int) 0) else (some false)) = some r := h
 clear h
 by_cases c3 : (l0.length : Int) = (l1.length : Int)
 ·rw [if_pos c3] at H
  have c3b0 : ((l0.length : Int) == (l1.length : Int)) = true := beq_iff_eq.mpr c3
  have c3b1 : ((l0.length : Int) != (l1.length : Int)) = false := bne_eq_false_iff_eq.mpr c3
  have c3b2 : (l0.length == l1.length) = true := by first | simpa using c3 | (simp at c3 ⊢; omega)
  clear c3
  have H' := Aside0.mk H
  clear H
  go_enter Tryz.func23, Tryz.ntmps23
  go_wp2
  repeat (go_quiet (fail); try go_wp2)
  go_loopg [13] k (fun kq v13 w' => ∃ (x13_1 : Int), v13 = .int .i64 x13_1 ∧ Aside0 (slices_Equal_impl_Reply_impl_Reply.l0 kq l0 l1 (l0.length : Int) x13_1 = some r) ∧ Aside0 (kq ≤ k) ∧ Drawn0 w w')
  case atStart => exact ⟨(0), RS, H', ⟨Nat.le_refl _⟩, DR⟩
  case round =>
   clear H'
   try clear c1
   try clear c2
   try clear p2
   try clear c3
   try clear c3b0
   try clear c3b1
   try clear c3b2
   obtain ⟨x13_1, rfl, HA, HK1, ⟨m1, rfl⟩⟩ := hrel
   cases gk with
   | zero => exact absurd HA.out (by simp [slices_Equal_impl_Reply_impl_Reply.l0])
   | succ k1 =>
    have H := HA.out
    clear HA
    simp only [slices_Equal_impl_Reply_impl_Reply.l0] at H
    by_cases c4 : x13_1 < (l0.length : Int)
    ·rw [if_pos c4] at H
     have c4b0 : decide (x13_1 < (l0.length : Int)) = true := decide_eq_true c4
     clear c4
     by_cases c5 : 0 ≤ x13_1
     ·rw [if_pos c5] at H
      have c5b0 : decide (0 ≤ x13_1) = true := decide_eq_true c5
      clear c5
      by_cases c6 : x13_1 < (l0.length : Int)
      ·rw [if_pos c6] at H
       have c6b0 : decide (x13_1 < (l0.length : Int)) = true := decide_eq_true c6
       clear c6
       by_cases c7 : x13_1 < (l1.length : Int)
       ·rw [if_pos c7] at H
        have c7b0 : decide (x13_1 < (l1.length : Int)) = true := decide_eq_true c7
        clear c7
        by_cases c8 : (!(((rd_T54 l0 x13_1).f0) == ((rd_T54 l1 x13_1).f0)) || (!((((rd_T54 l0 x13_1).f1).toList) == (((rd_T54 l1 x13_1).f1).toList)) || (!((((rd_T54 l0 x13_1).f2).toList) == (((rd_T54 l1 x13_1).f2).toList))))) = true
        ·rw [if_pos c8] at H
         have c8b0 : (!(((rd_T54 l0 x13_1).f0) == ((rd_T54 l1 x13_1).f0)) || (!((((rd_T54 l0 x13_1).f1).toList) == (((rd_T54 l1 x13_1).f1).toList)) || (!((((rd_T54 l0 x13_1).f2).toList) == (((rd_T54 l1 x13_1).f2).toList))))) = true := c8
         clear c8
         obtain rfl := Option.some.inj H
         have p1151 : 0 ≤ (x13_1 : Int) := of_decide_eq_true AS
         have q1151 : x13_1 < (l0.length : Int) := of_decide_eq_true AS
         obtain ⟨ad1151, e1151, hx1151_0, hx1151_1, hx1151_2⟩ := at_T54 HR0.out x13_1 p1151 q1151
         cases e1151
         replace p1151 := eq_true p1151
         replace q1151 := eq_true q1151
         have p1152 : 0 ≤ (x13_1 : Int) := of_decide_eq_true AS
         have q1152 : x13_1 < (l1.length : Int) := of_decide_eq_true AS
         obtain ⟨ad1152, e1152, hx1152_0, hx1152_1, hx1152_2⟩ := at_T54 HR1.out x13_1 p1152 q1152
         cases e1152
         replace p1152 := eq_true p1152
         replace q1152 := eq_true q1152
         go_wp2
         repeat (go_quiet (fail); try go_wp2)
         go_ret
         exact ⟨by first | rfl | (simp; done) | (simp [*]; done), DR⟩
        ·rw [if_neg c8] at H
         have c8b0 : (!(((rd_T54 l0 x13_1).f0) == ((rd_T54 l1 x13_1).f0)) || (!((((rd_T54 l0 x13_1).f1).toList) == (((rd_T54 l1 x13_1).f1).toList)) || (!((((rd_T54 l0 x13_1).f2).toList) == (((rd_T54 l1 x13_1).f2).toList))))) = false := by simpa using c8
         clear c8
         have H' := Aside0.mk H
         clear H
         have p1151 : 0 ≤ (x13_1 : Int) := of_decide_eq_true AS
         have q1151 : x13_1 < (l0.length : Int) := of_decide_eq_true AS
         obtain ⟨ad1151, e1151, hx1151_0, hx1151_1, hx1151_2⟩ := at_T54 HR0.out x13_1 p1151 q1151
         cases e1151
         replace p1151 := eq_true p1151
         replace q1151 := eq_true q1151
         have p1152 : 0 ≤ (x13_1 : Int) := of_decide_eq_true AS
         have q1152 : x13_1 < (l1.length : Int) := of_decide_eq_true AS
         obtain ⟨ad1152, e1152, hx1152_0, hx1152_1, hx1152_2⟩ := at_T54 HR1.out x13_1 p1152 q1152
         cases e1152
         replace p1152 := eq_true p1152
         replace q1152 := eq_true q1152
         go_wp2
         repeat (go_quiet (fail); try go_wp2)
         go_roundg k1
         case measure => have := HK1.out; omega
         case rel => exact ⟨(wrap64 (x13_1 + 1)), RS, H', ⟨by have := HK1.out; omega⟩, DR⟩
       ·rw [if_neg c7] at H
        exact absurd H (by simp)
      ·rw [if_neg c6] at H
       exact absurd H (by simp)
     ·rw [if_neg c5] at H
      exact absurd H (by simp)
    ·rw [if_neg c4] at H
     have c4b0 : decide (x13_1 < (l0.length : Int)) = false := decide_eq_false c4
     clear c4
     obtain rfl := Option.some.inj H
     go_wp2
     repeat (go_quiet (fail); try go_wp2)
     go_ret
     exact ⟨by first | rfl | (simp; done) | (simp [*]; done), DR⟩
 ·rw [if_neg c3] at H
  have c3b0 : ((l0.length : Int) == (l1.length : Int)) = false := beq_eq_false_iff_ne.mpr c3
  have c3b1 : ((l0.length : Int) != (l1.length : Int)) = true := bne_iff_ne.mpr c3
  have c3b2 : (l0.length == l1.length) = false := by first | simpa using c3 | (simp at c3 ⊢; omega)
  obtain rfl := Option.some.inj H
  go_enter Tryz.func23, Tryz.ntmps23
  go_wp2
  repeat (go_quiet (fail); try go_wp2)
  go_ret
  exact ⟨by first | rfl | (simp; done) | (simp [*]; done), DR⟩
end Go.Proofs.YtnlnifpehndacaaGreat.G

namespace Go.Proofs.YtnlnifpehndacaaGreat.G
open Go.RowKit Go.Proofs.YtnlnifpehndacaaGreatW.PrintWords Go.Proofs.YtnlnifpehndacaaGreatW.PrintLast Go.Proofs.YtnlnifpehndacaaGreatW.PrintMore Go.Proofs.YtnlnifpehndacaaGreat.Sh
attribute [local go_sem] max2_int min2_int max_two min_two max_three min_three max_four min_four
set_option linter.unusedVariables false
set_option linter.unusedSimpArgs false
def impl_SameReplies.f (k : Nat) (l0 : List (S54)) (l1 : List (S54)) : Option (Bool) := (slices_Equal_impl_Reply_impl_Reply.f k l0 l1).bind fun t1154 => (some t1154)
theorem impl_SameReplies.mono : ∀ a0 a1 k, LeO (impl_SameReplies.f k a0 a1) (impl_SameReplies.f (k + 1) a0 a1) := by
 intro a0 a1 k
 unfold impl_SameReplies.f
 repeat' first | (with_reducible first | exact slices_Equal_impl_Reply_impl_Reply.mono _ _ _ | exact LeO.refl _ | exact LeO.none _ | refine LeO.ite ?_ ?_ | refine LeO.bind ?_ (fun _ => ?_)) | exact LeO.none _ | refine LeO.ite ?_ ?_ | refine LeO.bind ?_ (fun _ => ?_)
theorem impl_SameReplies.calls (k : Nat) (A0 : Option Addr) (c0 : Nat) (l0 : List (S54)) (A1 : Option Addr) (c1 : Nat) (l1 : List (S54)) (r : Bool) (w : World) (hr0 : Kd.C k54 w A0 l0.length l0) (hc0 : l0.length ≤ c0) (hr1 : Kd.C k54 w A1 l1.length l1) (hc1 : l1.length ≤ c1) (h : impl_SameReplies.f k l0 l1 = some r) :
  Calls Tryz.prog 10 #[.slice A0 l0.length c0, .slice A1 l1.length c1] w fun e w' => e = .returned (.bool r) ∧ Drawn0 w w' := by
 have HR0 := Aside0.mk hr0
 have HC0 := Aside0.mk hc0
 clear hr0 hc0
 have HR1 := Aside0.mk hr1
 have HC1 := Aside0.mk hc1
 clear hr1 hc1
 have H : ((slices_Equal_impl_Reply_impl_Reply.f k l0 l1).bind fun t1154 => (some t1154)) = some r := h
 clear h
 replace H := BS H
 obtain ⟨t1154, A30, H⟩ := H
 have A3 := Aside0.mk A30
 clear A30
 obtain rfl := Option.some.inj H
 go_enter Tryz.func10, Tryz.ntmps10
 go_wp2_with (first | ((with_reducible refine gate_callee (f := 23) rfl ?_); refine goesL_ (some 7) rfl rfl Tryz.func23 (by kernel_rfl) rfl #[.slice A0 l0.length c0, .slice A1 l1.length c1] rfl AQ ?_; (with_reducible refine (slices_Equal_impl_Reply_impl_Reply.calls k _ _ l0 _ _ l1 t1154 _ ?side1 ?side2 ?side3 ?side4 A3.out).mono ?_); (case side1 => repeat (first | exact HR0.out | (with_reducible refine Kd.C_alloc ?_ _) | (with_reducible refine Kd.C_drewN ?_ _) | (with_reducible refine Kd.C_drew ?_))); (case side2 => exact HC0.out); (case side3 => repeat (first | exact HR1.out | (with_reducible refine Kd.C_alloc ?_ _) | (with_reducible refine Kd.C_drewN ?_ _) | (with_reducible refine Kd.C_drew ?_))); (case side4 => exact HC1.out); rintro e w' ⟨rfl, ⟨nd, rfl⟩⟩; refine ⟨_, rfl, ?_⟩))
 go_ret
 exact ⟨by first | rfl | (simp; done) | (simp [*]; done), DR⟩
end Go.Proofs.YtnlnifpehndacaaGreat.G

namespace Go.Proofs.YtnlnifpehndacaaGreat.G
open Go.RowKit Go.Proofs.YtnlnifpehndacaaGreatW.PrintWords Go.Proofs.YtnlnifpehndacaaGreatW.PrintLast Go.Proofs.YtnlnifpehndacaaGreatW.PrintMore Go.Proofs.YtnlnifpehndacaaGreat.Sh
attribute [local go_sem] max2_int min2_int max_two min_two max_three min_three max_four min_four
set_option linter.unusedVariables false
set_option linter.unusedSimpArgs false
open Go.Proofs.YtnlnifpehndacaaGreat.Mm
def laws_FnSave.j0 : Nat → Bool → Int → Int → List (S60) → List (S60) → List Int → Int → Int → List (S60) → List (S60) → List Int → Option (Bool)
 | 0, _, _, _, _, _, _, _, _, _, _, _ => none
 | k + 1, x62, x1167000, x1167001, x1167002, x1167003, x1167004, x1199000, x1199001, x1199002, x1199003, x1199004 => if x62 = true then (none) else ((impl_Mend.f k (⟨#[116, 104, 114, 101, 101, 32, 48, 32, 48, 10]⟩ : ByteArray) x1199000 x1199001 x1199002 x1199003 x1199004).bind fun bt1223 => (if bt1223.2.2.2.2.2 = true then (none) else ((impl_Alike.f k bt1223.1 bt1223.2.1 bt1223.2.2.1 bt1223.2.2.2.1 bt1223.2.2.2.2.1 x1199000 x1199001 x1199002 x1199003 x1199004).bind fun t1236 => (if t1236 = true then ((impl_ThreeText.f k bt1223.1 bt1223.2.1 bt1223.2.2.1 bt1223.2.2.2.1 bt1223.2.2.2.2.1).bind fun t1237 => ((impl_ThreeText.f k x1199000 x1199001 x1199002 x1199003 x1199004).bind fun t1238 => (if t1237.toList = t1238.toList then ((impl_ThreeText.f k x1167000 x1167001 x1167002 x1167003 x1167004).bind fun t1239 => ((impl_ThreeText.f k x1199000 x1199001 x1199002 x1199003 x1199004).bind fun t1240 => ((impl_Alike.f k x1167000 x1167001 x1167002 x1167003 x1167004 x1199000 x1199001 x1199002 x1199003 x1199004).bind fun t1241 => (some ((t1239.toList == t1240.toList) == t1241))))) else (none)))) else (none)))))
def laws_FnSave.f (k : Nat) (l0 : List Int) : Option (Bool) := if (l0.length : Int) > 1048576 then (some true) else ((spec_MakeThree.f k l0).bind fun bt1155 => ((impl_ThreeText.f k bt1155.1 bt1155.2.1 bt1155.2.2.1 bt1155.2.2.2.1 bt1155.2.2.2.2).bind fun t1167 => ((impl_Mend.f k t1167 0 0 ([] : List (S60)) ([] : List (S60)) ([] : List Int)).bind fun bt1168 => (if bt1168.2.2.2.2.2 = true then ((spec_MakeOps.f k l0 12).bind fun t1181 => ((impl_OpsDo.f k bt1155.1 bt1155.2.1 bt1155.2.2.1 bt1155.2.2.2.1 bt1155.2.2.2.2 t1181).bind fun bt1184 => ((spec_MakeOps.f k l0 12).bind fun t1199 => ((impl_OpsDo.f k bt1168.1 bt1168.2.1 bt1168.2.2.1 bt1168.2.2.2.1 bt1168.2.2.2.2.1 t1199).bind fun bt1202 => ((impl_Alike.f k bt1184.1 bt1184.2.1 bt1184.2.2.1 bt1184.2.2.2.1 bt1184.2.2.2.2.1 bt1202.1 bt1202.2.1 bt1202.2.2.1 bt1202.2.2.2.1 bt1202.2.2.2.2.1).bind fun t1217 => (if t1217 = true then ((impl_SameReplies.f k bt1184.2.2.2.2.2 bt1202.2.2.2.2.2).bind fun t1218 => (if t1218 = true then ((spec_MakeOps.f k l0 12).bind fun t1219 => (if (bt1184.2.2.2.2.2.length : Int) = (t1219.length : Int) then ((impl_ThreeOk.f k bt1184.1 bt1184.2.1 bt1184.2.2.1 bt1184.2.2.2.1 bt1184.2.2.2.2.1).bind fun t1222 => (laws_FnSave.j0 k (!t1222) bt1155.1 bt1155.2.1 bt1155.2.2.1 bt1155.2.2.2.1 bt1155.2.2.2.2 bt1184.1 bt1184.2.1 bt1184.2.2.1 bt1184.2.2.2.1 bt1184.2.2.2.2.1)) else (laws_FnSave.j0 k true bt1155.1 bt1155.2.1 bt1155.2.2.1 bt1155.2.2.2.1 bt1155.2.2.2.2 bt1184.1 bt1184.2.1 bt1184.2.2.1 bt1184.2.2.2.1 bt1184.2.2.2.2.1))) else (laws_FnSave.j0 k true bt1155.1 bt1155.2.1 bt1155.2.2.1 bt1155.2.2.2.1 bt1155.2.2.2.2 bt1184.1 bt1184.2.1 bt1184.2.2.1 bt1184.2.2.2.1 bt1184.2.2.2.2.1))) else (laws_FnSave.j0 k true bt1155.1 bt1155.2.1 bt1155.2.2.1 bt1155.2.2.2.1 bt1155.2.2.2.2 bt1184.1 bt1184.2.1 bt1184.2.2.1 bt1184.2.2.2.1 bt1184.2.2.2.2.1))))))) else (none)))))
def laws_FnSave.T7 : Bool × List (List Nat × List Nat) := (true, [([], []), ([], []), ([1], [1]), ([0, 2, 2], [0, 2]), ([3], [3]), ([4], [4]), ([4], [4]), ([], []), ([7, 5, 3, 0, 1, 2, 3, 4, 5, 7], [5, 7]), ([6, 8, 0, 1, 2, 3, 4, 5, 6, 7, 8], [6])])
def laws_FnSave.B7 : List Nat := [0, 0, 2, 7, 15, 31, 31, 0, 191, 511]
theorem laws_FnSave.tab7 : rtab .any (opsOf Tryz.f3 7) = laws_FnSave.T7 := by kernel_rfl
theorem laws_FnSave.bits7 : waitsOk laws_FnSave.T7.2 laws_FnSave.B7 = true := by kernel_rfl
def laws_FnSave.T8 : Bool × List (List Nat × List Nat) := (true, [([], []), ([], []), ([1], [1]), ([0, 2, 2], [0, 2]), ([3], [3]), ([4], [4]), ([4], [4]), ([], []), ([7, 5, 3, 0, 1, 2, 3, 4, 5, 7], [5, 7]), ([6, 8, 0, 1, 2, 3, 4, 5, 6, 7, 8], [6])])
def laws_FnSave.B8 : List Nat := [0, 0, 2, 7, 15, 31, 31, 0, 191, 511]
theorem laws_FnSave.tab8 : rtab .any (opsOf Tryz.f3 8) = laws_FnSave.T8 := by kernel_rfl
theorem laws_FnSave.bits8 : waitsOk laws_FnSave.T8.2 laws_FnSave.B8 = true := by kernel_rfl
def laws_FnSave.T12 : Bool × List (List Nat × List Nat) := (true, [([], []), ([0], [0]), ([1], [1]), ([2], [2]), ([2], [2]), ([3, 4, 2, 2], [2, 3, 4]), ([2, 5], [2, 5]), ([6, 5], [6]), ([7], [7]), ([8, 7, 7], [7, 8]), ([7], [7]), ([10, 9, 7], [7, 10]), ([9, 11, 7], [7, 9, 11]), ([7, 12], [7, 12]), ([13, 11], [13]), ([14], [14]), ([15, 14, 14], [14, 15]), ([14], [14]), ([17, 16, 14], [14, 17]), ([16, 18, 14], [14, 16, 18]), ([14], [14]), ([14], [14]), ([20, 21, 18, 14], [14, 20, 21]), ([19, 22, 14], [14, 19, 22]), ([14, 23], [14, 23]), ([24, 22, 0, 1, 2, 3, 4, 5, 6, 7, 8, 9, 10, 11, 12, 13, 14, 15, 16, 17, 18, 19, 20, 21, 22, 23, 24], [24])])
def laws_FnSave.B12 : List Nat := [0, 1, 3, 7, 7, 31, 63, 127, 255, 511, 255, 2047, 4095, 8191, 16383, 32767, 65535, 32767, 262143, 524287, 32767, 32767, 3670015, 8388607, 16777215, 33554431]
theorem laws_FnSave.tab12 : rtab .any (opsOf Tryz.f3 12) = laws_FnSave.T12 := by kernel_rfl
theorem laws_FnSave.bits12 : waitsOk laws_FnSave.T12.2 laws_FnSave.B12 = true := by kernel_rfl
theorem laws_FnSave.calls (k : Nat) (A0 : Option Addr) (c0 : Nat) (l0 : List Int) (r : Bool) (w : World) (hr0 : Kd.C (Kd.int .u8) w A0 l0.length l0) (hc0 : l0.length ≤ c0) (h : laws_FnSave.f k l0 = some r) :
  Calls Tryz.prog 3 #[.slice A0 l0.length c0] w fun e w' => e = .returned (.bool r) ∧ Below w.heap.size w w' := by
 have hu26 := Tryz.underlying26
 have HR0 := Aside0.mk hr0
 have HC0 := Aside0.mk hc0
 clear hr0 hc0
 have HM := Mem.nil w
 have H := h
 clear h
 unfold laws_FnSave.f at H
 go_enter Tryz.func3, Tryz.ntmps3
 go_upto_if 14 with (fail)
 replace H := IT H; rcases H with ⟨c2, H⟩ | ⟨c2, H⟩
 ·replace c2 : (l0.length : Int) > 1048576 := c2
  have c2b0 : decide (1048576 < (l0.length : Int)) = true := decide_eq_true c2
  have c2b1 : decide (1048576 < l0.length) = true := decide_eq_true (by omega)
  have c2b9 : decide (1048576 < l0.length) = true := decide_eq_true (by omega)
  clear c2
  first|rw [c2b0]|rw [c2b9]|(simp only [i64_w, i32_w]; rw [c2b0])|skip
  obtain rfl := Option.some.inj H
  go_wp2
  go_ret
  exact ⟨ER, HM.bel⟩
 ·replace c2 : ¬ ((l0.length : Int) > 1048576) := c2
  have c2b0 : decide (1048576 < (l0.length : Int)) = false := decide_eq_false c2
  have c2b1 : decide (1048576 < l0.length) = false := decide_eq_false (by omega)
  have c2b9 : decide (1048576 < l0.length) = false := decide_eq_false (by omega)
  clear c2
  first|rw [c2b0]|rw [c2b9]|(simp only [i64_w, i32_w]; rw [c2b0])|skip
  replace H := BN H; obtain ⟨⟨t1155, t1156, t1157, t1160, t1163⟩, A3, H⟩ := H
  replace H := BN H; obtain ⟨t1167, A11, H⟩ := H
  replace H := BN H; obtain ⟨⟨t1168, t1169, t1170, t1173, t1176, t1179⟩, A13, H⟩ := H
  replace H := GD H
  obtain ⟨c20, H⟩ := H
  subst c20
  try go_wp2_with (first | ((with_reducible refine gC 4 rfl ?_); refine pC (some 16) rfl #[.slice A0 l0.length c0] rfl Tryz.func4 (spec_MakeThree.calls k _ _ l0 t1155 t1156 t1157 t1160 t1163 _ (HM.came HR0.out) HC0.out A3.out) ?_; rintro e w4 ⟨v1158, v1161, v1164, rfl, hR⟩; refine ⟨_, rfl, ?_⟩; replace HM := HM.call hR; clear hR) | ((with_reducible refine gN 3 rfl ?_); refine pB 3 26 [.int .i64 0, .int .i64 0, .slice none 0 0, .slice none 0 0, .slice none 0 0] HM rfl ?_; clear HM; intro gb1166 w5 HM; obtain ⟨Xo6, ko6, rfl⟩ := HM.rdR 0 rfl; obtain ⟨Xo7, ko7, rfl⟩ := HM.rdR 1 rfl; obtain ⟨Xo8, ko8, rfl⟩ := HM.rd 2 rfl) | ((with_reducible refine gS 3 rfl ?_); refine pS 3 3 0 [.int .i64 t1155, .int .i64 t1156, .slice Xo6 t1157.length ko6, .slice Xo7 t1160.length ko7, .slice Xo8 t1163.length ko8] HM rfl rfl ?_; clear HM; intro w9 HM; obtain ⟨_,_,_,_,_,_,_,_,_,_⟩ := bk5 (HM.bx 3 rfl)) | ((with_reducible refine gC 6 rfl ?_); refine pC (some 19) rfl #[.agg #[.int .i64 t1155, .int .i64 t1156, .slice Xo6 t1157.length ko6, .slice Xo7 t1160.length ko7, .slice Xo8 t1163.length ko8]] rfl Tryz.func6 (impl_ThreeText.calls k t1155 t1156 _ _ t1157 _ _ t1160 _ _ t1163 t1167 _ (HM.CR 0 rfl).2.2 (HM.CR 0 rfl).2.1 (HM.CR 1 rfl).2.2 (HM.CR 1 rfl).2.1 (HM.C 2 rfl).2.2 (HM.C 2 rfl).2.1 A11.out) ?_; rintro e w12 ⟨rfl, hR⟩; refine ⟨_, rfl, ?_⟩; replace HM := HM.call hR; clear hR) | ((with_reducible refine gC 5 rfl ?_); refine pC (some 21) rfl #[.string t1167, .agg #[.int .i64 0, .int .i64 0, .slice none 0 0, .slice none 0 0, .slice none 0 0]] rfl Tryz.func5 (impl_Mend.calls k t1167 0 0 _ _ ([] : List (S60)) _ _ ([] : List (S60)) _ _ ([] : List Int) t1168 t1169 t1170 t1173 t1176 true _ (Kd.C_nil _ _) (Nat.le_refl _) (Kd.C_nil _ _) (Nat.le_refl _) (Kd.C_nil _ _) (Nat.le_refl _) A13.out) ?_; rintro e w14 ⟨v1171, v1174, v1177, rfl, hR⟩; refine ⟨_, rfl, ?_⟩; replace HM := HM.call hR; clear hR) | ((with_reducible refine gN 4 rfl ?_); refine pB 4 26 [.int .i64 0, .int .i64 0, .slice none 0 0, .slice none 0 0, .slice none 0 0] HM rfl ?_; clear HM; intro gb1180 w15 HM; obtain ⟨Xo16, ko16, rfl⟩ := HM.rdR 4 rfl; obtain ⟨Xo17, ko17, rfl⟩ := HM.rdR 5 rfl; obtain ⟨Xo18, ko18, rfl⟩ := HM.rdR 6 rfl) | ((with_reducible refine gS 4 rfl ?_); refine pS 7 4 0 [.int .i64 t1168, .int .i64 t1169, .slice Xo16 t1170.length ko16, .slice Xo17 t1173.length ko17, .slice Xo18 t1176.length ko18] HM rfl rfl ?_; clear HM; intro w19 HM))
  replace H := BN H; obtain ⟨t1181, A21, H⟩ := H
  replace H := BN H; obtain ⟨⟨t1184, t1185, t1186, t1189, t1192, t1195⟩, A22, H⟩ := H
  refine RGN 10 [0, 1, 2, 3, 4, 5, 6, 7, 8, 9] (fun a0 b a w' => ∃ (v1182 : Value) (v1187 : Value) (v1190 : Value) (v1193 : Value) (v1196 : Value) (gb1198 : Nat), a = putSel a0 b [(0, 27, .agg #[.int .i64 t1155, .int .i64 t1156, .slice Xo6 t1157.length ko6, .slice Xo7 t1160.length ko7, .slice Xo8 t1163.length ko8]), (1, 28, .slice A0 l0.length c0), (2, 29, v1182), (3, 30, .tuple #[.agg #[.int .i64 t1184, .int .i64 t1185, v1187, v1190, v1193], v1196]), (4, 26, .tuple #[.agg #[.int .i64 t1184, .int .i64 t1185, v1187, v1190, v1193], v1196]), (5, 31, .agg #[.int .i64 t1184, .int .i64 t1185, v1187, v1190, v1193]), (6, 32, v1196), (7, 6, .pointer (some ⟨gb1198, 0, none⟩)), (9, 7, v1196)] ∧ Mem w [] w' [rowR k60 60 (.slice Xo6 t1157.length ko6) t1157, rowR k60 60 (.slice Xo7 t1160.length ko7) t1160, row (Kd.int .i64) 3 (.slice Xo8 t1163.length ko8) t1163, box 26 gb1166 [.int .i64 t1155, .int .i64 t1156, .slice Xo6 t1157.length ko6, .slice Xo7 t1160.length ko7, .slice Xo8 t1163.length ko8], rowR k60 60 (.slice Xo16 t1170.length ko16) t1170, rowR k60 60 (.slice Xo17 t1173.length ko17) t1173, rowR (Kd.int .i64) 3 (.slice Xo18 t1176.length ko18) t1176, box 26 gb1180 [.int .i64 t1168, .int .i64 t1169, .slice Xo16 t1170.length ko16, .slice Xo17 t1173.length ko17, .slice Xo18 t1176.length ko18], sel (b 2) (rowR k52 52 v1182 t1181) (emp), sel (b 3) (rowR k60 60 v1187 t1186) (emp), sel (b 3) (rowR k60 60 v1190 t1189) (emp), sel (b 3) (rowR (Kd.int .i64) 3 v1193 t1192) (emp), sel (b 3) (rowR k54 54 v1196 t1195) (emp), sel (b 8) (box 26 gb1198 [.int .i64 t1184, .int .i64 t1185, v1187, v1190, v1193]) (sel (b 7) (box 26 gb1198 [.int .i64 0, .int .i64 0, .slice none 0 0, .slice none 0 0, .slice none 0 0]) (emp))]) laws_FnSave.tab7 laws_FnSave.bits7 ?_ ?_ ?_
  ·exact ⟨.bool false, .bool false, .bool false, .bool false, .bool false, 0, PS0' rfl _, (HM.drew.ems 6).pick [0, 1, 2, 3, 4, 5, 6, 7, 8, 9, 10, 11, 12, 13]⟩
  ·clear HM
   refine SZ ?_ ?_
   ·rintro b a w ⟨v1182, v1187, v1190, v1193, v1196, gb1198, ha, HM⟩ hb hon hoff K hK
    replace ha := Aside0.mk ha
    obtain ⟨_,_,_,_,_,_,_,_,_,_⟩ := bk5 (HM.bx 3 rfl)
    have e3 := PG ha 3
    exact VL (.agg #[.int .i64 t1155, .int .i64 t1156, .slice Xo6 t1157.length ko6, .slice Xo7 t1160.length ko7, .slice Xo8 t1163.length ko8]) (hK.out _ _ ⟨v1182, v1187, v1190, v1193, v1196, gb1198, PUT ha 0 hb, HM⟩)
   refine SZ ?_ ?_
   ·rintro b a w ⟨v1182, v1187, v1190, v1193, v1196, gb1198, ha, HM⟩ hb hon hoff K hK
    replace ha := Aside0.mk ha
    have e0 := PG ha 0
    exact VL (.slice A0 l0.length c0) (hK.out _ _ ⟨v1182, v1187, v1190, v1193, v1196, gb1198, PUT ha 1 hb, HM⟩)
   refine SZ ?_ ?_
   ·rintro b a w ⟨v1182, v1187, v1190, v1193, v1196, gb1198, ha, HM⟩ hb hon hoff K hK
    replace ha := Aside0.mk ha
    have e28 := PE ha 1 hon
    refine ST (eC (some 29) rfl #[.slice A0 l0.length c0, .int .i64 12] rfl Tryz.func8 (spec_MakeOps.calls k _ _ l0 12 t1181 _ (HM.came HR0.out) HC0.out A21.out) ?_ (hargs := by (simp only [List.map_toArray, List.map_cons, List.map_nil, evc, eval_of e28]) <;> rfl))
    rintro e w33 ⟨v1182, rfl, hR⟩
    refine ⟨_, rfl, ?_⟩
    replace HM := HM.call hR
    clear hR
    exact hK.out _ _ ⟨v1182, v1187, v1190, v1193, v1196, gb1198, PUT ha 2 hb, (HM).pick [0, 1, 2, 3, 4, 5, 6, 7, 14, 9, 10, 11, 12, 13]⟩
   refine SZ ?_ ?_
   ·rintro b a w ⟨v1182, v1187, v1190, v1193, v1196, gb1198, ha, HM⟩ hb hon hoff K hK
    replace ha := Aside0.mk ha
    replace HM := HM.sT 8 rfl (hon 2 rfl)
    obtain ⟨Xo35, ko35, rfl⟩ := HM.rdR 8 rfl
    have e27 := PE ha 0 hon
    have e29 := PE ha 2 hon
    refine ST (eC (some 30) rfl #[.agg #[.int .i64 t1155, .int .i64 t1156, .slice Xo6 t1157.length ko6, .slice Xo7 t1160.length ko7, .slice Xo8 t1163.length ko8], .slice Xo35 t1181.length ko35] rfl Tryz.func7 (impl_OpsDo.calls k t1155 t1156 _ _ t1157 _ _ t1160 _ _ t1163 _ _ t1181 t1184 t1185 t1186 t1189 t1192 t1195 _ (HM.CR 0 rfl).2.2 (HM.CR 0 rfl).2.1 (HM.CR 1 rfl).2.2 (HM.CR 1 rfl).2.1 (HM.C 2 rfl).2.2 (HM.C 2 rfl).2.1 (HM.CR 8 rfl).2.2 (HM.CR 8 rfl).2.1 A22.out) ?_ (hargs := by (simp only [List.map_toArray, List.map_cons, List.map_nil, evc, eval_of e27, eval_of e29]) <;> rfl))
    rintro e w34 ⟨v1187, v1190, v1193, v1196, rfl, hR⟩
    refine ⟨_, rfl, ?_⟩
    replace HM := HM.call hR
    clear hR
    exact hK.out _ _ ⟨.slice Xo35 t1181.length ko35, v1187, v1190, v1193, v1196, gb1198, PUT (PCH (PCH (PCH (PCH ha 4 (hoff 4 rfl)) 5 (hoff 5 rfl)) 6 (hoff 6 rfl)) 8 (hoff 9 rfl)) 3 hb, (((HM.iT 8 rfl (hon 2 rfl)).sF 13 rfl (hoff 8 rfl)).iF 13 rfl (hoff 8 rfl)).pick [0, 1, 2, 3, 4, 5, 6, 7, 8, 14, 15, 16, 17, 13]⟩
   refine SZ ?_ ?_
   ·rintro b a w ⟨v1182, v1187, v1190, v1193, v1196, gb1198, ha, HM⟩ hb hon hoff K hK
    replace ha := Aside0.mk ha
    have e30 := PE ha 3 hon
    exact VL (.tuple #[.agg #[.int .i64 t1184, .int .i64 t1185, v1187, v1190, v1193], v1196]) (hK.out _ _ ⟨v1182, v1187, v1190, v1193, v1196, gb1198, PUT ha 4 hb, HM⟩)
   refine SZ ?_ ?_
   ·rintro b a w ⟨v1182, v1187, v1190, v1193, v1196, gb1198, ha, HM⟩ hb hon hoff K hK
    replace ha := Aside0.mk ha
    have e26 := PE ha 4 hon
    exact VL (.agg #[.int .i64 t1184, .int .i64 t1185, v1187, v1190, v1193]) (hK.out _ _ ⟨v1182, v1187, v1190, v1193, v1196, gb1198, PUT ha 5 hb, HM⟩)
   refine SZ ?_ ?_
   ·rintro b a w ⟨v1182, v1187, v1190, v1193, v1196, gb1198, ha, HM⟩ hb hon hoff K hK
    replace ha := Aside0.mk ha
    have e26 := PE ha 4 hon
    exact VL (v1196) (hK.out _ _ ⟨v1182, v1187, v1190, v1193, v1196, gb1198, PUT ha 6 hb, HM⟩)
   refine SZ ?_ ?_
   ·rintro b a w ⟨v1182, v1187, v1190, v1193, v1196, gb1198, ha, HM⟩ hb hon hoff K hK
    replace ha := Aside0.mk ha
    refine ST (eB 6 26 [.int .i64 0, .int .i64 0, .slice none 0 0, .slice none 0 0, .slice none 0 0] HM rfl ?_)
    clear HM
    intro gb1198 w36 HM
    exact hK.out _ _ ⟨v1182, v1187, v1190, v1193, v1196, gb1198, PUT ha 7 hb, (HM.iF 14 rfl (hoff 8 rfl)).pick [0, 1, 2, 3, 4, 5, 6, 7, 8, 9, 10, 11, 12, 14]⟩
   refine SZ ?_ ?_
   ·rintro b a w ⟨v1182, v1187, v1190, v1193, v1196, gb1198, ha, HM⟩ hb hon hoff K hK
    replace ha := Aside0.mk ha
    replace HM := HM.sT 9 rfl (hon 3 rfl)
    replace HM := HM.sT 10 rfl (hon 3 rfl)
    replace HM := HM.sT 11 rfl (hon 3 rfl)
    replace HM := (HM.sF 13 rfl hb).sT 13 rfl (hon 7 rfl)
    obtain ⟨Xo37, ko37, rfl⟩ := HM.rdR 9 rfl
    obtain ⟨Xo38, ko38, rfl⟩ := HM.rdR 10 rfl
    obtain ⟨Xo39, ko39, rfl⟩ := HM.rdR 11 rfl
    have e6 := PE ha 7 hon
    have e31 := PE ha 5 hon
    refine ST (eS 13 6 0 [.int .i64 t1184, .int .i64 t1185, .slice Xo37 t1186.length ko37, .slice Xo38 t1189.length ko38, .slice Xo39 t1192.length ko39] HM rfl rfl ?_ (hp := (eval_of e6)) (hx := (by rw [eval_of e31]; rfl)))
    clear HM
    intro w40 HM
    exact hK.out _ _ ⟨v1182, .slice Xo37 t1186.length ko37, .slice Xo38 t1189.length ko38, .slice Xo39 t1192.length ko39, v1196, gb1198, PUS ha, (((HM.iT 9 rfl (hon 3 rfl)).iT 10 rfl (hon 3 rfl)).iT 11 rfl (hon 3 rfl)).pick [0, 1, 2, 3, 4, 5, 6, 7, 8, 9, 10, 11, 12, 13]⟩
   refine SZ ?_ ?_
   ·rintro b a w ⟨v1182, v1187, v1190, v1193, v1196, gb1198, ha, HM⟩ hb hon hoff K hK
    replace ha := Aside0.mk ha
    have e32 := PE ha 6 hon
    exact VL (v1196) (hK.out _ _ ⟨v1182, v1187, v1190, v1193, v1196, gb1198, PUT ha 8 hb, HM⟩)
   exact steps_nil
  rintro _ w41 ⟨v1182, v1187, v1190, v1193, v1196, gb1198, rfl, HM⟩
  replace HM := HM.sT 8 rfl rfl
  replace HM := HM.sT 9 rfl rfl
  replace HM := HM.sT 10 rfl rfl
  replace HM := HM.sT 11 rfl rfl
  replace HM := HM.sT 12 rfl rfl
  replace HM := HM.sT 13 rfl rfl
  simp only [putSel, if_true, Act.put, List.setIfInBounds_toArray, List.set_cons_zero, List.set_cons_succ, gt_iff_lt, ge_iff_le]
  try go_wp2
  replace H := BN H; obtain ⟨t1199, A42, H⟩ := H
  replace H := BN H; obtain ⟨⟨t1202, t1203, t1204, t1207, t1210, t1213⟩, A43, H⟩ := H
  refine RGN 10 [0, 1, 2, 3, 4, 5, 6, 7, 8, 9] (fun a0 b a w' => ∃ (v1200 : Value) (v1205 : Value) (v1208 : Value) (v1211 : Value) (v1214 : Value) (gb1216 : Nat), a = putSel a0 b [(0, 34, .agg #[.int .i64 t1168, .int .i64 t1169, .slice Xo16 t1170.length ko16, .slice Xo17 t1173.length ko17, .slice Xo18 t1176.length ko18]), (1, 35, .slice A0 l0.length c0), (2, 36, v1200), (3, 37, .tuple #[.agg #[.int .i64 t1202, .int .i64 t1203, v1205, v1208, v1211], v1214]), (4, 33, .tuple #[.agg #[.int .i64 t1202, .int .i64 t1203, v1205, v1208, v1211], v1214]), (5, 38, .agg #[.int .i64 t1202, .int .i64 t1203, v1205, v1208, v1211]), (6, 39, v1214), (7, 8, .pointer (some ⟨gb1216, 0, none⟩)), (9, 9, v1214)] ∧ Mem w [] w' [rowR k60 60 (.slice Xo6 t1157.length ko6) t1157, rowR k60 60 (.slice Xo7 t1160.length ko7) t1160, row (Kd.int .i64) 3 (.slice Xo8 t1163.length ko8) t1163, box 26 gb1166 [.int .i64 t1155, .int .i64 t1156, .slice Xo6 t1157.length ko6, .slice Xo7 t1160.length ko7, .slice Xo8 t1163.length ko8], rowR k60 60 (.slice Xo16 t1170.length ko16) t1170, rowR k60 60 (.slice Xo17 t1173.length ko17) t1173, rowR (Kd.int .i64) 3 (.slice Xo18 t1176.length ko18) t1176, box 26 gb1180 [.int .i64 t1168, .int .i64 t1169, .slice Xo16 t1170.length ko16, .slice Xo17 t1173.length ko17, .slice Xo18 t1176.length ko18], rowR k52 52 v1182 t1181, rowR k60 60 v1187 t1186, rowR k60 60 v1190 t1189, rowR (Kd.int .i64) 3 v1193 t1192, rowR k54 54 v1196 t1195, box 26 gb1198 [.int .i64 t1184, .int .i64 t1185, v1187, v1190, v1193], sel (b 2) (rowR k52 52 v1200 t1199) (emp), sel (b 3) (rowR k60 60 v1205 t1204) (emp), sel (b 3) (rowR k60 60 v1208 t1207) (emp), sel (b 3) (rowR (Kd.int .i64) 3 v1211 t1210) (emp), sel (b 3) (rowR k54 54 v1214 t1213) (emp), sel (b 8) (box 26 gb1216 [.int .i64 t1202, .int .i64 t1203, v1205, v1208, v1211]) (sel (b 7) (box 26 gb1216 [.int .i64 0, .int .i64 0, .slice none 0 0, .slice none 0 0, .slice none 0 0]) (emp))]) laws_FnSave.tab8 laws_FnSave.bits8 ?_ ?_ ?_
  ·exact ⟨.bool false, .bool false, .bool false, .bool false, .bool false, 0, PS0' rfl _, (HM.drew.ems 6).pick [0, 1, 2, 3, 4, 5, 6, 7, 8, 9, 10, 11, 12, 13, 14, 15, 16, 17, 18, 19]⟩
  ·clear HM
   refine SZ ?_ ?_
   ·rintro b a w ⟨v1200, v1205, v1208, v1211, v1214, gb1216, ha, HM⟩ hb hon hoff K hK
    replace ha := Aside0.mk ha
    obtain ⟨_,_,_,_,_,_,_,_,_,_⟩ := bk5 (HM.bx 7 rfl)
    have e4 := PG ha 4
    exact VL (.agg #[.int .i64 t1168, .int .i64 t1169, .slice Xo16 t1170.length ko16, .slice Xo17 t1173.length ko17, .slice Xo18 t1176.length ko18]) (hK.out _ _ ⟨v1200, v1205, v1208, v1211, v1214, gb1216, PUT ha 0 hb, HM⟩)
   refine SZ ?_ ?_
   ·rintro b a w ⟨v1200, v1205, v1208, v1211, v1214, gb1216, ha, HM⟩ hb hon hoff K hK
    replace ha := Aside0.mk ha
    have e0 := PG ha 0
    exact VL (.slice A0 l0.length c0) (hK.out _ _ ⟨v1200, v1205, v1208, v1211, v1214, gb1216, PUT ha 1 hb, HM⟩)
   refine SZ ?_ ?_
   ·rintro b a w ⟨v1200, v1205, v1208, v1211, v1214, gb1216, ha, HM⟩ hb hon hoff K hK
    replace ha := Aside0.mk ha
    have e35 := PE ha 1 hon
    refine ST (eC (some 36) rfl #[.slice A0 l0.length c0, .int .i64 12] rfl Tryz.func8 (spec_MakeOps.calls k _ _ l0 12 t1199 _ (HM.came HR0.out) HC0.out A42.out) ?_ (hargs := by (simp only [List.map_toArray, List.map_cons, List.map_nil, evc, eval_of e35]) <;> rfl))
    rintro e w54 ⟨v1200, rfl, hR⟩
    refine ⟨_, rfl, ?_⟩
    replace HM := HM.call hR
    clear hR
    exact hK.out _ _ ⟨v1200, v1205, v1208, v1211, v1214, gb1216, PUT ha 2 hb, (HM).pick [0, 1, 2, 3, 4, 5, 6, 7, 8, 9, 10, 11, 12, 13, 20, 15, 16, 17, 18, 19]⟩
   refine SZ ?_ ?_
   ·rintro b a w ⟨v1200, v1205, v1208, v1211, v1214, gb1216, ha, HM⟩ hb hon hoff K hK
    replace ha := Aside0.mk ha
    replace HM := HM.sT 14 rfl (hon 2 rfl)
    obtain ⟨Xo56, ko56, rfl⟩ := HM.rdR 14 rfl
    have e34 := PE ha 0 hon
    have e36 := PE ha 2 hon
    refine ST (eC (some 37) rfl #[.agg #[.int .i64 t1168, .int .i64 t1169, .slice Xo16 t1170.length ko16, .slice Xo17 t1173.length ko17, .slice Xo18 t1176.length ko18], .slice Xo56 t1199.length ko56] rfl Tryz.func7 (impl_OpsDo.calls k t1168 t1169 _ _ t1170 _ _ t1173 _ _ t1176 _ _ t1199 t1202 t1203 t1204 t1207 t1210 t1213 _ (HM.CR 4 rfl).2.2 (HM.CR 4 rfl).2.1 (HM.CR 5 rfl).2.2 (HM.CR 5 rfl).2.1 (HM.CR 6 rfl).2.2 (HM.CR 6 rfl).2.1 (HM.CR 14 rfl).2.2 (HM.CR 14 rfl).2.1 A43.out) ?_ (hargs := by (simp only [List.map_toArray, List.map_cons, List.map_nil, evc, eval_of e34, eval_of e36]) <;> rfl))
    rintro e w55 ⟨v1205, v1208, v1211, v1214, rfl, hR⟩
    refine ⟨_, rfl, ?_⟩
    replace HM := HM.call hR
    clear hR
    exact hK.out _ _ ⟨.slice Xo56 t1199.length ko56, v1205, v1208, v1211, v1214, gb1216, PUT (PCH (PCH (PCH (PCH ha 4 (hoff 4 rfl)) 5 (hoff 5 rfl)) 6 (hoff 6 rfl)) 8 (hoff 9 rfl)) 3 hb, (((HM.iT 14 rfl (hon 2 rfl)).sF 19 rfl (hoff 8 rfl)).iF 19 rfl (hoff 8 rfl)).pick [0, 1, 2, 3, 4, 5, 6, 7, 8, 9, 10, 11, 12, 13, 14, 20, 21, 22, 23, 19]⟩
   refine SZ ?_ ?_
   ·rintro b a w ⟨v1200, v1205, v1208, v1211, v1214, gb1216, ha, HM⟩ hb hon hoff K hK
    replace ha := Aside0.mk ha
    have e37 := PE ha 3 hon
    exact VL (.tuple #[.agg #[.int .i64 t1202, .int .i64 t1203, v1205, v1208, v1211], v1214]) (hK.out _ _ ⟨v1200, v1205, v1208, v1211, v1214, gb1216, PUT ha 4 hb, HM⟩)
   refine SZ ?_ ?_
   ·rintro b a w ⟨v1200, v1205, v1208, v1211, v1214, gb1216, ha, HM⟩ hb hon hoff K hK
    replace ha := Aside0.mk ha
    have e33 := PE ha 4 hon
    exact VL (.agg #[.int .i64 t1202, .int .i64 t1203, v1205, v1208, v1211]) (hK.out _ _ ⟨v1200, v1205, v1208, v1211, v1214, gb1216, PUT ha 5 hb, HM⟩)
   refine SZ ?_ ?_
   ·rintro b a w ⟨v1200, v1205, v1208, v1211, v1214, gb1216, ha, HM⟩ hb hon hoff K hK
    replace ha := Aside0.mk ha
    have e33 := PE ha 4 hon
    exact VL (v1214) (hK.out _ _ ⟨v1200, v1205, v1208, v1211, v1214, gb1216, PUT ha 6 hb, HM⟩)
   refine SZ ?_ ?_
   ·rintro b a w ⟨v1200, v1205, v1208, v1211, v1214, gb1216, ha, HM⟩ hb hon hoff K hK
    replace ha := Aside0.mk ha
    refine ST (eB 8 26 [.int .i64 0, .int .i64 0, .slice none 0 0, .slice none 0 0, .slice none 0 0] HM rfl ?_)
    clear HM
    intro gb1216 w57 HM
    exact hK.out _ _ ⟨v1200, v1205, v1208, v1211, v1214, gb1216, PUT ha 7 hb, (HM.iF 20 rfl (hoff 8 rfl)).pick [0, 1, 2, 3, 4, 5, 6, 7, 8, 9, 10, 11, 12, 13, 14, 15, 16, 17, 18, 20]⟩
   refine SZ ?_ ?_
   ·rintro b a w ⟨v1200, v1205, v1208, v1211, v1214, gb1216, ha, HM⟩ hb hon hoff K hK
    replace ha := Aside0.mk ha
    replace HM := HM.sT 15 rfl (hon 3 rfl)
    replace HM := HM.sT 16 rfl (hon 3 rfl)
    replace HM := HM.sT 17 rfl (hon 3 rfl)
    replace HM := (HM.sF 19 rfl hb).sT 19 rfl (hon 7 rfl)
    obtain ⟨Xo58, ko58, rfl⟩ := HM.rdR 15 rfl
    obtain ⟨Xo59, ko59, rfl⟩ := HM.rdR 16 rfl
    obtain ⟨Xo60, ko60, rfl⟩ := HM.rdR 17 rfl
    have e8 := PE ha 7 hon
    have e38 := PE ha 5 hon
    refine ST (eS 19 8 0 [.int .i64 t1202, .int .i64 t1203, .slice Xo58 t1204.length ko58, .slice Xo59 t1207.length ko59, .slice Xo60 t1210.length ko60] HM rfl rfl ?_ (hp := (eval_of e8)) (hx := (by rw [eval_of e38]; rfl)))
    clear HM
    intro w61 HM
    exact hK.out _ _ ⟨v1200, .slice Xo58 t1204.length ko58, .slice Xo59 t1207.length ko59, .slice Xo60 t1210.length ko60, v1214, gb1216, PUS ha, (((HM.iT 15 rfl (hon 3 rfl)).iT 16 rfl (hon 3 rfl)).iT 17 rfl (hon 3 rfl)).pick [0, 1, 2, 3, 4, 5, 6, 7, 8, 9, 10, 11, 12, 13, 14, 15, 16, 17, 18, 19]⟩
   refine SZ ?_ ?_
   ·rintro b a w ⟨v1200, v1205, v1208, v1211, v1214, gb1216, ha, HM⟩ hb hon hoff K hK
    replace ha := Aside0.mk ha
    have e39 := PE ha 6 hon
    exact VL (v1214) (hK.out _ _ ⟨v1200, v1205, v1208, v1211, v1214, gb1216, PUT ha 8 hb, HM⟩)
   exact steps_nil
  rintro _ w62 ⟨v1200, v1205, v1208, v1211, v1214, gb1216, rfl, HM⟩
  replace HM := HM.sT 14 rfl rfl
  replace HM := HM.sT 15 rfl rfl
  replace HM := HM.sT 16 rfl rfl
  replace HM := HM.sT 17 rfl rfl
  replace HM := HM.sT 18 rfl rfl
  replace HM := HM.sT 19 rfl rfl
  simp only [putSel, if_true, Act.put, List.setIfInBounds_toArray, List.set_cons_zero, List.set_cons_succ, gt_iff_lt, ge_iff_le]
  have HC63 := Aside0.mk H
  clear H
  go_upto_region 9 with (fail)
  go_cut [62] (fun v62 wc => ∃ (kq : Nat) (x62_62 : Bool), v62 = .bool x62_62 ∧ Aside0 (laws_FnSave.j0 kq x62_62 t1155 t1156 t1157 t1160 t1163 t1184 t1185 t1186 t1189 t1192 = some r) ∧ Aside0 (kq ≤ k) ∧ Mem w [] wc [rowR k60 60 (.slice Xo6 t1157.length ko6) t1157, rowR k60 60 (.slice Xo7 t1160.length ko7) t1160, row (Kd.int .i64) 3 (.slice Xo8 t1163.length ko8) t1163, rowR k60 60 v1187 t1186, rowR k60 60 v1190 t1189, rowR (Kd.int .i64) 3 v1193 t1192, box 26 gb1166 [.int .i64 t1155, .int .i64 t1156, (.slice Xo6 t1157.length ko6), (.slice Xo7 t1160.length ko7), (.slice Xo8 t1163.length ko8)], box 26 gb1198 [.int .i64 t1184, .int .i64 t1185, v1187, v1190, v1193]])
  case first =>
   have H := HC63.out
   clear HC63
   replace H := BN H; obtain ⟨t1217, A66, H⟩ := H
   replace H := IB H
   rcases H with ⟨c74, H⟩ | ⟨c74, H⟩
   ·subst c74
    replace H := BN H; obtain ⟨t1218, A75, H⟩ := H
    replace H := IB H
    rcases H with ⟨c79, H⟩ | ⟨c79, H⟩
    ·subst c79
     replace H := BN H; obtain ⟨t1219, A80, H⟩ := H
     replace H := IT H; rcases H with ⟨c83, H⟩ | ⟨c83, H⟩
     ·have c83b0 : ((t1195.length : Int) == (t1219.length : Int)) = true := beq_iff_eq.mpr c83
      have c83b1 : ((t1195.length : Int) != (t1219.length : Int)) = false := bne_eq_false_iff_eq.mpr c83
      have c83b2 : (t1195.length == t1219.length) = true := by first | simpa using c83 | (simp at c83 ⊢; omega)
      clear c83
      replace H := BN H; obtain ⟨t1222, A85, H⟩ := H
      have H' := Aside0.mk H
      clear H
      obtain ⟨_,_,_,_,_,_,_,_,_,_⟩ := bk5 (HM.bx 13 rfl)
      obtain ⟨_,_,_,_,_,_,_,_,_,_⟩ := bk5 (HM.bx 19 rfl)
      obtain ⟨Xo68, ko68, rfl⟩ := HM.rdR 9 rfl
      obtain ⟨Xo69, ko69, rfl⟩ := HM.rdR 10 rfl
      obtain ⟨Xo70, ko70, rfl⟩ := HM.rdR 11 rfl
      obtain ⟨Xo71, ko71, rfl⟩ := HM.rdR 15 rfl
      obtain ⟨Xo72, ko72, rfl⟩ := HM.rdR 16 rfl
      obtain ⟨Xo73, ko73, rfl⟩ := HM.rdR 17 rfl
      go_wp2_with (first | ((with_reducible refine gC 9 rfl ?_); refine pC (some 42) rfl #[.agg #[.int .i64 t1184, .int .i64 t1185, .slice Xo68 t1186.length ko68, .slice Xo69 t1189.length ko69, .slice Xo70 t1192.length ko70], .agg #[.int .i64 t1202, .int .i64 t1203, .slice Xo71 t1204.length ko71, .slice Xo72 t1207.length ko72, .slice Xo73 t1210.length ko73]] rfl Tryz.func9 (impl_Alike.calls k t1184 t1185 _ _ t1186 _ _ t1189 _ _ t1192 t1202 t1203 _ _ t1204 _ _ t1207 _ _ t1210 true _ (HM.CR 9 rfl).2.2 (HM.CR 9 rfl).2.1 (HM.CR 10 rfl).2.2 (HM.CR 10 rfl).2.1 (HM.CR 11 rfl).2.2 (HM.CR 11 rfl).2.1 (HM.CR 15 rfl).2.2 (HM.CR 15 rfl).2.1 (HM.CR 16 rfl).2.2 (HM.CR 16 rfl).2.1 (HM.CR 17 rfl).2.2 (HM.CR 17 rfl).2.1 A66.out) ?_; rintro e w67 ⟨rfl, hR⟩; refine ⟨_, rfl, ?_⟩; replace HM := HM.call hR; clear hR; obtain ⟨Xo77, ko77, rfl⟩ := HM.rdR 12 rfl; obtain ⟨Xo78, ko78, rfl⟩ := HM.rdR 18 rfl) | ((with_reducible refine gC 10 rfl ?_); refine pC (some 47) rfl #[.slice Xo77 t1195.length ko77, .slice Xo78 t1213.length ko78] rfl Tryz.func10 (impl_SameReplies.calls k _ _ t1195 _ _ t1213 true _ (HM.CR 12 rfl).2.2 (HM.CR 12 rfl).2.1 (HM.CR 18 rfl).2.2 (HM.CR 18 rfl).2.1 A75.out) ?_; rintro e w76 ⟨rfl, hd⟩; refine ⟨_, rfl, ?_⟩; replace HM := HM.drawn hd; clear hd) | ((with_reducible refine gC 8 rfl ?_); refine pC (some 54) rfl #[.slice A0 l0.length c0, .int .i64 12] rfl Tryz.func8 (spec_MakeOps.calls k _ _ l0 12 t1219 _ (HM.came HR0.out) HC0.out A80.out) ?_; rintro e w81 ⟨v1220, rfl, hR⟩; refine ⟨_, rfl, ?_⟩; replace HM := HM.call hR; clear hR; obtain ⟨Xo82, ko82, rfl⟩ := HM.rdR 20 rfl; obtain ⟨_,_,_,_,_,_,_,_,_,_⟩ := bk5 (HM.bx 13 rfl)) | ((with_reducible refine gC 11 rfl ?_); refine pC (some 60) rfl #[.agg #[.int .i64 t1184, .int .i64 t1185, .slice Xo68 t1186.length ko68, .slice Xo69 t1189.length ko69, .slice Xo70 t1192.length ko70]] rfl Tryz.func11 (impl_ThreeOk.calls k t1184 t1185 _ _ t1186 _ _ t1189 _ _ t1192 t1222 _ (HM.CR 9 rfl).2.2 (HM.CR 9 rfl).2.1 (HM.CR 10 rfl).2.2 (HM.CR 10 rfl).2.1 (HM.CR 11 rfl).2.2 (HM.CR 11 rfl).2.1 A85.out) ?_; rintro e w86 ⟨rfl, hR⟩; refine ⟨_, rfl, ?_⟩; replace HM := HM.call hR; clear hR))
      go_meet
      case rel => exact ⟨_, (!t1222), RS, H', ⟨by first | omega | exact Nat.le_refl _⟩, (MD HM).pick [0, 1, 2, 9, 10, 11, 3, 13]⟩
     ·have c83b0 : ((t1195.length : Int) == (t1219.length : Int)) = false := beq_eq_false_iff_ne.mpr c83
      have c83b1 : ((t1195.length : Int) != (t1219.length : Int)) = true := bne_iff_ne.mpr c83
      have c83b2 : (t1195.length == t1219.length) = false := by first | simpa using c83 | (simp at c83 ⊢; omega)
      have H' := Aside0.mk H
      clear H
      obtain ⟨_,_,_,_,_,_,_,_,_,_⟩ := bk5 (HM.bx 13 rfl)
      obtain ⟨_,_,_,_,_,_,_,_,_,_⟩ := bk5 (HM.bx 19 rfl)
      obtain ⟨Xo68, ko68, rfl⟩ := HM.rdR 9 rfl
      obtain ⟨Xo69, ko69, rfl⟩ := HM.rdR 10 rfl
      obtain ⟨Xo70, ko70, rfl⟩ := HM.rdR 11 rfl
      obtain ⟨Xo71, ko71, rfl⟩ := HM.rdR 15 rfl
      obtain ⟨Xo72, ko72, rfl⟩ := HM.rdR 16 rfl
      obtain ⟨Xo73, ko73, rfl⟩ := HM.rdR 17 rfl
      go_wp2_with (first | ((with_reducible refine gC 9 rfl ?_); refine pC (some 42) rfl #[.agg #[.int .i64 t1184, .int .i64 t1185, .slice Xo68 t1186.length ko68, .slice Xo69 t1189.length ko69, .slice Xo70 t1192.length ko70], .agg #[.int .i64 t1202, .int .i64 t1203, .slice Xo71 t1204.length ko71, .slice Xo72 t1207.length ko72, .slice Xo73 t1210.length ko73]] rfl Tryz.func9 (impl_Alike.calls k t1184 t1185 _ _ t1186 _ _ t1189 _ _ t1192 t1202 t1203 _ _ t1204 _ _ t1207 _ _ t1210 true _ (HM.CR 9 rfl).2.2 (HM.CR 9 rfl).2.1 (HM.CR 10 rfl).2.2 (HM.CR 10 rfl).2.1 (HM.CR 11 rfl).2.2 (HM.CR 11 rfl).2.1 (HM.CR 15 rfl).2.2 (HM.CR 15 rfl).2.1 (HM.CR 16 rfl).2.2 (HM.CR 16 rfl).2.1 (HM.CR 17 rfl).2.2 (HM.CR 17 rfl).2.1 A66.out) ?_; rintro e w67 ⟨rfl, hR⟩; refine ⟨_, rfl, ?_⟩; replace HM := HM.call hR; clear hR; obtain ⟨Xo77, ko77, rfl⟩ := HM.rdR 12 rfl; obtain ⟨Xo78, ko78, rfl⟩ := HM.rdR 18 rfl) | ((with_reducible refine gC 10 rfl ?_); refine pC (some 47) rfl #[.slice Xo77 t1195.length ko77, .slice Xo78 t1213.length ko78] rfl Tryz.func10 (impl_SameReplies.calls k _ _ t1195 _ _ t1213 true _ (HM.CR 12 rfl).2.2 (HM.CR 12 rfl).2.1 (HM.CR 18 rfl).2.2 (HM.CR 18 rfl).2.1 A75.out) ?_; rintro e w76 ⟨rfl, hd⟩; refine ⟨_, rfl, ?_⟩; replace HM := HM.drawn hd; clear hd) | ((with_reducible refine gC 8 rfl ?_); refine pC (some 54) rfl #[.slice A0 l0.length c0, .int .i64 12] rfl Tryz.func8 (spec_MakeOps.calls k _ _ l0 12 t1219 _ (HM.came HR0.out) HC0.out A80.out) ?_; rintro e w81 ⟨v1220, rfl, hR⟩; refine ⟨_, rfl, ?_⟩; replace HM := HM.call hR; clear hR; obtain ⟨Xo82, ko82, rfl⟩ := HM.rdR 20 rfl))
      go_meet
      case rel => exact ⟨_, (true), RS, H', ⟨by first | omega | exact Nat.le_refl _⟩, (MD HM).pick [0, 1, 2, 9, 10, 11, 3, 13]⟩
    ·subst c79
     have H' := Aside0.mk H
     clear H
     obtain ⟨_,_,_,_,_,_,_,_,_,_⟩ := bk5 (HM.bx 13 rfl)
     obtain ⟨_,_,_,_,_,_,_,_,_,_⟩ := bk5 (HM.bx 19 rfl)
     obtain ⟨Xo68, ko68, rfl⟩ := HM.rdR 9 rfl
     obtain ⟨Xo69, ko69, rfl⟩ := HM.rdR 10 rfl
     obtain ⟨Xo70, ko70, rfl⟩ := HM.rdR 11 rfl
     obtain ⟨Xo71, ko71, rfl⟩ := HM.rdR 15 rfl
     obtain ⟨Xo72, ko72, rfl⟩ := HM.rdR 16 rfl
     obtain ⟨Xo73, ko73, rfl⟩ := HM.rdR 17 rfl
     go_wp2_with (first | ((with_reducible refine gC 9 rfl ?_); refine pC (some 42) rfl #[.agg #[.int .i64 t1184, .int .i64 t1185, .slice Xo68 t1186.length ko68, .slice Xo69 t1189.length ko69, .slice Xo70 t1192.length ko70], .agg #[.int .i64 t1202, .int .i64 t1203, .slice Xo71 t1204.length ko71, .slice Xo72 t1207.length ko72, .slice Xo73 t1210.length ko73]] rfl Tryz.func9 (impl_Alike.calls k t1184 t1185 _ _ t1186 _ _ t1189 _ _ t1192 t1202 t1203 _ _ t1204 _ _ t1207 _ _ t1210 true _ (HM.CR 9 rfl).2.2 (HM.CR 9 rfl).2.1 (HM.CR 10 rfl).2.2 (HM.CR 10 rfl).2.1 (HM.CR 11 rfl).2.2 (HM.CR 11 rfl).2.1 (HM.CR 15 rfl).2.2 (HM.CR 15 rfl).2.1 (HM.CR 16 rfl).2.2 (HM.CR 16 rfl).2.1 (HM.CR 17 rfl).2.2 (HM.CR 17 rfl).2.1 A66.out) ?_; rintro e w67 ⟨rfl, hR⟩; refine ⟨_, rfl, ?_⟩; replace HM := HM.call hR; clear hR; obtain ⟨Xo77, ko77, rfl⟩ := HM.rdR 12 rfl; obtain ⟨Xo78, ko78, rfl⟩ := HM.rdR 18 rfl) | ((with_reducible refine gC 10 rfl ?_); refine pC (some 47) rfl #[.slice Xo77 t1195.length ko77, .slice Xo78 t1213.length ko78] rfl Tryz.func10 (impl_SameReplies.calls k _ _ t1195 _ _ t1213 false _ (HM.CR 12 rfl).2.2 (HM.CR 12 rfl).2.1 (HM.CR 18 rfl).2.2 (HM.CR 18 rfl).2.1 A75.out) ?_; rintro e w76 ⟨rfl, hd⟩; refine ⟨_, rfl, ?_⟩; replace HM := HM.drawn hd; clear hd))
     go_meet
     case rel => exact ⟨_, (true), RS, H', ⟨by first | omega | exact Nat.le_refl _⟩, (MD HM).pick [0, 1, 2, 9, 10, 11, 3, 13]⟩
   ·subst c74
    have H' := Aside0.mk H
    clear H
    obtain ⟨_,_,_,_,_,_,_,_,_,_⟩ := bk5 (HM.bx 13 rfl)
    obtain ⟨_,_,_,_,_,_,_,_,_,_⟩ := bk5 (HM.bx 19 rfl)
    obtain ⟨Xo68, ko68, rfl⟩ := HM.rdR 9 rfl
    obtain ⟨Xo69, ko69, rfl⟩ := HM.rdR 10 rfl
    obtain ⟨Xo70, ko70, rfl⟩ := HM.rdR 11 rfl
    obtain ⟨Xo71, ko71, rfl⟩ := HM.rdR 15 rfl
    obtain ⟨Xo72, ko72, rfl⟩ := HM.rdR 16 rfl
    obtain ⟨Xo73, ko73, rfl⟩ := HM.rdR 17 rfl
    go_wp2_with (first | ((with_reducible refine gC 9 rfl ?_); refine pC (some 42) rfl #[.agg #[.int .i64 t1184, .int .i64 t1185, .slice Xo68 t1186.length ko68, .slice Xo69 t1189.length ko69, .slice Xo70 t1192.length ko70], .agg #[.int .i64 t1202, .int .i64 t1203, .slice Xo71 t1204.length ko71, .slice Xo72 t1207.length ko72, .slice Xo73 t1210.length ko73]] rfl Tryz.func9 (impl_Alike.calls k t1184 t1185 _ _ t1186 _ _ t1189 _ _ t1192 t1202 t1203 _ _ t1204 _ _ t1207 _ _ t1210 false _ (HM.CR 9 rfl).2.2 (HM.CR 9 rfl).2.1 (HM.CR 10 rfl).2.2 (HM.CR 10 rfl).2.1 (HM.CR 11 rfl).2.2 (HM.CR 11 rfl).2.1 (HM.CR 15 rfl).2.2 (HM.CR 15 rfl).2.1 (HM.CR 16 rfl).2.2 (HM.CR 16 rfl).2.1 (HM.CR 17 rfl).2.2 (HM.CR 17 rfl).2.1 A66.out) ?_; rintro e w67 ⟨rfl, hR⟩; refine ⟨_, rfl, ?_⟩; replace HM := HM.call hR; clear hR))
    go_meet
    case rel => exact ⟨_, (true), RS, H', ⟨by first | omega | exact Nat.le_refl _⟩, (MD HM).pick [0, 1, 2, 9, 10, 11, 3, 13]⟩
  case rest =>
   clear HC63 HM
   obtain ⟨kq, x62_62, rfl, HA, HJ62, HM⟩ := hcut
   cases kq with
   | zero => exact absurd HA.out (by simp [laws_FnSave.j0])
   | succ kj62 =>
    have H := HA.out
    clear HA
    simp only [laws_FnSave.j0] at H
    replace H := GN H
    obtain ⟨c87, H⟩ := H
    replace c87 := Bool.eq_false_iff.mpr c87
    subst c87
    replace H := BN H; obtain ⟨⟨t1223, t1224, t1225, t1228, t1231, t1234⟩, A89, H⟩ := H
    obtain ⟨_,_,_,_,_,_,_,_,_,_⟩ := bk5 (HM.bx 7 rfl)
    obtain ⟨Xo91, ko91, rfl⟩ := HM.rdR 3 rfl
    obtain ⟨Xo92, ko92, rfl⟩ := HM.rdR 4 rfl
    obtain ⟨Xo93, ko93, rfl⟩ := HM.rdR 5 rfl
    try go_wp2_with (first | ((with_reducible refine gC 5 rfl ?_); refine pC (some 65) rfl #[.string (⟨#[116, 104, 114, 101, 101, 32, 48, 32, 48, 10]⟩ : ByteArray), .agg #[.int .i64 t1184, .int .i64 t1185, .slice Xo91 t1186.length ko91, .slice Xo92 t1189.length ko92, .slice Xo93 t1192.length ko93]] rfl Tryz.func5 (impl_Mend.calls kj62 (⟨#[116, 104, 114, 101, 101, 32, 48, 32, 48, 10]⟩ : ByteArray) t1184 t1185 _ _ t1186 _ _ t1189 _ _ t1192 t1223 t1224 t1225 t1228 t1231 t1234 _ (HM.CR 3 rfl).2.2 (HM.CR 3 rfl).2.1 (HM.CR 4 rfl).2.2 (HM.CR 4 rfl).2.1 (HM.CR 5 rfl).2.2 (HM.CR 5 rfl).2.1 A89.out) ?_; rintro e w90 ⟨v1226, v1229, v1232, rfl, hR⟩; refine ⟨_, rfl, ?_⟩; replace HM := HM.call hR; clear hR) | ((with_reducible refine gN 10 rfl ?_); refine pB 10 26 [.int .i64 0, .int .i64 0, .slice none 0 0, .slice none 0 0, .slice none 0 0] HM rfl ?_; clear HM; intro gb1235 w94 HM; obtain ⟨Xo95, ko95, rfl⟩ := HM.rdR 8 rfl; obtain ⟨Xo96, ko96, rfl⟩ := HM.rdR 9 rfl; obtain ⟨Xo97, ko97, rfl⟩ := HM.rdR 10 rfl) | ((with_reducible refine gS 10 rfl ?_); refine pS 11 10 0 [.int .i64 t1223, .int .i64 t1224, .slice Xo95 t1225.length ko95, .slice Xo96 t1228.length ko96, .slice Xo97 t1231.length ko97] HM rfl rfl ?_; clear HM; intro w98 HM))
    replace H := IB H
    rcases H with ⟨c99, H⟩ | ⟨c99, H⟩
    ·subst c99
     refine RGN 26 [0, 1, 2, 3, 4, 5, 6, 7, 8, 9, 10, 11, 12, 13, 14, 15, 16, 17, 18, 19, 20, 21, 22, 23, 24, 25] (fun a0 b a w' => a = putSel a0 b [(0, 68, .bool true), (1, 69, .bool (!true)), (2, 70, .bool (!true)), (3, 71, undef), (4, 72, undef), (5, 73, undef), (6, 74, .bool false), (7, 75, .bool false), (8, 76, undef), (9, 77, undef), (10, 78, undef), (11, 79, undef), (12, 80, undef), (13, 81, .bool false), (14, 82, .bool false), (15, 83, undef), (16, 84, undef), (17, 85, undef), (18, 86, undef), (19, 87, undef), (20, 88, undef), (21, 89, undef), (22, 90, undef), (23, 91, undef), (24, 92, .bool false), (25, 2, .bool false)] ∧ Mem w [] w' [rowR k60 60 (.slice Xo6 t1157.length ko6) t1157, rowR k60 60 (.slice Xo7 t1160.length ko7) t1160, row (Kd.int .i64) 3 (.slice Xo8 t1163.length ko8) t1163, rowR k60 60 (.slice Xo91 t1186.length ko91) t1186, rowR k60 60 (.slice Xo92 t1189.length ko92) t1189, rowR (Kd.int .i64) 3 (.slice Xo93 t1192.length ko93) t1192, box 26 gb1166 [.int .i64 t1155, .int .i64 t1156, .slice Xo6 t1157.length ko6, .slice Xo7 t1160.length ko7, .slice Xo8 t1163.length ko8], box 26 gb1198 [.int .i64 t1184, .int .i64 t1185, .slice Xo91 t1186.length ko91, .slice Xo92 t1189.length ko92, .slice Xo93 t1192.length ko93], rowR k60 60 (.slice Xo95 t1225.length ko95) t1225, rowR k60 60 (.slice Xo96 t1228.length ko96) t1228, rowR (Kd.int .i64) 3 (.slice Xo97 t1231.length ko97) t1231, box 26 gb1235 [.int .i64 t1223, .int .i64 t1224, .slice Xo95 t1225.length ko95, .slice Xo96 t1228.length ko96, .slice Xo97 t1231.length ko97]]) laws_FnSave.tab12 laws_FnSave.bits12 ?_ ?_ ?_
     ·exact ⟨PS0' rfl _, (HM.drew).pick [0, 1, 2, 3, 4, 5, 6, 7, 8, 9, 10, 11]⟩
     ·clear HM
      refine SY ?_ ?_
      ·intro b a w ha HM hb hon hoff K hK
       have e11 := PG ha 11
       exact VL (.bool true) (hK.out _ _ ⟨PUT ha 0 hb, HM⟩)
      refine SY ?_ ?_
      ·intro b a w ha HM hb hon hoff K hK
       have e68 := PE ha 0 hon
       exact VL (.bool (!true)) (hK.out _ _ ⟨PUT ha 1 hb, HM⟩)
      refine SY ?_ ?_
      ·intro b a w ha HM hb hon hoff K hK
       have e69 := PE ha 1 hon
       exact VL (.bool (!true)) (hK.out _ _ ⟨PUT ha 2 hb, HM⟩)
      refine SY ?_ ?_
      ·intro b a w ha HM hb hon hoff K hK
       have e70 := PE ha 2 hon
       exact VN ( wanted_off rfl rfl rfl (e70.trans (by first | rfl | (simp [*]; done)))) (hK.out _ _ ⟨PUT ha 3 hb, HM⟩)
      refine SY ?_ ?_
      ·intro b a w ha HM hb hon hoff K hK
       have e70 := PE ha 2 hon
       exact VN ( wanted_off rfl rfl rfl (e70.trans (by first | rfl | (simp [*]; done)))) (hK.out _ _ ⟨PUT ha 4 hb, HM⟩)
      refine SY ?_ ?_
      ·intro b a w ha HM hb hon hoff K hK
       have e70 := PE ha 2 hon
       exact VN ( wanted_off rfl rfl rfl (e70.trans (by first | rfl | (simp [*]; done)))) (hK.out _ _ ⟨PUT ha 5 hb, HM⟩)
      refine SY ?_ ?_
      ·intro b a w ha HM hb hon hoff K hK
       have e70 := PE ha 2 hon
       have e73 := PE ha 5 hon
       exact VL (.bool false) (hK.out _ _ ⟨PUT ha 6 hb, HM⟩)
      refine SY ?_ ?_
      ·intro b a w ha HM hb hon hoff K hK
       have e74 := PE ha 6 hon
       exact VL (.bool false) (hK.out _ _ ⟨PUT ha 7 hb, HM⟩)
      refine SY ?_ ?_
      ·intro b a w ha HM hb hon hoff K hK
       have e75 := PE ha 7 hon
       exact VN ( wanted_off rfl rfl rfl (e75.trans (by first | rfl | (simp [*]; done)))) (hK.out _ _ ⟨PUT ha 8 hb, HM⟩)
      refine SY ?_ ?_
      ·intro b a w ha HM hb hon hoff K hK
       have e75 := PE ha 7 hon
       exact VN ( wanted_off rfl rfl rfl (e75.trans (by first | rfl | (simp [*]; done)))) (hK.out _ _ ⟨PUT ha 9 hb, HM⟩)
      refine SY ?_ ?_
      ·intro b a w ha HM hb hon hoff K hK
       have e75 := PE ha 7 hon
       exact VN ( wanted_off rfl rfl rfl (e75.trans (by first | rfl | (simp [*]; done)))) (hK.out _ _ ⟨PUT ha 10 hb, HM⟩)
      refine SY ?_ ?_
      ·intro b a w ha HM hb hon hoff K hK
       have e75 := PE ha 7 hon
       exact VN ( wanted_off rfl rfl rfl (e75.trans (by first | rfl | (simp [*]; done)))) (hK.out _ _ ⟨PUT ha 11 hb, HM⟩)
      refine SY ?_ ?_
      ·intro b a w ha HM hb hon hoff K hK
       have e75 := PE ha 7 hon
       exact VN ( wanted_off rfl rfl rfl (e75.trans (by first | rfl | (simp [*]; done)))) (hK.out _ _ ⟨PUT ha 12 hb, HM⟩)
      refine SY ?_ ?_
      ·intro b a w ha HM hb hon hoff K hK
       have e75 := PE ha 7 hon
       have e80 := PE ha 12 hon
       exact VL (.bool false) (hK.out _ _ ⟨PUT ha 13 hb, HM⟩)
      refine SY ?_ ?_
      ·intro b a w ha HM hb hon hoff K hK
       have e81 := PE ha 13 hon
       exact VL (.bool false) (hK.out _ _ ⟨PUT ha 14 hb, HM⟩)
      refine SY ?_ ?_
      ·intro b a w ha HM hb hon hoff K hK
       have e82 := PE ha 14 hon
       exact VN ( wanted_off rfl rfl rfl (e82.trans (by first | rfl | (simp [*]; done)))) (hK.out _ _ ⟨PUT ha 15 hb, HM⟩)
      refine SY ?_ ?_
      ·intro b a w ha HM hb hon hoff K hK
       have e82 := PE ha 14 hon
       exact VN ( wanted_off rfl rfl rfl (e82.trans (by first | rfl | (simp [*]; done)))) (hK.out _ _ ⟨PUT ha 16 hb, HM⟩)
      refine SY ?_ ?_
      ·intro b a w ha HM hb hon hoff K hK
       have e82 := PE ha 14 hon
       exact VN ( wanted_off rfl rfl rfl (e82.trans (by first | rfl | (simp [*]; done)))) (hK.out _ _ ⟨PUT ha 17 hb, HM⟩)
      refine SY ?_ ?_
      ·intro b a w ha HM hb hon hoff K hK
       have e82 := PE ha 14 hon
       exact VN ( wanted_off rfl rfl rfl (e82.trans (by first | rfl | (simp [*]; done)))) (hK.out _ _ ⟨PUT ha 18 hb, HM⟩)
      refine SY ?_ ?_
      ·intro b a w ha HM hb hon hoff K hK
       have e82 := PE ha 14 hon
       exact VN ( wanted_off rfl rfl rfl (e82.trans (by first | rfl | (simp [*]; done)))) (hK.out _ _ ⟨PUT ha 19 hb, HM⟩)
      refine SY ?_ ?_
      ·intro b a w ha HM hb hon hoff K hK
       have e82 := PE ha 14 hon
       exact VN ( wanted_off rfl rfl rfl (e82.trans (by first | rfl | (simp [*]; done)))) (hK.out _ _ ⟨PUT ha 20 hb, HM⟩)
      refine SY ?_ ?_
      ·intro b a w ha HM hb hon hoff K hK
       have e82 := PE ha 14 hon
       exact VN ( wanted_off rfl rfl rfl (e82.trans (by first | rfl | (simp [*]; done)))) (hK.out _ _ ⟨PUT ha 21 hb, HM⟩)
      refine SY ?_ ?_
      ·intro b a w ha HM hb hon hoff K hK
       have e82 := PE ha 14 hon
       exact VN ( wanted_off rfl rfl rfl (e82.trans (by first | rfl | (simp [*]; done)))) (hK.out _ _ ⟨PUT ha 22 hb, HM⟩)
      refine SY ?_ ?_
      ·intro b a w ha HM hb hon hoff K hK
       have e82 := PE ha 14 hon
       exact VN ( wanted_off rfl rfl rfl (e82.trans (by first | rfl | (simp [*]; done)))) (hK.out _ _ ⟨PUT ha 23 hb, HM⟩)
      refine SY ?_ ?_
      ·intro b a w ha HM hb hon hoff K hK
       have e82 := PE ha 14 hon
       have e91 := PE ha 23 hon
       exact VL (.bool false) (hK.out _ _ ⟨PUT ha 24 hb, HM⟩)
      refine SY ?_ ?_
      ·intro b a w ha HM hb hon hoff K hK
       have e92 := PE ha 24 hon
       exact VL (.bool false) (hK.out _ _ ⟨PUT ha 25 hb, HM⟩)
      exact steps_nil
     rintro _ w100 ⟨rfl, HM⟩
     simp only [putSel, if_true, Act.put, List.setIfInBounds_toArray, List.set_cons_zero, List.set_cons_succ, gt_iff_lt, ge_iff_le]
     exact absurd H (by simp)
    ·subst c99
     replace H := BN H; obtain ⟨t1236, A101, H⟩ := H
     replace H := IB H
     rcases H with ⟨c102, H⟩ | ⟨c102, H⟩
     ·subst c102
      replace H := BN H; obtain ⟨t1237, A103, H⟩ := H
      replace H := BN H; obtain ⟨t1238, A104, H⟩ := H
      replace H := IT H; rcases H with ⟨c105, H⟩ | ⟨c105, H⟩
      ·have c105b0 : (t1237.toList == t1238.toList) = true := beq_iff_eq.mpr c105
       have c105b1 : (t1237.toList != t1238.toList) = false := bne_eq_false_iff_eq.mpr c105
       clear c105
       replace H := BN H; obtain ⟨t1239, A106, H⟩ := H
       replace H := BN H; obtain ⟨t1240, A107, H⟩ := H
       replace H := BN H; obtain ⟨t1241, A108, H⟩ := H
       refine RGN 26 [0, 1, 2, 3, 4, 5, 6, 7, 8, 9, 10, 11, 12, 13, 14, 15, 16, 17, 18, 19, 20, 21, 22, 23, 24, 25] (fun a0 b a w' => a = putSel a0 b [(0, 68, .bool false), (1, 69, .bool (!false)), (2, 70, .bool (!false)), (3, 71, .agg #[.int .i64 t1223, .int .i64 t1224, .slice Xo95 t1225.length ko95, .slice Xo96 t1228.length ko96, .slice Xo97 t1231.length ko97]), (4, 72, .agg #[.int .i64 t1184, .int .i64 t1185, .slice Xo91 t1186.length ko91, .slice Xo92 t1189.length ko92, .slice Xo93 t1192.length ko93]), (5, 73, .bool true), (6, 74, .bool true), (7, 75, .bool true), (8, 76, .agg #[.int .i64 t1223, .int .i64 t1224, .slice Xo95 t1225.length ko95, .slice Xo96 t1228.length ko96, .slice Xo97 t1231.length ko97]), (9, 77, .string t1237), (10, 78, .agg #[.int .i64 t1184, .int .i64 t1185, .slice Xo91 t1186.length ko91, .slice Xo92 t1189.length ko92, .slice Xo93 t1192.length ko93]), (11, 79, .string t1238), (12, 80, .bool (t1237.toList == t1238.toList)), (13, 81, .bool (t1237.toList == t1238.toList)), (14, 82, .bool (t1237.toList == t1238.toList)), (15, 83, .agg #[.int .i64 t1155, .int .i64 t1156, .slice Xo6 t1157.length ko6, .slice Xo7 t1160.length ko7, .slice Xo8 t1163.length ko8]), (16, 84, .string t1239), (17, 85, .agg #[.int .i64 t1184, .int .i64 t1185, .slice Xo91 t1186.length ko91, .slice Xo92 t1189.length ko92, .slice Xo93 t1192.length ko93]), (18, 86, .string t1240), (19, 87, .bool (t1239.toList == t1240.toList)), (20, 88, .agg #[.int .i64 t1155, .int .i64 t1156, .slice Xo6 t1157.length ko6, .slice Xo7 t1160.length ko7, .slice Xo8 t1163.length ko8]), (21, 89, .agg #[.int .i64 t1184, .int .i64 t1185, .slice Xo91 t1186.length ko91, .slice Xo92 t1189.length ko92, .slice Xo93 t1192.length ko93]), (22, 90, .bool t1241), (23, 91, .bool ((t1239.toList == t1240.toList) == t1241)), (24, 92, .bool ((t1239.toList == t1240.toList) == t1241)), (25, 2, .bool ((t1239.toList == t1240.toList) == t1241))] ∧ Mem w [] w' [rowR k60 60 (.slice Xo6 t1157.length ko6) t1157, rowR k60 60 (.slice Xo7 t1160.length ko7) t1160, row (Kd.int .i64) 3 (.slice Xo8 t1163.length ko8) t1163, rowR k60 60 (.slice Xo91 t1186.length ko91) t1186, rowR k60 60 (.slice Xo92 t1189.length ko92) t1189, rowR (Kd.int .i64) 3 (.slice Xo93 t1192.length ko93) t1192, box 26 gb1166 [.int .i64 t1155, .int .i64 t1156, .slice Xo6 t1157.length ko6, .slice Xo7 t1160.length ko7, .slice Xo8 t1163.length ko8], box 26 gb1198 [.int .i64 t1184, .int .i64 t1185, .slice Xo91 t1186.length ko91, .slice Xo92 t1189.length ko92, .slice Xo93 t1192.length ko93], rowR k60 60 (.slice Xo95 t1225.length ko95) t1225, rowR k60 60 (.slice Xo96 t1228.length ko96) t1228, rowR (Kd.int .i64) 3 (.slice Xo97 t1231.length ko97) t1231, box 26 gb1235 [.int .i64 t1223, .int .i64 t1224, .slice Xo95 t1225.length ko95, .slice Xo96 t1228.length ko96, .slice Xo97 t1231.length ko97]]) laws_FnSave.tab12 laws_FnSave.bits12 ?_ ?_ ?_
       ·exact ⟨PS0' rfl _, (HM.drew).pick [0, 1, 2, 3, 4, 5, 6, 7, 8, 9, 10, 11]⟩
       ·clear HM
        refine SY ?_ ?_
        ·intro b a w ha HM hb hon hoff K hK
         have e11 := PG ha 11
         exact VL (.bool false) (hK.out _ _ ⟨PUT ha 0 hb, HM⟩)
        refine SY ?_ ?_
        ·intro b a w ha HM hb hon hoff K hK
         have e68 := PE ha 0 hon
         exact VL (.bool (!false)) (hK.out _ _ ⟨PUT ha 1 hb, HM⟩)
        refine SY ?_ ?_
        ·intro b a w ha HM hb hon hoff K hK
         have e69 := PE ha 1 hon
         exact VL (.bool (!false)) (hK.out _ _ ⟨PUT ha 2 hb, HM⟩)
        refine SY ?_ ?_
        ·intro b a w ha HM hb hon hoff K hK
         obtain ⟨_,_,_,_,_,_,_,_,_,_⟩ := bk5 (HM.bx 11 rfl)
         have e10 := PG ha 10
         have e70 := PE ha 2 hon
         exact VL (.agg #[.int .i64 t1223, .int .i64 t1224, .slice Xo95 t1225.length ko95, .slice Xo96 t1228.length ko96, .slice Xo97 t1231.length ko97]) (hK.out _ _ ⟨PUT ha 3 hb, HM⟩) (hw := wanted_on rfl rfl rfl (e70.trans (by first | rfl | (simp [*]; done))))
        refine SY ?_ ?_
        ·intro b a w ha HM hb hon hoff K hK
         obtain ⟨_,_,_,_,_,_,_,_,_,_⟩ := bk5 (HM.bx 7 rfl)
         have e6 := PG ha 6
         have e70 := PE ha 2 hon
         exact VL (.agg #[.int .i64 t1184, .int .i64 t1185, .slice Xo91 t1186.length ko91, .slice Xo92 t1189.length ko92, .slice Xo93 t1192.length ko93]) (hK.out _ _ ⟨PUT ha 4 hb, HM⟩) (hw := wanted_on rfl rfl rfl (e70.trans (by first | rfl | (simp [*]; done))))
        refine SY ?_ ?_
        ·intro b a w ha HM hb hon hoff K hK
         have e71 := PE ha 3 hon
         have e72 := PE ha 4 hon
         have e70 := PE ha 2 hon
         refine ST (eC (some 73) rfl #[.agg #[.int .i64 t1223, .int .i64 t1224, .slice Xo95 t1225.length ko95, .slice Xo96 t1228.length ko96, .slice Xo97 t1231.length ko97], .agg #[.int .i64 t1184, .int .i64 t1185, .slice Xo91 t1186.length ko91, .slice Xo92 t1189.length ko92, .slice Xo93 t1192.length ko93]] rfl Tryz.func9 (impl_Alike.calls kj62 t1223 t1224 _ _ t1225 _ _ t1228 _ _ t1231 t1184 t1185 _ _ t1186 _ _ t1189 _ _ t1192 true _ (HM.CR 8 rfl).2.2 (HM.CR 8 rfl).2.1 (HM.CR 9 rfl).2.2 (HM.CR 9 rfl).2.1 (HM.CR 10 rfl).2.2 (HM.CR 10 rfl).2.1 (HM.CR 3 rfl).2.2 (HM.CR 3 rfl).2.1 (HM.CR 4 rfl).2.2 (HM.CR 4 rfl).2.1 (HM.CR 5 rfl).2.2 (HM.CR 5 rfl).2.1 A101.out) ?_ (hargs := by (simp only [List.map_toArray, List.map_cons, List.map_nil, evc, eval_of e71, eval_of e72]) <;> rfl)) (hw := wanted_on rfl rfl rfl (e70.trans (by first | rfl | (simp [*]; done))))
         rintro e w125 ⟨rfl, hR⟩
         refine ⟨_, rfl, ?_⟩
         replace HM := HM.call hR
         clear hR
         exact hK.out _ _ ⟨PUT ha 5 hb, (HM).pick [0, 1, 2, 3, 4, 5, 6, 7, 8, 9, 10, 11]⟩
        refine SY ?_ ?_
        ·intro b a w ha HM hb hon hoff K hK
         have e70 := PE ha 2 hon
         have e73 := PE ha 5 hon
         exact VL (.bool true) (hK.out _ _ ⟨PUT ha 6 hb, HM⟩)
        refine SY ?_ ?_
        ·intro b a w ha HM hb hon hoff K hK
         have e74 := PE ha 6 hon
         exact VL (.bool true) (hK.out _ _ ⟨PUT ha 7 hb, HM⟩)
        refine SY ?_ ?_
        ·intro b a w ha HM hb hon hoff K hK
         obtain ⟨_,_,_,_,_,_,_,_,_,_⟩ := bk5 (HM.bx 11 rfl)
         have e10 := PG ha 10
         have e75 := PE ha 7 hon
         exact VL (.agg #[.int .i64 t1223, .int .i64 t1224, .slice Xo95 t1225.length ko95, .slice Xo96 t1228.length ko96, .slice Xo97 t1231.length ko97]) (hK.out _ _ ⟨PUT ha 8 hb, HM⟩) (hw := wanted_on rfl rfl rfl (e75.trans (by first | rfl | (simp [*]; done))))
        refine SY ?_ ?_
        ·intro b a w ha HM hb hon hoff K hK
         have e76 := PE ha 8 hon
         have e75 := PE ha 7 hon
         refine ST (eC (some 77) rfl #[.agg #[.int .i64 t1223, .int .i64 t1224, .slice Xo95 t1225.length ko95, .slice Xo96 t1228.length ko96, .slice Xo97 t1231.length ko97]] rfl Tryz.func6 (impl_ThreeText.calls kj62 t1223 t1224 _ _ t1225 _ _ t1228 _ _ t1231 t1237 _ (HM.CR 8 rfl).2.2 (HM.CR 8 rfl).2.1 (HM.CR 9 rfl).2.2 (HM.CR 9 rfl).2.1 (HM.CR 10 rfl).2.2 (HM.CR 10 rfl).2.1 A103.out) ?_ (hargs := by (simp only [List.map_toArray, List.map_cons, List.map_nil, evc, eval_of e76]) <;> rfl)) (hw := wanted_on rfl rfl rfl (e75.trans (by first | rfl | (simp [*]; done))))
         rintro e w127 ⟨rfl, hR⟩
         refine ⟨_, rfl, ?_⟩
         replace HM := HM.call hR
         clear hR
         exact hK.out _ _ ⟨PUT ha 9 hb, (HM).pick [0, 1, 2, 3, 4, 5, 6, 7, 8, 9, 10, 11]⟩
        refine SY ?_ ?_
        ·intro b a w ha HM hb hon hoff K hK
         obtain ⟨_,_,_,_,_,_,_,_,_,_⟩ := bk5 (HM.bx 7 rfl)
         have e6 := PG ha 6
         have e75 := PE ha 7 hon
         exact VL (.agg #[.int .i64 t1184, .int .i64 t1185, .slice Xo91 t1186.length ko91, .slice Xo92 t1189.length ko92, .slice Xo93 t1192.length ko93]) (hK.out _ _ ⟨PUT ha 10 hb, HM⟩) (hw := wanted_on rfl rfl rfl (e75.trans (by first | rfl | (simp [*]; done))))
        refine SY ?_ ?_
        ·intro b a w ha HM hb hon hoff K hK
         have e78 := PE ha 10 hon
         have e75 := PE ha 7 hon
         refine ST (eC (some 79) rfl #[.agg #[.int .i64 t1184, .int .i64 t1185, .slice Xo91 t1186.length ko91, .slice Xo92 t1189.length ko92, .slice Xo93 t1192.length ko93]] rfl Tryz.func6 (impl_ThreeText.calls kj62 t1184 t1185 _ _ t1186 _ _ t1189 _ _ t1192 t1238 _ (HM.CR 3 rfl).2.2 (HM.CR 3 rfl).2.1 (HM.CR 4 rfl).2.2 (HM.CR 4 rfl).2.1 (HM.CR 5 rfl).2.2 (HM.CR 5 rfl).2.1 A104.out) ?_ (hargs := by (simp only [List.map_toArray, List.map_cons, List.map_nil, evc, eval_of e78]) <;> rfl)) (hw := wanted_on rfl rfl rfl (e75.trans (by first | rfl | (simp [*]; done))))
         rintro e w129 ⟨rfl, hR⟩
         refine ⟨_, rfl, ?_⟩
         replace HM := HM.call hR
         clear hR
         exact hK.out _ _ ⟨PUT ha 11 hb, (HM).pick [0, 1, 2, 3, 4, 5, 6, 7, 8, 9, 10, 11]⟩
        refine SY ?_ ?_
        ·intro b a w ha HM hb hon hoff K hK
         have e77 := PE ha 9 hon
         have e79 := PE ha 11 hon
         have e75 := PE ha 7 hon
         exact VL (.bool (t1237.toList == t1238.toList)) (hK.out _ _ ⟨PUT ha 12 hb, HM⟩) (hw := wanted_on rfl rfl rfl (e75.trans (by first | rfl | (simp [*]; done))))
        refine SY ?_ ?_
        ·intro b a w ha HM hb hon hoff K hK
         have e75 := PE ha 7 hon
         have e80 := PE ha 12 hon
         exact VL (.bool (t1237.toList == t1238.toList)) (hK.out _ _ ⟨PUT ha 13 hb, HM⟩)
        refine SY ?_ ?_
        ·intro b a w ha HM hb hon hoff K hK
         have e81 := PE ha 13 hon
         exact VL (.bool (t1237.toList == t1238.toList)) (hK.out _ _ ⟨PUT ha 14 hb, HM⟩)
        refine SY ?_ ?_
        ·intro b a w ha HM hb hon hoff K hK
         obtain ⟨_,_,_,_,_,_,_,_,_,_⟩ := bk5 (HM.bx 6 rfl)
         have e3 := PG ha 3
         have e82 := PE ha 14 hon
         exact VL (.agg #[.int .i64 t1155, .int .i64 t1156, .slice Xo6 t1157.length ko6, .slice Xo7 t1160.length ko7, .slice Xo8 t1163.length ko8]) (hK.out _ _ ⟨PUT ha 15 hb, HM⟩) (hw := wanted_on rfl rfl rfl (e82.trans (by first | rfl | (simp [*]; done))))
        refine SY ?_ ?_
        ·intro b a w ha HM hb hon hoff K hK
         have e83 := PE ha 15 hon
         have e82 := PE ha 14 hon
         refine ST (eC (some 84) rfl #[.agg #[.int .i64 t1155, .int .i64 t1156, .slice Xo6 t1157.length ko6, .slice Xo7 t1160.length ko7, .slice Xo8 t1163.length ko8]] rfl Tryz.func6 (impl_ThreeText.calls kj62 t1155 t1156 _ _ t1157 _ _ t1160 _ _ t1163 t1239 _ (HM.CR 0 rfl).2.2 (HM.CR 0 rfl).2.1 (HM.CR 1 rfl).2.2 (HM.CR 1 rfl).2.1 (HM.C 2 rfl).2.2 (HM.C 2 rfl).2.1 A106.out) ?_ (hargs := by (simp only [List.map_toArray, List.map_cons, List.map_nil, evc, eval_of e83]) <;> rfl)) (hw := wanted_on rfl rfl rfl (e82.trans (by first | rfl | (simp [*]; done))))
         rintro e w131 ⟨rfl, hR⟩
         refine ⟨_, rfl, ?_⟩
         replace HM := HM.call hR
         clear hR
         exact hK.out _ _ ⟨PUT ha 16 hb, (HM).pick [0, 1, 2, 3, 4, 5, 6, 7, 8, 9, 10, 11]⟩
        refine SY ?_ ?_
        ·intro b a w ha HM hb hon hoff K hK
         obtain ⟨_,_,_,_,_,_,_,_,_,_⟩ := bk5 (HM.bx 7 rfl)
         have e6 := PG ha 6
         have e82 := PE ha 14 hon
         exact VL (.agg #[.int .i64 t1184, .int .i64 t1185, .slice Xo91 t1186.length ko91, .slice Xo92 t1189.length ko92, .slice Xo93 t1192.length ko93]) (hK.out _ _ ⟨PUT ha 17 hb, HM⟩) (hw := wanted_on rfl rfl rfl (e82.trans (by first | rfl | (simp [*]; done))))
        refine SY ?_ ?_
        ·intro b a w ha HM hb hon hoff K hK
         have e85 := PE ha 17 hon
         have e82 := PE ha 14 hon
         refine ST (eC (some 86) rfl #[.agg #[.int .i64 t1184, .int .i64 t1185, .slice Xo91 t1186.length ko91, .slice Xo92 t1189.length ko92, .slice Xo93 t1192.length ko93]] rfl Tryz.func6 (impl_ThreeText.calls kj62 t1184 t1185 _ _ t1186 _ _ t1189 _ _ t1192 t1240 _ (HM.CR 3 rfl).2.2 (HM.CR 3 rfl).2.1 (HM.CR 4 rfl).2.2 (HM.CR 4 rfl).2.1 (HM.CR 5 rfl).2.2 (HM.CR 5 rfl).2.1 A107.out) ?_ (hargs := by (simp only [List.map_toArray, List.map_cons, List.map_nil, evc, eval_of e85]) <;> rfl)) (hw := wanted_on rfl rfl rfl (e82.trans (by first | rfl | (simp [*]; done))))
         rintro e w133 ⟨rfl, hR⟩
         refine ⟨_, rfl, ?_⟩
         replace HM := HM.call hR
         clear hR
         exact hK.out _ _ ⟨PUT ha 18 hb, (HM).pick [0, 1, 2, 3, 4, 5, 6, 7, 8, 9, 10, 11]⟩
        refine SY ?_ ?_
        ·intro b a w ha HM hb hon hoff K hK
         have e84 := PE ha 16 hon
         have e86 := PE ha 18 hon
         have e82 := PE ha 14 hon
         exact VL (.bool (t1239.toList == t1240.toList)) (hK.out _ _ ⟨PUT ha 19 hb, HM⟩) (hw := wanted_on rfl rfl rfl (e82.trans (by first | rfl | (simp [*]; done))))
        refine SY ?_ ?_
        ·intro b a w ha HM hb hon hoff K hK
         obtain ⟨_,_,_,_,_,_,_,_,_,_⟩ := bk5 (HM.bx 6 rfl)
         have e3 := PG ha 3
         have e82 := PE ha 14 hon
         exact VL (.agg #[.int .i64 t1155, .int .i64 t1156, .slice Xo6 t1157.length ko6, .slice Xo7 t1160.length ko7, .slice Xo8 t1163.length ko8]) (hK.out _ _ ⟨PUT ha 20 hb, HM⟩) (hw := wanted_on rfl rfl rfl (e82.trans (by first | rfl | (simp [*]; done))))
        refine SY ?_ ?_
        ·intro b a w ha HM hb hon hoff K hK
         obtain ⟨_,_,_,_,_,_,_,_,_,_⟩ := bk5 (HM.bx 7 rfl)
         have e6 := PG ha 6
         have e82 := PE ha 14 hon
         exact VL (.agg #[.int .i64 t1184, .int .i64 t1185, .slice Xo91 t1186.length ko91, .slice Xo92 t1189.length ko92, .slice Xo93 t1192.length ko93]) (hK.out _ _ ⟨PUT ha 21 hb, HM⟩) (hw := wanted_on rfl rfl rfl (e82.trans (by first | rfl | (simp [*]; done))))
        refine SY ?_ ?_
        ·intro b a w ha HM hb hon hoff K hK
         have e88 := PE ha 20 hon
         have e89 := PE ha 21 hon
         have e82 := PE ha 14 hon
         refine ST (eC (some 90) rfl #[.agg #[.int .i64 t1155, .int .i64 t1156, .slice Xo6 t1157.length ko6, .slice Xo7 t1160.length ko7, .slice Xo8 t1163.length ko8], .agg #[.int .i64 t1184, .int .i64 t1185, .slice Xo91 t1186.length ko91, .slice Xo92 t1189.length ko92, .slice Xo93 t1192.length ko93]] rfl Tryz.func9 (impl_Alike.calls kj62 t1155 t1156 _ _ t1157 _ _ t1160 _ _ t1163 t1184 t1185 _ _ t1186 _ _ t1189 _ _ t1192 t1241 _ (HM.CR 0 rfl).2.2 (HM.CR 0 rfl).2.1 (HM.CR 1 rfl).2.2 (HM.CR 1 rfl).2.1 (HM.C 2 rfl).2.2 (HM.C 2 rfl).2.1 (HM.CR 3 rfl).2.2 (HM.CR 3 rfl).2.1 (HM.CR 4 rfl).2.2 (HM.CR 4 rfl).2.1 (HM.CR 5 rfl).2.2 (HM.CR 5 rfl).2.1 A108.out) ?_ (hargs := by (simp only [List.map_toArray, List.map_cons, List.map_nil, evc, eval_of e88, eval_of e89]) <;> rfl)) (hw := wanted_on rfl rfl rfl (e82.trans (by first | rfl | (simp [*]; done))))
         rintro e w136 ⟨rfl, hR⟩
         refine ⟨_, rfl, ?_⟩
         replace HM := HM.call hR
         clear hR
         exact hK.out _ _ ⟨PUT ha 22 hb, (HM).pick [0, 1, 2, 3, 4, 5, 6, 7, 8, 9, 10, 11]⟩
        refine SY ?_ ?_
        ·intro b a w ha HM hb hon hoff K hK
         have e87 := PE ha 19 hon
         have e90 := PE ha 22 hon
         have e82 := PE ha 14 hon
         exact VL (.bool ((t1239.toList == t1240.toList) == t1241)) (hK.out _ _ ⟨PUT ha 23 hb, HM⟩) (hw := wanted_on rfl rfl rfl (e82.trans (by first | rfl | (simp [*]; done))))
        refine SY ?_ ?_
        ·intro b a w ha HM hb hon hoff K hK
         have e82 := PE ha 14 hon
         have e91 := PE ha 23 hon
         exact VL (.bool ((t1239.toList == t1240.toList) == t1241)) (hK.out _ _ ⟨PUT ha 24 hb, HM⟩)
        refine SY ?_ ?_
        ·intro b a w ha HM hb hon hoff K hK
         have e92 := PE ha 24 hon
         exact VL (.bool ((t1239.toList == t1240.toList) == t1241)) (hK.out _ _ ⟨PUT ha 25 hb, HM⟩)
        exact steps_nil
       rintro _ w137 ⟨rfl, HM⟩
       simp only [putSel, if_true, Act.put, List.setIfInBounds_toArray, List.set_cons_zero, List.set_cons_succ, gt_iff_lt, ge_iff_le]
       obtain rfl := Option.some.inj H
       go_wp2
       go_ret
       exact ⟨ER, HM.bel⟩
      ·have c105b0 : (t1237.toList == t1238.toList) = false := beq_eq_false_iff_ne.mpr c105
       have c105b1 : (t1237.toList != t1238.toList) = true := bne_iff_ne.mpr c105
       refine RGN 26 [0, 1, 2, 3, 4, 5, 6, 7, 8, 9, 10, 11, 12, 13, 14, 15, 16, 17, 18, 19, 20, 21, 22, 23, 24, 25] (fun a0 b a w' => a = putSel a0 b [(0, 68, .bool false), (1, 69, .bool (!false)), (2, 70, .bool (!false)), (3, 71, .agg #[.int .i64 t1223, .int .i64 t1224, .slice Xo95 t1225.length ko95, .slice Xo96 t1228.length ko96, .slice Xo97 t1231.length ko97]), (4, 72, .agg #[.int .i64 t1184, .int .i64 t1185, .slice Xo91 t1186.length ko91, .slice Xo92 t1189.length ko92, .slice Xo93 t1192.length ko93]), (5, 73, .bool true), (6, 74, .bool true), (7, 75, .bool true), (8, 76, .agg #[.int .i64 t1223, .int .i64 t1224, .slice Xo95 t1225.length ko95, .slice Xo96 t1228.length ko96, .slice Xo97 t1231.length ko97]), (9, 77, .string t1237), (10, 78, .agg #[.int .i64 t1184, .int .i64 t1185, .slice Xo91 t1186.length ko91, .slice Xo92 t1189.length ko92, .slice Xo93 t1192.length ko93]), (11, 79, .string t1238), (12, 80, .bool (t1237.toList == t1238.toList)), (13, 81, .bool (t1237.toList == t1238.toList)), (14, 82, .bool (t1237.toList == t1238.toList)), (15, 83, undef), (16, 84, undef), (17, 85, undef), (18, 86, undef), (19, 87, undef), (20, 88, undef), (21, 89, undef), (22, 90, undef), (23, 91, undef), (24, 92, .bool false), (25, 2, .bool false)] ∧ Mem w [] w' [rowR k60 60 (.slice Xo6 t1157.length ko6) t1157, rowR k60 60 (.slice Xo7 t1160.length ko7) t1160, row (Kd.int .i64) 3 (.slice Xo8 t1163.length ko8) t1163, rowR k60 60 (.slice Xo91 t1186.length ko91) t1186, rowR k60 60 (.slice Xo92 t1189.length ko92) t1189, rowR (Kd.int .i64) 3 (.slice Xo93 t1192.length ko93) t1192, box 26 gb1166 [.int .i64 t1155, .int .i64 t1156, .slice Xo6 t1157.length ko6, .slice Xo7 t1160.length ko7, .slice Xo8 t1163.length ko8], box 26 gb1198 [.int .i64 t1184, .int .i64 t1185, .slice Xo91 t1186.length ko91, .slice Xo92 t1189.length ko92, .slice Xo93 t1192.length ko93], rowR k60 60 (.slice Xo95 t1225.length ko95) t1225, rowR k60 60 (.slice Xo96 t1228.length ko96) t1228, rowR (Kd.int .i64) 3 (.slice Xo97 t1231.length ko97) t1231, box 26 gb1235 [.int .i64 t1223, .int .i64 t1224, .slice Xo95 t1225.length ko95, .slice Xo96 t1228.length ko96, .slice Xo97 t1231.length ko97]]) laws_FnSave.tab12 laws_FnSave.bits12 ?_ ?_ ?_
       ·exact ⟨PS0' rfl _, (HM.drew).pick [0, 1, 2, 3, 4, 5, 6, 7, 8, 9, 10, 11]⟩
       ·clear HM
        refine SY ?_ ?_
        ·intro b a w ha HM hb hon hoff K hK
         have e11 := PG ha 11
         exact VL (.bool false) (hK.out _ _ ⟨PUT ha 0 hb, HM⟩)
        refine SY ?_ ?_
        ·intro b a w ha HM hb hon hoff K hK
         have e68 := PE ha 0 hon
         exact VL (.bool (!false)) (hK.out _ _ ⟨PUT ha 1 hb, HM⟩)
        refine SY ?_ ?_
        ·intro b a w ha HM hb hon hoff K hK
         have e69 := PE ha 1 hon
         exact VL (.bool (!false)) (hK.out _ _ ⟨PUT ha 2 hb, HM⟩)
        refine SY ?_ ?_
        ·intro b a w ha HM hb hon hoff K hK
         obtain ⟨_,_,_,_,_,_,_,_,_,_⟩ := bk5 (HM.bx 11 rfl)
         have e10 := PG ha 10
         have e70 := PE ha 2 hon
         exact VL (.agg #[.int .i64 t1223, .int .i64 t1224, .slice Xo95 t1225.length ko95, .slice Xo96 t1228.length ko96, .slice Xo97 t1231.length ko97]) (hK.out _ _ ⟨PUT ha 3 hb, HM⟩) (hw := wanted_on rfl rfl rfl (e70.trans (by first | rfl | (simp [*]; done))))
        refine SY ?_ ?_
        ·intro b a w ha HM hb hon hoff K hK
         obtain ⟨_,_,_,_,_,_,_,_,_,_⟩ := bk5 (HM.bx 7 rfl)
         have e6 := PG ha 6
         have e70 := PE ha 2 hon
         exact VL (.agg #[.int .i64 t1184, .int .i64 t1185, .slice Xo91 t1186.length ko91, .slice Xo92 t1189.length ko92, .slice Xo93 t1192.length ko93]) (hK.out _ _ ⟨PUT ha 4 hb, HM⟩) (hw := wanted_on rfl rfl rfl (e70.trans (by first | rfl | (simp [*]; done))))
        refine SY ?_ ?_
        ·intro b a w ha HM hb hon hoff K hK
         have e71 := PE ha 3 hon
         have e72 := PE ha 4 hon
         have e70 := PE ha 2 hon
         refine ST (eC (some 73) rfl #[.agg #[.int .i64 t1223, .int .i64 t1224, .slice Xo95 t1225.length ko95, .slice Xo96 t1228.length ko96, .slice Xo97 t1231.length ko97], .agg #[.int .i64 t1184, .int .i64 t1185, .slice Xo91 t1186.length ko91, .slice Xo92 t1189.length ko92, .slice Xo93 t1192.length ko93]] rfl Tryz.func9 (impl_Alike.calls kj62 t1223 t1224 _ _ t1225 _ _ t1228 _ _ t1231 t1184 t1185 _ _ t1186 _ _ t1189 _ _ t1192 true _ (HM.CR 8 rfl).2.2 (HM.CR 8 rfl).2.1 (HM.CR 9 rfl).2.2 (HM.CR 9 rfl).2.1 (HM.CR 10 rfl).2.2 (HM.CR 10 rfl).2.1 (HM.CR 3 rfl).2.2 (HM.CR 3 rfl).2.1 (HM.CR 4 rfl).2.2 (HM.CR 4 rfl).2.1 (HM.CR 5 rfl).2.2 (HM.CR 5 rfl).2.1 A101.out) ?_ (hargs := by (simp only [List.map_toArray, List.map_cons, List.map_nil, evc, eval_of e71, eval_of e72]) <;> rfl)) (hw := wanted_on rfl rfl rfl (e70.trans (by first | rfl | (simp [*]; done))))
         rintro e w147 ⟨rfl, hR⟩
         refine ⟨_, rfl, ?_⟩
         replace HM := HM.call hR
         clear hR
         exact hK.out _ _ ⟨PUT ha 5 hb, (HM).pick [0, 1, 2, 3, 4, 5, 6, 7, 8, 9, 10, 11]⟩
        refine SY ?_ ?_
        ·intro b a w ha HM hb hon hoff K hK
         have e70 := PE ha 2 hon
         have e73 := PE ha 5 hon
         exact VL (.bool true) (hK.out _ _ ⟨PUT ha 6 hb, HM⟩)
        refine SY ?_ ?_
        ·intro b a w ha HM hb hon hoff K hK
         have e74 := PE ha 6 hon
         exact VL (.bool true) (hK.out _ _ ⟨PUT ha 7 hb, HM⟩)
        refine SY ?_ ?_
        ·intro b a w ha HM hb hon hoff K hK
         obtain ⟨_,_,_,_,_,_,_,_,_,_⟩ := bk5 (HM.bx 11 rfl)
         have e10 := PG ha 10
         have e75 := PE ha 7 hon
         exact VL (.agg #[.int .i64 t1223, .int .i64 t1224, .slice Xo95 t1225.length ko95, .slice Xo96 t1228.length ko96, .slice Xo97 t1231.length ko97]) (hK.out _ _ ⟨PUT ha 8 hb, HM⟩) (hw := wanted_on rfl rfl rfl (e75.trans (by first | rfl | (simp [*]; done))))
        refine SY ?_ ?_
        ·intro b a w ha HM hb hon hoff K hK
         have e76 := PE ha 8 hon
         have e75 := PE ha 7 hon
         refine ST (eC (some 77) rfl #[.agg #[.int .i64 t1223, .int .i64 t1224, .slice Xo95 t1225.length ko95, .slice Xo96 t1228.length ko96, .slice Xo97 t1231.length ko97]] rfl Tryz.func6 (impl_ThreeText.calls kj62 t1223 t1224 _ _ t1225 _ _ t1228 _ _ t1231 t1237 _ (HM.CR 8 rfl).2.2 (HM.CR 8 rfl).2.1 (HM.CR 9 rfl).2.2 (HM.CR 9 rfl).2.1 (HM.CR 10 rfl).2.2 (HM.CR 10 rfl).2.1 A103.out) ?_ (hargs := by (simp only [List.map_toArray, List.map_cons, List.map_nil, evc, eval_of e76]) <;> rfl)) (hw := wanted_on rfl rfl rfl (e75.trans (by first | rfl | (simp [*]; done))))
         rintro e w149 ⟨rfl, hR⟩
         refine ⟨_, rfl, ?_⟩
         replace HM := HM.call hR
         clear hR
         exact hK.out _ _ ⟨PUT ha 9 hb, (HM).pick [0, 1, 2, 3, 4, 5, 6, 7, 8, 9, 10, 11]⟩
        refine SY ?_ ?_
        ·intro b a w ha HM hb hon hoff K hK
         obtain ⟨_,_,_,_,_,_,_,_,_,_⟩ := bk5 (HM.bx 7 rfl)
         have e6 := PG ha 6
         have e75 := PE ha 7 hon
         exact VL (.agg #[.int .i64 t1184, .int .i64 t1185, .slice Xo91 t1186.length ko91, .slice Xo92 t1189.length ko92, .slice Xo93 t1192.length ko93]) (hK.out _ _ ⟨PUT ha 10 hb, HM⟩) (hw := wanted_on rfl rfl rfl (e75.trans (by first | rfl | (simp [*]; done))))
        refine SY ?_ ?_
        ·intro b a w ha HM hb hon hoff K hK
         have e78 := PE ha 10 hon
         have e75 := PE ha 7 hon
         refine ST (eC (some 79) rfl #[.agg #[.int .i64 t1184, .int .i64 t1185, .slice Xo91 t1186.length ko91, .slice Xo92 t1189.length ko92, .slice Xo93 t1192.length ko93]] rfl Tryz.func6 (impl_ThreeText.calls kj62 t1184 t1185 _ _ t1186 _ _ t1189 _ _ t1192 t1238 _ (HM.CR 3 rfl).2.2 (HM.CR 3 rfl).2.1 (HM.CR 4 rfl).2.2 (HM.CR 4 rfl).2.1 (HM.CR 5 rfl).2.2 (HM.CR 5 rfl).2.1 A104.out) ?_ (hargs := by (simp only [List.map_toArray, List.map_cons, List.map_nil, evc, eval_of e78]) <;> rfl)) (hw := wanted_on rfl rfl rfl (e75.trans (by first | rfl | (simp [*]; done))))
         rintro e w151 ⟨rfl, hR⟩
         refine ⟨_, rfl, ?_⟩
         replace HM := HM.call hR
         clear hR
         exact hK.out _ _ ⟨PUT ha 11 hb, (HM).pick [0, 1, 2, 3, 4, 5, 6, 7, 8, 9, 10, 11]⟩
        refine SY ?_ ?_
        ·intro b a w ha HM hb hon hoff K hK
         have e77 := PE ha 9 hon
         have e79 := PE ha 11 hon
         have e75 := PE ha 7 hon
         exact VL (.bool (t1237.toList == t1238.toList)) (hK.out _ _ ⟨PUT ha 12 hb, HM⟩) (hw := wanted_on rfl rfl rfl (e75.trans (by first | rfl | (simp [*]; done))))
        refine SY ?_ ?_
        ·intro b a w ha HM hb hon hoff K hK
         have e75 := PE ha 7 hon
         have e80 := PE ha 12 hon
         exact VL (.bool (t1237.toList == t1238.toList)) (hK.out _ _ ⟨PUT ha 13 hb, HM⟩)
        refine SY ?_ ?_
        ·intro b a w ha HM hb hon hoff K hK
         have e81 := PE ha 13 hon
         exact VL (.bool (t1237.toList == t1238.toList)) (hK.out _ _ ⟨PUT ha 14 hb, HM⟩)
        refine SY ?_ ?_
        ·intro b a w ha HM hb hon hoff K hK
         have e82 := PE ha 14 hon
         exact VN ( wanted_off rfl rfl rfl (e82.trans (by first | rfl | (simp [*]; done)))) (hK.out _ _ ⟨PUT ha 15 hb, HM⟩)
        refine SY ?_ ?_
        ·intro b a w ha HM hb hon hoff K hK
         have e82 := PE ha 14 hon
         exact VN ( wanted_off rfl rfl rfl (e82.trans (by first | rfl | (simp [*]; done)))) (hK.out _ _ ⟨PUT ha 16 hb, HM⟩)
        refine SY ?_ ?_
        ·intro b a w ha HM hb hon hoff K hK
         have e82 := PE ha 14 hon
         exact VN ( wanted_off rfl rfl rfl (e82.trans (by first | rfl | (simp [*]; done)))) (hK.out _ _ ⟨PUT ha 17 hb, HM⟩)
        refine SY ?_ ?_
        ·intro b a w ha HM hb hon hoff K hK
         have e82 := PE ha 14 hon
         exact VN ( wanted_off rfl rfl rfl (e82.trans (by first | rfl | (simp [*]; done)))) (hK.out _ _ ⟨PUT ha 18 hb, HM⟩)
        refine SY ?_ ?_
        ·intro b a w ha HM hb hon hoff K hK
         have e82 := PE ha 14 hon
         exact VN ( wanted_off rfl rfl rfl (e82.trans (by first | rfl | (simp [*]; done)))) (hK.out _ _ ⟨PUT ha 19 hb, HM⟩)
        refine SY ?_ ?_
        ·intro b a w ha HM hb hon hoff K hK
         have e82 := PE ha 14 hon
         exact VN ( wanted_off rfl rfl rfl (e82.trans (by first | rfl | (simp [*]; done)))) (hK.out _ _ ⟨PUT ha 20 hb, HM⟩)
        refine SY ?_ ?_
        ·intro b a w ha HM hb hon hoff K hK
         have e82 := PE ha 14 hon
         exact VN ( wanted_off rfl rfl rfl (e82.trans (by first | rfl | (simp [*]; done)))) (hK.out _ _ ⟨PUT ha 21 hb, HM⟩)
        refine SY ?_ ?_
        ·intro b a w ha HM hb hon hoff K hK
         have e82 := PE ha 14 hon
         exact VN ( wanted_off rfl rfl rfl (e82.trans (by first | rfl | (simp [*]; done)))) (hK.out _ _ ⟨PUT ha 22 hb, HM⟩)
        refine SY ?_ ?_
        ·intro b a w ha HM hb hon hoff K hK
         have e82 := PE ha 14 hon
         exact VN ( wanted_off rfl rfl rfl (e82.trans (by first | rfl | (simp [*]; done)))) (hK.out _ _ ⟨PUT ha 23 hb, HM⟩)
        refine SY ?_ ?_
        ·intro b a w ha HM hb hon hoff K hK
         have e82 := PE ha 14 hon
         have e91 := PE ha 23 hon
         exact VL (.bool false) (hK.out _ _ ⟨PUT ha 24 hb, HM⟩)
        refine SY ?_ ?_
        ·intro b a w ha HM hb hon hoff K hK
         have e92 := PE ha 24 hon
         exact VL (.bool false) (hK.out _ _ ⟨PUT ha 25 hb, HM⟩)
        exact steps_nil
       rintro _ w152 ⟨rfl, HM⟩
       simp only [putSel, if_true, Act.put, List.setIfInBounds_toArray, List.set_cons_zero, List.set_cons_succ, gt_iff_lt, ge_iff_le]
       exact absurd H (by simp)
     ·subst c102
      refine RGN 26 [0, 1, 2, 3, 4, 5, 6, 7, 8, 9, 10, 11, 12, 13, 14, 15, 16, 17, 18, 19, 20, 21, 22, 23, 24, 25] (fun a0 b a w' => a = putSel a0 b [(0, 68, .bool false), (1, 69, .bool (!false)), (2, 70, .bool (!false)), (3, 71, .agg #[.int .i64 t1223, .int .i64 t1224, .slice Xo95 t1225.length ko95, .slice Xo96 t1228.length ko96, .slice Xo97 t1231.length ko97]), (4, 72, .agg #[.int .i64 t1184, .int .i64 t1185, .slice Xo91 t1186.length ko91, .slice Xo92 t1189.length ko92, .slice Xo93 t1192.length ko93]), (5, 73, .bool false), (6, 74, .bool false), (7, 75, .bool false), (8, 76, undef), (9, 77, undef), (10, 78, undef), (11, 79, undef), (12, 80, undef), (13, 81, .bool false), (14, 82, .bool false), (15, 83, undef), (16, 84, undef), (17, 85, undef), (18, 86, undef), (19, 87, undef), (20, 88, undef), (21, 89, undef), (22, 90, undef), (23, 91, undef), (24, 92, .bool false), (25, 2, .bool false)] ∧ Mem w [] w' [rowR k60 60 (.slice Xo6 t1157.length ko6) t1157, rowR k60 60 (.slice Xo7 t1160.length ko7) t1160, row (Kd.int .i64) 3 (.slice Xo8 t1163.length ko8) t1163, rowR k60 60 (.slice Xo91 t1186.length ko91) t1186, rowR k60 60 (.slice Xo92 t1189.length ko92) t1189, rowR (Kd.int .i64) 3 (.slice Xo93 t1192.length ko93) t1192, box 26 gb1166 [.int .i64 t1155, .int .i64 t1156, .slice Xo6 t1157.length ko6, .slice Xo7 t1160.length ko7, .slice Xo8 t1163.length ko8], box 26 gb1198 [.int .i64 t1184, .int .i64 t1185, .slice Xo91 t1186.length ko91, .slice Xo92 t1189.length ko92, .slice Xo93 t1192.length ko93], rowR k60 60 (.slice Xo95 t1225.length ko95) t1225, rowR k60 60 (.slice Xo96 t1228.length ko96) t1228, rowR (Kd.int .i64) 3 (.slice Xo97 t1231.length ko97) t1231, box 26 gb1235 [.int .i64 t1223, .int .i64 t1224, .slice Xo95 t1225.length ko95, .slice Xo96 t1228.length ko96, .slice Xo97 t1231.length ko97]]) laws_FnSave.tab12 laws_FnSave.bits12 ?_ ?_ ?_
      ·exact ⟨PS0' rfl _, (HM.drew).pick [0, 1, 2, 3, 4, 5, 6, 7, 8, 9, 10, 11]⟩
      ·clear HM
       refine SY ?_ ?_
       ·intro b a w ha HM hb hon hoff K hK
        have e11 := PG ha 11
        exact VL (.bool false) (hK.out _ _ ⟨PUT ha 0 hb, HM⟩)
       refine SY ?_ ?_
       ·intro b a w ha HM hb hon hoff K hK
        have e68 := PE ha 0 hon
        exact VL (.bool (!false)) (hK.out _ _ ⟨PUT ha 1 hb, HM⟩)
       refine SY ?_ ?_
       ·intro b a w ha HM hb hon hoff K hK
        have e69 := PE ha 1 hon
        exact VL (.bool (!false)) (hK.out _ _ ⟨PUT ha 2 hb, HM⟩)
       refine SY ?_ ?_
       ·intro b a w ha HM hb hon hoff K hK
        obtain ⟨_,_,_,_,_,_,_,_,_,_⟩ := bk5 (HM.bx 11 rfl)
        have e10 := PG ha 10
        have e70 := PE ha 2 hon
        exact VL (.agg #[.int .i64 t1223, .int .i64 t1224, .slice Xo95 t1225.length ko95, .slice Xo96 t1228.length ko96, .slice Xo97 t1231.length ko97]) (hK.out _ _ ⟨PUT ha 3 hb, HM⟩) (hw := wanted_on rfl rfl rfl (e70.trans (by first | rfl | (simp [*]; done))))
       refine SY ?_ ?_
       ·intro b a w ha HM hb hon hoff K hK
        obtain ⟨_,_,_,_,_,_,_,_,_,_⟩ := bk5 (HM.bx 7 rfl)
        have e6 := PG ha 6
        have e70 := PE ha 2 hon
        exact VL (.agg #[.int .i64 t1184, .int .i64 t1185, .slice Xo91 t1186.length ko91, .slice Xo92 t1189.length ko92, .slice Xo93 t1192.length ko93]) (hK.out _ _ ⟨PUT ha 4 hb, HM⟩) (hw := wanted_on rfl rfl rfl (e70.trans (by first | rfl | (simp [*]; done))))
       refine SY ?_ ?_
       ·intro b a w ha HM hb hon hoff K hK
        have e71 := PE ha 3 hon
        have e72 := PE ha 4 hon
        have e70 := PE ha 2 hon
        refine ST (eC (some 73) rfl #[.agg #[.int .i64 t1223, .int .i64 t1224, .slice Xo95 t1225.length ko95, .slice Xo96 t1228.length ko96, .slice Xo97 t1231.length ko97], .agg #[.int .i64 t1184, .int .i64 t1185, .slice Xo91 t1186.length ko91, .slice Xo92 t1189.length ko92, .slice Xo93 t1192.length ko93]] rfl Tryz.func9 (impl_Alike.calls kj62 t1223 t1224 _ _ t1225 _ _ t1228 _ _ t1231 t1184 t1185 _ _ t1186 _ _ t1189 _ _ t1192 false _ (HM.CR 8 rfl).2.2 (HM.CR 8 rfl).2.1 (HM.CR 9 rfl).2.2 (HM.CR 9 rfl).2.1 (HM.CR 10 rfl).2.2 (HM.CR 10 rfl).2.1 (HM.CR 3 rfl).2.2 (HM.CR 3 rfl).2.1 (HM.CR 4 rfl).2.2 (HM.CR 4 rfl).2.1 (HM.CR 5 rfl).2.2 (HM.CR 5 rfl).2.1 A101.out) ?_ (hargs := by (simp only [List.map_toArray, List.map_cons, List.map_nil, evc, eval_of e71, eval_of e72]) <;> rfl)) (hw := wanted_on rfl rfl rfl (e70.trans (by first | rfl | (simp [*]; done))))
        rintro e w158 ⟨rfl, hR⟩
        refine ⟨_, rfl, ?_⟩
        replace HM := HM.call hR
        clear hR
        exact hK.out _ _ ⟨PUT ha 5 hb, (HM).pick [0, 1, 2, 3, 4, 5, 6, 7, 8, 9, 10, 11]⟩
       refine SY ?_ ?_
       ·intro b a w ha HM hb hon hoff K hK
        have e70 := PE ha 2 hon
        have e73 := PE ha 5 hon
        exact VL (.bool false) (hK.out _ _ ⟨PUT ha 6 hb, HM⟩)
       refine SY ?_ ?_
       ·intro b a w ha HM hb hon hoff K hK
        have e74 := PE ha 6 hon
        exact VL (.bool false) (hK.out _ _ ⟨PUT ha 7 hb, HM⟩)
       refine SY ?_ ?_
       ·intro b a w ha HM hb hon hoff K hK
        have e75 := PE ha 7 hon
        exact VN ( wanted_off rfl rfl rfl (e75.trans (by first | rfl | (simp [*]; done)))) (hK.out _ _ ⟨PUT ha 8 hb, HM⟩)
       refine SY ?_ ?_
       ·intro b a w ha HM hb hon hoff K hK
        have e75 := PE ha 7 hon
        exact VN ( wanted_off rfl rfl rfl (e75.trans (by first | rfl | (simp [*]; done)))) (hK.out _ _ ⟨PUT ha 9 hb, HM⟩)
       refine SY ?_ ?_
       ·intro b a w ha HM hb hon hoff K hK
        have e75 := PE ha 7 hon
        exact VN ( wanted_off rfl rfl rfl (e75.trans (by first | rfl | (simp [*]; done)))) (hK.out _ _ ⟨PUT ha 10 hb, HM⟩)
       refine SY ?_ ?_
       ·intro b a w ha HM hb hon hoff K hK
        have e75 := PE ha 7 hon
        exact VN ( wanted_off rfl rfl rfl (e75.trans (by first | rfl | (simp [*]; done)))) (hK.out _ _ ⟨PUT ha 11 hb, HM⟩)
       refine SY ?_ ?_
       ·intro b a w ha HM hb hon hoff K hK
        have e75 := PE ha 7 hon
        exact VN ( wanted_off rfl rfl rfl (e75.trans (by first | rfl | (simp [*]; done)))) (hK.out _ _ ⟨PUT ha 12 hb, HM⟩)
       refine SY ?_ ?_
       ·intro b a w ha HM hb hon hoff K hK
        have e75 := PE ha 7 hon
        have e80 := PE ha 12 hon
        exact VL (.bool false) (hK.out _ _ ⟨PUT ha 13 hb, HM⟩)
       refine SY ?_ ?_
       ·intro b a w ha HM hb hon hoff K hK
        have e81 := PE ha 13 hon
        exact VL (.bool false) (hK.out _ _ ⟨PUT ha 14 hb, HM⟩)
       refine SY ?_ ?_
       ·intro b a w ha HM hb hon hoff K hK
        have e82 := PE ha 14 hon
        exact VN ( wanted_off rfl rfl rfl (e82.trans (by first | rfl | (simp [*]; done)))) (hK.out _ _ ⟨PUT ha 15 hb, HM⟩)
       refine SY ?_ ?_
       ·intro b a w ha HM hb hon hoff K hK
        have e82 := PE ha 14 hon
        exact VN ( wanted_off rfl rfl rfl (e82.trans (by first | rfl | (simp [*]; done)))) (hK.out _ _ ⟨PUT ha 16 hb, HM⟩)
       refine SY ?_ ?_
       ·intro b a w ha HM hb hon hoff K hK
        have e82 := PE ha 14 hon
        exact VN ( wanted_off rfl rfl rfl (e82.trans (by first | rfl | (simp [*]; done)))) (hK.out _ _ ⟨PUT ha 17 hb, HM⟩)
       refine SY ?_ ?_
       ·intro b a w ha HM hb hon hoff K hK
        have e82 := PE ha 14 hon
        exact VN ( wanted_off rfl rfl rfl (e82.trans (by first | rfl | (simp [*]; done)))) (hK.out _ _ ⟨PUT ha 18 hb, HM⟩)
       refine SY ?_ ?_
       ·intro b a w ha HM hb hon hoff K hK
        have e82 := PE ha 14 hon
        exact VN ( wanted_off rfl rfl rfl (e82.trans (by first | rfl | (simp [*]; done)))) (hK.out _ _ ⟨PUT ha 19 hb, HM⟩)
       refine SY ?_ ?_
       ·intro b a w ha HM hb hon hoff K hK
        have e82 := PE ha 14 hon
        exact VN ( wanted_off rfl rfl rfl (e82.trans (by first | rfl | (simp [*]; done)))) (hK.out _ _ ⟨PUT ha 20 hb, HM⟩)
       refine SY ?_ ?_
       ·intro b a w ha HM hb hon hoff K hK
        have e82 := PE ha 14 hon
        exact VN ( wanted_off rfl rfl rfl (e82.trans (by first | rfl | (simp [*]; done)))) (hK.out _ _ ⟨PUT ha 21 hb, HM⟩)
       refine SY ?_ ?_
       ·intro b a w ha HM hb hon hoff K hK
        have e82 := PE ha 14 hon
        exact VN ( wanted_off rfl rfl rfl (e82.trans (by first | rfl | (simp [*]; done)))) (hK.out _ _ ⟨PUT ha 22 hb, HM⟩)
       refine SY ?_ ?_
       ·intro b a w ha HM hb hon hoff K hK
        have e82 := PE ha 14 hon
        exact VN ( wanted_off rfl rfl rfl (e82.trans (by first | rfl | (simp [*]; done)))) (hK.out _ _ ⟨PUT ha 23 hb, HM⟩)
       refine SY ?_ ?_
       ·intro b a w ha HM hb hon hoff K hK
        have e82 := PE ha 14 hon
        have e91 := PE ha 23 hon
        exact VL (.bool false) (hK.out _ _ ⟨PUT ha 24 hb, HM⟩)
       refine SY ?_ ?_
       ·intro b a w ha HM hb hon hoff K hK
        have e92 := PE ha 24 hon
        exact VL (.bool false) (hK.out _ _ ⟨PUT ha 25 hb, HM⟩)
       exact steps_nil
      rintro _ w159 ⟨rfl, HM⟩
      simp only [putSel, if_true, Act.put, List.setIfInBounds_toArray, List.set_cons_zero, List.set_cons_succ, gt_iff_lt, ge_iff_le]
      exact absurd H (by simp)
end Go.Proofs.YtnlnifpehndacaaGreat.G
