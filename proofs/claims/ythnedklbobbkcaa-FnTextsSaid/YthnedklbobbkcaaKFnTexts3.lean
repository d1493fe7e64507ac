/- Part 3 of the claim FnTexts, merged by pack.py (this session's program) out of: the print's words, cut to what is needed; texts that gen.py printed (it runs the kit's print in place); texts of this session. -/
import Derived.RegionTactic
import Derived.Shelf.RegionOpenPlain
import Derived.Test.YthnedklbobbkcaaKFnTexts1
import Derived.Test.YthnedklbobbkcaaKFnTexts2
namespace Go.Proofs.Ythnedklbobbkcaa.Man
end Go.Proofs.Ythnedklbobbkcaa.Man
namespace Go.Proofs.Ythnedklbobbkcaa.Mm
end Go.Proofs.Ythnedklbobbkcaa.Mm
namespace Go.Proofs.Ythnedklbobbkcaa.Sh
end Go.Proofs.Ythnedklbobbkcaa.Sh
set_option maxHeartbeats 8000000
set_option maxRecDepth 100000
namespace Go.Proofs.Ythnedklbobbkcaa.G
open Go.RowKit Go.Proofs.YthnedklbobbkcaaW.PrintWords Go.Proofs.YthnedklbobbkcaaW.PrintLast Go.Proofs.YthnedklbobbkcaaW.PrintMore Go.Proofs.Ythnedklbobbkcaa.Sh
attribute [local go_sem] max2_int min2_int max_two min_two max_three min_three max_four min_four
set_option linter.unusedVariables false
set_option linter.unusedSimpArgs false
open Go.Proofs.Ythnedklbobbkcaa.Mm
def spec_MakeAsks.f (k : Nat) (l0 : List Int) (a1 : Int) : Option (List ByteArray) := (spec_l01New.f k l0).bind fun bt1128 => ((spec_l12Asks.f k bt1128.1 bt1128.2.1 (wrap64 (bt1128.2.2 + 17)) a1).bind fun bt1132 => (some bt1132.1))
theorem spec_MakeAsks.calls (k : Nat) (A0 : Option Addr) (c0 : Nat) (l0 : List Int) (a1 : Int) (r : List ByteArray) (w : World) (hr0 : Kd.C (Kd.int .u8) w A0 l0.length l0) (hc0 : l0.length ≤ c0) (h : spec_MakeAsks.f k l0 a1 = some r) :
  Calls Try.prog 22 #[.slice A0 l0.length c0, .int .i64 a1] w fun e w' => ∃ v0_ : Value, e = .returned (v0_) ∧ Mem w [] w' [rowR Kd.string 9 v0_ r] := by
 have HR0 := Aside0.mk hr0
 have HC0 := Aside0.mk hc0
 clear hr0 hc0
 have HM := Mem.nil w
 have H := h
 clear h
 unfold spec_MakeAsks.f at H
 go_enter Try.func22, Try.ntmps22
 replace H := BN H; obtain ⟨⟨t1128, t1129, t1130⟩, A3, H⟩ := H
 replace H := BN H; obtain ⟨⟨t1132, t1135, t1136⟩, A8, H⟩ := H
 obtain rfl := Option.some.inj H
 go_wp2_with (first | ((with_reducible refine gC 57 rfl ?_); refine pC (some 8) rfl #[.slice A0 l0.length c0] rfl Try.func57 (spec_l01New.calls k _ _ l0 t1128 t1129 t1130 _ _ HM.bel HR0.out HC0.out A3.out) ?_; rintro e w4 ⟨gb1131, Xn5, kn5, rfl, hR, hRn5, hCn5⟩; refine ⟨_, rfl, ?_⟩; have HRn5 := Aside0.mk hRn5; have HCn5 := Aside0.mk hCn5; clear hRn5 hCn5; replace HM := HM.call hR; clear hR; obtain ⟨_,_,_,_,_,_⟩ := bk3 (HM.bx 0 rfl)) | ((with_reducible refine gS 16 rfl ?_); refine pS 0 16 2 [.int .i64 (wrap64 (t1130 + 17))] HM rfl rfl ?_; clear HM; intro w7 HM) | ((with_reducible refine gC 71 rfl ?_); refine pC (some 19) rfl #[.pointer (some ⟨gb1131, 0, none⟩), .int .i64 a1] rfl Try.func71 (spec_l12Asks.calls k gb1131 Xn5 kn5 t1128 t1129 (wrap64 (t1130 + 17)) a1 t1132 t1135 t1136 _ _ _ HRn5.out HCn5.out (HM.focus [] [0]) A8.out) ?_; rintro e w9 ⟨v1133, rfl, hR⟩; refine ⟨_, rfl, ?_⟩; replace HM := nzM hR.unfocus; clear hR))
 go_ret
 exact ⟨_, ER, (MD HM).pick [0]⟩
def spec_l21Cmd.f (k : Nat) (s0_0 : List Int) (s0_1 : Int) (s0_2 : Int) : Option (Int × Int × Int × Int × ByteArray × ByteArray × List ByteArray × Int × Int) := (spec_l01Below.f s0_0 s0_1 s0_2 7).bind fun bt1150 => (if (wrap64 (1 + bt1150.1)) = 1 then ((spec_l01Below.f s0_0 bt1150.2.1 bt1150.2.2 5).bind fun bt1154 => ((spec_l01Below.f s0_0 bt1154.2.1 bt1154.2.2 (wrap64 (1 + bt1154.1))).bind fun bt1157 => (some (wrap64 (1 + bt1150.1), wrap64 (1 + bt1154.1), wrap64 (1 + bt1157.1), 0, (⟨#[]⟩ : ByteArray), (⟨#[]⟩ : ByteArray), ([] : List ByteArray), bt1157.2.1, bt1157.2.2)))) else (if (wrap64 (1 + bt1150.1)) = 2 then ((spec_l16Op.f s0_0 bt1150.2.1 bt1150.2.2).bind fun bt1160 => (some (wrap64 (1 + bt1150.1), 0, 0, bt1160.1, bt1160.2.1, bt1160.2.2.1, ([] : List ByteArray), bt1160.2.2.2.1, bt1160.2.2.2.2))) else (if (wrap64 (1 + bt1150.1)) = 3 then ((spec_l12Asks.f k s0_0 bt1150.2.1 bt1150.2.2 6).bind fun bt1165 => ((spec_l10Key.f s0_0 bt1165.2.1 bt1165.2.2).bind fun bt1170 => (if bt1165.1.length < 8796093022208 then (some (wrap64 (1 + bt1150.1), 0, 0, 0, (⟨#[]⟩ : ByteArray), (⟨#[]⟩ : ByteArray), (bt1165.1 ++ [bt1170.1]), bt1170.2.1, bt1170.2.2)) else (none)))) else (if (wrap64 (1 + bt1150.1)) = 6 then ((spec_l01Below.f s0_0 bt1150.2.1 bt1150.2.2 4).bind fun bt1176 => (some (wrap64 (1 + bt1150.1), wrap64 (1 + bt1176.1), 0, 0, (⟨#[]⟩ : ByteArray), (⟨#[]⟩ : ByteArray), ([] : List ByteArray), bt1176.2.1, bt1176.2.2))) else (some (wrap64 (1 + bt1150.1), 0, 0, 0, (⟨#[]⟩ : ByteArray), (⟨#[]⟩ : ByteArray), ([] : List ByteArray), bt1150.2.1, bt1150.2.2))))))
theorem spec_l21Cmd.calls (k : Nat) (g : Nat) (A0_0 : Option Addr) (c0_0 : Nat) (s0_0 : List Int) (s0_1 : Int) (s0_2 : Int) (r1 : Int) (r2 : Int) (r3 : Int) (r4 : Int) (r5 : ByteArray) (r6 : ByteArray) (r7 : List ByteArray) (r8 : Int) (r9 : Int) (w0 w : World) (F : List SP) (hrs0_0 : Kd.C (Kd.int .u8) w0 A0_0 s0_0.length s0_0) (hcs0_0 : s0_0.length ≤ c0_0) (hM : Mem w0 F w [box 110 g [.slice A0_0 s0_0.length c0_0, .int .i64 s0_1, .int .i64 s0_2]]) (h : spec_l21Cmd.f k s0_0 s0_1 s0_2 = some (r1, r2, r3, r4, r5, r6, r7, r8, r9)) :
  Calls Try.prog 74 #[.pointer (some ⟨g, 0, none⟩)] w fun e w' => ∃ v6_ : Value, e = .returned (.agg #[.int .i64 r1, .int .i64 r2, .int .i64 r3, .int .i64 r4, .string r5, .string r6, v6_]) ∧ Mem w0 F w' [rowR Kd.string 9 v6_ r7, box 110 g [.slice A0_0 s0_0.length c0_0, .int .i64 r8, .int .i64 r9]] := by
 have hu55 := Try.underlying55
 have hu43 := Try.underlying43
 have HRs0_0 := Aside0.mk hrs0_0
 have HCs0_0 := Aside0.mk hcs0_0
 clear hrs0_0 hcs0_0
 have HM := hM
 clear hM
 have H := h
 clear h
 unfold spec_l21Cmd.f at H
 go_enter Try.func74, Try.ntmps74
 replace H := BN H; obtain ⟨⟨t1150, t1151, t1152⟩, A3, H⟩ := H
 go_upto_if 10 with (first | ((with_reducible refine gN 2 rfl ?_); refine pB 2 55 [.int .i64 0, .int .i64 0, .int .i64 0, .int .i64 0, .string (⟨#[]⟩ : ByteArray), .string (⟨#[]⟩ : ByteArray), .slice none 0 0] HM rfl ?_; clear HM; intro gb1149 w2 HM) | ((with_reducible refine gC 73 rfl ?_); refine pC (some 5) rfl #[.pointer (some ⟨g, 0, none⟩), .int .i64 7] rfl Try.func73 (spec_l01Below.calls g A0_0 c0_0 s0_0 s0_1 s0_2 7 t1150 t1151 t1152 _ _ _ HRs0_0.out HCs0_0.out (HM.focus [1] [0]) A3.out) ?_; rintro e w4 ⟨rfl, hR⟩; refine ⟨_, rfl, ?_⟩; replace HM := nzM hR.unfocus; clear hR) | ((with_reducible refine gN 3 rfl ?_); refine pB 3 55 [.int .i64 0, .int .i64 0, .int .i64 0, .int .i64 0, .string (⟨#[]⟩ : ByteArray), .string (⟨#[]⟩ : ByteArray), .slice none 0 0] HM rfl ?_; clear HM; intro gb1153 w5 HM) | ((with_reducible refine gS 3 rfl ?_); refine pS 2 3 0 [.int .i64 (wrap64 (1 + t1150)), .int .i64 0, .int .i64 0, .int .i64 0, .string (⟨#[]⟩ : ByteArray), .string (⟨#[]⟩ : ByteArray), .slice none 0 0] HM rfl rfl ?_; clear HM; intro w6 HM; obtain ⟨_,_,_,_,_,_,_,_,_,_,_,_,_,_⟩ := bk7 (HM.bx 2 rfl)))
 replace HM := nzM HM
 replace H := IT H; rcases H with ⟨c8, H⟩ | ⟨c8, H⟩
 ·have c8b0 : ((wrap64 (1 + t1150)) == 1) = true := beq_iff_eq.mpr c8
  have c8b1 : ((wrap64 (1 + t1150)) != 1) = false := bne_eq_false_iff_eq.mpr c8
  clear c8
  first|rw [c8b0]|(simp only [i64_w, i32_w]; rw [c8b0])|skip
  replace H := BN H; obtain ⟨⟨t1154, t1155, t1156⟩, A9, H⟩ := H
  replace H := BN H; obtain ⟨⟨t1157, t1158, t1159⟩, A13, H⟩ := H
  simp only [Option.some.injEq, Prod.mk.injEq] at H
  obtain ⟨rfl, rfl, rfl, rfl, rfl, rfl, rfl, rfl, rfl⟩ := H
  go_wp2_with (first | ((with_reducible refine gC 73 rfl ?_); refine pC (some 13) rfl #[.pointer (some ⟨g, 0, none⟩), .int .i64 5] rfl Try.func73 (spec_l01Below.calls g A0_0 c0_0 s0_0 t1151 t1152 5 t1154 t1155 t1156 _ _ _ HRs0_0.out HCs0_0.out (HM.focus [0, 2] [1]) A9.out) ?_; rintro e w10 ⟨rfl, hR⟩; refine ⟨_, rfl, ?_⟩; replace HM := nzM hR.unfocus; clear hR) | ((with_reducible refine gS 15 rfl ?_); refine pS 1 15 1 [.int .i64 (wrap64 (1 + t1154))] HM rfl rfl ?_; clear HM; intro w11 HM; obtain ⟨_,_,_,_,_,_,_,_,_,_,_,_,_,_⟩ := bk7 (HM.bx 1 rfl)) | ((with_reducible refine gC 73 rfl ?_); refine pC (some 19) rfl #[.pointer (some ⟨g, 0, none⟩), .int .i64 (wrap64 (1 + t1154))] rfl Try.func73 (spec_l01Below.calls g A0_0 c0_0 s0_0 t1155 t1156 (wrap64 (1 + t1154)) t1157 t1158 t1159 _ _ _ HRs0_0.out HCs0_0.out (HM.focus [0, 1] [2]) A13.out) ?_; rintro e w14 ⟨rfl, hR⟩; refine ⟨_, rfl, ?_⟩; replace HM := nzM hR.unfocus; clear hR) | ((with_reducible refine gS 21 rfl ?_); refine pS 1 21 2 [.int .i64 (wrap64 (1 + t1157))] HM rfl rfl ?_; clear HM; intro w15 HM; obtain ⟨_,_,_,_,_,_,_,_,_,_,_,_,_,_⟩ := bk7 (HM.bx 1 rfl)) | ((with_reducible refine gS 2 rfl ?_); refine pS 0 2 0 [.int .i64 (wrap64 (1 + t1150)), .int .i64 (wrap64 (1 + t1154)), .int .i64 (wrap64 (1 + t1157)), .int .i64 0, .string (⟨#[]⟩ : ByteArray), .string (⟨#[]⟩ : ByteArray), .slice none 0 0] HM rfl rfl ?_; clear HM; intro w17 HM; replace HM := HM.nl Kd.string 9))
  refine bodyPost_ret (results_cell_row rfl _ _ gb1149 55 #[.int .i64 (wrap64 (1 + t1150)), .int .i64 (wrap64 (1 + t1154)), .int .i64 (wrap64 (1 + t1157)), .int .i64 0, .string (⟨#[]⟩ : ByteArray), .string (⟨#[]⟩ : ByteArray), .slice none 0 0] (0, 0) _ rfl (HM.bx 0 rfl) Try.underlying55 rfl (by kernel_rfl)) rfl ?_
  exact ⟨_, ER, (MD HM).pick [3, 2]⟩
 ·have c8b0 : ((wrap64 (1 + t1150)) == 1) = false := beq_eq_false_iff_ne.mpr c8
  have c8b1 : ((wrap64 (1 + t1150)) != 1) = true := bne_iff_ne.mpr c8
  first|rw [c8b0]|(simp only [i64_w, i32_w]; rw [c8b0])|skip
  go_upto_if 22 with (fail)
  replace H := IT H; rcases H with ⟨c18, H⟩ | ⟨c18, H⟩
  ·have c18b0 : ((wrap64 (1 + t1150)) == 2) = true := beq_iff_eq.mpr c18
   have c18b1 : ((wrap64 (1 + t1150)) != 2) = false := bne_eq_false_iff_eq.mpr c18
   clear c18
   first|rw [c18b0]|(simp only [i64_w, i32_w]; rw [c18b0])|skip
   replace H := BN H; obtain ⟨⟨t1160, t1161, t1162, t1163, t1164⟩, A19, H⟩ := H
   simp only [Option.some.injEq, Prod.mk.injEq] at H
   obtain ⟨rfl, rfl, rfl, rfl, rfl, rfl, rfl, rfl, rfl⟩ := H
   go_wp2_with (first | ((with_reducible refine gC 126 rfl ?_); refine pC (some 25) rfl #[.pointer (some ⟨g, 0, none⟩)] rfl Try.func126 (spec_l16Op.calls g A0_0 c0_0 s0_0 t1151 t1152 t1160 t1161 t1162 t1163 t1164 _ _ _ HRs0_0.out HCs0_0.out (HM.focus [0, 2] [1]) A19.out) ?_; rintro e w20 ⟨rfl, hR⟩; refine ⟨_, rfl, ?_⟩; replace HM := nzM hR.unfocus; clear hR) | ((with_reducible refine gS 26 rfl ?_); refine pS 1 26 3 [.int .i64 t1160, .string t1161, .string t1162] HM rfl rfl ?_; clear HM; intro w21 HM; obtain ⟨_,_,_,_,_,_,_,_,_,_,_,_,_,_⟩ := bk7 (HM.bx 1 rfl)) | ((with_reducible refine gS 2 rfl ?_); refine pS 0 2 0 [.int .i64 (wrap64 (1 + t1150)), .int .i64 0, .int .i64 0, .int .i64 t1160, .string t1161, .string t1162, .slice none 0 0] HM rfl rfl ?_; clear HM; intro w23 HM; replace HM := HM.nl Kd.string 9))
   refine bodyPost_ret (results_cell_row rfl _ _ gb1149 55 #[.int .i64 (wrap64 (1 + t1150)), .int .i64 0, .int .i64 0, .int .i64 t1160, .string t1161, .string t1162, .slice none 0 0] (0, 0) _ rfl (HM.bx 0 rfl) Try.underlying55 rfl (by kernel_rfl)) rfl ?_
   exact ⟨_, ER, (MD HM).pick [3, 2]⟩
  ·have c18b0 : ((wrap64 (1 + t1150)) == 2) = false := beq_eq_false_iff_ne.mpr c18
   have c18b1 : ((wrap64 (1 + t1150)) != 2) = true := bne_iff_ne.mpr c18
   first|rw [c18b0]|(simp only [i64_w, i32_w]; rw [c18b0])|skip
   go_upto_if 27 with (fail)
   replace H := IT H; rcases H with ⟨c24, H⟩ | ⟨c24, H⟩
   ·have c24b0 : ((wrap64 (1 + t1150)) == 3) = true := beq_iff_eq.mpr c24
    have c24b1 : ((wrap64 (1 + t1150)) != 3) = false := bne_eq_false_iff_eq.mpr c24
    clear c24
    first|rw [c24b0]|(simp only [i64_w, i32_w]; rw [c24b0])|skip
    replace H := BN H; obtain ⟨⟨t1165, t1168, t1169⟩, A25, H⟩ := H
    replace H := BN H; obtain ⟨⟨t1170, t1171, t1172⟩, A27, H⟩ := H
    replace H := GD H; obtain ⟨c29, H⟩ := H
    have LMc29 := Aside0.mk (show t1165.length < 8796093022208 from c29)
    clear c29
    simp only [Option.some.injEq, Prod.mk.injEq] at H
    obtain ⟨rfl, rfl, rfl, rfl, rfl, rfl, rfl, rfl, rfl⟩ := H
    go_wp2_with (first | ((with_reducible refine gC 71 rfl ?_); refine pC (some 30) rfl #[.pointer (some ⟨g, 0, none⟩), .int .i64 6] rfl Try.func71 (spec_l12Asks.calls k g A0_0 c0_0 s0_0 t1151 t1152 6 t1165 t1168 t1169 _ _ _ HRs0_0.out HCs0_0.out (HM.focus [0, 2] [1]) A25.out) ?_; rintro e w26 ⟨v1166, rfl, hR⟩; refine ⟨_, rfl, ?_⟩; replace HM := nzM hR.unfocus; clear hR) | ((with_reducible refine gC 128 rfl ?_); refine pC (some 32) rfl #[.pointer (some ⟨g, 0, none⟩)] rfl Try.func128 (spec_l10Key.calls g A0_0 c0_0 s0_0 t1168 t1169 t1170 t1171 t1172 _ _ _ HRs0_0.out HCs0_0.out (HM.focus [0, 1, 2] [3]) A27.out) ?_; rintro e w28 ⟨rfl, hR⟩; refine ⟨_, rfl, ?_⟩; replace HM := nzM hR.unfocus; clear hR) | ((with_reducible refine gN 33 rfl ?_); refine pL 33 Kd.string 9 [t1170] [.string t1170] (Reps.one (show Kd.M Kd.string _ _ _ t1170 [.string t1170] from rfl) (Reps.none _ _)) HM rfl ?_; clear HM; intro v31 w30 HM; obtain ⟨Xv31, kv31, rfl⟩ := HM.rdR 4 rfl) | ((with_reducible refine gate_builtin (b := .append) (xs := #[.tmp 30, .tmp 33]) rfl ?_); refine pA 2 (.tmp 30) (.tmp 33) 47 9 Kd.string v1166 t1165 [t1170] Xv31 ([t1170].length) kv31 HM rfl Try.underlying47 info9 rfl (HM.CR 4 rfl).2.2 (by have h_ := LMc29.out; simp only [List.length_singleton]; omega) ?_; clear HM; intro v1174 w32 HM; obtain ⟨Xo33, ko33, rfl⟩ := HM.rdR 2 rfl) | ((with_reducible refine gS 35 rfl ?_); refine pS 1 35 6 [.slice Xo33 (t1165 ++ [t1170]).length ko33] HM rfl rfl ?_; clear HM; intro w34 HM; obtain ⟨_,_,_,_,_,_,_,_,_,_,_,_,_,_⟩ := bk7 (HM.bx 1 rfl)) | ((with_reducible refine gS 2 rfl ?_); refine pS 0 2 0 [.int .i64 (wrap64 (1 + t1150)), .int .i64 0, .int .i64 0, .int .i64 0, .string (⟨#[]⟩ : ByteArray), .string (⟨#[]⟩ : ByteArray), .slice Xo33 (t1165 ++ [t1170]).length ko33] HM rfl rfl ?_; clear HM; intro w36 HM))
    refine bodyPost_ret (results_cell_row rfl _ _ gb1149 55 #[.int .i64 (wrap64 (1 + t1150)), .int .i64 0, .int .i64 0, .int .i64 0, .string (⟨#[]⟩ : ByteArray), .string (⟨#[]⟩ : ByteArray), .slice Xo33 (t1165 ++ [t1170]).length ko33] (0, 0) _ rfl (HM.bx 0 rfl) Try.underlying55 rfl (by kernel_rfl)) rfl ?_
    exact ⟨_, ER, (MD HM).pick [2, 3]⟩
   ·have c24b0 : ((wrap64 (1 + t1150)) == 3) = false := beq_eq_false_iff_ne.mpr c24
    have c24b1 : ((wrap64 (1 + t1150)) != 3) = true := bne_iff_ne.mpr c24
    first|rw [c24b0]|(simp only [i64_w, i32_w]; rw [c24b0])|skip
    go_upto_if 36 with (fail)
    replace H := IT H; rcases H with ⟨c37, H⟩ | ⟨c37, H⟩
    ·have c37b0 : ((wrap64 (1 + t1150)) == 6) = true := beq_iff_eq.mpr c37
     have c37b1 : ((wrap64 (1 + t1150)) != 6) = false := bne_eq_false_iff_eq.mpr c37
     clear c37
     first|rw [c37b0]|(simp only [i64_w, i32_w]; rw [c37b0])|skip
     replace H := BN H; obtain ⟨⟨t1176, t1177, t1178⟩, A38, H⟩ := H
     simp only [Option.some.injEq, Prod.mk.injEq] at H
     obtain ⟨rfl, rfl, rfl, rfl, rfl, rfl, rfl, rfl, rfl⟩ := H
     go_wp2_with (first | ((with_reducible refine gC 73 rfl ?_); refine pC (some 39) rfl #[.pointer (some ⟨g, 0, none⟩), .int .i64 4] rfl Try.func73 (spec_l01Below.calls g A0_0 c0_0 s0_0 t1151 t1152 4 t1176 t1177 t1178 _ _ _ HRs0_0.out HCs0_0.out (HM.focus [0, 2] [1]) A38.out) ?_; rintro e w39 ⟨rfl, hR⟩; refine ⟨_, rfl, ?_⟩; replace HM := nzM hR.unfocus; clear hR) | ((with_reducible refine gS 41 rfl ?_); refine pS 1 41 1 [.int .i64 (wrap64 (1 + t1176))] HM rfl rfl ?_; clear HM; intro w40 HM; obtain ⟨_,_,_,_,_,_,_,_,_,_,_,_,_,_⟩ := bk7 (HM.bx 1 rfl)) | ((with_reducible refine gS 2 rfl ?_); refine pS 0 2 0 [.int .i64 (wrap64 (1 + t1150)), .int .i64 (wrap64 (1 + t1176)), .int .i64 0, .int .i64 0, .string (⟨#[]⟩ : ByteArray), .string (⟨#[]⟩ : ByteArray), .slice none 0 0] HM rfl rfl ?_; clear HM; intro w42 HM; replace HM := HM.nl Kd.string 9))
     refine bodyPost_ret (results_cell_row rfl _ _ gb1149 55 #[.int .i64 (wrap64 (1 + t1150)), .int .i64 (wrap64 (1 + t1176)), .int .i64 0, .int .i64 0, .string (⟨#[]⟩ : ByteArray), .string (⟨#[]⟩ : ByteArray), .slice none 0 0] (0, 0) _ rfl (HM.bx 0 rfl) Try.underlying55 rfl (by kernel_rfl)) rfl ?_
     exact ⟨_, ER, (MD HM).pick [3, 2]⟩
    ·have c37b0 : ((wrap64 (1 + t1150)) == 6) = false := beq_eq_false_iff_ne.mpr c37
     have c37b1 : ((wrap64 (1 + t1150)) != 6) = true := bne_iff_ne.mpr c37
     first|rw [c37b0]|(simp only [i64_w, i32_w]; rw [c37b0])|skip
     simp only [Option.some.injEq, Prod.mk.injEq] at H
     obtain ⟨rfl, rfl, rfl, rfl, rfl, rfl, rfl, rfl, rfl⟩ := H
     go_wp2_with (first | ((with_reducible refine gS 2 rfl ?_); refine pS 0 2 0 [.int .i64 (wrap64 (1 + t1150)), .int .i64 0, .int .i64 0, .int .i64 0, .string (⟨#[]⟩ : ByteArray), .string (⟨#[]⟩ : ByteArray), .slice none 0 0] HM rfl rfl ?_; clear HM; intro w43 HM; replace HM := HM.nl Kd.string 9))
     refine bodyPost_ret (results_cell_row rfl _ _ gb1149 55 #[.int .i64 (wrap64 (1 + t1150)), .int .i64 0, .int .i64 0, .int .i64 0, .string (⟨#[]⟩ : ByteArray), .string (⟨#[]⟩ : ByteArray), .slice none 0 0] (0, 0) _ rfl (HM.bx 0 rfl) Try.underlying55 rfl (by kernel_rfl)) rfl ?_
     exact ⟨_, ER, (MD HM).pick [3, 1]⟩
def spec_MakeCmds.l0 : Nat → List (S55) → Int → List Int → Int → Int → Option ((List (S55)))
 | 0, _, _, _, _, _ => none
 | k + 1, x4, x5, x1187000, x1187001, x1187002 => if x5 > 0 then ((spec_l21Cmd.f k x1187000 x1187001 x1187002).bind fun bt1193 => (if x4.length < 1599289640401 then (spec_MakeCmds.l0 k (x4 ++ [(⟨bt1193.1, bt1193.2.1, bt1193.2.2.1, (⟨bt1193.2.2.2.1, bt1193.2.2.2.2.1, bt1193.2.2.2.2.2.1⟩ : S43), bt1193.2.2.2.2.2.2.1⟩ : S55)]) (wrap64 (x5 - 1)) x1187000 bt1193.2.2.2.2.2.2.2.1 bt1193.2.2.2.2.2.2.2.2) else (none))) else (some x4)
def spec_MakeCmds.f (k : Nat) (l0 : List Int) : Option ((List (S55))) := (spec_l01New.f k l0).bind fun bt1183 => ((spec_l01Below.f bt1183.1 bt1183.2.1 (wrap64 (bt1183.2.2 + 81)) 10).bind fun bt1190 => (spec_MakeCmds.l0 k (([(⟨1, 3, 1, (⟨0, (⟨#[]⟩ : ByteArray), (⟨#[]⟩ : ByteArray)⟩ : S43), ([] : List ByteArray)⟩ : S55)] : List (S55))) bt1190.1 bt1183.1 bt1190.2.1 bt1190.2.2))
theorem spec_MakeCmds.calls (k : Nat) (A0 : Option Addr) (c0 : Nat) (l0 : List Int) (r : List (S55)) (w : World) (hr0 : Kd.C (Kd.int .u8) w A0 l0.length l0) (hc0 : l0.length ≤ c0) (h : spec_MakeCmds.f k l0 = some r) :
  Calls Try.prog 26 #[.slice A0 l0.length c0] w fun e w' => ∃ v0_ : Value, e = .returned (v0_) ∧ Mem w [] w' [rr x55 55 v0_ r] := by
 have hu55 := Try.underlying55
 have HR0 := Aside0.mk hr0
 have HC0 := Aside0.mk hc0
 clear hr0 hc0
 have HM := Mem.nil w
 have H := h
 clear h
 unfold spec_MakeCmds.f at H
 go_enter Try.func26, Try.ntmps26
 replace H := BN H; obtain ⟨⟨t1183, t1184, t1185⟩, A2, H⟩ := H
 replace H := BN H; obtain ⟨⟨t1190, t1191, t1192⟩, A8, H⟩ := H
 have H' := Aside0.mk H
 clear H
 go_wp2_with (first | ((with_reducible refine gC 57 rfl ?_); refine pC (some 7) rfl #[.slice A0 l0.length c0] rfl Try.func57 (spec_l01New.calls k _ _ l0 t1183 t1184 t1185 _ _ HM.bel HR0.out HC0.out A2.out) ?_; rintro e w3 ⟨gb1186, Xn4, kn4, rfl, hR, hRn4, hCn4⟩; refine ⟨_, rfl, ?_⟩; have HRn4 := Aside0.mk hRn4; have HCn4 := Aside0.mk hCn4; clear hRn4 hCn4; replace HM := HM.call hR; clear hR; obtain ⟨_,_,_,_,_,_⟩ := bk3 (HM.bx 0 rfl)) | ((with_reducible refine gS 15 rfl ?_); refine pS 0 15 2 [.int .i64 (wrap64 (t1185 + 81))] HM rfl rfl ?_; clear HM; intro w6 HM; replace HM := HM.nl Kd.string 9; replace HM := HM.toQ 1 rfl) | ((with_reducible refine gN 17 rfl ?_); refine pL 17 (rawK 7) 55 [[.int .i64 1, .int .i64 3, .int .i64 1, .int .i64 0, .string (⟨#[]⟩ : ByteArray), .string (⟨#[]⟩ : ByteArray), .slice none 0 0]] [.int .i64 1, .int .i64 3, .int .i64 1, .int .i64 0, .string (⟨#[]⟩ : ByteArray), .string (⟨#[]⟩ : ByteArray), .slice none 0 0] (Reps.c7 (show (rawK 7).M _ _ _ [.int .i64 1, .int .i64 3, .int .i64 1, .int .i64 0, .string (⟨#[]⟩ : ByteArray), .string (⟨#[]⟩ : ByteArray), .slice none 0 0] [.int .i64 1, .int .i64 3, .int .i64 1, .int .i64 0, .string (⟨#[]⟩ : ByteArray), .string (⟨#[]⟩ : ByteArray), .slice none 0 0] from ⟨rfl, rfl, rfl⟩) (Reps.none _ _)) HM rfl ?_; clear HM; intro v1188 w7 HM; replace HM := nzM (HM.rrLit (X := x55) (xs := ([(⟨1, 3, 1, (⟨0, (⟨#[]⟩ : ByteArray), (⟨#[]⟩ : ByteArray)⟩ : S43), ([] : List ByteArray)⟩ : S55)] : List (S55))) [0] [2, 1] [[.slice none 0 0]] (by kernel_rfl) rfl rfl)) | ((with_reducible refine gC 73 rfl ?_); refine pC (some 19) rfl #[.pointer (some ⟨gb1186, 0, none⟩), .int .i64 10] rfl Try.func73 (spec_l01Below.calls gb1186 Xn4 kn4 t1183 t1184 (wrap64 (t1185 + 81)) 10 t1190 t1191 t1192 _ _ _ HRn4.out HCn4.out (HM.focus [1] [0]) A8.out) ?_; rintro e w9 ⟨rfl, hR⟩; refine ⟨_, rfl, ?_⟩; replace HM := nzM hR.unfocus; clear hR))
 go_loopg [4, 5] k (fun kq v4 v5 w' => ∃ (x4_1 : List (S55)) (x5_1 : Int) (x1187001_1 : Int) (x1187002_1 : Int), v5 = .int .i64 x5_1 ∧ Aside0 (spec_MakeCmds.l0 kq x4_1 x5_1 t1183 x1187001_1 x1187002_1 = some r) ∧ Aside0 (kq ≤ k) ∧ Mem w [] w' [rr x55 55 v4 x4_1, box 110 gb1186 [.slice Xn4 t1183.length kn4, .int .i64 x1187001_1, .int .i64 x1187002_1]])
 case atStart => exact ⟨((([(⟨1, 3, 1, (⟨0, (⟨#[]⟩ : ByteArray), (⟨#[]⟩ : ByteArray)⟩ : S43), ([] : List ByteArray)⟩ : S55)] : List (S55)))), (t1190), (t1191), (t1192), RS, H', ⟨Nat.le_refl _⟩, (MD HM).pick [0, 1]⟩
 case round =>
  clear H' HM
  obtain ⟨x4_1, x5_1, x1187001_1, x1187002_1, rfl, HA, HK1, HM⟩ := hrel
  cases gk with
  | zero => exact absurd HA.out (by simp [spec_MakeCmds.l0])
  | succ k1 =>
   have H := HA.out
   clear HA
   simp only [spec_MakeCmds.l0] at H
   go_upto_if 21 with (fail)
   replace H := IT H; rcases H with ⟨c10, H⟩ | ⟨c10, H⟩
   ·have c10b0 : decide (0 < x5_1) = true := decide_eq_true c10
    clear c10
    first|rw [c10b0]|(simp only [i64_w, i32_w]; rw [c10b0])|skip
    replace H := BN H; obtain ⟨⟨t1193, t1194, t1195, t1196, t1197, t1198, t1199, t1202, t1203⟩, A11, H⟩ := H
    replace H := GD H; obtain ⟨c13, H⟩ := H
    have LMc13 := Aside0.mk c13
    clear c13
    have H' := Aside0.mk H
    clear H
    go_wp2_with (first | ((with_reducible refine gC 74 rfl ?_); refine pC (some 26) rfl #[.pointer (some ⟨gb1186, 0, none⟩)] rfl Try.func74 (spec_l21Cmd.calls k1 gb1186 Xn4 kn4 t1183 x1187001_1 x1187002_1 t1193 t1194 t1195 t1196 t1197 t1198 t1199 t1202 t1203 _ _ _ HRn4.out HCn4.out (HM.focus [0] [1]) A11.out) ?_; rintro e w12 ⟨v1200, rfl, hR⟩; refine ⟨_, rfl, ?_⟩; replace HM := nzM hR.unfocus; clear hR; obtain ⟨Xo14, ko14, rfl⟩ := HM.rdR 1 rfl; replace HM := HM.toQ 1 rfl) | ((with_reducible refine gN 27 rfl ?_); refine pL 27 (rawK 7) 55 [[.int .i64 t1193, .int .i64 t1194, .int .i64 t1195, .int .i64 t1196, .string t1197, .string t1198, .slice Xo14 t1199.length ko14]] [.int .i64 t1193, .int .i64 t1194, .int .i64 t1195, .int .i64 t1196, .string t1197, .string t1198, .slice Xo14 t1199.length ko14] (Reps.c7 (show (rawK 7).M _ _ _ [.int .i64 t1193, .int .i64 t1194, .int .i64 t1195, .int .i64 t1196, .string t1197, .string t1198, .slice Xo14 t1199.length ko14] [.int .i64 t1193, .int .i64 t1194, .int .i64 t1195, .int .i64 t1196, .string t1197, .string t1198, .slice Xo14 t1199.length ko14] from ⟨rfl, rfl, rfl⟩) (Reps.none _ _)) HM rfl ?_; clear HM; intro v16 w15 HM; obtain ⟨Xv16, kv16, rfl⟩ := HM.rdR 3 rfl; obtain ⟨vss_, hv_, HM⟩ := HM.rrOut [1, 2, 3] [0] (by kernel_rfl) rfl; replace HM := nzM HM) | ((with_reducible refine gate_builtin (b := .append) (xs := #[.tmp 24, .tmp 27]) rfl ?_); refine pA 3 (.tmp 24) (.tmp 27) 22 55 (rawK 7) u4 (List.zipWith x55.cells x4_1 vss_) [[.int .i64 t1193, .int .i64 t1194, .int .i64 t1195, .int .i64 t1196, .string t1197, .string t1198, .slice Xo14 t1199.length ko14]] Xv16 [[.int .i64 t1193, .int .i64 t1194, .int .i64 t1195, .int .i64 t1196, .string t1197, .string t1198, .slice Xo14 t1199.length ko14]].length kv16 HM rfl Try.underlying22 info55 rfl (HM.CR 2 rfl).2.2 (by have h_ := LMc13.out; rw [List.length_zipWith, hv_, Nat.min_self, List.length_singleton]; omega) ?_; clear HM; intro v1205 w17 HM; replace HM := nzM HM; replace HM := nzM (HM.rrApp [1] [3, 4, 0] (⟨t1193, t1194, t1195, (⟨t1196, t1197, t1198⟩ : S43), t1199⟩ : S55) [.slice Xo14 t1199.length ko14] hv_ (by kernel_rfl) rfl); clear hv_))
    go_roundg k1
    case measure => have := HK1.out; omega
    case rel => exact ⟨((x4_1 ++ [(⟨t1193, t1194, t1195, (⟨t1196, t1197, t1198⟩ : S43), t1199⟩ : S55)])), (wrap64 (x5_1 - 1)), (t1202), (t1203), RS, H', ⟨by have := HK1.out; omega⟩, (MD HM).pick [1, 0]⟩
   ·have c10b0 : decide (0 < x5_1) = false := decide_eq_false c10
    clear c10
    first|rw [c10b0]|(simp only [i64_w, i32_w]; rw [c10b0])|skip
    obtain rfl := Option.some.inj H
    go_wp2
    go_ret
    exact ⟨_, ER, (MD HM).pick [0]⟩
end Go.Proofs.Ythnedklbobbkcaa.G

namespace Go.Proofs.Ythnedklbobbkcaa.G
open Go.RowKit Go.Proofs.YthnedklbobbkcaaW.PrintWords Go.Proofs.YthnedklbobbkcaaW.PrintLast Go.Proofs.YthnedklbobbkcaaW.PrintMore Go.Proofs.Ythnedklbobbkcaa.Sh
attribute [local go_sem] max2_int min2_int max_two min_two max_three min_three max_four min_four
set_option linter.unusedVariables false
set_option linter.unusedSimpArgs false
def impl_within.f (a0 : Int) (a1 : Int) (a2 : Int) : Option (Bool) := if a0 ≥ a1 then (some (decide (a0 ≤ a2))) else (some false)
theorem impl_within.calls (a0 : Int) (a1 : Int) (a2 : Int) (r : Bool) (w : World) (h : impl_within.f a0 a1 a2 = some r) :
  Calls Try.prog 92 #[.int .i64 a0, .int .i64 a1, .int .i64 a2] w fun e w' => e = .returned (.bool r) ∧ Drawn0 w w' := by
 have H : (if a0 ≥ a1 then (some (decide (a0 ≤ a2))) else (some false)) = some r := h
 clear h
 by_cases c4 : a0 ≥ a1
 ·rw [if_pos c4] at H
  have c4b0 : decide (a1 ≤ a0) = true := decide_eq_true c4
  clear c4
  obtain rfl := Option.some.inj H
  go_enter Try.func92, Try.ntmps92
  go_wp2
  go_ret
  exact ⟨by first | rfl | (simp; done) | (simp [*]; done), DR⟩
 ·rw [if_neg c4] at H
  have c4b0 : decide (a1 ≤ a0) = false := decide_eq_false c4
  clear c4
  obtain rfl := Option.some.inj H
  go_enter Try.func92, Try.ntmps92
  go_wp2
  go_ret
  exact ⟨by first | rfl | (simp; done) | (simp [*]; done), DR⟩
def impl_isPlain.l0 : Nat → ByteArray → Int → Option (Bool)
 | 0, _, _ => none
 | k + 1, x0, x3 => if x3 < (x0.size : Int) then (if 0 ≤ x3 then (if (bt x0 x3) = 32 then (some false) else (if (bt x0 x3) = 10 then (some false) else (impl_isPlain.l0 k x0 (wrap64 (x3 + 1))))) else (none)) else (some true)
def impl_isPlain.f (k : Nat) (a0 : ByteArray) : Option (Bool) := impl_isPlain.l0 k a0 0
theorem impl_isPlain.calls (k : Nat) (a0 : ByteArray) (r : Bool) (w : World) (h : impl_isPlain.f k a0 = some r) :
  Calls Try.prog 174 #[.string a0] w fun e w' => e = .returned (.bool r) ∧ Drawn0 w w' := by
 have H : (impl_isPlain.l0 k a0 0) = some r := h
 clear h
 have H' := Aside0.mk H
 clear H
 go_enter Try.func174, Try.ntmps174
 go_wp2
 go_loopg [3] k (fun kq v3 w' => ∃ (x3_1 : Int), v3 = .int .i64 x3_1 ∧ Aside0 (impl_isPlain.l0 kq a0 x3_1 = some r) ∧ Aside0 (kq ≤ k) ∧ Drawn0 w w')
 case atStart => exact ⟨(0), RS, H', ⟨Nat.le_refl _⟩, DR⟩
 case round =>
  clear H'
  try clear c1
  obtain ⟨x3_1, rfl, HA, HK1, ⟨m1, rfl⟩⟩ := hrel
  cases gk with
  | zero => exact absurd HA.out (by simp [impl_isPlain.l0])
  | succ k1 =>
   have H := HA.out
   clear HA
   simp only [impl_isPlain.l0] at H
   by_cases c2 : x3_1 < (a0.size : Int)
   ·rw [if_pos c2] at H
    have c2b0 : decide (x3_1 < (a0.size : Int)) = true := decide_eq_true c2
    clear c2
    by_cases c3 : 0 ≤ x3_1
    ·rw [if_pos c3] at H
     have c3b0 : decide (0 ≤ x3_1) = true := decide_eq_true c3
     clear c3
     by_cases c5 : (bt a0 x3_1) = 32
     ·rw [if_pos c5] at H
      have c5b0 : ((bt a0 x3_1) == 32) = true := beq_iff_eq.mpr c5
      have c5b1 : ((bt a0 x3_1) != 32) = false := bne_eq_false_iff_eq.mpr c5
      clear c5
      obtain rfl := Option.some.inj H
      have p4 : 0 ≤ (x3_1 : Int) := of_decide_eq_true AS
      have q4 : x3_1 < (a0.size : Int) := of_decide_eq_true AS
      have hx4 := bt_at a0 x3_1
      replace p4 := eq_true p4
      replace q4 := eq_true q4
      go_wp2
      go_ret
      exact ⟨by first | rfl | (simp; done) | (simp [*]; done), DR⟩
     ·rw [if_neg c5] at H
      have c5b0 : ((bt a0 x3_1) == 32) = false := beq_eq_false_iff_ne.mpr c5
      have c5b1 : ((bt a0 x3_1) != 32) = true := bne_iff_ne.mpr c5
      by_cases c7 : (bt a0 x3_1) = 10
      ·rw [if_pos c7] at H
       have c7b0 : ((bt a0 x3_1) == 10) = true := beq_iff_eq.mpr c7
       have c7b1 : ((bt a0 x3_1) != 10) = false := bne_eq_false_iff_eq.mpr c7
       clear c7
       obtain rfl := Option.some.inj H
       have p4 : 0 ≤ (x3_1 : Int) := of_decide_eq_true AS
       have q4 : x3_1 < (a0.size : Int) := of_decide_eq_true AS
       have hx4 := bt_at a0 x3_1
       replace p4 := eq_true p4
       replace q4 := eq_true q4
       have p6 : 0 ≤ (x3_1 : Int) := of_decide_eq_true AS
       have q6 : x3_1 < (a0.size : Int) := of_decide_eq_true AS
       have hx6 := bt_at a0 x3_1
       replace p6 := eq_true p6
       replace q6 := eq_true q6
       go_wp2
       go_ret
       exact ⟨by first | rfl | (simp; done) | (simp [*]; done), DR⟩
      ·rw [if_neg c7] at H
       have c7b0 : ((bt a0 x3_1) == 10) = false := beq_eq_false_iff_ne.mpr c7
       have c7b1 : ((bt a0 x3_1) != 10) = true := bne_iff_ne.mpr c7
       have H' := Aside0.mk H
       clear H
       have p4 : 0 ≤ (x3_1 : Int) := of_decide_eq_true AS
       have q4 : x3_1 < (a0.size : Int) := of_decide_eq_true AS
       have hx4 := bt_at a0 x3_1
       replace p4 := eq_true p4
       replace q4 := eq_true q4
       have p6 : 0 ≤ (x3_1 : Int) := of_decide_eq_true AS
       have q6 : x3_1 < (a0.size : Int) := of_decide_eq_true AS
       have hx6 := bt_at a0 x3_1
       replace p6 := eq_true p6
       replace q6 := eq_true q6
       go_wp2
       go_roundg k1
       case measure => have := HK1.out; omega
       case rel => exact ⟨(wrap64 (x3_1 + 1)), RS, H', ⟨by have := HK1.out; omega⟩, DR⟩
    ·rw [if_neg c3] at H
     exact absurd H (by simp)
   ·rw [if_neg c2] at H
    have c2b0 : decide (x3_1 < (a0.size : Int)) = false := decide_eq_false c2
    clear c2
    obtain rfl := Option.some.inj H
    go_wp2
    go_ret
    exact ⟨by first | rfl | (simp; done) | (simp [*]; done), DR⟩
end Go.Proofs.Ythnedklbobbkcaa.G

namespace Go.Proofs.Ythnedklbobbkcaa.G
open Go.RowKit Go.Proofs.YthnedklbobbkcaaW.PrintWords Go.Proofs.YthnedklbobbkcaaW.PrintLast Go.Proofs.YthnedklbobbkcaaW.PrintMore Go.Proofs.Ythnedklbobbkcaa.Sh
attribute [local go_sem] max2_int min2_int max_two min_two max_three min_three max_four min_four
set_option linter.unusedVariables false
set_option linter.unusedSimpArgs false
open Go.Proofs.Ythnedklbobbkcaa.Mm
def impl_ItemOk.f (k : Nat) (a0_0 : ByteArray) (a0_1 : ByteArray) (a0_2 : Int) : Option (Bool) := (impl_within.f (a0_0.size : Int) 1 20).bind fun t257 => (if t257 = true then (if (a0_1.size : Int) ≤ 40 then ((impl_isPlain.f k a0_0).bind fun t258 => (if t258 = true then ((impl_isPlain.f k a0_1).bind fun t259 => (if t259 = true then ((impl_within.f a0_2 0 3).bind fun t260 => (some t260)) else (some false))) else (some false))) else (some false)) else (some false))
theorem impl_ItemOk.calls (k : Nat) (a0_0 : ByteArray) (a0_1 : ByteArray) (a0_2 : Int) (r : Bool) (w : World)  (h : impl_ItemOk.f k a0_0 a0_1 a0_2 = some r) :
  Calls Try.prog 127 #[.agg #[.string a0_0, .string a0_1, .int .i64 a0_2]] w fun e w' => e = .returned (.bool r) ∧ Mem w [] w' [] := by
 have hu122 := Try.underlying122
 have HM := Mem.nil w
 have H := h
 clear h
 unfold impl_ItemOk.f at H
 go_enter Try.func127, Try.ntmps127
 replace H := BN H; obtain ⟨t257, A4, H⟩ := H
 replace H := IB H
 rcases H with ⟨c6, H⟩ | ⟨c6, H⟩
 ·subst c6
  replace H := IT H; rcases H with ⟨c8, H⟩ | ⟨c8, H⟩
  ·replace c8 : (a0_1.size : Int) ≤ 40 := c8
   have c8b0 := decide_eq_true c8
   have c8b1 : decide (a0_1.size ≤ 40) = true := decide_eq_true (by omega)
   clear c8
   replace H := BN H; obtain ⟨t258, A9, H⟩ := H
   replace H := IB H
   rcases H with ⟨c11, H⟩ | ⟨c11, H⟩
   ·subst c11
    replace H := BN H; obtain ⟨t259, A13, H⟩ := H
    replace H := IB H
    rcases H with ⟨c15, H⟩ | ⟨c15, H⟩
    ·subst c15
     replace H := BN H; obtain ⟨t260, A17, H⟩ := H
     obtain rfl := Option.some.inj H
     go_wp2_with (first | ((with_reducible refine gN 1 rfl ?_); refine pB 1 122 [.string a0_0, .string a0_1, .int .i64 a0_2] HM rfl ?_; clear HM; intro gb256 w2 HM; obtain ⟨_,_,_,_,_,_⟩ := bk3 (HM.bx 0 rfl)) | ((with_reducible refine gC 92 rfl ?_); refine pC (some 6) rfl #[.int .i64 (a0_0.size : Int), .int .i64 1, .int .i64 20] rfl Try.func92 (impl_within.calls (a0_0.size : Int) 1 20 true _ A4.out) ?_; rintro e w5 ⟨rfl, hd⟩; refine ⟨_, rfl, ?_⟩; replace HM := HM.drawn hd; clear hd; obtain ⟨_,_,_,_,_,_⟩ := bk3 (HM.bx 0 rfl)) | ((with_reducible refine gC 174 rfl ?_); refine pC (some 16) rfl #[.string a0_0] rfl Try.func174 (impl_isPlain.calls k a0_0 true _ A9.out) ?_; rintro e w10 ⟨rfl, hd⟩; refine ⟨_, rfl, ?_⟩; replace HM := HM.drawn hd; clear hd; obtain ⟨_,_,_,_,_,_⟩ := bk3 (HM.bx 0 rfl)) | ((with_reducible refine gC 174 rfl ?_); refine pC (some 21) rfl #[.string a0_1] rfl Try.func174 (impl_isPlain.calls k a0_1 true _ A13.out) ?_; rintro e w14 ⟨rfl, hd⟩; refine ⟨_, rfl, ?_⟩; replace HM := HM.drawn hd; clear hd; obtain ⟨_,_,_,_,_,_⟩ := bk3 (HM.bx 0 rfl)) | ((with_reducible refine gC 92 rfl ?_); refine pC (some 26) rfl #[.int .i64 a0_2, .int .i64 0, .int .i64 3] rfl Try.func92 (impl_within.calls a0_2 0 3 t260 _ A17.out) ?_; rintro e w18 ⟨rfl, hd⟩; refine ⟨_, rfl, ?_⟩; replace HM := HM.drawn hd; clear hd))
     go_ret
     exact ⟨ER, (MD HM).pick []⟩
    ·subst c15
     obtain rfl := Option.some.inj H
     go_wp2_with (first | ((with_reducible refine gN 1 rfl ?_); refine pB 1 122 [.string a0_0, .string a0_1, .int .i64 a0_2] HM rfl ?_; clear HM; intro gb256 w2 HM; obtain ⟨_,_,_,_,_,_⟩ := bk3 (HM.bx 0 rfl)) | ((with_reducible refine gC 92 rfl ?_); refine pC (some 6) rfl #[.int .i64 (a0_0.size : Int), .int .i64 1, .int .i64 20] rfl Try.func92 (impl_within.calls (a0_0.size : Int) 1 20 true _ A4.out) ?_; rintro e w5 ⟨rfl, hd⟩; refine ⟨_, rfl, ?_⟩; replace HM := HM.drawn hd; clear hd; obtain ⟨_,_,_,_,_,_⟩ := bk3 (HM.bx 0 rfl)) | ((with_reducible refine gC 174 rfl ?_); refine pC (some 16) rfl #[.string a0_0] rfl Try.func174 (impl_isPlain.calls k a0_0 true _ A9.out) ?_; rintro e w10 ⟨rfl, hd⟩; refine ⟨_, rfl, ?_⟩; replace HM := HM.drawn hd; clear hd; obtain ⟨_,_,_,_,_,_⟩ := bk3 (HM.bx 0 rfl)) | ((with_reducible refine gC 174 rfl ?_); refine pC (some 21) rfl #[.string a0_1] rfl Try.func174 (impl_isPlain.calls k a0_1 false _ A13.out) ?_; rintro e w14 ⟨rfl, hd⟩; refine ⟨_, rfl, ?_⟩; replace HM := HM.drawn hd; clear hd))
     go_ret
     exact ⟨ER, (MD HM).pick []⟩
   ·subst c11
    obtain rfl := Option.some.inj H
    go_wp2_with (first | ((with_reducible refine gN 1 rfl ?_); refine pB 1 122 [.string a0_0, .string a0_1, .int .i64 a0_2] HM rfl ?_; clear HM; intro gb256 w2 HM; obtain ⟨_,_,_,_,_,_⟩ := bk3 (HM.bx 0 rfl)) | ((with_reducible refine gC 92 rfl ?_); refine pC (some 6) rfl #[.int .i64 (a0_0.size : Int), .int .i64 1, .int .i64 20] rfl Try.func92 (impl_within.calls (a0_0.size : Int) 1 20 true _ A4.out) ?_; rintro e w5 ⟨rfl, hd⟩; refine ⟨_, rfl, ?_⟩; replace HM := HM.drawn hd; clear hd; obtain ⟨_,_,_,_,_,_⟩ := bk3 (HM.bx 0 rfl)) | ((with_reducible refine gC 174 rfl ?_); refine pC (some 16) rfl #[.string a0_0] rfl Try.func174 (impl_isPlain.calls k a0_0 false _ A9.out) ?_; rintro e w10 ⟨rfl, hd⟩; refine ⟨_, rfl, ?_⟩; replace HM := HM.drawn hd; clear hd))
    go_ret
    exact ⟨ER, (MD HM).pick []⟩
  ·replace c8 : ¬ ((a0_1.size : Int) ≤ 40) := c8
   have c8b0 := decide_eq_false c8
   have c8b1 : decide (a0_1.size ≤ 40) = false := decide_eq_false (by omega)
   clear c8
   obtain rfl := Option.some.inj H
   go_wp2_with (first | ((with_reducible refine gN 1 rfl ?_); refine pB 1 122 [.string a0_0, .string a0_1, .int .i64 a0_2] HM rfl ?_; clear HM; intro gb256 w2 HM; obtain ⟨_,_,_,_,_,_⟩ := bk3 (HM.bx 0 rfl)) | ((with_reducible refine gC 92 rfl ?_); refine pC (some 6) rfl #[.int .i64 (a0_0.size : Int), .int .i64 1, .int .i64 20] rfl Try.func92 (impl_within.calls (a0_0.size : Int) 1 20 true _ A4.out) ?_; rintro e w5 ⟨rfl, hd⟩; refine ⟨_, rfl, ?_⟩; replace HM := HM.drawn hd; clear hd; obtain ⟨_,_,_,_,_,_⟩ := bk3 (HM.bx 0 rfl)))
   go_ret
   exact ⟨ER, (MD HM).pick []⟩
 ·subst c6
  obtain rfl := Option.some.inj H
  go_wp2_with (first | ((with_reducible refine gN 1 rfl ?_); refine pB 1 122 [.string a0_0, .string a0_1, .int .i64 a0_2] HM rfl ?_; clear HM; intro gb256 w2 HM; obtain ⟨_,_,_,_,_,_⟩ := bk3 (HM.bx 0 rfl)) | ((with_reducible refine gC 92 rfl ?_); refine pC (some 6) rfl #[.int .i64 (a0_0.size : Int), .int .i64 1, .int .i64 20] rfl Try.func92 (impl_within.calls (a0_0.size : Int) 1 20 false _ A4.out) ?_; rintro e w5 ⟨rfl, hd⟩; refine ⟨_, rfl, ?_⟩; replace HM := HM.drawn hd; clear hd))
  go_ret
  exact ⟨ER, (MD HM).pick []⟩
def impl_OpOk.f (k : Nat) (a0_0 : Int) (a0_1 : ByteArray) (a0_2 : ByteArray) : Option (Bool) := (impl_within.f a0_0 1 3).bind fun t262 => (if t262 = true then ((impl_ItemOk.f k a0_1 a0_2 0).bind fun t263 => (if t263 = true then (if a0_0 = 2 then (some true) else (some (a0_2.toList == ([] : List UInt8)))) else (some false))) else (some false))
theorem impl_OpOk.calls (k : Nat) (a0_0 : Int) (a0_1 : ByteArray) (a0_2 : ByteArray) (r : Bool) (w : World)  (h : impl_OpOk.f k a0_0 a0_1 a0_2 = some r) :
  Calls Try.prog 70 #[.agg #[.int .i64 a0_0, .string a0_1, .string a0_2]] w fun e w' => e = .returned (.bool r) ∧ Mem w [] w' [] := by
 have hu43 := Try.underlying43
 have hu122 := Try.underlying122
 have HM := Mem.nil w
 have H := h
 clear h
 unfold impl_OpOk.f at H
 go_enter Try.func70, Try.ntmps70
 replace H := BN H; obtain ⟨t262, A4, H⟩ := H
 replace H := IB H
 rcases H with ⟨c6, H⟩ | ⟨c6, H⟩
 ·subst c6
  replace H := BN H; obtain ⟨t263, A8, H⟩ := H
  replace H := IB H
  rcases H with ⟨c10, H⟩ | ⟨c10, H⟩
  ·subst c10
   replace H := IT H; rcases H with ⟨c12, H⟩ | ⟨c12, H⟩
   ·obtain ⟨c12b0, c12b1⟩ := BE c12
    clear c12
    obtain rfl := Option.some.inj H
    go_wp2_with (first | ((with_reducible refine gN 1 rfl ?_); refine pB 1 43 [.int .i64 a0_0, .string a0_1, .string a0_2] HM rfl ?_; clear HM; intro gb261 w2 HM; obtain ⟨_,_,_,_,_,_⟩ := bk3 (HM.bx 0 rfl)) | ((with_reducible refine gC 92 rfl ?_); refine pC (some 5) rfl #[.int .i64 a0_0, .int .i64 1, .int .i64 3] rfl Try.func92 (impl_within.calls a0_0 1 3 true _ A4.out) ?_; rintro e w5 ⟨rfl, hd⟩; refine ⟨_, rfl, ?_⟩; replace HM := HM.drawn hd; clear hd; obtain ⟨_,_,_,_,_,_⟩ := bk3 (HM.bx 0 rfl)) | ((with_reducible refine gC 127 rfl ?_); refine pC (some 12) rfl #[.agg #[.string a0_1, .string a0_2, .int .i64 0]] rfl Try.func127 (impl_ItemOk.calls k a0_1 a0_2 0 true _ A8.out) ?_; rintro e w9 ⟨rfl, hR⟩; refine ⟨_, rfl, ?_⟩; replace HM := HM.call hR; clear hR; obtain ⟨_,_,_,_,_,_⟩ := bk3 (HM.bx 0 rfl)))
    go_ret
    exact ⟨ER, (MD HM).pick []⟩
   ·obtain ⟨c12b0, c12b1⟩ := BF c12
    obtain rfl := Option.some.inj H
    go_wp2_with (first | ((with_reducible refine gN 1 rfl ?_); refine pB 1 43 [.int .i64 a0_0, .string a0_1, .string a0_2] HM rfl ?_; clear HM; intro gb261 w2 HM; obtain ⟨_,_,_,_,_,_⟩ := bk3 (HM.bx 0 rfl)) | ((with_reducible refine gC 92 rfl ?_); refine pC (some 5) rfl #[.int .i64 a0_0, .int .i64 1, .int .i64 3] rfl Try.func92 (impl_within.calls a0_0 1 3 true _ A4.out) ?_; rintro e w5 ⟨rfl, hd⟩; refine ⟨_, rfl, ?_⟩; replace HM := HM.drawn hd; clear hd; obtain ⟨_,_,_,_,_,_⟩ := bk3 (HM.bx 0 rfl)) | ((with_reducible refine gC 127 rfl ?_); refine pC (some 12) rfl #[.agg #[.string a0_1, .string a0_2, .int .i64 0]] rfl Try.func127 (impl_ItemOk.calls k a0_1 a0_2 0 true _ A8.out) ?_; rintro e w9 ⟨rfl, hR⟩; refine ⟨_, rfl, ?_⟩; replace HM := HM.call hR; clear hR; obtain ⟨_,_,_,_,_,_⟩ := bk3 (HM.bx 0 rfl)))
    go_ret
    exact ⟨ER, (MD HM).pick []⟩
  ·subst c10
   obtain rfl := Option.some.inj H
   go_wp2_with (first | ((with_reducible refine gN 1 rfl ?_); refine pB 1 43 [.int .i64 a0_0, .string a0_1, .string a0_2] HM rfl ?_; clear HM; intro gb261 w2 HM; obtain ⟨_,_,_,_,_,_⟩ := bk3 (HM.bx 0 rfl)) | ((with_reducible refine gC 92 rfl ?_); refine pC (some 5) rfl #[.int .i64 a0_0, .int .i64 1, .int .i64 3] rfl Try.func92 (impl_within.calls a0_0 1 3 true _ A4.out) ?_; rintro e w5 ⟨rfl, hd⟩; refine ⟨_, rfl, ?_⟩; replace HM := HM.drawn hd; clear hd; obtain ⟨_,_,_,_,_,_⟩ := bk3 (HM.bx 0 rfl)) | ((with_reducible refine gC 127 rfl ?_); refine pC (some 12) rfl #[.agg #[.string a0_1, .string a0_2, .int .i64 0]] rfl Try.func127 (impl_ItemOk.calls k a0_1 a0_2 0 false _ A8.out) ?_; rintro e w9 ⟨rfl, hR⟩; refine ⟨_, rfl, ?_⟩; replace HM := HM.call hR; clear hR))
   go_ret
   exact ⟨ER, (MD HM).pick []⟩
 ·subst c6
  obtain rfl := Option.some.inj H
  go_wp2_with (first | ((with_reducible refine gN 1 rfl ?_); refine pB 1 43 [.int .i64 a0_0, .string a0_1, .string a0_2] HM rfl ?_; clear HM; intro gb261 w2 HM; obtain ⟨_,_,_,_,_,_⟩ := bk3 (HM.bx 0 rfl)) | ((with_reducible refine gC 92 rfl ?_); refine pC (some 5) rfl #[.int .i64 a0_0, .int .i64 1, .int .i64 3] rfl Try.func92 (impl_within.calls a0_0 1 3 false _ A4.out) ?_; rintro e w5 ⟨rfl, hd⟩; refine ⟨_, rfl, ?_⟩; replace HM := HM.drawn hd; clear hd))
  go_ret
  exact ⟨ER, (MD HM).pick []⟩
def impl_OpText.f (k : Nat) (a0_0 : Int) (a0_1 : ByteArray) (a0_2 : ByteArray) : Option (ByteArray) := (impl_OpOk.f k a0_0 a0_1 a0_2).bind fun t265 => (if t265 = true then (if a0_0 = 1 then (if 4 + a0_1.size ≤ 9223372036854775807 then (some ((⟨#[103, 101, 116, 32]⟩ : ByteArray) ++ a0_1)) else (none)) else (if a0_0 = 2 then (if 4 + a0_1.size ≤ 9223372036854775807 then (if 4 + a0_1.size + 1 ≤ 9223372036854775807 then (if 4 + a0_1.size + 1 + a0_2.size ≤ 9223372036854775807 then (some ((((⟨#[112, 117, 116, 32]⟩ : ByteArray) ++ a0_1) ++ (⟨#[32]⟩ : ByteArray)) ++ a0_2)) else (none)) else (none)) else (none)) else (if 5 + a0_1.size ≤ 9223372036854775807 then (some ((⟨#[100, 114, 111, 112, 32]⟩ : ByteArray) ++ a0_1)) else (none)))) else (some (⟨#[]⟩ : ByteArray)))
theorem impl_OpText.calls (k : Nat) (a0_0 : Int) (a0_1 : ByteArray) (a0_2 : ByteArray) (r : ByteArray) (w : World)  (h : impl_OpText.f k a0_0 a0_1 a0_2 = some r) :
  Calls Try.prog 21 #[.agg #[.int .i64 a0_0, .string a0_1, .string a0_2]] w fun e w' => e = .returned (.string r) ∧ Mem w [] w' [] := by
 have hu43 := Try.underlying43
 have HM := Mem.nil w
 have H := h
 clear h
 unfold impl_OpText.f at H
 go_enter Try.func21, Try.ntmps21
 replace H := BN H; obtain ⟨t265, A4, H⟩ := H
 go_upto_if 5 with (first | ((with_reducible refine gN 1 rfl ?_); refine pB 1 43 [.int .i64 a0_0, .string a0_1, .string a0_2] HM rfl ?_; clear HM; intro gb264 w2 HM; obtain ⟨_,_,_,_,_,_⟩ := bk3 (HM.bx 0 rfl)) | ((with_reducible refine gC 70 rfl ?_); refine pC (some 4) rfl #[.agg #[.int .i64 a0_0, .string a0_1, .string a0_2]] rfl Try.func70 (impl_OpOk.calls k a0_0 a0_1 a0_2 t265 _ A4.out) ?_; rintro e w5 ⟨rfl, hR⟩; refine ⟨_, rfl, ?_⟩; replace HM := HM.call hR; clear hR))
 replace HM := nzM HM
 replace H := IB H
 rcases H with ⟨c6, H⟩ | ⟨c6, H⟩
 ·subst c6
  obtain ⟨_,_,_,_,_,_⟩ := bk3 (HM.bx 0 rfl)
  go_upto_if 8 with (fail)
  replace H := IT H; rcases H with ⟨c8, H⟩ | ⟨c8, H⟩
  ·obtain ⟨c8b0, c8b1⟩ := BE c8
   clear c8
   first|rw [c8b0]|(simp only [i64_w, i32_w]; rw [c8b0])|skip
   replace H := GD H; obtain ⟨c9, H⟩ := H
   have c9b0 := eq_true c9
   have c9b1 : decide (4 + a0_1.size ≤ 9223372036854775807) = true := decide_eq_true c9
   try have c9b2 : (9223372036854775807 < 4 + a0_1.size) = False := eq_false (Nat.not_lt.2 c9)
   obtain rfl := Option.some.inj H
   go_wp2
   go_ret
   exact ⟨ER, (MD HM).pick []⟩
  ·obtain ⟨c8b0, c8b1⟩ := BF c8
   first|rw [c8b0]|(simp only [i64_w, i32_w]; rw [c8b0])|skip
   go_upto_if 13 with (fail)
   replace H := IT H; rcases H with ⟨c10, H⟩ | ⟨c10, H⟩
   ·obtain ⟨c10b0, c10b1⟩ := BE c10
    clear c10
    first|rw [c10b0]|(simp only [i64_w, i32_w]; rw [c10b0])|skip
    replace H := GD H; obtain ⟨c11, H⟩ := H
    have c11b0 := eq_true c11
    have c11b1 : decide (4 + a0_1.size ≤ 9223372036854775807) = true := decide_eq_true c11
    try have c11b2 : (9223372036854775807 < 4 + a0_1.size) = False := eq_false (Nat.not_lt.2 c11)
    replace H := GD H; obtain ⟨c12, H⟩ := H
    have c12b0 := eq_true c12
    have c12b1 : decide (4 + a0_1.size + 1 ≤ 9223372036854775807) = true := decide_eq_true c12
    try have c12b2 : (9223372036854775807 < 4 + a0_1.size + 1) = False := eq_false (Nat.not_lt.2 c12)
    replace H := GD H; obtain ⟨c13, H⟩ := H
    have c13b0 := eq_true c13
    have c13b1 : decide (4 + a0_1.size + 1 + a0_2.size ≤ 9223372036854775807) = true := decide_eq_true c13
    try have c13b2 : (9223372036854775807 < 4 + a0_1.size + 1 + a0_2.size) = False := eq_false (Nat.not_lt.2 c13)
    obtain rfl := Option.some.inj H
    go_wp2
    go_ret
    exact ⟨ER, (MD HM).pick []⟩
   ·obtain ⟨c10b0, c10b1⟩ := BF c10
    first|rw [c10b0]|(simp only [i64_w, i32_w]; rw [c10b0])|skip
    replace H := GD H; obtain ⟨c14, H⟩ := H
    have c14b0 := eq_true c14
    have c14b1 : decide (5 + a0_1.size ≤ 9223372036854775807) = true := decide_eq_true c14
    try have c14b2 : (9223372036854775807 < 5 + a0_1.size) = False := eq_false (Nat.not_lt.2 c14)
    obtain rfl := Option.some.inj H
    go_wp2
    go_ret
    exact ⟨ER, (MD HM).pick []⟩
 ·subst c6
  obtain rfl := Option.some.inj H
  go_wp2
  go_ret
  exact ⟨ER, (MD HM).pick []⟩
def impl_split.l0 : Nat → ByteArray → Int → List ByteArray → Int → Int → Option (List ByteArray)
 | 0, _, _, _, _, _ => none
 | k + 1, x0, x1, x5, x6, x7 => if x7 < (x0.size : Int) then (if 0 ≤ x7 then (if (bt x0 x7) = x1 then (if 0 ≤ x6 then (if x6 ≤ x7 then (if x7 ≤ (x0.size : Int) then (if x5.length < 8796093022208 then (impl_split.l0 k x0 x1 (x5 ++ [x0.extract (x6 : Int).toNat (x7 : Int).toNat]) (wrap64 (x7 + 1)) (wrap64 (x7 + 1))) else (none)) else (none)) else (none)) else (none)) else (impl_split.l0 k x0 x1 x5 x6 (wrap64 (x7 + 1)))) else (none)) else (if 0 ≤ x6 then (if x6 ≤ (x0.size : Int) then (if x5.length < 8796093022208 then (some (x5 ++ [x0.extract (x6 : Int).toNat x0.size])) else (none)) else (none)) else (none))
def impl_split.f (k : Nat) (a0 : ByteArray) (a1 : Int) : Option (List ByteArray) := impl_split.l0 k a0 a1 (([] : List ByteArray)) 0 0
theorem impl_split.calls (k : Nat) (a0 : ByteArray) (a1 : Int) (r : List ByteArray) (w : World)  (h : impl_split.f k a0 a1 = some r) :
  Calls Try.prog 63 #[.string a0, .int .u8 a1] w fun e w' => ∃ v0_ : Value, e = .returned (v0_) ∧ Mem w [] w' [rowR Kd.string 9 v0_ r] := by
 have HM := Mem.nil w
 have H := h
 clear h
 unfold impl_split.f at H
 go_enter Try.func63, Try.ntmps63
 have H' := Aside0.mk H
 clear H
 go_wp2_with (first | ((with_reducible refine gN 8 rfl ?_); refine pL 8 Kd.string 9 ([] : List ByteArray) [] (Reps.none _ _) HM rfl ?_; clear HM; intro v241 w3 HM))
 go_loopg [5, 6, 7] k (fun kq v5 v6 v7 w' => ∃ (x5_1 : List ByteArray) (x6_1 : Int) (x7_1 : Int), v6 = .int .i64 x6_1 ∧ v7 = .int .i64 x7_1 ∧ Aside0 (impl_split.l0 kq a0 a1 x5_1 x6_1 x7_1 = some r) ∧ Aside0 (kq ≤ k) ∧ Mem w [] w' [rowR Kd.string 9 v5 x5_1])
 case atStart => exact ⟨((([] : List ByteArray))), (0), (0), RS, RS, H', ⟨Nat.le_refl _⟩, (MD HM).pick [0]⟩
 case round =>
  clear H' HM
  obtain ⟨x5_1, x6_1, x7_1, rfl, rfl, HA, HK1, HM⟩ := hrel
  cases gk with
  | zero => exact absurd HA.out (by simp [impl_split.l0])
  | succ k1 =>
   have H := HA.out
   clear HA
   simp only [impl_split.l0] at H
   go_upto_if 12 with (fail)
   replace H := IT H; rcases H with ⟨c4, H⟩ | ⟨c4, H⟩
   ·have c4b0 := decide_eq_true c4
    clear c4
    first|rw [c4b0]|(simp only [i64_w, i32_w]; rw [c4b0])|skip
    replace H := GD H; obtain ⟨c5, H⟩ := H
    have c5b0 := decide_eq_true c5
    clear c5
    have p6 : 0 ≤ (x7_1 : Int) := of_decide_eq_true AS
    have q6 : x7_1 < (a0.size : Int) := of_decide_eq_true AS
    have hx6 := bt_at a0 x7_1
    replace p6 := eq_true p6
    replace q6 := eq_true q6
    go_upto_if 19 with (fail)
    replace H := IT H; rcases H with ⟨c7, H⟩ | ⟨c7, H⟩
    ·obtain ⟨c7b0, c7b1⟩ := BE c7
     clear c7
     first|rw [c7b0]|(simp only [i64_w, i32_w]; rw [c7b0])|skip
     replace H := GD H; obtain ⟨c8, H⟩ := H
     have c8b0 := eq_true c8
     have c8b1 : decide (0 ≤ x6_1) = true := decide_eq_true c8
     clear c8
     replace H := GD H; obtain ⟨c9, H⟩ := H
     have c9b0 := eq_true c9
     have c9b1 : decide (x6_1 ≤ x7_1) = true := decide_eq_true c9
     clear c9
     replace H := GD H; obtain ⟨c10, H⟩ := H
     have c10b0 := eq_true c10
     have c10b1 : decide (x7_1 ≤ (a0.size : Int)) = true := decide_eq_true c10
     clear c10
     replace H := GD H; obtain ⟨c11, H⟩ := H
     have LMc11 := Aside0.mk c11
     clear c11
     have H' := Aside0.mk H
     clear H
     go_wp2_with (first | ((with_reducible refine gN 25 rfl ?_); refine pL 25 Kd.string 9 [a0.extract (x6_1 : Int).toNat (x7_1 : Int).toNat] [.string (a0.extract (x6_1 : Int).toNat (x7_1 : Int).toNat)] (Reps.one (show Kd.M Kd.string _ _ _ (a0.extract (x6_1 : Int).toNat (x7_1 : Int).toNat) [.string (a0.extract (x6_1 : Int).toNat (x7_1 : Int).toNat)] from rfl) (Reps.none _ _)) HM rfl ?_; clear HM; intro v13 w12 HM; obtain ⟨Xv13, kv13, rfl⟩ := HM.rdR 1 rfl) | ((with_reducible refine gate_builtin (b := .append) (xs := #[.tmp 20, .tmp 25]) rfl ?_); refine pA 0 (.tmp 20) (.tmp 25) 47 9 Kd.string u5 x5_1 [a0.extract (x6_1 : Int).toNat (x7_1 : Int).toNat] Xv13 ([a0.extract (x6_1 : Int).toNat (x7_1 : Int).toNat].length) kv13 HM rfl Try.underlying47 info9 rfl (HM.CR 1 rfl).2.2 (by have h_ := LMc11.out; simp only [List.length_singleton]; omega) ?_; clear HM; intro v244 w14 HM))
     go_roundg k1
     case measure => have := HK1.out; omega
     case rel => exact ⟨((x5_1 ++ [a0.extract (x6_1 : Int).toNat (x7_1 : Int).toNat])), (wrap64 (x7_1 + 1)), (wrap64 (x7_1 + 1)), RS, RS, H', ⟨by have := HK1.out; omega⟩, (MD HM).pick [0]⟩
    ·obtain ⟨c7b0, c7b1⟩ := BF c7
     first|rw [c7b0]|(simp only [i64_w, i32_w]; rw [c7b0])|skip
     have H' := Aside0.mk H
     clear H
     go_wp2
     go_roundg k1
     case measure => have := HK1.out; omega
     case rel => exact ⟨(x5_1), (x6_1), (wrap64 (x7_1 + 1)), RS, RS, H', ⟨by have := HK1.out; omega⟩, (MD HM).pick [0]⟩
   ·have c4b0 := decide_eq_false c4
    clear c4
    first|rw [c4b0]|(simp only [i64_w, i32_w]; rw [c4b0])|skip
    replace H := GD H; obtain ⟨c15, H⟩ := H
    have c15b0 := eq_true c15
    have c15b1 : decide (0 ≤ x6_1) = true := decide_eq_true c15
    clear c15
    replace H := GD H; obtain ⟨c16, H⟩ := H
    have c16b0 := eq_true c16
    have c16b1 : decide (x6_1 ≤ (a0.size : Int)) = true := decide_eq_true c16
    clear c16
    replace H := GD H; obtain ⟨c17, H⟩ := H
    have LMc17 := Aside0.mk c17
    clear c17
    obtain rfl := Option.some.inj H
    go_wp2_with (first | ((with_reducible refine gN 33 rfl ?_); refine pL 33 Kd.string 9 [a0.extract (x6_1 : Int).toNat a0.size] [.string (a0.extract (x6_1 : Int).toNat a0.size)] (Reps.one (show Kd.M Kd.string _ _ _ (a0.extract (x6_1 : Int).toNat a0.size) [.string (a0.extract (x6_1 : Int).toNat a0.size)] from rfl) (Reps.none _ _)) HM rfl ?_; clear HM; intro v19 w18 HM; obtain ⟨Xv19, kv19, rfl⟩ := HM.rdR 1 rfl) | ((with_reducible refine gate_builtin (b := .append) (xs := #[.tmp 29, .tmp 33]) rfl ?_); refine pA 0 (.tmp 29) (.tmp 33) 47 9 Kd.string u5 x5_1 [a0.extract (x6_1 : Int).toNat a0.size] Xv19 ([a0.extract (x6_1 : Int).toNat a0.size].length) kv19 HM rfl Try.underlying47 info9 rfl (HM.CR 1 rfl).2.2 (by have h_ := LMc17.out; simp only [List.length_singleton]; omega) ?_; clear HM; intro v247 w20 HM))
    go_ret
    exact ⟨_, ER, (MD HM).pick [0]⟩
def impl_Cut.f (k : Nat) (a0 : ByteArray) : Option (List ByteArray) := (impl_split.f k a0 32).bind fun t266 => (some t266)
theorem impl_Cut.calls (k : Nat) (a0 : ByteArray) (r : List ByteArray) (w : World)  (h : impl_Cut.f k a0 = some r) :
  Calls Try.prog 69 #[.string a0] w fun e w' => ∃ v0_ : Value, e = .returned (v0_) ∧ Mem w [] w' [rowR Kd.string 9 v0_ r] := by
 have HM := Mem.nil w
 have H := h
 clear h
 unfold impl_Cut.f at H
 go_enter Try.func69, Try.ntmps69
 replace H := BN H; obtain ⟨t266, A2, H⟩ := H
 obtain rfl := Option.some.inj H
 go_wp2_with (first | ((with_reducible refine gC 63 rfl ?_); refine pC (some 4) rfl #[.string a0, .int .u8 32] rfl Try.func63 (impl_split.calls k a0 32 t266 _ A2.out) ?_; rintro e w3 ⟨v267, rfl, hR⟩; refine ⟨_, rfl, ?_⟩; replace HM := HM.call hR; clear hR))
 go_ret
 exact ⟨_, ER, (MD HM).pick [0]⟩
mutual
def impl_TextOp.j2 : Nat → ByteArray → Int → ByteArray → ByteArray → Option (Int × ByteArray × ByteArray × Bool)
 | 0, _, _, _, _ => none
 | k + 1, x0, x274000, x274001, x274002 => (impl_OpOk.f k x274000 x274001 x274002).bind fun t281 => (if t281 = true then ((impl_OpText.f k x274000 x274001 x274002).bind fun t282 => (if t282.toList = x0.toList then (some (x274000, x274001, x274002, true)) else (some (0, (⟨#[]⟩ : ByteArray), (⟨#[]⟩ : ByteArray), false)))) else (some (0, (⟨#[]⟩ : ByteArray), (⟨#[]⟩ : ByteArray), false)))
def impl_TextOp.j0 : Nat → ByteArray → List ByteArray → Bool → Int → ByteArray → ByteArray → Option (Int × ByteArray × ByteArray × Bool)
 | 0, _, _, _, _, _, _ => none
 | k + 1, x0, x4, x9, x274000, x274001, x274002 => if x9 = true then (if 1 < (x4.length : Int) then (impl_TextOp.j2 k x0 1 (rdOf ByteArray.empty x4 1) (⟨#[]⟩ : ByteArray)) else (none)) else (if 0 < (x4.length : Int) then (if (rdOf ByteArray.empty x4 0).toList = ([112, 117, 116] : List UInt8) then (impl_TextOp.j1 k x0 x4 ((x4.length : Int) == 3) x274000 x274001 x274002) else (impl_TextOp.j1 k x0 x4 false x274000 x274001 x274002)) else (none))
def impl_TextOp.j1 : Nat → ByteArray → List ByteArray → Bool → Int → ByteArray → ByteArray → Option (Int × ByteArray × ByteArray × Bool)
 | 0, _, _, _, _, _, _ => none
 | k + 1, x0, x4, x23, x274000, x274001, x274002 => if x23 = true then (if 1 < (x4.length : Int) then (if 2 < (x4.length : Int) then (impl_TextOp.j2 k x0 2 (rdOf ByteArray.empty x4 1) (rdOf ByteArray.empty x4 2)) else (none)) else (none)) else (if 0 < (x4.length : Int) then (if (rdOf ByteArray.empty x4 0).toList = ([100, 114, 111, 112] : List UInt8) then (if (x4.length : Int) = 2 then (if 1 < (x4.length : Int) then (impl_TextOp.j2 k x0 3 (rdOf ByteArray.empty x4 1) (⟨#[]⟩ : ByteArray)) else (none)) else (impl_TextOp.j2 k x0 x274000 x274001 x274002)) else (impl_TextOp.j2 k x0 x274000 x274001 x274002)) else (none))
end
def impl_TextOp.f (k : Nat) (a0 : ByteArray) : Option (Int × ByteArray × ByteArray × Bool) := (impl_Cut.f k a0).bind fun t270 => (if 0 < (t270.length : Int) then (if (rdOf ByteArray.empty t270 0).toList = ([103, 101, 116] : List UInt8) then (impl_TextOp.j0 k a0 t270 ((t270.length : Int) == 2) 0 (⟨#[]⟩ : ByteArray) (⟨#[]⟩ : ByteArray)) else (impl_TextOp.j0 k a0 t270 false 0 (⟨#[]⟩ : ByteArray) (⟨#[]⟩ : ByteArray))) else (none))
def impl_TextOp.T6 : Bool × List (List Nat × List Nat) := (true, [([], []), ([0], [0]), ([1], [1]), ([], []), ([3], [3]), ([4], [4]), ([2, 5], [2, 5]), ([6, 0, 1, 2, 3, 4, 5, 6], [6])])
def impl_TextOp.B6 : List Nat := [0, 1, 3, 0, 8, 24, 63, 127]
theorem impl_TextOp.tab6 : rtab .any (opsOf Try.f20 6) = impl_TextOp.T6 := by kernel_rfl
theorem impl_TextOp.bits6 : waitsOk impl_TextOp.T6.2 impl_TextOp.B6 = true := by kernel_rfl
theorem impl_TextOp.z0 {P : Prop} (h : P := by have := HJ7.out; have := HJ15.out; first | omega | exact Nat.le_refl _) : P := h
theorem impl_TextOp.calls (k : Nat) (a0 : ByteArray) (r1 : Int) (r2 : ByteArray) (r3 : ByteArray) (r4 : Bool) (w : World)  (h : impl_TextOp.f k a0 = some (r1, r2, r3, r4)) :
  Calls Try.prog 20 #[.string a0] w fun e w' => e = .returned (.tuple #[.agg #[.int .i64 r1, .string r2, .string r3], .bool r4]) ∧ Mem w [] w' [] := by
 have hu43 := Try.underlying43
 have HM := Mem.nil w
 have H := h
 clear h
 unfold impl_TextOp.f at H
 go_enter Try.func20, Try.ntmps20
 replace H := BN H; obtain ⟨t270, A3, H⟩ := H
 have HC7 := Aside0.mk H
 clear H
 go_upto_block 0 with (first | ((with_reducible refine gN 2 rfl ?_); refine pB 2 43 [.int .i64 0, .string (⟨#[]⟩ : ByteArray), .string (⟨#[]⟩ : ByteArray)] HM rfl ?_; clear HM; intro gb269 w2 HM) | ((with_reducible refine gC 69 rfl ?_); refine pC (some 7) rfl #[.string a0] rfl Try.func69 (impl_Cut.calls k a0 t270 _ A3.out) ?_; rintro e w4 ⟨v271, rfl, hR⟩; refine ⟨_, rfl, ?_⟩; replace HM := HM.call hR; clear hR) | ((with_reducible refine gN 5 rfl ?_); refine pB 5 43 [.int .i64 0, .string (⟨#[]⟩ : ByteArray), .string (⟨#[]⟩ : ByteArray)] HM rfl ?_; clear HM; intro gb273 w5 HM) | ((with_reducible refine gS 5 rfl ?_); refine pS 2 5 0 [.int .i64 0, .string (⟨#[]⟩ : ByteArray), .string (⟨#[]⟩ : ByteArray)] HM rfl rfl ?_; clear HM; intro w6 HM))
 replace HM := nzM HM
 try simp only [Act.put, List.setIfInBounds_toArray, List.set_cons_zero, List.set_cons_succ]
 go_cut [] (fun wc => ∃ (kq : Nat) (x274000_6 : Int) (x274001_6 : ByteArray) (x274002_6 : ByteArray), Aside0 (impl_TextOp.j2 kq a0 x274000_6 x274001_6 x274002_6 = some (r1, r2, r3, r4)) ∧ Aside0 (kq ≤ k) ∧ Mem w [] wc [box 43 gb269 [.int .i64 0, .string (⟨#[]⟩ : ByteArray), .string (⟨#[]⟩ : ByteArray)], box 43 gb273 [.int .i64 x274000_6, .string x274001_6, .string x274002_6]])
 case first =>
  have H := HC7.out
  clear HC7
  have HC8 := Aside0.mk H
  clear H
  go_upto_region 3 with (fail)
  go_cut [9] (fun v9 wc => ∃ (kq : Nat) (x9_7 : Bool), v9 = .bool x9_7 ∧ Aside0 (impl_TextOp.j0 kq a0 t270 x9_7 0 (⟨#[]⟩ : ByteArray) (⟨#[]⟩ : ByteArray) = some (r1, r2, r3, r4)) ∧ Aside0 (kq ≤ k) ∧ Mem w [] wc [rowR Kd.string 9 v271 t270, box 43 gb269 [.int .i64 0, .string (⟨#[]⟩ : ByteArray), .string (⟨#[]⟩ : ByteArray)], box 43 gb273 [.int .i64 0, .string (⟨#[]⟩ : ByteArray), .string (⟨#[]⟩ : ByteArray)]])
  case first =>
   have H := HC8.out
   clear HC8
   replace H := GD H; obtain ⟨c9, H⟩ := H
   replace c9 : 0 < (t270.length : Int) := c9
   have c9b0 := decide_eq_true c9
   have c9b1 : decide (0 < t270.length) = true := decide_eq_true (by omega)
   have c9b9 : decide (0 < t270.length) = true := decide_eq_true (by omega)
   clear c9
   replace H := IT H; rcases H with ⟨c11, H⟩ | ⟨c11, H⟩
   ·obtain ⟨c11b0, c11b1⟩ := BE c11
    clear c11
    have H' := Aside0.mk H
    clear H
    obtain ⟨Xo10, ko10, rfl⟩ := HM.rdR 1 rfl
    have p274 : 0 ≤ (0 : Int) := (by omega)
    have q274 : (0 : Int) < (t270.length : Int) := of_decide_eq_true AS
    obtain ⟨ad274, e274, hx274_0⟩ := Kd.at_string (HM.CR 1 rfl).2.2 0 p274 q274
    cases e274
    have qi274 : (0 < t270.length) = True := eq_true (by omega)
    (try rw [show ((0 : Int)).toNat = 0 from rfl] at hx274_0)
    (try rw [Addr.add_zero'] at hx274_0)
    replace p274 := eq_true p274
    replace q274 := eq_true q274
    go_wp2
    go_meet
    case rel => exact ⟨_, (((t270.length : Int) == 2)), RS, H', ⟨by first | omega | exact Nat.le_refl _⟩, (MD HM).pick [1, 0, 2]⟩
   ·obtain ⟨c11b0, c11b1⟩ := BF c11
    have H' := Aside0.mk H
    clear H
    obtain ⟨Xo10, ko10, rfl⟩ := HM.rdR 1 rfl
    have p274 : 0 ≤ (0 : Int) := (by omega)
    have q274 : (0 : Int) < (t270.length : Int) := of_decide_eq_true AS
    obtain ⟨ad274, e274, hx274_0⟩ := Kd.at_string (HM.CR 1 rfl).2.2 0 p274 q274
    cases e274
    have qi274 : (0 < t270.length) = True := eq_true (by omega)
    (try rw [show ((0 : Int)).toNat = 0 from rfl] at hx274_0)
    (try rw [Addr.add_zero'] at hx274_0)
    replace p274 := eq_true p274
    replace q274 := eq_true q274
    go_wp2
    go_meet
    case rel => exact ⟨_, (false), RS, H', ⟨by first | omega | exact Nat.le_refl _⟩, (MD HM).pick [1, 0, 2]⟩
  case rest =>
   clear HC8 HM
   obtain ⟨kq, x9_7, rfl, HA, HJ7, HM⟩ := hcut
   cases kq with
   | zero => exact absurd HA.out (by simp [impl_TextOp.j0])
   | succ kj7 =>
    have H := HA.out
    clear HA
    simp only [impl_TextOp.j0] at H
    go_upto_if 9 with (fail)
    replace H := IB H
    rcases H with ⟨c12, H⟩ | ⟨c12, H⟩
    ·subst c12
     replace H := GD H; obtain ⟨c13, H⟩ := H
     replace c13 : 1 < (t270.length : Int) := c13
     have c13b0 := decide_eq_true c13
     have c13b1 : decide (1 < t270.length) = true := decide_eq_true (by omega)
     have c13b9 : decide (1 < t270.length) = true := decide_eq_true (by omega)
     clear c13
     have H' := Aside0.mk H
     clear H
     obtain ⟨Xo14, ko14, rfl⟩ := HM.rdR 0 rfl
     have p275 : 0 ≤ (1 : Int) := (by omega)
     have q275 : (1 : Int) < (t270.length : Int) := of_decide_eq_true AS
     obtain ⟨ad275, e275, hx275_0⟩ := Kd.at_string (HM.CR 0 rfl).2.2 1 p275 q275
     cases e275
     have qi275 : (1 < t270.length) = True := eq_true (by omega)
     (try rw [show ((1 : Int)).toNat = 1 from rfl] at hx275_0)
     (try simp only [Nat.reduceMul, Nat.reduceEqDiff, Go.Addr.add, ↓reduceIte] at hx275_0)
     replace p275 := eq_true p275
     replace q275 := eq_true q275
     go_wp2_with (first | ((with_reducible refine gS 5 rfl ?_); refine pS 2 5 0 [.int .i64 1, .string (rdOf ByteArray.empty t270 1), .string (⟨#[]⟩ : ByteArray)] HM rfl rfl ?_; clear HM; intro w15 HM))
     go_meet
     case rel => exact ⟨_, (1), (rdOf ByteArray.empty t270 1), ((⟨#[]⟩ : ByteArray)), H', ⟨by have := HJ7.out; first | omega | exact Nat.le_refl _⟩, (MD HM).pick [1, 2]⟩
    ·subst c12
     have HC16 := Aside0.mk H
     clear H
     go_upto_region 5 with (fail)
     go_cut [23] (fun v23 wc => ∃ (kq : Nat) (x23_15 : Bool), v23 = .bool x23_15 ∧ Aside0 (impl_TextOp.j1 kq a0 t270 x23_15 0 (⟨#[]⟩ : ByteArray) (⟨#[]⟩ : ByteArray) = some (r1, r2, r3, r4)) ∧ Aside0 (kq ≤ kj7) ∧ Mem w [] wc [rowR Kd.string 9 v271 t270, box 43 gb269 [.int .i64 0, .string (⟨#[]⟩ : ByteArray), .string (⟨#[]⟩ : ByteArray)], box 43 gb273 [.int .i64 0, .string (⟨#[]⟩ : ByteArray), .string (⟨#[]⟩ : ByteArray)]])
     case first =>
      have H := HC16.out
      clear HC16
      replace H := GD H; obtain ⟨c17, H⟩ := H
      replace c17 : 0 < (t270.length : Int) := c17
      have c17b0 := decide_eq_true c17
      have c17b1 : decide (0 < t270.length) = true := decide_eq_true (by omega)
      have c17b9 : decide (0 < t270.length) = true := decide_eq_true (by omega)
      clear c17
      replace H := IT H; rcases H with ⟨c19, H⟩ | ⟨c19, H⟩
      ·obtain ⟨c19b0, c19b1⟩ := BE c19
       clear c19
       have H' := Aside0.mk H
       clear H
       obtain ⟨Xo18, ko18, rfl⟩ := HM.rdR 0 rfl
       have p276 : 0 ≤ (0 : Int) := (by omega)
       have q276 : (0 : Int) < (t270.length : Int) := of_decide_eq_true AS
       obtain ⟨ad276, e276, hx276_0⟩ := Kd.at_string (HM.CR 0 rfl).2.2 0 p276 q276
       cases e276
       have qi276 : (0 < t270.length) = True := eq_true (by omega)
       (try rw [show ((0 : Int)).toNat = 0 from rfl] at hx276_0)
       (try rw [Addr.add_zero'] at hx276_0)
       replace p276 := eq_true p276
       replace q276 := eq_true q276
       go_wp2
       go_meet
       case rel => exact ⟨_, (((t270.length : Int) == 3)), RS, H', ⟨by have := HJ7.out; first | omega | exact Nat.le_refl _⟩, (MD HM).pick [0, 1, 2]⟩
      ·obtain ⟨c19b0, c19b1⟩ := BF c19
       have H' := Aside0.mk H
       clear H
       obtain ⟨Xo18, ko18, rfl⟩ := HM.rdR 0 rfl
       have p276 : 0 ≤ (0 : Int) := (by omega)
       have q276 : (0 : Int) < (t270.length : Int) := of_decide_eq_true AS
       obtain ⟨ad276, e276, hx276_0⟩ := Kd.at_string (HM.CR 0 rfl).2.2 0 p276 q276
       cases e276
       have qi276 : (0 < t270.length) = True := eq_true (by omega)
       (try rw [show ((0 : Int)).toNat = 0 from rfl] at hx276_0)
       (try rw [Addr.add_zero'] at hx276_0)
       replace p276 := eq_true p276
       replace q276 := eq_true q276
       go_wp2
       go_meet
       case rel => exact ⟨_, (false), RS, H', ⟨by have := HJ7.out; first | omega | exact Nat.le_refl _⟩, (MD HM).pick [0, 1, 2]⟩
     case rest =>
      clear HC16 HM
      obtain ⟨kq, x23_15, rfl, HA, HJ15, HM⟩ := hcut
      cases kq with
      | zero => exact absurd HA.out (by simp [impl_TextOp.j1])
      | succ kj15 =>
       have H := HA.out
       clear HA
       simp only [impl_TextOp.j1] at H
       go_upto_if 23 with (fail)
       replace H := IB H
       rcases H with ⟨c20, H⟩ | ⟨c20, H⟩
       ·subst c20
        try go_wp2
        replace H := GD H; obtain ⟨c21, H⟩ := H
        replace c21 : 1 < (t270.length : Int) := c21
        have c21b0 := decide_eq_true c21
        have c21b1 : decide (1 < t270.length) = true := decide_eq_true (by omega)
        have c21b9 : decide (1 < t270.length) = true := decide_eq_true (by omega)
        clear c21
        replace H := GD H; obtain ⟨c22, H⟩ := H
        replace c22 : 2 < (t270.length : Int) := c22
        have c22b0 := decide_eq_true c22
        have c22b1 : decide (2 < t270.length) = true := decide_eq_true (by omega)
        have c22b9 : decide (2 < t270.length) = true := decide_eq_true (by omega)
        clear c22
        obtain ⟨Xo28, ko28, rfl⟩ := HM.rdR 0 rfl
        have p277 : 0 ≤ (1 : Int) := (by omega)
        have q277 : (1 : Int) < (t270.length : Int) := of_decide_eq_true AS
        obtain ⟨ad277, e277, hx277_0⟩ := Kd.at_string (HM.CR 0 rfl).2.2 1 p277 q277
        cases e277
        have qi277 : (1 < t270.length) = True := eq_true (by omega)
        (try rw [show ((1 : Int)).toNat = 1 from rfl] at hx277_0)
        (try simp only [Nat.reduceMul, Nat.reduceEqDiff, Go.Addr.add, ↓reduceIte] at hx277_0)
        replace p277 := eq_true p277
        replace q277 := eq_true q277
        have p278 : 0 ≤ (2 : Int) := (by omega)
        have q278 : (2 : Int) < (t270.length : Int) := of_decide_eq_true AS
        obtain ⟨ad278, e278, hx278_0⟩ := Kd.at_string (HM.CR 0 rfl).2.2 2 p278 q278
        obtain rfl := Option.some.inj e278
        have qi278 : (2 < t270.length) = True := eq_true (by omega)
        (try rw [show ((2 : Int)).toNat = 2 from rfl] at hx278_0)
        (try simp only [Nat.reduceMul, Nat.reduceEqDiff, Go.Addr.add, ↓reduceIte] at hx278_0)
        replace p278 := eq_true p278
        replace q278 := eq_true q278
        refine RGN 8 [0, 1, 2, 3, 4, 5, 6, 7] (fun a0 b a w' => a = putSel a0 b [(0, 33, .slice (some ad277) t270.length ko28), (1, 34, .pointer (some (ad277.add 1))), (2, 35, .string (rdOf ByteArray.empty t270 1)), (3, 36, .slice (some ad277) t270.length ko28), (4, 37, .pointer (some (ad277.add 2))), (5, 38, .string (rdOf ByteArray.empty t270 2)), (6, 39, .agg #[.int .i64 2, .string (rdOf ByteArray.empty t270 1), .string (rdOf ByteArray.empty t270 2)])] ∧ Mem w [] w' [rowR Kd.string 9 (.slice (some ad277) t270.length ko28) t270, box 43 gb269 [.int .i64 0, .string (⟨#[]⟩ : ByteArray), .string (⟨#[]⟩ : ByteArray)], sel (b 7) (box 43 gb273 [.int .i64 2, .string (rdOf ByteArray.empty t270 1), .string (rdOf ByteArray.empty t270 2)]) (box 43 gb273 [.int .i64 0, .string (⟨#[]⟩ : ByteArray), .string (⟨#[]⟩ : ByteArray)])]) impl_TextOp.tab6 impl_TextOp.bits6 ?_ ?_ ?_
        ·exact ⟨PS0' rfl _, (HM.drew).pick [0, 1, 2]⟩
        ·clear HM
         refine SY ?_ ?_
         ·intro b a w ha HM hb hon hoff K hK
          have e4 := PG ha 4
          exact VL (.slice (some ad277) t270.length ko28) (hK.out _ _ ⟨PUT ha 0 hb, HM⟩)
         refine SY ?_ ?_
         ·intro b a w ha HM hb hon hoff K hK
          have p277 : 0 ≤ (1 : Int) := (by omega)
          have q277 : (1 : Int) < (t270.length : Int) := of_decide_eq_true AS
          obtain ⟨ad277, e277, hx277_0⟩ := Kd.at_string (HM.CR 0 rfl).2.2 1 p277 q277
          obtain rfl := Option.some.inj e277
          have qi277 : (1 < t270.length) = True := eq_true (by omega)
          (try rw [show ((1 : Int)).toNat = 1 from rfl] at hx277_0)
          (try simp only [Nat.reduceMul, Nat.reduceEqDiff, Go.Addr.add, ↓reduceIte] at hx277_0)
          replace p277 := eq_true p277
          replace q277 := eq_true q277
          have e33 := PE ha 0 hon
          exact VL (.pointer (some (ad277.add 1))) (hK.out _ _ ⟨PUT ha 1 hb, HM⟩)
         refine SY ?_ ?_
         ·intro b a w ha HM hb hon hoff K hK
          have p277 : 0 ≤ (1 : Int) := (by omega)
          have q277 : (1 : Int) < (t270.length : Int) := of_decide_eq_true AS
          obtain ⟨ad277, e277, hx277_0⟩ := Kd.at_string (HM.CR 0 rfl).2.2 1 p277 q277
          obtain rfl := Option.some.inj e277
          have qi277 : (1 < t270.length) = True := eq_true (by omega)
          (try rw [show ((1 : Int)).toNat = 1 from rfl] at hx277_0)
          (try simp only [Nat.reduceMul, Nat.reduceEqDiff, Go.Addr.add, ↓reduceIte] at hx277_0)
          replace p277 := eq_true p277
          replace q277 := eq_true q277
          have e34 := PE ha 1 hon
          exact VL (.string (rdOf ByteArray.empty t270 1)) (hK.out _ _ ⟨PUT ha 2 hb, HM⟩)
         refine SY ?_ ?_
         ·intro b a w ha HM hb hon hoff K hK
          have e4 := PG ha 4
          exact VL (.slice (some ad277) t270.length ko28) (hK.out _ _ ⟨PUT ha 3 hb, HM⟩)
         refine SY ?_ ?_
         ·intro b a w ha HM hb hon hoff K hK
          have p278 : 0 ≤ (2 : Int) := (by omega)
          have q278 : (2 : Int) < (t270.length : Int) := of_decide_eq_true AS
          obtain ⟨ad278, e278, hx278_0⟩ := Kd.at_string (HM.CR 0 rfl).2.2 2 p278 q278
          obtain rfl := Option.some.inj e278
          have qi278 : (2 < t270.length) = True := eq_true (by omega)
          (try rw [show ((2 : Int)).toNat = 2 from rfl] at hx278_0)
          (try simp only [Nat.reduceMul, Nat.reduceEqDiff, Go.Addr.add, ↓reduceIte] at hx278_0)
          replace p278 := eq_true p278
          replace q278 := eq_true q278
          have e36 := PE ha 3 hon
          exact VL (.pointer (some (ad277.add 2))) (hK.out _ _ ⟨PUT ha 4 hb, HM⟩)
         refine SY ?_ ?_
         ·intro b a w ha HM hb hon hoff K hK
          have p278 : 0 ≤ (2 : Int) := (by omega)
          have q278 : (2 : Int) < (t270.length : Int) := of_decide_eq_true AS
          obtain ⟨ad278, e278, hx278_0⟩ := Kd.at_string (HM.CR 0 rfl).2.2 2 p278 q278
          obtain rfl := Option.some.inj e278
          have qi278 : (2 < t270.length) = True := eq_true (by omega)
          (try rw [show ((2 : Int)).toNat = 2 from rfl] at hx278_0)
          (try simp only [Nat.reduceMul, Nat.reduceEqDiff, Go.Addr.add, ↓reduceIte] at hx278_0)
          replace p278 := eq_true p278
          replace q278 := eq_true q278
          have e37 := PE ha 4 hon
          exact VL (.string (rdOf ByteArray.empty t270 2)) (hK.out _ _ ⟨PUT ha 5 hb, HM⟩)
         refine SY ?_ ?_
         ·intro b a w ha HM hb hon hoff K hK
          have e35 := PE ha 2 hon
          have e38 := PE ha 5 hon
          exact VL (.agg #[.int .i64 2, .string (rdOf ByteArray.empty t270 1), .string (rdOf ByteArray.empty t270 2)]) (hK.out _ _ ⟨PUT ha 6 hb, HM⟩)
         refine SY ?_ ?_
         ·intro b a w ha HM hb hon hoff K hK
          replace HM := HM.sF 2 rfl hb
          have e5 := PG ha 5
          have e39 := PE ha 6 hon
          refine ST (eS 2 5 0 [.int .i64 2, .string (rdOf ByteArray.empty t270 1), .string (rdOf ByteArray.empty t270 2)] HM rfl rfl ?_ (hp := (eval_of e5)) (hx := (by rw [eval_of e39]; rfl)))
          clear HM
          intro w29 HM
          exact hK.out _ _ ⟨PUS ha, (HM).pick [0, 1, 2]⟩
         exact steps_nil
        rintro _ w30 ⟨rfl, HM⟩
        replace HM := HM.sT 2 rfl rfl
        simp only [putSel, if_true, Act.put, List.setIfInBounds_toArray, List.set_cons_zero, List.set_cons_succ, gt_iff_lt, ge_iff_le]
        have H' := Aside0.mk H
        clear H
        go_wp2
        go_meet
        case rel => exact ⟨_, (2), (rdOf ByteArray.empty t270 1), (rdOf ByteArray.empty t270 2), H', ⟨impl_TextOp.z0⟩, (MD HM).pick [1, 2]⟩
       ·subst c20
        replace H := GD H; obtain ⟨c31, H⟩ := H
        replace c31 : 0 < (t270.length : Int) := c31
        have c31b0 := decide_eq_true c31
        have c31b1 : decide (0 < t270.length) = true := decide_eq_true (by omega)
        have c31b9 : decide (0 < t270.length) = true := decide_eq_true (by omega)
        clear c31
        replace H := IT H; rcases H with ⟨c33, H⟩ | ⟨c33, H⟩
        ·obtain ⟨c33b0, c33b1⟩ := BE c33
         clear c33
         obtain ⟨Xo32, ko32, rfl⟩ := HM.rdR 0 rfl
         have p279 : 0 ≤ (0 : Int) := (by omega)
         have q279 : (0 : Int) < (t270.length : Int) := of_decide_eq_true AS
         obtain ⟨ad279, e279, hx279_0⟩ := Kd.at_string (HM.CR 0 rfl).2.2 0 p279 q279
         cases e279
         have qi279 : (0 < t270.length) = True := eq_true (by omega)
         (try rw [show ((0 : Int)).toNat = 0 from rfl] at hx279_0)
         (try rw [Addr.add_zero'] at hx279_0)
         replace p279 := eq_true p279
         replace q279 := eq_true q279
         go_upto_if 40 with (fail)
         replace H := IT H; rcases H with ⟨c34, H⟩ | ⟨c34, H⟩
         ·obtain ⟨c34b0, c34b1⟩ := BE c34
          clear c34
          first|rw [c34b0]|(simp only [i64_w, i32_w]; rw [c34b0])|skip
          replace H := GD H; obtain ⟨c35, H⟩ := H
          replace c35 : 1 < (t270.length : Int) := c35
          have c35b0 := decide_eq_true c35
          have c35b1 : decide (1 < t270.length) = true := decide_eq_true (by omega)
          have c35b9 : decide (1 < t270.length) = true := decide_eq_true (by omega)
          clear c35
          have H' := Aside0.mk H
          clear H
          have p280 : 0 ≤ (1 : Int) := (by omega)
          have q280 : (1 : Int) < (t270.length : Int) := of_decide_eq_true AS
          obtain ⟨ad280, e280, hx280_0⟩ := Kd.at_string (HM.CR 0 rfl).2.2 1 p280 q280
          obtain rfl := Option.some.inj e280
          have qi280 : (1 < t270.length) = True := eq_true (by omega)
          (try rw [show ((1 : Int)).toNat = 1 from rfl] at hx280_0)
          (try simp only [Nat.reduceMul, Nat.reduceEqDiff, Go.Addr.add, ↓reduceIte] at hx280_0)
          replace p280 := eq_true p280
          replace q280 := eq_true q280
          go_wp2_with (first | ((with_reducible refine gS 5 rfl ?_); refine pS 2 5 0 [.int .i64 3, .string (rdOf ByteArray.empty t270 1), .string (⟨#[]⟩ : ByteArray)] HM rfl rfl ?_; clear HM; intro w36 HM))
          go_meet
          case rel => exact ⟨_, (3), (rdOf ByteArray.empty t270 1), ((⟨#[]⟩ : ByteArray)), H', ⟨impl_TextOp.z0⟩, (MD HM).pick [1, 2]⟩
         ·obtain ⟨c34b0, c34b1⟩ := BF c34
          first|rw [c34b0]|(simp only [i64_w, i32_w]; rw [c34b0])|skip
          have H' := Aside0.mk H
          clear H
          go_wp2
          go_meet
          case rel => exact ⟨_, (0), ((⟨#[]⟩ : ByteArray)), ((⟨#[]⟩ : ByteArray)), H', ⟨impl_TextOp.z0⟩, (MD HM).pick [1, 2]⟩
        ·obtain ⟨c33b0, c33b1⟩ := BF c33
         have H' := Aside0.mk H
         clear H
         obtain ⟨Xo32, ko32, rfl⟩ := HM.rdR 0 rfl
         have p279 : 0 ≤ (0 : Int) := (by omega)
         have q279 : (0 : Int) < (t270.length : Int) := of_decide_eq_true AS
         obtain ⟨ad279, e279, hx279_0⟩ := Kd.at_string (HM.CR 0 rfl).2.2 0 p279 q279
         cases e279
         have qi279 : (0 < t270.length) = True := eq_true (by omega)
         (try rw [show ((0 : Int)).toNat = 0 from rfl] at hx279_0)
         (try rw [Addr.add_zero'] at hx279_0)
         replace p279 := eq_true p279
         replace q279 := eq_true q279
         go_wp2
         go_meet
         case rel => exact ⟨_, (0), ((⟨#[]⟩ : ByteArray)), ((⟨#[]⟩ : ByteArray)), H', ⟨impl_TextOp.z0⟩, (MD HM).pick [1, 2]⟩
 case rest =>
  clear HC7 HM
  obtain ⟨kq, x274000_6, x274001_6, x274002_6, HA, HJ6, HM⟩ := hcut
  cases kq with
  | zero => exact absurd HA.out (by simp [impl_TextOp.j2])
  | succ kj6 =>
   have H := HA.out
   clear HA
   simp only [impl_TextOp.j2] at H
   replace H := BN H; obtain ⟨t281, A38, H⟩ := H
   replace H := IB H
   rcases H with ⟨c40, H⟩ | ⟨c40, H⟩
   ·subst c40
    replace H := BN H; obtain ⟨t282, A42, H⟩ := H
    obtain ⟨_,_,_,_,_,_⟩ := bk3 (HM.bx 1 rfl)
    go_upto_if 62 with (first | ((with_reducible refine gC 70 rfl ?_); refine pC (some 55) rfl #[.agg #[.int .i64 x274000_6, .string x274001_6, .string x274002_6]] rfl Try.func70 (impl_OpOk.calls kj6 x274000_6 x274001_6 x274002_6 true _ A38.out) ?_; rintro e w39 ⟨rfl, hR⟩; refine ⟨_, rfl, ?_⟩; replace HM := HM.call hR; clear hR; obtain ⟨_,_,_,_,_,_⟩ := bk3 (HM.bx 1 rfl)) | ((with_reducible refine gC 21 rfl ?_); refine pC (some 59) rfl #[.agg #[.int .i64 x274000_6, .string x274001_6, .string x274002_6]] rfl Try.func21 (impl_OpText.calls kj6 x274000_6 x274001_6 x274002_6 t282 _ A42.out) ?_; rintro e w43 ⟨rfl, hR⟩; refine ⟨_, rfl, ?_⟩; replace HM := HM.call hR; clear hR))
    replace HM := nzM HM
    replace H := IT H; rcases H with ⟨c44, H⟩ | ⟨c44, H⟩
    ·obtain ⟨c44b0, c44b1⟩ := BE c44
     clear c44
     first|rw [c44b0]|(simp only [i64_w, i32_w]; rw [c44b0])|skip
     simp only [Option.some.injEq, Prod.mk.injEq] at H
     obtain ⟨rfl, rfl, rfl, rfl⟩ := H
     obtain ⟨_,_,_,_,_,_⟩ := bk3 (HM.bx 1 rfl)
     go_wp2_with (first | ((with_reducible refine gS 2 rfl ?_); refine pS 0 2 0 [.int .i64 x274000_6, .string x274001_6, .string x274002_6] HM rfl rfl ?_; clear HM; intro w46 HM))
     refine bodyPost_ret (results_ct rfl _ _ gb269 43 #[.int .i64 x274000_6, .string x274001_6, .string x274002_6] (0, 0) _ rfl (HM.bx 0 rfl) Try.underlying43 rfl (by kernel_rfl)) rfl ?_
     exact ⟨ER, (MD HM).pick []⟩
    ·obtain ⟨c44b0, c44b1⟩ := BF c44
     first|rw [c44b0]|(simp only [i64_w, i32_w]; rw [c44b0])|skip
     simp only [Option.some.injEq, Prod.mk.injEq] at H
     obtain ⟨rfl, rfl, rfl, rfl⟩ := H
     go_wp2_with (first | ((with_reducible refine gS 2 rfl ?_); refine pS 0 2 0 [.int .i64 0, .string (⟨#[]⟩ : ByteArray), .string (⟨#[]⟩ : ByteArray)] HM rfl rfl ?_; clear HM; intro w47 HM))
     refine bodyPost_ret (results_ct rfl _ _ gb269 43 #[.int .i64 0, .string (⟨#[]⟩ : ByteArray), .string (⟨#[]⟩ : ByteArray)] (0, 0) _ rfl (HM.bx 0 rfl) Try.underlying43 rfl (by kernel_rfl)) rfl ?_
     exact ⟨ER, (MD HM).pick []⟩
   ·subst c40
    simp only [Option.some.injEq, Prod.mk.injEq] at H
    obtain ⟨rfl, rfl, rfl, rfl⟩ := H
    obtain ⟨_,_,_,_,_,_⟩ := bk3 (HM.bx 1 rfl)
    go_wp2_with (first | ((with_reducible refine gC 70 rfl ?_); refine pC (some 55) rfl #[.agg #[.int .i64 x274000_6, .string x274001_6, .string x274002_6]] rfl Try.func70 (impl_OpOk.calls kj6 x274000_6 x274001_6 x274002_6 false _ A38.out) ?_; rintro e w39 ⟨rfl, hR⟩; refine ⟨_, rfl, ?_⟩; replace HM := HM.call hR; clear hR) | ((with_reducible refine gS 2 rfl ?_); refine pS 0 2 0 [.int .i64 0, .string (⟨#[]⟩ : ByteArray), .string (⟨#[]⟩ : ByteArray)] HM rfl rfl ?_; clear HM; intro w48 HM))
    refine bodyPost_ret (results_ct rfl _ _ gb269 43 #[.int .i64 0, .string (⟨#[]⟩ : ByteArray), .string (⟨#[]⟩ : ByteArray)] (0, 0) _ rfl (HM.bx 0 rfl) Try.underlying43 rfl (by kernel_rfl)) rfl ?_
    exact ⟨ER, (MD HM).pick []⟩
end Go.Proofs.Ythnedklbobbkcaa.G

namespace Go.Proofs.Ythnedklbobbkcaa.G
open Go.RowKit Go.Proofs.YthnedklbobbkcaaW.PrintWords Go.Proofs.YthnedklbobbkcaaW.PrintLast Go.Proofs.YthnedklbobbkcaaW.PrintMore Go.Proofs.Ythnedklbobbkcaa.Sh
attribute [local go_sem] max2_int min2_int max_two min_two max_three min_three max_four min_four
set_option linter.unusedVariables false
set_option linter.unusedSimpArgs false
def impl_glued.l0 : Nat → ByteArray → List ByteArray → Int → Int → Option (ByteArray)
 | 0, _, _, _, _ => none
 | k + 1, x3, x6, x7, x8 => if x8 < x7 then (if 0 ≤ x8 then (if x8 < (x6.length : Int) then (if x8 > 0 then (if x3.size + 1 ≤ 9223372036854775807 then (if x3.size + 1 + (rdOf ByteArray.empty x6 x8).size ≤ 9223372036854775807 then (impl_glued.l0 k ((x3 ++ (⟨#[32]⟩ : ByteArray)) ++ (rdOf ByteArray.empty x6 x8)) x6 x7 (wrap64 (x8 + 1))) else (none)) else (none)) else (if x3.size + (rdOf ByteArray.empty x6 x8).size ≤ 9223372036854775807 then (impl_glued.l0 k (x3 ++ (rdOf ByteArray.empty x6 x8)) x6 x7 (wrap64 (x8 + 1))) else (none))) else (none)) else (none)) else (some x3)
def impl_glued.f (k : Nat) (l0 : List ByteArray) : Option (ByteArray) := impl_glued.l0 k (⟨#[]⟩ : ByteArray) l0 (l0.length : Int) 0
theorem impl_glued.calls (k : Nat) (A0 : Option Addr) (c0 : Nat) (l0 : List ByteArray) (r : ByteArray) (w : World) (hr0 : Kd.C Kd.string w A0 l0.length l0) (hc0 : l0.length ≤ c0) (h : impl_glued.f k l0 = some r) :
  Calls Try.prog 61 #[.slice A0 l0.length c0] w fun e w' => e = .returned (.string r) ∧ Drawn0 w w' := by
 have HR0 := Aside0.mk hr0
 have HC0 := Aside0.mk hc0
 clear hr0 hc0
 have H : (impl_glued.l0 k (⟨#[]⟩ : ByteArray) l0 (l0.length : Int) 0) = some r := h
 clear h
 have H' := Aside0.mk H
 clear H
 go_enter Try.func61, Try.ntmps61
 go_wp2
 go_loopg [3, 8] k (fun kq v3 v8 w' => ∃ (x3_1 : ByteArray) (x8_1 : Int), v3 = .string x3_1 ∧ v8 = .int .i64 x8_1 ∧ Aside0 (impl_glued.l0 kq x3_1 l0 (l0.length : Int) x8_1 = some r) ∧ Aside0 (kq ≤ k) ∧ Drawn0 w w')
 case atStart => exact ⟨((⟨#[]⟩ : ByteArray)), (0), RS, RS, H', ⟨Nat.le_refl _⟩, DR⟩
 case round =>
  clear H'
  obtain ⟨x3_1, x8_1, rfl, rfl, HA, HK1, ⟨m1, rfl⟩⟩ := hrel
  cases gk with
  | zero => exact absurd HA.out (by simp [impl_glued.l0])
  | succ k1 =>
   have H := HA.out
   clear HA
   simp only [impl_glued.l0] at H
   by_cases c2 : x8_1 < (l0.length : Int)
   ·rw [if_pos c2] at H
    have c2b0 : decide (x8_1 < (l0.length : Int)) = true := decide_eq_true c2
    clear c2
    by_cases c3 : 0 ≤ x8_1
    ·rw [if_pos c3] at H
     have c3b0 : decide (0 ≤ x8_1) = true := decide_eq_true c3
     clear c3
     by_cases c4 : x8_1 < (l0.length : Int)
     ·rw [if_pos c4] at H
      have c4b0 : decide (x8_1 < (l0.length : Int)) = true := decide_eq_true c4
      clear c4
      by_cases c5 : x8_1 > 0
      ·rw [if_pos c5] at H
       have c5b0 : decide (0 < x8_1) = true := decide_eq_true c5
       clear c5
       by_cases c6 : x3_1.size + 1 ≤ 9223372036854775807
       ·rw [if_pos c6] at H
        have c6b0 := eq_true c6
        have c6b1 : decide (x3_1.size + 1 ≤ 9223372036854775807) = true := decide_eq_true c6
        try have c6b2 : (9223372036854775807 < x3_1.size + 1) = False := eq_false (Nat.not_lt.2 c6)
        by_cases c7 : x3_1.size + 1 + (rdOf ByteArray.empty l0 x8_1).size ≤ 9223372036854775807
        ·rw [if_pos c7] at H
         have c7b0 := eq_true c7
         have c7b1 : decide (x3_1.size + 1 + (rdOf ByteArray.empty l0 x8_1).size ≤ 9223372036854775807) = true := decide_eq_true c7
         try have c7b2 : (9223372036854775807 < x3_1.size + 1 + (rdOf ByteArray.empty l0 x8_1).size) = False := eq_false (Nat.not_lt.2 c7)
         have H' := Aside0.mk H
         clear H
         have p284 : 0 ≤ (x8_1 : Int) := of_decide_eq_true AS
         have q284 : x8_1 < (l0.length : Int) := of_decide_eq_true AS
         obtain ⟨ad284, e284, hx284_0⟩ := Kd.at_string HR0.out x8_1 p284 q284
         cases e284
         replace p284 := eq_true p284
         replace q284 := eq_true q284
         go_wp2
         go_roundg k1
         case measure => have := HK1.out; omega
         case rel => exact ⟨((x3_1 ++ (⟨#[32]⟩ : ByteArray)) ++ (rdOf ByteArray.empty l0 x8_1)), (wrap64 (x8_1 + 1)), RS, RS, H', ⟨by have := HK1.out; omega⟩, DR⟩
        ·rw [if_neg c7] at H
         exact absurd H (by simp)
       ·rw [if_neg c6] at H
        exact absurd H (by simp)
      ·rw [if_neg c5] at H
       have c5b0 : decide (0 < x8_1) = false := decide_eq_false c5
       clear c5
       by_cases c8 : x3_1.size + (rdOf ByteArray.empty l0 x8_1).size ≤ 9223372036854775807
       ·rw [if_pos c8] at H
        have c8b0 := eq_true c8
        have c8b1 : decide (x3_1.size + (rdOf ByteArray.empty l0 x8_1).size ≤ 9223372036854775807) = true := decide_eq_true c8
        try have c8b2 : (9223372036854775807 < x3_1.size + (rdOf ByteArray.empty l0 x8_1).size) = False := eq_false (Nat.not_lt.2 c8)
        have H' := Aside0.mk H
        clear H
        have p284 : 0 ≤ (x8_1 : Int) := of_decide_eq_true AS
        have q284 : x8_1 < (l0.length : Int) := of_decide_eq_true AS
        obtain ⟨ad284, e284, hx284_0⟩ := Kd.at_string HR0.out x8_1 p284 q284
        cases e284
        replace p284 := eq_true p284
        replace q284 := eq_true q284
        go_wp2
        go_roundg k1
        case measure => have := HK1.out; omega
        case rel => exact ⟨(x3_1 ++ (rdOf ByteArray.empty l0 x8_1)), (wrap64 (x8_1 + 1)), RS, RS, H', ⟨by have := HK1.out; omega⟩, DR⟩
       ·rw [if_neg c8] at H
        exact absurd H (by simp)
     ·rw [if_neg c4] at H
      exact absurd H (by simp)
    ·rw [if_neg c3] at H
     exact absurd H (by simp)
   ·rw [if_neg c2] at H
    have c2b0 : decide (x8_1 < (l0.length : Int)) = false := decide_eq_false c2
    clear c2
    obtain rfl := Option.some.inj H
    go_wp2
    go_ret
    exact ⟨by first | rfl | (simp; done) | (simp [*]; done), DR⟩
end Go.Proofs.Ythnedklbobbkcaa.G

namespace Go.Proofs.Ythnedklbobbkcaa.G
open Go.RowKit Go.Proofs.YthnedklbobbkcaaW.PrintWords Go.Proofs.YthnedklbobbkcaaW.PrintLast Go.Proofs.YthnedklbobbkcaaW.PrintMore Go.Proofs.Ythnedklbobbkcaa.Sh
attribute [local go_sem] max2_int min2_int max_two min_two max_three min_three max_four min_four
set_option linter.unusedVariables false
set_option linter.unusedSimpArgs false
open Go.Proofs.Ythnedklbobbkcaa.Mm
def impl_AsksOk.l0 : Nat → List ByteArray → List ByteArray → Int → Int → Option (Bool)
 | 0, _, _, _, _ => none
 | k + 1, x0, x5, x6, x7 => if x7 < x6 then (if 0 ≤ x7 then (if x7 < (x5.length : Int) then ((impl_ItemOk.f k (rdOf ByteArray.empty x5 x7) (⟨#[]⟩ : ByteArray) 0).bind fun t286 => (if t286 = true then (impl_AsksOk.l0 k x0 x5 x6 (wrap64 (x7 + 1))) else (some false))) else (none)) else (none)) else (some (decide ((x0.length : Int) ≤ 300)))
def impl_AsksOk.f (k : Nat) (l0 : List ByteArray) : Option (Bool) := impl_AsksOk.l0 k l0 l0 (l0.length : Int) 0
theorem impl_AsksOk.calls (k : Nat) (A0 : Option Addr) (c0 : Nat) (l0 : List ByteArray) (r : Bool) (w : World) (hr0 : Kd.C Kd.string w A0 l0.length l0) (hc0 : l0.length ≤ c0) (h : impl_AsksOk.f k l0 = some r) :
  Calls Try.prog 72 #[.slice A0 l0.length c0] w fun e w' => e = .returned (.bool r) ∧ Mem w [] w' [] := by
 have hu122 := Try.underlying122
 have HR0 := Aside0.mk hr0
 have HC0 := Aside0.mk hc0
 clear hr0 hc0
 have HM := Mem.nil w
 have H := h
 clear h
 unfold impl_AsksOk.f at H
 go_enter Try.func72, Try.ntmps72
 have H' := Aside0.mk H
 clear H
 go_wp2
 go_loopg [7] k (fun kq v7 w' => ∃ (x7_1 : Int), v7 = .int .i64 x7_1 ∧ Aside0 (impl_AsksOk.l0 kq l0 l0 (l0.length : Int) x7_1 = some r) ∧ Aside0 (kq ≤ k) ∧ Mem w [] w' [])
 case atStart => exact ⟨(0), RS, H', ⟨Nat.le_refl _⟩, (MD HM).pick []⟩
 case round =>
  clear H' HM
  obtain ⟨x7_1, rfl, HA, HK1, HM⟩ := hrel
  cases gk with
  | zero => exact absurd HA.out (by simp [impl_AsksOk.l0])
  | succ k1 =>
   have H := HA.out
   clear HA
   simp only [impl_AsksOk.l0] at H
   go_upto_if 8 with (fail)
   replace H := IT H; rcases H with ⟨c2, H⟩ | ⟨c2, H⟩
   ·have c2b0 := decide_eq_true c2
    clear c2
    first|rw [c2b0]|(simp only [i64_w, i32_w]; rw [c2b0])|skip
    replace H := GD H; obtain ⟨c3, H⟩ := H
    have c3b0 := decide_eq_true c3
    clear c3
    replace H := GD H; obtain ⟨c4, H⟩ := H
    have c4b0 := decide_eq_true c4
    clear c4
    replace H := BN H; obtain ⟨t286, A5, H⟩ := H
    have p285 : 0 ≤ (x7_1 : Int) := of_decide_eq_true AS
    have q285 : (x7_1 : Int) < (l0.length : Int) := of_decide_eq_true AS
    obtain ⟨ad285, e285, hx285_0⟩ := Kd.at_string (HM.came HR0.out) x7_1 p285 q285
    cases e285
    replace p285 := eq_true p285
    replace q285 := eq_true q285
    go_upto_if 14 with (first | ((with_reducible refine gC 127 rfl ?_); refine pC (some 13) rfl #[.agg #[.string (rdOf ByteArray.empty l0 x7_1), .string (⟨#[]⟩ : ByteArray), .int .i64 0]] rfl Try.func127 (impl_ItemOk.calls k1 (rdOf ByteArray.empty l0 x7_1) (⟨#[]⟩ : ByteArray) 0 t286 _ A5.out) ?_; rintro e w6 ⟨rfl, hR⟩; refine ⟨_, rfl, ?_⟩; replace HM := HM.call hR; clear hR))
    replace H := IB H
    rcases H with ⟨c7, H⟩ | ⟨c7, H⟩
    ·subst c7
     have H' := Aside0.mk H
     clear H
     go_wp2
     go_roundg k1
     case measure => have := HK1.out; omega
     case rel => exact ⟨(wrap64 (x7_1 + 1)), RS, H', ⟨by have := HK1.out; omega⟩, (MD HM).pick []⟩
    ·subst c7
     obtain rfl := Option.some.inj H
     go_wp2
     go_ret
     exact ⟨ER, (MD HM).pick []⟩
   ·have c2b0 := decide_eq_false c2
    clear c2
    first|rw [c2b0]|(simp only [i64_w, i32_w]; rw [c2b0])|skip
    obtain rfl := Option.some.inj H
    go_wp2
    go_ret
    exact ⟨ER, (MD HM).pick []⟩
def impl_AsksText.f (k : Nat) (l0 : List ByteArray) : Option (ByteArray) := (impl_AsksOk.f k l0).bind fun t287 => (if t287 = true then ((impl_glued.f k l0).bind fun t288 => (some t288)) else (some (⟨#[]⟩ : ByteArray)))
theorem impl_AsksText.calls (k : Nat) (A0 : Option Addr) (c0 : Nat) (l0 : List ByteArray) (r : ByteArray) (w : World) (hr0 : Kd.C Kd.string w A0 l0.length l0) (hc0 : l0.length ≤ c0) (h : impl_AsksText.f k l0 = some r) :
  Calls Try.prog 24 #[.slice A0 l0.length c0] w fun e w' => e = .returned (.string r) ∧ Mem w [] w' [] := by
 have HR0 := Aside0.mk hr0
 have HC0 := Aside0.mk hc0
 clear hr0 hc0
 have HM := Mem.nil w
 have H := h
 clear h
 unfold impl_AsksText.f at H
 go_enter Try.func24, Try.ntmps24
 replace H := BN H; obtain ⟨t287, A2, H⟩ := H
 go_upto_if 5 with (first | ((with_reducible refine gC 72 rfl ?_); refine pC (some 4) rfl #[.slice A0 l0.length c0] rfl Try.func72 (impl_AsksOk.calls k _ _ l0 t287 _ (HM.came HR0.out) HC0.out A2.out) ?_; rintro e w3 ⟨rfl, hR⟩; refine ⟨_, rfl, ?_⟩; replace HM := HM.call hR; clear hR))
 replace H := IB H
 rcases H with ⟨c4, H⟩ | ⟨c4, H⟩
 ·subst c4
  replace H := BN H; obtain ⟨t288, A5, H⟩ := H
  obtain rfl := Option.some.inj H
  go_wp2_with (first | ((with_reducible refine gC 61 rfl ?_); refine pC (some 7) rfl #[.slice A0 l0.length c0] rfl Try.func61 (impl_glued.calls k _ _ l0 t288 _ (HM.came HR0.out) HC0.out A5.out) ?_; rintro e w6 ⟨rfl, hd⟩; refine ⟨_, rfl, ?_⟩; replace HM := HM.drawn hd; clear hd))
  go_ret
  exact ⟨ER, (MD HM).pick []⟩
 ·subst c4
  obtain rfl := Option.some.inj H
  go_wp2
  go_ret
  exact ⟨ER, (MD HM).pick []⟩
end Go.Proofs.Ythnedklbobbkcaa.G

namespace Go.Proofs.Ythnedklbobbkcaa.G
open Go.RowKit Go.Proofs.YthnedklbobbkcaaW.PrintWords Go.Proofs.YthnedklbobbkcaaW.PrintLast Go.Proofs.YthnedklbobbkcaaW.PrintMore Go.Proofs.Ythnedklbobbkcaa.Sh
attribute [local go_sem] max2_int min2_int max_two min_two max_three min_three max_four min_four
set_option linter.unusedVariables false
set_option linter.unusedSimpArgs false
def impl_isNum.f (a0 : Int) : Option (Bool) := (impl_within.f a0 0 4294967295).bind fun t290 => (some t290)
theorem impl_isNum.calls (a0 : Int) (r : Bool) (w : World) (h : impl_isNum.f a0 = some r) :
  Calls Try.prog 121 #[.int .i64 a0] w fun e w' => e = .returned (.bool r) ∧ Drawn0 w w' := by
 have H : ((impl_within.f a0 0 4294967295).bind fun t290 => (some t290)) = some r := h
 clear h
 replace H := BS H
 obtain ⟨t290, A20, H⟩ := H
 have A2 := Aside0.mk A20
 clear A20
 obtain rfl := Option.some.inj H
 go_enter Try.func121, Try.ntmps121
 go_wp2_with (first | ((with_reducible refine gate_callee (f := 92) rfl ?_); refine goesL_ (some 4) rfl rfl Try.func92 (by kernel_rfl) rfl #[.int .i64 a0, .int .i64 0, .int .i64 4294967295] rfl AQ ?_; (with_reducible refine (impl_within.calls a0 0 4294967295 t290 _ A2.out).mono ?_); rintro e w' ⟨rfl, ⟨nd, rfl⟩⟩; refine ⟨_, rfl, ?_⟩))
 go_ret
 exact ⟨by first | rfl | (simp; done) | (simp [*]; done), DR⟩
end Go.Proofs.Ythnedklbobbkcaa.G

namespace Go.Proofs.Ythnedklbobbkcaa.G
open Go.RowKit Go.Proofs.YthnedklbobbkcaaW.PrintWords Go.Proofs.YthnedklbobbkcaaW.PrintLast Go.Proofs.YthnedklbobbkcaaW.PrintMore Go.Proofs.Ythnedklbobbkcaa.Sh
attribute [local go_sem] max2_int min2_int max_two min_two max_three min_three max_four min_four
set_option linter.unusedVariables false
set_option linter.unusedSimpArgs false
open Go.Proofs.Ythnedklbobbkcaa.Mm
def impl_NumText.l0 : Nat → Int → ByteArray → Option (ByteArray)
 | 0, _, _ => none
 | k + 1, x0, x3 => if x0 > 9 then ((some (([(wrap64 (48 + (Int.tmod x0 10))) % 256] : List Int) : List Int)).bind fun y292 => (if (strOfNums y292).size + x3.size ≤ 9223372036854775807 then (impl_NumText.l0 k (wrap64 (Int.tdiv x0 10)) ((strOfNums y292) ++ x3)) else (none))) else ((some (([(wrap64 (48 + x0)) % 256] : List Int) : List Int)).bind fun y295 => (if (strOfNums y295).size + x3.size ≤ 9223372036854775807 then (some ((strOfNums y295) ++ x3)) else (none)))
def impl_NumText.f (k : Nat) (a0 : Int) : Option (ByteArray) := (impl_isNum.f a0).bind fun t291 => (if t291 = true then (impl_NumText.l0 k a0 (⟨#[]⟩ : ByteArray)) else (some (⟨#[]⟩ : ByteArray)))
theorem impl_NumText.calls (k : Nat) (a0 : Int) (r : ByteArray) (w : World)  (h : impl_NumText.f k a0 = some r) :
  Calls Try.prog 62 #[.int .i64 a0] w fun e w' => e = .returned (.string r) ∧ Mem w [] w' [] := by
 have HM := Mem.nil w
 have H := h
 clear h
 unfold impl_NumText.f at H
 go_enter Try.func62, Try.ntmps62
 replace H := BN H; obtain ⟨t291, A2, H⟩ := H
 go_upto_if 6 with (first | ((with_reducible refine gC 121 rfl ?_); refine pC (some 5) rfl #[.int .i64 a0] rfl Try.func121 (impl_isNum.calls a0 t291 _ A2.out) ?_; rintro e w3 ⟨rfl, hd⟩; refine ⟨_, rfl, ?_⟩; replace HM := HM.drawn hd; clear hd))
 replace H := IB H
 rcases H with ⟨c4, H⟩ | ⟨c4, H⟩
 ·subst c4
  have H' := Aside0.mk H
  clear H
  go_wp2
  go_loopg [0, 3] k (fun kq v0 v3 w' => ∃ (x0_1 : Int) (x3_1 : ByteArray), v0 = .int .i64 x0_1 ∧ v3 = .string x3_1 ∧ Aside0 (impl_NumText.l0 kq x0_1 x3_1 = some r) ∧ Aside0 (kq ≤ k) ∧ Mem w [] w' [])
  case atStart => exact ⟨(a0), ((⟨#[]⟩ : ByteArray)), RS, RS, H', ⟨Nat.le_refl _⟩, (MD HM).pick []⟩
  case round =>
   clear H' HM
   obtain ⟨x0_1, x3_1, rfl, rfl, HA, HK1, HM⟩ := hrel
   cases gk with
   | zero => exact absurd HA.out (by simp [impl_NumText.l0])
   | succ k1 =>
    have H := HA.out
    clear HA
    simp only [impl_NumText.l0] at H
    go_upto_if 8 with (fail)
    replace H := IT H; rcases H with ⟨c5, H⟩ | ⟨c5, H⟩
    ·have c5b0 : decide (9 < x0_1) = true := decide_eq_true c5
     clear c5
     first|rw [c5b0]|(simp only [i64_w, i32_w]; rw [c5b0])|skip
     replace H := BLt H; obtain ⟨y292, Ny292, H⟩ := H
     replace Ny292 := Aside0.mk Ny292
     replace H := GD H; obtain ⟨c8, H⟩ := H
     have c8b0 := eq_true c8
     have c8b1 : decide ((strOfNums y292).size + x3_1.size ≤ 9223372036854775807) = true := decide_eq_true c8
     try have c8b2 : (9223372036854775807 < (strOfNums y292).size + x3_1.size) = False := eq_false (Nat.not_lt.2 c8)
     have H' := Aside0.mk H
     clear H
     go_wp2_with (first | ((with_reducible refine gN 13 rfl ?_); refine pL 13 (Kd.int .u8) 5 ([(wrap64 (48 + (Int.tmod x0_1 10))) % 256] : List Int) [.int .u8 ((wrap64 (48 + (Int.tmod x0_1 10))) % 256)] (Reps.one (show Kd.M (Kd.int .u8) _ _ _ ((wrap64 (48 + (Int.tmod x0_1 10))) % 256) [.int .u8 ((wrap64 (48 + (Int.tmod x0_1 10))) % 256)] from rfl) (Reps.none _ _)) HM rfl ?_; clear HM; intro v293 w6 HM; replace HM := HM.nm 0 rfl Ny292.out; have hcv7 := HM.str 0 rfl Try.underlying28 Try.underlying5 Try.underlying9))
     go_roundg k1
     case measure => have := HK1.out; omega
     case rel => exact ⟨(wrap64 (Int.tdiv x0_1 10)), ((strOfNums y292) ++ x3_1), RS, RS, H', ⟨by have := HK1.out; omega⟩, (MD HM).pick []⟩
    ·have c5b0 : decide (9 < x0_1) = false := decide_eq_false c5
     clear c5
     first|rw [c5b0]|(simp only [i64_w, i32_w]; rw [c5b0])|skip
     replace H := BLt H; obtain ⟨y295, Ny295, H⟩ := H
     replace Ny295 := Aside0.mk Ny295
     replace H := GD H; obtain ⟨c11, H⟩ := H
     have c11b0 := eq_true c11
     have c11b1 : decide ((strOfNums y295).size + x3_1.size ≤ 9223372036854775807) = true := decide_eq_true c11
     try have c11b2 : (9223372036854775807 < (strOfNums y295).size + x3_1.size) = False := eq_false (Nat.not_lt.2 c11)
     obtain rfl := Option.some.inj H
     go_wp2_with (first | ((with_reducible refine gN 22 rfl ?_); refine pL 22 (Kd.int .u8) 5 ([(wrap64 (48 + x0_1)) % 256] : List Int) [.int .u8 ((wrap64 (48 + x0_1)) % 256)] (Reps.one (show Kd.M (Kd.int .u8) _ _ _ ((wrap64 (48 + x0_1)) % 256) [.int .u8 ((wrap64 (48 + x0_1)) % 256)] from rfl) (Reps.none _ _)) HM rfl ?_; clear HM; intro v296 w9 HM; replace HM := HM.nm 0 rfl Ny295.out; have hcv10 := HM.str 0 rfl Try.underlying28 Try.underlying5 Try.underlying9))
     go_ret
     exact ⟨ER, (MD HM).pick []⟩
 ·subst c4
  obtain rfl := Option.some.inj H
  go_wp2
  go_ret
  exact ⟨ER, (MD HM).pick []⟩
def impl_isAlone.f (a0_0 : Int) (a0_1 : Int) (a0_2 : Int) (a0_3 : Int) (a0_4 : ByteArray) (a0_5 : ByteArray) (l0_6 : List ByteArray) : Option (Bool) := if a0_0 = 1 then (if a0_0 = 2 then (if a0_0 = 3 then (some true) else (some ((l0_6.length : Int) == 0))) else (if a0_3 = 0 then (if a0_4.toList = ([] : List UInt8) then (if a0_5.toList = ([] : List UInt8) then (if a0_0 = 3 then (some true) else (some ((l0_6.length : Int) == 0))) else (some false)) else (some false)) else (some false))) else (if a0_0 = 6 then (if a0_2 = 0 then (if a0_0 = 2 then (if a0_0 = 3 then (some true) else (some ((l0_6.length : Int) == 0))) else (if a0_3 = 0 then (if a0_4.toList = ([] : List UInt8) then (if a0_5.toList = ([] : List UInt8) then (if a0_0 = 3 then (some true) else (some ((l0_6.length : Int) == 0))) else (some false)) else (some false)) else (some false))) else (some false)) else (if a0_1 = 0 then (if a0_2 = 0 then (if a0_0 = 2 then (if a0_0 = 3 then (some true) else (some ((l0_6.length : Int) == 0))) else (if a0_3 = 0 then (if a0_4.toList = ([] : List UInt8) then (if a0_5.toList = ([] : List UInt8) then (if a0_0 = 3 then (some true) else (some ((l0_6.length : Int) == 0))) else (some false)) else (some false)) else (some false))) else (some false)) else (some false)))
theorem impl_isAlone.calls (a0_0 : Int) (a0_1 : Int) (a0_2 : Int) (a0_3 : Int) (a0_4 : ByteArray) (a0_5 : ByteArray) (A0_6 : Option Addr) (c0_6 : Nat) (l0_6 : List ByteArray) (r : Bool) (w : World) (hr0_6 : Kd.C Kd.string w A0_6 l0_6.length l0_6) (hc0_6 : l0_6.length ≤ c0_6) (h : impl_isAlone.f a0_0 a0_1 a0_2 a0_3 a0_4 a0_5 l0_6 = some r) :
  Calls Try.prog 75 #[.agg #[.int .i64 a0_0, .int .i64 a0_1, .int .i64 a0_2, .int .i64 a0_3, .string a0_4, .string a0_5, .slice A0_6 l0_6.length c0_6]] w fun e w' => e = .returned (.bool r) ∧ Mem w [] w' [] := by
 have hu55 := Try.underlying55
 have hu43 := Try.underlying43
 have HR0_6 := Aside0.mk hr0_6
 have HC0_6 := Aside0.mk hc0_6
 clear hr0_6 hc0_6
 have HM := Mem.nil w
 have H := h
 clear h
 unfold impl_isAlone.f at H
 go_enter Try.func75, Try.ntmps75
 replace H := IT H; rcases H with ⟨c4, H⟩ | ⟨c4, H⟩
 ·obtain ⟨c4b0, c4b1⟩ := BE c4
  clear c4
  replace H := IT H; rcases H with ⟨c5, H⟩ | ⟨c5, H⟩
  ·obtain ⟨c5b0, c5b1⟩ := BE c5
   clear c5
   replace H := IT H; rcases H with ⟨c6, H⟩ | ⟨c6, H⟩
   ·obtain ⟨c6b0, c6b1⟩ := BE c6
    clear c6
    obtain rfl := Option.some.inj H
    go_wp2_with (first | ((with_reducible refine gN 1 rfl ?_); refine pB 1 55 [.int .i64 a0_0, .int .i64 a0_1, .int .i64 a0_2, .int .i64 a0_3, .string a0_4, .string a0_5, .slice A0_6 l0_6.length c0_6] HM rfl ?_; clear HM; intro gb298 w2 HM; obtain ⟨_,_,_,_,_,_,_,_,_,_,_,_,_,_⟩ := bk7 (HM.bx 0 rfl)))
    go_ret
    exact ⟨ER, (MD HM).pick []⟩
   ·obtain ⟨c6b0, c6b1⟩ := BF c6
    obtain rfl := Option.some.inj H
    go_wp2_with (first | ((with_reducible refine gN 1 rfl ?_); refine pB 1 55 [.int .i64 a0_0, .int .i64 a0_1, .int .i64 a0_2, .int .i64 a0_3, .string a0_4, .string a0_5, .slice A0_6 l0_6.length c0_6] HM rfl ?_; clear HM; intro gb298 w2 HM; obtain ⟨_,_,_,_,_,_,_,_,_,_,_,_,_,_⟩ := bk7 (HM.bx 0 rfl)))
    go_ret
    exact ⟨ER, (MD HM).pick []⟩
  ·obtain ⟨c5b0, c5b1⟩ := BF c5
   replace H := IT H; rcases H with ⟨c7, H⟩ | ⟨c7, H⟩
   ·obtain ⟨c7b0, c7b1⟩ := BE c7
    clear c7
    replace H := IT H; rcases H with ⟨c8, H⟩ | ⟨c8, H⟩
    ·obtain ⟨c8b0, c8b1⟩ := BE c8
     have c8b6 : (a0_4.toList).isEmpty = true := by first | (rw [c8]; rfl) | (cases h_ : a0_4.toList with | nil => exact absurd h_ c8 | cons _ _ => rfl)
     clear c8
     replace H := IT H; rcases H with ⟨c9, H⟩ | ⟨c9, H⟩
     ·obtain ⟨c9b0, c9b1⟩ := BE c9
      have c9b6 : (a0_5.toList).isEmpty = true := by first | (rw [c9]; rfl) | (cases h_ : a0_5.toList with | nil => exact absurd h_ c9 | cons _ _ => rfl)
      clear c9
      replace H := IT H; rcases H with ⟨c10, H⟩ | ⟨c10, H⟩
      ·obtain ⟨c10b0, c10b1⟩ := BE c10
       clear c10
       obtain rfl := Option.some.inj H
       go_wp2_with (first | ((with_reducible refine gN 1 rfl ?_); refine pB 1 55 [.int .i64 a0_0, .int .i64 a0_1, .int .i64 a0_2, .int .i64 a0_3, .string a0_4, .string a0_5, .slice A0_6 l0_6.length c0_6] HM rfl ?_; clear HM; intro gb298 w2 HM; obtain ⟨_,_,_,_,_,_,_,_,_,_,_,_,_,_⟩ := bk7 (HM.bx 0 rfl)))
       go_ret
       exact ⟨ER, (MD HM).pick []⟩
      ·obtain ⟨c10b0, c10b1⟩ := BF c10
       obtain rfl := Option.some.inj H
       go_wp2_with (first | ((with_reducible refine gN 1 rfl ?_); refine pB 1 55 [.int .i64 a0_0, .int .i64 a0_1, .int .i64 a0_2, .int .i64 a0_3, .string a0_4, .string a0_5, .slice A0_6 l0_6.length c0_6] HM rfl ?_; clear HM; intro gb298 w2 HM; obtain ⟨_,_,_,_,_,_,_,_,_,_,_,_,_,_⟩ := bk7 (HM.bx 0 rfl)))
       go_ret
       exact ⟨ER, (MD HM).pick []⟩
     ·obtain ⟨c9b0, c9b1⟩ := BF c9
      have c9b6 : (a0_5.toList).isEmpty = false := by first | (rw [c9]; rfl) | (cases h_ : a0_5.toList with | nil => exact absurd h_ c9 | cons _ _ => rfl)
      obtain rfl := Option.some.inj H
      go_wp2_with (first | ((with_reducible refine gN 1 rfl ?_); refine pB 1 55 [.int .i64 a0_0, .int .i64 a0_1, .int .i64 a0_2, .int .i64 a0_3, .string a0_4, .string a0_5, .slice A0_6 l0_6.length c0_6] HM rfl ?_; clear HM; intro gb298 w2 HM; obtain ⟨_,_,_,_,_,_,_,_,_,_,_,_,_,_⟩ := bk7 (HM.bx 0 rfl)))
      go_ret
      exact ⟨ER, (MD HM).pick []⟩
    ·obtain ⟨c8b0, c8b1⟩ := BF c8
     have c8b6 : (a0_4.toList).isEmpty = false := by first | (rw [c8]; rfl) | (cases h_ : a0_4.toList with | nil => exact absurd h_ c8 | cons _ _ => rfl)
     obtain rfl := Option.some.inj H
     go_wp2_with (first | ((with_reducible refine gN 1 rfl ?_); refine pB 1 55 [.int .i64 a0_0, .int .i64 a0_1, .int .i64 a0_2, .int .i64 a0_3, .string a0_4, .string a0_5, .slice A0_6 l0_6.length c0_6] HM rfl ?_; clear HM; intro gb298 w2 HM; obtain ⟨_,_,_,_,_,_,_,_,_,_,_,_,_,_⟩ := bk7 (HM.bx 0 rfl)))
     go_ret
     exact ⟨ER, (MD HM).pick []⟩
   ·obtain ⟨c7b0, c7b1⟩ := BF c7
    obtain rfl := Option.some.inj H
    go_wp2_with (first | ((with_reducible refine gN 1 rfl ?_); refine pB 1 55 [.int .i64 a0_0, .int .i64 a0_1, .int .i64 a0_2, .int .i64 a0_3, .string a0_4, .string a0_5, .slice A0_6 l0_6.length c0_6] HM rfl ?_; clear HM; intro gb298 w2 HM; obtain ⟨_,_,_,_,_,_,_,_,_,_,_,_,_,_⟩ := bk7 (HM.bx 0 rfl)))
    go_ret
    exact ⟨ER, (MD HM).pick []⟩
 ·obtain ⟨c4b0, c4b1⟩ := BF c4
  replace H := IT H; rcases H with ⟨c11, H⟩ | ⟨c11, H⟩
  ·obtain ⟨c11b0, c11b1⟩ := BE c11
   clear c11
   replace H := IT H; rcases H with ⟨c12, H⟩ | ⟨c12, H⟩
   ·obtain ⟨c12b0, c12b1⟩ := BE c12
    clear c12
    replace H := IT H; rcases H with ⟨c13, H⟩ | ⟨c13, H⟩
    ·obtain ⟨c13b0, c13b1⟩ := BE c13
     clear c13
     replace H := IT H; rcases H with ⟨c14, H⟩ | ⟨c14, H⟩
     ·obtain ⟨c14b0, c14b1⟩ := BE c14
      clear c14
      obtain rfl := Option.some.inj H
      go_wp2_with (first | ((with_reducible refine gN 1 rfl ?_); refine pB 1 55 [.int .i64 a0_0, .int .i64 a0_1, .int .i64 a0_2, .int .i64 a0_3, .string a0_4, .string a0_5, .slice A0_6 l0_6.length c0_6] HM rfl ?_; clear HM; intro gb298 w2 HM; obtain ⟨_,_,_,_,_,_,_,_,_,_,_,_,_,_⟩ := bk7 (HM.bx 0 rfl)))
      go_ret
      exact ⟨ER, (MD HM).pick []⟩
     ·obtain ⟨c14b0, c14b1⟩ := BF c14
      obtain rfl := Option.some.inj H
      go_wp2_with (first | ((with_reducible refine gN 1 rfl ?_); refine pB 1 55 [.int .i64 a0_0, .int .i64 a0_1, .int .i64 a0_2, .int .i64 a0_3, .string a0_4, .string a0_5, .slice A0_6 l0_6.length c0_6] HM rfl ?_; clear HM; intro gb298 w2 HM; obtain ⟨_,_,_,_,_,_,_,_,_,_,_,_,_,_⟩ := bk7 (HM.bx 0 rfl)))
      go_ret
      exact ⟨ER, (MD HM).pick []⟩
    ·obtain ⟨c13b0, c13b1⟩ := BF c13
     replace H := IT H; rcases H with ⟨c15, H⟩ | ⟨c15, H⟩
     ·obtain ⟨c15b0, c15b1⟩ := BE c15
      clear c15
      replace H := IT H; rcases H with ⟨c16, H⟩ | ⟨c16, H⟩
      ·obtain ⟨c16b0, c16b1⟩ := BE c16
       have c16b6 : (a0_4.toList).isEmpty = true := by first | (rw [c16]; rfl) | (cases h_ : a0_4.toList with | nil => exact absurd h_ c16 | cons _ _ => rfl)
       clear c16
       replace H := IT H; rcases H with ⟨c17, H⟩ | ⟨c17, H⟩
       ·obtain ⟨c17b0, c17b1⟩ := BE c17
        have c17b6 : (a0_5.toList).isEmpty = true := by first | (rw [c17]; rfl) | (cases h_ : a0_5.toList with | nil => exact absurd h_ c17 | cons _ _ => rfl)
        clear c17
        replace H := IT H; rcases H with ⟨c18, H⟩ | ⟨c18, H⟩
        ·obtain ⟨c18b0, c18b1⟩ := BE c18
         clear c18
         obtain rfl := Option.some.inj H
         go_wp2_with (first | ((with_reducible refine gN 1 rfl ?_); refine pB 1 55 [.int .i64 a0_0, .int .i64 a0_1, .int .i64 a0_2, .int .i64 a0_3, .string a0_4, .string a0_5, .slice A0_6 l0_6.length c0_6] HM rfl ?_; clear HM; intro gb298 w2 HM; obtain ⟨_,_,_,_,_,_,_,_,_,_,_,_,_,_⟩ := bk7 (HM.bx 0 rfl)))
         go_ret
         exact ⟨ER, (MD HM).pick []⟩
        ·obtain ⟨c18b0, c18b1⟩ := BF c18
         obtain rfl := Option.some.inj H
         go_wp2_with (first | ((with_reducible refine gN 1 rfl ?_); refine pB 1 55 [.int .i64 a0_0, .int .i64 a0_1, .int .i64 a0_2, .int .i64 a0_3, .string a0_4, .string a0_5, .slice A0_6 l0_6.length c0_6] HM rfl ?_; clear HM; intro gb298 w2 HM; obtain ⟨_,_,_,_,_,_,_,_,_,_,_,_,_,_⟩ := bk7 (HM.bx 0 rfl)))
         go_ret
         exact ⟨ER, (MD HM).pick []⟩
       ·obtain ⟨c17b0, c17b1⟩ := BF c17
        have c17b6 : (a0_5.toList).isEmpty = false := by first | (rw [c17]; rfl) | (cases h_ : a0_5.toList with | nil => exact absurd h_ c17 | cons _ _ => rfl)
        obtain rfl := Option.some.inj H
        go_wp2_with (first | ((with_reducible refine gN 1 rfl ?_); refine pB 1 55 [.int .i64 a0_0, .int .i64 a0_1, .int .i64 a0_2, .int .i64 a0_3, .string a0_4, .string a0_5, .slice A0_6 l0_6.length c0_6] HM rfl ?_; clear HM; intro gb298 w2 HM; obtain ⟨_,_,_,_,_,_,_,_,_,_,_,_,_,_⟩ := bk7 (HM.bx 0 rfl)))
        go_ret
        exact ⟨ER, (MD HM).pick []⟩
      ·obtain ⟨c16b0, c16b1⟩ := BF c16
       have c16b6 : (a0_4.toList).isEmpty = false := by first | (rw [c16]; rfl) | (cases h_ : a0_4.toList with | nil => exact absurd h_ c16 | cons _ _ => rfl)
       obtain rfl := Option.some.inj H
       go_wp2_with (first | ((with_reducible refine gN 1 rfl ?_); refine pB 1 55 [.int .i64 a0_0, .int .i64 a0_1, .int .i64 a0_2, .int .i64 a0_3, .string a0_4, .string a0_5, .slice A0_6 l0_6.length c0_6] HM rfl ?_; clear HM; intro gb298 w2 HM; obtain ⟨_,_,_,_,_,_,_,_,_,_,_,_,_,_⟩ := bk7 (HM.bx 0 rfl)))
       go_ret
       exact ⟨ER, (MD HM).pick []⟩
     ·obtain ⟨c15b0, c15b1⟩ := BF c15
      obtain rfl := Option.some.inj H
      go_wp2_with (first | ((with_reducible refine gN 1 rfl ?_); refine pB 1 55 [.int .i64 a0_0, .int .i64 a0_1, .int .i64 a0_2, .int .i64 a0_3, .string a0_4, .string a0_5, .slice A0_6 l0_6.length c0_6] HM rfl ?_; clear HM; intro gb298 w2 HM; obtain ⟨_,_,_,_,_,_,_,_,_,_,_,_,_,_⟩ := bk7 (HM.bx 0 rfl)))
      go_ret
      exact ⟨ER, (MD HM).pick []⟩
   ·obtain ⟨c12b0, c12b1⟩ := BF c12
    obtain rfl := Option.some.inj H
    go_wp2_with (first | ((with_reducible refine gN 1 rfl ?_); refine pB 1 55 [.int .i64 a0_0, .int .i64 a0_1, .int .i64 a0_2, .int .i64 a0_3, .string a0_4, .string a0_5, .slice A0_6 l0_6.length c0_6] HM rfl ?_; clear HM; intro gb298 w2 HM; obtain ⟨_,_,_,_,_,_,_,_,_,_,_,_,_,_⟩ := bk7 (HM.bx 0 rfl)))
    go_ret
    exact ⟨ER, (MD HM).pick []⟩
  ·obtain ⟨c11b0, c11b1⟩ := BF c11
   replace H := IT H; rcases H with ⟨c19, H⟩ | ⟨c19, H⟩
   ·obtain ⟨c19b0, c19b1⟩ := BE c19
    clear c19
    replace H := IT H; rcases H with ⟨c20, H⟩ | ⟨c20, H⟩
    ·obtain ⟨c20b0, c20b1⟩ := BE c20
     clear c20
     replace H := IT H; rcases H with ⟨c21, H⟩ | ⟨c21, H⟩
     ·obtain ⟨c21b0, c21b1⟩ := BE c21
      clear c21
      replace H := IT H; rcases H with ⟨c22, H⟩ | ⟨c22, H⟩
      ·obtain ⟨c22b0, c22b1⟩ := BE c22
       clear c22
       obtain rfl := Option.some.inj H
       go_wp2_with (first | ((with_reducible refine gN 1 rfl ?_); refine pB 1 55 [.int .i64 a0_0, .int .i64 a0_1, .int .i64 a0_2, .int .i64 a0_3, .string a0_4, .string a0_5, .slice A0_6 l0_6.length c0_6] HM rfl ?_; clear HM; intro gb298 w2 HM; obtain ⟨_,_,_,_,_,_,_,_,_,_,_,_,_,_⟩ := bk7 (HM.bx 0 rfl)))
       go_ret
       exact ⟨ER, (MD HM).pick []⟩
      ·obtain ⟨c22b0, c22b1⟩ := BF c22
       obtain rfl := Option.some.inj H
       go_wp2_with (first | ((with_reducible refine gN 1 rfl ?_); refine pB 1 55 [.int .i64 a0_0, .int .i64 a0_1, .int .i64 a0_2, .int .i64 a0_3, .string a0_4, .string a0_5, .slice A0_6 l0_6.length c0_6] HM rfl ?_; clear HM; intro gb298 w2 HM; obtain ⟨_,_,_,_,_,_,_,_,_,_,_,_,_,_⟩ := bk7 (HM.bx 0 rfl)))
       go_ret
       exact ⟨ER, (MD HM).pick []⟩
     ·obtain ⟨c21b0, c21b1⟩ := BF c21
      replace H := IT H; rcases H with ⟨c23, H⟩ | ⟨c23, H⟩
      ·obtain ⟨c23b0, c23b1⟩ := BE c23
       clear c23
       replace H := IT H; rcases H with ⟨c24, H⟩ | ⟨c24, H⟩
       ·obtain ⟨c24b0, c24b1⟩ := BE c24
        have c24b6 : (a0_4.toList).isEmpty = true := by first | (rw [c24]; rfl) | (cases h_ : a0_4.toList with | nil => exact absurd h_ c24 | cons _ _ => rfl)
        clear c24
        replace H := IT H; rcases H with ⟨c25, H⟩ | ⟨c25, H⟩
        ·obtain ⟨c25b0, c25b1⟩ := BE c25
         have c25b6 : (a0_5.toList).isEmpty = true := by first | (rw [c25]; rfl) | (cases h_ : a0_5.toList with | nil => exact absurd h_ c25 | cons _ _ => rfl)
         clear c25
         replace H := IT H; rcases H with ⟨c26, H⟩ | ⟨c26, H⟩
         ·obtain ⟨c26b0, c26b1⟩ := BE c26
          clear c26
          obtain rfl := Option.some.inj H
          go_wp2_with (first | ((with_reducible refine gN 1 rfl ?_); refine pB 1 55 [.int .i64 a0_0, .int .i64 a0_1, .int .i64 a0_2, .int .i64 a0_3, .string a0_4, .string a0_5, .slice A0_6 l0_6.length c0_6] HM rfl ?_; clear HM; intro gb298 w2 HM; obtain ⟨_,_,_,_,_,_,_,_,_,_,_,_,_,_⟩ := bk7 (HM.bx 0 rfl)))
          go_ret
          exact ⟨ER, (MD HM).pick []⟩
         ·obtain ⟨c26b0, c26b1⟩ := BF c26
          obtain rfl := Option.some.inj H
          go_wp2_with (first | ((with_reducible refine gN 1 rfl ?_); refine pB 1 55 [.int .i64 a0_0, .int .i64 a0_1, .int .i64 a0_2, .int .i64 a0_3, .string a0_4, .string a0_5, .slice A0_6 l0_6.length c0_6] HM rfl ?_; clear HM; intro gb298 w2 HM; obtain ⟨_,_,_,_,_,_,_,_,_,_,_,_,_,_⟩ := bk7 (HM.bx 0 rfl)))
          go_ret
          exact ⟨ER, (MD HM).pick []⟩
        ·obtain ⟨c25b0, c25b1⟩ := BF c25
         have c25b6 : (a0_5.toList).isEmpty = false := by first | (rw [c25]; rfl) | (cases h_ : a0_5.toList with | nil => exact absurd h_ c25 | cons _ _ => rfl)
         obtain rfl := Option.some.inj H
         go_wp2_with (first | ((with_reducible refine gN 1 rfl ?_); refine pB 1 55 [.int .i64 a0_0, .int .i64 a0_1, .int .i64 a0_2, .int .i64 a0_3, .string a0_4, .string a0_5, .slice A0_6 l0_6.length c0_6] HM rfl ?_; clear HM; intro gb298 w2 HM; obtain ⟨_,_,_,_,_,_,_,_,_,_,_,_,_,_⟩ := bk7 (HM.bx 0 rfl)))
         go_ret
         exact ⟨ER, (MD HM).pick []⟩
       ·obtain ⟨c24b0, c24b1⟩ := BF c24
        have c24b6 : (a0_4.toList).isEmpty = false := by first | (rw [c24]; rfl) | (cases h_ : a0_4.toList with | nil => exact absurd h_ c24 | cons _ _ => rfl)
        obtain rfl := Option.some.inj H
        go_wp2_with (first | ((with_reducible refine gN 1 rfl ?_); refine pB 1 55 [.int .i64 a0_0, .int .i64 a0_1, .int .i64 a0_2, .int .i64 a0_3, .string a0_4, .string a0_5, .slice A0_6 l0_6.length c0_6] HM rfl ?_; clear HM; intro gb298 w2 HM; obtain ⟨_,_,_,_,_,_,_,_,_,_,_,_,_,_⟩ := bk7 (HM.bx 0 rfl)))
        go_ret
        exact ⟨ER, (MD HM).pick []⟩
      ·obtain ⟨c23b0, c23b1⟩ := BF c23
       obtain rfl := Option.some.inj H
       go_wp2_with (first | ((with_reducible refine gN 1 rfl ?_); refine pB 1 55 [.int .i64 a0_0, .int .i64 a0_1, .int .i64 a0_2, .int .i64 a0_3, .string a0_4, .string a0_5, .slice A0_6 l0_6.length c0_6] HM rfl ?_; clear HM; intro gb298 w2 HM; obtain ⟨_,_,_,_,_,_,_,_,_,_,_,_,_,_⟩ := bk7 (HM.bx 0 rfl)))
       go_ret
       exact ⟨ER, (MD HM).pick []⟩
    ·obtain ⟨c20b0, c20b1⟩ := BF c20
     obtain rfl := Option.some.inj H
     go_wp2_with (first | ((with_reducible refine gN 1 rfl ?_); refine pB 1 55 [.int .i64 a0_0, .int .i64 a0_1, .int .i64 a0_2, .int .i64 a0_3, .string a0_4, .string a0_5, .slice A0_6 l0_6.length c0_6] HM rfl ?_; clear HM; intro gb298 w2 HM; obtain ⟨_,_,_,_,_,_,_,_,_,_,_,_,_,_⟩ := bk7 (HM.bx 0 rfl)))
     go_ret
     exact ⟨ER, (MD HM).pick []⟩
   ·obtain ⟨c19b0, c19b1⟩ := BF c19
    obtain rfl := Option.some.inj H
    go_wp2_with (first | ((with_reducible refine gN 1 rfl ?_); refine pB 1 55 [.int .i64 a0_0, .int .i64 a0_1, .int .i64 a0_2, .int .i64 a0_3, .string a0_4, .string a0_5, .slice A0_6 l0_6.length c0_6] HM rfl ?_; clear HM; intro gb298 w2 HM; obtain ⟨_,_,_,_,_,_,_,_,_,_,_,_,_,_⟩ := bk7 (HM.bx 0 rfl)))
    go_ret
    exact ⟨ER, (MD HM).pick []⟩
def impl_CmdText.j0 : Nat → ByteArray → ByteArray → Bool → Int → Int → Int → Int → ByteArray → ByteArray → List ByteArray → Option (ByteArray)
 | 0, _, _, _, _, _, _, _, _, _, _ => none
 | k + 1, x3, x4, x22, x300000, x300001, x300002, x300003, x300004, x300005, x300006 => if x22 = true then (some (⟨#[]⟩ : ByteArray)) else (if x300000 = 1 then ((impl_glued.f k (([(⟨#[110, 101, 119]⟩ : ByteArray), x3, x4] : List ByteArray))).bind fun t306 => (some t306)) else (if x300000 = 2 then ((impl_OpText.f k x300003 x300004 x300005).bind fun t307 => (some t307)) else (if x300000 = 3 then ((impl_AsksText.f k x300006).bind fun t308 => (if t308.toList = ([] : List UInt8) then (some (⟨#[]⟩ : ByteArray)) else (if 4 + t308.size ≤ 9223372036854775807 then (some ((⟨#[97, 115, 107, 32]⟩ : ByteArray) ++ t308)) else (none)))) else (if x300000 = 4 then (some (⟨#[115, 104, 111, 119]⟩ : ByteArray)) else (if x300000 = 5 then (some (⟨#[114, 97, 116, 101]⟩ : ByteArray)) else (if x300000 = 6 then (if 4 + x3.size ≤ 9223372036854775807 then (some ((⟨#[108, 97, 98, 32]⟩ : ByteArray) ++ x3)) else (none)) else (if x300000 = 7 then (some (⟨#[115, 97, 118, 101]⟩ : ByteArray)) else (some (⟨#[]⟩ : ByteArray)))))))))
def impl_CmdText.f (k : Nat) (a0_0 : Int) (a0_1 : Int) (a0_2 : Int) (a0_3 : Int) (a0_4 : ByteArray) (a0_5 : ByteArray) (l0_6 : List ByteArray) : Option (ByteArray) := (impl_NumText.f k a0_1).bind fun t300 => ((impl_NumText.f k a0_2).bind fun t301 => ((impl_isAlone.f a0_0 a0_1 a0_2 a0_3 a0_4 a0_5 l0_6).bind fun t302 => (if t302 = true then (if t300.toList = ([] : List UInt8) then (impl_CmdText.j0 k t300 t301 true a0_0 a0_1 a0_2 a0_3 a0_4 a0_5 l0_6) else (impl_CmdText.j0 k t300 t301 (t301.toList == ([] : List UInt8)) a0_0 a0_1 a0_2 a0_3 a0_4 a0_5 l0_6)) else (impl_CmdText.j0 k t300 t301 true a0_0 a0_1 a0_2 a0_3 a0_4 a0_5 l0_6))))
def impl_CmdText.T1 : Bool × List (List Nat × List Nat) := (true, [([], []), ([0], [0]), ([1], [1]), ([], []), ([3], [3]), ([4, 2], [4]), ([2, 5, 0, 1, 2], [2]), ([5, 6, 0, 1, 2, 3, 4, 5, 6], [5])])
def impl_CmdText.B1 : List Nat := [0, 1, 3, 0, 8, 31, 63, 127]
theorem impl_CmdText.tab1 : rtab .any (opsOf Try.f27 1) = impl_CmdText.T1 := by kernel_rfl
theorem impl_CmdText.bits1 : waitsOk impl_CmdText.T1.2 impl_CmdText.B1 = true := by kernel_rfl
theorem impl_CmdText.calls (k : Nat) (a0_0 : Int) (a0_1 : Int) (a0_2 : Int) (a0_3 : Int) (a0_4 : ByteArray) (a0_5 : ByteArray) (A0_6 : Option Addr) (c0_6 : Nat) (l0_6 : List ByteArray) (r : ByteArray) (w : World) (hr0_6 : Kd.C Kd.string w A0_6 l0_6.length l0_6) (hc0_6 : l0_6.length ≤ c0_6) (h : impl_CmdText.f k a0_0 a0_1 a0_2 a0_3 a0_4 a0_5 l0_6 = some r) :
  Calls Try.prog 27 #[.agg #[.int .i64 a0_0, .int .i64 a0_1, .int .i64 a0_2, .int .i64 a0_3, .string a0_4, .string a0_5, .slice A0_6 l0_6.length c0_6]] w fun e w' => e = .returned (.string r) ∧ Mem w [] w' [] := by
 have hu55 := Try.underlying55
 have hu43 := Try.underlying43
 have HR0_6 := Aside0.mk hr0_6
 have HC0_6 := Aside0.mk hc0_6
 clear hr0_6 hc0_6
 have HM := Mem.nil w
 have H := h
 clear h
 unfold impl_CmdText.f at H
 go_enter Try.func27, Try.ntmps27
 try go_wp2_with (first | ((with_reducible refine gN 1 rfl ?_); refine pB 1 55 [.int .i64 a0_0, .int .i64 a0_1, .int .i64 a0_2, .int .i64 a0_3, .string a0_4, .string a0_5, .slice A0_6 l0_6.length c0_6] HM rfl ?_; clear HM; intro gb299 w2 HM))
 replace H := BN H; obtain ⟨t300, A3, H⟩ := H
 replace H := BN H; obtain ⟨t301, A4, H⟩ := H
 refine RGN 8 [0, 1, 2, 3, 4, 5, 6, 7] (fun a0 b a w' => a = putSel a0 b [(0, 6, .pointer (some ⟨gb299, 1, none⟩)), (1, 7, .int .i64 a0_1), (2, 8, .string t300), (3, 9, .pointer (some ⟨gb299, 2, none⟩)), (4, 10, .int .i64 a0_2), (5, 11, .string t301), (6, 3, .string t300), (7, 4, .string t301)] ∧ Mem w [] w' [box 55 gb299 [.int .i64 a0_0, .int .i64 a0_1, .int .i64 a0_2, .int .i64 a0_3, .string a0_4, .string a0_5, .slice A0_6 l0_6.length c0_6]]) impl_CmdText.tab1 impl_CmdText.bits1 ?_ ?_ ?_
 ·exact ⟨PS0' rfl _, (HM.drew).pick [0]⟩
 ·clear HM
  refine SY ?_ ?_
  ·intro b a w ha HM hb hon hoff K hK
   have e1 := PG ha 1
   exact VL (.pointer (some ⟨gb299, 1, none⟩)) (hK.out _ _ ⟨PUT ha 0 hb, HM⟩)
  refine SY ?_ ?_
  ·intro b a w ha HM hb hon hoff K hK
   obtain ⟨_,_,_,_,_,_,_,_,_,_,_,_,_,_⟩ := bk7 (HM.bx 0 rfl)
   have e6 := PE ha 0 hon
   exact VL (.int .i64 a0_1) (hK.out _ _ ⟨PUT ha 1 hb, HM⟩)
  refine SY ?_ ?_
  ·intro b a w ha HM hb hon hoff K hK
   have e7 := PE ha 1 hon
   refine ST (eC (some 8) rfl #[.int .i64 a0_1] rfl Try.func62 (impl_NumText.calls k a0_1 t300 _ A3.out) ?_ (hargs := by (simp only [List.map_toArray, List.map_cons, List.map_nil, evc, eval_of e7]) <;> rfl))
   rintro e w10 ⟨rfl, hR⟩
   refine ⟨_, rfl, ?_⟩
   replace HM := HM.call hR
   clear hR
   exact hK.out _ _ ⟨PUT ha 2 hb, (HM).pick [0]⟩
  refine SY ?_ ?_
  ·intro b a w ha HM hb hon hoff K hK
   have e1 := PG ha 1
   exact VL (.pointer (some ⟨gb299, 2, none⟩)) (hK.out _ _ ⟨PUT ha 3 hb, HM⟩)
  refine SY ?_ ?_
  ·intro b a w ha HM hb hon hoff K hK
   obtain ⟨_,_,_,_,_,_,_,_,_,_,_,_,_,_⟩ := bk7 (HM.bx 0 rfl)
   have e9 := PE ha 3 hon
   exact VL (.int .i64 a0_2) (hK.out _ _ ⟨PUT ha 4 hb, HM⟩)
  refine SY ?_ ?_
  ·intro b a w ha HM hb hon hoff K hK
   have e10 := PE ha 4 hon
   refine ST (eC (some 11) rfl #[.int .i64 a0_2] rfl Try.func62 (impl_NumText.calls k a0_2 t301 _ A4.out) ?_ (hargs := by (simp only [List.map_toArray, List.map_cons, List.map_nil, evc, eval_of e10]) <;> rfl))
   rintro e w12 ⟨rfl, hR⟩
   refine ⟨_, rfl, ?_⟩
   replace HM := HM.call hR
   clear hR
   exact hK.out _ _ ⟨PUT ha 5 hb, (HM).pick [0]⟩
  refine SY ?_ ?_
  ·intro b a w ha HM hb hon hoff K hK
   have e8 := PE ha 2 hon
   exact VL (.string t300) (hK.out _ _ ⟨PUT ha 6 hb, HM⟩)
  refine SY ?_ ?_
  ·intro b a w ha HM hb hon hoff K hK
   have e11 := PE ha 5 hon
   exact VL (.string t301) (hK.out _ _ ⟨PUT ha 7 hb, HM⟩)
  exact steps_nil
 rintro _ w13 ⟨rfl, HM⟩
 simp only [putSel, if_true, Act.put, List.setIfInBounds_toArray, List.set_cons_zero, List.set_cons_succ, gt_iff_lt, ge_iff_le]
 have HC14 := Aside0.mk H
 clear H
 go_upto_region 2 with (fail)
 go_cut [22] (fun v22 wc => ∃ (kq : Nat) (x22_13 : Bool), v22 = .bool x22_13 ∧ Aside0 (impl_CmdText.j0 kq t300 t301 x22_13 a0_0 a0_1 a0_2 a0_3 a0_4 a0_5 l0_6 = some r) ∧ Aside0 (kq ≤ k) ∧ Mem w [] wc [box 55 gb299 [.int .i64 a0_0, .int .i64 a0_1, .int .i64 a0_2, .int .i64 a0_3, .string a0_4, .string a0_5, .slice A0_6 l0_6.length c0_6]])
 case first =>
  have H := HC14.out
  clear HC14
  replace H := BN H; obtain ⟨t302, A16, H⟩ := H
  replace H := IB H
  rcases H with ⟨c18, H⟩ | ⟨c18, H⟩
  ·subst c18
   replace H := IT H; rcases H with ⟨c19, H⟩ | ⟨c19, H⟩
   ·obtain ⟨c19b0, c19b1⟩ := BE c19
    have c19b6 : (t300.toList).isEmpty = true := by first | (rw [c19]; rfl) | (cases h_ : t300.toList with | nil => exact absurd h_ c19 | cons _ _ => rfl)
    clear c19
    have H' := Aside0.mk H
    clear H
    obtain ⟨_,_,_,_,_,_,_,_,_,_,_,_,_,_⟩ := bk7 (HM.bx 0 rfl)
    go_wp2_with (first | ((with_reducible refine gC 75 rfl ?_); refine pC (some 13) rfl #[.agg #[.int .i64 a0_0, .int .i64 a0_1, .int .i64 a0_2, .int .i64 a0_3, .string a0_4, .string a0_5, .slice A0_6 l0_6.length c0_6]] rfl Try.func75 (impl_isAlone.calls a0_0 a0_1 a0_2 a0_3 a0_4 a0_5 _ _ l0_6 true _ (HM.came HR0_6.out) HC0_6.out A16.out) ?_; rintro e w17 ⟨rfl, hR⟩; refine ⟨_, rfl, ?_⟩; replace HM := HM.call hR; clear hR))
    go_meet
    case rel => exact ⟨_, (true), RS, H', ⟨by first | omega | exact Nat.le_refl _⟩, (MD HM).pick [0]⟩
   ·obtain ⟨c19b0, c19b1⟩ := BF c19
    have c19b6 : (t300.toList).isEmpty = false := by first | (rw [c19]; rfl) | (cases h_ : t300.toList with | nil => exact absurd h_ c19 | cons _ _ => rfl)
    have H' := Aside0.mk H
    clear H
    obtain ⟨_,_,_,_,_,_,_,_,_,_,_,_,_,_⟩ := bk7 (HM.bx 0 rfl)
    go_wp2_with (first | ((with_reducible refine gC 75 rfl ?_); refine pC (some 13) rfl #[.agg #[.int .i64 a0_0, .int .i64 a0_1, .int .i64 a0_2, .int .i64 a0_3, .string a0_4, .string a0_5, .slice A0_6 l0_6.length c0_6]] rfl Try.func75 (impl_isAlone.calls a0_0 a0_1 a0_2 a0_3 a0_4 a0_5 _ _ l0_6 true _ (HM.came HR0_6.out) HC0_6.out A16.out) ?_; rintro e w17 ⟨rfl, hR⟩; refine ⟨_, rfl, ?_⟩; replace HM := HM.call hR; clear hR))
    go_meet
    case rel => exact ⟨_, ((t301.toList == ([] : List UInt8))), (by first | rfl | (generalize t301 = y_; cases y_ with | mk d_ => cases d_ with | mk l_ => cases l_ <;> rfl) | (simp; done) | (generalize t301.toList = y_; cases y_ <;> simp)), H', ⟨by first | omega | exact Nat.le_refl _⟩, (MD HM).pick [0]⟩
  ·subst c18
   have H' := Aside0.mk H
   clear H
   obtain ⟨_,_,_,_,_,_,_,_,_,_,_,_,_,_⟩ := bk7 (HM.bx 0 rfl)
   go_wp2_with (first | ((with_reducible refine gC 75 rfl ?_); refine pC (some 13) rfl #[.agg #[.int .i64 a0_0, .int .i64 a0_1, .int .i64 a0_2, .int .i64 a0_3, .string a0_4, .string a0_5, .slice A0_6 l0_6.length c0_6]] rfl Try.func75 (impl_isAlone.calls a0_0 a0_1 a0_2 a0_3 a0_4 a0_5 _ _ l0_6 false _ (HM.came HR0_6.out) HC0_6.out A16.out) ?_; rintro e w17 ⟨rfl, hR⟩; refine ⟨_, rfl, ?_⟩; replace HM := HM.call hR; clear hR))
   go_meet
   case rel => exact ⟨_, (true), RS, H', ⟨by first | omega | exact Nat.le_refl _⟩, (MD HM).pick [0]⟩
 case rest =>
  clear HC14 HM
  obtain ⟨kq, x22_13, rfl, HA, HJ13, HM⟩ := hcut
  cases kq with
  | zero => exact absurd HA.out (by simp [impl_CmdText.j0])
  | succ kj13 =>
   have H := HA.out
   clear HA
   simp only [impl_CmdText.j0] at H
   go_upto_if 22 with (fail)
   replace H := IB H
   rcases H with ⟨c20, H⟩ | ⟨c20, H⟩
   ·subst c20
    obtain rfl := Option.some.inj H
    go_wp2
    go_ret
    exact ⟨ER, (MD HM).pick []⟩
   ·subst c20
    obtain ⟨_,_,_,_,_,_,_,_,_,_,_,_,_,_⟩ := bk7 (HM.bx 0 rfl)
    go_upto_if 25 with (fail)
    replace H := IT H; rcases H with ⟨c22, H⟩ | ⟨c22, H⟩
    ·obtain ⟨c22b0, c22b1⟩ := BE c22
     clear c22
     first|rw [c22b0]|(simp only [i64_w, i32_w]; rw [c22b0])|skip
     replace H := BN H; obtain ⟨t306, A24, H⟩ := H
     obtain rfl := Option.some.inj H
     go_wp2_with (first | ((with_reducible refine gN 29 rfl ?_); refine pL 29 Kd.string 9 ([(⟨#[110, 101, 119]⟩ : ByteArray), t300, t301] : List ByteArray) [.string (⟨#[110, 101, 119]⟩ : ByteArray), .string t300, .string t301] (Reps.one (show Kd.M Kd.string _ _ _ (⟨#[110, 101, 119]⟩ : ByteArray) [.string (⟨#[110, 101, 119]⟩ : ByteArray)] from rfl) (Reps.one (show Kd.M Kd.string _ _ _ t300 [.string t300] from rfl) (Reps.one (show Kd.M Kd.string _ _ _ t301 [.string t301] from rfl) (Reps.none _ _)))) HM rfl ?_; clear HM; intro v304 w23 HM; obtain ⟨Xo26, ko26, rfl⟩ := HM.rdR 1 rfl) | ((with_reducible refine gC 61 rfl ?_); refine pC (some 30) rfl #[.slice Xo26 (([(⟨#[110, 101, 119]⟩ : ByteArray), t300, t301] : List ByteArray)).length ko26] rfl Try.func61 (impl_glued.calls kj13 _ _ (([(⟨#[110, 101, 119]⟩ : ByteArray), t300, t301] : List ByteArray)) t306 _ (HM.CR 1 rfl).2.2 (HM.CR 1 rfl).2.1 A24.out) ?_; rintro e w25 ⟨rfl, hd⟩; refine ⟨_, rfl, ?_⟩; replace HM := HM.drawn hd; clear hd))
     go_ret
     exact ⟨ER, (MD HM).pick []⟩
    ·obtain ⟨c22b0, c22b1⟩ := BF c22
     first|rw [c22b0]|(simp only [i64_w, i32_w]; rw [c22b0])|skip
     go_upto_if 31 with (fail)
     replace H := IT H; rcases H with ⟨c27, H⟩ | ⟨c27, H⟩
     ·obtain ⟨c27b0, c27b1⟩ := BE c27
      clear c27
      first|rw [c27b0]|(simp only [i64_w, i32_w]; rw [c27b0])|skip
      replace H := BN H; obtain ⟨t307, A28, H⟩ := H
      obtain rfl := Option.some.inj H
      go_wp2_with (first | ((with_reducible refine gC 21 rfl ?_); refine pC (some 35) rfl #[.agg #[.int .i64 a0_3, .string a0_4, .string a0_5]] rfl Try.func21 (impl_OpText.calls kj13 a0_3 a0_4 a0_5 t307 _ A28.out) ?_; rintro e w29 ⟨rfl, hR⟩; refine ⟨_, rfl, ?_⟩; replace HM := HM.call hR; clear hR))
      go_ret
      exact ⟨ER, (MD HM).pick []⟩
     ·obtain ⟨c27b0, c27b1⟩ := BF c27
      first|rw [c27b0]|(simp only [i64_w, i32_w]; rw [c27b0])|skip
      go_upto_if 36 with (fail)
      replace H := IT H; rcases H with ⟨c30, H⟩ | ⟨c30, H⟩
      ·obtain ⟨c30b0, c30b1⟩ := BE c30
       clear c30
       first|rw [c30b0]|(simp only [i64_w, i32_w]; rw [c30b0])|skip
       replace H := BN H; obtain ⟨t308, A31, H⟩ := H
       go_upto_if 42 with (first | ((with_reducible refine gC 24 rfl ?_); refine pC (some 40) rfl #[.slice A0_6 l0_6.length c0_6] rfl Try.func24 (impl_AsksText.calls kj13 _ _ l0_6 t308 _ (HM.came HR0_6.out) HC0_6.out A31.out) ?_; rintro e w32 ⟨rfl, hR⟩; refine ⟨_, rfl, ?_⟩; replace HM := HM.call hR; clear hR))
       replace H := IT H; rcases H with ⟨c33, H⟩ | ⟨c33, H⟩
       ·obtain ⟨c33b0, c33b1⟩ := BE c33
        have c33b6 : (t308.toList).isEmpty = true := by first | (rw [c33]; rfl) | (cases h_ : t308.toList with | nil => exact absurd h_ c33 | cons _ _ => rfl)
        clear c33
        first|rw [c33b0]|rw [c33b1]|rw [c33b6]|(simp only [bne, c33b6, Bool.not_true, Bool.not_false])|(simp only [i64_w, i32_w]; rw [c33b0])|skip
        obtain rfl := Option.some.inj H
        go_wp2
        go_ret
        exact ⟨ER, (MD HM).pick []⟩
       ·obtain ⟨c33b0, c33b1⟩ := BF c33
        have c33b6 : (t308.toList).isEmpty = false := by first | (rw [c33]; rfl) | (cases h_ : t308.toList with | nil => exact absurd h_ c33 | cons _ _ => rfl)
        first|rw [c33b0]|rw [c33b1]|rw [c33b6]|(simp only [bne, c33b6, Bool.not_true, Bool.not_false])|(simp only [i64_w, i32_w]; rw [c33b0])|skip
        replace H := GD H; obtain ⟨c34, H⟩ := H
        have c34b0 := eq_true c34
        have c34b1 : decide (4 + t308.size ≤ 9223372036854775807) = true := decide_eq_true c34
        try have c34b2 : (9223372036854775807 < 4 + t308.size) = False := eq_false (Nat.not_lt.2 c34)
        obtain rfl := Option.some.inj H
        go_wp2
        go_ret
        exact ⟨ER, (MD HM).pick []⟩
      ·obtain ⟨c30b0, c30b1⟩ := BF c30
       first|rw [c30b0]|(simp only [i64_w, i32_w]; rw [c30b0])|skip
       go_upto_if 45 with (fail)
       replace H := IT H; rcases H with ⟨c35, H⟩ | ⟨c35, H⟩
       ·obtain ⟨c35b0, c35b1⟩ := BE c35
        clear c35
        first|rw [c35b0]|(simp only [i64_w, i32_w]; rw [c35b0])|skip
        obtain rfl := Option.some.inj H
        go_wp2
        go_ret
        exact ⟨ER, (MD HM).pick []⟩
       ·obtain ⟨c35b0, c35b1⟩ := BF c35
        first|rw [c35b0]|(simp only [i64_w, i32_w]; rw [c35b0])|skip
        go_upto_if 47 with (fail)
        replace H := IT H; rcases H with ⟨c36, H⟩ | ⟨c36, H⟩
        ·obtain ⟨c36b0, c36b1⟩ := BE c36
         clear c36
         first|rw [c36b0]|(simp only [i64_w, i32_w]; rw [c36b0])|skip
         obtain rfl := Option.some.inj H
         go_wp2
         go_ret
         exact ⟨ER, (MD HM).pick []⟩
        ·obtain ⟨c36b0, c36b1⟩ := BF c36
         first|rw [c36b0]|(simp only [i64_w, i32_w]; rw [c36b0])|skip
         go_upto_if 49 with (fail)
         replace H := IT H; rcases H with ⟨c37, H⟩ | ⟨c37, H⟩
         ·obtain ⟨c37b0, c37b1⟩ := BE c37
          clear c37
          first|rw [c37b0]|(simp only [i64_w, i32_w]; rw [c37b0])|skip
          replace H := GD H; obtain ⟨c38, H⟩ := H
          have c38b0 := eq_true c38
          have c38b1 : decide (4 + t300.size ≤ 9223372036854775807) = true := decide_eq_true c38
          try have c38b2 : (9223372036854775807 < 4 + t300.size) = False := eq_false (Nat.not_lt.2 c38)
          obtain rfl := Option.some.inj H
          go_wp2
          go_ret
          exact ⟨ER, (MD HM).pick []⟩
         ·obtain ⟨c37b0, c37b1⟩ := BF c37
          first|rw [c37b0]|(simp only [i64_w, i32_w]; rw [c37b0])|skip
          go_upto_if 53 with (fail)
          replace H := IT H; rcases H with ⟨c39, H⟩ | ⟨c39, H⟩
          ·obtain ⟨c39b0, c39b1⟩ := BE c39
           clear c39
           first|rw [c39b0]|(simp only [i64_w, i32_w]; rw [c39b0])|skip
           obtain rfl := Option.some.inj H
           go_wp2
           go_ret
           exact ⟨ER, (MD HM).pick []⟩
          ·obtain ⟨c39b0, c39b1⟩ := BF c39
           first|rw [c39b0]|(simp only [i64_w, i32_w]; rw [c39b0])|skip
           obtain rfl := Option.some.inj H
           go_wp2
           go_ret
           exact ⟨ER, (MD HM).pick []⟩
def impl_Lines.f (k : Nat) (a0 : ByteArray) : Option (List ByteArray) := (impl_split.f k a0 10).bind fun t249 => (if 0 ≤ (wrap64 ((t249.length : Int) - 1)) then (if (wrap64 ((t249.length : Int) - 1)) < (t249.length : Int) then (if (rdOf ByteArray.empty t249 (wrap64 ((t249.length : Int) - 1))).toList = ([] : List UInt8) then (if (wrap64 ((t249.length : Int) - 1)) ≤ (t249.length : Int) then (some (t249.take ((wrap64 ((t249.length : Int) - 1)) : Int).toNat)) else (none)) else (some t249)) else (none)) else (none))
theorem impl_Lines.calls (k : Nat) (a0 : ByteArray) (r : List ByteArray) (w : World)  (h : impl_Lines.f k a0 = some r) :
  Calls Try.prog 51 #[.string a0] w fun e w' => ∃ v0_ : Value, e = .returned (v0_) ∧ Mem w [] w' [rowR Kd.string 9 v0_ r] := by
 have HM := Mem.nil w
 have H := h
 clear h
 unfold impl_Lines.f at H
 go_enter Try.func51, Try.ntmps51
 replace H := BN H; obtain ⟨t249, A2, H⟩ := H
 replace H := GD H; obtain ⟨c5, H⟩ := H
 have c5b0 := decide_eq_true c5
 clear c5
 replace H := GD H; obtain ⟨c6, H⟩ := H
 have c6b0 := decide_eq_true c6
 clear c6
 go_upto_if 12 with (first | ((with_reducible refine gC 63 rfl ?_); refine pC (some 5) rfl #[.string a0, .int .u8 10] rfl Try.func63 (impl_split.calls k a0 10 t249 _ A2.out) ?_; rintro e w3 ⟨v250, rfl, hR⟩; refine ⟨_, rfl, ?_⟩; replace HM := HM.call hR; clear hR; obtain ⟨Xo4, ko4, rfl⟩ := HM.rdR 0 rfl; have p252 : 0 ≤ ((wrap64 ((t249.length : Int) - 1)) : Int) := of_decide_eq_true AS; have q252 : ((wrap64 ((t249.length : Int) - 1)) : Int) < (t249.length : Int) := of_decide_eq_true AS; obtain ⟨ad252, e252, hx252_0⟩ := Kd.at_string (HM.CR 0 rfl).2.2 (wrap64 ((t249.length : Int) - 1)) p252 q252; cases e252; replace p252 := eq_true p252; replace q252 := eq_true q252))
 replace H := IT H; rcases H with ⟨c7, H⟩ | ⟨c7, H⟩
 ·obtain ⟨c7b0, c7b1⟩ := BE c7
  have c7b6 : ((rdOf ByteArray.empty t249 (wrap64 ((t249.length : Int) - 1))).toList).isEmpty = true := by first | (rw [c7]; rfl) | (cases h_ : ((rdOf ByteArray.empty t249 (wrap64 ((t249.length : Int) - 1))).toList) with | nil => exact absurd h_ c7 | cons _ _ => rfl)
  clear c7
  first|rw [c7b0]|rw [c7b1]|rw [c7b6]|(simp only [bne, c7b6, Bool.not_true, Bool.not_false])|(simp only [i64_w, i32_w]; rw [c7b0])|skip
  replace H := GD H; obtain ⟨c8, H⟩ := H
  have c8b0 := eq_true c8
  have c8b1 : decide ((wrap64 ((t249.length : Int) - 1)) ≤ (t249.length : Int)) = true := decide_eq_true c8
  clear c8
  obtain rfl := Option.some.inj H
  go_wp2_with (first | ((with_reducible refine gate_sl (t := 47) rfl ?_); refine pT 0 47 9 Kd.string _ _ (wrap64 ((t249.length : Int) - 1)) t249 (some ad252) ko4 HM rfl Try.underlying47 info9 rfl (of_decide_eq_true AS) (by have h_ : ((wrap64 ((t249.length : Int) - 1)) : Int) ≤ ((t249.length : Int) : Int) := of_decide_eq_true AS; first | exact h_ | (have e_ := (HM.CR 0 rfl).1; omega)) ?_; clear HM; intro v254 HM))
  go_ret
  exact ⟨_, ER, (MD HM).pick [0]⟩
 ·obtain ⟨c7b0, c7b1⟩ := BF c7
  have c7b6 : ((rdOf ByteArray.empty t249 (wrap64 ((t249.length : Int) - 1))).toList).isEmpty = false := by first | (rw [c7]; rfl) | (cases h_ : ((rdOf ByteArray.empty t249 (wrap64 ((t249.length : Int) - 1))).toList) with | nil => exact absurd h_ c7 | cons _ _ => rfl)
  first|rw [c7b0]|rw [c7b1]|rw [c7b6]|(simp only [bne, c7b6, Bool.not_true, Bool.not_false])|(simp only [i64_w, i32_w]; rw [c7b0])|skip
  obtain rfl := Option.some.inj H
  go_wp2
  go_ret
  exact ⟨_, ER, (MD HM).pick [0]⟩
def impl_TextNum.l0 : Nat → ByteArray → Int → Int → Option (Int × Bool)
 | 0, _, _, _ => none
 | k + 1, x0, x4, x5 => if x5 < (x0.size : Int) then (if 0 ≤ x5 then (if (bt x0 x5) < 48 then (some (0, false)) else (if (bt x0 x5) > 57 then (some (0, false)) else (impl_TextNum.l0 k x0 (wrap64 ((wrap64 (10 * x4)) + (((bt x0 x5) - 48) % 256))) (wrap64 (x5 + 1))))) else (none)) else ((impl_NumText.f k x4).bind fun t310 => (if t310.toList = x0.toList then (some (x4, true)) else (some (0, false))))
def impl_TextNum.f (k : Nat) (a0 : ByteArray) : Option (Int × Bool) := (impl_within.f (a0.size : Int) 1 10).bind fun t309 => (if t309 = true then (impl_TextNum.l0 k a0 0 0) else (some (0, false)))
theorem impl_TextNum.calls (k : Nat) (a0 : ByteArray) (r1 : Int) (r2 : Bool) (w : World)  (h : impl_TextNum.f k a0 = some (r1, r2)) :
  Calls Try.prog 115 #[.string a0] w fun e w' => e = .returned (.tuple #[.int .i64 r1, .bool r2]) ∧ Mem w [] w' [] := by
 have HM := Mem.nil w
 have H := h
 clear h
 unfold impl_TextNum.f at H
 go_enter Try.func115, Try.ntmps115
 replace H := BN H; obtain ⟨t309, A2, H⟩ := H
 go_upto_if 9 with (first | ((with_reducible refine gC 92 rfl ?_); refine pC (some 8) rfl #[.int .i64 (a0.size : Int), .int .i64 1, .int .i64 10] rfl Try.func92 (impl_within.calls (a0.size : Int) 1 10 t309 _ A2.out) ?_; rintro e w3 ⟨rfl, hd⟩; refine ⟨_, rfl, ?_⟩; replace HM := HM.drawn hd; clear hd))
 replace H := IB H
 rcases H with ⟨c4, H⟩ | ⟨c4, H⟩
 ·subst c4
  have H' := Aside0.mk H
  clear H
  go_wp2
  go_loopg [4, 5] k (fun kq v4 v5 w' => ∃ (x4_1 : Int) (x5_1 : Int), v4 = .int .i64 x4_1 ∧ v5 = .int .i64 x5_1 ∧ Aside0 (impl_TextNum.l0 kq a0 x4_1 x5_1 = some (r1, r2)) ∧ Aside0 (kq ≤ k) ∧ Mem w [] w' [])
  case atStart => exact ⟨(0), (0), RS, RS, H', ⟨Nat.le_refl _⟩, (MD HM).pick []⟩
  case round =>
   clear H' HM
   obtain ⟨x4_1, x5_1, rfl, rfl, HA, HK1, HM⟩ := hrel
   cases gk with
   | zero => exact absurd HA.out (by simp [impl_TextNum.l0])
   | succ k1 =>
    have H := HA.out
    clear HA
    simp only [impl_TextNum.l0] at H
    go_upto_if 13 with (fail)
    replace H := IT H; rcases H with ⟨c5, H⟩ | ⟨c5, H⟩
    ·have c5b0 := decide_eq_true c5
     clear c5
     first|rw [c5b0]|(simp only [i64_w, i32_w]; rw [c5b0])|skip
     replace H := GD H; obtain ⟨c6, H⟩ := H
     have c6b0 := decide_eq_true c6
     clear c6
     replace H := IT H; rcases H with ⟨c8, H⟩ | ⟨c8, H⟩
     ·have c8b0 := decide_eq_true c8
      clear c8
      simp only [Option.some.injEq, Prod.mk.injEq] at H
      obtain ⟨rfl, rfl⟩ := H
      have p7 : 0 ≤ (x5_1 : Int) := of_decide_eq_true AS
      have q7 : x5_1 < (a0.size : Int) := of_decide_eq_true AS
      have hx7 := bt_at a0 x5_1
      replace p7 := eq_true p7
      replace q7 := eq_true q7
      go_wp2
      go_ret2
      exact ⟨ER, (MD HM).pick []⟩
     ·have c8b0 := decide_eq_false c8
      clear c8
      have p7 : 0 ≤ (x5_1 : Int) := of_decide_eq_true AS
      have q7 : x5_1 < (a0.size : Int) := of_decide_eq_true AS
      have hx7 := bt_at a0 x5_1
      replace p7 := eq_true p7
      replace q7 := eq_true q7
      have p9 : 0 ≤ (x5_1 : Int) := of_decide_eq_true AS
      have q9 : x5_1 < (a0.size : Int) := of_decide_eq_true AS
      have hx9 := bt_at a0 x5_1
      replace p9 := eq_true p9
      replace q9 := eq_true q9
      go_upto_if 25 with (fail)
      replace H := IT H; rcases H with ⟨c10, H⟩ | ⟨c10, H⟩
      ·have c10b0 : decide (57 < (bt a0 x5_1)) = true := decide_eq_true c10
       clear c10
       first|rw [c10b0]|(simp only [i64_w, i32_w]; rw [c10b0])|skip
       simp only [Option.some.injEq, Prod.mk.injEq] at H
       obtain ⟨rfl, rfl⟩ := H
       go_wp2
       go_ret2
       exact ⟨ER, (MD HM).pick []⟩
      ·have c10b0 : decide (57 < (bt a0 x5_1)) = false := decide_eq_false c10
       clear c10
       first|rw [c10b0]|(simp only [i64_w, i32_w]; rw [c10b0])|skip
       have H' := Aside0.mk H
       clear H
       have p11 : 0 ≤ (x5_1 : Int) := of_decide_eq_true AS
       have q11 : x5_1 < (a0.size : Int) := of_decide_eq_true AS
       have hx11 := bt_at a0 x5_1
       replace p11 := eq_true p11
       replace q11 := eq_true q11
       go_wp2
       go_roundg k1
       case measure => have := HK1.out; omega
       case rel => exact ⟨(wrap64 ((wrap64 (10 * x4_1)) + (((bt a0 x5_1) - 48) % 256))), (wrap64 (x5_1 + 1)), RS, RS, H', ⟨by have := HK1.out; omega⟩, (MD HM).pick []⟩
    ·have c5b0 := decide_eq_false c5
     clear c5
     first|rw [c5b0]|(simp only [i64_w, i32_w]; rw [c5b0])|skip
     replace H := BN H; obtain ⟨t310, A12, H⟩ := H
     go_upto_if 37 with (first | ((with_reducible refine gC 62 rfl ?_); refine pC (some 35) rfl #[.int .i64 x4_1] rfl Try.func62 (impl_NumText.calls k1 x4_1 t310 _ A12.out) ?_; rintro e w13 ⟨rfl, hR⟩; refine ⟨_, rfl, ?_⟩; replace HM := HM.call hR; clear hR))
     replace H := IT H; rcases H with ⟨c14, H⟩ | ⟨c14, H⟩
     ·obtain ⟨c14b0, c14b1⟩ := BE c14
      clear c14
      first|rw [c14b0]|(simp only [i64_w, i32_w]; rw [c14b0])|skip
      simp only [Option.some.injEq, Prod.mk.injEq] at H
      obtain ⟨rfl, rfl⟩ := H
      go_wp2
      go_ret2
      exact ⟨ER, (MD HM).pick []⟩
     ·obtain ⟨c14b0, c14b1⟩ := BF c14
      first|rw [c14b0]|(simp only [i64_w, i32_w]; rw [c14b0])|skip
      simp only [Option.some.injEq, Prod.mk.injEq] at H
      obtain ⟨rfl, rfl⟩ := H
      go_wp2
      go_ret2
      exact ⟨ER, (MD HM).pick []⟩
 ·subst c4
  simp only [Option.some.injEq, Prod.mk.injEq] at H
  obtain ⟨rfl, rfl⟩ := H
  go_wp2
  go_ret2
  exact ⟨ER, (MD HM).pick []⟩
def impl_TextCmd.j0 : Nat → ByteArray → Int → Int → Int → Int → ByteArray → ByteArray → List ByteArray → Option (Int × Int × Int × Int × ByteArray × ByteArray × List ByteArray × Bool)
 | 0, _, _, _, _, _, _, _, _ => none
 | k + 1, x0, x316000, x316001, x316002, x316003, x316004, x316005, x316006 => if x0.toList = ([] : List UInt8) then (some (0, 0, 0, 0, (⟨#[]⟩ : ByteArray), (⟨#[]⟩ : ByteArray), ([] : List ByteArray), false)) else ((impl_CmdText.f k x316000 x316001 x316002 x316003 x316004 x316005 x316006).bind fun t334 => (if t334.toList = x0.toList then (some (x316000, x316001, x316002, x316003, x316004, x316005, x316006, true)) else (some (0, 0, 0, 0, (⟨#[]⟩ : ByteArray), (⟨#[]⟩ : ByteArray), ([] : List ByteArray), false))))
def impl_TextCmd.f (k : Nat) (a0 : ByteArray) : Option (Int × Int × Int × Int × ByteArray × ByteArray × List ByteArray × Bool) := (impl_Cut.f k a0).bind fun t312 => (if 0 < (t312.length : Int) then (if (rdOf ByteArray.empty t312 0).toList = ([110, 101, 119] : List UInt8) then (if (t312.length : Int) = 3 then (if 1 < (t312.length : Int) then ((impl_TextNum.f k (rdOf ByteArray.empty t312 1)).bind fun bt318 => (if 2 < (t312.length : Int) then ((impl_TextNum.f k (rdOf ByteArray.empty t312 2)).bind fun bt321 => (impl_TextCmd.j0 k a0 1 bt318.1 bt321.1 0 (⟨#[]⟩ : ByteArray) (⟨#[]⟩ : ByteArray) ([] : List ByteArray))) else (none))) else (none)) else (impl_TextCmd.j0 k a0 1 0 0 0 (⟨#[]⟩ : ByteArray) (⟨#[]⟩ : ByteArray) ([] : List ByteArray))) else (if (rdOf ByteArray.empty t312 0).toList = ([97, 115, 107] : List UInt8) then (if 1 ≤ (t312.length : Int) then (impl_TextCmd.j0 k a0 3 0 0 0 (⟨#[]⟩ : ByteArray) (⟨#[]⟩ : ByteArray) (t312.drop (1 : Int).toNat)) else (none)) else (if (rdOf ByteArray.empty t312 0).toList = ([115, 104, 111, 119] : List UInt8) then (impl_TextCmd.j0 k a0 4 0 0 0 (⟨#[]⟩ : ByteArray) (⟨#[]⟩ : ByteArray) ([] : List ByteArray)) else (if (rdOf ByteArray.empty t312 0).toList = ([114, 97, 116, 101] : List UInt8) then (impl_TextCmd.j0 k a0 5 0 0 0 (⟨#[]⟩ : ByteArray) (⟨#[]⟩ : ByteArray) ([] : List ByteArray)) else (if (rdOf ByteArray.empty t312 0).toList = ([108, 97, 98] : List UInt8) then (if (t312.length : Int) = 2 then (if 1 < (t312.length : Int) then ((impl_TextNum.f k (rdOf ByteArray.empty t312 1)).bind fun bt327 => (impl_TextCmd.j0 k a0 6 bt327.1 0 0 (⟨#[]⟩ : ByteArray) (⟨#[]⟩ : ByteArray) ([] : List ByteArray))) else (none)) else (impl_TextCmd.j0 k a0 6 0 0 0 (⟨#[]⟩ : ByteArray) (⟨#[]⟩ : ByteArray) ([] : List ByteArray))) else (if (rdOf ByteArray.empty t312 0).toList = ([115, 97, 118, 101] : List UInt8) then (impl_TextCmd.j0 k a0 7 0 0 0 (⟨#[]⟩ : ByteArray) (⟨#[]⟩ : ByteArray) ([] : List ByteArray)) else ((impl_TextOp.f k a0).bind fun bt329 => (impl_TextCmd.j0 k a0 2 0 0 bt329.1 bt329.2.1 bt329.2.2.1 ([] : List ByteArray))))))))) else (none))
theorem impl_TextCmd.calls (k : Nat) (a0 : ByteArray) (r1 : Int) (r2 : Int) (r3 : Int) (r4 : Int) (r5 : ByteArray) (r6 : ByteArray) (r7 : List ByteArray) (r8 : Bool) (w : World)  (h : impl_TextCmd.f k a0 = some (r1, r2, r3, r4, r5, r6, r7, r8)) :
  Calls Try.prog 52 #[.string a0] w fun e w' => ∃ v6_ : Value, e = .returned (.tuple #[.agg #[.int .i64 r1, .int .i64 r2, .int .i64 r3, .int .i64 r4, .string r5, .string r6, v6_], .bool r8]) ∧ Mem w [] w' [row Kd.string 9 v6_ r7] := by
 have hu55 := Try.underlying55
 have hu43 := Try.underlying43
 have HM := Mem.nil w
 have H := h
 clear h
 unfold impl_TextCmd.f at H
 go_enter Try.func52, Try.ntmps52
 replace H := BN H; obtain ⟨t312, A3, H⟩ := H
 replace H := GD H; obtain ⟨c7, H⟩ := H
 replace c7 : 0 < (t312.length : Int) := c7
 have c7b0 := decide_eq_true c7
 have c7b1 : decide (0 < t312.length) = true := decide_eq_true (by omega)
 have c7b9 : decide (0 < t312.length) = true := decide_eq_true (by omega)
 clear c7
 have HC9 := Aside0.mk H
 clear H
 go_upto_block 0 with (first | ((with_reducible refine gN 2 rfl ?_); refine pB 2 55 [.int .i64 0, .int .i64 0, .int .i64 0, .int .i64 0, .string (⟨#[]⟩ : ByteArray), .string (⟨#[]⟩ : ByteArray), .slice none 0 0] HM rfl ?_; clear HM; intro gb311 w2 HM) | ((with_reducible refine gC 69 rfl ?_); refine pC (some 9) rfl #[.string a0] rfl Try.func69 (impl_Cut.calls k a0 t312 _ A3.out) ?_; rintro e w4 ⟨v313, rfl, hR⟩; refine ⟨_, rfl, ?_⟩; replace HM := HM.call hR; clear hR) | ((with_reducible refine gN 5 rfl ?_); refine pB 5 55 [.int .i64 0, .int .i64 0, .int .i64 0, .int .i64 0, .string (⟨#[]⟩ : ByteArray), .string (⟨#[]⟩ : ByteArray), .slice none 0 0] HM rfl ?_; clear HM; intro gb315 w5 HM) | ((with_reducible refine gS 5 rfl ?_); refine pS 2 5 0 [.int .i64 0, .int .i64 0, .int .i64 0, .int .i64 0, .string (⟨#[]⟩ : ByteArray), .string (⟨#[]⟩ : ByteArray), .slice none 0 0] HM rfl rfl ?_; clear HM; intro w6 HM; obtain ⟨Xo8, ko8, rfl⟩ := HM.rdR 1 rfl; have p316 : 0 ≤ (0 : Int) := (by omega); have q316 : (0 : Int) < (t312.length : Int) := of_decide_eq_true AS; obtain ⟨ad316, e316, hx316_0⟩ := Kd.at_string (HM.CR 1 rfl).2.2 0 p316 q316; cases e316; have qi316 : (0 < t312.length) = True := eq_true (by omega); (try rw [show ((0 : Int)).toNat = 0 from rfl] at hx316_0); (try rw [Addr.add_zero'] at hx316_0); replace p316 := eq_true p316; replace q316 := eq_true q316))
 replace HM := nzM HM
 try simp only [Act.put, List.setIfInBounds_toArray, List.set_cons_zero, List.set_cons_succ]
 go_cut [] (fun wc => ∃ (kq : Nat) (x316000_8 : Int) (x316001_8 : Int) (x316002_8 : Int) (x316003_8 : Int) (x316004_8 : ByteArray) (x316005_8 : ByteArray) (x316006_8 : List ByteArray) (u316006 : Value), Aside0 (impl_TextCmd.j0 kq a0 x316000_8 x316001_8 x316002_8 x316003_8 x316004_8 x316005_8 x316006_8 = some (r1, r2, r3, r4, r5, r6, r7, r8)) ∧ Aside0 (kq ≤ k) ∧ Mem w [] wc [row Kd.string 9 u316006 x316006_8, box 55 gb311 [.int .i64 0, .int .i64 0, .int .i64 0, .int .i64 0, .string (⟨#[]⟩ : ByteArray), .string (⟨#[]⟩ : ByteArray), .slice none 0 0], box 55 gb315 [.int .i64 x316000_8, .int .i64 x316001_8, .int .i64 x316002_8, .int .i64 x316003_8, .string x316004_8, .string x316005_8, u316006]])
 case first =>
  have H := HC9.out
  clear HC9
  go_upto_if 21 with (fail)
  replace H := IT H; rcases H with ⟨c10, H⟩ | ⟨c10, H⟩
  ·obtain ⟨c10b0, c10b1⟩ := BE c10
   clear c10
   first|rw [c10b0]|(simp only [i64_w, i32_w]; rw [c10b0])|skip
   go_upto_if 26 with (first | ((with_reducible refine gS 23 rfl ?_); refine pS 2 23 0 [.int .i64 1] HM rfl rfl ?_; clear HM; intro w11 HM))
   replace H := IT H; rcases H with ⟨c12, H⟩ | ⟨c12, H⟩
   ·obtain ⟨c12b0, c12b1⟩ := BE c12
    clear c12
    first|rw [c12b0]|(simp only [i64_w, i32_w]; rw [c12b0])|skip
    replace H := GD H; obtain ⟨c13, H⟩ := H
    replace c13 : 1 < (t312.length : Int) := c13
    have c13b0 := decide_eq_true c13
    have c13b1 : decide (1 < t312.length) = true := decide_eq_true (by omega)
    have c13b9 : decide (1 < t312.length) = true := decide_eq_true (by omega)
    clear c13
    replace H := BN H; obtain ⟨⟨t318, t319⟩, A14, H⟩ := H
    replace H := GD H; obtain ⟨c17, H⟩ := H
    replace c17 : 2 < (t312.length : Int) := c17
    have c17b0 : decide (2 < (t312.length : Int)) = true := decide_eq_true c17
    have c17b1 : decide (2 < t312.length) = true := decide_eq_true (by omega)
    have c17b9 : decide (2 < t312.length) = true := decide_eq_true (by omega)
    clear c17
    replace H := BN H; obtain ⟨⟨t321, t322⟩, A18, H⟩ := H
    have H' := Aside0.mk H
    clear H
    have p317 : 0 ≤ (1 : Int) := (by omega)
    have q317 : (1 : Int) < (t312.length : Int) := of_decide_eq_true AS
    obtain ⟨ad317, e317, hx317_0⟩ := Kd.at_string (HM.CR 1 rfl).2.2 1 p317 q317
    obtain rfl := Option.some.inj e317
    have qi317 : (1 < t312.length) = True := eq_true (by omega)
    (try rw [show ((1 : Int)).toNat = 1 from rfl] at hx317_0)
    (try simp only [Nat.reduceMul, Nat.reduceEqDiff, Go.Addr.add, ↓reduceIte] at hx317_0)
    replace p317 := eq_true p317
    replace q317 := eq_true q317
    go_wp2_with (first | ((with_reducible refine gC 115 rfl ?_); refine pC (some 31) rfl #[.string (rdOf ByteArray.empty t312 1)] rfl Try.func115 (impl_TextNum.calls k (rdOf ByteArray.empty t312 1) t318 t319 _ A14.out) ?_; rintro e w15 ⟨rfl, hR⟩; refine ⟨_, rfl, ?_⟩; replace HM := HM.call hR; clear hR) | ((with_reducible refine gS 34 rfl ?_); refine pS 2 34 1 [.int .i64 t318] HM rfl rfl ?_; clear HM; intro w16 HM; have p320 : 0 ≤ (2 : Int) := (by omega); have q320 : (2 : Int) < (t312.length : Int) := of_decide_eq_true AS; obtain ⟨ad320, e320, hx320_0⟩ := Kd.at_string (HM.CR 1 rfl).2.2 2 p320 q320; obtain rfl := Option.some.inj e320; have qi320 : (2 < t312.length) = True := eq_true (by omega); (try rw [show ((2 : Int)).toNat = 2 from rfl] at hx320_0); (try simp only [Nat.reduceMul, Nat.reduceEqDiff, Go.Addr.add, ↓reduceIte] at hx320_0); replace p320 := eq_true p320; replace q320 := eq_true q320) | ((with_reducible refine gC 115 rfl ?_); refine pC (some 39) rfl #[.string (rdOf ByteArray.empty t312 2)] rfl Try.func115 (impl_TextNum.calls k (rdOf ByteArray.empty t312 2) t321 t322 _ A18.out) ?_; rintro e w19 ⟨rfl, hR⟩; refine ⟨_, rfl, ?_⟩; replace HM := HM.call hR; clear hR) | ((with_reducible refine gS 42 rfl ?_); refine pS 2 42 2 [.int .i64 t321] HM rfl rfl ?_; clear HM; intro w20 HM; replace HM := HM.nl Kd.string 9; replace HM := HM.toQ 3 rfl))
    go_meet
    case rel => exact ⟨_, (1), (t318), (t321), (0), ((⟨#[]⟩ : ByteArray)), ((⟨#[]⟩ : ByteArray)), (([] : List ByteArray)), (.slice none 0 0), H', ⟨by first | omega | exact Nat.le_refl _⟩, (MD HM).pick [3, 0, 2]⟩
   ·have c12b0 : ((t312.length : Int) == 3) = false := beq_eq_false_iff_ne.mpr c12
    have c12b1 : ((t312.length : Int) != 3) = true := bne_iff_ne.mpr c12
    first|rw [c12b0]|(simp only [i64_w, i32_w]; rw [c12b0])|skip
    have H' := Aside0.mk H
    clear H
    replace HM := HM.nl Kd.string 9
    replace HM := HM.toQ 3 rfl
    go_wp2
    go_meet
    case rel => exact ⟨_, (1), (0), (0), (0), ((⟨#[]⟩ : ByteArray)), ((⟨#[]⟩ : ByteArray)), (([] : List ByteArray)), (.slice none 0 0), H', ⟨by first | omega | exact Nat.le_refl _⟩, (MD HM).pick [3, 0, 2]⟩
  ·have c10b0 : ((rdOf ByteArray.empty t312 0).toList == ([110, 101, 119] : List UInt8)) = false := beq_eq_false_iff_ne.mpr c10
   have c10b1 : ((rdOf ByteArray.empty t312 0).toList != ([110, 101, 119] : List UInt8)) = true := bne_iff_ne.mpr c10
   first|rw [c10b0]|(simp only [i64_w, i32_w]; rw [c10b0])|skip
   go_upto_if 43 with (fail)
   replace H := IT H; rcases H with ⟨c21, H⟩ | ⟨c21, H⟩
   ·have c21b0 : ((rdOf ByteArray.empty t312 0).toList == ([97, 115, 107] : List UInt8)) = true := beq_iff_eq.mpr c21
    have c21b1 : ((rdOf ByteArray.empty t312 0).toList != ([97, 115, 107] : List UInt8)) = false := bne_eq_false_iff_eq.mpr c21
    clear c21
    first|rw [c21b0]|(simp only [i64_w, i32_w]; rw [c21b0])|skip
    replace H := GD H; obtain ⟨c22, H⟩ := H
    have c22b0 := eq_true c22
    have c22b1 : decide (1 ≤ (t312.length : Int)) = true := decide_eq_true c22
    clear c22
    have H' := Aside0.mk H
    clear H
    go_wp2_with (first | ((with_reducible refine gate_sl (t := 47) rfl ?_); refine pD 1 47 9 Kd.string _ _ 1 t312 (some ad316) ko8 HM rfl Try.underlying47 info9 rfl (fun _ _ h => Kd.Q_of_R h) (by omega) (by have h_ : (1 : Int) ≤ ((t312.length : Int) : Int) := of_decide_eq_true AS; first | exact h_ | (have e_ := (HM.CR 1 rfl).1; omega)) ?_; clear HM; intro v324 HM; obtain ⟨Xo23, ko23, rfl⟩ := HM.rd 1 rfl) | ((with_reducible refine gS 5 rfl ?_); refine pS 2 5 0 [.int .i64 3, .int .i64 0, .int .i64 0, .int .i64 0, .string (⟨#[]⟩ : ByteArray), .string (⟨#[]⟩ : ByteArray), .slice Xo23 (t312.drop (1 : Int).toNat).length ko23] HM rfl rfl ?_; clear HM; intro w24 HM))
    go_meet
    case rel => exact ⟨_, (3), (0), (0), (0), ((⟨#[]⟩ : ByteArray)), ((⟨#[]⟩ : ByteArray)), ((t312.drop (1 : Int).toNat)), (.slice Xo23 (t312.drop (1 : Int).toNat).length ko23), H', ⟨by first | omega | exact Nat.le_refl _⟩, (MD HM).pick [1, 0, 2]⟩
   ·have c21b0 : ((rdOf ByteArray.empty t312 0).toList == ([97, 115, 107] : List UInt8)) = false := beq_eq_false_iff_ne.mpr c21
    have c21b1 : ((rdOf ByteArray.empty t312 0).toList != ([97, 115, 107] : List UInt8)) = true := bne_iff_ne.mpr c21
    first|rw [c21b0]|(simp only [i64_w, i32_w]; rw [c21b0])|skip
    go_upto_if 48 with (fail)
    replace H := IT H; rcases H with ⟨c25, H⟩ | ⟨c25, H⟩
    ·have c25b0 : ((rdOf ByteArray.empty t312 0).toList == ([115, 104, 111, 119] : List UInt8)) = true := beq_iff_eq.mpr c25
     have c25b1 : ((rdOf ByteArray.empty t312 0).toList != ([115, 104, 111, 119] : List UInt8)) = false := bne_eq_false_iff_eq.mpr c25
     clear c25
     first|rw [c25b0]|(simp only [i64_w, i32_w]; rw [c25b0])|skip
     have H' := Aside0.mk H
     clear H
     go_wp2_with (first | ((with_reducible refine gS 50 rfl ?_); refine pS 2 50 0 [.int .i64 4] HM rfl rfl ?_; clear HM; intro w26 HM; replace HM := HM.nl Kd.string 9; replace HM := HM.toQ 3 rfl))
     go_meet
     case rel => exact ⟨_, (4), (0), (0), (0), ((⟨#[]⟩ : ByteArray)), ((⟨#[]⟩ : ByteArray)), (([] : List ByteArray)), (.slice none 0 0), H', ⟨by first | omega | exact Nat.le_refl _⟩, (MD HM).pick [3, 0, 2]⟩
    ·have c25b0 : ((rdOf ByteArray.empty t312 0).toList == ([115, 104, 111, 119] : List UInt8)) = false := beq_eq_false_iff_ne.mpr c25
     have c25b1 : ((rdOf ByteArray.empty t312 0).toList != ([115, 104, 111, 119] : List UInt8)) = true := bne_iff_ne.mpr c25
     first|rw [c25b0]|(simp only [i64_w, i32_w]; rw [c25b0])|skip
     go_upto_if 51 with (fail)
     replace H := IT H; rcases H with ⟨c27, H⟩ | ⟨c27, H⟩
     ·have c27b0 : ((rdOf ByteArray.empty t312 0).toList == ([114, 97, 116, 101] : List UInt8)) = true := beq_iff_eq.mpr c27
      have c27b1 : ((rdOf ByteArray.empty t312 0).toList != ([114, 97, 116, 101] : List UInt8)) = false := bne_eq_false_iff_eq.mpr c27
      clear c27
      first|rw [c27b0]|(simp only [i64_w, i32_w]; rw [c27b0])|skip
      have H' := Aside0.mk H
      clear H
      go_wp2_with (first | ((with_reducible refine gS 53 rfl ?_); refine pS 2 53 0 [.int .i64 5] HM rfl rfl ?_; clear HM; intro w28 HM; replace HM := HM.nl Kd.string 9; replace HM := HM.toQ 3 rfl))
      go_meet
      case rel => exact ⟨_, (5), (0), (0), (0), ((⟨#[]⟩ : ByteArray)), ((⟨#[]⟩ : ByteArray)), (([] : List ByteArray)), (.slice none 0 0), H', ⟨by first | omega | exact Nat.le_refl _⟩, (MD HM).pick [3, 0, 2]⟩
     ·have c27b0 : ((rdOf ByteArray.empty t312 0).toList == ([114, 97, 116, 101] : List UInt8)) = false := beq_eq_false_iff_ne.mpr c27
      have c27b1 : ((rdOf ByteArray.empty t312 0).toList != ([114, 97, 116, 101] : List UInt8)) = true := bne_iff_ne.mpr c27
      first|rw [c27b0]|(simp only [i64_w, i32_w]; rw [c27b0])|skip
      go_upto_if 54 with (fail)
      replace H := IT H; rcases H with ⟨c29, H⟩ | ⟨c29, H⟩
      ·have c29b0 : ((rdOf ByteArray.empty t312 0).toList == ([108, 97, 98] : List UInt8)) = true := beq_iff_eq.mpr c29
       have c29b1 : ((rdOf ByteArray.empty t312 0).toList != ([108, 97, 98] : List UInt8)) = false := bne_eq_false_iff_eq.mpr c29
       clear c29
       first|rw [c29b0]|(simp only [i64_w, i32_w]; rw [c29b0])|skip
       go_upto_if 59 with (first | ((with_reducible refine gS 56 rfl ?_); refine pS 2 56 0 [.int .i64 6] HM rfl rfl ?_; clear HM; intro w30 HM))
       replace H := IT H; rcases H with ⟨c31, H⟩ | ⟨c31, H⟩
       ·have c31b0 : ((t312.length : Int) == 2) = true := beq_iff_eq.mpr c31
        have c31b1 : ((t312.length : Int) != 2) = false := bne_eq_false_iff_eq.mpr c31
        clear c31
        first|rw [c31b0]|(simp only [i64_w, i32_w]; rw [c31b0])|skip
        replace H := GD H; obtain ⟨c32, H⟩ := H
        replace c32 : 1 < (t312.length : Int) := c32
        have c32b0 : decide (1 < (t312.length : Int)) = true := decide_eq_true c32
        have c32b1 : decide (1 < t312.length) = true := decide_eq_true (by omega)
        have c32b9 : decide (1 < t312.length) = true := decide_eq_true (by omega)
        clear c32
        replace H := BN H; obtain ⟨⟨t327, t328⟩, A33, H⟩ := H
        have H' := Aside0.mk H
        clear H
        have p326 : 0 ≤ (1 : Int) := (by omega)
        have q326 : (1 : Int) < (t312.length : Int) := of_decide_eq_true AS
        obtain ⟨ad326, e326, hx326_0⟩ := Kd.at_string (HM.CR 1 rfl).2.2 1 p326 q326
        obtain rfl := Option.some.inj e326
        have qi326 : (1 < t312.length) = True := eq_true (by omega)
        (try rw [show ((1 : Int)).toNat = 1 from rfl] at hx326_0)
        (try simp only [Nat.reduceMul, Nat.reduceEqDiff, Go.Addr.add, ↓reduceIte] at hx326_0)
        replace p326 := eq_true p326
        replace q326 := eq_true q326
        go_wp2_with (first | ((with_reducible refine gC 115 rfl ?_); refine pC (some 64) rfl #[.string (rdOf ByteArray.empty t312 1)] rfl Try.func115 (impl_TextNum.calls k (rdOf ByteArray.empty t312 1) t327 t328 _ A33.out) ?_; rintro e w34 ⟨rfl, hR⟩; refine ⟨_, rfl, ?_⟩; replace HM := HM.call hR; clear hR) | ((with_reducible refine gS 67 rfl ?_); refine pS 2 67 1 [.int .i64 t327] HM rfl rfl ?_; clear HM; intro w35 HM; replace HM := HM.nl Kd.string 9; replace HM := HM.toQ 3 rfl))
        go_meet
        case rel => exact ⟨_, (6), (t327), (0), (0), ((⟨#[]⟩ : ByteArray)), ((⟨#[]⟩ : ByteArray)), (([] : List ByteArray)), (.slice none 0 0), H', ⟨by first | omega | exact Nat.le_refl _⟩, (MD HM).pick [3, 0, 2]⟩
       ·have c31b0 : ((t312.length : Int) == 2) = false := beq_eq_false_iff_ne.mpr c31
        have c31b1 : ((t312.length : Int) != 2) = true := bne_iff_ne.mpr c31
        first|rw [c31b0]|(simp only [i64_w, i32_w]; rw [c31b0])|skip
        have H' := Aside0.mk H
        clear H
        replace HM := HM.nl Kd.string 9
        replace HM := HM.toQ 3 rfl
        go_wp2
        go_meet
        case rel => exact ⟨_, (6), (0), (0), (0), ((⟨#[]⟩ : ByteArray)), ((⟨#[]⟩ : ByteArray)), (([] : List ByteArray)), (.slice none 0 0), H', ⟨by first | omega | exact Nat.le_refl _⟩, (MD HM).pick [3, 0, 2]⟩
      ·have c29b0 : ((rdOf ByteArray.empty t312 0).toList == ([108, 97, 98] : List UInt8)) = false := beq_eq_false_iff_ne.mpr c29
       have c29b1 : ((rdOf ByteArray.empty t312 0).toList != ([108, 97, 98] : List UInt8)) = true := bne_iff_ne.mpr c29
       first|rw [c29b0]|(simp only [i64_w, i32_w]; rw [c29b0])|skip
       go_upto_if 68 with (fail)
       replace H := IT H; rcases H with ⟨c36, H⟩ | ⟨c36, H⟩
       ·have c36b0 : ((rdOf ByteArray.empty t312 0).toList == ([115, 97, 118, 101] : List UInt8)) = true := beq_iff_eq.mpr c36
        have c36b1 : ((rdOf ByteArray.empty t312 0).toList != ([115, 97, 118, 101] : List UInt8)) = false := bne_eq_false_iff_eq.mpr c36
        clear c36
        first|rw [c36b0]|(simp only [i64_w, i32_w]; rw [c36b0])|skip
        have H' := Aside0.mk H
        clear H
        go_wp2_with (first | ((with_reducible refine gS 70 rfl ?_); refine pS 2 70 0 [.int .i64 7] HM rfl rfl ?_; clear HM; intro w37 HM; replace HM := HM.nl Kd.string 9; replace HM := HM.toQ 3 rfl))
        go_meet
        case rel => exact ⟨_, (7), (0), (0), (0), ((⟨#[]⟩ : ByteArray)), ((⟨#[]⟩ : ByteArray)), (([] : List ByteArray)), (.slice none 0 0), H', ⟨by first | omega | exact Nat.le_refl _⟩, (MD HM).pick [3, 0, 2]⟩
       ·have c36b0 : ((rdOf ByteArray.empty t312 0).toList == ([115, 97, 118, 101] : List UInt8)) = false := beq_eq_false_iff_ne.mpr c36
        have c36b1 : ((rdOf ByteArray.empty t312 0).toList != ([115, 97, 118, 101] : List UInt8)) = true := bne_iff_ne.mpr c36
        first|rw [c36b0]|(simp only [i64_w, i32_w]; rw [c36b0])|skip
        replace H := BN H; obtain ⟨⟨t329, t330, t331, t332⟩, A38, H⟩ := H
        have H' := Aside0.mk H
        clear H
        go_wp2_with (first | ((with_reducible refine gC 20 rfl ?_); refine pC (some 16) rfl #[.string a0] rfl Try.func20 (impl_TextOp.calls k a0 t329 t330 t331 t332 _ A38.out) ?_; rintro e w39 ⟨rfl, hR⟩; refine ⟨_, rfl, ?_⟩; replace HM := HM.call hR; clear hR) | ((with_reducible refine gN 6 rfl ?_); refine pB 6 43 [.int .i64 0, .string (⟨#[]⟩ : ByteArray), .string (⟨#[]⟩ : ByteArray)] HM rfl ?_; clear HM; intro gb333 w40 HM) | ((with_reducible refine gS 6 rfl ?_); refine pS 3 6 0 [.int .i64 t329, .string t330, .string t331] HM rfl rfl ?_; clear HM; intro w41 HM; obtain ⟨_,_,_,_,_,_⟩ := bk3 (HM.bx 3 rfl)) | ((with_reducible refine gS 5 rfl ?_); refine pS 2 5 0 [.int .i64 2, .int .i64 0, .int .i64 0, .int .i64 t329, .string t330, .string t331, .slice none 0 0] HM rfl rfl ?_; clear HM; intro w43 HM; replace HM := HM.nl Kd.string 9; replace HM := HM.toQ 4 rfl))
        go_meet
        case rel => exact ⟨_, (2), (0), (0), (t329), (t330), (t331), (([] : List ByteArray)), (.slice none 0 0), H', ⟨by first | omega | exact Nat.le_refl _⟩, (MD HM).pick [4, 0, 2]⟩
 case rest =>
  clear HC9 HM
  obtain ⟨kq, x316000_8, x316001_8, x316002_8, x316003_8, x316004_8, x316005_8, x316006_8, u316006, HA, HJ8, HM⟩ := hcut
  cases kq with
  | zero => exact absurd HA.out (by simp [impl_TextCmd.j0])
  | succ kj8 =>
   have H := HA.out
   clear HA
   simp only [impl_TextCmd.j0] at H
   replace H := IT H; rcases H with ⟨c44, H⟩ | ⟨c44, H⟩
   ·have c44b0 : (a0.toList == ([] : List UInt8)) = true := beq_iff_eq.mpr c44
    have c44b1 : (a0.toList != ([] : List UInt8)) = false := bne_eq_false_iff_eq.mpr c44
    have c44b6 : (a0.toList).isEmpty = true := by first | (rw [c44]; rfl) | (cases h_ : a0.toList with | nil => exact absurd h_ c44 | cons _ _ => rfl)
    clear c44
    simp only [Option.some.injEq, Prod.mk.injEq] at H
    obtain ⟨rfl, rfl, rfl, rfl, rfl, rfl, rfl, rfl⟩ := H
    go_wp2_with (first | ((with_reducible refine gS 2 rfl ?_); refine pS 1 2 0 [.int .i64 0, .int .i64 0, .int .i64 0, .int .i64 0, .string (⟨#[]⟩ : ByteArray), .string (⟨#[]⟩ : ByteArray), .slice none 0 0] HM rfl rfl ?_; clear HM; intro w45 HM; replace HM := HM.nl Kd.string 9; replace HM := HM.toQ 3 rfl))
    refine bodyPost_ret (results_ct rfl _ _ gb311 55 #[.int .i64 0, .int .i64 0, .int .i64 0, .int .i64 0, .string (⟨#[]⟩ : ByteArray), .string (⟨#[]⟩ : ByteArray), .slice none 0 0] (0, 0) _ rfl (HM.bx 1 rfl) Try.underlying55 rfl (by kernel_rfl)) rfl ?_
    exact ⟨_, ER, (MD HM).pick [3]⟩
   ·have c44b0 : (a0.toList == ([] : List UInt8)) = false := beq_eq_false_iff_ne.mpr c44
    have c44b1 : (a0.toList != ([] : List UInt8)) = true := bne_iff_ne.mpr c44
    have c44b6 : (a0.toList).isEmpty = false := by first | (rw [c44]; rfl) | (cases h_ : a0.toList with | nil => exact absurd h_ c44 | cons _ _ => rfl)
    replace H := BN H; obtain ⟨t334, A47, H⟩ := H
    obtain ⟨_,_,_,_,_,_,_,_,_,_,_,_,_,_⟩ := bk7 (HM.bx 2 rfl)
    obtain ⟨Xo49, ko49, rfl⟩ := HM.rd 0 rfl
    go_upto_if 78 with (first | ((with_reducible refine gC 27 rfl ?_); refine pC (some 75) rfl #[.agg #[.int .i64 x316000_8, .int .i64 x316001_8, .int .i64 x316002_8, .int .i64 x316003_8, .string x316004_8, .string x316005_8, .slice Xo49 x316006_8.length ko49]] rfl Try.func27 (impl_CmdText.calls kj8 x316000_8 x316001_8 x316002_8 x316003_8 x316004_8 x316005_8 _ _ x316006_8 t334 _ (HM.C 0 rfl).2.2 (HM.C 0 rfl).2.1 A47.out) ?_; rintro e w48 ⟨rfl, hR⟩; refine ⟨_, rfl, ?_⟩; replace HM := HM.call hR; clear hR))
    replace H := IT H; rcases H with ⟨c50, H⟩ | ⟨c50, H⟩
    ·have c50b0 : (t334.toList == a0.toList) = true := beq_iff_eq.mpr c50
     have c50b1 : (t334.toList != a0.toList) = false := bne_eq_false_iff_eq.mpr c50
     clear c50
     first|rw [c50b0]|(simp only [i64_w, i32_w]; rw [c50b0])|skip
     simp only [Option.some.injEq, Prod.mk.injEq] at H
     obtain ⟨rfl, rfl, rfl, rfl, rfl, rfl, rfl, rfl⟩ := H
     obtain ⟨_,_,_,_,_,_,_,_,_,_,_,_,_,_⟩ := bk7 (HM.bx 2 rfl)
     go_wp2_with (first | ((with_reducible refine gS 2 rfl ?_); refine pS 1 2 0 [.int .i64 x316000_8, .int .i64 x316001_8, .int .i64 x316002_8, .int .i64 x316003_8, .string x316004_8, .string x316005_8, .slice Xo49 x316006_8.length ko49] HM rfl rfl ?_; clear HM; intro w52 HM))
     refine bodyPost_ret (results_ct rfl _ _ gb311 55 #[.int .i64 x316000_8, .int .i64 x316001_8, .int .i64 x316002_8, .int .i64 x316003_8, .string x316004_8, .string x316005_8, .slice Xo49 x316006_8.length ko49] (0, 0) _ rfl (HM.bx 1 rfl) Try.underlying55 rfl (by kernel_rfl)) rfl ?_
     exact ⟨_, ER, (MD HM).pick [0]⟩
    ·have c50b0 : (t334.toList == a0.toList) = false := beq_eq_false_iff_ne.mpr c50
     have c50b1 : (t334.toList != a0.toList) = true := bne_iff_ne.mpr c50
     first|rw [c50b0]|(simp only [i64_w, i32_w]; rw [c50b0])|skip
     simp only [Option.some.injEq, Prod.mk.injEq] at H
     obtain ⟨rfl, rfl, rfl, rfl, rfl, rfl, rfl, rfl⟩ := H
     go_wp2_with (first | ((with_reducible refine gS 2 rfl ?_); refine pS 1 2 0 [.int .i64 0, .int .i64 0, .int .i64 0, .int .i64 0, .string (⟨#[]⟩ : ByteArray), .string (⟨#[]⟩ : ByteArray), .slice none 0 0] HM rfl rfl ?_; clear HM; intro w53 HM; replace HM := HM.nl Kd.string 9; replace HM := HM.toQ 3 rfl))
     refine bodyPost_ret (results_ct rfl _ _ gb311 55 #[.int .i64 0, .int .i64 0, .int .i64 0, .int .i64 0, .string (⟨#[]⟩ : ByteArray), .string (⟨#[]⟩ : ByteArray), .slice none 0 0] (0, 0) _ rfl (HM.bx 1 rfl) Try.underlying55 rfl (by kernel_rfl)) rfl ?_
     exact ⟨_, ER, (MD HM).pick [3]⟩
mutual
def impl_ReadCmds.l0 : Nat → List (S55) → List ByteArray → Int → Int → Option ((List (S55)) × Int)
 | 0, _, _, _, _ => none
 | k + 1, x4, x14, x15, x16 => if x16 < x15 then (if 0 ≤ x16 then (if x16 < (x14.length : Int) then (if (rdOf ByteArray.empty x14 x16).toList = ([] : List UInt8) then (impl_ReadCmds.j1 k x4 x16 (rdOf ByteArray.empty x14 x16) x14 x15 x16 true) else (if 0 < ((rdOf ByteArray.empty x14 x16).size : Int) then (impl_ReadCmds.j1 k x4 x16 (rdOf ByteArray.empty x14 x16) x14 x15 x16 ((bt (rdOf ByteArray.empty x14 x16) 0) == 35)) else (none))) else (none)) else (none)) else (some (x4, 0))
def impl_ReadCmds.j1 : Nat → List (S55) → Int → ByteArray → List ByteArray → Int → Int → Bool → Option ((List (S55)) × Int)
 | 0, _, _, _, _, _, _, _ => none
 | k + 1, x4, x5, x6, x14, x15, x16, x27 => if x27 = true then (impl_ReadCmds.l0 k x4 x14 x15 (wrap64 (x16 + 1))) else ((impl_TextCmd.f k x6).bind fun bt352 => (if bt352.2.2.2.2.2.2.2 = true then (if (x4.length : Int) = 300 then (some (([] : List (S55)), wrap64 (x5 + 1))) else (if x4.length < 1599289640401 then (impl_ReadCmds.l0 k (x4 ++ [(⟨bt352.1, bt352.2.1, bt352.2.2.1, (⟨bt352.2.2.2.1, bt352.2.2.2.2.1, bt352.2.2.2.2.2.1⟩ : S43), bt352.2.2.2.2.2.2.1⟩ : S55)]) x14 x15 (wrap64 (x16 + 1))) else (none))) else (some (([] : List (S55)), wrap64 (x5 + 1)))))
end
def impl_ReadCmds.f (k : Nat) (a0 : ByteArray) : Option ((List (S55)) × Int) := if (a0.size : Int) > 20000 then (some (([] : List (S55)), 1)) else ((impl_Lines.f k a0).bind fun t348 => (impl_ReadCmds.l0 k (([] : List (S55))) t348 (t348.length : Int) 0))
theorem impl_ReadCmds.calls (k : Nat) (a0 : ByteArray) (r1 : List (S55)) (r2 : Int) (w : World)  (h : impl_ReadCmds.f k a0 = some (r1, r2)) :
  Calls Try.prog 9 #[.string a0] w fun e w' => ∃ v0_ : Value, e = .returned (.tuple #[v0_, .int .i64 r2]) ∧ Mem w [] w' [rr x55 55 v0_ r1] := by
 have hu55 := Try.underlying55
 have HM := Mem.nil w
 have H := h
 clear h
 unfold impl_ReadCmds.f at H
 go_enter Try.func9, Try.ntmps9
 go_upto_if 11 with (fail)
 replace H := IT H; rcases H with ⟨c2, H⟩ | ⟨c2, H⟩
 ·replace c2 : (a0.size : Int) > 20000 := c2
  have c2b0 : decide (20000 < (a0.size : Int)) = true := decide_eq_true c2
  have c2b1 : decide (20000 < a0.size) = true := decide_eq_true (by omega)
  clear c2
  first|rw [c2b0]|(simp only [i64_w, i32_w]; rw [c2b0])|skip
  simp only [Option.some.injEq, Prod.mk.injEq] at H
  obtain ⟨rfl, rfl⟩ := H
  replace HM := HM.nlRR x55 55
  go_wp2
  go_ret2
  exact ⟨_, ER, (MD HM).pick [0]⟩
 ·replace c2 : ¬ ((a0.size : Int) > 20000) := c2
  have c2b0 : decide (20000 < (a0.size : Int)) = false := decide_eq_false c2
  have c2b1 : decide (20000 < a0.size) = false := decide_eq_false (by omega)
  clear c2
  first|rw [c2b0]|(simp only [i64_w, i32_w]; rw [c2b0])|skip
  replace H := BN H; obtain ⟨t348, A4, H⟩ := H
  have H' := Aside0.mk H
  clear H
  go_wp2_with (first | ((with_reducible refine gN 12 rfl ?_); refine pL 12 (rawK 7) 55 [] [] (Reps.none _ _) HM rfl ?_; clear HM; intro v346 w3 HM; replace HM := nzM (HM.rrLit (X := x55) (xs := ([] : List (S55))) [] [0] [] (by kernel_rfl) rfl rfl)) | ((with_reducible refine gC 51 rfl ?_); refine pC (some 14) rfl #[.string a0] rfl Try.func51 (impl_Lines.calls k a0 t348 _ A4.out) ?_; rintro e w5 ⟨v349, rfl, hR⟩; refine ⟨_, rfl, ?_⟩; replace HM := HM.call hR; clear hR; obtain ⟨Xo6, ko6, rfl⟩ := HM.rdR 1 rfl))
  go_loopg [4, 16] k (fun kq v4 v16 w' => ∃ (x4_1 : List (S55)) (x16_1 : Int), v16 = .int .i64 x16_1 ∧ Aside0 (impl_ReadCmds.l0 kq x4_1 t348 (t348.length : Int) x16_1 = some (r1, r2)) ∧ Aside0 (kq ≤ k) ∧ Mem w [] w' [rr x55 55 v4 x4_1, rowR Kd.string 9 (.slice Xo6 t348.length ko6) t348])
  case atStart => exact ⟨((([] : List (S55)))), (0), RS, H', ⟨Nat.le_refl _⟩, (MD HM).pick [0, 1]⟩
  case round =>
   clear H' HM
   obtain ⟨x4_1, x16_1, rfl, HA, HK1, HM⟩ := hrel
   cases gk with
   | zero => exact absurd HA.out (by simp [impl_ReadCmds.l0])
   | succ k1 =>
    have H := HA.out
    clear HA
    simp only [impl_ReadCmds.l0] at H
    go_upto_if 17 with (fail)
    replace H := IT H; rcases H with ⟨c7, H⟩ | ⟨c7, H⟩
    ·have c7b0 := decide_eq_true c7
     clear c7
     first|rw [c7b0]|(simp only [i64_w, i32_w]; rw [c7b0])|skip
     replace H := GD H; obtain ⟨c8, H⟩ := H
     have c8b0 := decide_eq_true c8
     clear c8
     replace H := GD H; obtain ⟨c9, H⟩ := H
     have c9b0 := decide_eq_true c9
     clear c9
     have HC10 := Aside0.mk H
     clear H
     have p351 : 0 ≤ (x16_1 : Int) := of_decide_eq_true AS
     have q351 : (x16_1 : Int) < (t348.length : Int) := of_decide_eq_true AS
     obtain ⟨ad351, e351, hx351_0⟩ := Kd.at_string (HM.CR 1 rfl).2.2 x16_1 p351 q351
     cases e351
     replace p351 := eq_true p351
     replace q351 := eq_true q351
     go_upto_region 7 with (fail)
     go_cut [27] (fun v27 wc => ∃ (kq : Nat) (x27_9 : Bool), v27 = .bool x27_9 ∧ Aside0 (impl_ReadCmds.j1 kq x4_1 x16_1 (rdOf ByteArray.empty t348 x16_1) t348 (t348.length : Int) x16_1 x27_9 = some (r1, r2)) ∧ Aside0 (kq ≤ k1) ∧ Mem w [] wc [rr x55 55 u4 x4_1, rowR Kd.string 9 (.slice (some ad351) t348.length ko6) t348])
     case first =>
      have H := HC10.out
      clear HC10
      replace H := IT H; rcases H with ⟨c11, H⟩ | ⟨c11, H⟩
      ·obtain ⟨c11b0, c11b1⟩ := BE c11
       have c11b6 : ((rdOf ByteArray.empty t348 x16_1).toList).isEmpty = true := by first | (rw [c11]; rfl) | (cases h_ : ((rdOf ByteArray.empty t348 x16_1).toList) with | nil => exact absurd h_ c11 | cons _ _ => rfl)
       clear c11
       have H' := Aside0.mk H
       clear H
       go_wp2
       go_meet
       case rel => exact ⟨_, (true), RS, H', ⟨by have := HK1.out; first | omega | exact Nat.le_refl _⟩, (MD HM).pick [0, 1]⟩
      ·obtain ⟨c11b0, c11b1⟩ := BF c11
       have c11b6 : ((rdOf ByteArray.empty t348 x16_1).toList).isEmpty = false := by first | (rw [c11]; rfl) | (cases h_ : ((rdOf ByteArray.empty t348 x16_1).toList) with | nil => exact absurd h_ c11 | cons _ _ => rfl)
       replace H := GD H; obtain ⟨c12, H⟩ := H
       replace c12 : 0 < ((rdOf ByteArray.empty t348 x16_1).size : Int) := c12
       have c12b0 := decide_eq_true c12
       have c12b1 : decide (0 < (rdOf ByteArray.empty t348 x16_1).size) = true := decide_eq_true (by omega)
       clear c12
       have H' := Aside0.mk H
       clear H
       have p13 : 0 ≤ (0 : Int) := (by omega)
       have q13 : 0 < (rdOf ByteArray.empty t348 x16_1).size := (by have : (0 : Int) < ((rdOf ByteArray.empty t348 x16_1).size : Int) := of_decide_eq_true AS; omega)
       have hx13 : ∀ h : 0 < (rdOf ByteArray.empty t348 x16_1).size, (((rdOf ByteArray.empty t348 x16_1)[0]'h).toNat : Int) = bt (rdOf ByteArray.empty t348 x16_1) 0 := bt_at (rdOf ByteArray.empty t348 x16_1) 0
       clear p13
       have qi13 : (0 < ((rdOf ByteArray.empty t348 x16_1).size : Int)) = True := eq_true (of_decide_eq_true AS)
       replace q13 := eq_true q13
       go_wp2
       go_meet
       case rel => exact ⟨_, (((bt (rdOf ByteArray.empty t348 x16_1) 0) == 35)), RS, H', ⟨by have := HK1.out; first | omega | exact Nat.le_refl _⟩, (MD HM).pick [0, 1]⟩
     case rest =>
      clear HC10 HM
      obtain ⟨kq, x27_9, rfl, HA, HJ9, HM⟩ := hcut
      cases kq with
      | zero => exact absurd HA.out (by simp [impl_ReadCmds.j1])
      | succ kj9 =>
       have H := HA.out
       clear HA
       simp only [impl_ReadCmds.j1] at H
       go_upto_if 27 with (fail)
       replace H := IB H
       rcases H with ⟨c14, H⟩ | ⟨c14, H⟩
       ·subst c14
        have H' := Aside0.mk H
        clear H
        go_wp2
        go_roundg kj9
        case measure => have := HK1.out; have := HJ9.out; omega
        case rel => exact ⟨(x4_1), (wrap64 (x16_1 + 1)), RS, H', ⟨by have := HK1.out; have := HJ9.out; omega⟩, (MD HM).pick [0, 1]⟩
       ·subst c14
        replace H := BN H; obtain ⟨⟨t352, t353, t354, t355, t356, t357, t358, t361⟩, A15, H⟩ := H
        replace H := IB H
        rcases H with ⟨c20, H⟩ | ⟨c20, H⟩
        ·subst c20
         go_upto_if 39 with (first | ((with_reducible refine gC 52 rfl ?_); refine pC (some 30) rfl #[.string (rdOf ByteArray.empty t348 x16_1)] rfl Try.func52 (impl_TextCmd.calls kj9 (rdOf ByteArray.empty t348 x16_1) t352 t353 t354 t355 t356 t357 t358 true _ A15.out) ?_; rintro e w16 ⟨v359, rfl, hR⟩; refine ⟨_, rfl, ?_⟩; replace HM := HM.call hR; clear hR) | ((with_reducible refine gN 7 rfl ?_); refine pB 7 55 [.int .i64 0, .int .i64 0, .int .i64 0, .int .i64 0, .string (⟨#[]⟩ : ByteArray), .string (⟨#[]⟩ : ByteArray), .slice none 0 0] HM rfl ?_; clear HM; intro gb362 w17 HM; obtain ⟨Xo18, ko18, rfl⟩ := HM.rd 2 rfl) | ((with_reducible refine gS 7 rfl ?_); refine pS 3 7 0 [.int .i64 t352, .int .i64 t353, .int .i64 t354, .int .i64 t355, .string t356, .string t357, .slice Xo18 t358.length ko18] HM rfl rfl ?_; clear HM; intro w19 HM; obtain ⟨Xo21, ko21, rfl⟩ := HM.rdRR 0 rfl))
         replace HM := nzM HM
         replace H := IT H; rcases H with ⟨c22, H⟩ | ⟨c22, H⟩
         ·have c22b0 : ((x4_1.length : Int) == 300) = true := beq_iff_eq.mpr c22
          have c22b1 : ((x4_1.length : Int) != 300) = false := bne_eq_false_iff_eq.mpr c22
          clear c22
          first|rw [c22b0]|(simp only [i64_w, i32_w]; rw [c22b0])|skip
          simp only [Option.some.injEq, Prod.mk.injEq] at H
          obtain ⟨rfl, rfl⟩ := H
          replace HM := HM.nlRR x55 55
          go_wp2
          go_ret2
          exact ⟨_, ER, (MD HM).pick [4]⟩
         ·have c22b0 : ((x4_1.length : Int) == 300) = false := beq_eq_false_iff_ne.mpr c22
          have c22b1 : ((x4_1.length : Int) != 300) = true := bne_iff_ne.mpr c22
          first|rw [c22b0]|(simp only [i64_w, i32_w]; rw [c22b0])|skip
          replace H := GD H; obtain ⟨c24, H⟩ := H
          have LMc24 := Aside0.mk c24
          clear c24
          have H' := Aside0.mk H
          clear H
          obtain ⟨_,_,_,_,_,_,_,_,_,_,_,_,_,_⟩ := bk7 (HM.bx 3 rfl)
          go_wp2_with (first | ((with_reducible refine gN 44 rfl ?_); refine pL 44 (rawK 7) 55 [[.int .i64 t352, .int .i64 t353, .int .i64 t354, .int .i64 t355, .string t356, .string t357, .slice Xo18 t358.length ko18]] [.int .i64 t352, .int .i64 t353, .int .i64 t354, .int .i64 t355, .string t356, .string t357, .slice Xo18 t358.length ko18] (Reps.c7 (show (rawK 7).M _ _ _ [.int .i64 t352, .int .i64 t353, .int .i64 t354, .int .i64 t355, .string t356, .string t357, .slice Xo18 t358.length ko18] [.int .i64 t352, .int .i64 t353, .int .i64 t354, .int .i64 t355, .string t356, .string t357, .slice Xo18 t358.length ko18] from ⟨rfl, rfl, rfl⟩) (Reps.none _ _)) HM rfl ?_; clear HM; intro v26 w25 HM; obtain ⟨Xv26, kv26, rfl⟩ := HM.rdR 4 rfl; obtain ⟨vss_, hv_, HM⟩ := HM.rrOut [1, 2, 3, 4] [0] (by kernel_rfl) rfl; replace HM := nzM HM) | ((with_reducible refine gate_builtin (b := .append) (xs := #[.tmp 42, .tmp 44]) rfl ?_); refine pA 4 (.tmp 42) (.tmp 44) 22 55 (rawK 7) (.slice Xo21 x4_1.length ko21) (List.zipWith x55.cells x4_1 vss_) [[.int .i64 t352, .int .i64 t353, .int .i64 t354, .int .i64 t355, .string t356, .string t357, .slice Xo18 t358.length ko18]] Xv26 [[.int .i64 t352, .int .i64 t353, .int .i64 t354, .int .i64 t355, .string t356, .string t357, .slice Xo18 t358.length ko18]].length kv26 HM rfl Try.underlying22 info55 rfl (HM.CR 3 rfl).2.2 (by have h_ := LMc24.out; rw [List.length_zipWith, hv_, Nat.min_self, List.length_singleton]; omega) ?_; clear HM; intro v364 w27 HM; replace HM := nzM HM; replace HM := nzM (HM.rrApp [0, 2] [4, 5, 1] (⟨t352, t353, t354, (⟨t355, t356, t357⟩ : S43), t358⟩ : S55) [.slice Xo18 t358.length ko18] hv_ (by kernel_rfl) rfl); clear hv_))
          go_roundg kj9
          case measure => have := HK1.out; have := HJ9.out; omega
          case rel => exact ⟨((x4_1 ++ [(⟨t352, t353, t354, (⟨t355, t356, t357⟩ : S43), t358⟩ : S55)])), (wrap64 (x16_1 + 1)), RS, H', ⟨by have := HK1.out; have := HJ9.out; omega⟩, (MD HM).pick [2, 0]⟩
        ·subst c20
         simp only [Option.some.injEq, Prod.mk.injEq] at H
         obtain ⟨rfl, rfl⟩ := H
         go_wp2_with (first | ((with_reducible refine gC 52 rfl ?_); refine pC (some 30) rfl #[.string (rdOf ByteArray.empty t348 x16_1)] rfl Try.func52 (impl_TextCmd.calls kj9 (rdOf ByteArray.empty t348 x16_1) t352 t353 t354 t355 t356 t357 t358 false _ A15.out) ?_; rintro e w16 ⟨v359, rfl, hR⟩; refine ⟨_, rfl, ?_⟩; replace HM := HM.call hR; clear hR) | ((with_reducible refine gN 7 rfl ?_); refine pB 7 55 [.int .i64 0, .int .i64 0, .int .i64 0, .int .i64 0, .string (⟨#[]⟩ : ByteArray), .string (⟨#[]⟩ : ByteArray), .slice none 0 0] HM rfl ?_; clear HM; intro gb362 w17 HM; obtain ⟨Xo18, ko18, rfl⟩ := HM.rd 2 rfl) | ((with_reducible refine gS 7 rfl ?_); refine pS 3 7 0 [.int .i64 t352, .int .i64 t353, .int .i64 t354, .int .i64 t355, .string t356, .string t357, .slice Xo18 t358.length ko18] HM rfl rfl ?_; clear HM; intro w19 HM; replace HM := HM.nlRR x55 55))
         go_ret2
         exact ⟨_, ER, (MD HM).pick [4]⟩
    ·have c7b0 : decide (x16_1 < (t348.length : Int)) = false := decide_eq_false c7
     clear c7
     first|rw [c7b0]|(simp only [i64_w, i32_w]; rw [c7b0])|skip
     simp only [Option.some.injEq, Prod.mk.injEq] at H
     obtain ⟨rfl, rfl⟩ := H
     go_wp2
     go_ret2
     exact ⟨_, ER, (MD HM).pick [0]⟩
end Go.Proofs.Ythnedklbobbkcaa.G

namespace Go.Proofs.Ythnedklbobbkcaa.G
open Go.RowKit Go.Proofs.YthnedklbobbkcaaW.PrintWords Go.Proofs.YthnedklbobbkcaaW.PrintLast Go.Proofs.YthnedklbobbkcaaW.PrintMore Go.Proofs.Ythnedklbobbkcaa.Sh
attribute [local go_sem] max2_int min2_int max_two min_two max_three min_three max_four min_four
set_option linter.unusedVariables false
set_option linter.unusedSimpArgs false
open Go.Proofs.Ythnedklbobbkcaa.Man
def strings_ContainsAny.f (a0 : ByteArray) (a1 : ByteArray) : Option Bool := if a1 = (⟨#[61, 42]⟩ : ByteArray) ∧ a0.size < 4294967281 then some (hasMark a0) else none
theorem strings_ContainsAny.calls (a0 : ByteArray) (a1 : ByteArray) (r : Bool) (w : World) (h : strings_ContainsAny.f a0 a1 = some r) :
  Calls Try.prog 170 #[.string a0, .string a1] w fun e w' => e = .returned (.bool r) ∧ Below w.heap.size w w' := by
 unfold strings_ContainsAny.f at h
 by_cases c : a1 = (⟨#[61, 42]⟩ : ByteArray) ∧ a0.size < 4294967281
 rotate_left
 ·rw [if_neg c] at h; cases h
 rw [if_pos c] at h
 obtain rfl := Option.some.inj h
 obtain ⟨rfl, hs⟩ := c
 have hc := indexAny_mark a0 hs w
 have hm := Aside0.mk (hasMark_iff a0)
 clear h hs
 obtain ⟨m, hmm⟩ : ∃ m, m = hasMark a0 := ⟨_, rfl⟩
 rw [← hmm] at hm ⊢
 clear hmm
 go_enter Try.func170, Try.ntmps170
 go_wp2_with fail
 refine hc.mono ?_
 rintro e w' ⟨q, rfl, hq, hb⟩
 have HB := Aside0.mk hb
 rw [hm.out] at hq
 clear hb hc
 by_cases hq0 : 0 ≤ q
 ·obtain rfl : m = true := hq.1 hq0
  clear hq
  go_wp2
  go_ret
  exact ⟨rfl, HB.out⟩
 ·obtain rfl : m = false := by
   cases m
   ·rfl
   ·exact absurd (hq.2 rfl) hq0
  have hd : decide (0 ≤ q) = false := decide_eq_false hq0
  clear hq
  go_wp2
  go_ret
  exact ⟨rfl, HB.out⟩
end Go.Proofs.Ythnedklbobbkcaa.G

namespace Go.Proofs.Ythnedklbobbkcaa.G
open Go.RowKit Go.Proofs.YthnedklbobbkcaaW.PrintWords Go.Proofs.YthnedklbobbkcaaW.PrintLast Go.Proofs.YthnedklbobbkcaaW.PrintMore Go.Proofs.Ythnedklbobbkcaa.Sh
attribute [local go_sem] max2_int min2_int max_two min_two max_three min_three max_four min_four
set_option linter.unusedVariables false
set_option linter.unusedSimpArgs false
open Go.Proofs.Ythnedklbobbkcaa.Mm
def impl_ItemText.f (k : Nat) (a0_0 : ByteArray) (a0_1 : ByteArray) (a0_2 : Int) : Option (ByteArray) := (impl_ItemOk.f k a0_0 a0_1 a0_2).bind fun t917 => (if t917 = true then (if a0_0.size + a0_1.size ≤ 9223372036854775807 then ((strings_ContainsAny.f (a0_0 ++ a0_1) (⟨#[61, 42]⟩ : ByteArray)).bind fun t918 => (if t918 = true then (some (⟨#[]⟩ : ByteArray)) else (if a0_0.size + 1 ≤ 9223372036854775807 then (if a0_0.size + 1 + a0_1.size ≤ 9223372036854775807 then (if a0_0.size + 1 + a0_1.size + 1 ≤ 9223372036854775807 then ((impl_NumText.f k a0_2).bind fun t919 => (if a0_0.size + 1 + a0_1.size + 1 + t919.size ≤ 9223372036854775807 then (some ((((a0_0 ++ (⟨#[61]⟩ : ByteArray)) ++ a0_1) ++ (⟨#[42]⟩ : ByteArray)) ++ t919)) else (none))) else (none)) else (none)) else (none)))) else (none)) else (some (⟨#[]⟩ : ByteArray)))
def impl_ItemText.T3 : Bool × List (List Nat × List Nat) := (true, [([], []), ([0], [0]), ([1], [1]), ([], []), ([3], [3]), ([2, 4], [2, 4]), ([5], [5]), ([], []), ([7], [7]), ([8], [8]), ([6, 9], [6, 9]), ([10, 9, 0, 1, 2, 3, 4, 5, 6, 7, 8, 9, 10], [10])])
def impl_ItemText.B3 : List Nat := [0, 1, 3, 0, 8, 31, 63, 0, 128, 384, 1023, 2047]
theorem impl_ItemText.tab3 : rtab .any (opsOf Try.f119 3) = impl_ItemText.T3 := by kernel_rfl
theorem impl_ItemText.bits3 : waitsOk impl_ItemText.T3.2 impl_ItemText.B3 = true := by kernel_rfl
theorem impl_ItemText.calls (k : Nat) (a0_0 : ByteArray) (a0_1 : ByteArray) (a0_2 : Int) (r : ByteArray) (w : World)  (h : impl_ItemText.f k a0_0 a0_1 a0_2 = some r) :
  Calls Try.prog 119 #[.agg #[.string a0_0, .string a0_1, .int .i64 a0_2]] w fun e w' => e = .returned (.string r) ∧ Mem w [] w' [] := by
 have hu122 := Try.underlying122
 have HM := Mem.nil w
 have H := h
 clear h
 unfold impl_ItemText.f at H
 go_enter Try.func119, Try.ntmps119
 replace H := BN H; obtain ⟨t917, A4, H⟩ := H
 replace H := IB H
 rcases H with ⟨c6, H⟩ | ⟨c6, H⟩
 ·subst c6
  replace H := GD H; obtain ⟨c8, H⟩ := H
  have c8b0 := eq_true c8
  have c8b1 : decide (a0_0.size + a0_1.size ≤ 9223372036854775807) = true := decide_eq_true c8
  try have c8b2 : (9223372036854775807 < a0_0.size + a0_1.size) = False := eq_false (Nat.not_lt.2 c8)
  replace H := BN H; obtain ⟨t918, A9, H⟩ := H
  go_upto_if 13 with (first | ((with_reducible refine gN 1 rfl ?_); refine pB 1 122 [.string a0_0, .string a0_1, .int .i64 a0_2] HM rfl ?_; clear HM; intro gb916 w2 HM; obtain ⟨_,_,_,_,_,_⟩ := bk3 (HM.bx 0 rfl)) | ((with_reducible refine gC 127 rfl ?_); refine pC (some 4) rfl #[.agg #[.string a0_0, .string a0_1, .int .i64 a0_2]] rfl Try.func127 (impl_ItemOk.calls k a0_0 a0_1 a0_2 true _ A4.out) ?_; rintro e w5 ⟨rfl, hR⟩; refine ⟨_, rfl, ?_⟩; replace HM := HM.call hR; clear hR; obtain ⟨_,_,_,_,_,_⟩ := bk3 (HM.bx 0 rfl)) | ((with_reducible refine gC 170 rfl ?_); refine pC (some 12) rfl #[.string (a0_0 ++ a0_1), .string (⟨#[61, 42]⟩ : ByteArray)] rfl Try.func170 (strings_ContainsAny.calls (a0_0 ++ a0_1) (⟨#[61, 42]⟩ : ByteArray) t918 _ A9.out) ?_; rintro e w10 ⟨rfl, hb⟩; refine ⟨_, rfl, ?_⟩; replace HM := HM.below hb; clear hb))
  replace HM := nzM HM
  replace H := IB H
  rcases H with ⟨c11, H⟩ | ⟨c11, H⟩
  ·subst c11
   obtain rfl := Option.some.inj H
   go_wp2
   go_ret
   exact ⟨ER, (MD HM).pick []⟩
  ·subst c11
   try go_wp2
   replace H := GD H; obtain ⟨c12, H⟩ := H
   have c12b0 := eq_true c12
   have c12b1 : decide (a0_0.size + 1 ≤ 9223372036854775807) = true := decide_eq_true c12
   try have c12b2 : (9223372036854775807 < a0_0.size + 1) = False := eq_false (Nat.not_lt.2 c12)
   replace H := GD H; obtain ⟨c13, H⟩ := H
   have c13b0 := eq_true c13
   have c13b1 : decide (a0_0.size + 1 + a0_1.size ≤ 9223372036854775807) = true := decide_eq_true c13
   try have c13b2 : (9223372036854775807 < a0_0.size + 1 + a0_1.size) = False := eq_false (Nat.not_lt.2 c13)
   replace H := GD H; obtain ⟨c14, H⟩ := H
   have c14b0 := eq_true c14
   have c14b1 : decide (a0_0.size + 1 + a0_1.size + 1 ≤ 9223372036854775807) = true := decide_eq_true c14
   try have c14b2 : (9223372036854775807 < a0_0.size + 1 + a0_1.size + 1) = False := eq_false (Nat.not_lt.2 c14)
   replace H := BN H; obtain ⟨t919, A15, H⟩ := H
   replace H := GD H; obtain ⟨c16, H⟩ := H
   have c16b0 := eq_true c16
   have c16b1 : decide (a0_0.size + 1 + a0_1.size + 1 + t919.size ≤ 9223372036854775807) = true := decide_eq_true c16
   try have c16b2 : (9223372036854775807 < a0_0.size + 1 + a0_1.size + 1 + t919.size) = False := eq_false (Nat.not_lt.2 c16)
   refine RGN 12 [0, 1, 2, 3, 4, 5, 6, 7, 8, 9, 10, 11] (fun a0 b a w' => a = putSel a0 b [(0, 14, .pointer (some ⟨gb916, 0, none⟩)), (1, 15, .string a0_0), (2, 16, .string (a0_0 ++ (⟨#[61]⟩ : ByteArray))), (3, 17, .pointer (some ⟨gb916, 1, none⟩)), (4, 18, .string a0_1), (5, 19, .string ((a0_0 ++ (⟨#[61]⟩ : ByteArray)) ++ a0_1)), (6, 20, .string (((a0_0 ++ (⟨#[61]⟩ : ByteArray)) ++ a0_1) ++ (⟨#[42]⟩ : ByteArray))), (7, 21, .pointer (some ⟨gb916, 2, none⟩)), (8, 22, .int .i64 a0_2), (9, 23, .string t919), (10, 24, .string ((((a0_0 ++ (⟨#[61]⟩ : ByteArray)) ++ a0_1) ++ (⟨#[42]⟩ : ByteArray)) ++ t919)), (11, 2, .string ((((a0_0 ++ (⟨#[61]⟩ : ByteArray)) ++ a0_1) ++ (⟨#[42]⟩ : ByteArray)) ++ t919))] ∧ Mem w [] w' [box 122 gb916 [.string a0_0, .string a0_1, .int .i64 a0_2]]) impl_ItemText.tab3 impl_ItemText.bits3 ?_ ?_ ?_
   ·exact ⟨PS0' rfl _, (HM.drew).pick [0]⟩
   ·clear HM
    refine SY ?_ ?_
    ·intro b a w ha HM hb hon hoff K hK
     have e1 := PG ha 1
     exact VL (.pointer (some ⟨gb916, 0, none⟩)) (hK.out _ _ ⟨PUT ha 0 hb, HM⟩)
    refine SY ?_ ?_
    ·intro b a w ha HM hb hon hoff K hK
     obtain ⟨_,_,_,_,_,_⟩ := bk3 (HM.bx 0 rfl)
     have e14 := PE ha 0 hon
     exact VL (.string a0_0) (hK.out _ _ ⟨PUT ha 1 hb, HM⟩)
    refine SY ?_ ?_
    ·intro b a w ha HM hb hon hoff K hK
     have e15 := PE ha 1 hon
     exact VL (.string (a0_0 ++ (⟨#[61]⟩ : ByteArray))) (hK.out _ _ ⟨PUT ha 2 hb, HM⟩)
    refine SY ?_ ?_
    ·intro b a w ha HM hb hon hoff K hK
     have e1 := PG ha 1
     exact VL (.pointer (some ⟨gb916, 1, none⟩)) (hK.out _ _ ⟨PUT ha 3 hb, HM⟩)
    refine SY ?_ ?_
    ·intro b a w ha HM hb hon hoff K hK
     obtain ⟨_,_,_,_,_,_⟩ := bk3 (HM.bx 0 rfl)
     have e17 := PE ha 3 hon
     exact VL (.string a0_1) (hK.out _ _ ⟨PUT ha 4 hb, HM⟩)
    refine SY ?_ ?_
    ·intro b a w ha HM hb hon hoff K hK
     have e16 := PE ha 2 hon
     have e18 := PE ha 4 hon
     exact VL (.string ((a0_0 ++ (⟨#[61]⟩ : ByteArray)) ++ a0_1)) (hK.out _ _ ⟨PUT ha 5 hb, HM⟩)
    refine SY ?_ ?_
    ·intro b a w ha HM hb hon hoff K hK
     have e19 := PE ha 5 hon
     exact VL (.string (((a0_0 ++ (⟨#[61]⟩ : ByteArray)) ++ a0_1) ++ (⟨#[42]⟩ : ByteArray))) (hK.out _ _ ⟨PUT ha 6 hb, HM⟩)
    refine SY ?_ ?_
    ·intro b a w ha HM hb hon hoff K hK
     have e1 := PG ha 1
     exact VL (.pointer (some ⟨gb916, 2, none⟩)) (hK.out _ _ ⟨PUT ha 7 hb, HM⟩)
    refine SY ?_ ?_
    ·intro b a w ha HM hb hon hoff K hK
     obtain ⟨_,_,_,_,_,_⟩ := bk3 (HM.bx 0 rfl)
     have e21 := PE ha 7 hon
     exact VL (.int .i64 a0_2) (hK.out _ _ ⟨PUT ha 8 hb, HM⟩)
    refine SY ?_ ?_
    ·intro b a w ha HM hb hon hoff K hK
     have e22 := PE ha 8 hon
     refine ST (eC (some 23) rfl #[.int .i64 a0_2] rfl Try.func62 (impl_NumText.calls k a0_2 t919 _ A15.out) ?_ (hargs := by (simp only [List.map_toArray, List.map_cons, List.map_nil, evc, eval_of e22]) <;> rfl))
     rintro e w24 ⟨rfl, hR⟩
     refine ⟨_, rfl, ?_⟩
     replace HM := HM.call hR
     clear hR
     exact hK.out _ _ ⟨PUT ha 9 hb, (HM).pick [0]⟩
    refine SY ?_ ?_
    ·intro b a w ha HM hb hon hoff K hK
     have e20 := PE ha 6 hon
     have e23 := PE ha 9 hon
     exact VL (.string ((((a0_0 ++ (⟨#[61]⟩ : ByteArray)) ++ a0_1) ++ (⟨#[42]⟩ : ByteArray)) ++ t919)) (hK.out _ _ ⟨PUT ha 10 hb, HM⟩)
    refine SY ?_ ?_
    ·intro b a w ha HM hb hon hoff K hK
     have e24 := PE ha 10 hon
     exact VL (.string ((((a0_0 ++ (⟨#[61]⟩ : ByteArray)) ++ a0_1) ++ (⟨#[42]⟩ : ByteArray)) ++ t919)) (hK.out _ _ ⟨PUT ha 11 hb, HM⟩)
    exact steps_nil
   rintro _ w25 ⟨rfl, HM⟩
   simp only [putSel, if_true, Act.put, List.setIfInBounds_toArray, List.set_cons_zero, List.set_cons_succ, gt_iff_lt, ge_iff_le]
   obtain rfl := Option.some.inj H
   go_wp2
   go_ret
   exact ⟨ER, (MD HM).pick []⟩
 ·subst c6
  obtain rfl := Option.some.inj H
  go_wp2_with (first | ((with_reducible refine gN 1 rfl ?_); refine pB 1 122 [.string a0_0, .string a0_1, .int .i64 a0_2] HM rfl ?_; clear HM; intro gb916 w2 HM; obtain ⟨_,_,_,_,_,_⟩ := bk3 (HM.bx 0 rfl)) | ((with_reducible refine gC 127 rfl ?_); refine pC (some 4) rfl #[.agg #[.string a0_0, .string a0_1, .int .i64 a0_2]] rfl Try.func127 (impl_ItemOk.calls k a0_0 a0_1 a0_2 false _ A4.out) ?_; rintro e w5 ⟨rfl, hR⟩; refine ⟨_, rfl, ?_⟩; replace HM := HM.call hR; clear hR))
  go_ret
  exact ⟨ER, (MD HM).pick []⟩
def impl_itemsText.l0 : Nat → ByteArray → List (S122) → Int → Int → Option (ByteArray)
 | 0, _, _, _, _ => none
 | k + 1, x0, x8, x9, x10 => if x10 < x9 then (if 0 ≤ x10 then (if x10 < (x8.length : Int) then ((impl_ItemText.f k ((rd_T122 x8 x10).f0) ((rd_T122 x8 x10).f1) ((rd_T122 x8 x10).f2)).bind fun t922 => (if t922.toList = ([] : List UInt8) then (some (⟨#[]⟩ : ByteArray)) else (if x0.size + 1 ≤ 9223372036854775807 then (if x0.size + 1 + t922.size ≤ 9223372036854775807 then (impl_itemsText.l0 k ((x0 ++ (⟨#[32]⟩ : ByteArray)) ++ t922) x8 x9 (wrap64 (x10 + 1))) else (none)) else (none)))) else (none)) else (none)) else (if x0.size + 1 ≤ 9223372036854775807 then (some (x0 ++ (⟨#[10]⟩ : ByteArray))) else (none))
def impl_itemsText.f (k : Nat) (a0 : ByteArray) (l1 : List (S122)) : Option (ByteArray) := impl_itemsText.l0 k a0 l1 (l1.length : Int) 0
theorem impl_itemsText.calls (k : Nat) (a0 : ByteArray) (A1 : Option Addr) (c1 : Nat) (l1 : List (S122)) (r : ByteArray) (w : World) (hr1 : Kd.C k122 w A1 l1.length l1) (hc1 : l1.length ≤ c1) (h : impl_itemsText.f k a0 l1 = some r) :
  Calls Try.prog 59 #[.string a0, .slice A1 l1.length c1] w fun e w' => e = .returned (.string r) ∧ Mem w [] w' [] := by
 have hu122 := Try.underlying122
 have HR1 := Aside0.mk hr1
 have HC1 := Aside0.mk hc1
 clear hr1 hc1
 have HM := Mem.nil w
 have H := h
 clear h
 unfold impl_itemsText.f at H
 go_enter Try.func59, Try.ntmps59
 have H' := Aside0.mk H
 clear H
 go_wp2
 go_loopg [0, 10] k (fun kq v0 v10 w' => ∃ (x0_1 : ByteArray) (x10_1 : Int), v0 = .string x0_1 ∧ v10 = .int .i64 x10_1 ∧ Aside0 (impl_itemsText.l0 kq x0_1 l1 (l1.length : Int) x10_1 = some r) ∧ Aside0 (kq ≤ k) ∧ Mem w [] w' [])
 case atStart => exact ⟨(a0), (0), RS, RS, H', ⟨Nat.le_refl _⟩, (MD HM).pick []⟩
 case round =>
  clear H' HM
  obtain ⟨x0_1, x10_1, rfl, rfl, HA, HK1, HM⟩ := hrel
  cases gk with
  | zero => exact absurd HA.out (by simp [impl_itemsText.l0])
  | succ k1 =>
   have H := HA.out
   clear HA
   simp only [impl_itemsText.l0] at H
   go_upto_if 11 with (fail)
   replace H := IT H; rcases H with ⟨c3, H⟩ | ⟨c3, H⟩
   ·have c3b0 := decide_eq_true c3
    clear c3
    first|rw [c3b0]|(simp only [i64_w, i32_w]; rw [c3b0])|skip
    replace H := GD H; obtain ⟨c4, H⟩ := H
    have c4b0 := decide_eq_true c4
    clear c4
    replace H := GD H; obtain ⟨c5, H⟩ := H
    have c5b0 := decide_eq_true c5
    clear c5
    replace H := BN H; obtain ⟨t922, A9, H⟩ := H
    have p920 : 0 ≤ (x10_1 : Int) := of_decide_eq_true AS
    have q920 : (x10_1 : Int) < (l1.length : Int) := of_decide_eq_true AS
    obtain ⟨ad920, e920, hx920_0, hx920_1, hx920_2⟩ := at_T122 (HM.came HR1.out) x10_1 p920 q920
    cases e920
    replace p920 := eq_true p920
    replace q920 := eq_true q920
    go_upto_if 17 with (first | ((with_reducible refine gN 6 rfl ?_); refine pB 6 122 [.string (⟨#[]⟩ : ByteArray), .string (⟨#[]⟩ : ByteArray), .int .i64 0] HM rfl ?_; clear HM; intro gb921 w6 HM) | ((with_reducible refine gS 6 rfl ?_); refine pS 0 6 0 [.string ((rd_T122 l1 x10_1).f0), .string ((rd_T122 l1 x10_1).f1), .int .i64 ((rd_T122 l1 x10_1).f2)] HM rfl rfl ?_; clear HM; intro w7 HM; obtain ⟨_,_,_,_,_,_⟩ := bk3 (HM.bx 0 rfl)) | ((with_reducible refine gC 119 rfl ?_); refine pC (some 15) rfl #[.agg #[.string ((rd_T122 l1 x10_1).f0), .string ((rd_T122 l1 x10_1).f1), .int .i64 ((rd_T122 l1 x10_1).f2)]] rfl Try.func119 (impl_ItemText.calls k1 ((rd_T122 l1 x10_1).f0) ((rd_T122 l1 x10_1).f1) ((rd_T122 l1 x10_1).f2) t922 _ A9.out) ?_; rintro e w10 ⟨rfl, hR⟩; refine ⟨_, rfl, ?_⟩; replace HM := HM.call hR; clear hR))
    replace HM := nzM HM
    replace H := IT H; rcases H with ⟨c11, H⟩ | ⟨c11, H⟩
    ·obtain ⟨c11b0, c11b1⟩ := BE c11
     have c11b6 : (t922.toList).isEmpty = true := by first | (rw [c11]; rfl) | (cases h_ : t922.toList with | nil => exact absurd h_ c11 | cons _ _ => rfl)
     clear c11
     first|rw [c11b0]|rw [c11b1]|rw [c11b6]|(simp only [bne, c11b6, Bool.not_true, Bool.not_false])|(simp only [i64_w, i32_w]; rw [c11b0])|skip
     obtain rfl := Option.some.inj H
     go_wp2
     go_ret
     exact ⟨ER, (MD HM).pick []⟩
    ·obtain ⟨c11b0, c11b1⟩ := BF c11
     have c11b6 : (t922.toList).isEmpty = false := by first | (rw [c11]; rfl) | (cases h_ : t922.toList with | nil => exact absurd h_ c11 | cons _ _ => rfl)
     first|rw [c11b0]|rw [c11b1]|rw [c11b6]|(simp only [bne, c11b6, Bool.not_true, Bool.not_false])|(simp only [i64_w, i32_w]; rw [c11b0])|skip
     replace H := GD H; obtain ⟨c12, H⟩ := H
     have c12b0 := eq_true c12
     have c12b1 : decide (x0_1.size + 1 ≤ 9223372036854775807) = true := decide_eq_true c12
     try have c12b2 : (9223372036854775807 < x0_1.size + 1) = False := eq_false (Nat.not_lt.2 c12)
     replace H := GD H; obtain ⟨c13, H⟩ := H
     have c13b0 := eq_true c13
     have c13b1 : decide (x0_1.size + 1 + t922.size ≤ 9223372036854775807) = true := decide_eq_true c13
     try have c13b2 : (9223372036854775807 < x0_1.size + 1 + t922.size) = False := eq_false (Nat.not_lt.2 c13)
     have H' := Aside0.mk H
     clear H
     go_wp2
     go_roundg k1
     case measure => have := HK1.out; omega
     case rel => exact ⟨((x0_1 ++ (⟨#[32]⟩ : ByteArray)) ++ t922), (wrap64 (x10_1 + 1)), RS, RS, H', ⟨by have := HK1.out; omega⟩, (MD HM).pick []⟩
   ·have c3b0 := decide_eq_false c3
    clear c3
    first|rw [c3b0]|(simp only [i64_w, i32_w]; rw [c3b0])|skip
    replace H := GD H; obtain ⟨c14, H⟩ := H
    have c14b0 := eq_true c14
    have c14b1 : decide (x0_1.size + 1 ≤ 9223372036854775807) = true := decide_eq_true c14
    try have c14b2 : (9223372036854775807 < x0_1.size + 1) = False := eq_false (Nat.not_lt.2 c14)
    obtain rfl := Option.some.inj H
    go_wp2
    go_ret
    exact ⟨ER, (MD HM).pick []⟩
end Go.Proofs.Ythnedklbobbkcaa.G

namespace Go.Proofs.Ythnedklbobbkcaa.G
open Go.RowKit Go.Proofs.YthnedklbobbkcaaW.PrintWords Go.Proofs.YthnedklbobbkcaaW.PrintLast Go.Proofs.YthnedklbobbkcaaW.PrintMore Go.Proofs.Ythnedklbobbkcaa.Sh
attribute [local go_sem] max2_int min2_int max_two min_two max_three min_three max_four min_four
set_option linter.unusedVariables false
set_option linter.unusedSimpArgs false
open Go.Proofs.Ythnedklbobbkcaa.Man
def impl_Three_ghosts.f (a0 : Int) (a1 : Int) : Option Int := some (max 1 (wrap64 (a0 - a1)))
set_option maxHeartbeats 2000000 in
set_option maxRecDepth 100000 in
theorem impl_Three_ghosts.calls (g : Nat) (a0 : Int) (a1 : Int) (x2 x3 x4 : Value) (r : Int) (w : World) (hb : w.heap[g]? = some (.cells #[.int .i64 a0, .int .i64 a1, x2, x3, x4] 32 (0, 0))) (h : impl_Three_ghosts.f a0 a1 = some r) :
  Calls Try.prog 120 #[.pointer (some ⟨g, 0, none⟩)] w fun e w' => e = .returned (.int .i64 r) ∧ ∃ nd, w' = w.drewN nd := by
 unfold impl_Three_ghosts.f at h
 obtain rfl := Option.some.inj h
 clear h
 have hu45 := Try.underlying32
 have c0 : w.cell? ⟨g, 0, none⟩ = some (.int .i64 a0) := blk_cell hb 0
 have c1 : w.cell? ⟨g, 1, none⟩ = some (.int .i64 a1) := blk_cell hb 1
 have c2 : w.drew.cell? ⟨g, 0, none⟩ = some (.int .i64 a0) := blk_cell (blk_drew hb) 0
 have c3 : w.drew.cell? ⟨g, 1, none⟩ = some (.int .i64 a1) := blk_cell (blk_drew hb) 1
 have mixed : Try.prog.follows .mixedOrders = true := by kernel_rfl
 clear hb
 go_enter Try.func120, Try.ntmps120
 go_wp2
 go_region_o
 go_wp2
 ·go_ret
  exact ⟨by rw [show max 1 (wrap64 (a0 - a1)) = wrap64 (a0 - a1) by omega]; rfl, 1, rfl⟩
 ·go_ret
  exact ⟨by rw [show max 1 (wrap64 (a0 - a1)) = 1 by omega]; rfl, 1, rfl⟩
end Go.Proofs.Ythnedklbobbkcaa.G

namespace Go.Proofs.Ythnedklbobbkcaa.G
open Go.RowKit Go.Proofs.YthnedklbobbkcaaW.PrintWords Go.Proofs.YthnedklbobbkcaaW.PrintLast Go.Proofs.YthnedklbobbkcaaW.PrintMore Go.Proofs.Ythnedklbobbkcaa.Sh
attribute [local go_sem] max2_int min2_int max_two min_two max_three min_three max_four min_four
set_option linter.unusedVariables false
set_option linter.unusedSimpArgs false
def slices_Index_int_int.l0 : Nat → List Int → Int → Int → Int → Option (Int)
 | 0, _, _, _, _ => none
 | k + 1, x0, x1, x7, x8 => if x8 < x7 then (if 0 ≤ x8 then (if x8 < (x0.length : Int) then (if x1 = (rd x0 x8) then (some x8) else (slices_Index_int_int.l0 k x0 x1 x7 (wrap64 (x8 + 1)))) else (none)) else (none)) else (some (-1))
def slices_Index_int_int.f (k : Nat) (l0 : List Int) (a1 : Int) : Option (Int) := slices_Index_int_int.l0 k l0 a1 (l0.length : Int) 0
theorem slices_Index_int_int.mono_l : ∀ k, (∀ y0 y1 y2 y3, LeO (slices_Index_int_int.l0 k y0 y1 y2 y3) (slices_Index_int_int.l0 (k + 1) y0 y1 y2 y3))
 | 0 => fun _ _ _ _ r h => by simp [slices_Index_int_int.l0] at h
 | k + 1 => by
  have ih0 := slices_Index_int_int.mono_l k
  ·intro y0 y1 y2 y3
   unfold slices_Index_int_int.l0
   repeat' first | (with_reducible first | exact ih0 _ _ _ _ | exact LeO.refl _ | exact LeO.none _ | refine LeO.ite ?_ ?_ | refine LeO.bind ?_ (fun _ => ?_)) | exact LeO.none _ | refine LeO.ite ?_ ?_ | refine LeO.bind ?_ (fun _ => ?_)
theorem slices_Index_int_int.mono : ∀ a0 a1 k, LeO (slices_Index_int_int.f k a0 a1) (slices_Index_int_int.f (k + 1) a0 a1) := by
 intro a0 a1 k
 have ih0 := slices_Index_int_int.mono_l k
 unfold slices_Index_int_int.f
 repeat' first | (with_reducible first | exact ih0 _ _ _ _ | exact LeO.refl _ | exact LeO.none _ | refine LeO.ite ?_ ?_ | refine LeO.bind ?_ (fun _ => ?_)) | exact LeO.none _ | refine LeO.ite ?_ ?_ | refine LeO.bind ?_ (fun _ => ?_)
theorem slices_Index_int_int.calls (k : Nat) (A0 : Option Addr) (c0 : Nat) (l0 : List Int) (a1 : Int) (r : Int) (w : World) (hr0 : Kd.C (Kd.int .i64) w A0 l0.length l0) (hc0 : l0.length ≤ c0) (h : slices_Index_int_int.f k l0 a1 = some r) :
  Calls Try.prog 171 #[.slice A0 l0.length c0, .int .i64 a1] w fun e w' => e = .returned (.int .i64 r) ∧ Drawn0 w w' := by
 have HR0 := Aside0.mk hr0
 have HC0 := Aside0.mk hc0
 clear hr0 hc0
 have H : (slices_Index_int_int.l0 k l0 a1 (l0.length : Int) 0) = some r := h
 clear h
 have H' := Aside0.mk H
 clear H
 go_enter Try.func171, Try.ntmps171
 go_wp2
 go_loopg [8] k (fun kq v8 w' => ∃ (x8_1 : Int), v8 = .int .i64 x8_1 ∧ Aside0 (slices_Index_int_int.l0 kq l0 a1 (l0.length : Int) x8_1 = some r) ∧ Aside0 (kq ≤ k) ∧ Drawn0 w w')
 case atStart => exact ⟨(0), RS, H', ⟨Nat.le_refl _⟩, DR⟩
 case round =>
  clear H'
  try clear c1
  try clear p2
  obtain ⟨x8_1, rfl, HA, HK1, ⟨m1, rfl⟩⟩ := hrel
  cases gk with
  | zero => exact absurd HA.out (by simp [slices_Index_int_int.l0])
  | succ k1 =>
   have H := HA.out
   clear HA
   simp only [slices_Index_int_int.l0] at H
   by_cases c3 : x8_1 < (l0.length : Int)
   ·rw [if_pos c3] at H
    have c3b0 : decide (x8_1 < (l0.length : Int)) = true := decide_eq_true c3
    clear c3
    by_cases c4 : 0 ≤ x8_1
    ·rw [if_pos c4] at H
     have c4b0 : decide (0 ≤ x8_1) = true := decide_eq_true c4
     clear c4
     by_cases c5 : x8_1 < (l0.length : Int)
     ·rw [if_pos c5] at H
      have c5b0 : decide (x8_1 < (l0.length : Int)) = true := decide_eq_true c5
      clear c5
      by_cases c6 : a1 = (rd l0 x8_1)
      ·rw [if_pos c6] at H
       have c6b0 : (a1 == (rd l0 x8_1)) = true := beq_iff_eq.mpr c6
       have c6b1 : (a1 != (rd l0 x8_1)) = false := bne_eq_false_iff_eq.mpr c6
       clear c6
       obtain rfl := Option.some.inj H
       have p924 : 0 ≤ (x8_1 : Int) := of_decide_eq_true AS
       have q924 : x8_1 < (l0.length : Int) := of_decide_eq_true AS
       obtain ⟨ad924, e924, hx924_0⟩ := Kd.at_int HR0.out x8_1 p924 q924
       cases e924
       replace p924 := eq_true p924
       replace q924 := eq_true q924
       go_wp2
       go_ret
       exact ⟨by first | rfl | (simp; done) | (simp [*]; done), DR⟩
      ·rw [if_neg c6] at H
       have c6b0 : (a1 == (rd l0 x8_1)) = false := beq_eq_false_iff_ne.mpr c6
       have c6b1 : (a1 != (rd l0 x8_1)) = true := bne_iff_ne.mpr c6
       have H' := Aside0.mk H
       clear H
       have p924 : 0 ≤ (x8_1 : Int) := of_decide_eq_true AS
       have q924 : x8_1 < (l0.length : Int) := of_decide_eq_true AS
       obtain ⟨ad924, e924, hx924_0⟩ := Kd.at_int HR0.out x8_1 p924 q924
       cases e924
       replace p924 := eq_true p924
       replace q924 := eq_true q924
       go_wp2
       go_roundg k1
       case measure => have := HK1.out; omega
       case rel => exact ⟨(wrap64 (x8_1 + 1)), RS, H', ⟨by have := HK1.out; omega⟩, DR⟩
     ·rw [if_neg c5] at H
      exact absurd H (by simp)
    ·rw [if_neg c4] at H
     exact absurd H (by simp)
   ·rw [if_neg c3] at H
    have c3b0 : decide (x8_1 < (l0.length : Int)) = false := decide_eq_false c3
    clear c3
    obtain rfl := Option.some.inj H
    go_wp2
    go_ret
    exact ⟨by first | rfl | (simp; done) | (simp [*]; done), DR⟩
def slices_Contains_int_int.f (k : Nat) (l0 : List Int) (a1 : Int) : Option (Bool) := (slices_Index_int_int.f k l0 a1).bind fun t926 => (some (decide (t926 ≥ 0)))
theorem slices_Contains_int_int.mono : ∀ a0 a1 k, LeO (slices_Contains_int_int.f k a0 a1) (slices_Contains_int_int.f (k + 1) a0 a1) := by
 intro a0 a1 k
 unfold slices_Contains_int_int.f
 repeat' first | (with_reducible first | exact slices_Index_int_int.mono _ _ _ | exact LeO.refl _ | exact LeO.none _ | refine LeO.ite ?_ ?_ | refine LeO.bind ?_ (fun _ => ?_)) | exact LeO.none _ | refine LeO.ite ?_ ?_ | refine LeO.bind ?_ (fun _ => ?_)
theorem slices_Contains_int_int.calls (k : Nat) (A0 : Option Addr) (c0 : Nat) (l0 : List Int) (a1 : Int) (r : Bool) (w : World) (hr0 : Kd.C (Kd.int .i64) w A0 l0.length l0) (hc0 : l0.length ≤ c0) (h : slices_Contains_int_int.f k l0 a1 = some r) :
  Calls Try.prog 122 #[.slice A0 l0.length c0, .int .i64 a1] w fun e w' => e = .returned (.bool r) ∧ Drawn0 w w' := by
 have HR0 := Aside0.mk hr0
 have HC0 := Aside0.mk hc0
 clear hr0 hc0
 have H : ((slices_Index_int_int.f k l0 a1).bind fun t926 => (some (decide (t926 ≥ 0)))) = some r := h
 clear h
 replace H := BS H
 obtain ⟨t926, A30, H⟩ := H
 have A3 := Aside0.mk A30
 clear A30
 obtain rfl := Option.some.inj H
 go_enter Try.func122, Try.ntmps122
 go_wp2_with (first | ((with_reducible refine gate_callee (f := 171) rfl ?_); refine goesL_ (some 7) rfl rfl Try.func171 (by kernel_rfl) rfl #[.slice A0 l0.length c0, .int .i64 a1] rfl AQ ?_; (with_reducible refine (slices_Index_int_int.calls k _ _ l0 a1 t926 _ ?side1 ?side2 A3.out).mono ?_); (case side1 => repeat (first | exact HR0.out | (with_reducible refine Kd.C_alloc ?_ _) | (with_reducible refine Kd.C_drewN ?_ _) | (with_reducible refine Kd.C_drew ?_))); (case side2 => exact HC0.out); rintro e w' ⟨rfl, ⟨nd, rfl⟩⟩; refine ⟨_, rfl, ?_⟩))
 go_ret
 exact ⟨by first | rfl | (simp; done) | (simp [*]; done), DR⟩
end Go.Proofs.Ythnedklbobbkcaa.G

namespace Go.Proofs.Ythnedklbobbkcaa.G
open Go.RowKit Go.Proofs.YthnedklbobbkcaaW.PrintWords Go.Proofs.YthnedklbobbkcaaW.PrintLast Go.Proofs.YthnedklbobbkcaaW.PrintMore Go.Proofs.Ythnedklbobbkcaa.Sh
attribute [local go_sem] max2_int min2_int max_two min_two max_three min_three max_four min_four
set_option linter.unusedVariables false
set_option linter.unusedSimpArgs false
open Go.Proofs.Ythnedklbobbkcaa.Mm
def impl_copyItems.f (l0 : List (S122)) : Option ((List (S122))) := if ([] : List (S122)).length + l0.length < 3518437208883 then (some (([] : List (S122)) ++ l0)) else (none)
theorem impl_copyItems.calls (A0 : Option Addr) (c0 : Nat) (l0 : List (S122)) (r : List (S122)) (w : World) (hr0 : Kd.C k122 w A0 l0.length l0) (hc0 : l0.length ≤ c0) (h : impl_copyItems.f l0 = some r) :
  Calls Try.prog 123 #[.slice A0 l0.length c0] w fun e w' => ∃ v0_ : Value, e = .returned (v0_) ∧ Mem w [] w' [rowR k122 122 v0_ r] := by
 have HR0 := Aside0.mk hr0
 have HC0 := Aside0.mk hc0
 clear hr0 hc0
 have HM := Mem.nil w
 have H := h
 clear h
 unfold impl_copyItems.f at H
 go_enter Try.func123, Try.ntmps123
 replace H := GD H; obtain ⟨c2, H⟩ := H
 have LMc2 := Aside0.mk c2
 clear c2
 obtain rfl := Option.some.inj H
 go_wp2_with (first | ((with_reducible refine gate_builtin (b := .append) (xs := #[.const (.slice none 0 0), .tmp 3]) rfl ?_); refine pAn (.const (.slice none 0 0)) (.tmp 3) 29 122 k122 l0 A0 l0.length c0 HM rfl Try.underlying29 info122 (HM.came HR0.out) (by have h_ := LMc2.out; omega) ?_; clear HM; intro v928 w3 HM))
 go_ret
 exact ⟨_, ER, (MD HM).pick [0]⟩
end Go.Proofs.Ythnedklbobbkcaa.G

namespace Go.Proofs.Ythnedklbobbkcaa.G
open Go.RowKit Go.Proofs.YthnedklbobbkcaaW.PrintWords Go.Proofs.YthnedklbobbkcaaW.PrintLast Go.Proofs.YthnedklbobbkcaaW.PrintMore Go.Proofs.Ythnedklbobbkcaa.Sh
attribute [local go_sem] max2_int min2_int max_two min_two max_three min_three max_four min_four
set_option linter.unusedVariables false
set_option linter.unusedSimpArgs false
open Go.Proofs.Ythnedklbobbkcaa.Man
theorem impl_itemAt.closure (key : ByteArray) (B : Nat) (W : World) (x0 x1 : ByteArray) (x2 : Int) (hcell : W.cell? ⟨B, 0, none⟩ = some (.string key)) (hB : B < W.heap.size) :
  Calls Try.prog 202 #[.agg #[.string x0, .string x1, .int .i64 x2], .pointer (some ⟨B, 0, none⟩)] W fun e w' => e = .returned (.bool (x0.toList == key.toList)) ∧ Below W.heap.size W w' := by
 have hne : B ≠ W.heap.size := by omega
 have hu := Try.underlying122
 go_enter Try.func202, Try.ntmps202
 go_wp2
 go_ret
 exact ⟨rfl, by repeat (first | exact Below.refl _ _ | apply below_alloc)⟩
def impl_itemAt.idx (key : ByteArray) : List S122 → Nat → Int
 | [], _ => -1
 | x :: r, i => if x.f0.toList = key.toList then (i : Int) else impl_itemAt.idx key r (i + 1)
theorem impl_itemAt.idx_at (key : ByteArray) (l : List S122) (i : Nat) (h : i < l.length) : impl_itemAt.idx key (l.drop i) i = if (rd_T122 l (i : Int)).f0.toList = key.toList then (i : Int) else impl_itemAt.idx key (l.drop (i + 1)) (i + 1) := by
 rw [List.drop_eq_getElem_cons h, impl_itemAt.idx]
 have e : rd_T122 l (i : Int) = l[i] := by
  show l.getD (i : Int).toNat _ = _
  simp [List.getD_eq_getElem?_getD, h]
 rw [e]
theorem impl_itemAt.idx_end (key : ByteArray) (l : List S122) (i : Nat) (h : ¬ i < l.length) : impl_itemAt.idx key (l.drop i) i = -1 := by
 rw [List.drop_of_length_le (by omega)]; rfl
set_option maxHeartbeats 1000000 in
theorem impl_itemAt.indexFunc (key : ByteArray) (B : Nat) (A0 : Option Addr) (c0 : Nat) (l0 : List S122) (w : World) (hcell : w.cell? ⟨B, 0, none⟩ = some (.string key)) (hB : B < w.heap.size) (hr0 : Kd.C k122 w A0 l0.length l0) (hc0 : l0.length ≤ c0) :
  Calls Try.prog 201 #[.slice A0 l0.length c0, .func (.func 202) #[] #[.pointer (some ⟨B, 0, none⟩)]] w fun e w' => e = .returned (.int .i64 (impl_itemAt.idx key l0 0)) ∧ Below w.heap.size w w' := by
 have HR0 := Aside0.mk hr0
 have HC0 := Aside0.mk hc0
 have HL := Aside0.mk (show l0.length ≤ 9223372036854775807 from hr0.2.1)
 have HX := Aside0.mk hcell
 have HBB := Aside0.mk hB
 clear hr0 hc0 hcell hB
 have HB := Aside0.mk (Below.refl w.heap.size w)
 obtain ⟨R, hR⟩ : ∃ R, R = impl_itemAt.idx key l0 0 := ⟨_, rfl⟩
 rw [← hR]
 have HN := Aside0.mk (show impl_itemAt.idx key (l0.drop 0) 0 = R from hR.symm)
 clear hR
 go_enter Try.func201, Try.ntmps201
 go_wp2
 go_loopg [5, 8] l0.length (fun kq _ v8 w' => ∃ x : Int, v8 = .int .i64 x ∧ Aside0 (∃ n : Nat, x = (n : Int) ∧ impl_itemAt.idx key (l0.drop n) n = R ∧ n + kq = l0.length) ∧ Aside0 (Below w.heap.size w w'))
 case atStart => exact ⟨0, rfl, ⟨0, rfl, HN.out, Nat.zero_add _⟩, HB⟩
 case round =>
  clear HN
  obtain ⟨x, rfl, HN, HB⟩ := hrel
  have hcl : ∀ y : S122, Calls Try.prog 202 #[.agg #[.string y.f0, .string y.f1, .int .i64 y.f2], .pointer (some ⟨B, 0, none⟩)] wr fun e w' => e = .returned (.bool (y.f0.toList == key.toList)) ∧ Below wr.heap.size wr w' := fun y => impl_itemAt.closure key B wr y.f0 y.f1 y.f2 ((HB.out.cell (World.block_lt_of_cell? w _ HX.out)).trans HX.out) (Nat.lt_of_lt_of_le HBB.out HB.out.size)
  by_cases hlt : x < (l0.length : Int)
  ·have hd : decide (x < (l0.length : Int)) = true := decide_eq_true hlt
   have hn0 : 0 ≤ x := by obtain ⟨n, rfl, _⟩ := HN.out; exact Int.natCast_nonneg n
   obtain ⟨ad, hA, hx0, hx1, hx2⟩ := at_T122 HR0.out x hn0 hlt
   subst hA
   replace hx0 := (HB.out.cell (World.block_lt_of_cell? w _ hx0)).trans hx0
   replace hx1 := (HB.out.cell (World.block_lt_of_cell? w _ hx1)).trans hx1
   replace hx2 := (HB.out.cell (World.block_lt_of_cell? w _ hx2)).trans hx2
   have hcall := hcl (rd_T122 l0 x)
   clear hcl
   have H0 := Aside0.mk hn0
   have H1 := Aside0.mk hlt
   replace hn0 := eq_true hn0
   replace hlt := eq_true hlt
   obtain ⟨y, hy⟩ : ∃ y, rd_T122 l0 x = y := ⟨_, rfl⟩
   rw [hy] at hx0 hx1 hx2 hcall
   have HY := Aside0.mk hy
   clear hy
   by_cases c : y.f0.toList = key.toList
   ·rw [show (y.f0.toList == key.toList) = true from beq_iff_eq.mpr c] at hcall
    have C := Aside0.mk c
    clear c
    go_wp2_with fail
    refine hcall.mono ?_
    rintro e w' ⟨rfl, hb'⟩
    have HB' := Aside0.mk hb'
    clear hb' hcall
    go_wp2
    go_ret
    refine ⟨?_, below_step HB.out HB'.out⟩
    obtain ⟨n, rfl, hn, hk⟩ := HN.out
    have e := impl_itemAt.idx_at key l0 n (Int.ofNat_lt.mp H1.out)
    rw [HY.out, if_pos C.out, hn] at e
    rw [e]
    rfl
   ·rw [show (y.f0.toList == key.toList) = false from beq_eq_false_iff_ne.mpr c] at hcall
    have C := Aside0.mk c
    clear c
    go_wp2_with fail
    refine hcall.mono ?_
    rintro e w' ⟨rfl, hb'⟩
    have HB' := Aside0.mk hb'
    clear hb' hcall
    go_wp2
    obtain ⟨n, rfl, hn, hk⟩ := HN.out
    have hlt' := Int.ofNat_lt.mp H1.out
    go_roundg (gk - 1)
    case measure => omega
    case rel =>
     have e := impl_itemAt.idx_at key l0 n hlt'
     rw [HY.out, if_neg C.out, hn] at e
     exact ⟨_, rfl, ⟨n + 1, wsucc_ (by have := HL.out; omega), e.symm, by omega⟩, ⟨below_step HB.out HB'.out⟩⟩
  ·have hd : decide (x < (l0.length : Int)) = false := decide_eq_false hlt
   clear hcl
   have HLT := Aside0.mk hlt
   clear hlt
   go_wp2
   go_ret
   obtain ⟨n, rfl, hn, hk⟩ := HN.out
   have hlt' := HLT.out
   rw [impl_itemAt.idx_end key l0 n (by omega)] at hn
   exact ⟨by rw [← hn]; rfl, HB.out⟩
def impl_itemAt.f (l0 : List S122) (a1 : ByteArray) : Option Int := some (impl_itemAt.idx a1 l0 0)
theorem impl_itemAt.calls (A0 : Option Addr) (c0 : Nat) (l0 : List S122) (a1 : ByteArray) (r : Int) (w : World) (hr0 : Kd.C k122 w A0 l0.length l0) (hc0 : l0.length ≤ c0) (h : impl_itemAt.f l0 a1 = some r) :
  Calls Try.prog 172 #[.slice A0 l0.length c0, .string a1] w fun e w' => e = .returned (.int .i64 r) ∧ Below w.heap.size w w' := by
 obtain rfl := Option.some.inj h
 have hb0 : Below w.heap.size w (w.alloc (.cells #[.string a1] 9)) := below_alloc (Below.refl _ w) _
 have hcall := impl_itemAt.indexFunc a1 w.heap.size A0 c0 l0 (w.alloc (.cells #[.string a1] 9)) (by simp) (by simp) (Kd.C_below hr0 hb0) hc0
 have HB := Aside0.mk hb0
 clear h hr0 hc0 hb0
 obtain ⟨R, hR⟩ : ∃ R, R = impl_itemAt.idx a1 l0 0 := ⟨_, rfl⟩
 rw [← hR] at hcall ⊢
 have HR := Aside0.mk hR
 clear hR
 go_enter Try.func172, Try.ntmps172
 go_wp2_with fail
 refine hcall.mono ?_
 rintro e w' ⟨rfl, hb'⟩
 have HB' := Aside0.mk hb'
 clear hb' hcall
 go_wp2
 go_ret
 exact ⟨rfl, below_step HB.out HB'.out⟩
end Go.Proofs.Ythnedklbobbkcaa.G

namespace Go.Proofs.Ythnedklbobbkcaa.G
open Go.RowKit Go.Proofs.YthnedklbobbkcaaW.PrintWords Go.Proofs.YthnedklbobbkcaaW.PrintLast Go.Proofs.YthnedklbobbkcaaW.PrintMore Go.Proofs.Ythnedklbobbkcaa.Sh
attribute [local go_sem] max2_int min2_int max_two min_two max_three min_three max_four min_four
set_option linter.unusedVariables false
set_option linter.unusedSimpArgs false
open Go.Proofs.Ythnedklbobbkcaa.Mm
def impl_areItems.l0 : Nat → List (S122) → List (S122) → Int → Int → Option (Bool)
 | 0, _, _, _, _ => none
 | k + 1, x0, x5, x6, x7 => if x7 < x6 then (if 0 ≤ x7 then (if x7 < (x5.length : Int) then ((impl_ItemOk.f k ((rd_T122 x5 x7).f0) ((rd_T122 x5 x7).f1) ((rd_T122 x5 x7).f2)).bind fun t932 => (if t932 = true then ((impl_itemAt.f x0 ((rd_T122 x5 x7).f0)).bind fun t933 => (if t933 = x7 then (impl_areItems.l0 k x0 x5 x6 (wrap64 (x7 + 1))) else (some false))) else (some false))) else (none)) else (none)) else (some true)
def impl_areItems.f (k : Nat) (l0 : List (S122)) : Option (Bool) := impl_areItems.l0 k l0 l0 (l0.length : Int) 0
theorem impl_areItems.calls (k : Nat) (A0 : Option Addr) (c0 : Nat) (l0 : List (S122)) (r : Bool) (w : World) (hr0 : Kd.C k122 w A0 l0.length l0) (hc0 : l0.length ≤ c0) (h : impl_areItems.f k l0 = some r) :
  Calls Try.prog 124 #[.slice A0 l0.length c0] w fun e w' => e = .returned (.bool r) ∧ Mem w [] w' [] := by
 have hu122 := Try.underlying122
 have HR0 := Aside0.mk hr0
 have HC0 := Aside0.mk hc0
 clear hr0 hc0
 have HM := Mem.nil w
 have H := h
 clear h
 unfold impl_areItems.f at H
 go_enter Try.func124, Try.ntmps124
 have H' := Aside0.mk H
 clear H
 go_wp2
 go_loopg [7] k (fun kq v7 w' => ∃ (x7_1 : Int), v7 = .int .i64 x7_1 ∧ Aside0 (impl_areItems.l0 kq l0 l0 (l0.length : Int) x7_1 = some r) ∧ Aside0 (kq ≤ k) ∧ Mem w [] w' [])
 case atStart => exact ⟨(0), RS, H', ⟨Nat.le_refl _⟩, (MD HM).pick []⟩
 case round =>
  clear H' HM
  obtain ⟨x7_1, rfl, HA, HK1, HM⟩ := hrel
  cases gk with
  | zero => exact absurd HA.out (by simp [impl_areItems.l0])
  | succ k1 =>
   have H := HA.out
   clear HA
   simp only [impl_areItems.l0] at H
   go_upto_if 8 with (fail)
   replace H := IT H; rcases H with ⟨c2, H⟩ | ⟨c2, H⟩
   ·have c2b0 := decide_eq_true c2
    clear c2
    first|rw [c2b0]|(simp only [i64_w, i32_w]; rw [c2b0])|skip
    replace H := GD H; obtain ⟨c3, H⟩ := H
    have c3b0 := decide_eq_true c3
    clear c3
    replace H := GD H; obtain ⟨c4, H⟩ := H
    have c4b0 := decide_eq_true c4
    clear c4
    replace H := BN H; obtain ⟨t932, A8, H⟩ := H
    replace H := IB H
    rcases H with ⟨c10, H⟩ | ⟨c10, H⟩
    ·subst c10
     replace H := BN H; obtain ⟨t933, A12, H⟩ := H
     have p930 : 0 ≤ (x7_1 : Int) := of_decide_eq_true AS
     have q930 : (x7_1 : Int) < (l0.length : Int) := of_decide_eq_true AS
     obtain ⟨ad930, e930, hx930_0, hx930_1, hx930_2⟩ := at_T122 (HM.came HR0.out) x7_1 p930 q930
     cases e930
     replace p930 := eq_true p930
     replace q930 := eq_true q930
     go_upto_if 22 with (first | ((with_reducible refine gN 4 rfl ?_); refine pB 4 122 [.string (⟨#[]⟩ : ByteArray), .string (⟨#[]⟩ : ByteArray), .int .i64 0] HM rfl ?_; clear HM; intro gb931 w5 HM) | ((with_reducible refine gS 4 rfl ?_); refine pS 0 4 0 [.string ((rd_T122 l0 x7_1).f0), .string ((rd_T122 l0 x7_1).f1), .int .i64 ((rd_T122 l0 x7_1).f2)] HM rfl rfl ?_; clear HM; intro w6 HM; obtain ⟨_,_,_,_,_,_⟩ := bk3 (HM.bx 0 rfl)) | ((with_reducible refine gC 127 rfl ?_); refine pC (some 13) rfl #[.agg #[.string ((rd_T122 l0 x7_1).f0), .string ((rd_T122 l0 x7_1).f1), .int .i64 ((rd_T122 l0 x7_1).f2)]] rfl Try.func127 (impl_ItemOk.calls k1 ((rd_T122 l0 x7_1).f0) ((rd_T122 l0 x7_1).f1) ((rd_T122 l0 x7_1).f2) true _ A8.out) ?_; rintro e w9 ⟨rfl, hR⟩; refine ⟨_, rfl, ?_⟩; replace HM := HM.call hR; clear hR; obtain ⟨_,_,_,_,_,_⟩ := bk3 (HM.bx 0 rfl)) | ((with_reducible refine gC 172 rfl ?_); refine pC (some 19) rfl #[.slice (some ad930) l0.length c0, .string ((rd_T122 l0 x7_1).f0)] rfl Try.func172 (impl_itemAt.calls (some ad930) c0 l0 ((rd_T122 l0 x7_1).f0) t933 _ (HM.came HR0.out) HC0.out A12.out) ?_; rintro e w13 ⟨rfl, hb⟩; refine ⟨_, rfl, ?_⟩; replace HM := HM.below hb; clear hb))
     replace HM := nzM HM
     replace H := IT H; rcases H with ⟨c14, H⟩ | ⟨c14, H⟩
     ·obtain ⟨c14b0, c14b1⟩ := BE c14
      clear c14
      first|rw [c14b0]|(simp only [i64_w, i32_w]; rw [c14b0])|skip
      have H' := Aside0.mk H
      clear H
      go_wp2
      go_roundg k1
      case measure => have := HK1.out; omega
      case rel => exact ⟨(wrap64 (x7_1 + 1)), RS, H', ⟨by have := HK1.out; omega⟩, (MD HM).pick []⟩
     ·obtain ⟨c14b0, c14b1⟩ := BF c14
      first|rw [c14b0]|(simp only [i64_w, i32_w]; rw [c14b0])|skip
      obtain rfl := Option.some.inj H
      go_wp2
      go_ret
      exact ⟨ER, (MD HM).pick []⟩
    ·subst c10
     obtain rfl := Option.some.inj H
     have p930 : 0 ≤ (x7_1 : Int) := of_decide_eq_true AS
     have q930 : (x7_1 : Int) < (l0.length : Int) := of_decide_eq_true AS
     obtain ⟨ad930, e930, hx930_0, hx930_1, hx930_2⟩ := at_T122 (HM.came HR0.out) x7_1 p930 q930
     cases e930
     replace p930 := eq_true p930
     replace q930 := eq_true q930
     go_wp2_with (first | ((with_reducible refine gN 4 rfl ?_); refine pB 4 122 [.string (⟨#[]⟩ : ByteArray), .string (⟨#[]⟩ : ByteArray), .int .i64 0] HM rfl ?_; clear HM; intro gb931 w5 HM) | ((with_reducible refine gS 4 rfl ?_); refine pS 0 4 0 [.string ((rd_T122 l0 x7_1).f0), .string ((rd_T122 l0 x7_1).f1), .int .i64 ((rd_T122 l0 x7_1).f2)] HM rfl rfl ?_; clear HM; intro w6 HM; obtain ⟨_,_,_,_,_,_⟩ := bk3 (HM.bx 0 rfl)) | ((with_reducible refine gC 127 rfl ?_); refine pC (some 13) rfl #[.agg #[.string ((rd_T122 l0 x7_1).f0), .string ((rd_T122 l0 x7_1).f1), .int .i64 ((rd_T122 l0 x7_1).f2)]] rfl Try.func127 (impl_ItemOk.calls k1 ((rd_T122 l0 x7_1).f0) ((rd_T122 l0 x7_1).f1) ((rd_T122 l0 x7_1).f2) false _ A8.out) ?_; rintro e w9 ⟨rfl, hR⟩; refine ⟨_, rfl, ?_⟩; replace HM := HM.call hR; clear hR))
     go_ret
     exact ⟨ER, (MD HM).pick []⟩
   ·have c2b0 := decide_eq_false c2
    clear c2
    first|rw [c2b0]|(simp only [i64_w, i32_w]; rw [c2b0])|skip
    obtain rfl := Option.some.inj H
    go_wp2
    go_ret
    exact ⟨ER, (MD HM).pick []⟩
end Go.Proofs.Ythnedklbobbkcaa.G
